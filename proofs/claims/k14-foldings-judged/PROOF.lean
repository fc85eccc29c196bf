import PyProof.Rows.All
import Wide.All
import OpenK.AllK
import Wide.FinOn
import KE.SortData
import KE.LtSeq
import KE.LtData
import PyProof.ReprReads
import HandS.ForMost
import HandS.ForExc
import HandS.Wide
import HandS.TupAny
import HandS.Deep
import HandS.List
import PyProof.RowDictHeap
import PyProof.ReprRoads
import HandS.Call
import PyProof.WalksMore
import PyProof.WalkInts
import HandS.TupMul
import KE.DataCmp
import HandS.Style
import HandS.Text
import HandS.More
import HandS.ListItems
import PyProof.CallFns
import HandS.SetFor
import HandS.Star
import HandS.Conv
import HandS.Walk
import HandS.Iter
import HandS.Zip
import KE.GoesNew
import HandS.IsInst
import HandS.SetTxt0
import HandS.Words
import HandS.Ends
import PyProof.StrLawsRepr
import HandS.ForSpec
import PySem.Challenge.RW_agreetwo_k14_foldings_judged
set_option Elab.async false
set_option linter.all false
set_option autoImplicit false
set_option maxRecDepth 100000
namespace Dv
open PySem PySem.W PySem.Calls PyProof.Rows PySem.SeqAt
section
variable {s : Shared} {E : Value → Shared → Prop} {A : Around} {w : World} {P : Program}
/-- a tuple that reads as xs, with the list of its values -/
def TupAt (h : Heap) (v : Value) (l : Addr) (items : Array Value) (xs : List PyData) (qs : List Addr) : Prop := v = .ref l ∧ (∃ o n, h.get? l = some o ∧ o.cls = .type "tuple" ∧ o.data = .seq items n) ∧ ReadsAll h items.toList xs qs ∧ items.size = xs.length
theorem tup_at {h : Heap} {v : Value} {xs : List PyData} {qs : List Addr} (r : Reads h v (.tuple xs) qs) : ∃ l items, TupAt h v l items xs qs := by
  cases r with
  | tuple g1 g2 g3 g4 => exact ⟨_, _, rfl, ⟨_, _, g1, g2, g3⟩, g4, by simpa using ReadsAll.length _ _ _ g4⟩
/-- a tuple's own __lt__, of data -/
theorem own_lt {xs ys : List PyData} {a b : Value} {qs rs : List Addr} {Q : Value → Shared → Prop} (ra : Reads s.heap a (.tuple xs) qs) (rb : Reads s.heap b (.tuple ys) rs) (al : alikeAll xs ys = true)
    (room : A.units + min (PyData.tuple xs).depth (PyData.tuple ys).depth < cLine) (q : Q (.bool (dataLt (.tuple xs) (.tuple ys))) s) : wpAny (model P w) A (call (.builtin "tuple.__lt__") [a, b]) Q E s := by
  obtain ⟨l, us, rfl, ⟨⟨c1, d1, t1, k1⟩, n1, g1, g2, g3⟩, u1, z1⟩ := tup_at ra
  obtain ⟨m, vs, rfl, ⟨⟨c2, d2, t2, k2⟩, n2, f1, f2, f3⟩, u2, z2⟩ := tup_at rb
  simp only at g2 g3 f2 f3
  subst g2 g3 f2 f3
  rw [dataLt_tuple, ← firstLt_toks xs ys al, ← z1, ← z2] at q
  refine call_meets F.slot_tuple_lt ⟨_, g1, rfl⟩ F.entry_tuple_lt (F.args_tuple_lt_2 _ _) (tuple_ltAt l m us vs n1 n2 d1 d2 k1 k2 (pairEq xs ys) fun j => dataLt (xs.getD j .none) (ys.getD j .none)) ⟨g1, f1, fun j p1 p2 => ?_, fun j p1 p2 ne => ?_, q⟩
  · have e1 := eqAt_alikeAll xs ys A.in1 s us.toList vs.toList _ _ u1 u2 al (room_in room) j (by simpa using p1) (by simpa using p2)
    simpa using e1
  · have e1 := rcLt_alikeAll xs ys A.in1 s us.toList vs.toList _ _ u1 u2 al (room_in room) j (by simpa using p1) (by simpa using p2) ne
    simpa using e1
theorem one_tup {xs ys : List PyData} {a b : Value} {qs rs : List Addr} {Q : Bool → Shared → Prop} (ra : Reads s.heap a (.tuple xs) qs) (rb : Reads s.heap b (.tuple ys) rs) (al : alikeAll xs ys = true)
    (room : A.units + min (PyData.tuple xs).depth (PyData.tuple ys).depth < cLine) (q : Q (dataLt (.tuple xs) (.tuple ys)) s) : wpAny (model P w) A (oneLt' true a b) Q E s := by
  obtain ⟨l, us, e, ⟨o, n, g1, g2, g3⟩, u1, z1⟩ := tup_at ra
  subst e
  rw [oneLt'_eq]
  simp only [if_true]
  exact wpAny_bind (wpAny_cRoomFor (room_here room) (wpAny_bind (wpAny_callSpecialIfBound?_slot (T := "tuple") ⟨_, g1, g2⟩ F.slot_tuple_lt (own_lt ra rb al room (wpAny_truthy_bool q)))))
end
def fullT : PyData → Bool
  | .tuple (_ :: _) => true
  | _ => false
def isTupD : PyData → Bool
  | .tuple _ => true
  | _ => false
section
variable {s : Shared} {M : Model} {E : Value → Shared → Prop} {A : Around}
theorem first_tup {v : Value} {d : PyData} {as : List Addr} {Q : Option Value → Shared → Prop} (r : Reads s.heap v d as) (ht : isTupD d = true) (h : ∀ f : Option Value, f.isSome = fullT d → Q f s) : wpAny M A (firstOfTuple' v) Q E s := by
  cases r with
  | @tuple l o xs n ds _ ho hc hd hr =>
    rw [kas_first_eq]
    refine wpAny_bind (Looks.here (show Looks M s.heap (typeOf (.ref l)) o.cls from (Looks.ld ho).andThen .now) ?_)
    (rw [hc, if_neg (by first | decide | simp)])
    refine wpAny_bind (listItems_at ho hd (wpAny_pure (h _ ?_)))
    cases ds with
    | nil =>
      have : xs.size = 0 := by simpa using ReadsAll.length _ _ _ hr
      rw [getElem?_neg xs 0 (by omega)]
      rfl
    | cons d ds =>
      have : xs.size = (d :: ds).length := by simpa using ReadsAll.length _ _ _ hr
      have : 0 < xs.size := by rw [this]; exact Nat.succ_pos _
      rw [getElem?_pos xs 0 this]
      rfl
  | _ => cases ht
theorem firsts_tup : ∀ {vs : List Value} {ds : List PyData} {Q : List (Option Value) → Shared → Prop}, EachIs (fun v d => ∃ as, Reads s.heap v d as) vs ds → (∀ d ∈ ds, isTupD d = true) →
    (∀ fs : List (Option Value), fs.map (·.isSome) = ds.map fullT → Q fs s) → wpAny M A (vs.mapM firstOfTuple') Q E s
  | _, _, Q, .nil, _, h => by
    rw [List.mapM_nil]
    exact wpAny_pure (h [] rfl)
  | _, _, Q, .cons (a := v) (as := vs) (b := d) (bs := ds) ⟨as, r⟩ t, ht, h => by
    rw [List.mapM_cons]
    refine wpAny_bind (first_tup r (ht d (List.mem_cons_self ..)) fun f hf => wpAny_bind ?_)
    exact firsts_tup t (fun d hd => ht d (List.mem_cons_of_mem _ hd)) fun fs hfs => wpAny_pure (h (f :: fs) (by rw [List.map_cons, List.map_cons, hf, hfs]))
theorem types_tup : ∀ {vs : List Value} {ds : List PyData} {Q : List Value → Shared → Prop}, EachIs (fun v d => ∃ as, Reads s.heap v d as) vs ds → (∀ d ∈ ds, isTupD d = true) → Q (vs.map fun _ => Value.type "tuple") s → wpAny M A (vs.mapM typeOf) Q E s
  | _, _, Q, .nil, _, h => by
    rw [List.mapM_nil]
    exact wpAny_pure h
  | _, _, Q, .cons (a := v) (as := vs) (b := d) (bs := ds) ⟨as, r⟩ t, ht, h => by
    rw [List.mapM_cons]
    have e : dataType d = Value.type "tuple" := by
      have := ht d (List.mem_cons_self ..)
      cases d <;> first | rfl | cases this
    have l := looks_reads (M := M) r
    rw [e] at l
    refine wpAny_bind (l.here (wpAny_bind ?_))
    exact types_tup t (fun d hd => ht d (List.mem_cons_of_mem _ hd)) (wpAny_pure h)
/-- the way of comparing, an empty tuple being there -/
theorem kind_tup {vs : List Value} {ds : List PyData} {Q : SortKind → Shared → Prop} (e : EachIs (fun v d => ∃ as, Reads s.heap v d as) vs ds) (ht : ∀ d ∈ ds, isTupD d = true) (hne : ds.all fullT = false)
    (h : Q (if (ds.head?.map fullT).getD false then general' else oneType') s) : wpAny M A (keyKind' vs.toArray) Q E s := by
  (rw [keyKind'_eq, List.mapM_toArray, map_eq_pure_bind])
  refine wpAny_bind (wpAny_bind (firsts_tup e ht fun fs hfs => wpAny_pure ?_))
  have e1 : (fs.toArray.all fun x => x.isSome) = false := by
    rw [List.all_toArray]
    have : fs.all (fun x => x.isSome) = (fs.map (·.isSome)).all id := by rw [List.all_map]; rfl
    rw [this, hfs, List.all_map]
    exact hne
  rw [if_neg (by rw [e1]; exact Bool.false_ne_true)]
  have e2 : (fs.toArray[0]?.bind id).isSome = (ds.head?.map fullT).getD false := by
    rw [List.getElem?_toArray]
    cases ds with
    | nil => exact absurd hne (by simp)
    | cons d ds =>
      cases fs with
      | nil => cases hfs
      | cons f fs =>
        rw [List.map_cons, List.map_cons] at hfs
        have := (List.cons.inj hfs).1
        show (Option.bind (some f) id).isSome = _
        show f.isSome = _
        rw [this] <;> rfl
  cases c : (ds.head?.map fullT).getD false with
  | true =>
    rw [c] at h e2
    rw [if_pos e2]
    exact wpAny_pure h
  | false =>
    rw [c] at h e2
    rw [if_neg (by rw [e2]; exact Bool.false_ne_true)]
    (rw [oneTypeOnly'_eq, List.mapM_toArray, map_eq_pure_bind])
    refine wpAny_bind (wpAny_bind (wpAny_bind (types_tup e ht (wpAny_pure ?_))))
    cases vs with
    | nil =>
      cases e
      exact absurd hne (by simp)
    | cons v vs =>
      have h0 : (List.map (fun _ => Value.type "tuple") (v :: vs)).toArray[0]? = some (Value.type "tuple") := by simp
      have hall : ((List.map (fun _ => Value.type "tuple") (v :: vs)).toArray.all fun x => x == Value.type "tuple") = true := by
        (simp only [List.all_toArray, List.all_map, List.all_eq_true])
        intro _ _
        exact beq_self_eq_true (Value.type "tuple")
      rw [h0]
      simp only [hall, if_true]
      (exact wpAny_pure (wpAny_pure h))
end
section
variable {s : Shared} {A : Around} {prog : Program} {w : World}
theorem gen_lt (x y : Value) : keyLt' general' x y = oneLt' false x y := rfl
theorem sorts_tup {vs : List Value} {ds : List PyData} (e : EachIs (fun v d => ∃ as, Reads s.heap v d as) vs ds) (hal : AllAlike ds) (ht : ∀ d ∈ ds, isTupD d = true) (hu : ∀ d, d ∈ ds → A.units + d.depth < cLine) : SortsAt prog w A s (dataKind s.heap ds) vs := by
  cases hne : ds.all fullT with
  | true =>
    refine SortsAt.data e hal (.inl fun d hd => ?_) hu
    have := List.all_eq_true.mp hne d hd
    cases d with
    | tuple xs =>
      cases xs with
      | nil => cases this
      | cons x r => (exact ⟨x, r, rfl⟩)
    | _ => cases this
  | false =>
    (have room : ∀ {d d' : PyData}, d ∈ ds → A.units + min d.depth d'.depth < cLine := fun {d d'} hd => Nat.lt_of_le_of_lt (Nat.add_le_add_left (Nat.min_le_left _ _) _) (hu d hd))
    have tup : ∀ {d : PyData}, d ∈ ds → ∃ xs, d = .tuple xs := fun {d} hd => by
      have := ht d hd
      cases d <;> first | exact ⟨_, rfl⟩ | cases this
    refine ⟨fun v hv => ?_, if (ds.head?.map fullT).getD false then general' else oneType', ?_, fun h2 E Q hq => kind_tup e ht hne hq⟩
    · (obtain ⟨d, hd, as, r⟩ := e.left v hv)
      (exact ⟨_, dataKind_some hal hd r⟩)
    · intro E x y a b Q ha hb hq
      (obtain ⟨d, as, hd, ra, rfl⟩ := dataKind_inv ha)
      (obtain ⟨d', as', hd', rb, rfl⟩ := dataKind_inv hb)
      have hdd := hal d hd d' hd'
      (have hroom := room (d' := d') hd)
      obtain ⟨xs, rfl⟩ := tup hd
      obtain ⟨ys, rfl⟩ := tup hd'
      cases (ds.head?.map fullT).getD false with
      | true =>
        show wpAny _ _ (keyLt' general' x y) _ _ _
        rw [gen_lt]
        exact oneLt_alike (f := false) (fun z => by cases z) ra rb hdd (fun z => by cases z) hroom hq
      | false =>
        show wpAny _ _ (keyLt' oneType' x y) _ _ _
        rw [keyLt'_oneType]
        exact one_tup ra rb (by simpa [alike] using hdd) hroom hq
end
section
variable {β : Type} {s : Shared} {w : World} {P : Program} {A : Around} {E : Value → Shared → Prop}
def KeepH (h h' : Heap) : Prop := ∀ b u, h.get? b = some u → h'.get? b = some u
/-- sorted(xs) of a list or a tuple -/
theorem sorted_seq {p : Addr} {T : String} {o : Obj} {n : Nat} {us : List Value} {bs : List β} {enc : β → PyData} {R : Value → β → Prop} {Q : Value → Shared → Prop} (hT : T = "list" ∨ T = "tuple") (at_p : s.heap.get? p = some o) (cls_p : o.cls = .type T) (dat_p : o.data = .seq us.toArray n)
    (each : EachIs R us bs) (reads : EachIs (fun u b => ∃ qs, Reads s.heap u (enc b) qs) us bs) (al : AllAlike (bs.map enc)) (kinds : (∀ d ∈ bs.map enc, isTupD d = true) ∨ Sortable (bs.map enc)) (small : bs.length ≤ sizeLine) (deep : ∀ b ∈ bs, A.units + 2 + (enc b).depth < cLine)
    (fin : ∀ (h1 h' : Heap) (ws : List Value) (c : Nat), KeepH s.heap h1 → KeepH h1 h' → h'.get? h1.objs.size = some (seqObj "list" ws.toArray c) → ws.length = bs.length → EachIs R ws (bs.mergeSort (dataLe false enc)) → Q (.ref h1.objs.size) { s with heap := h' }) :
    wpAny (model P w) A (call (.builtin "sorted") [.ref p]) Q E s := by
  have len : us.length = bs.length := each.length
  (refine Calls.call_function_entry kind_sorted plain_sorted entry_sorted (args_sorted1 _) ?_)
  unfold Builtin.«sorted»
  (refine wpAny_bind (m := checkCount "sorted" 1 1 _) (wpAny_pure ?_))
  refine wpAny_bind (wpAny_collect_seq p hT at_p cls_p dat_p (fun h1 keep => ?_) (by rw [List.size_toArray, len]; exact small))
  rw [List.toList_toArray]
  refine wpAny_bind (wpAny_newList ?_ (by rw [len]; exact small))
  have here : (h1.push (seqObj "list" us.toArray 0)).get? h1.objs.size = some (seqObj "list" us.toArray 0) := Heap.get?_push_size _ rfl
  let h2 := sortingHeap (h1.push (seqObj "list" us.toArray 0)) h1.objs.size us
  have k2 : ∀ b u, s.heap.get? b = some u → h2.get? b = some u := fun b u e => sortingHeap_old (Nat.ne_of_lt (Heap.lt_size (keep b u e))) (Heap.get?_push_of_some _ (keep b u e))
  have r2 : EachIs (fun u b => ∃ qs, Reads h2 u (enc b) qs) us bs := reads.mono fun _ _ ⟨qs, r⟩ => ⟨qs, PyProof.Rows.Reads.keeps k2 r⟩
  have e2 := each_map (R := fun u d => ∃ qs, Reads h2 u d qs) enc r2
  have so : SortsAt P w A.in1.in1 { s with heap := h2 } (dataKind h2 (bs.map enc)) us := by
    rcases kinds with k | k
    · exact sorts_tup (s := { s with heap := h2 }) e2 al k (bound_map deep)
    · exact SortsAt.data (s := { s with heap := h2 }) e2 al k (bound_map deep)
  refine wpAny_bind (wpAny_holding (wpAny_call_entry slot_list_sort ⟨_, here, rfl⟩ entry_list_sort (list_sort_vals (s := { s with heap := h1.push (seqObj "list" us.toArray 0) }) here so (by rw [len]; exact small) ⟨_, rfl, ?_⟩) (args_list_sort _)))
  obtain ⟨c, hc⟩ := sortedHeap_at (vs := us) (out := (sortVals (dataKind h2 (bs.map enc)) false us us).toArray) here
  refine wpAny_pure ⟨_, rfl, fin h1 _ _ c keep (fun b u e => ?_) hc (by rw [sortVals_length false rfl, len]) (sortVals_data false each r2 al)⟩
  have lt := Heap.lt_size e
  rw [sortedHeap_old (Nat.ne_of_lt lt) (by rw [size_push']; exact Nat.lt_succ_of_lt lt)]
  (exact Heap.get?_push_of_some _ e)
end
end Dv
namespace Dv
open PySem (Str)
/-- values: tuples, and lists, dicts, instances that nobody changes any more, by what they hold; obj n: what may yet be changed, by its place in the store -/
inductive D where
  | non | bl (b : Bool) | int (i : Int) | str (x : Str)
  | tup (xs : List D) | lst (xs : List D) | dct (kvs : List (D × D)) | ins (c : Nat) (fs : List (Str × D))
  | obj (n : Nat)
  | scr (ns : List Int)
  deriving Inhabited
inductive O where
  | lst (xs : List D) | dct (kvs : List (D × D)) | ins (c : Nat) (fs : List (Str × D))
  deriving Inhabited
/-- the youngest first; an object's number counts from the oldest -/
abbrev Sto := List O
def Sto.get (st : Sto) (n : Nat) : Option O := if n < st.length then st[st.length - 1 - n]? else none
def Sto.put (st : Sto) (n : Nat) (o : O) : Sto := st.set (st.length - 1 - n) o
inductive Res (α : Type) where
  | ok (a : α) (st : Sto)
  | exc (c : Nat) (fs : List (Str × D)) (st : Sto)
  | bad
def Res.bind {α β : Type} (r : Res α) (f : α → Sto → Res β) : Res β :=
  match r with
  | .ok a st => f a st
  | .exc c fs st => .exc c fs st
  | .bad => .bad
/-- where no exception may leave -/
def Res.noexc {α : Type} (r : Res α) : Res α :=
  match r with
  | .ok a st => .ok a st
  | _ => .bad
def ofO {α : Type} (x : Option α) (st : Sto) : Res α :=
  match x with
  | some a => .ok a st
  | none => .bad
abbrev Env := List (Option D)
mutual
def eqD : D → D → Bool
  | .non, .non => true
  | .bl a, .bl b => a == b
  | .bl a, .int j => (if a then 1 else 0) == j
  | .int i, .bl b => i == (if b then 1 else 0)
  | .int i, .int j => i == j
  | .str x, .str y => x == y
  | .lst xs, .lst ys => eqDs xs ys
  | .tup xs, .tup ys => eqDs xs ys
  | _, _ => false
def eqDs : List D → List D → Bool
  | [], [] => true
  | x :: xs, y :: ys => eqD x y && eqDs xs ys
  | _, _ => false
end
/-- below: for two ints, two texts, two tuples or lists of such; none: not told -/
def ltS (x y : Str) : Bool := decide (x.cps.toList < y.cps.toList)
mutual
def ltD : D → D → Option Bool
  | .int i, .int j => some (decide (i < j))
  | .str x, .str y => some (ltS x y)
  | .tup xs, .tup ys => ltDs xs ys
  | .lst xs, .lst ys => ltDs xs ys
  | _, _ => none
def ltDs : List D → List D → Option Bool
  | [], [] => some false
  | [], _ :: _ => some true
  | _ :: _, [] => some false
  | x :: xs, y :: ys => if eqD x y then ltDs xs ys else ltD x y
end
mutual
def same : D → D → Bool
  | .non, .non => true
  | .bl a, .bl b => a == b
  | .int i, .int j => i == j
  | .str x, .str y => x == y
  | .tup xs, .tup ys => sames xs ys
  | .lst xs, .lst ys => sames xs ys
  | .dct xs, .dct ys => samek xs ys
  | .ins c xs, .ins d ys => c == d && samef xs ys
  | .obj n, .obj m => n == m
  | .scr a, .scr b => a == b
  | _, _ => false
def sames : List D → List D → Bool
  | [], [] => true
  | x :: xs, y :: ys => same x y && sames xs ys
  | _, _ => false
def samek : List (D × D) → List (D × D) → Bool
  | [], [] => true
  | (k, v) :: xs, (l, w) :: ys => same k l && same v w && samek xs ys
  | _, _ => false
def samef : List (Str × D) → List (Str × D) → Bool
  | [], [] => true
  | (k, v) :: xs, (l, w) :: ys => k == l && same v w && samef xs ys
  | _, _ => false
end
mutual
def below (lo : Nat) : D → Bool
  | .tup xs => belows lo xs
  | .lst xs => belows lo xs
  | .dct xs => belowk lo xs
  | .ins _ xs => belowf lo xs
  | .obj n => decide (n < lo)
  | _ => true
def belows (lo : Nat) : List D → Bool
  | [] => true
  | x :: xs => below lo x && belows lo xs
def belowk (lo : Nat) : List (D × D) → Bool
  | [] => true
  | (k, v) :: xs => below lo k && below lo v && belowk lo xs
def belowf (lo : Nat) : List (Str × D) → Bool
  | [] => true
  | (_, v) :: xs => below lo v && belowf lo xs
end
/-- objects from lo on are told by what they hold; a value of at most so many levels -/
def deep (st : Sto) (lo : Nat) : Nat → D → Option D
  | 0, _ => none
  | n + 1, d =>
    match d with
    | .tup xs => (xs.mapM (deep st lo n)).map .tup
    | .lst xs => (xs.mapM (deep st lo n)).map .lst
    | .dct kvs => (kvs.mapM fun p => (deep st lo n p.1).bind fun k => (deep st lo n p.2).map fun v => (k, v)).map .dct
    | .ins c fs => (fs.mapM fun p => (deep st lo n p.2).map fun v => (p.1, v)).map (.ins c)
    | .obj k =>
      if k < lo then some (.obj k) else
      match st.get k with
      | some (.lst xs) => (xs.mapM (deep st lo n)).map .lst
      | some (.dct kvs) => (kvs.mapM fun p => (deep st lo n p.1).bind fun k => (deep st lo n p.2).map fun v => (k, v)).map .dct
      | some (.ins c fs) => (fs.mapM fun p => (deep st lo n p.2).map fun v => (p.1, v)).map (.ins c)
      | none => none
    | d => some d
abbrev levels : Nat := 40
mutual
def plain : D → Bool
  | .tup xs => plains xs
  | .lst xs => plains xs
  | .dct _ => false
  | .ins _ _ => false
  | .obj _ => false
  | .scr _ => false
  | _ => true
def plains : List D → Bool
  | [] => true
  | x :: xs => plain x && plains xs
end
def data (st : Sto) (d : D) : Option D := (deep st 0 levels d).bind fun e => if plain e then some e else none
end Dv
namespace Dv
open PySem (Str)
inductive Op2 where | add | sub | mul | fdiv | mod | pow
  deriving DecidableEq
inductive Cmp where | eq | ne | lt | le | gt | ge | inn | nin | is | isn
  deriving DecidableEq
inductive Ty where | int | bool | str | tup | lst | dct | cls (c : Nat)
  deriving DecidableEq
/-- built-in functions and types, by what they are called with -/
inductive Blt where | len | abs | int | repr | str | sorted | sset | lset | tuple | list | dict | all | any | sum | min | max | gcd
  deriving DecidableEq
inductive Mth where | append | pop | popAt | remove | extend | index | get | setd | join
  deriving DecidableEq
inductive Tgt where | nm (i : Nat) | tp (ts : List Tgt)
mutual
inductive Ex where
  | var (i : Nat)
  | non | bl (b : Bool) | int (i : Int) | str (x : Str)
  | glb (k : Nat)
  | tup (es : List Ex)
  | star (e : Ex)
  | op (o : Op2) (a b : Ex)
  | neg (a : Ex) | not (a : Ex)
  | and (a b : Ex) | or (a b : Ex)
  | ite (c a b : Ex)
  | cmp (o : Cmp) (a b : Ex)
  | chain (o o' : Cmp) (a b c : Ex)
  | idx (a b : Ex)
  | slc (a : Ex) (lo hi : Option Ex)
  | rev (a : Ex)
  | call (f : Nat) (es : List Ex)
  | callz (f : Nat) (es : List Ex)
  | blt (b : Blt) (es : List Ex)
  | isi (a : Ex) (tys : List Ty)
  | mth (m : Mth) (o : Ex) (es : List Ex)
  | frl (l : Lx)
  | own (l : Lx)
  | frd (d : Dx)
  | ownd (d : Dx)
  -- what a loop walks
  | rng (es : List Ex)
  | enum (e : Ex)
  | zip (es : List Ex)
  | items (e : Ex) | values (e : Ex) | keys (e : Ex)
  | revd (e : Ex)
  | itv (e : Ex)
  | tupR (a : Ex)
inductive Lx where
  | disp (es : List Ex)
  | lstR (a : Ex)
  | comp (own : List Nat) (tg : Tgt) (it : Ex) (cs : List Ex) (e : Ex)
  | comp2 (own : List Nat) (tg : Tgt) (it : Ex) (cs : List Ex) (tg2 : Tgt) (it2 : Ex) (cs2 : List Ex) (e : Ex)
  | bltl (b : Blt) (es : List Ex)
  | add (a b : Ex)
  | rev (a : Ex)
inductive Dx where
  | disp (kvs : List Ex)
  | comp (own : List Nat) (tg : Tgt) (it : Ex) (cs : List Ex) (k e : Ex)
  | val (e : Ex)
end
inductive Sx where
  | set (i : Nat) (e : Ex)
  | mov (i j : Nat)
  | tset (t : Tgt) (e : Ex)
  | par (is : List Nat) (es : List Ex)
  | isub (o i e : Ex)
  | aug (i : Nat) (o : Op2) (e : Ex)
  | expr (e : Ex)
  | ret (e : Ex)
  | retN
  | ite (c : Ex) (a b : List Sx)
  | whl (c : Ex) (b : List Sx)
  | for_ (t : Tgt) (it : Ex) (b : List Sx)
  | brk | cont | pass
  | unk
abbrev LIM : Nat := 16777216
/-- what a list (or a tuple) holds -/
def seqOf (st : Sto) : D → Option (List D)
  | .scr ns => some (ns.map .int)
  | .tup xs => some xs
  | .lst xs => some xs
  | .obj n => match st.get n with
    | some (.lst xs) => some xs
    | _ => none
  | _ => none
def lstOf (st : Sto) : D → Option (List D)
  | .lst xs => some xs
  | .obj n => match st.get n with
    | some (.lst xs) => some xs
    | _ => none
  | _ => none
def dctOf (st : Sto) : D → Option (List (D × D))
  | .dct xs => some xs
  | .obj n => match st.get n with
    | some (.dct xs) => some xs
    | _ => none
  | _ => none
def signs (x : Str) : List D := x.cps.toList.map fun c => .str ⟨#[c]⟩
/-- an index from either end -/
def place (len : Nat) (i : Int) : Option Nat :=
  if 0 ≤ i then (if i < len then some i.toNat else none)
  else if 0 ≤ i + len then some (i + len).toNat else none
/-- an end of a slice -/
def cutAt (len : Nat) (i : Int) : Nat := if i < 0 then (i + len).toNat else min i.toNat len
def cutL {α : Type} (xs : List α) (lo hi : Option Int) : List α :=
  let a := match lo with | none => 0 | some i => cutAt xs.length i
  let b := match hi with | none => xs.length | some i => cutAt xs.length i
  (xs.drop a).take (b - a)
/-- // and % -/
def fd (i j : Int) : Int := if 0 < j then i / j else i.fdiv j
def fm (i j : Int) : Int := if 0 < j then i % j else i.fmod j
def keyOk : D → Bool
  | .int _ => true
  | .str _ => true
  | _ => false
def kGet (kvs : List (D × D)) (k : D) : Option D := (kvs.find? fun p => eqD p.1 k).map (·.2)
def kPut (kvs : List (D × D)) (k v : D) : List (D × D) :=
  if kvs.any fun p => eqD p.1 k then kvs.map fun p => if eqD p.1 k then (p.1, v) else p else kvs ++ [(k, v)]
def op2 (o : Op2) (a b : D) (st : Sto) : Res D :=
  match o, a, b with
  | .add, .int i, .int j => .ok (.int (i + j)) st
  | .sub, .int i, .int j => .ok (.int (i - j)) st
  | .mul, .int i, .int j => if (i.natAbs < 18446744073709551616 ∨ j.natAbs < 18446744073709551616) ∨ i.natAbs.log2 + j.natAbs.log2 < 1000000 then .ok (.int (i * j)) st else .bad
  | .fdiv, .int i, .int j => if j ≠ 0 ∧ j.natAbs.log2 < 9000 then .ok (.int (fd i j)) st else .bad
  | .mod, .int i, .int j => if j ≠ 0 then .ok (.int (fm i j)) st else .bad
  | .pow, .int i, .int j => if 0 ≤ j ∧ j ≤ 1000000 ∧ i.natAbs < 18446744073709551616 then .ok (.int (i ^ j.toNat)) st else .bad
  | .add, .str x, .str y => if x.length + y.length ≤ LIM then .ok (.str (x ++ y)) st else .bad
  | .add, .tup xs, .tup ys => if xs.length + ys.length ≤ LIM then .ok (.tup (xs ++ ys)) st else .bad
  | .mul, .tup xs, .int k => if xs.isEmpty = false ∧ 2 ≤ k ∧ k ≤ 1000 ∧ xs.length ≤ 1000 then .ok (.tup (List.replicate k.toNat xs).flatten) st else .bad
  | .add, a, b => match lstOf st a, lstOf st b with
    | some xs, some ys => if xs.length + ys.length ≤ LIM then .ok (.lst (xs ++ ys)) st else .bad
    | _, _ => .bad
  | .mul, a, .int k => match lstOf st a with
    | some xs => if k.natAbs ≤ LIM ∧ xs.length * k.toNat ≤ LIM then .ok (.lst (List.replicate k.toNat xs).flatten) st else .bad
    | _ => .bad
  | _, _, _ => .bad
/-- one sign in a text -/
def inStr (x y : Str) : Option Bool :=
  match x.cps.toList with
  | [c] => some (y.cps.toList.contains c)
  | _ => none
mutual
def py : D → PySem.PyData
  | .bl b => .bool b
  | .int i => .int i
  | .str x => .str x
  | .tup xs => .tuple (pys xs)
  | .lst xs => .list (pys xs)
  | _ => .none
def pys : List D → List PySem.PyData
  | [] => []
  | x :: xs => py x :: pys xs
end
mutual
def clD : D → Bool
  | .tup xs => clDs xs
  | .dct kvs => clDk kvs
  | .lst _ => false
  | .ins _ _ => false
  | .obj _ => false
  | .scr _ => false
  | _ => true
def clDs : List D → Bool
  | [] => true
  | x :: xs => clD x && clDs xs
def clDk : List (D × D) → Bool
  | [] => true
  | (k, v) :: xs => clD k && clD v && clDk xs
end
mutual
def pyD : D → PySem.PyData
  | .bl b => .bool b
  | .int i => .int i
  | .str x => .str x
  | .tup xs => .tuple (pyDs xs)
  | .dct kvs => .dict (pyDk kvs)
  | _ => .none
def pyDs : List D → List PySem.PyData
  | [] => []
  | x :: xs => pyD x :: pyDs xs
def pyDk : List (D × D) → List (PySem.PyData × PySem.PyData)
  | [] => []
  | (k, v) :: xs => (pyD k, pyD v) :: pyDk xs
end
def rep1 (d : D) (st : Sto) : Res D :=
  if clD d && (pyD d).showable && PySem.PyData.strOk (pyD d).shown && decide ((pyD d).shown.length ≤ LIM) && decide ((pyD d).depth ≤ 40) then .ok (.str (pyD d).shown) st else .bad
def repD (d : D) (st : Sto) : Res D := match d with
  | .obj n => match st.get n with
    | some (.dct kvs) => rep1 (.dct kvs) st
    | _ => .bad
  | d => rep1 d st
mutual
def kin : D → D → Bool
  | .int _, .int _ => true
  | .str _, .str _ => true
  | .tup xs, .tup ys => kins xs ys
  | .lst xs, .lst ys => kins xs ys
  | _, _ => false
def kins : List D → List D → Bool
  | x :: xs, y :: ys => kin x y && kins xs ys
  | [], _ => true
  | _ :: _, [] => true
end
def isNon : D → Bool
  | .non => true
  | _ => false
def cmp2 (o : Cmp) (a b : D) (st : Sto) : Option Bool :=
  match o with
  | .eq => (data st a).bind fun x => (data st b).map fun y => eqD x y
  | .ne => (data st a).bind fun x => (data st b).map fun y => !eqD x y
  | .lt => (data st a).bind fun x => (data st b).bind fun y => if kin x y then ltD x y else none
  | .gt => (data st a).bind fun x => (data st b).bind fun y => if kin x y then ltD y x else none
  | .le => (data st a).bind fun x => (data st b).bind fun y => if kin x y then (ltD y x).map (!·) else none
  | .ge => (data st a).bind fun x => (data st b).bind fun y => if kin x y then (ltD x y).map (!·) else none
  | .inn | .nin =>
    let r : Option Bool := match a, b with
      | .str x, .str y => inStr x y
      | a, b => match dctOf st b with
        | some kvs => if keyOk a then some (kGet kvs a).isSome else none
        | none => (data st a).bind fun x => (data st b).bind fun y => match y with
          | .tup ys => some (ys.any fun z => eqD z x)
          | .lst ys => some (ys.any fun z => eqD z x)
          | _ => none
    if o = .inn then r else r.map (!·)
  | .is | .isn =>
    let r : Option Bool := match a, b with
      | .bl x, .bl y => some (x == y)
      | a, .non => some (isNon a)
      | _, _ => none
    if o = .is then r else r.map (!·)
/-- what a walk over a value yields -/
def iterOf (st : Sto) (d : D) : Option (List D) :=
  match d with
  | .str x => if x.length ≤ LIM then some (signs x) else none
  | d => seqOf st d
/-- not above -/
def leD (a b : D) : Bool := match ltD b a with
  | some true => false
  | _ => true
def sortD (ds : List D) : List D := ds.mergeSort leD
def allKin (ds : List D) : Bool := ds.all fun x => ds.all fun y => kin x y
/-- what the library sorts: tuples, or no tuples -/
def sortable (ds : List D) : Bool := (ds.all fun x => match x with
    | .tup _ => true
    | _ => false) || ds.all fun x => match x with
    | .int _ => true
    | .str _ => true
    | .lst _ => true
    | _ => false
def intsOf : List D → Option (List Int)
  | [] => some []
  | .int i :: r => (intsOf r).map (i :: ·)
  | _ => none
def boolsOf : List D → Option (List Bool)
  | [] => some []
  | .bl i :: r => (boolsOf r).map (i :: ·)
  | _ => none
/-- the texts, if all are texts -/
def strsIn : List D → Option (List Str)
  | [] => some []
  | .str c :: r => (strsIn r).map (c :: ·)
  | _ => none
/-- each text once -/
def nubS : List Str → List Str
  | [] => []
  | c :: r => if r.contains c then nubS r else c :: nubS r
/-- pairs, if all are pairs of a key and a value -/
def prsOf : List D → Option (List (D × D))
  | [] => some []
  | .tup [k, v] :: r => if keyOk k then (prsOf r).map ((k, v) :: ·) else none
  | _ => none
def mkDict (ps : List (D × D)) : List (D × D) := ps.foldl (fun kvs p => kPut kvs p.1 p.2) []
def blt (b : Blt) (ds : List D) (st : Sto) : Res D :=
  match b, ds with
  | .len, [.str x] => if x.length ≤ LIM then .ok (.int x.length) st else .bad
  | .len, [d] => match seqOf st d with
    | some xs => .ok (.int xs.length) st
    | none => match dctOf st d with
      | some kvs => .ok (.int kvs.length) st
      | none => .bad
  | .abs, [.int i] => .ok (.int (if i < 0 then -i else i)) st
  | .int, [.int i] => .ok (.int i) st
  | .int, [.bl b] => .ok (.int (if b then 1 else 0)) st
  | .repr, [d] => match data st d with
    | some e => if (py e).showable && PySem.PyData.strOk (py e).shown && decide ((py e).shown.length ≤ LIM) then .ok (.str (py e).shown) st else .bad
    | none => repD d st
  | .sorted, [d] => match seqOf st d with
    | some xs => if plains xs && allKin xs && sortable xs && decide (PySem.PyData.depthAll (pys xs) ≤ 100) then .ok (.lst (sortD xs)) st else .bad
    | none => .bad
  | .tuple, [d] => match iterOf st d with
    | some xs => .ok (.tup xs) st
    | none => .bad
  | .list, [d] => match iterOf st d with
    | some xs => .ok (.lst xs) st
    | none => match dctOf st d with
      | some kvs => .ok (.lst (kvs.map (·.1))) st
      | none => .bad
  | .all, [d] => match (lstOf st d).bind boolsOf with
    | some bs => .ok (.bl (bs.all id)) st
    | none => .bad
  | .any, [d] => match (lstOf st d).bind boolsOf with
    | some bs => .ok (.bl (bs.any id)) st
    | none => .bad
  | .sum, [d] => match (lstOf st d).bind intsOf with
    | some bs => .ok (.int bs.sum) st
    | none => .bad
  | .min, [.int i, .int j] => .ok (.int (if j < i then j else i)) st
  | .max, [.int i, .int j] => .ok (.int (if j > i then j else i)) st
  | .min, [d] => match (seqOf st d).bind intsOf with
    | some (i :: r) => .ok (.int (r.foldl (fun m j => if j < m then j else m) i)) st
    | _ => .bad
  | .max, [d] => match (seqOf st d).bind intsOf with
    | some (i :: r) => .ok (.int (r.foldl (fun m j => if j > m then j else m) i)) st
    | _ => .bad
  | .sset, [d] => match (seqOf st d).bind strsIn with
    | some l => if l.length < 64 then .ok (.lst (sortD ((nubS l).map .str))) st else .bad
    | none => .bad
  | .lset, [d] => match (seqOf st d).bind strsIn with
    | some l => if l.length < 64 then .ok (.int (nubS l).length) st else .bad
    | none => .bad
  | _, _ => .bad
/-- those that make a list -/
def bltL (b : Blt) (ds : List D) (st : Sto) : Res (List D) :=
  match b, ds with
  | .sorted, [d] => match seqOf st d with
    | some xs => if plains xs && allKin xs && sortable xs && decide (PySem.PyData.depthAll (pys xs) ≤ 100) then .ok (sortD xs) st else .bad
    | none => .bad
  | .list, [d] => match iterOf st d with
    | some xs => .ok xs st
    | none => .bad
  | _, _ => .bad
def isTy (st : Sto) (d : D) (t : Ty) : Bool :=
  match t, d with
  | .int, .int _ => true
  | .int, .bl _ => true
  | .bool, .bl _ => true
  | .str, .str _ => true
  | .tup, .tup _ => true
  | .lst, .lst _ => true
  | .dct, .dct _ => true
  | .cls c, .ins c' _ => c == c'
  | t, .obj n => match t, st.get n with
    | .lst, some (.lst _) => true
    | .dct, some (.dct _) => true
    | .cls c, some (.ins c' _) => c == c'
    | _, _ => false
  | _, _ => false
/-- whose type is told -/
def tyOk (st : Sto) : D → Bool
  | .ins _ _ => false
  | .scr _ => false
  | .obj n => match st.get n with
    | some (.lst _) => true
    | some (.dct _) => true
    | _ => false
  | _ => true
def mth (m : Mth) (o : D) (ds : List D) (st : Sto) : Res D :=
  match m, o, ds with
  | .append, .obj n, [d] => match st.get n with
    | some (.lst xs) => if xs.length < LIM then .ok .non (st.put n (.lst (xs ++ [d]))) else .bad
    | _ => .bad
  | .pop, .obj n, [] => match st.get n with
    | some (.lst xs) => match xs[xs.length - 1]? with
      | some y => .ok y (st.put n (.lst xs.dropLast))
      | none => .bad
    | _ => .bad
  | .popAt, .obj n, [.int i] => match st.get n with
    | some (.lst xs) => match (if i.natAbs ≤ LIM then place xs.length i else none) with
      | some k => match xs[k]? with
        | some y => .ok y (st.put n (.lst (xs.eraseIdx k)))
        | none => .bad
      | none => .bad
    | _ => .bad
  | .remove, .obj n, [.int i] => match st.get n with
    | some (.lst xs) => match intsOf xs with
      | some ns => if ns.idxOf i < ns.length then .ok .non (st.put n (.lst (xs.eraseIdx (ns.idxOf i)))) else .bad
      | none => .bad
    | _ => .bad
  | _, _, _ => .bad
def idx (a b : D) (st : Sto) : Res D :=
  match a, b with
  | .str x, .int i => if x.length ≤ LIM then ofO (((place x.length i).bind fun k => x.cps.toList[k]?).map fun c => .str ⟨#[c]⟩) st else .bad
  | a, .int i => match seqOf st a with
    | some xs => ofO ((place xs.length i).bind fun k => xs[k]?) st
    | none => match dctOf st a with
      | some kvs => ofO (kGet kvs (.int i)) st
      | none => .bad
  | a, k => match dctOf st a with
    | some kvs => if keyOk k then ofO (kGet kvs k) st else .bad
    | none => .bad
def slc (a : D) (lo hi : Option Int) (st : Sto) : Res D :=
  match a with
  | .str x => if x.length ≤ LIM then .ok (.str ⟨(cutL x.cps.toList lo hi).toArray⟩) st else .bad
  | .tup xs => .ok (.tup (cutL xs lo hi)) st
  | a => match lstOf st a with
    | some xs => .ok (.lst (cutL xs lo hi)) st
    | none => .bad
def revD (a : D) (st : Sto) : Res D :=
  match a with
  | .tup xs => .ok (.tup xs.reverse) st
  | a => match lstOf st a with
    | some xs => .ok (.lst xs.reverse) st
    | none => .bad
def isub (o i v : D) (st : Sto) : Res Unit :=
  match o with
  | .obj n => match st.get n with
    | some (.lst xs) => match i with
      | .int i => match place xs.length i with
        | some k => .ok () (st.put n (.lst (xs.set k v)))
        | none => .bad
      | _ => .bad
    | some (.dct kvs) => if keyOk i && decide (kvs.length < LIM) then .ok () (st.put n (.dct (kPut kvs i v))) else .bad
    | _ => .bad
  | _ => .bad
mutual
def bindT : Tgt → D → Env → Option Env
  | .nm i, d, η => some (η.set i (some d))
  | .tp ts, .tup ds, η => bindTs ts ds η
  | _, _, _ => none
def bindTs : List Tgt → List D → Env → Option Env
  | [], [], η => some η
  | t :: ts, d :: ds, η => (bindT t d η).bind (bindTs ts ds)
  | _, _, _ => none
end
def wipeE (η : Env) : List Nat → Env
  | [] => η
  | v :: vs => (wipeE η vs).set v none
/-- what is walked stands as it stood -/
abbrev Guards := List (Nat × O)
def sameO : O → O → Bool
  | .lst xs, .lst ys => sames xs ys
  | .dct xs, .dct ys => samek xs ys
  | .ins c xs, .ins d ys => c == d && samef xs ys
  | _, _ => false
def guardOk (st : Sto) (gs : Guards) : Bool := gs.all fun g => match st.get g.1 with
  | some o => sameO o g.2
  | none => false
def guardOf (st : Sto) : D → Guards
  | .obj n => match st.get n with
    | some o => [(n, o)]
    | none => []
  | _ => []
def compL (f : D → Sto → Res (List D)) (gs : Guards) : List D → Sto → Res (List D)
  | [], st => .ok [] st
  | d :: ds, st => (f d st).bind fun r st1 => if guardOk st1 gs then (compL f gs ds st1).bind fun rs st2 => .ok (r ++ rs) st2 else .bad
def compK (f : D → Sto → Res (List (D × D))) (gs : Guards) : List D → Sto → Res (List (D × D))
  | [], st => .ok [] st
  | d :: ds, st => (f d st).bind fun r st1 => if guardOk st1 gs then (compK f gs ds st1).bind fun rs st2 => .ok (r ++ rs) st2 else .bad
def rngL (lo : Int) : Nat → List D
  | 0 => []
  | n + 1 => .int lo :: rngL (lo + 1) n
def rngOk (i : Int) : Bool := decide (i.natAbs < 4611686018427387904)
def enumL (k : Nat) : List D → List D
  | [] => []
  | d :: ds => .tup [.int k, d] :: enumL (k + 1) ds
def zipL : List (List D) → List D
  | [xs, ys] => (xs.zip ys).map fun p => .tup [p.1, p.2]
  | [xs, ys, zs] => (xs.zip (ys.zip zs)).map fun p => .tup [p.1, p.2.1, p.2.2]
  | _ => []
/-- two tuples or two lists -/
def bothOf (st : Sto) (x y : D) : Option (List D × List D) := match x, y with
  | .tup xs, .tup ys => some (xs, ys)
  | x, y => match lstOf st x, lstOf st y with
    | some xs, some ys => some (xs, ys)
    | _, _ => none
def enumOf (st : Sto) : D → Option (List D)
  | .tup xs => some xs
  | d => lstOf st d
def lim (xs : List D) (st : Sto) : Res (List D) := if xs.length ≤ LIM then .ok xs st else .bad
def belowO (lo : Nat) : O → Bool
  | .lst xs => belows lo xs
  | .dct xs => belowk lo xs
  | .ins _ xs => belowf lo xs
/-- told by what it holds, where it is younger -/
def clos (st : Sto) (lo : Nat) (d : D) : Option D :=
  if below lo d then some d else
  match d with
  | .obj k => match st.get k with
    | some (.lst xs) => if lo ≤ k ∧ belows lo xs = true then some (.lst xs) else deep st lo levels d
    | some (.dct kvs) => if lo ≤ k ∧ belowk lo kvs = true then some (.dct kvs) else deep st lo levels d
    | _ => deep st lo levels d
  | _ => deep st lo levels d
/-- younger objects are told by what they hold, then forgotten -/
def frz (lo : Nat) (d : D) (st : Sto) : Res D :=
  if st.length = lo then .ok d st else
  if (st.drop (st.length - lo)).all (belowO lo) then
    match clos st lo d with
    | some e => .ok e (st.drop (st.length - lo))
    | none => .bad
  else .bad
abbrev Call := Nat → List D → Sto → Res D
structure Cst where
  glbs : List D
  call : Call
mutual
def evalE (C : Cst) : Ex → Env → Sto → Res D
  | .var i, η, st => match η[i]? with
    | some (some d) => .ok d st
    | _ => .bad
  | .non, _, st => .ok .non st
  | .bl b, _, st => .ok (.bl b) st
  | .int i, _, st => .ok (.int i) st
  | .str x, _, st => .ok (.str x) st
  | .glb k, _, st => ofO C.glbs[k]? st
  | .tup es, η, st => (evalEs C es η st).bind fun ds st => (lim ds st).bind fun ds st => .ok (.tup ds) st
  | .star _, _, _ => .bad
  | .op o a b, η, st => (evalE C a η st).bind fun x st => (evalE C b η st).bind fun y st => op2 o x y st
  | .neg a, η, st => (evalE C a η st).bind fun x st => match x with
    | .int i => .ok (.int (-i)) st
    | _ => .bad
  | .not a, η, st => (evalE C a η st).bind fun x st => match x with
    | .bl i => .ok (.bl (!i)) st
    | _ => .bad
  | .and a b, η, st => (evalE C a η st).bind fun x st => match x with
    | .bl true => evalE C b η st
    | .bl false => .ok (.bl false) st
    | _ => .bad
  | .or a b, η, st => (evalE C a η st).bind fun x st => match x with
    | .bl false => evalE C b η st
    | .bl true => .ok (.bl true) st
    | _ => .bad
  | .ite c a b, η, st => (evalE C c η st).bind fun x st => match x with
    | .bl true => evalE C a η st
    | .bl false => evalE C b η st
    | _ => .bad
  | .cmp o a b, η, st => (evalE C a η st).bind fun x st => (evalE C b η st).bind fun y st => ofO ((cmp2 o x y st).map .bl) st
  | .chain o o' a b c, η, st => (evalE C a η st).bind fun x st => (evalE C b η st).bind fun y st => match cmp2 o x y st with
    | some true => (evalE C c η st).bind fun z st => ofO ((cmp2 o' y z st).map .bl) st
    | some false => .ok (.bl false) st
    | none => .bad
  | .idx a b, η, st => (evalE C a η st).bind fun x st => (evalE C b η st).bind fun y st => idx x y st
  | .slc a l h, η, st => (evalE C a η st).bind fun x st => (evalO C l η st).bind fun i st => (evalO C h η st).bind fun j st => slc x i j st
  | .rev a, η, st => (evalE C a η st).bind fun x st => revD x st
  | .call f es, η, st => (evalEs C es η st).bind fun ds st => C.call f ds st
  | .callz f es, η, st => (evalEs C es η st).bind fun ds st => (C.call f ds st).bind fun d st' => frz st.length d st'
  | .blt b es, η, st => (evalEs C es η st).bind fun ds st => blt b ds st
  | .tupR a, η, st => (evalE C a η st).bind fun x st => match x with
    | .int i => if rngOk i then if i.toNat ≤ LIM then .ok (.tup (rngL 0 i.toNat)) st else .bad else .bad
    | _ => .bad
  | .isi a tys, η, st => (evalE C a η st).bind fun x st => if tyOk st x then .ok (.bl (tys.any (isTy st x))) st else .bad
  | .mth m o es, η, st => (evalE C o η st).bind fun x st => match lstOf st x with
    | some _ => (evalEs C es η st).bind fun ds st => mth m x ds st
    | none => .bad
  | .frl l, η, st => (evalL C l η st).bind fun ds st => .ok (.lst ds) st
  | .own l, η, st => (evalL C l η st).bind fun ds st => .ok (.obj st.length) (.lst ds :: st)
  | .frd l, η, st => (evalK C l η st).bind fun ds st => .ok (.dct ds) st
  | .ownd l, η, st => (evalK C l η st).bind fun ds st => .ok (.obj st.length) (.dct ds :: st)
  | _, _, _ => .bad
def evalO (C : Cst) : Option Ex → Env → Sto → Res (Option Int)
  | none, _, st => .ok none st
  | some e, η, st => (evalE C e η st).bind fun x st => match x with
    | .int i => .ok (some i) st
    | _ => .bad
-- arguments, items of a display
def evalEs (C : Cst) : List Ex → Env → Sto → Res (List D)
  | [], _, st => .ok [] st
  | .star e :: es, η, st => (evalE C e η st).bind fun x st => match seqOf st x with
    | some xs => (evalEs C es η st).bind fun ds st => .ok (xs ++ ds) st
    | none => .bad
  | e :: es, η, st => (evalE C e η st).bind fun x st => (evalEs C es η st).bind fun ds st => .ok (x :: ds) st
-- what a walk yields
def evalI (C : Cst) : Ex → Env → Sto → Res (List D × Guards)
  | .rng [a], η, st => (evalE C a η st).bind fun x st => match x with
    | .int i => if rngOk i then .ok (rngL 0 i.toNat, []) st else .bad
    | _ => .bad
  | .rng [a, b], η, st => (evalE C a η st).bind fun x st => (evalE C b η st).bind fun y st => match x, y with
    | .int i, .int j => if rngOk i && rngOk j then .ok (rngL i (j - i).toNat, []) st else .bad
    | _, _ => .bad
  | .enum a, η, st => (evalE C a η st).bind fun x st => match enumOf st x with
    | some ds => .ok (enumL 0 ds, guardOf st x) st
    | none => .bad
  | .zip [a, b], η, st => (evalE C a η st).bind fun x st => (evalE C b η st).bind fun y st => match bothOf st x y with
    | some p => .ok (zipL [p.1, p.2], guardOf st x ++ guardOf st y) st
    | none => .bad
  | .itv e, η, st => (evalE C e η st).bind fun x st => match iterOf st x with
    | some ds => .ok (ds, guardOf st x) st
    | none => .bad
  | _, _, _ => .bad
def evalL (C : Cst) : Lx → Env → Sto → Res (List D)
  | .disp es, η, st => (evalEs C es η st).bind fun ds st => lim ds st
  | .comp own tg it cs e, η, st => (evalI C it η st).bind fun p st => if p.1.length ≤ LIM then
    compL (fun d st => match bindT tg d (wipeE η own) with
      | some η1 => (condsE C cs η1 st).bind fun b st => if b then (evalE C e η1 st).noexc.bind fun x st => .ok [x] st else .ok [] st
      | none => .bad) p.2 p.1 st
    else .bad
  | .comp2 own tg it cs tg2 it2 cs2 e, η, st => (evalI C it η st).bind fun p st => if p.1.length ≤ LIM then
    (compL (fun d st => match bindT tg d (wipeE η own) with
      | some η1 => (condsE C cs η1 st).bind fun b st => if b then
          (evalI C it2 η1 st).noexc.bind fun p2 st => if p2.1.length ≤ LIM then
            compL (fun d2 st => match bindT tg2 d2 η1 with
              | some η2 => (condsE C cs2 η2 st).bind fun b st => if b then (evalE C e η2 st).noexc.bind fun x st => .ok [x] st else .ok [] st
              | none => .bad) p2.2 p2.1 st
          else .bad
        else .ok [] st
      | none => .bad) p.2 p.1 st).noexc.bind fun rs st => if rs.length ≤ LIM then .ok rs st else .bad
    else .bad
  | .lstR a, η, st => (evalE C a η st).bind fun x st => match x with
    | .int i => if rngOk i then if i.toNat ≤ LIM then .ok (rngL 0 i.toNat) st else .bad else .bad
    | _ => .bad
  | .bltl b es, η, st => (evalEs C es η st).bind fun ds st => bltL b ds st
  | .add a b, η, st => (evalE C a η st).bind fun x st => (evalE C b η st).bind fun y st => match lstOf st x, lstOf st y with
    | some xs, some ys => if xs.length + ys.length ≤ LIM then .ok (xs ++ ys) st else .bad
    | _, _ => .bad
  | .rev a, η, st => (evalE C a η st).bind fun x st => match lstOf st x with
    | some xs => .ok xs.reverse st
    | none => .bad
def evalK (C : Cst) : Dx → Env → Sto → Res (List (D × D))
  | .disp kvs, η, st => (evalPs C kvs η st).bind fun ps st => if ps.all fun p => keyOk p.1 then .ok (mkDict ps) st else .bad
  | .comp own tg it cs k e, η, st => (evalI C it η st).bind fun p st =>
    (compK (fun d st => match bindT tg d (wipeE η own) with
      | some η1 => (condsE C cs η1 st).bind fun b st => if b then (evalE C k η1 st).noexc.bind fun x st => (evalE C e η1 st).noexc.bind fun y st =>
          if keyOk x then .ok [(x, y)] st else .bad
        else .ok [] st
      | none => .bad) p.2 p.1 st).bind fun ps st => if ps.length ≤ LIM then .ok (mkDict ps) st else .bad
  | .val e, η, st => (evalE C e η st).bind fun x st => match (lstOf st x).bind prsOf with
    | some ps => .ok (mkDict ps) st
    | none => .bad
def evalPs (C : Cst) : List Ex → Env → Sto → Res (List (D × D))
  | [], _, st => .ok [] st
  | k :: v :: kvs, η, st => (evalE C k η st).bind fun x st => (evalE C v η st).bind fun y st => (evalPs C kvs η st).bind fun ps st => .ok ((x, y) :: ps) st
  | _, _, _ => .bad
-- the ifs of a comprehension
def condsE (C : Cst) : List Ex → Env → Sto → Res Bool
  | [], _, st => .ok true st
  | c :: cs, η, st => (evalE C c η st).noexc.bind fun x st => match x with
    | .bl true => condsE C cs η st
    | .bl false => .ok false st
    | _ => .bad
end
inductive Fl where
  | nx (η : Env) | rt (d : D) | bk (η : Env) | ct (η : Env)
def forD (tg : Tgt) (body : Env → Sto → Res Fl) (gs : Guards) : List D → Env → Sto → Res Fl
  | [], η, st => .ok (.nx η) st
  | d :: ds, η, st => match bindT tg d η with
    | none => .bad
    | some η1 => (body η1 st).bind fun fl st1 => match fl with
      | .nx η2 => if guardOk st1 gs then forD tg body gs ds η2 st1 else .bad
      | .ct η2 => if guardOk st1 gs then forD tg body gs ds η2 st1 else .bad
      | .bk η2 => .ok (.nx η2) st1
      | .rt d => .ok (.rt d) st1
def whlD (test : Env → Sto → Res D) (body : Env → Sto → Res Fl) : Nat → Env → Sto → Res Fl
  | 0, _, _ => .bad
  | n + 1, η, st => (test η st).bind fun x st1 => match x with
    | .bl false => .ok (.nx η) st1
    | .bl true => (body η st1).bind fun fl st2 => match fl with
      | .nx η2 => whlD test body n η2 st2
      | .ct η2 => whlD test body n η2 st2
      | .bk η2 => .ok (.nx η2) st2
      | .rt d => .ok (.rt d) st2
    | _ => .bad
abbrev LAPS : Nat := 1000000
def setEs : List Nat → List D → Env → Option Env
  | [], [], η => some η
  | i :: is, d :: ds, η => setEs is ds (η.set i (some d))
  | _, _, _ => none
mutual
def execS (C : Cst) : Sx → Env → Sto → Res Fl
  | .set i e, η, st => (evalE C e η st).bind fun x st => .ok (.nx (η.set i (some x))) st
  | .mov i j, η, st => match η[j]? with
    | some (some x) => .ok (.nx (η.set i (some x))) st
    | _ => .bad
  | .tset t e, η, st => (evalE C e η st).bind fun x st => match bindT t x η with
    | some η => .ok (.nx η) st
    | none => .bad
  | .par is es, η, st => (evalEs C es η st).bind fun ds st => match setEs is ds η with
    | some η => .ok (.nx η) st
    | none => .bad
  | .isub o i e, η, st => (evalE C e η st).bind fun v st => (evalE C o η st).bind fun x st => (evalE C i η st).bind fun y st => (isub x y v st).bind fun _ st => .ok (.nx η) st
  | .aug i o e, η, st => match η[i]? with
    | some (some x) => (evalE C e η st).bind fun y st => match x, y with
      | .int _, .int _ => (op2 o x y st).bind fun z st => .ok (.nx (η.set i (some z))) st
      | _, _ => .bad
    | _ => .bad
  | .expr e, η, st => (evalE C e η st).bind fun _ st => .ok (.nx η) st
  | .ret e, η, st => (evalE C e η st).bind fun x st => .ok (.rt x) st
  | .retN, _, st => .ok (.rt .non) st
  | .ite c a b, η, st => (evalE C c η st).bind fun x st => match x with
    | .bl true => execs C a η st
    | .bl false => execs C b η st
    | _ => .bad
  | .whl c b, η, st => whlD (evalE C c) (execs C b) LAPS η st
  | .for_ t it b, η, st => (evalI C it η st).bind fun p st => forD t (execs C b) p.2 p.1 η st
  | .brk, η, st => .ok (.bk η) st
  | .cont, η, st => .ok (.ct η) st
  | .pass, η, st => .ok (.nx η) st
  | .unk, _, _ => .bad
def execs (C : Cst) : List Sx → Env → Sto → Res Fl
  | [], η, st => .ok (.nx η) st
  | s :: ss, η, st => (execS C s η st).bind fun fl st => match fl with
    | .nx η => execs C ss η st
    | fl => .ok fl st
end
structure Def where
  np : Nat
  ns : Nat
  body : List Sx
structure Prg where
  glbs : List D
  defs : List Def
def callD (P : Prg) : Nat → Call
  | 0, _, _, _ => .bad
  | n + 1, f, ds, st => match P.defs[f]? with
    | some d => if ds.length = d.np then
        (execs ⟨P.glbs, callD P n⟩ d.body (ds.map some ++ List.replicate (d.ns - d.np) none) st).bind fun fl st => match fl with
          | .nx _ => .ok .non st
          | .rt x => .ok x st
          | _ => .bad
      else .bad
    | none => .bad
end Dv
namespace Dv
open PySem L2
/-- where the store's objects stand; what else is being made and not yet known to anybody -/
structure Rho where
  f : Nat → Option Addr
  hid : Addr → Prop
def Rho.free (ρ : Rho) (a : Addr) : Prop := (∀ n, ρ.f n ≠ some a) ∧ ¬ ρ.hid a
/-- a list of the module's own -/
def KL (K : PySem.W.Frag) (a : Addr) (xs : List V) : Prop := ∃ (o : Obj) (its : Array Value) (n : Nat), K.lookup a = some o ∧ o.cls = .type "list" ∧ o.dict = none ∧ o.data = .seq its n ∧ its.size ≤ sizeLine ∧ Vals xs its.toList
section
variable (K : PySem.W.Frag) (cl : Nat → Addr)
mutual
def Rel (H : Hp) (ρ : Rho) : D → V → Prop
  | .non, v => v = .non
  | .bl b, v => v = .bl b
  | .int i, v => v = .int i
  | .str x, v => v = .str x ∧ PySem.PyData.strOk x = true
  | .tup ds, v => ∃ a vs, v = .ref a ∧ SqT K H a vs ∧ Rels H ρ ds vs
  | .lst ds, v => ∃ a vs, v = .ref a ∧ Rd H a (.lst vs) ∧ ρ.free a ∧ Rels H ρ ds vs
  | .dct kvs, v => ∃ a kus, v = .ref a ∧ Rd H a (.dK kus) ∧ ρ.free a ∧ RelK H ρ kvs kus
  | .ins c fs, v => ∃ a dx gs, v = .ref a ∧ Rd H a (.ins (cl c) dx gs) ∧ ρ.free a ∧ RelF H ρ fs gs
  | .obj n, v => ∃ a, v = .ref a ∧ ρ.f n = some a
  | .scr ns, v => ∃ a, v = .ref a ∧ ((Rd H a (.lst (ns.map V.int)) ∧ ρ.free a) ∨ KL K a (ns.map V.int))
def Rels (H : Hp) (ρ : Rho) : List D → List V → Prop
  | [], vs => vs = []
  | d :: ds, vs => ∃ v r, vs = v :: r ∧ Rel H ρ d v ∧ Rels H ρ ds r
def RelK (H : Hp) (ρ : Rho) : List (D × D) → List (Key × V) → Prop
  | [], us => us = []
  | (k, d) :: kvs, us => ∃ key v r, us = (key, v) :: r ∧ Rel H ρ k (kV key) ∧ Rel H ρ d v ∧ RelK H ρ kvs r
def RelF (H : Hp) (ρ : Rho) : List (Str × D) → List (Str × V) → Prop
  | [], us => us = []
  | (k, d) :: kvs, us => ∃ v r, us = (k, v) :: r ∧ Rel H ρ d v ∧ RelF H ρ kvs r
end
def RelO (H : Hp) (ρ : Rho) (a : Addr) : O → Prop
  | .lst ds => ∃ vs, H a = some (.lst vs) ∧ Rels K cl H ρ ds vs
  | .dct kvs => ∃ kus, H a = some (.dK kus) ∧ RelK K cl H ρ kvs kus
  | .ins c fs => ∃ dx gs, H a = some (.ins (cl c) dx gs) ∧ RelF K cl H ρ fs gs
/-- the store stands -/
structure RepS (H : Hp) (ρ : Rho) (st : Sto) : Prop where
  has : ∀ n o, Sto.get st n = some o → ∃ a, ρ.f n = some a ∧ RelO K cl H ρ a o
  dom : ∀ n a, ρ.f n = some a → n < st.length
  inj : ∀ n m a, ρ.f n = some a → ρ.f m = some a → n = m
  ap : ∀ n a, ρ.f n = some a → ¬ ρ.hid a
  hid : ∀ a, ρ.hid a → ∃ o, H a = some o
end
/-- what never changes -/
def Imm : HO → Prop
  | .tup _ => True
  | .frz _ _ => True
  | _ => False
/-- from one heap to a later one: what is nobody's stays, names stay, new names stand at what was not there -/
structure Step (H : Hp) (ρ : Rho) (H' : Hp) (ρ' : Rho) : Prop where
  keep : ∀ a o, H a = some o → (∀ n, ρ.f n ≠ some a) → H' a = some o
  imm : ∀ a o, H a = some o → Imm o → H' a = some o
  tr : ∀ a o, H a = some o → ∃ o', H' a = some o'
  live : ∀ n a, ρ.f n = some a → ρ'.f n = some a
  new : ∀ n a, ρ'.f n = some a → ρ.f n = some a ∨ H a = none
  hid1 : ∀ a, ρ.hid a → ρ'.hid a
  hid2 : ∀ a o, H a = some o → ρ'.hid a → ρ.hid a
theorem Step.refl {H : Hp} {ρ : Rho} : Step H ρ H ρ := ⟨fun _ _ h _ => h, fun _ _ h _ => h, fun _ o h => ⟨o, h⟩, fun _ _ h => h, fun _ _ h => .inl h, fun _ h => h, fun _ _ _ h => h⟩
theorem Step.trans {H H1 H2 : Hp} {ρ ρ1 ρ2 : Rho} (a : Step H ρ H1 ρ1) (b : Step H1 ρ1 H2 ρ2) : Step H ρ H2 ρ2 := by
  have none_of : ∀ x, H1 x = none → H x = none := fun x e => by
    cases q : H x with
    | none => rfl
    | some o => obtain ⟨o', e'⟩ := a.tr x o q; rw [e] at e'; cases e'
  refine ⟨fun x o h n => ?_, fun x o h i => b.imm x o (a.imm x o h i) i, fun x o h => ?_, fun n x h => b.live n x (a.live n x h), fun n x h => ?_, fun x h => b.hid1 x (a.hid1 x h), fun x o e h => ?_⟩
  · refine b.keep x o (a.keep x o h n) fun m e => ?_
    rcases a.new m x e with z | z
    · exact n m z
    · rw [h] at z; cases z
  · obtain ⟨o1, e1⟩ := a.tr x o h
    exact b.tr x o1 e1
  · rcases b.new n x h with z | z
    · exact a.new n x z
    · exact .inr (none_of x z)
  · obtain ⟨o1, e1⟩ := a.tr x o e
    exact a.hid2 x o e (b.hid2 x o1 e1 h)
theorem Step.free {H H' : Hp} {ρ ρ' : Rho} (s : Step H ρ H' ρ') {a : Addr} {o : HO} (h : H a = some o) (f : ρ.free a) : ρ'.free a := by
  refine ⟨fun n e => ?_, fun z => f.2 (s.hid2 a o h z)⟩
  rcases s.new n a e with z | z
  · exact f.1 n z
  · rw [h] at z; cases z
theorem Step.rd {H H' : Hp} {ρ ρ' : Rho} (s : Step H ρ H' ρ') {a : Addr} {u : HO} (h : Rd H a u) (f : ρ.free a) : Rd H' a u ∧ ρ'.free a := by
  rcases h with h | ⟨o, h⟩
  · exact ⟨.inl (s.keep a u h f.1), s.free h f⟩
  · exact ⟨.inr ⟨o, s.keep a _ h f.1⟩, s.free h f⟩
theorem Step.sqT {K : PySem.W.Frag} {H H' : Hp} {ρ ρ' : Rho} (s : Step H ρ H' ρ') {a : Addr} {vs : List V} (h : SqT K H a vs) : SqT K H' a vs := by
  rcases h with hl | h
  rcases hl with h | ⟨o, h⟩
  · exact .inl (.inl (s.imm a _ h trivial))
  · exact .inl (.inr ⟨o, s.imm a _ h trivial⟩)
  · exact .inr h
/-- what frozen things and names need -/
structure Ext (K : PySem.W.Frag) (H : Hp) (ρ : Rho) (H' : Hp) (ρ' : Rho) : Prop where
  sqT : ∀ a vs, SqT K H a vs → SqT K H' a vs
  rd : ∀ a u, Rd H a u → ρ.free a → Rd H' a u ∧ ρ'.free a
  live : ∀ n a, ρ.f n = some a → ρ'.f n = some a
theorem Ext.trans {K : PySem.W.Frag} {H H1 H2 : Hp} {ρ ρ1 ρ2 : Rho} (a : Ext K H ρ H1 ρ1) (b : Ext K H1 ρ1 H2 ρ2) : Ext K H ρ H2 ρ2 :=
  ⟨fun x vs h => b.sqT x vs (a.sqT x vs h), fun x u h f => let q := a.rd x u h f; b.rd x u q.1 q.2, fun n x h => b.live n x (a.live n x h)⟩
theorem Step.ext {K : PySem.W.Frag} {H H' : Hp} {ρ ρ' : Rho} (s : Step H ρ H' ρ') : Ext K H ρ H' ρ' := ⟨fun _ _ h => s.sqT h, fun _ _ h f => s.rd h f, s.live⟩
section
variable {K : PySem.W.Frag} {cl : Nat → Addr} {H H' : Hp} {ρ ρ' : Rho}
mutual
theorem Rel.ext (s : Ext K H ρ H' ρ') : ∀ (d : D) {v : V}, Rel K cl H ρ d v → Rel K cl H' ρ' d v
  | .non, _, h => h
  | .bl _, _, h => h
  | .int _, _, h => h
  | .str _, _, h => h
  | .tup ds, _, h => by
    obtain ⟨a, vs, e, q, r⟩ := h
    exact ⟨a, vs, e, s.sqT _ _ q, Rels.ext s ds r⟩
  | .lst ds, _, h => by
    obtain ⟨a, vs, e, q, f, r⟩ := h
    obtain ⟨q', f'⟩ := s.rd _ _ q f
    exact ⟨a, vs, e, q', f', Rels.ext s ds r⟩
  | .dct kvs, _, h => by
    obtain ⟨a, vs, e, q, f, r⟩ := h
    obtain ⟨q', f'⟩ := s.rd _ _ q f
    exact ⟨a, vs, e, q', f', RelK.ext s kvs r⟩
  | .ins c fs, _, h => by
    obtain ⟨a, dx, vs, e, q, f, r⟩ := h
    obtain ⟨q', f'⟩ := s.rd _ _ q f
    exact ⟨a, dx, vs, e, q', f', RelF.ext s fs r⟩
  | .obj n, _, h => by
    obtain ⟨a, e, q⟩ := h
    exact ⟨a, e, s.live n a q⟩
  | .scr ns, _, h => by
    obtain ⟨a, e, q⟩ := h
    exact ⟨a, e, q.imp (fun q => s.rd _ _ q.1 q.2) id⟩
theorem Rels.ext (s : Ext K H ρ H' ρ') : ∀ (ds : List D) {vs : List V}, Rels K cl H ρ ds vs → Rels K cl H' ρ' ds vs
  | [], _, h => h
  | d :: ds, _, h => by
    obtain ⟨v, r, e, a, b⟩ := h
    exact ⟨v, r, e, Rel.ext s d a, Rels.ext s ds b⟩
theorem RelK.ext (s : Ext K H ρ H' ρ') : ∀ (ds : List (D × D)) {vs : List (Key × V)}, RelK K cl H ρ ds vs → RelK K cl H' ρ' ds vs
  | [], _, h => h
  | (k, d) :: ds, _, h => by
    obtain ⟨key, v, r, e, a, b, c⟩ := h
    exact ⟨key, v, r, e, Rel.ext s k a, Rel.ext s d b, RelK.ext s ds c⟩
theorem RelF.ext (s : Ext K H ρ H' ρ') : ∀ (ds : List (Str × D)) {vs : List (Str × V)}, RelF K cl H ρ ds vs → RelF K cl H' ρ' ds vs
  | [], _, h => h
  | (k, d) :: ds, _, h => by
    obtain ⟨v, r, e, a, c⟩ := h
    exact ⟨v, r, e, Rel.ext s d a, RelF.ext s ds c⟩
end
theorem Rel.mono (s : Step H ρ H' ρ') (d : D) {v : V} (h : Rel K cl H ρ d v) : Rel K cl H' ρ' d v := Rel.ext s.ext d h
theorem Rels.mono (s : Step H ρ H' ρ') (d : List D) {v : List V} (h : Rels K cl H ρ d v) : Rels K cl H' ρ' d v := Rels.ext s.ext d h
theorem RelK.mono (s : Step H ρ H' ρ') (d : List (D × D)) {v : List (Key × V)} (h : RelK K cl H ρ d v) : RelK K cl H' ρ' d v := RelK.ext s.ext d h
theorem RelF.mono (s : Step H ρ H' ρ') (d : List (Str × D)) {v : List (Str × V)} (h : RelF K cl H ρ d v) : RelF K cl H' ρ' d v := RelF.ext s.ext d h
end
theorem get_lt {st : Sto} {n : Nat} {o : O} (h : st.get n = some o) : n < st.length := by
  unfold Sto.get at h
  split at h
  · assumption
  · cases h
theorem get_push {st : Sto} {o : O} (n : Nat) : Sto.get (o :: st) n = if n = st.length then some o else st.get n := by
  unfold Sto.get
  by_cases h : n = st.length
  · subst h
    rw [if_pos rfl, if_pos (by simp)]
    simp
  · rw [if_neg h]
    by_cases h2 : n < st.length
    · rw [if_pos (by simp; omega), if_pos h2]
      have e : (o :: st).length - 1 - n = (st.length - 1 - n) + 1 := by simp; omega
      rw [e, List.getElem?_cons_succ]
    · rw [if_neg (by simp; omega), if_neg h2]
theorem get_put {st : Sto} {o : O} {k : Nat} (hk : k < st.length) (n : Nat) : (Sto.put st k o).get n = if n = k then some o else st.get n := by
  unfold Sto.get Sto.put
  rw [List.length_set]
  by_cases h2 : n < st.length
  · rw [if_pos h2, if_pos h2]
    by_cases h : n = k
    · subst h
      rw [if_pos rfl, List.getElem?_set_self (by omega)]
    · rw [if_neg h, List.getElem?_set_ne (by omega)]
  · rw [if_neg h2, if_neg h2, if_neg (by omega)]
theorem put_length {st : Sto} {o : O} {k : Nat} : (Sto.put st k o).length = st.length := by
  unfold Sto.put
  rw [List.length_set]
theorem get_some {st : Sto} {n : Nat} (h : n < st.length) : ∃ o, st.get n = some o := by
  unfold Sto.get
  rw [if_pos h]
  exact ⟨_, List.getElem?_eq_getElem (by omega)⟩
theorem get_drop {st : Sto} {lo : Nat} (h : lo ≤ st.length) (n : Nat) : Sto.get (st.drop (st.length - lo)) n = if n < lo then st.get n else none := by
  unfold Sto.get
  rw [List.length_drop]
  have e : st.length - (st.length - lo) = lo := by omega
  rw [e]
  by_cases hn : n < lo
  · rw [if_pos hn, if_pos hn, if_pos (by omega), List.getElem?_drop]
    congr 1
    omega
  · rw [if_neg hn, if_neg hn]
section
variable {K : PySem.W.Frag} {cl : Nat → Addr} {H H' : Hp} {ρ ρ' : Rho} {st : Sto}
theorem RelO.ext (s : Ext K H ρ H' ρ') {a : Addr} {o : O} (h : RelO K cl H ρ a o) (k : ∀ u, H a = some u → H' a = some u) : RelO K cl H' ρ' a o := by
  cases o with
  | lst ds =>
    obtain ⟨vs, e, r⟩ := h
    exact ⟨vs, k _ e, r.ext s ds⟩
  | dct kvs =>
    obtain ⟨vs, e, r⟩ := h
    exact ⟨vs, k _ e, r.ext s kvs⟩
  | ins c fs =>
    obtain ⟨dx, vs, e, r⟩ := h
    exact ⟨dx, vs, k _ e, r.ext s fs⟩
theorem RelO.mono (s : Step H ρ H' ρ') {a : Addr} {o : O} (h : RelO K cl H ρ a o) (k : ∀ u, H a = some u → H' a = some u) : RelO K cl H' ρ' a o := h.ext s.ext k
/-- only new things came -/
theorem Step.same (s : L2.Same H H') : Step H ρ H' ρ := ⟨fun a o h _ => s a o h, fun a o h _ => s a o h, fun a o h => ⟨o, s a o h⟩, fun _ _ h => h, fun _ _ h => .inl h, fun _ h => h, fun _ _ _ h => h⟩
theorem RepS.same (r : RepS K cl H ρ st) (s : L2.Same H H') : RepS K cl H' ρ st :=
  ⟨fun n o h => let ⟨a, e, q⟩ := r.has n o h; ⟨a, e, q.mono (Step.same s) (s a)⟩, r.dom, r.inj, r.ap, fun a h => let ⟨o, e⟩ := r.hid a h; ⟨o, s a o e⟩⟩
theorem same_new {p : Addr} {o : HO} (h : H p = none) : L2.Same H (upd H p o) := fun b u e => by
  rw [upd_ne (ne_of_none e h)]
  exact e
theorem RepS.tracked (r : RepS K cl H ρ st) {n : Nat} {a : Addr} (h : ρ.f n = some a) : ∃ o, H a = some o := by
  obtain ⟨o, e⟩ := get_some (r.dom n a h)
  obtain ⟨b, e1, q⟩ := r.has n o e
  rw [h] at e1
  cases e1
  cases o with
  | lst ds => obtain ⟨vs, e, _⟩ := q; exact ⟨_, e⟩
  | dct ds => obtain ⟨vs, e, _⟩ := q; exact ⟨_, e⟩
  | ins c ds => obtain ⟨dx, vs, e, _⟩ := q; exact ⟨_, e⟩
/-- what is not there is nobody's -/
theorem RepS.free (r : RepS K cl H ρ st) {p : Addr} (h : H p = none) : ρ.free p :=
  ⟨fun n e => (r.tracked e).elim fun o q => (by rw [h] at q; cases q), fun z => (r.hid p z).elim fun o q => (by rw [h] at q; cases q)⟩
end
/-- a new name -/
def Rho.add (ρ : Rho) (n : Nat) (a : Addr) : Rho := ⟨fun m => if m = n then some a else ρ.f m, ρ.hid⟩
section
variable {K : PySem.W.Frag} {cl : Nat → Addr} {H H' : Hp} {ρ ρ' : Rho} {st : Sto}
theorem Step.add (r : RepS K cl H ρ st) {p : Addr} {o : HO} (h : H p = none) : Step H ρ (upd H p o) (ρ.add st.length p) := by
  have s := same_new (o := o) h
  refine ⟨fun a u e _ => s a u e, fun a u e _ => s a u e, fun a u e => ⟨u, s a u e⟩, fun n a e => ?_, fun n a e => ?_, fun _ h => h, fun _ _ _ h => h⟩
  · have : n ≠ st.length := Nat.ne_of_lt (r.dom n a e)
    show (if n = st.length then some p else ρ.f n) = some a
    rw [if_neg this]
    exact e
  · have e : (if n = st.length then some p else ρ.f n) = some a := e
    split at e
    · cases e; exact .inr h
    · exact .inl e
theorem RepS.push (r : RepS K cl H ρ st) {p : Addr} {u : HO} {o : O} (h : H p = none) (q : RelO K cl (upd H p u) (ρ.add st.length p) p o) : RepS K cl (upd H p u) (ρ.add st.length p) (o :: st) := by
  have s := Step.add (o := u) r h
  have sm := same_new (o := u) h
  have fr := r.free h
  refine ⟨fun n o' e => ?_, fun n a e => ?_, fun n m a e1 e2 => ?_, fun n a e => ?_, fun a e => ?_⟩
  · rw [get_push] at e
    by_cases hn : n = st.length
    · rw [if_pos hn] at e
      cases e
      exact ⟨p, by show (if n = st.length then some p else ρ.f n) = some p; rw [if_pos hn], q⟩
    · rw [if_neg hn] at e
      obtain ⟨a, e1, q1⟩ := r.has n o' e
      exact ⟨a, by show (if n = st.length then some p else ρ.f n) = some a; rw [if_neg hn]; exact e1, q1.mono s (sm a)⟩
  · have e : (if n = st.length then some p else ρ.f n) = some a := e
    rw [List.length_cons]
    split at e
    · omega
    · have := r.dom n a e
      omega
  · have e1 : (if n = st.length then some p else ρ.f n) = some a := e1
    have e2 : (if m = st.length then some p else ρ.f m) = some a := e2
    by_cases hn : n = st.length
    · rw [if_pos hn] at e1
      cases e1
      by_cases hm : m = st.length
      · rw [hn, hm]
      · rw [if_neg hm] at e2
        exact absurd e2 (fr.1 m)
    · rw [if_neg hn] at e1
      by_cases hm : m = st.length
      · rw [if_pos hm] at e2
        cases e2
        exact absurd e1 (fr.1 n)
      · rw [if_neg hm] at e2
        exact r.inj n m a e1 e2
  · have e : (if n = st.length then some p else ρ.f n) = some a := e
    split at e
    · cases e; exact fr.2
    · exact r.ap n a e
  · obtain ⟨o', e'⟩ := r.hid a e
    exact ⟨o', sm a o' e'⟩
/-- an object of ours is written -/
theorem Step.put (r : RepS K cl H ρ st) {n : Nat} {p : Addr} {u u' : HO} (hp : ρ.f n = some p) (h : H p = some u) (hi : ¬ Imm u) : Step H ρ (upd H p u') ρ := by
  refine ⟨fun a o e k => ?_, fun a o e i => ?_, fun a o e => ?_, fun _ _ e => e, fun _ _ e => .inl e, fun _ h => h, fun _ _ _ h => h⟩
  · rw [upd_ne (fun z => k n (by rw [z]; exact hp))]
    exact e
  · rw [upd_ne (fun z => by subst z; rw [h] at e; cases e; exact hi i)]
    exact e
  · by_cases z : a = p
    · subst z; exact ⟨u', upd_same⟩
    · exact ⟨o, by rw [upd_ne z]; exact e⟩
theorem RepS.put (r : RepS K cl H ρ st) {n : Nat} {p : Addr} {u u' : HO} {o : O} (hp : ρ.f n = some p) (h : H p = some u) (hi : ¬ Imm u) (q : RelO K cl (upd H p u') ρ p o) : RepS K cl (upd H p u') ρ (st.put n o) := by
  have s := Step.put (u' := u') r hp h hi
  refine ⟨fun m o' e => ?_, fun m a e => by rw [put_length]; exact r.dom m a e, r.inj, r.ap, fun a e => ?_⟩
  · rw [get_put (r.dom n p hp)] at e
    by_cases hm : m = n
    · rw [if_pos hm] at e
      cases e
      exact ⟨p, by rw [hm]; exact hp, q⟩
    · rw [if_neg hm] at e
      obtain ⟨a, e1, q1⟩ := r.has m o' e
      refine ⟨a, e1, q1.mono s fun w ew => ?_⟩
      rw [upd_ne (fun z => hm (r.inj m n p (by rw [← z]; exact e1) hp))]
      exact ew
  · obtain ⟨o', e'⟩ := r.hid a e
    exact ⟨o', by rw [upd_ne (fun z => r.ap n p hp (by rw [← z]; exact e))]; exact e'⟩
end
section
variable {K : PySem.W.Frag} {cl : Nat → Addr} {H H' : Hp} {ρ ρ' : Rho} {st : Sto}
theorem Rels.length : ∀ {ds : List D} {vs : List V}, Rels K cl H ρ ds vs → ds.length = vs.length
  | [], _, h => by cases h; rfl
  | d :: ds, _, h => by
    obtain ⟨v, r, rfl, _, b⟩ := h
    rw [List.length_cons, List.length_cons, Rels.length b]
theorem Rels.append : ∀ {ds es : List D} {vs us : List V}, Rels K cl H ρ ds vs → Rels K cl H ρ es us → Rels K cl H ρ (ds ++ es) (vs ++ us)
  | [], _, _, _, h, k => by cases h; exact k
  | d :: ds, _, _, _, h, k => by
    obtain ⟨v, r, rfl, a, b⟩ := h
    exact ⟨v, r ++ _, rfl, a, Rels.append b k⟩
theorem Rels.get : ∀ {ds : List D} {vs : List V} {i : Nat} {d : D}, Rels K cl H ρ ds vs → ds[i]? = some d → ∃ v, vs[i]? = some v ∧ Rel K cl H ρ d v
  | [], _, _, _, _, e => nomatch e
  | d :: ds, _, 0, _, h, e => by
    obtain ⟨v, r, rfl, a, b⟩ := h
    cases e
    exact ⟨v, rfl, a⟩
  | d :: ds, _, i + 1, _, h, e => by
    obtain ⟨v, r, rfl, a, b⟩ := h
    exact Rels.get (i := i) b e
theorem Rels.set : ∀ {ds : List D} {vs : List V} (i : Nat) {d : D} {v : V}, Rels K cl H ρ ds vs → Rel K cl H ρ d v → Rels K cl H ρ (ds.set i d) (vs.set i v)
  | [], _, _, _, _, h, _ => by cases h; rfl
  | d :: ds, _, 0, _, _, h, q => by
    obtain ⟨v, r, rfl, a, b⟩ := h
    exact ⟨_, r, rfl, q, b⟩
  | d :: ds, _, i + 1, _, _, h, q => by
    obtain ⟨v, r, rfl, a, b⟩ := h
    exact ⟨v, _, rfl, a, Rels.set i b q⟩
theorem Rels.drop : ∀ {ds : List D} {vs : List V} (n : Nat), Rels K cl H ρ ds vs → Rels K cl H ρ (ds.drop n) (vs.drop n)
  | _, _, 0, h => h
  | [], _, n + 1, h => by cases h; rfl
  | d :: ds, _, n + 1, h => by
    obtain ⟨v, r, rfl, a, b⟩ := h
    exact Rels.drop n b
theorem Rels.take : ∀ {ds : List D} {vs : List V} (n : Nat), Rels K cl H ρ ds vs → Rels K cl H ρ (ds.take n) (vs.take n)
  | _, _, 0, h => rfl
  | [], _, n + 1, h => by cases h; rfl
  | d :: ds, _, n + 1, h => by
    obtain ⟨v, r, rfl, a, b⟩ := h
    exact ⟨v, _, rfl, a, Rels.take n b⟩
theorem Rels.reverse : ∀ {ds : List D} {vs : List V}, Rels K cl H ρ ds vs → Rels K cl H ρ ds.reverse vs.reverse
  | [], _, h => by cases h; rfl
  | d :: ds, _, h => by
    obtain ⟨v, r, rfl, a, b⟩ := h
    simp only [List.reverse_cons]
    exact (Rels.reverse b).append ⟨v, [], rfl, a, rfl⟩
theorem Rels.eraseIdx : ∀ {ds : List D} {vs : List V} (n : Nat), Rels K cl H ρ ds vs → Rels K cl H ρ (ds.eraseIdx n) (vs.eraseIdx n)
  | [], _, _, e => by cases e; rfl
  | d :: ds, _, 0, h => by
    obtain ⟨v, r, rfl, a, b⟩ := h
    exact b
  | d :: ds, _, n + 1, h => by
    obtain ⟨v, r, rfl, a, b⟩ := h
    exact ⟨v, _, rfl, a, Rels.eraseIdx n b⟩
theorem Rels.dropLast {ds : List D} {vs : List V} (h : Rels K cl H ρ ds vs) : Rels K cl H ρ ds.dropLast vs.dropLast := by
  rw [List.dropLast_eq_take, List.dropLast_eq_take, ← h.length]
  exact h.take _
/-- a list, frozen or of the store -/
theorem lstOf_rel (r : RepS K cl H ρ st) {d : D} {v : V} {ds : List D} (h : lstOf st d = some ds) (q : Rel K cl H ρ d v) : ∃ a vs, v = .ref a ∧ Rd H a (.lst vs) ∧ Rels K cl H ρ ds vs := by
  cases d with
  | lst xs =>
    cases h
    obtain ⟨a, vs, e, k, _, rr⟩ := q
    exact ⟨a, vs, e, k, rr⟩
  | obj n =>
    obtain ⟨a, e, k⟩ := q
    simp only [lstOf] at h
    split at h
    · rename_i xs e2
      cases h
      obtain ⟨b, e3, vs, e4, rr⟩ := r.has n _ e2
      rw [k] at e3
      cases e3
      exact ⟨a, vs, e, .inl e4, rr⟩
    · cases h
  | _ => cases h
theorem rels_int {K : PySem.W.Frag} {cl : Nat → Addr} {H : Hp} {ρ : Rho} : ∀ ns : List Int, Rels K cl H ρ (ns.map .int) (ns.map V.int)
  | [] => rfl
  | n :: ns => ⟨_, _, rfl, rfl, rels_int ns⟩
theorem seqOf_rel (r : RepS K cl H ρ st) {d : D} {v : V} {ds : List D} (h : seqOf st d = some ds) (q : Rel K cl H ρ d v) : ∃ a vs, v = .ref a ∧ (SqL K H a vs ∨ SqT K H a vs) ∧ Rels K cl H ρ ds vs := by
  cases d with
  | scr ns =>
    cases h
    obtain ⟨a, e, k⟩ := q
    exact ⟨a, ns.map V.int, e, .inl (k.imp (fun k => k.1) id), rels_int ns⟩
  | tup xs =>
    cases h
    obtain ⟨a, vs, e, k, rr⟩ := q
    exact ⟨a, vs, e, .inr k, rr⟩
  | lst xs =>
    cases h
    obtain ⟨a, vs, e, k, _, rr⟩ := q
    exact ⟨a, vs, e, .inl (.inl k), rr⟩
  | obj n =>
    obtain ⟨a, vs, e, k, rr⟩ := lstOf_rel r (d := .obj n) h q
    exact ⟨a, vs, e, .inl (.inl k), rr⟩
  | _ => cases h
theorem dctOf_rel (r : RepS K cl H ρ st) {d : D} {v : V} {ds : List (D × D)} (h : dctOf st d = some ds) (q : Rel K cl H ρ d v) : ∃ a vs, v = .ref a ∧ Rd H a (.dK vs) ∧ RelK K cl H ρ ds vs := by
  cases d with
  | dct xs =>
    cases h
    obtain ⟨a, vs, e, k, _, rr⟩ := q
    exact ⟨a, vs, e, k, rr⟩
  | obj n =>
    obtain ⟨a, e, k⟩ := q
    simp only [dctOf] at h
    split at h
    · rename_i xs e2
      cases h
      obtain ⟨b, e3, vs, e4, rr⟩ := r.has n _ e2
      rw [k] at e3
      cases e3
      exact ⟨a, vs, e, .inl e4, rr⟩
    · cases h
  | _ => cases h
/-- a new frozen list, a new tuple -/
theorem rel_newL (r : RepS K cl H ρ st) {p : Addr} {ds : List D} {vs : List V} (h : H p = none) (q : Rels K cl H ρ ds vs) : Rel K cl (upd H p (.lst vs)) ρ (.lst ds) (.ref p) :=
  ⟨p, vs, rfl, .inl upd_same, r.free h, q.mono (Step.same (same_new h)) ds⟩
theorem rel_newT {p : Addr} {ds : List D} {vs : List V} (h : H p = none) (q : Rels K cl H ρ ds vs) : Rel K cl (upd H p (.tup vs)) ρ (.tup ds) (.ref p) :=
  ⟨p, vs, rfl, .inl (.inl upd_same), q.mono (Step.same (same_new h)) ds⟩
end
end Dv
namespace Dv
open PySem L2 PyProof.V
def encK : Key → PyData
  | .inl i => .int i
  | .inr x => .str x
theorem enc_reads {h : Heap} {P : Program} {w : World} : ∀ (k : Key) (v : Value), (mixKind P w).is k v = true → Reads h v (encK k) [] := fun k v e => by
  rcases keyIs_shape e with ⟨i, t, rfl, rfl⟩ | ⟨x, t, rfl, rfl⟩
  · exact Reads.int i t
  · exact Reads.str x t
section
variable {X : Cx} {cl : Nat → Addr} {pins : List (Addr × Obj)} {σ : L2.St} {H : Hp} {ρ : Rho} {s : Shared}
theorem key_py (k : D) (key : Key) (h : Rel X.K cl H ρ k (kV key)) : pyD k = encK key := by
  cases key with
  | inl i =>
    cases k with
    | non => cases (show V.int i = .non from h)
    | bl b => cases (show V.int i = .bl b from h)
    | int j => cases (show V.int i = .int j from h); rfl
    | str x => cases (show V.int i = .str x ∧ _ from h).1
    | tup ds => obtain ⟨_, _, e, _⟩ := h; cases e
    | lst ds => obtain ⟨_, _, e, _⟩ := h; cases e
    | dct ds => obtain ⟨_, _, e, _⟩ := h; cases e
    | ins c ds => obtain ⟨_, _, _, e, _⟩ := h; cases e
    | obj n => obtain ⟨_, e, _⟩ := h; cases e
    | scr n => obtain ⟨_, e, _⟩ := h; cases e
  | inr y =>
    cases k with
    | non => cases (show V.str y = .non from h)
    | bl b => cases (show V.str y = .bl b from h)
    | int j => cases (show V.str y = .int j from h)
    | str x => cases (show V.str y = .str x ∧ _ from h).1; rfl
    | tup ds => obtain ⟨_, _, e, _⟩ := h; cases e
    | lst ds => obtain ⟨_, _, e, _⟩ := h; cases e
    | dct ds => obtain ⟨_, _, e, _⟩ := h; cases e
    | ins c ds => obtain ⟨_, _, _, e, _⟩ := h; cases e
    | obj n => obtain ⟨_, e, _⟩ := h; cases e
    | scr n => obtain ⟨_, e, _⟩ := h; cases e
mutual
theorem cl_reads (I : Inv X pins σ H s) : ∀ (d : D) (v : V) (u : Value), clD d = true → Rel X.K cl H ρ d v → RelV v u → ∃ as, Reads s.heap u (pyD d) as ∧ sysModules ∉ as
  | .non, v, u, _, h, r => by
    cases (show v = .non from h)
    cases r
    exact ⟨_, Reads.none, List.not_mem_nil⟩
  | .bl b, v, u, _, h, r => by
    cases (show v = .bl b from h)
    cases r
    exact ⟨_, Reads.bool b, List.not_mem_nil⟩
  | .int i, v, u, _, h, r => by
    cases (show v = .int i from h)
    obtain ⟨t, rfl⟩ := r
    exact ⟨_, Reads.int i t, List.not_mem_nil⟩
  | .str x, v, u, _, h, r => by
    obtain ⟨rfl, _⟩ := (show v = .str x ∧ _ from h)
    obtain ⟨t, rfl⟩ := r
    exact ⟨_, Reads.str x t, List.not_mem_nil⟩
  | .tup ds, v, u, c, h, r => by
    obtain ⟨a, vs, rfl, hs, hr⟩ := h
    cases r
    (obtain ⟨its, rv, ⟨o, ho, hc, n, hd⟩, _⟩ := I.tuple hs)
    obtain ⟨as, q, n2⟩ := cl_readsAll I ds _ its (by simpa [clD] using c) hr rv
    exact ⟨_, Reads.tuple ho hc hd q, n2⟩
  | .dct kvs, v, u, c, h, r => by
    obtain ⟨a, kus, rfl, hs, _, hr⟩ := h
    cases r
    obtain ⟨_, hS, vs, kv, m⟩ := Rd.ok hs I.hok
    obtain ⟨as, q, n2⟩ := cl_pairs I kvs kus vs (by simpa [clD] using c) hr kv
    refine ⟨_, reads_dictOf enc_reads m q, fun z => ?_⟩
    rcases List.mem_cons.mp z with e | z
    · rw [← e] at hS
      simp at hS
    · exact n2 z
  | .lst _, _, _, c, _, _ => by simp [clD] at c
  | .ins _ _, _, _, c, _, _ => by simp [clD] at c
  | .obj _, _, _, c, _, _ => by simp [clD] at c
  | .scr _, _, _, c, _, _ => by simp [clD] at c
theorem cl_readsAll (I : Inv X pins σ H s) : ∀ (ds : List D) (vs : List V) (us : List Value), clDs ds = true → Rels X.K cl H ρ ds vs → Vals vs us → ∃ as, ReadsAll s.heap us (pyDs ds) as ∧ sysModules ∉ as
  | [], vs, us, _, h, r => by
    cases (show vs = [] from h)
    cases r
    exact ⟨_, ReadsAll.nil, List.not_mem_nil⟩
  | d :: ds, vs, us, c, h, r => by
    obtain ⟨v, rs, rfl, h1, h2⟩ := h
    simp only [clDs, Bool.and_eq_true] at c
    cases r with
    | cons r1 r2 =>
      obtain ⟨as, q1, n1⟩ := cl_reads I d _ _ c.1 h1 r1
      obtain ⟨bs, q2, n2⟩ := cl_readsAll I ds _ _ c.2 h2 r2
      exact ⟨_, ReadsAll.cons q1 q2, fun z => (List.mem_append.mp z).elim n1 n2⟩
theorem cl_pairs (I : Inv X pins σ H s) : ∀ (kvs : List (D × D)) (kus : List (Key × V)) (vs : List (Key × Value)), clDk kvs = true → RelK X.K cl H ρ kvs kus → KV kus vs → ∃ as, PairsRead s.heap encK vs (pyDk kvs) as ∧ sysModules ∉ as
  | [], kus, vs, _, h, r => by
    cases (show kus = [] from h)
    cases r
    exact ⟨_, .nil, List.not_mem_nil⟩
  | (k, d) :: kvs, kus, vs, c, h, r => by
    obtain ⟨key, v, rs, rfl, h0, h1, h2⟩ := h
    simp only [clDk, Bool.and_eq_true] at c
    cases r with
    | @cons _ q _ _ r1 r2 =>
      obtain ⟨k2, u⟩ := q
      obtain ⟨e, ru⟩ := r1
      cases (show key = k2 from e)
      obtain ⟨as, q1, n1⟩ := cl_reads I d _ _ c.1.2 h1 ru
      obtain ⟨bs, q2, n2⟩ := cl_pairs I kvs _ _ c.2 h2 r2
      have ek := key_py k key h0
      show ∃ as, PairsRead s.heap encK ((key, u) :: _) ((pyD k, pyD d) :: pyDk kvs) as ∧ sysModules ∉ as
      rw [ek]
      exact ⟨_, .cons q1 q2, fun z => (List.mem_append.mp z).elim n1 n2⟩
end
/-- as it stands, or a dict that is there -/
def RelR (K : PySem.W.Frag) (cl : Nat → Addr) (H : Hp) (ρ : Rho) (d : D) (v : V) : Prop := Rel K cl H ρ d v ∨ ∃ kvs a kus, d = .dct kvs ∧ v = .ref a ∧ H a = some (.dK kus) ∧ RelK K cl H ρ kvs kus
theorem cl_readsR (I : Inv X pins σ H s) {d : D} {v : V} {u : Value} (c : clD d = true) (h : RelR X.K cl H ρ d v) (r : RelV v u) : ∃ as, Reads s.heap u (pyD d) as ∧ sysModules ∉ as := by
  rcases h with h | ⟨kvs, a, kus, rfl, rfl, hs, hr⟩
  · exact cl_reads I d v u c h r
  · cases r
    obtain ⟨_, hS, vs, kv, m⟩ := Rd.ok (Rd.of hs) I.hok
    obtain ⟨as, q, n2⟩ := cl_pairs I kvs kus vs (by simpa [clD] using c) hr kv
    refine ⟨_, reads_dictOf enc_reads m q, fun z => ?_⟩
    rcases List.mem_cons.mp z with e | z
    · rw [← e] at hS
      simp at hS
    · exact n2 z
/-- repr of what is told by what it holds -/
theorem call_reprD (hg : X.A.guards = some []) (hu : X.A.units + 64 < cLine) : CallR X (.builtin "repr") (fun vs H Q => ∃ (v : V) (d : D) (ρ : Rho), vs = [v] ∧ RelR X.K cl H ρ d v ∧ clD d = true ∧ (pyD d).showable = true ∧ (pyD d).depth ≤ 40 ∧ (pyD d).shown.length ≤ sizeLine ∧ Q (.str (pyD d).shown) H) := by
  intro pins s σ H vs
  intro us Q I r h
  obtain ⟨v, d, ρ, rfl, h1, h2, h3, h4, h5, q⟩ := h
  obtain ⟨val, rfl, ru⟩ : ∃ val, us = [val] ∧ RelV v val := by
    cases r with
    | cons r t => cases t; exact ⟨_, rfl, r⟩
  obtain ⟨as, hr, hn⟩ := cl_readsR I h2 h1 ru
  have far : ∀ p, val = .ref p → wpAny (model X.prog X.w) X.A (call (.builtin "repr") [val]) (EP X pins σ Q) X.xe s := fun p e => by
    subst e
    exact repr_of_reads' hr h3 (fun _ => hn) hg (by omega) (fun _ _ e => e) (fun h' u tk hk => ⟨.str _, H, I.kept (t' := tk) hk, ⟨u, rfl⟩, q⟩) h5
  rcases h1 with h1 | ⟨kvs, a, kus, rfl, rfl, _⟩
  · cases d with
    | non =>
      cases (show v = .non from h1)
      cases (show val = Value.none from ru)
      exact PySem.P.repr_of_none ⟨.str _, H, I.tok _, ⟨_, rfl⟩, q⟩
    | bl b =>
      cases (show v = .bl b from h1)
      cases (show val = Value.bool b from ru)
      exact PySem.P.repr_of_bool ⟨.str _, H, I.tok _, ⟨_, rfl⟩, q⟩
    | int i =>
      cases (show v = .int i from h1)
      obtain ⟨t, rfl⟩ := (show ∃ t, val = Value.int i t from ru)
      exact PySem.P.repr_of_int (of_decide_eq_true h3) ⟨.str _, H, I.tok _, ⟨_, rfl⟩, q⟩
    | str x =>
      obtain ⟨rfl, _⟩ := (show v = .str x ∧ _ from h1)
      obtain ⟨t, rfl⟩ := (show ∃ t, val = Value.str x t from ru)
      exact PySem.P.repr_of_str ⟨.str _, H, I.tok _, ⟨_, rfl⟩, q⟩ h5
    | tup ds =>
      obtain ⟨a, vs, rfl, _⟩ := h1
      exact far _ ru
    | dct ds =>
      obtain ⟨a, vs, rfl, _⟩ := h1
      exact far _ ru
    | lst _ => simp [clD] at h2
    | ins _ _ => simp [clD] at h2
    | obj _ => simp [clD] at h2
    | scr _ => simp [clD] at h2
  · exact far _ ru
end
end Dv
namespace Dv
open PySem L2 PyProof.Rows
section
variable {Q : Value → Shared → Prop} {E : Value → Shared → Prop} {A : Around} {s : Shared} {w : World} {prog : Program} {its : List Value} {ns : List Int} {l : Addr}
/-- all objects are as they were -/
def StayH (h h' : Heap) : Prop := ∀ b o, h.get? b = some o → h'.get? b = some o
def Least (ns : List Int) (m : Int) : Prop := m ∈ ns ∧ ∀ a ∈ ns, m ≤ a
def Most (ns : List Int) (m : Int) : Prop := m ∈ ns ∧ ∀ a ∈ ns, a ≤ m
theorem ints_num (hi : IntsAre its ns) : ∀ (i : Nat) (v : Value), its.toArray[i]? = some v → ∃ t, v = Value.int (ns.getD i 0) t := fun i v hv =>
  PyProof.Rows.IntsAre.int_at hi i v (by rw [List.getElem?_toArray] at hv; exact hv)
theorem two_old {h : Heap} {o : Obj} (hlt : l < h.objs.size) : ∀ b ∈ [h.objs.size, l], b < (h.push o).objs.size := fun b hb => by
  rw [Heap.size_push]
  (rcases List.mem_cons.mp hb with e | e)
  · rw [e]
    exact Nat.lt_succ_self _
  · (rw [List.mem_singleton.mp e])
    exact Nat.lt_succ_of_lt hlt
theorem new_kept {h h' : Heap} {o : Obj} (hk : ∀ b u, b ∉ [h.objs.size] → (h.push o).get? b = some u → h'.get? b = some u) : ∀ b u, h.get? b = some u → h'.get? b = some u := fun b u e =>
  hk b u (fun z => Nat.ne_of_lt (Heap.lt_size e) (List.mem_singleton.mp z)) (Heap.get?_push_of_some _ e)
theorem getD_in {m : Nat} (h : m < ns.length) : ns.getD m 0 ∈ ns := by
  rw [List.getD_eq_getElem?_getD, List.getElem?_eq_getElem h]
  exact List.getElem_mem h
theorem in_getD {a : Int} (h : a ∈ ns) : ∃ j, j < ns.length ∧ a = ns.getD j 0 := by
  (obtain ⟨j, hj, e⟩ := List.getElem_of_mem h)
  exact ⟨j, hj, by rw [List.getD_eq_getElem?_getD, List.getElem?_eq_getElem hj, ← e] <;> rfl⟩
theorem min_tup (hh : A.handled = none) (hl : s.heap.IsTuple l its.toArray) (hi : IntsAre its ns) (hne : 0 < ns.length)
    (h : ∀ (h' : Heap) (m : Int) (u tk : Tok), StayH s.heap h' → Least ns m → Q (.int m u) { s with heap := h', toks := tk }) : wpAny (model prog w) A (call (.builtin "min") [.ref l]) Q E s := by
  have hlt : l < s.heap.objs.size := by
    obtain ⟨o, ho, _⟩ := hl
    exact Heap.lt_size ho
  have hz : its.toArray.size = ns.length := by rw [List.size_toArray, hi.length]
  refine call_min_walk (wpAny_pyIter_tuple hl ⟨_, _, _, _, _, _, _, rfl, Walks.tuple (A := A.in1) hh _ l (Nat.ne_of_lt hlt) its.toArray, ⟨⟨_, Heap.get?_push_size _ rfl, rfl, rfl⟩, hl.push _⟩, two_old hlt, by rw [hz]; exact hne,
    CmpOf.ints_lt (fun i => ns.getD i 0) (ints_num hi), fun v h' tk hP hk => ?_⟩)
  obtain ⟨t, rfl⟩ := ints_num hi _ _ hP
  obtain ⟨h1, h2⟩ := argBest_lt (fun i => ns.getD i 0) (its.toArray.size - 1)
  refine h h' _ t tk (new_kept hk) ⟨getD_in (by omega), fun a ha => ?_⟩
  obtain ⟨j, hj, rfl⟩ := in_getD ha
  exact h2 j (by omega)
theorem max_tup (hh : A.handled = none) (hl : s.heap.IsTuple l its.toArray) (hi : IntsAre its ns) (hne : 0 < ns.length)
    (h : ∀ (h' : Heap) (m : Int) (u tk : Tok), StayH s.heap h' → Most ns m → Q (.int m u) { s with heap := h', toks := tk }) : wpAny (model prog w) A (call (.builtin "max") [.ref l]) Q E s := by
  have hlt : l < s.heap.objs.size := by
    obtain ⟨o, ho, _⟩ := hl
    exact Heap.lt_size ho
  have hz : its.toArray.size = ns.length := by rw [List.size_toArray, hi.length]
  refine call_max_walk (wpAny_pyIter_tuple hl ⟨_, _, _, _, _, _, _, rfl, Walks.tuple (A := A.in1) hh _ l (Nat.ne_of_lt hlt) its.toArray, ⟨⟨_, Heap.get?_push_size _ rfl, rfl, rfl⟩, hl.push _⟩, two_old hlt, by rw [hz]; exact hne,
    CmpOf.ints_gt (fun i => ns.getD i 0) (ints_num hi), fun v h' tk hP hk => ?_⟩)
  obtain ⟨t, rfl⟩ := ints_num hi _ _ hP
  obtain ⟨h1, h2⟩ := argBest_gt (fun i => ns.getD i 0) (its.toArray.size - 1)
  refine h h' _ t tk (new_kept hk) ⟨getD_in (by omega), fun a ha => ?_⟩
  obtain ⟨j, hj, rfl⟩ := in_getD ha
  exact h2 j (by omega)
end
section
variable {X : Cx}
theorem cr_minS (hc : X.calm = true) : CallR X (.builtin "min") (fun vs H Q => ∃ (a : Addr) (ns : List Int), vs = [V.ref a] ∧ (SqL X.K H a (ns.map V.int) ∨ SqT X.K H a (ns.map V.int)) ∧ 0 < ns.length ∧ ∀ m, m ∈ ns → (∀ y, y ∈ ns → m ≤ y) → Q (.int m) H) := by
  intro pins s σ H vs us Q inv r h
  (obtain ⟨a, ns, rfl, hs, hne, q⟩ := h)
  rcases hs with hs | hs
  · exact cr_min hc pins s σ H _ us Q inv r ⟨a, ns, rfl, hs, hne, q⟩
  · obtain ⟨its, rv, hl, _⟩ := inv.tuple hs
    rw [Vals.ref1 r]
    exact min_tup (inv.ok.hd hc) hl rv.ints hne fun h' m u tk k e => ⟨.int m, H, inv.kept k, ⟨u, rfl⟩, q m e.1 e.2⟩
theorem cr_maxS (hc : X.calm = true) : CallR X (.builtin "max") (fun vs H Q => ∃ (a : Addr) (ns : List Int), vs = [V.ref a] ∧ (SqL X.K H a (ns.map V.int) ∨ SqT X.K H a (ns.map V.int)) ∧ 0 < ns.length ∧ ∀ m, m ∈ ns → (∀ y, y ∈ ns → y ≤ m) → Q (.int m) H) := by
  intro pins s σ H vs us Q inv r h
  (obtain ⟨a, ns, rfl, hs, hne, q⟩ := h)
  rcases hs with hs | hs
  · exact cr_max hc pins s σ H _ us Q inv r ⟨a, ns, rfl, hs, hne, q⟩
  · obtain ⟨its, rv, hl, _⟩ := inv.tuple hs
    rw [Vals.ref1 r]
    exact max_tup (inv.ok.hd hc) hl rv.ints hne fun h' m u tk k e => ⟨.int m, H, inv.kept k, ⟨u, rfl⟩, q m e.1 e.2⟩
end
end Dv
namespace Dv
open PySem L2
theorem peImp {X : Cx} {e : Expr} {t t' : TE} (h : PE X e t) (i : ∀ σ H Q, t' σ H Q → t σ H Q) : PE X e t' := ⟨fun pins s σ H Q I q => h.run pins s σ H Q I (i σ H Q q)⟩
theorem ptImp {X : Cx} {e : Expr} {t t' : TT} (h : PT X e t) (i : ∀ σ H Q, t' σ H Q → t σ H Q) : PT X e t' := ⟨fun pins s σ H Q I q => h.run pins s σ H Q I (i σ H Q q)⟩
theorem pwImp {X : Cx} {e : Expr} {t t' : TT} (h : PW X e t) (i : ∀ σ H Q, t' σ H Q → t σ H Q) : PW X e t' := ⟨fun wh pins s σ H Q I q => h.run wh pins s σ H Q I (i σ H Q q)⟩
theorem paImp {X : Cx} {es : List Expr} {t t' : TA} (h : PA X es t) (i : ∀ σ H Q, t' σ H Q → t σ H Q) : PA X es t' := ⟨fun pos pins s σ H Q I q => h.run pos pins s σ H Q I (i σ H Q q)⟩
theorem psImp {X : Cx} {e : Stmt} {t t' : TS} (h : PS X e t) (i : ∀ D σ H, t' D σ H → t D σ H) : PS X e t' := ⟨fun pins s σ H D I q => h.run pins s σ H D I (i D σ H q)⟩
theorem pssImp {X : Cx} {e : List Stmt} {t t' : TS} (h : PSs X e t) (i : ∀ D σ H, t' D σ H → t D σ H) : PSs X e t' := ⟨fun pins s σ H D I q => h.run pins s σ H D I (i D σ H q)⟩
theorem pgImp {X : Cx} {e : Expr} {t t' : TG} (h : PG X e t) (i : ∀ v σ H Q, t' v σ H Q → t v σ H Q) : PG X e t' := ⟨fun pins s σ H v u Q I r q => h.run pins s σ H v u Q I r (i v σ H Q q)⟩
theorem piImp {X : Cx} {tg e : Expr} {t t' : TI} (h : PI X tg e t) (i : ∀ σ H R, t' σ H R → t σ H R) : PI X tg e t' := ⟨fun pins s σ H R I q => h.run pins s σ H R I (i σ H R q)⟩
section
variable (K : PySem.W.Frag) (cl : Nat → Addr)
/-- the slots stand -/
structure REnv (H : Hp) (ρ : Rho) (η : Env) (σ : L2.St) : Prop where
  len : η.length = σ.length
  get : ∀ (i : Nat) d, η[i]? = some (some d) → ∃ v, σ[i]? = some (some v) ∧ Rel K cl H ρ d v
/-- what is wanted of an evaluation's end -/
def Post {α β : Type} (rel : Hp → Rho → α → β → Prop) (H : Hp) (ρ : Rho) (R : Res α) (Q : β → Hp → Prop) (E : Value → Option Addr → Hp → Prop) : Prop :=
  match R with
  | .ok a st' => ∀ H' ρ' b, Step H ρ H' ρ' → RepS K cl H' ρ' st' → rel H' ρ' a b → Q b H'
  | .exc c fs st' => ∀ H' ρ' dd gs, Step H ρ H' ρ' → RepS K cl H' ρ' st' → H' dd = some (.xd gs) → RelF K cl H' ρ' fs gs → E (.ref (cl c)) (some dd) H'
  | .bad => False
/-- an evaluation as a reading -/
def TX {α β : Type} (rel : Hp → Rho → α → β → Prop) (W : WX) (ev : Env → Sto → Res α) : L2.St → Hp → (β → Hp → Prop) → Prop := fun σ H Q =>
  ∃ ρ η st, REnv K cl H ρ η σ ∧ RepS K cl H ρ st ∧ Post K cl rel H ρ (ev η st) Q fun c d H' => W c d σ H'
end
section
variable {K : PySem.W.Frag} {cl : Nat → Addr}
theorem REnv.mono {H H' : Hp} {ρ ρ' : Rho} {η : Env} {σ : St} (r : REnv K cl H ρ η σ) (s : Step H ρ H' ρ') : REnv K cl H' ρ' η σ :=
  ⟨r.len, fun i d e => let ⟨v, h, q⟩ := r.get i d e; ⟨v, h, q.mono s d⟩⟩
theorem REnv.set {H : Hp} {ρ : Rho} {η : Env} {σ : St} (r : REnv K cl H ρ η σ) (i : Nat) {d : D} {v : V} (q : Rel K cl H ρ d v) : REnv K cl H ρ (η.set i (some d)) (σ.set i (some v)) := by
  refine ⟨by rw [List.length_set, List.length_set, r.len], fun j d' e => ?_⟩
  by_cases h : i = j
  · subst h
    by_cases hi : i < η.length
    · rw [List.getElem?_set_self hi] at e
      cases e
      exact ⟨v, by rw [List.getElem?_set_self (by rw [← r.len]; exact hi)], q⟩
    · rw [List.getElem?_eq_none (by simpa using hi)] at e
      cases e
  · rw [List.getElem?_set_ne h] at e
    obtain ⟨u, h1, h2⟩ := r.get j d' e
    exact ⟨u, by rw [List.getElem?_set_ne h]; exact h1, h2⟩
theorem REnv.wipe {H : Hp} {ρ : Rho} {η : Env} {σ : St} (r : REnv K cl H ρ η σ) : ∀ vs : List Nat, REnv K cl H ρ (wipeE η vs) (wipe σ vs)
  | [] => r
  | v :: vs => by
    have ih := REnv.wipe r vs
    refine ⟨?_, fun j d e => ?_⟩
    · show ((wipeE η vs).set v none).length = ((L2.wipe σ vs).set v none).length
      rw [List.length_set, List.length_set, ih.len]
    · have e : ((wipeE η vs).set v none)[j]? = some (some d) := e
      by_cases h : v = j
      · subst h
        by_cases hi : v < (wipeE η vs).length
        · rw [List.getElem?_set_self hi] at e
          cases e
        · rw [List.getElem?_eq_none (by simpa using hi)] at e
          cases e
      · rw [List.getElem?_set_ne h] at e
        obtain ⟨u, h1, h2⟩ := ih.get j d e
        exact ⟨u, by show ((L2.wipe σ vs).set v none)[j]? = _; rw [List.getElem?_set_ne h]; exact h1, h2⟩
theorem Post.step {α β : Type} {rel : Hp → Rho → α → β → Prop} {H H1 : Hp} {ρ ρ1 : Rho} {R : Res α} {Q : β → Hp → Prop} {E : Value → Option Addr → Hp → Prop} (h : Post K cl rel H ρ R Q E) (s : Step H ρ H1 ρ1) : Post K cl rel H1 ρ1 R Q E := by
  cases R with
  | ok a st => exact fun H' ρ' b s' r q => h H' ρ' b (s.trans s') r q
  | exc c fs st => exact fun H' ρ' dd gs s' r q f => h H' ρ' dd gs (s.trans s') r q f
  | bad => exact h
theorem Post.imp {α β : Type} {rel : Hp → Rho → α → β → Prop} {H : Hp} {ρ : Rho} {R : Res α} {Q Q' : β → Hp → Prop} {E E' : Value → Option Addr → Hp → Prop} (h : Post K cl rel H ρ R Q E) (hq : ∀ b H', Q b H' → Q' b H') (he : ∀ c d H', E c d H' → E' c d H') : Post K cl rel H ρ R Q' E' := by
  cases R with
  | ok a st => exact fun H' ρ' b s' r q => hq _ _ (h H' ρ' b s' r q)
  | exc c fs st => exact fun H' ρ' dd gs s' r q f => he _ _ _ (h H' ρ' dd gs s' r q f)
  | bad => exact h
/-- one after the other -/
theorem Post.bind {α β γ δ : Type} {rel : Hp → Rho → α → β → Prop} {rel2 : Hp → Rho → γ → δ → Prop} {H : Hp} {ρ : Rho} {R : Res α} {f : α → Sto → Res γ} {Q : δ → Hp → Prop} {E : Value → Option Addr → Hp → Prop} (h : Post K cl rel2 H ρ (R.bind f) Q E) :
    Post K cl rel H ρ R (fun b H1 => ∃ a st1 ρ1, R = .ok a st1 ∧ Step H ρ H1 ρ1 ∧ RepS K cl H1 ρ1 st1 ∧ rel H1 ρ1 a b ∧ Post K cl rel2 H1 ρ1 (f a st1) Q E) E := by
  cases R with
  | ok a st => exact fun H' ρ' b s' r q => ⟨a, st, ρ', rfl, s', r, q, Post.step (show Post K cl rel2 H ρ (f a st) Q E from h) s'⟩
  | exc c fs st => exact h
  | bad => exact h
theorem Post.ofO {α β : Type} {rel : Hp → Rho → α → β → Prop} {H : Hp} {ρ : Rho} {x : Option α} {st : Sto} {Q : β → Hp → Prop} {E : Value → Option Addr → Hp → Prop} (h : Post K cl rel H ρ (Dv.ofO x st) Q E) : ∃ a, x = some a ∧ Post K cl rel H ρ (.ok a st) Q E := by
  cases x with
  | none => exact h.elim
  | some a => exact ⟨a, rfl, h⟩
/-- an end that is told at once -/
theorem Post.here {α β : Type} {rel : Hp → Rho → α → β → Prop} {H : Hp} {ρ : Rho} {a : α} {b : β} {st : Sto} {Q : β → Hp → Prop} {E : Value → Option Addr → Hp → Prop} (h : Post K cl rel H ρ (.ok a st) Q E) (r : RepS K cl H ρ st) (q : rel H ρ a b) : Q b H := h H ρ b .refl r q
end
end Dv
namespace Dv
open PySem L2
theorem line_of {n : Nat} (h : n ≤ LIM) : n ≤ sizeLine := Nat.le_trans h (by decide)
section
variable {X : Cx}
/-- list + list, of any kind -/
theorem op_catR : OpR X (binaryOp .Add) (fun x y H Q => ∃ l b xs zs, x = .ref l ∧ y = .ref b ∧ Rd H l (.lst xs) ∧ Rd H b (.lst zs) ∧ xs.length + zs.length ≤ sizeLine ∧ ∀ p, H p = none → Q (.ref p) (upd H p (.lst (xs ++ zs)))) := by
  intro pins s σ H x y
  intro v u Q I rx ry h
  obtain ⟨l, b, xs, zs, rfl, rfl, hl, hb, hz, q⟩ := h
  cases rx
  cases ry
  obtain ⟨z1, i1, n1, r1, e1⟩ := hl.ok I.hok
  obtain ⟨z2, i2, n2, r2, e2⟩ := hb.ok I.hok
  have l1 := r1.length
  have l2 := r2.length
  refine PySem.P.add_list e1 e2 ?_ (by rw [List.size_toArray, List.size_toArray]; omega)
  rw [show i1.toArray ++ i2.toArray = (i1 ++ i2).toArray by simp]
  exact ⟨V.ref s.heap.objs.size, upd H s.heap.objs.size (.lst (xs ++ zs)), I.lnew (t' := s.toks) (Vals.append r1 r2) (by rw [List.length_append]; omega), rfl, q _ I.fresh⟩
/-- list * int, of any kind of list -/
theorem op_repR : OpR X (binaryOp .Mult) (fun x y H Q => ∃ l k xs, x = .ref l ∧ y = .int k ∧ Rd H l (.lst xs) ∧ (-(2 ^ 63) ≤ k ∧ k < 2 ^ 63) ∧ xs.length * k.toNat ≤ sizeLine ∧ ∀ p, H p = none → Q (.ref p) (upd H p (.lst (List.replicate k.toNat xs).flatten))) := by
  intro pins s σ H x y v u Q I rx
  intro ry ⟨l, k, xs, ex, ey, hl, ⟨k1, k2⟩, hz, q⟩
  subst ex ey
  cases rx
  obtain ⟨t, et⟩ := ry
  subst et
  obtain ⟨z, its, n, r, e⟩ := hl.ok I.hok
  have lr := r.length
  have size : its.toArray.size * k.toNat ≤ sizeLine := by simpa [← lr] using hz
  have cap : ¬ its.toArray.size * k.toNat > (2 ^ 63 - 1) / 8 := fun h => absurd (Nat.lt_of_lt_of_le h size) (by decide)
  have fit : ¬ (!Builtin.List.listFitsIndex k) = true := by simp [fitsIndex_both k1 k2]
  have long : ¬ Builtin.List.listTooLong (its.toArray.size * k.toNat) = true := by rw [notLongL size]; decide
  have reps : ∀ m : Nat, List.foldl (fun a b => a ++ b) #[] (List.replicate m its.toArray) = (List.replicate m its).flatten.toArray := fun m => by simpa using foldl_rep its m []
  have new : List.foldl (fun a b => a ++ b) #[] (List.replicate (if its.toArray.isEmpty = true then 0 else k.toNat) its.toArray) = (List.replicate k.toNat its).flatten.toArray := by
    rw [reps]
    cases its <;> simp
  have mul := AutoListH.list___mul___list_int_3 l its.toArray n k t fit cap long
  refine wpAny_binaryOp_repeat_ref (T := "list") (U := "int") (by decide) ⟨_, e, rfl⟩ (fun s' => typeIs_int s' k t) noFill_list_mul F.fills_int_mul F.slot_int_rmul repeat_list F.slot_int_index.lookup ?_
  refine call_meets F.slot_int_rmul (typeIs_int s k t) F.entry_int_rmul (F.args_int_rmul_2 _ _) (int___rmul___int_list k t l its.toArray n) ⟨e, rfl, ⟨_, e, rfl⟩, ?_⟩
  refine call_meets F.slot_list_mul ⟨_, e, rfl⟩ F.entry_list_mul (F.args_list_mul_2 _ _) mul ⟨e, ?_⟩
  rw [new]
  exact ⟨V.ref s.heap.objs.size, _, I.lnew (t' := s.toks) (r.rep k.toNat) (by rw [PyProof.Rows.lm_len_rep_flat, Nat.mul_comm]; exact hz), rfl, q _ I.fresh⟩
end
/-- the operator of the text -/
def bop : Op2 → Operator
  | .add => .Add | .sub => .Sub | .mul => .Mult | .fdiv => .FloorDiv | .mod => .Mod | .pow => .Pow
/-- what an operator of ours asks -/
def rOp2 (K : PySem.W.Frag) (cl : Nat → Addr) (o : Op2) : R2 := fun x y H Q => ∃ E ρ st a b, RepS K cl H ρ st ∧ Rel K cl H ρ a x ∧ Rel K cl H ρ b y ∧ Post K cl (Rel K cl) H ρ (op2 o a b st) Q E
theorem fd_eq (i j : Int) : i.fdiv j = fd i j := by
  unfold fd
  split
  · exact Int.fdiv_eq_ediv_of_nonneg i (by omega)
  · rfl
theorem fm_eq (i j : Int) : i.fmod j = fm i j := by
  unfold fm
  split
  · exact Int.fmod_eq_emod_of_nonneg i (by omega)
  · rfl
theorem strOk_append {x y : Str} (a : PyData.strOk x = true) (b : PyData.strOk y = true) : PyData.strOk (x ++ y) = true := by
  unfold PyData.strOk at *
  show ((x.cps ++ y.cps).all _) = true
  rw [Array.all_append, a, b]
  rfl
theorem rels_rep {K : PySem.W.Frag} {cl : Nat → Addr} {H : Hp} {ρ : Rho} {ds : List D} {vs : List V} (h : Rels K cl H ρ ds vs) : ∀ n : Nat, Rels K cl H ρ (List.replicate n ds).flatten (List.replicate n vs).flatten
  | 0 => rfl
  | n + 1 => by
    simp only [List.replicate_succ, List.flatten_cons]
    exact h.append (rels_rep h n)
section
variable {X : Cx} {cl : Nat → Addr}
theorem op2_ok (o : Op2) : OpR X (binaryOp (bop o)) (rOp2 X.K cl o) := by
  intro pins s σ H x y
  intro v u Q I rx ry h
  obtain ⟨E, ρ, st, a, b, rs, ha, hb, hp⟩ := h
  unfold op2 at hp
  split at hp
  · cases ha; cases hb
    exact op_add pins s σ H _ _ v u Q I rx ry ⟨_, _, rfl, rfl, hp.here rs rfl⟩
  · cases ha; cases hb
    exact op_sub pins s σ H _ _ v u Q I rx ry ⟨_, _, rfl, rfl, hp.here rs rfl⟩
  · cases ha; cases hb
    split at hp
    · rename_i c
      rcases c with c | c
      · exact op_mul pins s σ H _ _ v u Q I rx ry ⟨_, _, rfl, rfl, c.imp (fun c => ⟨by omega, by omega⟩) fun c => ⟨by omega, by omega⟩, hp.here rs rfl⟩
      · exact op_mulW pins s σ H _ _ v u Q I rx ry ⟨_, _, rfl, rfl, c, hp.here rs rfl⟩
    · exact hp.elim
  · cases ha; cases hb
    split at hp
    · rename_i i j c
      obtain ⟨t, rfl⟩ := rx
      obtain ⟨t', rfl⟩ := ry
      refine PyProof.Rows.floordiv_int c.1 ?_ (.inl (PyProof.noPylong_of_log2 c.2))
      rw [fd_eq]
      exact ⟨.int _, H, I.tok _, ⟨_, rfl⟩, hp.here rs rfl⟩
    · exact hp.elim
  · cases ha; cases hb
    split at hp
    · rename_i i j c
      obtain ⟨t, rfl⟩ := rx
      obtain ⟨t', rfl⟩ := ry
      refine PyProof.Rows.mod_int c ?_
      rw [fm_eq]
      exact ⟨.int _, H, I.tok _, ⟨_, rfl⟩, hp.here rs rfl⟩
    · exact hp.elim
  · cases ha; cases hb
    split at hp
    · rename_i i j c
      exact op_pow pins s σ H _ _ v u Q I rx ry ⟨_, _, rfl, rfl, ⟨c.1, c.2.1, c.2.2⟩, hp.here rs rfl⟩
    · exact hp.elim
  · obtain ⟨rfl, ox⟩ := ha
    obtain ⟨rfl, oy⟩ := hb
    split at hp
    · rename_i c
      exact op_add_str pins s σ H _ _ v u Q I rx ry ⟨_, _, rfl, rfl, c, hp.here rs ⟨rfl, strOk_append ox oy⟩⟩
    · exact hp.elim
  · obtain ⟨p, vs, rfl, q1, r1⟩ := ha
    obtain ⟨p', us, rfl, q2, r2⟩ := hb
    split at hp
    · rename_i xs ys c
      have hl1 := r1.length
      have hl2 := r2.length
      refine op_catA pins s σ H _ _ v u Q I rx ry ⟨p, p', vs, us, rfl, rfl, q1, q2, line_of (by omega), fun e => ?_, fun _ e => ?_, fun n1 n2 z hz => ?_⟩
      · subst e
        have : xs = [] := List.eq_nil_of_length_eq_zero hl1
        subst this
        exact hp.here rs ⟨p', us, rfl, q2, r2⟩
      · subst e
        have : ys = [] := List.eq_nil_of_length_eq_zero hl2
        subst this
        rw [List.append_nil] at hp
        exact hp.here rs ⟨p, vs, rfl, q1, r1⟩
      · exact hp _ ρ _ (Step.same (same_new hz)) (rs.same (same_new hz)) (rel_newT hz (r1.append r2))
    · exact hp.elim
  · cases hb
    obtain ⟨p, vs, rfl, q1, r1⟩ := ha
    split at hp
    · rename_i xs k c
      have hl1 := r1.length
      refine op_repT pins s σ H _ _ v u Q I rx ry ⟨p, k, vs, rfl, rfl, q1, fun e => ?_, c.2.1, c.2.2.1, by omega, fun z hz => ?_⟩
      · subst e
        have e0 : xs = [] := List.eq_nil_of_length_eq_zero hl1
        have := c.1
        rw [e0] at this
        cases this
      · exact hp _ ρ _ (Step.same (same_new hz)) (rs.same (same_new hz)) (rel_newT hz (rels_rep r1 _))
    · exact hp.elim
  · rename_i xa xb hno1 hno2 hno3
    split at hp
    · rename_i xs ys e1 e2
      split at hp
      · rename_i c
        obtain ⟨p, vs, rfl, q1, r1⟩ := lstOf_rel rs e1 ha
        obtain ⟨p', us, rfl, q2, r2⟩ := lstOf_rel rs e2 hb
        have hl1 := r1.length
        have hl2 := r2.length
        refine op_catR pins s σ H _ _ v u Q I rx ry ⟨p, p', vs, us, rfl, rfl, q1, q2, line_of (by omega), fun z hz => ?_⟩
        exact hp _ ρ _ (Step.same (same_new hz)) (rs.same (same_new hz)) (rel_newL rs hz (r1.append r2))
      · exact hp.elim
    · exact hp.elim
  · rename_i k h1 h2
    cases hb
    split at hp
    · rename_i xs e1
      split at hp
      · rename_i c
        obtain ⟨p, vs, rfl, q1, r1⟩ := lstOf_rel rs e1 ha
        have hl1 := r1.length
        refine op_repR pins s σ H _ _ v u Q I rx ry ⟨p, k, vs, rfl, rfl, q1, ⟨by have := c.1; have e : LIM = 16777216 := rfl; omega, by have := c.1; have e : LIM = 16777216 := rfl; omega⟩, line_of (by rw [← hl1]; exact c.2), fun z hz => ?_⟩
        exact hp _ ρ _ (Step.same (same_new hz)) (rs.same (same_new hz)) (rel_newL rs hz (rels_rep r1 _))
      · exact hp.elim
    · exact hp.elim
  · exact hp.elim
end
end Dv
namespace Dv
open PySem L2
theorem mapM_cons_some {α β : Type} {f : α → Option β} {x : α} {xs : List α} {ys : List β} (h : (x :: xs).mapM f = some ys) : ∃ y r, f x = some y ∧ xs.mapM f = some r ∧ ys = y :: r := by
  rw [List.mapM_cons] at h
  cases hx : f x with
  | none => rw [hx] at h; cases h
  | some y =>
    rw [hx] at h
    cases hr : xs.mapM f with
    | none => rw [hr] at h; cases h
    | some r =>
      rw [hr] at h
      cases h
      exact ⟨y, r, rfl, rfl, rfl⟩
theorem mapM_nil_some {α β : Type} {f : α → Option β} {ys : List β} (h : ([] : List α).mapM f = some ys) : ys = [] := by
  rw [List.mapM_nil] at h
  cases h
  rfl
section
variable {K : PySem.W.Frag} {cl : Nat → Addr} {H : Hp} {ρ : Rho} {st : Sto}
/-- what is wanted of a datum -/
def DataAt (K : PySem.W.Frag) (H : Hp) (n : Nat) (v : V) (e : D) : Prop := Dp K H v (py e) ∧ (py e).depth ≤ n ∧ (py e).canLay0 = true
def DataAts (K : PySem.W.Frag) (H : Hp) (n : Nat) (vs : List V) (es : List D) : Prop := DpAll K H vs (pys es) ∧ PyData.depthAll (pys es) ≤ n ∧ PyData.canLayAll0 (pys es) = true
theorem dataAts_of {n : Nat} {lo : Nat} (ih : ∀ d e v, deep st lo n d = some e → plain e = true → Rel K cl H ρ d v → DataAt K H n v e) :
    ∀ (ds : List D) (es : List D) (vs : List V), ds.mapM (deep st lo n) = some es → plains es = true → Rels K cl H ρ ds vs → DataAts K H n vs es
  | [], es, vs, h, _, r => by
    have := mapM_nil_some h
    subst this
    cases r
    exact ⟨.nil, Nat.zero_le _, rfl⟩
  | d :: ds, es, vs, h, p, r => by
    obtain ⟨y, ys, h1, h2, rfl⟩ := mapM_cons_some h
    obtain ⟨v, us, rfl, a, b⟩ := r
    have p' : plain y = true ∧ plains ys = true := by simpa [plains] using p
    obtain ⟨a1, a2, a3⟩ := ih d y v h1 p'.1 a
    obtain ⟨b1, b2, b3⟩ := dataAts_of ih ds ys us h2 p'.2 b
    refine ⟨.cons a1 b1, ?_, ?_⟩
    · show max (py y).depth (PyData.depthAll (pys ys)) ≤ n
      omega
    · show ((py y).canLay0 && PyData.canLayAll0 (pys ys)) = true
      rw [a3, b3]
      rfl
theorem deep_dp (rs : RepS K cl H ρ st) {lo : Nat} : ∀ (n : Nat) (d e : D) (v : V), deep st lo n d = some e → plain e = true → Rel K cl H ρ d v → DataAt K H n v e
  | 0, _, _, _, h, _, _ => by cases h
  | n + 1, d, e, v, h, p, r => by
    have ih := deep_dp rs (lo := lo) n
    have lists : ∀ {a : Addr} {ds : List D} {vs : List V}, Rd H a (.lst vs) → Rels K cl H ρ ds vs → (ds.mapM (deep st lo n)).map D.lst = some e → DataAt K H (n + 1) (.ref a) e := fun {a ds vs} k rr h => by
      cases hm : ds.mapM (deep st lo n) with
      | none => exact nomatch hm ▸ h
      | some es =>
        rw [hm] at h
        cases h
        obtain ⟨a1, a2, a3⟩ := dataAts_of ih ds es vs hm (by simpa [plain] using p) rr
        exact ⟨.lst (.inl k) a1, Nat.succ_le_succ a2, a3⟩
    cases d with
    | non => cases h; cases r; exact ⟨.non, Nat.zero_le _, rfl⟩
    | bl b => cases h; cases r; exact ⟨.bl b, Nat.zero_le _, rfl⟩
    | int i => cases h; cases r; exact ⟨.int i, Nat.zero_le _, rfl⟩
    | str x => cases h; obtain ⟨rfl, ok⟩ := r; exact ⟨.str x, Nat.zero_le _, ok⟩
    | tup ds =>
      obtain ⟨a, vs, rfl, k, rr⟩ := r
      have h : (ds.mapM (deep st lo n)).map D.tup = some e := h
      cases hm : ds.mapM (deep st lo n) with
      | none => exact nomatch hm ▸ h
      | some es =>
        rw [hm] at h
        cases h
        obtain ⟨a1, a2, a3⟩ := dataAts_of ih ds es vs hm (by simpa [plain] using p) rr
        exact ⟨.tup k a1, Nat.succ_le_succ a2, a3⟩
    | lst ds =>
      obtain ⟨a, vs, rfl, k, _, rr⟩ := r
      exact lists k rr h
    | dct kvs =>
      have h : ((kvs.mapM fun p => (deep st lo n p.1).bind fun k => (deep st lo n p.2).map fun v => (k, v)).map D.dct) = some e := h
      generalize (kvs.mapM fun p => (deep st lo n p.1).bind fun k => (deep st lo n p.2).map fun v => (k, v)) = z at h
      cases z with
      | none => cases h
      | some z => cases h; cases p
    | ins c fs =>
      have h : ((fs.mapM fun p => (deep st lo n p.2).map fun v => (p.1, v)).map (D.ins c)) = some e := h
      generalize (fs.mapM fun p => (deep st lo n p.2).map fun v => (p.1, v)) = z at h
      cases z with
      | none => cases h
      | some z => cases h; cases p
    | scr ns => cases h; cases p
    | obj k =>
      obtain ⟨a, rfl, ka⟩ := r
      simp only [deep] at h
      split at h
      · cases h; cases p
      · split at h
        · rename_i xs e2
          obtain ⟨b, e3, vs, e4, rr⟩ := rs.has k _ e2
          rw [ka] at e3
          cases e3
          exact lists (.inl e4) rr h
        · rename_i kvs e2
          generalize (kvs.mapM fun p => (deep st lo n p.1).bind fun k => (deep st lo n p.2).map fun v => (k, v)) = z at h
          cases z with
          | none => cases h
          | some z => cases h; cases p
        · rename_i c fs e2
          generalize (fs.mapM fun p => (deep st lo n p.2).map fun v => (p.1, v)) = z at h
          cases z with
          | none => cases h
          | some z => cases h; cases p
        · cases h
theorem data_dp (rs : RepS K cl H ρ st) {d e : D} {v : V} (h : data st d = some e) (r : Rel K cl H ρ d v) : DataAt K H levels v e ∧ plain e = true := by
  unfold data at h
  cases hd : deep st 0 levels d with
  | none => exact nomatch hd ▸ h
  | some e' =>
    rw [hd] at h
    have h : (if plain e' then some e' else none) = some e := h
    split at h
    · rename_i p
      cases h
      exact ⟨deep_dp rs levels d _ v hd p r, p⟩
    · cases h
end
mutual
theorem eqv_py : ∀ (a b : D), plain a = true → plain b = true → PyData.eqv (py a) (py b) = eqD a b
  | .non, b, _, pb => by cases b <;> simp_all [py, eqD, PyData.eqv, plain]
  | .bl x, b, _, pb => by cases b <;> simp_all [py, eqD, PyData.eqv, plain]
  | .int x, b, _, pb => by cases b <;> simp_all [py, eqD, PyData.eqv, plain]
  | .str x, b, _, pb => by cases b <;> simp_all [py, eqD, PyData.eqv, plain]
  | .tup xs, b, pa, pb => by
    cases b with
    | tup ys => simpa [py, eqD, PyData.eqv] using eqvs_py xs ys (by simpa [plain] using pa) (by simpa [plain] using pb)
    | _ => simp_all [py, eqD, PyData.eqv, plain]
  | .lst xs, b, pa, pb => by
    cases b with
    | lst ys => simpa [py, eqD, PyData.eqv] using eqvs_py xs ys (by simpa [plain] using pa) (by simpa [plain] using pb)
    | _ => simp_all [py, eqD, PyData.eqv, plain]
  | .dct _, _, pa, _ => by simp [plain] at pa
  | .ins _ _, _, pa, _ => by simp [plain] at pa
  | .obj _, _, pa, _ => by simp [plain] at pa
  | .scr _, _, pa, _ => by simp [plain] at pa
theorem eqvs_py : ∀ (a b : List D), plains a = true → plains b = true → PyData.eqvAll (pys a) (pys b) = eqDs a b
  | [], [], _, _ => by simp [pys, eqDs, PyData.eqvAll]
  | [], _ :: _, _, _ => by simp [pys, eqDs, PyData.eqvAll]
  | _ :: _, [], _, _ => by simp [pys, eqDs, PyData.eqvAll]
  | x :: xs, y :: ys, pa, pb => by
    have a' : plain x = true ∧ plains xs = true := by simpa [plains] using pa
    have b' : plain y = true ∧ plains ys = true := by simpa [plains] using pb
    simp only [pys, eqDs, PyData.eqvAll, eqv_py x y a'.1 b'.1, eqvs_py xs ys a'.2 b'.2]
end
mutual
theorem alike_py : ∀ (a b : D), kin a b = true → PySem.W.alike (py a) (py b) = true
  | .int _, b, h => by cases b <;> simp_all [kin, py, PySem.W.alike]
  | .str _, b, h => by cases b <;> simp_all [kin, py, PySem.W.alike]
  | .tup xs, b, h => by
    cases b with
    | tup ys => simpa [py, PySem.W.alike] using alikes_py xs ys (by simpa [kin] using h)
    | _ => simp [kin] at h
  | .lst xs, b, h => by
    cases b with
    | lst ys => simpa [py, PySem.W.alike] using alikes_py xs ys (by simpa [kin] using h)
    | _ => simp [kin] at h
  | .non, b, h => by cases b <;> simp [kin] at h
  | .bl _, b, h => by cases b <;> simp [kin] at h
  | .dct _, b, h => by cases b <;> simp [kin] at h
  | .ins _ _, b, h => by cases b <;> simp [kin] at h
  | .obj _, b, h => by cases b <;> simp [kin] at h
  | .scr _, b, h => by cases b <;> simp [kin] at h
theorem alikes_py : ∀ (a b : List D), kins a b = true → PySem.W.alikeAll (pys a) (pys b) = true
  | [], b, _ => by cases b <;> simp [pys, PySem.W.alikeAll]
  | _ :: _, [], _ => by simp [pys, PySem.W.alikeAll]
  | x :: xs, y :: ys, h => by
    have h' : kin x y = true ∧ kins xs ys = true := by simpa [kins] using h
    simp only [pys, PySem.W.alikeAll, alike_py x y h'.1, alikes_py xs ys h'.2, Bool.and_self]
end
mutual
theorem lt_py : ∀ (a b : D), plain a = true → plain b = true → kin a b = true → ltD a b = some (PySem.W.dataLt (py a) (py b))
  | .int _, b, _, _, h => by
    cases b with
    | int j => simp only [py, ltD, PySem.W.dataLt_int]
    | _ => simp [kin] at h
  | .str _, b, _, _, h => by
    cases b with
    | str j => simp only [py, ltD, ltS, PySem.W.dataLt_str]
    | _ => simp [kin] at h
  | .tup xs, b, pa, pb, h => by
    cases b with
    | tup ys =>
      have := lts_py xs ys (by simpa [plain] using pa) (by simpa [plain] using pb) (by simpa [kin] using h)
      simp only [py, ltD, PySem.W.dataLt_tuple, this]
    | _ => simp [kin] at h
  | .lst xs, b, pa, pb, h => by
    cases b with
    | lst ys =>
      have := lts_py xs ys (by simpa [plain] using pa) (by simpa [plain] using pb) (by simpa [kin] using h)
      simp only [py, ltD, PySem.W.dataLt_list, this]
    | _ => simp [kin] at h
  | .non, b, _, _, h => by cases b <;> simp [kin] at h
  | .bl _, b, _, _, h => by cases b <;> simp [kin] at h
  | .dct _, b, _, _, h => by cases b <;> simp [kin] at h
  | .ins _ _, b, _, _, h => by cases b <;> simp [kin] at h
  | .obj _, b, _, _, h => by cases b <;> simp [kin] at h
  | .scr _, b, _, _, h => by cases b <;> simp [kin] at h
theorem lts_py : ∀ (a b : List D), plains a = true → plains b = true → kins a b = true → ltDs a b = some (PyProof.Rows.lexLt PyProof.Rows.itemOrd (PySem.W.keyToksAll (pys a)) (PySem.W.keyToksAll (pys b)))
  | [], [], _, _, _ => by
    simp only [pys, ltDs]
    rw [PyProof.Rows.lex_irrefl]
  | [], _ :: _, _, _, _ => by
    simp only [pys, ltDs, PySem.W.keyToksAll]
    rfl
  | _ :: _, [], _, _, _ => by
    simp only [pys, ltDs, PySem.W.keyToksAll]
    rfl
  | x :: xs, y :: ys, pa, pb, h => by
    have h' : kin x y = true ∧ kins xs ys = true := by simpa [kins] using h
    have a' : plain x = true ∧ plains xs = true := by simpa [plains] using pa
    have b' : plain y = true ∧ plains ys = true := by simpa [plains] using pb
    have al := alike_py x y h'.1
    have ih1 := lt_py x y a'.1 b'.1 h'.1
    have ih2 := lts_py xs ys a'.2 b'.2 h'.2
    simp only [pys, ltDs]
    rw [← eqv_py x y a'.1 b'.1]
    cases e : PyData.eqv (py x) (py y) with
    | true => rw [PySem.W.dataLt_all_yes al e, if_pos rfl, ih2]
    | false => rw [PySem.W.dataLt_all_no al e, if_neg Bool.false_ne_true, ih1]
end
end Dv
namespace Dv
open PySem L2
def cop : Cmp → CmpOp
  | .eq => .Eq | .ne => .NotEq | .lt => .Lt | .le => .LtE | .gt => .Gt | .ge => .GtE | .inn => .In | .nin => .NotIn | .is => .Is | .isn => .IsNot
section
variable {K : PySem.W.Frag} {cl : Nat → Addr} {H : Hp} {ρ : Rho} {st : Sto}
theorem key_rel {d : D} {key : Key} (h : Rel K cl H ρ d (kV key)) : (∃ i, d = .int i ∧ key = .inl i) ∨ ∃ x, d = .str x ∧ key = .inr x ∧ PyData.strOk x = true := by
  cases d with
  | int i =>
    cases key with
    | inl j => cases h; exact .inl ⟨_, rfl, rfl⟩
    | inr y => cases h
  | str x =>
    cases key with
    | inl j => exact absurd h.1 (by simp [kV])
    | inr y =>
      obtain ⟨e, ok⟩ := h
      cases e
      exact .inr ⟨_, rfl, rfl, ok⟩
  | non => cases key <;> cases h
  | bl b => cases key <;> cases h
  | tup ds => obtain ⟨a, vs, e, _⟩ := h; cases key <;> cases e
  | lst ds => obtain ⟨a, vs, e, _⟩ := h; cases key <;> cases e
  | dct ds => obtain ⟨a, vs, e, _⟩ := h; cases key <;> cases e
  | ins c ds => obtain ⟨a, dx, vs, e, _⟩ := h; cases key <;> cases e
  | obj n => obtain ⟨a, e, _⟩ := h; cases key <;> cases e
  | scr n => obtain ⟨a, e, _⟩ := h; cases key <;> cases e
theorem keyOk_rel {d : D} {v : V} (o : keyOk d = true) (h : Rel K cl H ρ d v) : ∃ key, v = kV key := by
  cases d with
  | int i => cases h; exact ⟨.inl i, rfl⟩
  | str x => exact ⟨.inr x, h.1⟩
  | _ => cases o
theorem eq_keys {a b : D} {k l : Key} (ha : Rel K cl H ρ a (kV k)) (hb : Rel K cl H ρ b (kV l)) : eqD a b = decide (k = l) := by
  rcases key_rel ha with ⟨i, rfl, rfl⟩ | ⟨x, rfl, rfl, _⟩
  · rcases key_rel hb with ⟨j, rfl, rfl⟩ | ⟨y, rfl, rfl, _⟩
    · by_cases e : i = j
      · subst e; simp [eqD]
      · simp [eqD, e]
    · simp [eqD]
  · rcases key_rel hb with ⟨j, rfl, rfl⟩ | ⟨y, rfl, rfl, _⟩
    · simp [eqD]
    · by_cases e : x = y
      · subst e; simp [eqD]
      · simp [eqD, e]
/-- what a dict gives -/
def RelOp (K : PySem.W.Frag) (cl : Nat → Addr) (H : Hp) (ρ : Rho) : Option D → Option V → Prop
  | some d, some v => Rel K cl H ρ d v
  | none, none => True
  | _, _ => False
theorem kGet_rel {b : D} {l : Key} (hb : Rel K cl H ρ b (kV l)) : ∀ {kvs : List (D × D)} {kus : List (Key × V)}, RelK K cl H ρ kvs kus → RelOp K cl H ρ (kGet kvs b) (valV kus l)
  | [], _, h => by cases h; exact trivial
  | (k, d) :: kvs, _, h => by
    obtain ⟨key, v, r, rfl, h1, h2, h3⟩ := h
    have ih := kGet_rel hb h3
    unfold kGet valV at *
    rw [List.find?_cons, List.find?_cons, eq_keys h1 hb]
    cases decide (key = l) with
    | true => exact h2
    | false => exact ih
theorem kGet_some {b : D} {l : Key} {kvs : List (D × D)} {kus : List (Key × V)} (h : RelK K cl H ρ kvs kus) (hb : Rel K cl H ρ b (kV l)) : (kGet kvs b).isSome = (valV kus l).isSome := by
  have r := kGet_rel hb h
  cases h1 : kGet kvs b with
  | none =>
    rw [h1] at r
    cases h2 : valV kus l with
    | none => rfl
    | some v => rw [h2] at r; exact r.elim
  | some d =>
    rw [h1] at r
    cases h2 : valV kus l with
    | none => rw [h2] at r; exact r.elim
    | some v => rfl
end
/-- what a comparison of ours asks -/
def rCmp (K : PySem.W.Frag) (cl : Nat → Addr) (o : Cmp) : R2 := fun x y H Q => ∃ ρ st a b r, RepS K cl H ρ st ∧ Rel K cl H ρ a x ∧ Rel K cl H ρ b y ∧ cmp2 o a b st = some r ∧ Q (.bl r) H
theorem bind_some {α β : Type} {x : Option α} {f : α → Option β} {b : β} (h : x.bind f = some b) : ∃ a, x = some a ∧ f a = some b := by
  cases x with
  | none => cases h
  | some a => exact ⟨a, rfl, h⟩
theorem map_some {α β : Type} {x : Option α} {f : α → β} {b : β} (h : x.map f = some b) : ∃ a, x = some a ∧ f a = b := by
  cases x with
  | none => cases h
  | some a => exact ⟨a, rfl, Option.some.inj h⟩
theorem ite_some {α : Type} {c : Prop} [Decidable c] {x : Option α} {b : α} (h : (if c then x else none) = some b) : c ∧ x = some b := by
  split at h
  · exact ⟨by assumption, h⟩
  · cases h
mutual
theorem kin_comm : ∀ (x y : D), kin x y = true → kin y x = true
  | .int _, y, h => by cases y <;> simp_all [kin]
  | .str _, y, h => by cases y <;> simp_all [kin]
  | .tup xs, y, h => by
    cases y with
    | tup ys => simpa [kin] using kins_comm xs ys (by simpa [kin] using h)
    | _ => simp [kin] at h
  | .lst xs, y, h => by
    cases y with
    | lst ys => simpa [kin] using kins_comm xs ys (by simpa [kin] using h)
    | _ => simp [kin] at h
  | .non, y, h => by cases y <;> simp [kin] at h
  | .bl _, y, h => by cases y <;> simp [kin] at h
  | .dct _, y, h => by cases y <;> simp [kin] at h
  | .ins _ _, y, h => by cases y <;> simp [kin] at h
  | .obj _, y, h => by cases y <;> simp [kin] at h
  | .scr _, y, h => by cases y <;> simp [kin] at h
theorem kins_comm : ∀ (xs ys : List D), kins xs ys = true → kins ys xs = true
  | [], ys, _ => by cases ys <;> simp [kins]
  | _ :: _, [], _ => by simp [kins]
  | x :: xs, y :: ys, h => by
    have h' : kin x y = true ∧ kins xs ys = true := by simpa [kins] using h
    simp only [kins, kin_comm x y h'.1, kins_comm xs ys h'.2, Bool.and_self]
end
theorem kin_none {x y : D} (h : kin x y = true) : py x ≠ .none := fun e => by
  cases x <;> simp [kin, py] at h e
theorem any_py {x : D} (px : plain x = true) : ∀ ys : List D, plains ys = true → (pys ys).any (fun z => PyData.eqv z (py x)) = ys.any fun z => eqD z x
  | [], _ => rfl
  | y :: ys, h => by
    have h' : plain y = true ∧ plains ys = true := by simpa [plains] using h
    show (PyData.eqv (py y) (py x) || (pys ys).any _) = _
    rw [any_py px ys h'.2, eqv_py y x h'.1 px]
    rfl
section
variable {X : Cx} {cl : Nat → Addr}
/-- two data, as the machine reads them -/
theorem data_reads {pins : List (Addr × Obj)} {s : Shared} {σ : L2.St} {H : Hp} {ρ : Rho} {st : Sto} {a e : D} {x : V} {v : Value} (I : Inv X pins σ H s) (rx : RelV x v) (rs : RepS X.K cl H ρ st) (ra : Rel X.K cl H ρ a x) (h : data st a = some e) :
    (∃ as, Reads s.heap v (py e) as) ∧ (py e).canLay0 = true ∧ (py e).depth ≤ levels ∧ plain e = true := by
  obtain ⟨⟨d1, d2, d3⟩, d4⟩ := data_dp rs h ra
  exact ⟨Dp.reads I _ _ _ d1 rx, d3, d2, d4⟩
theorem cmp2_ok (o : Cmp) (hu : X.A.units + 64 < cLine) : OpR X (compareOp (cop o)) (rCmp X.K cl o) := by
  intro pins s σ H x y
  intro v u Q I rx ry h
  obtain ⟨ρ, st, a, b, r, rs, ra, rb, hr, q⟩ := h
  have fin : ∀ k : Bool, r = k → EP X pins σ Q (.bool k) s := fun k e => ⟨.bl k, H, I, rfl, e ▸ q⟩
  have both : ∀ {e f : D}, data st a = some e → data st b = some f → ∃ as bs, Reads s.heap v (py e) as ∧ Reads s.heap u (py f) bs ∧ (py e).canLay0 = true ∧ (py f).canLay0 = true ∧ X.A.units + 1 + min (py e).depth (py f).depth < cLine ∧ plain e = true ∧ plain f = true ∧ (py f).depth ≤ levels := fun {e f} h1 h2 => by
    obtain ⟨⟨as, x1⟩, x2, x3, x4⟩ := data_reads I rx rs ra h1
    obtain ⟨⟨bs, y1⟩, y2, y3, y4⟩ := data_reads I ry rs rb h2
    have m := Nat.min_le_left (py e).depth (py f).depth
    have l40 : levels = 40 := rfl
    exact ⟨as, bs, x1, y1, x2, y2, by omega, x4, y4, y3⟩
  have lay : ∀ z : D, (py z).canLay0 = true → (py z).depth ≤ levels → SeqAt.shaped (py z) = true := fun z h1 h2 => by
    unfold SeqAt.shaped
    rw [h1, decide_eq_true (Nat.le_trans h2 (by decide))]
    rfl
  -- x in y
  have inn : ∀ r' : Bool, cmp2 .inn a b st = some r' → (o = .inn ∧ r = r') ∨ (o = .nin ∧ r = !r') → wpAny (model X.prog X.w) X.A (compareOp (cop o) v u) (EP X pins σ Q) X.xe s := by
    intro r' hr' ho
    unfold cmp2 at hr'
    simp only [if_true] at hr'
    split at hr'
    · rename_i x' y'
      obtain ⟨rfl, _⟩ := ra
      obtain ⟨rfl, _⟩ := rb
      unfold inStr at hr'
      split at hr'
      · rename_i c ec
        cases hr'
        have ex : x' = ⟨#[c]⟩ := by
          cases x' with
          | mk cps =>
            have : cps = #[c] := by
              have := congrArg List.toArray ec
              simpa using this
            rw [this]
        subst ex
        have ed : (y'.cps.toList.contains c) = decide (c ∈ y'.cps.toList) := by
          rw [Bool.eq_iff_iff]
          simp
        rcases ho with ⟨rfl, e⟩ | ⟨rfl, e⟩
        · exact op_in_sign pins s σ H _ _ v u Q I rx ry ⟨c, y', rfl, rfl, by rw [← ed, ← e]; exact q⟩
        · exact op_notIn_sign pins s σ H _ _ v u Q I rx ry ⟨c, y', rfl, rfl, by rw [← ed, ← e]; exact q⟩
      · cases hr'
    · rename_i hns
      split at hr'
      · rename_i kvs hd
        obtain ⟨ok, e⟩ := ite_some hr'
        cases e
        obtain ⟨p, kus, rfl, rd, rk⟩ := dctOf_rel rs hd rb
        obtain ⟨key, rfl⟩ := keyOk_rel ok ra
        have ek := kGet_some rk ra
        cases ry
        rcases ho with ⟨rfl, e⟩ | ⟨rfl, e⟩
        · refine d_in (o := valV kus key) (by omega) I (.inl ⟨kus, key, rd, rfl, rfl⟩) rx fun s' I' => ⟨.bl _, H, I', rfl, ?_⟩
          rw [← ek, ← e]; exact q
        · refine d_notIn (o := valV kus key) (by omega) I (.inl ⟨kus, key, rd, rfl, rfl⟩) rx fun s' I' => ⟨.bl _, H, I', rfl, ?_⟩
          rw [← ek, ← e]; exact q
      · obtain ⟨e, h1, hr'⟩ := bind_some hr'
        obtain ⟨f, h2, hr'⟩ := bind_some hr'
        obtain ⟨as, bs, r1, r2, l1, l2, _, p1, p2, dp⟩ := both h1 h2
        obtain ⟨_, _, de, _⟩ := data_reads I rx rs ra h1
        have l40 : levels = 40 := rfl
        cases f with
        | tup ys =>
          have hr' := Option.some.inj hr'
          have pl : plains ys = true := by simpa [plain] using p2
          have ea := any_py p1 ys pl
          have hu' : X.A.units + 1 + min (PyData.depthAll (pys ys)) (py e).depth < cLine := by
            have := Nat.min_le_right (PyData.depthAll (pys ys)) (py e).depth
            omega
          rcases ho with ⟨rfl, eo⟩ | ⟨rfl, eo⟩
          · exact SeqAt.in_tuple_reads r2 r1 l2 l1 hu' (by rw [ea]; exact fin _ (eo.trans hr'.symm))
          · exact SeqAt.notIn_tuple_reads r2 r1 l2 l1 hu' (by rw [ea]; exact fin _ (eo.trans (congrArg _ hr'.symm)))
        | lst ys =>
          have hr' := Option.some.inj hr'
          have pl : plains ys = true := by simpa [plain] using p2
          have ea := any_py p1 ys pl
          have hu' : X.A.units + 1 + min (PyData.depthAll (pys ys)) (py e).depth < cLine := by
            have := Nat.min_le_right (PyData.depthAll (pys ys)) (py e).depth
            omega
          rcases ho with ⟨rfl, eo⟩ | ⟨rfl, eo⟩
          · exact SeqAt.in_list_reads r2 r1 l2 l1 hu' (by rw [ea]; exact fin _ (eo.trans hr'.symm))
          · exact SeqAt.notIn_list_reads r2 r1 l2 l1 hu' (by rw [ea]; exact fin _ (eo.trans (congrArg _ hr'.symm)))
        | _ => cases hr'
  -- x is y
  have iss : ∀ r' : Bool, cmp2 .is a b st = some r' → (o = .is ∧ r = r') ∨ (o = .isn ∧ r = !r') → wpAny (model X.prog X.w) X.A (compareOp (cop o) v u) (EP X pins σ Q) X.xe s := by
    intro r' hr' ho
    unfold cmp2 at hr'
    simp only [if_true] at hr'
    split at hr'
    · rename_i x' y'
      cases hr'
      cases ra
      cases rb
      rcases ho with ⟨rfl, e⟩ | ⟨rfl, e⟩
      · exact op_isBl pins s σ H _ _ v u Q I rx ry ⟨_, _, rfl, rfl, by rw [← Bool.beq_eq_decide_eq, ← e]; exact q⟩
      · exact op_notBl pins s σ H _ _ v u Q I rx ry ⟨_, _, rfl, rfl, by rw [← Bool.beq_eq_decide_eq, ← e]; exact q⟩
    · cases hr'
      cases rb
      have en : decide (x = V.non) = isNon a := by
        cases a with
        | non => cases ra; rfl
        | bl b => cases ra; rfl
        | int b => cases ra; rfl
        | str b => obtain ⟨rfl, _⟩ := ra; rfl
        | tup b => obtain ⟨p, vs, rfl, _⟩ := ra; rfl
        | lst b => obtain ⟨p, vs, rfl, _⟩ := ra; rfl
        | dct b => obtain ⟨p, vs, rfl, _⟩ := ra; rfl
        | ins c b => obtain ⟨p, dx, vs, rfl, _⟩ := ra; rfl
        | obj n => obtain ⟨p, rfl, _⟩ := ra; rfl
        | scr n => obtain ⟨p, rfl, _⟩ := ra; rfl
      rcases ho with ⟨rfl, e⟩ | ⟨rfl, e⟩
      · exact op_isN pins s σ H _ _ v u Q I rx ry ⟨rfl, by rw [en, ← e]; exact q⟩
      · exact op_notN pins s σ H _ _ v u Q I rx ry ⟨rfl, by rw [en, ← e]; exact q⟩
    · cases hr'
  cases o with
  | eq =>
    obtain ⟨e, h1, hr⟩ := bind_some hr
    obtain ⟨f, h2, hr⟩ := map_some hr
    obtain ⟨as, bs, r1, r2, l1, l2, hu', p1, p2, dp⟩ := both h1 h2
    obtain ⟨_, _, de, _⟩ := data_reads I rx rs ra h1
    exact SeqAt.compareEq_shaped r1 r2 (lay _ l1 de) (lay _ l2 dp) hu (by rw [eqv_py e f p1 p2]; exact fin _ hr.symm)
  | ne =>
    obtain ⟨e, h1, hr⟩ := bind_some hr
    obtain ⟨f, h2, hr⟩ := map_some hr
    obtain ⟨as, bs, r1, r2, l1, l2, hu', p1, p2, dp⟩ := both h1 h2
    obtain ⟨_, _, de, _⟩ := data_reads I rx rs ra h1
    exact SeqAt.compareNe_shaped r1 r2 (lay _ l1 de) (lay _ l2 dp) hu (by rw [eqv_py e f p1 p2]; exact fin _ hr.symm)
  | lt =>
    obtain ⟨e, h1, hr⟩ := bind_some hr
    obtain ⟨f, h2, hr⟩ := bind_some hr
    obtain ⟨k, hr⟩ := ite_some hr
    obtain ⟨as, bs, r1, r2, l1, l2, hu', p1, p2, dp⟩ := both h1 h2
    rw [lt_py e f p1 p2 k] at hr
    exact PySem.W.lt_data r1 r2 (alike_py e f k) (kin_none k) (by omega) (fin _ (Option.some.inj hr).symm)
  | gt =>
    obtain ⟨e, h1, hr⟩ := bind_some hr
    obtain ⟨f, h2, hr⟩ := bind_some hr
    obtain ⟨k, hr⟩ := ite_some hr
    obtain ⟨as, bs, r1, r2, l1, l2, hu', p1, p2, dp⟩ := both h1 h2
    rw [lt_py f e p2 p1 (kin_comm e f k)] at hr
    exact PySem.W.gt_data r1 r2 (alike_py e f k) (kin_none k) (by omega) (fin _ (Option.some.inj hr).symm)
  | le =>
    obtain ⟨e, h1, hr⟩ := bind_some hr
    obtain ⟨f, h2, hr⟩ := bind_some hr
    obtain ⟨k, hr⟩ := ite_some hr
    obtain ⟨as, bs, r1, r2, l1, l2, hu', p1, p2, dp⟩ := both h1 h2
    rw [lt_py f e p2 p1 (kin_comm e f k)] at hr
    exact PySem.W.le_data r1 r2 (alike_py e f k) (kin_none k) (by omega) (fin _ (Option.some.inj hr).symm)
  | ge =>
    obtain ⟨e, h1, hr⟩ := bind_some hr
    obtain ⟨f, h2, hr⟩ := bind_some hr
    obtain ⟨k, hr⟩ := ite_some hr
    obtain ⟨as, bs, r1, r2, l1, l2, hu', p1, p2, dp⟩ := both h1 h2
    rw [lt_py e f p1 p2 k] at hr
    exact PySem.W.ge_data r1 r2 (alike_py e f k) (kin_none k) (by omega) (fin _ (Option.some.inj hr).symm)
  | inn => exact inn r hr (.inl ⟨rfl, rfl⟩)
  | nin =>
    have hr2 : (cmp2 .inn a b st).map (!·) = some r := hr
    obtain ⟨r', h', e⟩ := map_some hr2
    exact inn r' h' (.inr ⟨rfl, e.symm⟩)
  | is => exact iss r hr (.inl ⟨rfl, rfl⟩)
  | isn =>
    have hr2 : (cmp2 .is a b st).map (!·) = some r := hr
    obtain ⟨r', h', e⟩ := map_some hr2
    exact iss r' h' (.inr ⟨rfl, e.symm⟩)
end
end Dv
namespace Dv
open PySem L2
/-- what a two-place thing of ours asks -/
def rTwo (K : PySem.W.Frag) (cl : Nat → Addr) (f : D → D → Sto → Res D) : R2 := fun x y H Q => ∃ E ρ st a b, RepS K cl H ρ st ∧ Rel K cl H ρ a x ∧ Rel K cl H ρ b y ∧ Post K cl (Rel K cl) H ρ (f a b st) Q E
/-- .. a thing of any number of places -/
def rMany (K : PySem.W.Frag) (cl : Nat → Addr) (f : List D → Sto → Res D) : List V → Hp → VK → Prop := fun vs H Q => ∃ E ρ st ds, RepS K cl H ρ st ∧ Rels K cl H ρ ds vs ∧ Post K cl (Rel K cl) H ρ (f ds st) Q E
theorem place_ix {n : Nat} {i : Int} : place n i = ixN n i := by
  unfold place ixN
  split
  · rfl
  · by_cases h : 0 ≤ i + (n : Int)
    · rw [if_pos h]
      rw [if_pos (by omega)]
    · rw [if_neg h]
      rw [if_neg (by omega)]
section
variable {K : PySem.W.Frag} {cl : Nat → Addr} {H : Hp} {ρ : Rho} {st : Sto}
theorem at_rel {ds : List D} {vs : List V} {i : Int} {d : D} (r : Rels K cl H ρ ds vs) (h : (place ds.length i).bind (fun k => ds[k]?) = some d) : ∃ v, atI vs i = some v ∧ Rel K cl H ρ d v := by
  obtain ⟨k, h1, h2⟩ := bind_some h
  obtain ⟨v, h3, h4⟩ := r.get h2
  refine ⟨v, ?_, h4⟩
  unfold atI
  rw [← r.length, ← place_ix, h1]
  exact h3
theorem strOk_sign {x : Str} {c : Nat} (h : PyData.strOk x = true) (m : c ∈ x.cps.toList) : PyData.strOk ⟨#[c]⟩ = true := by
  unfold PyData.strOk at *
  rw [Array.all_eq_true'] at h ⊢
  intro y hy
  have : y = c := by simpa using hy
  subst this
  exact h y (by simpa using m)
theorem cut_eq {vs : List V} {lo hi : Option Int} : cutL vs lo hi = cutV vs lo hi := by
  unfold cutL cutV
  cases lo <;> cases hi <;> rfl
theorem Rels.cut {ds : List D} {vs : List V} {lo hi : Option Int} (r : Rels K cl H ρ ds vs) : Rels K cl H ρ (cutL ds lo hi) (cutL vs lo hi) := by
  have hl := r.length
  unfold cutL
  rw [hl]
  exact (r.drop _).take _
theorem strOk_cut {x : Str} {lo hi : Option Int} (h : PyData.strOk x = true) : PyData.strOk ⟨(cutL x.cps.toList lo hi).toArray⟩ = true := by
  unfold PyData.strOk at *
  rw [Array.all_eq_true'] at h ⊢
  intro y hy
  have : y ∈ cutL x.cps.toList lo hi := by simpa using hy
  unfold cutL at this
  have h2 := List.mem_of_mem_drop (List.mem_of_mem_take this)
  exact h y (by simpa using h2)
end
section
variable {X : Cx} {cl : Nat → Addr}
theorem ix_dict (hu : X.A.units + 1 < cLine) : IxR X (fun x y H Q => ∃ a v, x = .ref a ∧ DGet H a y (some v) ∧ Q v H) := by
  intro value slice pins s σ H x y
  intro v u Q I rx ry h hs
  obtain ⟨a, z, rfl, g, q⟩ := h
  cases rx
  exact PyProof.Rows.tail_any (dict_typeIs I g) PySem.F.slot_dict_getitem.lookup (d_getItem hu I g ry fun w' s3 I3 rw' => ⟨z, H, I3, rw', q⟩) hs
theorem idx_ok (hu : X.A.units + 1 < cLine) : IxR X (rTwo X.K cl idx) := by
  intro value slice pins s σ H x y
  intro v u Q I rx ry h hs
  obtain ⟨E, ρ, st, a, b, rs, ra, rb, hp⟩ := h
  have dct : ∀ (kvs : List (D × D)) (d : D) (k : Key), dctOf st a = some kvs → y = kV k → kGet kvs b = some d → Q = Q → (∀ v, Rel X.K cl H ρ d v → Q v H) → wpAny (model X.prog X.w) X.A (PyProof.Rows.subscriptTail value slice v u) (EP X pins σ Q) X.xe s := by
    intro kvs d k h1 e h2 _ q
    obtain ⟨p, kus, rfl, rd, rk⟩ := dctOf_rel rs h1 ra
    subst e
    have g := kGet_rel rb rk
    rw [h2] at g
    cases h3 : valV kus k with
    | none => rw [h3] at g; exact g.elim
    | some z =>
      rw [h3] at g
      exact ix_dict hu value slice pins s σ H _ _ v u Q I rx ry ⟨p, z, rfl, .inl ⟨kus, k, rd, rfl, h3.symm⟩, q z g⟩ hs
  unfold idx at hp
  split at hp
  · rename_i x' i
    obtain ⟨rfl, ok⟩ := ra
    cases rb
    split at hp
    · rename_i hl
      obtain ⟨d, h1, hp⟩ := hp.ofO
      obtain ⟨c, h2, rfl⟩ := map_some h1
      obtain ⟨k, h3, h4⟩ := bind_some h2
      have hlen : x'.cps.toList.length = x'.length := by simp [Str.length]
      refine ix_str value slice pins s σ H _ _ v u Q I rx ry ⟨x', i, c, rfl, rfl, line_of hl, ?_, hp.here rs ⟨rfl, strOk_sign ok (List.mem_of_getElem? h4)⟩⟩ hs
      unfold atI
      rw [← place_ix, hlen, h3]
      exact h4
    · exact hp.elim
  · rename_i i hno
    cases rb
    split at hp
    · rename_i xs h1
      obtain ⟨d, h2, hp⟩ := hp.ofO
      obtain ⟨p, vs, rfl, k, r⟩ := seqOf_rel rs h1 ra
      obtain ⟨z, h3, h4⟩ := at_rel r h2
      rcases k with k | k
      · exact ix_list value slice pins s σ H _ _ v u Q I rx ry ⟨p, vs, i, z, rfl, rfl, k, h3, hp.here rs h4⟩ hs
      · exact ix_tup value slice pins s σ H _ _ v u Q I rx ry ⟨p, vs, i, z, rfl, rfl, k, h3, hp.here rs h4⟩ hs
    · split at hp
      · rename_i kvs h1
        obtain ⟨d, h2, hp⟩ := hp.ofO
        exact dct kvs d (.inl i) h1 rfl h2 rfl fun z r => hp.here rs r
      · exact hp.elim
  · split at hp
    · rename_i kvs h1
      split at hp
      · rename_i ok
        obtain ⟨d, h2, hp⟩ := hp.ofO
        obtain ⟨key, e⟩ := keyOk_rel ok rb
        exact dct kvs d key h1 e h2 rfl fun z r => hp.here rs r
      · exact hp.elim
    · exact hp.elim
def rSlD (K : PySem.W.Frag) (cl : Nat → Addr) : V → Option Int → Option Int → Hp → VK → Prop := fun x lo hi H Q => ∃ E ρ st a, RepS K cl H ρ st ∧ Rel K cl H ρ a x ∧ Post K cl (Rel K cl) H ρ (slc a lo hi st) Q E
theorem slc_ok : SlR X (rSlD X.K cl) := by
  intro pins s σ H x v vl vu lo
  intro hi sl Q I rx hs pl pu h
  obtain ⟨E, ρ, st, a, rs, ra, hp⟩ := h
  unfold slc at hp
  split at hp
  · rename_i x'
    obtain ⟨rfl, ok⟩ := ra
    split at hp
    · rename_i hl
      refine sl_str pins s σ H _ v vl vu lo hi sl Q I rx hs pl pu ⟨x', rfl, line_of hl, ?_⟩
      have e : cutS x' lo hi = ⟨(cutL x'.cps.toList lo hi).toArray⟩ := by
        unfold cutS cutL
        have hlen : x'.cps.toList.length = x'.cps.size := by simp
        cases lo <;> cases hi <;> simp [Str.length, HT.sIx, cutAt]
      rw [e]
      exact hp.here rs ⟨rfl, strOk_cut ok⟩
    · exact hp.elim
  · rename_i xs
    obtain ⟨p, vs, rfl, k, r⟩ := ra
    have rc := r.cut (lo := lo) (hi := hi)
    refine sl_tupA pins s σ H _ v vl vu lo hi sl Q I rx hs pl pu ⟨p, vs, rfl, k, fun hw => ?_, fun hw z hz => ?_⟩
    · have e : cutL vs lo hi = vs := by
        rw [cut_eq]
        unfold cutV
        rw [hw.1, hw.2]
        simp
      rw [e] at rc
      exact hp.here rs ⟨p, vs, rfl, k, rc⟩
    · rw [← cut_eq]
      exact hp _ ρ _ (Step.same (same_new hz)) (rs.same (same_new hz)) (rel_newT hz rc)
  · split at hp
    · rename_i xs h1
      obtain ⟨p, vs, rfl, k, r⟩ := lstOf_rel rs h1 ra
      refine sl_list pins s σ H _ v vl vu lo hi sl Q I rx hs pl pu ⟨p, vs, rfl, .inl k, fun z hz => ?_⟩
      rw [← cut_eq]
      exact hp _ ρ _ (Step.same (same_new hz)) (rs.same (same_new hz)) (rel_newL rs hz r.cut)
    · exact hp.elim
end
end Dv
namespace Dv
open PySem L2
/-- the callee -/
def bval : Blt → Value
  | .len => .builtin "len" | .abs => .builtin "abs" | .int => .type "int" | .repr => .builtin "repr" | .str => .type "str" | .sorted => .builtin "sorted"
  | .sset => .none | .lset => .none | .tuple => .type "tuple" | .list => .type "list" | .dict => .type "dict" | .all => .builtin "all" | .any => .builtin "any"
  | .sum => .builtin "sum" | .min => .builtin "min" | .max => .builtin "max" | .gcd => .none
section
variable {K : PySem.W.Frag} {cl : Nat → Addr} {H : Hp} {ρ : Rho} {st : Sto}
theorem Rels.one {d : D} {vs : List V} (r : Rels K cl H ρ [d] vs) : ∃ v, vs = [v] ∧ Rel K cl H ρ d v := by
  obtain ⟨v, r, rfl, a, b⟩ := r
  cases b
  exact ⟨v, rfl, a⟩
theorem Rels.two {d e : D} {vs : List V} (r : Rels K cl H ρ [d, e] vs) : ∃ v u, vs = [v, u] ∧ Rel K cl H ρ d v ∧ Rel K cl H ρ e u := by
  obtain ⟨v, r, rfl, a, b⟩ := r
  obtain ⟨u, rfl, c⟩ := Rels.one b
  exact ⟨v, u, rfl, a, c⟩
theorem rels_bls : ∀ {ds : List D} {bs : List Bool} {vs : List V}, boolsOf ds = some bs → Rels K cl H ρ ds vs → vs = bs.map V.bl
  | [], bs, vs, h, r => by cases h; cases r; rfl
  | d :: ds, bs, vs, h, r => by
    obtain ⟨v, us, rfl, a, b⟩ := r
    cases d with
    | bl k =>
      obtain ⟨cs, h1, rfl⟩ := map_some (show (boolsOf ds).map (k :: ·) = some bs from h)
      cases a
      rw [rels_bls h1 b]
      rfl
    | _ => cases h
theorem rels_ints : ∀ {ds : List D} {bs : List Int} {vs : List V}, intsOf ds = some bs → Rels K cl H ρ ds vs → vs = bs.map V.int
  | [], bs, vs, h, r => by cases h; cases r; rfl
  | d :: ds, bs, vs, h, r => by
    obtain ⟨v, us, rfl, a, b⟩ := r
    cases d with
    | int k =>
      obtain ⟨cs, h1, rfl⟩ := map_some (show (intsOf ds).map (k :: ·) = some bs from h)
      cases a
      rw [rels_ints h1 b]
      rfl
    | _ => cases h
/-- signs of a text -/
theorem rels_signs {cs : List Nat} (h : ∀ c ∈ cs, PyData.strOk ⟨#[c]⟩ = true) : Rels K cl H ρ (cs.map fun c => D.str ⟨#[c]⟩) (cs.map fun c => V.str ⟨#[c]⟩) := by
  induction cs with
  | nil => rfl
  | cons c cs ih => exact ⟨_, _, rfl, ⟨rfl, h c (List.mem_cons_self ..)⟩, ih fun c hc => h c (List.mem_cons_of_mem _ hc)⟩
theorem relK_keys : ∀ {kvs : List (D × D)} {kus : List (Key × V)}, RelK K cl H ρ kvs kus → Rels K cl H ρ (kvs.map (·.1)) (kus.map fun kv => kV kv.1)
  | [], _, h => by cases h; rfl
  | (k, d) :: kvs, _, h => by
    obtain ⟨key, v, r, rfl, h1, h2, h3⟩ := h
    exact ⟨_, _, rfl, h1, relK_keys h3⟩
theorem relK_len : ∀ {kvs : List (D × D)} {kus : List (Key × V)}, RelK K cl H ρ kvs kus → kvs.length = kus.length
  | [], _, h => by cases h; rfl
  | (k, d) :: kvs, _, h => by
    obtain ⟨key, v, r, rfl, h1, h2, h3⟩ := h
    rw [List.length_cons, List.length_cons, relK_len h3]
end
/-- signs, as the machine makes them -/
theorem vals_signs {x : Str} {acc : Array Value} (h : PySem.ItemsOf (PySem.SignAt x) acc x.cps.size) : Vals (x.cps.toList.map fun c => V.str ⟨#[c]⟩) acc.toList := by
  refine vals_of_idx _ _ (by rw [Array.length_toList, List.length_map, Array.length_toList]; exact h.1) fun j u e => ?_
  obtain ⟨c, t, h1, rfl⟩ := h.2 j u (by rw [← Array.getElem?_toList]; exact e)
  refine ⟨.str ⟨#[c]⟩, ?_, t, rfl⟩
  rw [List.getElem?_map, Array.getElem?_toList, h1]
  rfl
section
variable {K : PySem.W.Frag} {cl : Nat → Addr} {H : Hp} {ρ : Rho} {st : Sto}
mutual
theorem plain_dp : ∀ (d : D) {v : V}, plain d = true → Rel K cl H ρ d v → Dp K H v (py d) ∧ (py d).canLay0 = true
  | .non, _, _, r => by cases r; exact ⟨.non, rfl⟩
  | .bl b, _, _, r => by cases r; exact ⟨.bl b, rfl⟩
  | .int i, _, _, r => by cases r; exact ⟨.int i, rfl⟩
  | .str x, _, _, r => by obtain ⟨rfl, ok⟩ := r; exact ⟨.str x, ok⟩
  | .tup ds, _, p, r => by
    obtain ⟨a, vs, rfl, k, rr⟩ := r
    have := plains_dp ds (by simpa [plain] using p) rr
    exact ⟨.tup k this.1, this.2⟩
  | .lst ds, _, p, r => by
    obtain ⟨a, vs, rfl, k, _, rr⟩ := r
    have := plains_dp ds (by simpa [plain] using p) rr
    exact ⟨.lst (.inl k) this.1, this.2⟩
  | .dct _, _, p, _ => by simp [plain] at p
  | .ins _ _, _, p, _ => by simp [plain] at p
  | .obj _, _, p, _ => by simp [plain] at p
  | .scr _, _, p, _ => by simp [plain] at p
theorem plains_dp : ∀ (ds : List D) {vs : List V}, plains ds = true → Rels K cl H ρ ds vs → DpAll K H vs (pys ds) ∧ PyData.canLayAll0 (pys ds) = true
  | [], _, _, rr => by cases rr; exact ⟨.nil, rfl⟩
  | d :: ds, _, p, r => by
    obtain ⟨v, us, rfl, a, b⟩ := r
    have p' : plain d = true ∧ plains ds = true := by simpa [plains] using p
    have h1 := plain_dp d p'.1 a
    have h2 := plains_dp ds p'.2 b
    exact ⟨.cons h1.1 h2.1, by show ((py d).canLay0 && PyData.canLayAll0 (pys ds)) = true; rw [h1.2, h2.2]; rfl⟩
end
/-- value by value -/
def RvD (K : PySem.W.Frag) (cl : Nat → Addr) (H : Hp) (ρ : Rho) : Value → D → Prop := fun u d => ∃ x, RelV x u ∧ Rel K cl H ρ d x
theorem each_of : ∀ {ds : List D} {vs : List V} {us : List Value}, Rels K cl H ρ ds vs → Vals vs us → PySem.W.EachIs (RvD K cl H ρ) us ds
  | [], _, _, r, v => by cases r; cases v; exact .nil
  | d :: ds, _, _, r, v => by
    obtain ⟨x, xs, rfl, a, b⟩ := r
    cases v with
    | cons h t => exact .cons ⟨x, h, a⟩ (each_of b t)
theorem of_each : ∀ {ds : List D} {us : List Value}, PySem.W.EachIs (RvD K cl H ρ) us ds → ∃ vs, Rels K cl H ρ ds vs ∧ Vals vs us
  | [], _, h => by cases h; exact ⟨[], rfl, .nil⟩
  | d :: ds, _, h => by
    cases h with
    | cons a b =>
      obtain ⟨x, h1, h2⟩ := a
      obtain ⟨vs, h3, h4⟩ := of_each b
      exact ⟨x :: vs, ⟨x, vs, rfl, h2, h3⟩, .cons h1 h4⟩
theorem each_reads {pins : List (Addr × Obj)} {X : Cx} {s : Shared} {σ : L2.St} (I : Inv X pins σ H s) : ∀ {ds : List D} {us : List Value}, plains ds = true → PySem.W.EachIs (RvD X.K cl H ρ) us ds → PySem.W.EachIs (fun v b => ∃ as, Reads s.heap v (py b) as) us ds
  | [], _, _, h => by cases h; exact .nil
  | d :: ds, _, p, h => by
    have p' : plain d = true ∧ plains ds = true := by simpa [plains] using p
    cases h with
    | cons a b =>
      obtain ⟨x, h1, h2⟩ := a
      exact .cons (Dp.reads I _ _ _ (plain_dp d p'.1 h2).1 h1) (each_reads I p'.2 b)
end
theorem plains_mem {d : D} : ∀ {ds : List D}, plains ds = true → d ∈ ds → plain d = true
  | e :: ds, p, m => by
    have p' : plain e = true ∧ plains ds = true := by simpa [plains] using p
    rcases List.mem_cons.mp m with rfl | m
    · exact p'.1
    · exact plains_mem p'.2 m
theorem depth_mem {d : D} : ∀ {ds : List D}, d ∈ ds → (py d).depth ≤ PyData.depthAll (pys ds)
  | e :: ds, m => by
    show (py d).depth ≤ max (py e).depth (PyData.depthAll (pys ds))
    rcases List.mem_cons.mp m with rfl | m
    · exact Nat.le_max_left _ _
    · exact Nat.le_trans (depth_mem m) (Nat.le_max_right _ _)
theorem allKin_mem {ds : List D} (h : allKin ds = true) {a b : D} (ha : a ∈ ds) (hb : b ∈ ds) : kin a b = true := by
  unfold allKin at h
  rw [List.all_eq_true] at h
  have := h a ha
  rw [List.all_eq_true] at this
  exact this b hb
theorem sort_py {ds : List D} (p : plains ds = true) (k : allKin ds = true) : ds.mergeSort (PySem.W.dataLe false py) = sortD ds := by
  unfold sortD
  refine PySem.W.sort_congr fun a ha b hb => ?_
  rw [PySem.W.dataLe_eq]
  show (!PySem.W.dataLt (py b) (py a)) = leD a b
  unfold leD
  rw [lt_py b a (plains_mem p hb) (plains_mem p ha) (allKin_mem k hb ha)]
  cases PySem.W.dataLt (py b) (py a) <;> rfl
theorem sortable_py {ds : List D} (h : sortable ds = true) : (∀ d ∈ ds.map py, isTupD d = true) ∨ PySem.W.Sortable (ds.map py) := by
  unfold sortable at h
  rw [Bool.or_eq_true, List.all_eq_true, List.all_eq_true] at h
  rcases h with h | h
  · refine .inl fun d hd => ?_
    obtain ⟨b, hmem, rfl⟩ := List.mem_map.mp hd
    have := h b hmem
    split at this
    · rfl
    · cases this
  · refine .inr (.inr fun d hd => ?_)
    obtain ⟨b, hmem, rfl⟩ := List.mem_map.mp hd
    have := h b hmem
    split at this
    · exact ⟨PyData.noConfusion, fun _ => PyData.noConfusion⟩
    · exact ⟨PyData.noConfusion, fun _ => PyData.noConfusion⟩
    · exact ⟨PyData.noConfusion, fun _ => PyData.noConfusion⟩
    · cases this
theorem all_kin {ds : List D} (h : allKin ds = true) : PySem.W.AllAlike (ds.map py) := by
  intro d hd d' hd'
  obtain ⟨a, ha, rfl⟩ := List.mem_map.mp hd
  obtain ⟨b, hb, rfl⟩ := List.mem_map.mp hd'
  exact alike_py a b (allKin_mem h ha hb)
section
variable {X : Cx} {cl : Nat → Addr}
/-- repr of what reads -/
theorem call_repr (hg : X.A.guards = some []) (hu : X.A.units + 64 < cLine) : CallR X (.builtin "repr") (fun vs H Q => ∃ (a : V) (d : D), vs = [a] ∧ Dp X.K H a (py d) ∧ (py d).showable = true ∧ (py d).hasDict = false ∧ (py d).depth ≤ levels ∧ (py d).shown.length ≤ LIM ∧ Q (.str (py d).shown) H) := by
  intro pins s σ H vs
  intro us Q I r h
  obtain ⟨a, d, rfl, h1, h2, h3, h4, h5, q⟩ := h
  obtain ⟨val, rfl, ru⟩ := vals1 r
  obtain ⟨as, hr⟩ := Dp.reads I _ _ _ h1 ru
  have l40 : levels = 40 := rfl
  have far : ∀ p, val = .ref p → wpAny (model X.prog X.w) X.A (call (.builtin "repr") [val]) (EP X pins σ Q) X.xe s := fun p e => by
    subst e
    exact repr_of_reads' hr h2 (fun e => by rw [h3] at e; cases e) hg (by omega) (fun _ _ e => e) (fun h' u tk hk => ⟨.str _, H, I.kept (t' := tk) hk, ⟨u, rfl⟩, q⟩) (line_of h5)
  generalize py d = e at h1 h2 h5 q
  cases h1 with
  | non =>
    cases (show val = Value.none from ru)
    exact PySem.P.repr_of_none ⟨.str _, H, I.tok _, ⟨_, rfl⟩, q⟩
  | bl b =>
    cases (show val = Value.bool b from ru)
    exact PySem.P.repr_of_bool ⟨.str _, H, I.tok _, ⟨_, rfl⟩, q⟩
  | int i =>
    obtain ⟨t, rfl⟩ := (show ∃ t, val = Value.int i t from ru)
    exact PySem.P.repr_of_int (of_decide_eq_true h2) ⟨.str _, H, I.tok _, ⟨_, rfl⟩, q⟩
  | str x =>
    obtain ⟨t, rfl⟩ := (show ∃ t, val = Value.str x t from ru)
    exact PySem.P.repr_of_str ⟨.str _, H, I.tok _, ⟨_, rfl⟩, q⟩ (line_of h5)
  | lst k _ => exact far _ ru
  | tup k _ => exact far _ ru
/-- sorted, by values -/
theorem call_sorted (hu : X.A.units + 256 < cLine) : CallR X (.builtin "sorted") (fun vs H Q => ∃ (a : Addr) (xs : List V) (ρ : Rho) (ds : List D), vs = [.ref a] ∧ (SqL X.K H a xs ∨ SqT X.K H a xs) ∧ Rels X.K cl H ρ ds xs ∧ plains ds = true ∧ allKin ds = true ∧ sortable ds = true ∧ PyData.depthAll (pys ds) ≤ 100 ∧
    ∀ p ys, H p = none → Rels X.K cl H ρ (sortD ds) ys → Q (.ref p) (upd H p (.lst ys))) := by
  intro pins s σ H vs
  intro us Q I r h
  obtain ⟨a, xs, ρ, ds, rfl, h1, h2, h3, h4, h5, h6, q⟩ := h
  obtain ⟨val, rfl, ru⟩ := vals1 r
  cases ru
  have deep : ∀ b, b ∈ ds → X.A.units + 2 + (py b).depth < cLine := fun b hb => by
    have := depth_mem hb
    omega
  have run : ∀ (T : String) (o : Obj) (n : Nat) (its : List Value), T = "list" ∨ T = "tuple" → s.heap.get? a = some o → o.cls = .type T → o.data = .seq its.toArray n → Vals xs its → xs.length ≤ sizeLine → wpAny (model X.prog X.w) X.A (call (.builtin "sorted") [.ref a]) (EP X pins σ Q) X.xe s := fun T o n its hT g1 g2 g3 rv hz => by
    have e := each_of h2 rv
    have hlen := h2.length
    refine sorted_seq (enc := py) hT g1 g2 g3 e (each_reads I h3 e) (all_kin h4) (sortable_py h5) (by rw [hlen]; exact hz) deep fun h1 h' out c k1 k2 hg ho eo => ?_
    rw [sort_py h3 h4] at eo
    obtain ⟨ys, y1, y2⟩ := of_each eo
    have hly : ys.length ≤ sizeLine := by rw [y2.length, ho, hlen]; exact hz
    have I1 : Inv X pins σ H { s with heap := h1, toks := s.toks } := I.kept k1
    exact ⟨.ref _, upd H h1.objs.size (.lst ys), I1.laid (t' := s.toks) k2 (Nat.le_refl _) ⟨hly, out, c, y2, hg⟩, rfl, q _ _ (I1.hok.fresh (Nat.le_refl _)) y1⟩
  rcases h1 with h1 | h1
  · obtain ⟨its, rv, ⟨o, n, g1, g2, _, g3⟩, hz⟩ := I.list h1
    exact run "list" o n its (.inl rfl) g1 g2 g3 rv hz
  · obtain ⟨its, rv, ⟨o, g1, g2, n, g3⟩, hz⟩ := I.tuple h1
    exact run "tuple" o n its (.inr rfl) g1 g2 g3 rv hz
theorem call_tupleS (hc : X.calm = true) : CallR X (.type "tuple") (fun vs H Q => ∃ z : Str, vs = [.str z] ∧ z.length ≤ LIM ∧ ∀ p, H p = none → Q (.ref p) (upd H p (.tup (z.cps.toList.map fun c => V.str ⟨#[c]⟩)))) := by
  intro pins s σ H vs
  intro us Q I r h
  obtain ⟨z, rfl, hz, q⟩ := h
  obtain ⟨val, rfl, t, rfl⟩ := vals1 r
  refine call_tuple_str (I.ok.hd hc) z t (fun h' tk acc hk hi => ?_) (line_of hz)
  have I1 : Inv X pins σ H { s with heap := h', toks := tk } := I.kept (t' := tk) hk
  have hl : (z.cps.toList.map fun c => V.str ⟨#[c]⟩).length ≤ sizeLine := by rw [List.length_map, Array.length_toList]; exact line_of hz
  have hn := PyProof.Rows.IsTup.new h' acc.toList.toArray
  rw [Array.toArray_toList] at hn
  have I2 : Inv X pins σ (upd H h'.objs.size (.tup (z.cps.toList.map fun c => V.str ⟨#[c]⟩))) { s with heap := h'.push { cls := .type "tuple", data := .seq acc }, toks := tk } :=
    I1.laid (t' := tk) (fun b o e => Heap.get?_push_of_some _ e) (Nat.le_refl _) (show ObjOk X.prog X.w _ _ _ (.tup _) from ⟨hl, acc.toList, vals_signs hi, by rw [Array.toArray_toList]; exact hn⟩)
  exact ⟨V.ref _, _, I2, rfl, q h'.objs.size (I1.hok.fresh (Nat.le_refl _))⟩
theorem call_listS (hc : X.calm = true) : CallR X (.type "list") (fun vs H Q => ∃ z : Str, vs = [.str z] ∧ z.length ≤ LIM ∧ ∀ p, H p = none → Q (.ref p) (upd H p (.lst (z.cps.toList.map fun c => V.str ⟨#[c]⟩)))) := by
  intro pins s σ H vs
  intro us Q I r h
  obtain ⟨z, rfl, hz, q⟩ := h
  obtain ⟨val, rfl, t, rfl⟩ := vals1 r
  refine call_list_str (I.ok.hd hc) z t (fun h' tk acc c' hk hS hi => ?_) (line_of hz)
  have hl : (z.cps.toList.map fun c => V.str ⟨#[c]⟩).length ≤ sizeLine := by rw [List.length_map, Array.length_toList]; exact line_of hz
  exact ⟨.ref s.heap.objs.size, _, I.laid (t' := tk) hk (Nat.le_refl _) (show ObjOk X.prog X.w _ _ _ (.lst _) from ⟨hl, acc.toList, c', vals_signs hi, by rw [Array.toArray_toList]; exact hS⟩), rfl, q _ (I.hok.fresh (Nat.le_refl _))⟩
theorem call_lenD : CallR X (.builtin "len") (fun vs H Q => ∃ a kvs, vs = [.ref a] ∧ Rd H a (.dK kvs) ∧ Q (.int (kvs.length : Nat)) H) := by
  intro pins s σ H vs
  intro us Q I r h
  obtain ⟨a, kvs, rfl, h1, q⟩ := h
  obtain ⟨val, rfl, ru⟩ := vals1 r
  cases ru
  exact d_len I h1 fun t s' I' => ⟨.int _, H, I', ⟨t, rfl⟩, q⟩
mutual
theorem py_noDict : ∀ d : D, (py d).hasDict = false
  | .tup xs => by simp only [py, PyData.hasDict]; exact pys_noDict xs
  | .lst xs => by simp only [py, PyData.hasDict]; exact pys_noDict xs
  | .non => rfl
  | .bl _ => rfl
  | .int _ => rfl
  | .str _ => rfl
  | .dct _ => rfl
  | .ins _ _ => rfl
  | .obj _ => rfl
  | .scr _ => rfl
theorem pys_noDict : ∀ ds : List D, PyData.hasDictAll (pys ds) = false
  | [] => by simp only [pys, PyData.hasDictAll]
  | d :: ds => by simp only [pys, PyData.hasDictAll, py_noDict d, pys_noDict ds, Bool.or_self]
end
theorem iter_cases {K : PySem.W.Frag} {H : Hp} {ρ : Rho} {st : Sto} {d : D} {v : V} {ds : List D} (rs : RepS K cl H ρ st) (h : iterOf st d = some ds) (q : Rel K cl H ρ d v) :
    (∃ z : Str, v = .str z ∧ z.length ≤ LIM ∧ d = .str z ∧ ds = signs z ∧ PyData.strOk z = true) ∨ (∃ a vs, v = .ref a ∧ (SqL K H a vs ∨ SqT K H a vs) ∧ Rels K cl H ρ ds vs) := by
  unfold iterOf at h
  split at h
  · rename_i z
    obtain ⟨hl, h⟩ := ite_some h
    cases h
    obtain ⟨rfl, ok⟩ := q
    exact .inl ⟨z, rfl, hl, rfl, rfl, ok⟩
  · exact .inr (seqOf_rel rs h q)
/-- those that are reached by their names -/
def bnamed : Blt → Bool
  | .len | .abs | .int | .repr | .sorted | .tuple | .list | .all | .any | .sum | .min | .max => true
  | _ => false
theorem fold_low : ∀ (r : List Int) (i m : Int), m ∈ i :: r → (∀ y ∈ i :: r, m ≤ y) → r.foldl (fun m j => if j < m then j else m) i = m
  | [], i, m, h, _ => (List.mem_singleton.mp h).symm
  | j :: r, i, m, h, a => by
    rw [List.foldl_cons]
    have hi := a i (by simp)
    have hj := a j (by simp)
    refine fold_low r _ m ?_ fun y hy => ?_
    · rcases List.mem_cons.mp h with e | e
      · subst e
        rw [if_neg (by omega)]
        exact List.mem_cons_self ..
      · (rcases List.mem_cons.mp e with e | e)
        · subst e
          by_cases c : m < i
          · rw [if_pos c]
            exact List.mem_cons_self ..
          · rw [if_neg c]
            have : m = i := by omega
            rw [this]
            exact List.mem_cons_self ..
        · exact List.mem_cons_of_mem _ e
    · rcases List.mem_cons.mp hy with e | e
      · rw [e]
        split <;> assumption
      · exact a y (by simp [e])
theorem fold_high : ∀ (r : List Int) (i m : Int), m ∈ i :: r → (∀ y ∈ i :: r, y ≤ m) → r.foldl (fun m j => if j > m then j else m) i = m
  | [], i, m, h, _ => (List.mem_singleton.mp h).symm
  | j :: r, i, m, h, a => by
    rw [List.foldl_cons]
    have hi := a i (by simp)
    have hj := a j (by simp)
    refine fold_high r _ m ?_ fun y hy => ?_
    · rcases List.mem_cons.mp h with e | e
      · subst e
        rw [if_neg (by omega)]
        exact List.mem_cons_self ..
      · (rcases List.mem_cons.mp e with e | e)
        · subst e
          by_cases c : m > i
          · rw [if_pos c]
            exact List.mem_cons_self ..
          · rw [if_neg c]
            have : m = i := by omega
            rw [this]
            exact List.mem_cons_self ..
        · exact List.mem_cons_of_mem _ e
    · rcases List.mem_cons.mp hy with e | e
      · rw [e]
        split <;> assumption
      · exact a y (by simp [e])
/-- the built-in functions -/
theorem blt_ok (b : Blt) (hb : bnamed b = true) (hc : X.calm = true) (hg : X.A.guards = some []) (hu : X.A.units + 256 < cLine) : CallR X (bval b) (rMany X.K cl (blt b)) := by
  intro pins s σ H vs
  intro us Q I r h
  obtain ⟨E, ρ, st, ds, rs, rd, hp⟩ := h
  have hu1 : X.A.units + 64 < cLine := by omega
  have repr : ∀ (d e : D) (v : V), data st d = some e → Rel X.K cl H ρ d v → vs = [v] → b = .repr → (py e).showable = true → (py e).shown.length ≤ LIM → Q (.str (py e).shown) H → wpAny (model X.prog X.w) X.A (call (bval b) us) (EP X pins σ Q) X.xe s := by
    intro d e v h1 h2 h3 h5 h6 h7 q
    subst h3 h5
    obtain ⟨⟨a1, a2, a3⟩, a4⟩ := data_dp rs h1 h2
    exact call_repr hg hu1 pins s σ H _ us Q I r ⟨v, e, rfl, a1, h6, py_noDict e, a2, h7, q⟩
  unfold blt at hp
  split at hp
  · obtain ⟨v, rfl, a⟩ := rd.one
    obtain ⟨rfl, ok⟩ := a
    split at hp
    · rename_i hl
      exact call_len_str pins s σ H _ us Q I r ⟨_, rfl, line_of hl, hp.here rs rfl⟩
    · exact hp.elim
  · obtain ⟨v, rfl, a⟩ := rd.one
    split at hp
    · rename_i xs h1
      obtain ⟨p, zs, rfl, k, rr⟩ := seqOf_rel rs h1 a
      exact call_len_seq pins s σ H _ us Q I r ⟨p, zs, rfl, k, by rw [← rr.length]; exact hp.here rs rfl⟩
    · split at hp
      · rename_i kvs h1
        obtain ⟨p, kus, rfl, k, rr⟩ := dctOf_rel rs h1 a
        exact call_lenD pins s σ H _ us Q I r ⟨p, kus, rfl, k, by rw [← relK_len rr]; exact hp.here rs rfl⟩
      · exact hp.elim
  · obtain ⟨v, rfl, a⟩ := rd.one
    cases a
    exact call_abs pins s σ H _ us Q I r ⟨_, rfl, hp.here rs rfl⟩
  · obtain ⟨v, rfl, a⟩ := rd.one
    cases a
    exact call_int1 pins s σ H _ us Q I r (.inl ⟨_, rfl, hp.here rs rfl⟩)
  · obtain ⟨v, rfl, a⟩ := rd.one
    cases a
    exact call_int1 pins s σ H _ us Q I r (.inr ⟨_, rfl, hp.here rs rfl⟩)
  · obtain ⟨v, rfl, a⟩ := rd.one
    split at hp
    · rename_i xs h1
      split at hp
      · rename_i c
        rw [Bool.and_eq_true, Bool.and_eq_true, decide_eq_true_eq] at c
        exact repr _ _ _ h1 a rfl rfl c.1.1 c.2 (hp.here rs ⟨rfl, c.1.2⟩)
      · exact hp.elim
    · have one : ∀ e : D, RelR X.K cl H ρ e v → Post X.K cl (Rel X.K cl) H ρ (rep1 e st) Q E → wpAny (model X.prog X.w) X.A (call (bval .repr) us) (EP X pins σ Q) X.xe s := fun e a hp => by
        unfold rep1 at hp
        split at hp
        · rename_i c
          simp only [Bool.and_eq_true, decide_eq_true_eq] at c
          exact call_reprD hg hu1 pins s σ H _ us Q I r ⟨v, _, ρ, rfl, a, c.1.1.1.1, c.1.1.1.2, c.2, line_of c.1.2, hp.here rs ⟨rfl, c.1.1.2⟩⟩
        · exact hp.elim
      unfold repD at hp
      split at hp
      · split at hp
        · rename_i n kvs eg
          obtain ⟨a', e1, q⟩ := rs.has _ _ eg
          obtain ⟨kus, e2, q⟩ := q
          obtain ⟨a2, rfl, e3⟩ := a
          rw [e1] at e3
          cases e3
          exact one _ (.inr ⟨kvs, a', kus, rfl, rfl, e2, q⟩) hp
        · exact hp.elim
      · exact one _ (.inl a) hp
  · obtain ⟨v, rfl, a⟩ := rd.one
    split at hp
    · rename_i xs h1
      split at hp
      · rename_i c
        rw [Bool.and_eq_true, Bool.and_eq_true, Bool.and_eq_true, decide_eq_true_eq] at c
        obtain ⟨p, zs, rfl, k, rr⟩ := seqOf_rel rs h1 a
        exact call_sorted hu pins s σ H _ us Q I r ⟨p, zs, ρ, xs, rfl, k, rr, c.1.1.1, c.1.1.2, c.1.2, c.2, fun q ys hq ry => hp _ ρ _ (Step.same (same_new hq)) (rs.same (same_new hq)) (rel_newL rs hq ry)⟩
      · exact hp.elim
    · exact hp.elim
  · obtain ⟨v, rfl, a⟩ := rd.one
    split at hp
    · rename_i xs h1
      rcases iter_cases rs h1 a with ⟨z, rfl, hl, rfl, rfl, ok⟩ | ⟨p, zs, rfl, k, rr⟩
      · refine call_tupleS hc pins s σ H _ us Q I r ⟨z, rfl, hl, fun q hq => hp _ ρ _ (Step.same (same_new hq)) (rs.same (same_new hq)) (rel_newT hq (rels_signs fun c hc => strOk_sign ok hc))⟩
      · refine call_tuple_of pins s σ H _ us Q I r ⟨p, zs, rfl, ?_⟩
        rcases k with k | k
        · exact .inl ⟨k, fun q hq => hp _ ρ _ (Step.same (same_new hq)) (rs.same (same_new hq)) (rel_newT hq rr)⟩
        · exact .inr ⟨k, hp.here rs ⟨p, zs, rfl, k, rr⟩⟩
    · exact hp.elim
  · obtain ⟨v, rfl, a⟩ := rd.one
    split at hp
    · rename_i xs h1
      rcases iter_cases rs h1 a with ⟨z, rfl, hl, rfl, rfl, ok⟩ | ⟨p, zs, rfl, k, rr⟩
      · refine call_listS hc pins s σ H _ us Q I r ⟨z, rfl, hl, fun q hq => hp _ ρ _ (Step.same (same_new hq)) (rs.same (same_new hq)) (rel_newL rs hq (rels_signs fun c hc => strOk_sign ok hc))⟩
      · exact call_list_of pins s σ H _ us Q I r ⟨p, zs, rfl, k, fun q hq => hp _ ρ _ (Step.same (same_new hq)) (rs.same (same_new hq)) (rel_newL rs hq rr)⟩
    · split at hp
      · rename_i kvs h1
        obtain ⟨p, kus, rfl, k, rr⟩ := dctOf_rel rs h1 a
        exact call_listD hc pins s σ H _ us Q I r ⟨p, kus, rfl, k, fun q hq => hp _ ρ _ (Step.same (same_new hq)) (rs.same (same_new hq)) (rel_newL rs hq (relK_keys rr))⟩
      · exact hp.elim
  · obtain ⟨v, rfl, a⟩ := rd.one
    split at hp
    · rename_i bs h1
      obtain ⟨xs, h2, h3⟩ := bind_some h1
      obtain ⟨p, zs, rfl, k, rr⟩ := lstOf_rel rs h2 a
      have := rels_bls h3 rr
      subst this
      exact cr_all hc pins s σ H _ us Q I r ⟨p, bs, rfl, .inl k, hp.here rs rfl⟩
    · exact hp.elim
  · obtain ⟨v, rfl, a⟩ := rd.one
    split at hp
    · rename_i bs h1
      obtain ⟨xs, h2, h3⟩ := bind_some h1
      obtain ⟨p, zs, rfl, k, rr⟩ := lstOf_rel rs h2 a
      have := rels_bls h3 rr
      subst this
      exact cr_any hc pins s σ H _ us Q I r ⟨p, bs, rfl, .inl k, hp.here rs rfl⟩
    · exact hp.elim
  · obtain ⟨v, rfl, a⟩ := rd.one
    split at hp
    · rename_i bs h1
      obtain ⟨xs, h2, h3⟩ := bind_some h1
      obtain ⟨p, zs, rfl, k, rr⟩ := lstOf_rel rs h2 a
      have := rels_ints h3 rr
      subst this
      exact cr_sum hc pins s σ H _ us Q I r ⟨p, bs, rfl, .inl k, hp.here rs rfl⟩
    · exact hp.elim
  · obtain ⟨v, w, rfl, a, b⟩ := rd.two
    cases a
    cases b
    exact call_min2 hc pins s σ H _ us Q I r ⟨_, _, rfl, hp.here rs rfl⟩
  · obtain ⟨v, w, rfl, a, b⟩ := rd.two
    cases a
    cases b
    exact call_max2 hc pins s σ H _ us Q I r ⟨_, _, rfl, hp.here rs rfl⟩
  · obtain ⟨v, rfl, a⟩ := rd.one
    split at hp
    · rename_i i r' h1
      obtain ⟨xs, h2, h3⟩ := bind_some h1
      obtain ⟨p, zs, rfl, k, rr⟩ := seqOf_rel rs h2 a
      have := rels_ints h3 rr
      subst this
      exact cr_minS hc pins s σ H _ us Q I r ⟨p, i :: r', rfl, k, Nat.succ_pos _, fun m hm hle => by rw [← fold_low r' i m hm hle]; exact hp.here rs rfl⟩
    · exact hp.elim
  · obtain ⟨v, rfl, a⟩ := rd.one
    split at hp
    · rename_i i r' h1
      obtain ⟨xs, h2, h3⟩ := bind_some h1
      obtain ⟨p, zs, rfl, k, rr⟩ := seqOf_rel rs h2 a
      have := rels_ints h3 rr
      subst this
      exact cr_maxS hc pins s σ H _ us Q I r ⟨p, i :: r', rfl, k, Nat.succ_pos _, fun m hm hle => by rw [← fold_high r' i m hm hle]; exact hp.here rs rfl⟩
    · exact hp.elim
  · cases hb
  · cases hb
  · exact hp.elim
end
end Dv
namespace Dv
open PySem L2
section
variable {K : PySem.W.Frag} {cl : Nat → Addr} {H : Hp} {ρ : Rho} {st : Sto}
/-- a list of ours -/
theorem own_lst (r : RepS K cl H ρ st) {n : Nat} {v : V} {xs : List D} (h : st.get n = some (.lst xs)) (q : Rel K cl H ρ (.obj n) v) : ∃ a vs, v = .ref a ∧ ρ.f n = some a ∧ H a = some (.lst vs) ∧ Rels K cl H ρ xs vs := by
  obtain ⟨a, e, k⟩ := q
  obtain ⟨b, e3, vs, e4, rr⟩ := r.has n _ h
  rw [k] at e3
  cases e3
  exact ⟨a, vs, e, k, e4, rr⟩
theorem own_dct (r : RepS K cl H ρ st) {n : Nat} {v : V} {xs : List (D × D)} (h : st.get n = some (.dct xs)) (q : Rel K cl H ρ (.obj n) v) : ∃ a vs, v = .ref a ∧ ρ.f n = some a ∧ H a = some (.dK vs) ∧ RelK K cl H ρ xs vs := by
  obtain ⟨a, e, k⟩ := q
  obtain ⟨b, e3, vs, e4, rr⟩ := r.has n _ h
  rw [k] at e3
  cases e3
  exact ⟨a, vs, e, k, e4, rr⟩
/-- it gets other items -/
theorem put_lst (r : RepS K cl H ρ st) {n : Nat} {a : Addr} {vs us : List V} {ds : List D} (k : ρ.f n = some a) (e : H a = some (.lst vs)) (q : Rels K cl H ρ ds us) :
    Step H ρ (upd H a (.lst us)) ρ ∧ RepS K cl (upd H a (.lst us)) ρ (st.put n (.lst ds)) := by
  have s := Step.put (u' := .lst us) r k e (fun z => z)
  exact ⟨s, r.put k e (fun z => z) ⟨us, upd_same, q.mono s ds⟩⟩
theorem put_dct (r : RepS K cl H ρ st) {n : Nat} {a : Addr} {vs us : List (Key × V)} {ds : List (D × D)} (k : ρ.f n = some a) (e : H a = some (.dK vs)) (q : RelK K cl H ρ ds us) :
    Step H ρ (upd H a (.dK us)) ρ ∧ RepS K cl (upd H a (.dK us)) ρ (st.put n (.dct ds)) := by
  have s := Step.put (u' := .dK us) r k e (fun z => z)
  exact ⟨s, r.put k e (fun z => z) ⟨us, upd_same, q.mono s ds⟩⟩
theorem any_keys {b : D} {l : Key} (hb : Rel K cl H ρ b (kV l)) : ∀ {kvs : List (D × D)} {kus : List (Key × V)}, RelK K cl H ρ kvs kus → (kvs.any fun p => eqD p.1 b) = kus.any fun p => decide (p.1 = l)
  | [], _, h => by cases h; rfl
  | (k, d) :: kvs, _, h => by
    obtain ⟨key, v, r, rfl, h1, h2, h3⟩ := h
    rw [List.any_cons, List.any_cons, any_keys hb h3, eq_keys h1 hb]
theorem map_keys {b w : D} {l : Key} {z : V} (hb : Rel K cl H ρ b (kV l)) (hw : Rel K cl H ρ w z) : ∀ {kvs : List (D × D)} {kus : List (Key × V)}, RelK K cl H ρ kvs kus →
    RelK K cl H ρ (kvs.map fun p => if eqD p.1 b then (p.1, w) else p) (kus.map fun p => if p.1 = l then (p.1, z) else p)
  | [], _, h => by cases h; rfl
  | (k, d) :: kvs, _, h => by
    obtain ⟨key, v, r, rfl, h1, h2, h3⟩ := h
    have e := eq_keys h1 hb
    simp only [List.map_cons]
    by_cases q : key = l
    · rw [decide_eq_true q] at e
      rw [if_pos e, if_pos q]
      exact ⟨_, _, _, rfl, h1, hw, map_keys hb hw h3⟩
    · rw [decide_eq_false q] at e
      rw [if_neg (by rw [e]; exact Bool.false_ne_true), if_neg q]
      exact ⟨_, _, _, rfl, h1, h2, map_keys hb hw h3⟩
theorem snoc_keys {b w : D} {l : Key} {z : V} (hb : Rel K cl H ρ b (kV l)) (hw : Rel K cl H ρ w z) : ∀ {kvs : List (D × D)} {kus : List (Key × V)}, RelK K cl H ρ kvs kus → RelK K cl H ρ (kvs ++ [(b, w)]) (kus ++ [(l, z)])
  | [], _, h => by cases h; exact ⟨_, _, _, rfl, hb, hw, rfl⟩
  | (k, d) :: kvs, _, h => by
    obtain ⟨key, v, r, rfl, h1, h2, h3⟩ := h
    exact ⟨_, _, _, rfl, h1, h2, snoc_keys hb hw h3⟩
theorem kPut_rel {b w : D} {l : Key} {z : V} (hb : Rel K cl H ρ b (kV l)) (hw : Rel K cl H ρ w z) {kvs : List (D × D)} {kus : List (Key × V)} (h : RelK K cl H ρ kvs kus) : RelK K cl H ρ (kPut kvs b w) (putK kus l z) := by
  unfold kPut putK
  rw [any_keys hb h]
  split
  · exact map_keys hb hw h
  · exact snoc_keys hb hw h
end
/-- what a method of ours asks -/
def rMeth (K : PySem.W.Frag) (cl : Nat → Addr) (m : Mth) : V → List V → Hp → VK → Prop := fun x vs H Q => ∃ E ρ st o ds, RepS K cl H ρ st ∧ Rel K cl H ρ o x ∧ Rels K cl H ρ ds vs ∧ Post K cl (Rel K cl) H ρ (mth m o ds st) Q E
/-- the method's name in the table -/
def mid : Mth → String
  | .append => "list.append" | .pop => "list.pop" | .popAt => "list.pop" | .remove => "list.remove" | .extend => "list.extend" | .index => "list.index" | .get => "dict.get" | .setd => "dict.setdefault" | .join => "str.join"
section
variable {X : Cx} {cl : Nat → Addr}
theorem mth_ok (m : Mth) : MtM X (mid m) (rMeth X.K cl m) := by
  intro pins s σ H x vs
  intro v us Q I rx rv h
  obtain ⟨E, ρ, st, o, ds, rs, ro, rd, hp⟩ := h
  unfold mth at hp
  split at hp
  · rename_i n d
    obtain ⟨y, rfl, ry⟩ := rd.one
    split at hp
    · rename_i xs h1
      split at hp
      · rename_i c
        obtain ⟨a, zs, rfl, k, e, rr⟩ := own_lst rs h1 ro
        obtain ⟨s1, r1⟩ := put_lst rs k e (rr.append (show Rels X.K cl H ρ [d] [y] from ⟨y, [], rfl, ry, rfl⟩))
        exact mt_append pins s σ H _ _ v us Q I rx rv ⟨a, zs, y, rfl, rfl, e, Nat.lt_of_lt_of_le (by rw [← rr.length]; exact c) (line_of (Nat.le_refl _)), hp _ ρ _ s1 r1 rfl⟩
      · exact hp.elim
    · exact hp.elim
  · rename_i n
    cases rd
    split at hp
    · rename_i xs h1
      split at hp
      · rename_i d h2
        obtain ⟨a, zs, rfl, k, e, rr⟩ := own_lst rs h1 ro
        obtain ⟨y, h3, h4⟩ := rr.get h2
        obtain ⟨s1, r1⟩ := put_lst rs k e rr.dropLast
        exact mt_pop pins s σ H _ _ v us Q I rx rv ⟨a, zs, y, rfl, rfl, e, by rw [← rr.length]; exact h3, hp _ ρ _ s1 r1 (h4.mono s1 _)⟩
      · exact hp.elim
    · exact hp.elim
  · rename_i n i
    obtain ⟨y, rfl, ry⟩ := rd.one
    cases ry
    split at hp
    · rename_i xs h1
      split at hp
      · rename_i j hj
        split at hp
        · rename_i d h2
          obtain ⟨a, zs, rfl, k, e, rr⟩ := own_lst rs h1 ro
          obtain ⟨y, h3, h4⟩ := rr.get h2
          obtain ⟨s1, r1⟩ := put_lst rs k e (rr.eraseIdx j)
          obtain ⟨c, hj⟩ := ite_some hj
          have l0 : LIM = 16777216 := rfl
          have hi := (ixN_seq (n := zs.length) (i := i) (j := j) (by rw [← rr.length, ← place_ix]; exact hj)).1
          exact mt_popAt pins s σ H _ _ v us Q I rx rv ⟨a, zs, i, j, y, rfl, rfl, e, by omega, by omega, hi, h3, hp _ ρ _ s1 r1 (h4.mono s1 _)⟩
        · exact hp.elim
      · exact hp.elim
    · exact hp.elim
  · rename_i n i
    obtain ⟨y, rfl, ry⟩ := rd.one
    cases ry
    split at hp
    · rename_i xs h1
      split at hp
      · rename_i ns hns
        split at hp
        · rename_i hlt
          obtain ⟨a, zs, rfl, k, e, rr⟩ := own_lst rs h1 ro
          have ez := rels_ints hns rr
          subst ez
          obtain ⟨s1, r1⟩ := put_lst rs k e (rr.eraseIdx (ns.idxOf i))
          rw [erase_mapI] at s1 r1
          refine mt_remove pins s σ H _ _ v us Q I rx rv ⟨a, ns, i, ns.idxOf i, rfl, rfl, e, ?_, fun m hm z => ?_, hp _ ρ _ s1 r1 rfl⟩
          · rw [List.getElem?_eq_getElem hlt, List.getElem_idxOf]
          · obtain ⟨hm2, z⟩ := List.getElem?_eq_some_iff.mp z
            have := List.not_of_lt_findIdx (p := (· == i)) (xs := ns) hm
            rw [z] at this
            simp at this
        · exact hp.elim
      · exact hp.elim
    · exact hp.elim
  · exact hp.elim
/-- o[i] = v -/
def rIsub (K : PySem.W.Frag) (cl : Nat → Addr) : TSet := fun o i v H Q => ∃ ρ st a b d st', RepS K cl H ρ st ∧ Rel K cl H ρ a o ∧ Rel K cl H ρ b i ∧ Rel K cl H ρ d v ∧ isub a b d st = .ok () st' ∧ ∀ H' ρ', Step H ρ H' ρ' → RepS K cl H' ρ' st' → Q H'
theorem isub_ok (hu : X.A.units + 1 < cLine) : PSet X (rIsub X.K cl) := by
  intro pins s σ H o i v ov
  intro iv u Q I ro ri rv h
  obtain ⟨ρ, st, a, b, d, st', rs, ra, rb, rd, hp, q⟩ := h
  unfold isub at hp
  split at hp
  · rename_i n
    split at hp
    · rename_i xs h1
      split at hp
      · rename_i k
        cases rb
        split at hp
        · rename_i j hj
          cases hp
          obtain ⟨p, zs, rfl, kk, e, rr⟩ := own_lst rs h1 ra
          obtain ⟨s1, r1⟩ := put_lst rs kk e (rr.set j rd)
          exact set_list pins s σ H _ _ _ ov iv u Q I ro ri rv ⟨p, zs, k, j, rfl, rfl, e, by rw [← rr.length, ← place_ix]; exact hj, q _ ρ s1 r1⟩
        · cases hp
      · cases hp
    · rename_i kvs h1
      split at hp
      · rename_i c
        cases hp
        rw [Bool.and_eq_true, decide_eq_true_eq] at c
        obtain ⟨p, kus, rfl, kk, e, rr⟩ := own_dct rs h1 ra
        obtain ⟨key, rfl⟩ := keyOk_rel c.1 rb
        obtain ⟨s1, r1⟩ := put_dct rs kk e (kPut_rel rb rd rr)
        cases ro
        exact d_setItem hu I (.inl ⟨kus, key, e, rfl, Nat.lt_of_lt_of_le (by rw [← relK_len rr]; exact c.2) (line_of (Nat.le_refl _)), rfl⟩) ri rv fun s' I' => ⟨_, I', q _ ρ s1 r1⟩
      · cases hp
    · cases hp
  · cases hp
end
end Dv
namespace Dv
open PySem L2
def Rho.hide (ρ : Rho) (L : Addr) : Rho := ⟨ρ.f, fun a => ρ.hid a ∨ a = L⟩
section
variable {K : PySem.W.Frag} {cl : Nat → Addr} {H H' H1 : Hp} {ρ ρ' ρ1 : Rho} {st : Sto} {L : Addr} {o u : HO}
/-- a new thing that nobody knows -/
theorem Step.hide (h : H L = none) : Step H ρ (upd H L o) (ρ.hide L) :=
  ⟨fun a u e _ => same_new h a u e, fun a u e _ => same_new h a u e, fun a u e => ⟨u, same_new h a u e⟩, fun _ _ e => e, fun _ _ e => .inl e, fun _ e => .inl e,
    fun a u e z => z.elim id fun z => by rw [z, h] at e; cases e⟩
theorem RepS.hide (r : RepS K cl H ρ st) (h : H L = none) : RepS K cl (upd H L o) (ρ.hide L) st := by
  have s := Step.hide (ρ := ρ) (o := o) h
  refine ⟨fun n q e => ?_, r.dom, r.inj, fun n a e z => ?_, fun a e => ?_⟩
  · obtain ⟨a, e1, q1⟩ := r.has n q e
    exact ⟨a, e1, q1.mono s (same_new h a)⟩
  · rcases z with z | z
    · exact r.ap n a e z
    · obtain ⟨w, ew⟩ := r.tracked e
      rw [z, h] at ew
      cases ew
  · rcases e with e | e
    · obtain ⟨w, ew⟩ := r.hid a e
      exact ⟨w, same_new h a w ew⟩
    · exact ⟨o, by rw [e]; exact upd_same⟩
/-- what is hidden is written -/
theorem Ext.hidden (hh : ρ.hid L) (hi : H L = some u) (im : ¬ Imm u) : Ext K H ρ (upd H L o) ρ := by
  refine ⟨fun a vs h => ?_, fun a w h f => ?_, fun _ _ e => e⟩
  · rcases h with (h | ⟨x, h⟩) | h
    · exact .inl (.inl (by rw [upd_ne (fun z => by rw [z, hi] at h; cases h; exact im trivial)]; exact h))
    · exact .inl (.inr ⟨x, by rw [upd_ne (fun z => by rw [z, hi] at h; cases h; exact im trivial)]; exact h⟩)
    · exact .inr h
  · have ne : a ≠ L := fun z => f.2 (by rw [z]; exact hh)
    refine ⟨?_, f⟩
    rcases h with h | ⟨x, h⟩
    · exact .inl (by rw [upd_ne ne]; exact h)
    · exact .inr ⟨x, by rw [upd_ne ne]; exact h⟩
theorem RepS.hidden (r : RepS K cl H ρ st) (hh : ρ.hid L) (hi : H L = some u) (im : ¬ Imm u) : RepS K cl (upd H L o) ρ st := by
  refine ⟨fun n q e => ?_, r.dom, r.inj, r.ap, fun a e => ?_⟩
  · obtain ⟨a, e1, q1⟩ := r.has n q e
    exact ⟨a, e1, q1.ext (Ext.hidden hh hi im) fun w ew => by rw [upd_ne (fun z => r.ap n a e1 (by rw [z]; exact hh))]; exact ew⟩
  · by_cases z : a = L
    · exact ⟨o, by rw [z]; exact upd_same⟩
    · obtain ⟨w, ew⟩ := r.hid a e
      exact ⟨w, by rw [upd_ne z]; exact ew⟩
theorem Step.hidden (s : Step H ρ H1 ρ1) (h : H L = none) : Step H ρ (upd H1 L o) ρ1 :=
  ⟨fun a w e n => by rw [upd_ne (ne_of_none e h)]; exact s.keep a w e n, fun a w e i => by rw [upd_ne (ne_of_none e h)]; exact s.imm a w e i,
    fun a w e => let ⟨o', e'⟩ := s.tr a w e; ⟨o', by rw [upd_ne (ne_of_none e h)]; exact e'⟩, s.live, s.new, s.hid1, s.hid2⟩
theorem Step.none_of (s : Step H ρ H1 ρ1) {a : Addr} (h : H1 a = none) : H a = none := by
  cases q : H a with
  | none => rfl
  | some o => obtain ⟨o', e'⟩ := s.tr a o q; rw [h] at e'; cases e'
/-- .. is known again -/
theorem Ext.unhide (s : Step H ρ H1 ρ1) : Ext K H1 ρ1 H1 ⟨ρ1.f, ρ.hid⟩ := ⟨fun _ _ h => h, fun a u h f => ⟨h, f.1, fun z => f.2 (s.hid1 a z)⟩, fun _ _ e => e⟩
theorem RepS.unhide (r : RepS K cl H1 ρ1 st) (s : Step H ρ H1 ρ1) : RepS K cl H1 ⟨ρ1.f, ρ.hid⟩ st :=
  ⟨fun n o e => let ⟨a, e1, q1⟩ := r.has n o e; ⟨a, e1, q1.ext (Ext.unhide s) fun _ h => h⟩, r.dom, r.inj, fun n a e z => r.ap n a e (s.hid1 a z), fun a z => r.hid a (s.hid1 a z)⟩
theorem Step.unhide (s : Step H ρ H1 ρ1) : Step H ρ H1 ⟨ρ1.f, ρ.hid⟩ := ⟨s.keep, s.imm, s.tr, s.live, s.new, fun _ h => h, fun _ _ _ h => h⟩
theorem free_unhide (r0 : RepS K cl H ρ st) {st1 : Sto} (r : RepS K cl H1 ρ1 st1) (h : H L = none) (hh : ρ1.hid L) : (⟨ρ1.f, ρ.hid⟩ : Rho).free L :=
  ⟨fun n e => r.ap n L e hh, fun z => by obtain ⟨o, e⟩ := r0.hid L z; rw [h] at e; cases e⟩
/-- a new list that nobody knows yet, since H -/
def HidL (K : PySem.W.Frag) (cl : Nat → Addr) (H : Hp) : Hp → Rho → List D → V → Prop := fun H' ρ' ds v => ∃ a vs, v = .ref a ∧ H a = none ∧ ρ'.hid a ∧ H' a = some (.lst vs) ∧ Rels K cl H' ρ' ds vs
def HidK (K : PySem.W.Frag) (cl : Nat → Addr) (H : Hp) : Hp → Rho → List (D × D) → V → Prop := fun H' ρ' ds v => ∃ a vs, v = .ref a ∧ H a = none ∧ ρ'.hid a ∧ H' a = some (.dK vs) ∧ RelK K cl H' ρ' ds vs
theorem HidL.new {ds : List D} {vs : List V} (s : Step H ρ H1 ρ1) (h : H1 L = none) (q : Rels K cl H1 ρ1 ds vs) : HidL K cl H (upd H1 L (.lst vs)) (ρ1.hide L) ds (.ref L) :=
  ⟨L, vs, rfl, s.none_of h, .inr rfl, upd_same, q.mono (Step.hide h) ds⟩
/-- frozen -/
theorem HidL.frozen (r0 : RepS K cl H ρ st) (s : Step H ρ H1 ρ1) {st1 : Sto} (r : RepS K cl H1 ρ1 st1) {ds : List D} {v : V} (h : HidL K cl H H1 ρ1 ds v) : Rel K cl H1 ⟨ρ1.f, ρ.hid⟩ (.lst ds) v := by
  obtain ⟨a, vs, e, n, hh, k, q⟩ := h
  exact ⟨a, vs, e, .inl k, free_unhide r0 r n hh, q.ext (Ext.unhide s) ds⟩
theorem HidK.frozen (r0 : RepS K cl H ρ st) (s : Step H ρ H1 ρ1) {st1 : Sto} (r : RepS K cl H1 ρ1 st1) {ds : List (D × D)} {v : V} (h : HidK K cl H H1 ρ1 ds v) : Rel K cl H1 ⟨ρ1.f, ρ.hid⟩ (.dct ds) v := by
  obtain ⟨a, vs, e, n, hh, k, q⟩ := h
  exact ⟨a, vs, e, .inl k, free_unhide r0 r n hh, q.ext (Ext.unhide s) ds⟩
/-- .. or one of ours -/
def Rho.own (ρ1 ρ : Rho) (n : Nat) (a : Addr) : Rho := ⟨fun m => if m = n then some a else ρ1.f m, ρ.hid⟩
theorem Ext.own (s : Step H ρ H1 ρ1) {st1 : Sto} (r : RepS K cl H1 ρ1 st1) {a : Addr} (hh : ρ1.hid a) : Ext K H1 ρ1 H1 (ρ1.own ρ st1.length a) := by
  refine ⟨fun _ _ h => h, fun b u h f => ⟨h, fun n e => ?_, fun z => f.2 (s.hid1 b z)⟩, fun n b e => ?_⟩
  · have e : (if n = st1.length then some a else ρ1.f n) = some b := e
    split at e
    · cases e
      exact f.2 hh
    · exact f.1 n e
  · show (if n = st1.length then some a else ρ1.f n) = some b
    rw [if_neg (Nat.ne_of_lt (r.dom n b e))]
    exact e
theorem Step.own (s : Step H ρ H1 ρ1) {st1 : Sto} (r : RepS K cl H1 ρ1 st1) {a : Addr} (hn : H a = none) : Step H ρ H1 (ρ1.own ρ st1.length a) := by
  refine ⟨s.keep, s.imm, s.tr, fun n b e => ?_, fun n b e => ?_, fun _ h => h, fun _ _ _ h => h⟩
  · have e1 := s.live n b e
    show (if n = st1.length then some a else ρ1.f n) = some b
    rw [if_neg (Nat.ne_of_lt (r.dom n b e1))]
    exact e1
  · have e : (if n = st1.length then some a else ρ1.f n) = some b := e
    split at e
    · cases e
      exact .inr hn
    · exact s.new n b e
theorem RepS.own (r0 : RepS K cl H ρ st) (s : Step H ρ H1 ρ1) {st1 : Sto} (r : RepS K cl H1 ρ1 st1) {a : Addr} (hn : H a = none) (hh : ρ1.hid a) {x : O} (q : RelO K cl H1 ρ1 a x) : RepS K cl H1 (ρ1.own ρ st1.length a) (x :: st1) := by
  have ex := Ext.own (K := K) s r hh
  refine ⟨fun n o' e => ?_, fun n b e => ?_, fun n m b e1 e2 => ?_, fun n b e z => ?_, fun b e => r.hid b (s.hid1 b e)⟩
  · rw [get_push] at e
    by_cases hn : n = st1.length
    · rw [if_pos hn] at e
      cases e
      exact ⟨a, by show (if n = st1.length then some a else ρ1.f n) = some a; rw [if_pos hn], q.ext ex fun _ h => h⟩
    · rw [if_neg hn] at e
      obtain ⟨b, e1, q1⟩ := r.has n o' e
      exact ⟨b, by show (if n = st1.length then some a else ρ1.f n) = some b; rw [if_neg hn]; exact e1, q1.ext ex fun _ h => h⟩
  · have e : (if n = st1.length then some a else ρ1.f n) = some b := e
    rw [List.length_cons]
    split at e
    · omega
    · have := r.dom n b e
      omega
  · have e1 : (if n = st1.length then some a else ρ1.f n) = some b := e1
    have e2 : (if m = st1.length then some a else ρ1.f m) = some b := e2
    by_cases hn : n = st1.length
    · rw [if_pos hn] at e1
      cases e1
      by_cases hm : m = st1.length
      · rw [hn, hm]
      · rw [if_neg hm] at e2
        exact absurd hh (r.ap m a e2)
    · rw [if_neg hn] at e1
      by_cases hm : m = st1.length
      · rw [if_pos hm] at e2
        cases e2
        exact absurd hh (r.ap n a e1)
      · rw [if_neg hm] at e2
        exact r.inj n m b e1 e2
  · have e : (if n = st1.length then some a else ρ1.f n) = some b := e
    split at e
    · cases e
      obtain ⟨o, e'⟩ := r0.hid a z
      rw [hn] at e'
      cases e'
    · exact r.ap n b e (s.hid1 b z)
theorem rel_own {st1 : Sto} {a : Addr} : Rel K cl H1 (ρ1.own ρ st1.length a) (.obj st1.length) (.ref a) := ⟨a, rfl, by show (if st1.length = st1.length then some a else ρ1.f _) = some a; rw [if_pos rfl]⟩
end
def Rho.upto (ρ : Rho) (lo : Nat) : Rho := ⟨fun n => if n < lo then ρ.f n else none, ρ.hid⟩
section
variable {K : PySem.W.Frag} {cl : Nat → Addr} {H H1 : Hp} {ρ ρ1 : Rho} {st : Sto} {lo : Nat}
theorem upto_some {n : Nat} {a : Addr} (h : (ρ.upto lo).f n = some a) : n < lo ∧ ρ.f n = some a := by
  have h : (if n < lo then ρ.f n else none) = some a := h
  split at h
  · exact ⟨by assumption, h⟩
  · cases h
theorem upto_of {n : Nat} {a : Addr} (hn : n < lo) (h : ρ.f n = some a) : (ρ.upto lo).f n = some a := by
  show (if n < lo then ρ.f n else none) = some a
  rw [if_pos hn]
  exact h
theorem free_upto {a : Addr} (f : ρ.free a) : (ρ.upto lo).free a := ⟨fun n e => f.1 n (upto_some e).2, f.2⟩
mutual
theorem Rel.upto : ∀ (d : D) {v : V}, below lo d = true → Rel K cl H ρ d v → Rel K cl H (ρ.upto lo) d v
  | .non, _, _, h => h
  | .bl _, _, _, h => h
  | .int _, _, _, h => h
  | .str _, _, _, h => h
  | .tup ds, _, b, h => by
    obtain ⟨a, vs, e, q, r⟩ := h
    exact ⟨a, vs, e, q, Rels.upto ds (by simpa [below] using b) r⟩
  | .lst ds, _, b, h => by
    obtain ⟨a, vs, e, q, f, r⟩ := h
    exact ⟨a, vs, e, q, free_upto f, Rels.upto ds (by simpa [below] using b) r⟩
  | .dct kvs, _, b, h => by
    obtain ⟨a, vs, e, q, f, r⟩ := h
    exact ⟨a, vs, e, q, free_upto f, RelK.upto kvs (by simpa [below] using b) r⟩
  | .ins c fs, _, b, h => by
    obtain ⟨a, dx, vs, e, q, f, r⟩ := h
    exact ⟨a, dx, vs, e, q, free_upto f, RelF.upto fs (by simpa [below] using b) r⟩
  | .obj n, _, b, h => by
    obtain ⟨a, e, q⟩ := h
    exact ⟨a, e, upto_of (by simpa [below] using b) q⟩
  | .scr ns, _, b, h => by
    obtain ⟨a, e, q⟩ := h
    exact ⟨a, e, q.imp (fun q => ⟨q.1, free_upto q.2⟩) id⟩
theorem Rels.upto : ∀ (ds : List D) {vs : List V}, belows lo ds = true → Rels K cl H ρ ds vs → Rels K cl H (ρ.upto lo) ds vs
  | [], _, _, h => h
  | d :: ds, _, b, h => by
    obtain ⟨v, r, e, h1, h2⟩ := h
    have b' : below lo d = true ∧ belows lo ds = true := by simpa [belows] using b
    exact ⟨v, r, e, Rel.upto d b'.1 h1, Rels.upto ds b'.2 h2⟩
theorem RelK.upto : ∀ (ds : List (D × D)) {vs : List (Key × V)}, belowk lo ds = true → RelK K cl H ρ ds vs → RelK K cl H (ρ.upto lo) ds vs
  | [], _, _, h => h
  | (k, d) :: ds, _, b, h => by
    obtain ⟨key, v, r, e, h1, h2, h3⟩ := h
    have b' : (below lo k = true ∧ below lo d = true) ∧ belowk lo ds = true := by simpa [belowk] using b
    exact ⟨key, v, r, e, Rel.upto k b'.1.1 h1, Rel.upto d b'.1.2 h2, RelK.upto ds b'.2 h3⟩
theorem RelF.upto : ∀ (ds : List (Str × D)) {vs : List (Str × V)}, belowf lo ds = true → RelF K cl H ρ ds vs → RelF K cl H (ρ.upto lo) ds vs
  | [], _, _, h => h
  | (k, d) :: ds, _, b, h => by
    obtain ⟨v, r, e, h2, h3⟩ := h
    have b' : below lo d = true ∧ belowf lo ds = true := by simpa [belowf] using b
    exact ⟨v, r, e, Rel.upto d b'.1 h2, RelF.upto ds b'.2 h3⟩
end
theorem RepS.upto (r : RepS K cl H ρ st) (hl : lo ≤ st.length) (b : (st.drop (st.length - lo)).all (belowO lo) = true) : RepS K cl H (ρ.upto lo) (st.drop (st.length - lo)) := by
  refine ⟨fun n o e => ?_, fun n a e => ?_, fun n m a e1 e2 => r.inj n m a (upto_some e1).2 (upto_some e2).2, fun n a e => r.ap n a (upto_some e).2, r.hid⟩
  · rw [get_drop hl] at e
    split at e
    · rename_i hn
      obtain ⟨a, e1, q⟩ := r.has n o e
      refine ⟨a, upto_of hn e1, ?_⟩
      have bo : belowO lo o = true := by
        rw [List.all_eq_true] at b
        refine b o ?_
        unfold Sto.get at e
        rw [if_pos (by omega)] at e
        refine List.mem_of_getElem? (i := lo - 1 - n) ?_
        rw [List.getElem?_drop, ← e]
        congr 1
        omega
      cases o with
      | lst ds => obtain ⟨vs, e2, q⟩ := q; exact ⟨vs, e2, Rels.upto ds bo q⟩
      | dct ds => obtain ⟨vs, e2, q⟩ := q; exact ⟨vs, e2, RelK.upto ds bo q⟩
      | ins c ds => obtain ⟨dx, vs, e2, q⟩ := q; exact ⟨dx, vs, e2, RelF.upto ds bo q⟩
    · cases e
  · rw [List.length_drop]
    have := (upto_some e).1
    omega
/-- what is told by what it holds -/
theorem deep_free (r : RepS K cl H ρ st) {n : Nat} {a : Addr} (hn : ¬ n < lo) (h : ρ.f n = some a) : (ρ.upto lo).free a := by
  refine ⟨fun m e => ?_, r.ap n a h⟩
  have e2 := upto_some e
  have := r.inj n m a h e2.2
  omega
theorem deeps_of {n : Nat} (ih : ∀ d e v, deep st lo n d = some e → Rel K cl H ρ d v → Rel K cl H (ρ.upto lo) e v) : ∀ (ds es : List D) (vs : List V), ds.mapM (deep st lo n) = some es → Rels K cl H ρ ds vs → Rels K cl H (ρ.upto lo) es vs
  | [], es, vs, h, r => by
    have := mapM_nil_some h
    subst this
    exact r
  | d :: ds, es, vs, h, r => by
    obtain ⟨y, ys, h1, h2, rfl⟩ := mapM_cons_some h
    obtain ⟨v, us, rfl, a, b⟩ := r
    exact ⟨v, us, rfl, ih d y v h1 a, deeps_of ih ds ys us h2 b⟩
theorem deepk_of {n : Nat} (ih : ∀ d e v, deep st lo n d = some e → Rel K cl H ρ d v → Rel K cl H (ρ.upto lo) e v) : ∀ (ds es : List (D × D)) (vs : List (Key × V)),
    (ds.mapM fun p => (deep st lo n p.1).bind fun k => (deep st lo n p.2).map fun v => (k, v)) = some es → RelK K cl H ρ ds vs → RelK K cl H (ρ.upto lo) es vs
  | [], es, vs, h, r => by
    have := mapM_nil_some h
    subst this
    exact r
  | (k, d) :: ds, es, vs, h, r => by
    obtain ⟨y, ys, h1, h2, rfl⟩ := mapM_cons_some h
    obtain ⟨key, v, us, rfl, a, b, c⟩ := r
    obtain ⟨k', h3, h4⟩ := bind_some h1
    obtain ⟨d', h5, rfl⟩ := map_some h4
    exact ⟨key, v, us, rfl, ih k k' _ h3 a, ih d d' v h5 b, deepk_of ih ds ys us h2 c⟩
theorem deepf_of {n : Nat} (ih : ∀ d e v, deep st lo n d = some e → Rel K cl H ρ d v → Rel K cl H (ρ.upto lo) e v) : ∀ (ds es : List (Str × D)) (vs : List (Str × V)),
    (ds.mapM fun p => (deep st lo n p.2).map fun v => (p.1, v)) = some es → RelF K cl H ρ ds vs → RelF K cl H (ρ.upto lo) es vs
  | [], es, vs, h, r => by
    have := mapM_nil_some h
    subst this
    exact r
  | (k, d) :: ds, es, vs, h, r => by
    obtain ⟨y, ys, h1, h2, rfl⟩ := mapM_cons_some h
    obtain ⟨v, us, rfl, b, c⟩ := r
    obtain ⟨d', h5, rfl⟩ := map_some h1
    exact ⟨v, us, rfl, ih d d' v h5 b, deepf_of ih ds ys us h2 c⟩
theorem deep_rel (r : RepS K cl H ρ st) : ∀ (n : Nat) (d e : D) (v : V), deep st lo n d = some e → Rel K cl H ρ d v → Rel K cl H (ρ.upto lo) e v
  | 0, _, _, _, h, _ => by cases h
  | n + 1, d, e, v, h, q => by
    have ih := deep_rel r n
    cases d with
    | non => cases h; exact q
    | bl b => cases h; exact q
    | int i => cases h; exact q
    | str x => cases h; exact q
    | scr ns =>
      cases h
      obtain ⟨a, e, q⟩ := q
      exact ⟨a, e, q.imp (fun q => ⟨q.1, free_upto q.2⟩) id⟩
    | tup ds =>
      obtain ⟨es, h1, rfl⟩ := map_some (show (ds.mapM (deep st lo n)).map D.tup = some e from h)
      obtain ⟨a, vs, e, k, rr⟩ := q
      exact ⟨a, vs, e, k, deeps_of ih ds es vs h1 rr⟩
    | lst ds =>
      obtain ⟨es, h1, rfl⟩ := map_some (show (ds.mapM (deep st lo n)).map D.lst = some e from h)
      obtain ⟨a, vs, e, k, f, rr⟩ := q
      exact ⟨a, vs, e, k, free_upto f, deeps_of ih ds es vs h1 rr⟩
    | dct ds =>
      obtain ⟨es, h1, rfl⟩ := map_some (show ((ds.mapM fun p => (deep st lo n p.1).bind fun k => (deep st lo n p.2).map fun v => (k, v)).map D.dct) = some e from h)
      obtain ⟨a, vs, e, k, f, rr⟩ := q
      exact ⟨a, vs, e, k, free_upto f, deepk_of ih ds es vs h1 rr⟩
    | ins c ds =>
      obtain ⟨es, h1, rfl⟩ := map_some (show ((ds.mapM fun p => (deep st lo n p.2).map fun v => (p.1, v)).map (D.ins c)) = some e from h)
      obtain ⟨a, dx, vs, e, k, f, rr⟩ := q
      exact ⟨a, dx, vs, e, k, free_upto f, deepf_of ih ds es vs h1 rr⟩
    | obj k =>
      obtain ⟨a, rfl, ka⟩ := q
      simp only [deep] at h
      split at h
      · rename_i hk
        cases h
        exact ⟨a, rfl, upto_of hk ka⟩
      · rename_i hk
        have fr := deep_free r hk ka
        split at h
        · rename_i xs e2
          obtain ⟨b, e3, vs, e4, rr⟩ := r.has k _ e2
          rw [ka] at e3
          cases e3
          obtain ⟨es, h1, rfl⟩ := map_some h
          exact ⟨a, vs, rfl, .inl e4, fr, deeps_of ih xs es vs h1 rr⟩
        · rename_i xs e2
          obtain ⟨b, e3, vs, e4, rr⟩ := r.has k _ e2
          rw [ka] at e3
          cases e3
          obtain ⟨es, h1, rfl⟩ := map_some h
          exact ⟨a, vs, rfl, .inl e4, fr, deepk_of ih xs es vs h1 rr⟩
        · rename_i c xs e2
          obtain ⟨b, e3, dx, vs, e4, rr⟩ := r.has k _ e2
          rw [ka] at e3
          cases e3
          obtain ⟨es, h1, rfl⟩ := map_some h
          exact ⟨a, dx, vs, rfl, .inl e4, fr, deepf_of ih xs es vs h1 rr⟩
        · cases h
theorem len_le (r : RepS K cl H ρ st) {st1 : Sto} (s : Step H ρ H1 ρ1) (r1 : RepS K cl H1 ρ1 st1) : st.length ≤ st1.length := by
  cases h : st.length with
  | zero => exact Nat.zero_le _
  | succ n =>
    obtain ⟨o, e⟩ := get_some (st := st) (n := n) (by omega)
    obtain ⟨a, e1, _⟩ := r.has n o e
    have := r1.dom n a (s.live n a e1)
    omega
theorem Step.upto (r : RepS K cl H ρ st) (s : Step H ρ H1 ρ1) : Step H ρ H1 (ρ1.upto st.length) :=
  ⟨s.keep, s.imm, s.tr, fun n a e => upto_of (r.dom n a e) (s.live n a e), fun n a e => s.new n a (upto_some e).2, s.hid1, s.hid2⟩
theorem clos_rel (r : RepS K cl H ρ st) {d e : D} {v : V} (h : clos st lo d = some e) (q : Rel K cl H ρ d v) : Rel K cl H (ρ.upto lo) e v := by
  unfold clos at h
  split at h
  · rename_i b
    cases h
    exact Rel.upto d b q
  · split at h
    · rename_i k _
      split at h
      · rename_i xs e2
        split at h
        · rename_i c
          cases h
          obtain ⟨a, rfl, ka⟩ := q
          obtain ⟨b, e3, vs, e4, rr⟩ := r.has k _ e2
          rw [ka] at e3
          cases e3
          exact ⟨a, vs, rfl, .inl e4, deep_free r (by omega) ka, Rels.upto xs c.2 rr⟩
        · exact deep_rel r _ _ _ _ h q
      · rename_i xs e2
        split at h
        · rename_i c
          cases h
          obtain ⟨a, rfl, ka⟩ := q
          obtain ⟨b, e3, vs, e4, rr⟩ := r.has k _ e2
          rw [ka] at e3
          cases e3
          exact ⟨a, vs, rfl, .inl e4, deep_free r (by omega) ka, RelK.upto xs c.2 rr⟩
        · exact deep_rel r _ _ _ _ h q
      · exact deep_rel r _ _ _ _ h q
    · exact deep_rel r _ _ _ _ h q
/-- forgetting, behind a call -/
theorem frz_post {st1 : Sto} {d : D} {Q : V → Hp → Prop} {E : Value → Option Addr → Hp → Prop} {v : V} (r : RepS K cl H ρ st) (s : Step H ρ H1 ρ1) (r1 : RepS K cl H1 ρ1 st1) (q : Rel K cl H1 ρ1 d v) (h : Post K cl (Rel K cl) H ρ (frz st.length d st1) Q E) : Q v H1 := by
  unfold frz at h
  split at h
  · exact h H1 ρ1 v s r1 q
  · split at h
    · rename_i b
      split at h
      · rename_i e he
        exact h H1 _ v (s.upto r) (r1.upto (len_le r s r1) b) (clos_rel r1 he q)
      · exact h.elim
    · exact h.elim
end
mutual
theorem same_eq : ∀ (a b : D), same a b = true → a = b
  | .non, b, h => by cases b <;> simp_all [same]
  | .bl x, b, h => by cases b <;> simp_all [same]
  | .int x, b, h => by cases b <;> simp_all [same]
  | .str x, b, h => by cases b <;> simp_all [same]
  | .tup xs, b, h => by
    cases b with
    | tup ys => rw [sames_eq xs ys (by simpa [same] using h)]
    | _ => simp [same] at h
  | .lst xs, b, h => by
    cases b with
    | lst ys => rw [sames_eq xs ys (by simpa [same] using h)]
    | _ => simp [same] at h
  | .dct xs, b, h => by
    cases b with
    | dct ys => rw [samek_eq xs ys (by simpa [same] using h)]
    | _ => simp [same] at h
  | .ins c xs, b, h => by
    cases b with
    | ins d ys =>
      have h' : c = d ∧ samef xs ys = true := by simpa [same] using h
      rw [h'.1, samef_eq xs ys h'.2]
    | _ => simp [same] at h
  | .obj n, b, h => by cases b <;> simp_all [same]
  | .scr n, b, h => by cases b <;> simp_all [same]
theorem sames_eq : ∀ (a b : List D), sames a b = true → a = b
  | [], b, h => by cases b <;> simp_all [sames]
  | x :: xs, b, h => by
    cases b with
    | nil => simp [sames] at h
    | cons y ys =>
      have h' : same x y = true ∧ sames xs ys = true := by simpa [sames] using h
      rw [same_eq x y h'.1, sames_eq xs ys h'.2]
theorem samek_eq : ∀ (a b : List (D × D)), samek a b = true → a = b
  | [], b, h => by cases b <;> simp_all [samek]
  | (k, v) :: xs, b, h => by
    cases b with
    | nil => simp [samek] at h
    | cons y ys =>
      obtain ⟨l, w⟩ := y
      have h' : (same k l = true ∧ same v w = true) ∧ samek xs ys = true := by simpa [samek] using h
      rw [same_eq k l h'.1.1, same_eq v w h'.1.2, samek_eq xs ys h'.2]
theorem samef_eq : ∀ (a b : List (Str × D)), samef a b = true → a = b
  | [], b, h => by cases b <;> simp_all [samef]
  | (k, v) :: xs, b, h => by
    cases b with
    | nil => simp [samef] at h
    | cons y ys =>
      obtain ⟨l, w⟩ := y
      have h' : (k = l ∧ same v w = true) ∧ samef xs ys = true := by simpa [samef] using h
      rw [h'.1.1, same_eq v w h'.1.2, samef_eq xs ys h'.2]
end
theorem sameO_eq {a b : O} (h : sameO a b = true) : a = b := by
  cases a <;> cases b <;> simp only [sameO] at h
  · rw [sames_eq _ _ h]
  · cases h
  · cases h
  · cases h
  · rw [samek_eq _ _ h]
  · cases h
  · cases h
  · cases h
  · rw [Bool.and_eq_true] at h
    rw [samef_eq _ _ h.2, beq_iff_eq.mp h.1]
theorem guard_get {st : Sto} {gs : Guards} (h : guardOk st gs = true) {n : Nat} {o : O} (m : (n, o) ∈ gs) : st.get n = some o := by
  unfold guardOk at h
  rw [List.all_eq_true] at h
  have := h _ m
  split at this
  · rename_i u e
    rw [sameO_eq this] at e
    exact e
  · cases this
end Dv
namespace Dv
open PySem L2
theorem bind_bind {α β γ : Type} (r : Res α) (f : α → Sto → Res β) (g : β → Sto → Res γ) : (r.bind f).bind g = r.bind fun a st => (f a st).bind g := by cases r <;> rfl
/-- an evaluation's reading where no exception leaves -/
def TD {α β : Type} (X : Cx) (cl : Nat → Addr) (rel : Hp → Rho → α → β → Prop) (ev : Env → Sto → Res α) : L2.St → Hp → (β → Hp → Prop) → Prop := TX X.K cl rel (fun _ _ _ _ => False) ev
abbrev EF : Value → Option Addr → Hp → Prop := fun _ _ _ => False
/-- a bool -/
def asB (d : D) (st : Sto) : Res Bool := match d with
  | .bl b => .ok b st
  | _ => .bad
def relB : Hp → Rho → Bool → Bool → Prop := fun _ _ a b => a = b
def relI : Hp → Rho → Option Int → Option Int → Prop := fun _ _ a b => a = b
abbrev TE1 (X : Cx) (cl : Nat → Addr) (ev : Env → Sto → Res D) : TE := TD X cl (Rel X.K cl) ev
abbrev TT1 (X : Cx) (cl : Nat → Addr) (ev : Env → Sto → Res D) : TT := TD X cl relB fun η st => (ev η st).bind asB
abbrev TA1 (X : Cx) (cl : Nat → Addr) (ev : Env → Sto → Res (List D)) : TA := TD X cl (Rels X.K cl) ev
section
variable {X : Cx} {cl : Nat → Addr} {H : Hp} {ρ : Rho} {η : Env} {st : Sto} {σ : L2.St}
/-- first this, then what is behind it -/
theorem TD.seq {α β γ δ : Type} {rel : Hp → Rho → α → β → Prop} {rel2 : Hp → Rho → γ → δ → Prop} {ev : Env → Sto → Res α} {f : α → Sto → Res γ} {Q : δ → Hp → Prop} {Q' : β → Hp → Prop} {E : Value → Option Addr → Hp → Prop}
    (re : REnv X.K cl H ρ η σ) (rs : RepS X.K cl H ρ st) (h : Post X.K cl rel2 H ρ ((ev η st).bind f) Q EF)
    (k : ∀ b H1 a st1 ρ1, Step H ρ H1 ρ1 → REnv X.K cl H1 ρ1 η σ → RepS X.K cl H1 ρ1 st1 → rel H1 ρ1 a b → Post X.K cl rel2 H1 ρ1 (f a st1) Q EF → Q' b H1) : TD X cl rel ev σ H Q' :=
  ⟨ρ, η, st, re, rs, (h.bind (rel := rel)).imp (fun b H1 ⟨a, st1, ρ1, _, s1, r1, ra, h1⟩ => k b H1 a st1 ρ1 s1 (re.mono s1) r1 ra h1) fun _ _ _ z => z⟩
/-- .. told from the start -/
theorem TD.seq0 {α β γ δ : Type} {rel : Hp → Rho → α → β → Prop} {rel2 : Hp → Rho → γ → δ → Prop} {ev : Env → Sto → Res α} {f : α → Sto → Res γ} {Q : δ → Hp → Prop} {Q' : β → Hp → Prop}
    (re : REnv X.K cl H ρ η σ) (rs : RepS X.K cl H ρ st) (h : Post X.K cl rel2 H ρ ((ev η st).bind f) Q EF)
    (k : ∀ b H1 a st1 ρ1, Step H ρ H1 ρ1 → REnv X.K cl H1 ρ1 η σ → RepS X.K cl H1 ρ1 st1 → rel H1 ρ1 a b → Post X.K cl rel2 H ρ (f a st1) Q EF → Q' b H1) : TD X cl rel ev σ H Q' := by
  refine ⟨ρ, η, st, re, rs, ?_⟩
  cases e : ev η st with
  | bad => rw [e] at h; exact h.elim
  | exc c fs st1 => rw [e] at h; exact h
  | ok a st1 =>
    rw [e] at h
    exact fun H1 ρ1 b s1 r1 ra => k b H1 a st1 ρ1 s1 (re.mono s1) r1 ra h
/-- a test, then what is behind it -/
theorem TD.test {γ δ : Type} {rel2 : Hp → Rho → γ → δ → Prop} {ev : Env → Sto → Res D} {g : D → Sto → Res γ} {f : Bool → Sto → Res γ} {Q : δ → Hp → Prop} {Q' : Bool → Hp → Prop}
    (re : REnv X.K cl H ρ η σ) (rs : RepS X.K cl H ρ st) (h : Post X.K cl rel2 H ρ ((ev η st).bind g) Q EF) (gd : ∀ d st, (∃ b, d = .bl b ∧ g d st = f b st) ∨ g d st = .bad)
    (k : ∀ b H1 st1 ρ1, Step H ρ H1 ρ1 → REnv X.K cl H1 ρ1 η σ → RepS X.K cl H1 ρ1 st1 → Post X.K cl rel2 H1 ρ1 (f b st1) Q EF → Q' b H1) : TT1 X cl ev σ H Q' := by
  refine ⟨ρ, η, st, re, rs, ?_⟩
  show Post X.K cl relB H ρ ((ev η st).bind asB) Q' _
  cases e : ev η st with
  | bad => rw [e] at h; exact h.elim
  | exc c fs st1 => rw [e] at h; exact h
  | ok d st1 =>
    rw [e] at h
    have h : Post X.K cl rel2 H ρ (g d st1) Q EF := h
    rcases gd d st1 with ⟨b, rfl, eg⟩ | eg
    · rw [eg] at h
      exact fun H1 ρ1 b' s1 r1 eb => by
        cases eb
        exact k b H1 st1 ρ1 s1 (re.mono s1) r1 (h.step s1)
    · rw [eg] at h
      exact h.elim
/-- an evaluation whose end is the end -/
theorem TD.last {α β : Type} {rel : Hp → Rho → α → β → Prop} {ev : Env → Sto → Res α} {Q : β → Hp → Prop} (re : REnv X.K cl H ρ η σ) (rs : RepS X.K cl H ρ st) (h : Post X.K cl rel H ρ (ev η st) Q EF) : TD X cl rel ev σ H Q :=
  ⟨ρ, η, st, re, rs, h⟩
theorem asB_post {α : Type} {rel : Hp → Rho → α → V → Prop} {d : D} {Q : Bool → Hp → Prop} (h : Post X.K cl relB H ρ (asB d st) Q EF) (rs : RepS X.K cl H ρ st) : ∃ b, d = .bl b ∧ Q b H := by
  unfold asB at h
  split at h
  · exact ⟨_, rfl, h.here rs rfl⟩
  · exact h.elim
theorem n_var {C : Cst} {i : Nat} {x : Str} {pos : Pos} (hN : X.N[i]? = some x) (hv : Vis X.env.scope x) (hd : (x == ("__debug__" : Str)) = false) (hcd : (x == ("__classdict__" : Str)) = false) : PE X (.Name x pos) (TE1 X cl (evalE C (.var i))) :=
  peImp (pe_var hN hv hd hcd) fun σ H Q ⟨ρ, η, st, re, rs, h⟩ => by
    simp only [evalE] at h
    split at h
    · rename_i d e
      obtain ⟨v, h1, h2⟩ := re.get i d e
      exact ⟨v, h1, h.here rs h2⟩
    · exact h.elim
theorem n_non {C : Cst} {j pos} : PE X (.Constant .none j pos) (TE1 X cl (evalE C .non)) :=
  peImp pe_non fun σ H Q ⟨ρ, η, st, re, rs, h⟩ => by
    simp only [evalE] at h
    exact h.here rs rfl
theorem n_bl {C : Cst} {b j pos} : PE X (.Constant (.bool b) j pos) (TE1 X cl (evalE C (.bl b))) :=
  peImp pe_bl fun σ H Q ⟨ρ, η, st, re, rs, h⟩ => by
    simp only [evalE] at h
    exact h.here rs rfl
theorem n_int {C : Cst} {b j pos} : PE X (.Constant (.int b) j pos) (TE1 X cl (evalE C (.int b))) :=
  peImp pe_int fun σ H Q ⟨ρ, η, st, re, rs, h⟩ => by
    simp only [evalE] at h
    exact h.here rs rfl
theorem n_str {C : Cst} {b j pos} (ok : PyData.strOk b = true) : PE X (.Constant (.str b) j pos) (TE1 X cl (evalE C (.str b))) :=
  peImp pe_str fun σ H Q ⟨ρ, η, st, re, rs, h⟩ => by
    simp only [evalE] at h
    exact h.here rs ⟨rfl, ok⟩
section
variable {C : Cst} {a b c : Ex} {p q r : Expr} {pos : Pos}
theorem n_op {o : Op2} (ha : PE X p (TE1 X cl (evalE C a))) (hb : PE X q (TE1 X cl (evalE C b))) : PE X (.BinOp p (bop o) q pos) (TE1 X cl (evalE C (.op o a b))) :=
  peImp (pe_op (op2_ok (cl := cl) o) ha hb) fun σ H Q ⟨ρ, η, st, re, rs, h⟩ => by
    simp only [evalE] at h
    exact TD.seq (E := EF) re rs h fun x H1 d st1 ρ1 s1 re1 rs1 r1 h1 => TD.seq (E := EF) re1 rs1 h1 fun y H2 e st2 ρ2 s2 re2 rs2 r2 h2 => ⟨EF, ρ2, st2, d, e, rs2, r1.mono s2 d, r2, h2⟩
theorem n_neg (ha : PE X p (TE1 X cl (evalE C a))) : PE X (.UnaryOp .USub p pos) (TE1 X cl (evalE C (.neg a))) :=
  peImp (pe_un un_neg ha) fun σ H Q ⟨ρ, η, st, re, rs, h⟩ => by
    simp only [evalE] at h
    refine TD.seq (E := EF) re rs h fun x H1 d st1 ρ1 s1 re1 rs1 r1 h1 => ?_
    split at h1
    · cases r1
      exact ⟨_, rfl, h1.here rs1 rfl⟩
    · exact h1.elim
theorem n_not (ha : PE X p (TE1 X cl (evalE C a))) : PE X (.UnaryOp .Not p pos) (TE1 X cl (evalE C (.not a))) :=
  peImp (pe_not ha) fun σ H Q ⟨ρ, η, st, re, rs, h⟩ => by
    simp only [evalE] at h
    refine TD.seq (E := EF) re rs h fun x H1 d st1 ρ1 s1 re1 rs1 r1 h1 => ?_
    split at h1
    · cases r1
      exact ⟨_, rfl, h1.here rs1 rfl⟩
    · exact h1.elim
theorem n_and {rest : List Expr} (ha : PE X p (TE1 X cl (evalE C a))) (hb : PE X (.BoolOp .And (q :: rest) pos) (TE1 X cl (evalE C b))) : PE X (.BoolOp .And (p :: q :: rest) pos) (TE1 X cl (evalE C (.and a b))) :=
  peImp (pe_and ha hb) fun σ H Q ⟨ρ, η, st, re, rs, h⟩ => by
    simp only [evalE] at h
    refine TD.seq (E := EF) re rs h fun x H1 d st1 ρ1 s1 re1 rs1 r1 h1 => ?_
    split at h1
    · cases r1
      exact ⟨true, rfl, by rw [if_pos rfl]; exact TD.last re1 rs1 h1⟩
    · cases r1
      exact ⟨false, rfl, by rw [if_neg Bool.false_ne_true]; exact h1.here rs1 rfl⟩
    · exact h1.elim
theorem n_or {rest : List Expr} (ha : PE X p (TE1 X cl (evalE C a))) (hb : PE X (.BoolOp .Or (q :: rest) pos) (TE1 X cl (evalE C b))) : PE X (.BoolOp .Or (p :: q :: rest) pos) (TE1 X cl (evalE C (.or a b))) :=
  peImp (pe_or ha hb) fun σ H Q ⟨ρ, η, st, re, rs, h⟩ => by
    simp only [evalE] at h
    refine TD.seq (E := EF) re rs h fun x H1 d st1 ρ1 s1 re1 rs1 r1 h1 => ?_
    split at h1
    · cases r1
      exact ⟨false, rfl, by rw [if_neg Bool.false_ne_true]; exact TD.last re1 rs1 h1⟩
    · cases r1
      exact ⟨true, rfl, by rw [if_pos rfl]; exact h1.here rs1 rfl⟩
    · exact h1.elim
theorem n_ite (hc : PT X p (TT1 X cl (evalE C c))) (ha : PE X q (TE1 X cl (evalE C a))) (hb : PE X r (TE1 X cl (evalE C b))) : PE X (.IfExp p q r pos) (TE1 X cl (evalE C (.ite c a b))) :=
  peImp (pe_ifExp hc ha hb) fun σ H Q ⟨ρ, η, st, re, rs, h⟩ => by
    simp only [evalE] at h
    refine TD.test (f := fun k st => if k = true then evalE C a η st else evalE C b η st) re rs h (fun d st => by cases d with | bl k => (cases k <;> exact .inl ⟨_, rfl, rfl⟩) | _ => exact .inr rfl) fun k H1 st1 ρ1 s1 re1 rs1 h1 => ?_
    cases k with
    | true => rw [if_pos rfl] at h1 ⊢; exact TD.last re1 rs1 h1
    | false => rw [if_neg Bool.false_ne_true] at h1 ⊢; exact TD.last re1 rs1 h1
theorem n_cmp {o : Cmp} (hu : X.A.units + 64 < cLine) (ha : PE X p (TE1 X cl (evalE C a))) (hb : PE X q (TE1 X cl (evalE C b))) (hm : behindInMarks (cop o) q = false) : PE X (.Compare p [cop o] [q] pos) (TE1 X cl (evalE C (.cmp o a b))) :=
  peImp (pe_cmpR (cmp2_ok (cl := cl) o hu) ha hb hm) fun σ H Q ⟨ρ, η, st, re, rs, h⟩ => by
    simp only [evalE] at h
    refine TD.seq (E := EF) re rs h fun x H1 d st1 ρ1 s1 re1 rs1 r1 h1 => TD.seq (E := EF) re1 rs1 h1 fun y H2 e st2 ρ2 s2 re2 rs2 r2 h2 => ?_
    obtain ⟨z, hz, h3⟩ := h2.ofO
    obtain ⟨k, hk, rfl⟩ := map_some hz
    exact ⟨ρ2, st2, d, e, k, rs2, r1.mono s2 d, r2, hk, h3.here rs2 rfl⟩
theorem t_cmp {o : Cmp} (hu : X.A.units + 64 < cLine) (ha : PE X p (TE1 X cl (evalE C a))) (hb : PE X q (TE1 X cl (evalE C b))) (hm : behindInMarks (cop o) q = false) : PT X (.Compare p [cop o] [q] pos) (TT1 X cl (evalE C (.cmp o a b))) :=
  ptImp (pt_cmpR (cmp2_ok (cl := cl) o hu) ha hb hm) fun σ H Q ⟨ρ, η, st, re, rs, h⟩ => by
    simp only [evalE] at h
    have as1 : ∀ {α β γ : Type} (r : Res α) (f : α → Sto → Res β) (g : β → Sto → Res γ), (r.bind f).bind g = r.bind fun a st => (f a st).bind g := fun r f g => by cases r <;> rfl
    rw [as1] at h
    refine TD.seq (E := EF) re rs h fun x H1 d st1 ρ1 s1 re1 rs1 r1 h1 => ?_
    rw [as1] at h1
    refine TD.seq (E := EF) re1 rs1 h1 fun y H2 e st2 ρ2 s2 re2 rs2 r2 h2 => ?_
    cases hk : cmp2 o d e st2 with
    | none => rw [hk] at h2; exact h2.elim
    | some k =>
      rw [hk] at h2
      exact ⟨ρ2, st2, d, e, k, rs2, r1.mono s2 d, r2, hk, k, rfl, Post.here (rel := relB) h2 rs2 rfl⟩
/-- a test by its value -/
theorem t_val (ha : PE X p (TE1 X cl (evalE C a))) (he : ∀ whole, isTrue p X.env whole = (do let v ← whole; standAt p.pos; holding [v] (truthy v))) : PT X p (TT1 X cl (evalE C a)) :=
  ptImp (pt_val ha he) fun σ H Q ⟨ρ, η, st, re, rs, h⟩ => by
    refine TD.seq (E := EF) re rs h fun x H1 d st1 ρ1 s1 re1 rs1 r1 h1 => ?_
    obtain ⟨b, rfl, q⟩ := asB_post (rel := Rel X.K cl) h1 rs1
    exact ⟨b, r1, q⟩
theorem t_not (ha : PT X p (TT1 X cl (evalE C a))) : PT X (.UnaryOp .Not p pos) (TT1 X cl (evalE C (.not a))) :=
  ptImp (pt_not ha) fun σ H Q ⟨ρ, η, st, re, rs, h⟩ => by
    simp only [evalE] at h
    rw [bind_bind] at h
    refine TD.test (f := fun k st => asB (.bl (!k)) st) re rs h (fun d st => by cases d with | bl k => exact .inl ⟨_, rfl, rfl⟩ | _ => exact .inr rfl) fun k H1 st1 ρ1 s1 re1 rs1 h1 => ?_
    exact Post.here (rel := relB) h1 rs1 rfl
theorem w_and1 (ha : PT X p (TT1 X cl (evalE C a))) : PW X (.BoolOp .And [p] pos) (TT1 X cl (evalE C a)) := pw_and1 ha
theorem w_or1 (ha : PT X p (TT1 X cl (evalE C a))) : PW X (.BoolOp .Or [p] pos) (TT1 X cl (evalE C a)) := pw_or1 ha
theorem w_and {rest : List Expr} (ha : PT X p (TT1 X cl (evalE C a))) (hb : PW X (.BoolOp .And (q :: rest) pos) (TT1 X cl (evalE C b))) : PW X (.BoolOp .And (p :: q :: rest) pos) (TT1 X cl (evalE C (.and a b))) :=
  pwImp (pw_and ha hb) fun σ H Q ⟨ρ, η, st, re, rs, h⟩ => by
    simp only [evalE] at h
    rw [bind_bind] at h
    refine TD.test (f := fun k st => if k = true then (evalE C b η st).bind asB else .ok false st) re rs h (fun d st => by cases d with | bl k => (cases k <;> exact .inl ⟨_, rfl, rfl⟩) | _ => exact .inr rfl) fun k H1 st1 ρ1 s1 re1 rs1 h1 => ?_
    cases k with
    | true => rw [if_pos rfl] at h1 ⊢; exact ⟨ρ1, η, st1, re1, rs1, h1⟩
    | false => rw [if_neg Bool.false_ne_true] at h1 ⊢; exact Post.here (rel := relB) h1 rs1 rfl
theorem w_or {rest : List Expr} (ha : PT X p (TT1 X cl (evalE C a))) (hb : PW X (.BoolOp .Or (q :: rest) pos) (TT1 X cl (evalE C b))) : PW X (.BoolOp .Or (p :: q :: rest) pos) (TT1 X cl (evalE C (.or a b))) :=
  pwImp (pw_or ha hb) fun σ H Q ⟨ρ, η, st, re, rs, h⟩ => by
    simp only [evalE] at h
    rw [bind_bind] at h
    refine TD.test (f := fun k st => if k = true then .ok true st else (evalE C b η st).bind asB) re rs h (fun d st => by cases d with | bl k => (cases k <;> exact .inl ⟨_, rfl, rfl⟩) | _ => exact .inr rfl) fun k H1 st1 ρ1 s1 re1 rs1 h1 => ?_
    cases k with
    | true => rw [if_pos rfl] at h1 ⊢; exact Post.here (rel := relB) h1 rs1 rfl
    | false => rw [if_neg Bool.false_ne_true] at h1 ⊢; exact ⟨ρ1, η, st1, re1, rs1, h1⟩
theorem n_chain {o o' : Cmp} (hu : X.A.units + 64 < cLine) (ha : PE X p (TE1 X cl (evalE C a))) (hb : PE X q (TE1 X cl (evalE C b))) (hc : PE X r (TE1 X cl (evalE C c))) (hm : lastMarks [cop o, cop o'] [q, r] = false) :
    PE X (.Compare p [cop o, cop o'] [q, r] pos) (TE1 X cl (evalE C (.chain o o' a b c))) :=
  peImp (pe_chain (cmp2_ok (cl := cl) o hu) (cmp2_ok (cl := cl) o' hu) ha hb hc hm) fun σ H Q ⟨ρ, η, st, re, rs, h⟩ => by
    simp only [evalE] at h
    refine TD.seq (E := EF) re rs h fun x H1 d st1 ρ1 s1 re1 rs1 r1 h1 => TD.seq (E := EF) re1 rs1 h1 fun y H2 e st2 ρ2 s2 re2 rs2 r2 h2 => ?_
    split at h2
    · rename_i hk
      refine ⟨ρ2, st2, d, e, true, rs2, r1.mono s2 d, r2, hk, true, rfl, ?_⟩
      refine TD.seq (E := EF) re2 rs2 h2 fun z H3 g st3 ρ3 s3 re3 rs3 r3 h3 => ?_
      obtain ⟨w, hw, h4⟩ := h3.ofO
      obtain ⟨k, hk2, rfl⟩ := map_some hw
      exact ⟨ρ3, st3, e, g, k, rs3, r2.mono s3 e, r3, hk2, h4.here rs3 rfl⟩
    · rename_i hk
      exact ⟨ρ2, st2, d, e, false, rs2, r1.mono s2 d, r2, hk, false, rfl, h2.here rs2 rfl⟩
    · exact h2.elim
theorem t_chain {o o' : Cmp} (hu : X.A.units + 64 < cLine) (ha : PE X p (TE1 X cl (evalE C a))) (hb : PE X q (TE1 X cl (evalE C b))) (hc : PE X r (TE1 X cl (evalE C c))) (hm : lastMarks [cop o, cop o'] [q, r] = false) :
    PT X (.Compare p [cop o, cop o'] [q, r] pos) (TT1 X cl (evalE C (.chain o o' a b c))) :=
  ptImp (pt_chain (cmp2_ok (cl := cl) o hu) (cmp2_ok (cl := cl) o' hu) ha hb hc hm) fun σ H Q ⟨ρ, η, st, re, rs, h⟩ => by
    simp only [evalE] at h
    rw [bind_bind] at h
    refine TD.seq (E := EF) re rs h fun x H1 d st1 ρ1 s1 re1 rs1 r1 h1 => ?_
    rw [bind_bind] at h1
    refine TD.seq (E := EF) re1 rs1 h1 fun y H2 e st2 ρ2 s2 re2 rs2 r2 h2 => ?_
    cases hk : cmp2 o d e st2 with
    | none => rw [hk] at h2; exact h2.elim
    | some k =>
      rw [hk] at h2
      cases k with
      | false => exact ⟨ρ2, st2, d, e, false, rs2, r1.mono s2 d, r2, hk, false, rfl, false, rfl, Post.here (rel := relB) h2 rs2 rfl⟩
      | true =>
        refine ⟨ρ2, st2, d, e, true, rs2, r1.mono s2 d, r2, hk, true, rfl, ?_⟩
        simp only at h2
        rw [bind_bind] at h2
        refine TD.seq (E := EF) re2 rs2 h2 fun z H3 g st3 ρ3 s3 re3 rs3 r3 h3 => ?_
        cases hk2 : cmp2 o' e g st3 with
        | none => rw [hk2] at h3; exact h3.elim
        | some k => rw [hk2] at h3; exact ⟨ρ3, st3, e, g, k, rs3, r2.mono s3 e, r3, hk2, k, rfl, Post.here (rel := relB) h3 rs3 rfl⟩
theorem n_idx (hu : X.A.units + 1 < cLine) (ha : PE X p (TE1 X cl (evalE C a))) (hb : PE X q (TE1 X cl (evalE C b))) (hs : PlainIx q) : PE X (.Subscript p q pos) (TE1 X cl (evalE C (.idx a b))) :=
  peImp (pe_ix (idx_ok (cl := cl) hu) ha hb hs) fun σ H Q ⟨ρ, η, st, re, rs, h⟩ => by
    simp only [evalE] at h
    exact TD.seq (E := EF) re rs h fun x H1 d st1 ρ1 s1 re1 rs1 r1 h1 => TD.seq (E := EF) re1 rs1 h1 fun y H2 e st2 ρ2 s2 re2 rs2 r2 h2 => ⟨EF, ρ2, st2, d, e, rs2, r1.mono s2 d, r2, h2⟩
abbrev TO1 (X : Cx) (cl : Nat → Addr) (ev : Env → Sto → Res (Option Int)) : TO := TD X cl relI ev
theorem o_none : PO X none (TO1 X cl (evalO C none)) :=
  ⟨fun pins s σ H Q I ⟨ρ, η, st, re, rs, h⟩ => po_none.run pins s σ H Q I (by simp only [evalO] at h; exact h.here rs rfl)⟩
theorem o_some (ha : PE X p (TE1 X cl (evalE C a))) : PO X (some p) (TO1 X cl (evalO C (some a))) :=
  ⟨fun pins s σ H Q I ⟨ρ, η, st, re, rs, h⟩ => (po_some ha).run pins s σ H Q I (by
    simp only [evalO] at h
    refine TD.seq (E := EF) re rs h fun x H1 d st1 ρ1 s1 re1 rs1 r1 h1 => ?_
    split at h1
    · cases r1
      exact ⟨_, rfl, h1.here rs1 rfl⟩
    · exact h1.elim)⟩
theorem n_slc {lo hi : Option Ex} {l h : Option Expr} {p2 : Pos} (ha : PE X p (TE1 X cl (evalE C a))) (hl : PO X l (TO1 X cl (evalO C lo))) (hh : PO X h (TO1 X cl (evalO C hi))) : PE X (.Subscript p (.Slice l h none p2) pos) (TE1 X cl (evalE C (.slc a lo hi))) :=
  peImp (pe_slice (slc_ok (cl := cl)) ha hl hh) fun σ H Q ⟨ρ, η, st, re, rs, h⟩ => by
    simp only [evalE] at h
    refine TD.seq (E := EF) re rs h fun x H1 d st1 ρ1 s1 re1 rs1 r1 h1 => TD.seq (E := EF) re1 rs1 h1 fun y H2 e st2 ρ2 s2 re2 rs2 r2 h2 => TD.seq (E := EF) re2 rs2 h2 fun z H3 g st3 ρ3 s3 re3 rs3 r3 h3 => ?_
    cases r2
    cases r3
    exact ⟨EF, ρ3, st3, d, rs3, (r1.mono s2 d).mono s3 d, h3⟩
end
section
variable {C : Cst} {e : Ex} {es : List Ex} {p : Expr} {ps : List Expr} {pos : Pos}
theorem a_nil : PA X [] (TA1 X cl (evalEs C [])) :=
  paImp pa_nil fun σ H Q ⟨ρ, η, st, re, rs, h⟩ => by
    simp only [evalEs] at h
    exact h.here rs rfl
def isStar : Ex → Bool
  | .star _ => true
  | _ => false
theorem evalEs_cons (h : isStar e = false) (η : Env) (st : Sto) : evalEs C (e :: es) η st = (evalE C e η st).bind fun x st => (evalEs C es η st).bind fun ds st => .ok (x :: ds) st := by
  cases e <;> first | rfl | (simp [isStar] at h) | (simp only [evalEs])
def isStarP : Expr → Bool
  | .Starred _ _ => true
  | _ => false
theorem star_no {env : PySem.Env} (h : isStarP p = false) : starEach (p :: ps) env = (false, eval p env) :: starEach ps env := by
  cases p <;> first | rfl | (simp [isStarP] at h) | (simp only [starEach])
theorem star_none {env : PySem.Env} : ∀ {ps : List Expr}, ps.all (fun p => !isStarP p) = true → (backTo pos (starEach ps env)).any (·.1) = false
  | [], _ => by simp [starEach, backTo]
  | p :: ps, h => by
    simp only [List.all_cons, Bool.and_eq_true, Bool.not_eq_true'] at h
    rw [star_no h.1]
    have ih := star_none (env := env) h.2
    unfold backTo at ih ⊢
    rw [List.map_cons, List.any_cons, ih]
    rfl
theorem a_cons (hs : isStarP p = false) (he : isStar e = false) (ha : PE X p (TE1 X cl (evalE C e))) (hr : PA X ps (TA1 X cl (evalEs C es))) : PA X (p :: ps) (TA1 X cl (evalEs C (e :: es))) :=
  paImp (pa_cons ha hr (star_no hs)) fun σ H Q ⟨ρ, η, st, re, rs, h⟩ => by
    rw [evalEs_cons he] at h
    exact TD.seq (E := EF) re rs h fun x H1 d st1 ρ1 s1 re1 rs1 r1 h1 => TD.seq (E := EF) re1 rs1 h1 fun ys H2 ds st2 ρ2 s2 re2 rs2 r2 h2 => h2.here rs2 ⟨x, ys, rfl, r1.mono s2 d, r2⟩
theorem a_star (ha : PE X p (TE1 X cl (evalE C e))) (hr : PA X ps (TA1 X cl (evalEs C es))) : PA X (.Starred p pos :: ps) (TA1 X cl (evalEs C (.star e :: es))) :=
  paImp (StX.pa_star ha hr (by simp only [starEach])) fun σ H Q ⟨ρ, η, st, re, rs, h⟩ => by
    simp only [evalEs] at h
    refine TD.seq (E := EF) re rs h fun x H1 d st1 ρ1 s1 re1 rs1 r1 h1 => ?_
    split at h1
    · rename_i xs hx
      obtain ⟨a, vs, rfl, k, rr⟩ := seqOf_rel rs1 hx r1
      refine ⟨a, vs, rfl, k.symm, TD.seq (E := EF) re1 rs1 h1 fun ys H2 ds st2 ρ2 s2 re2 rs2 r2 h2 => h2.here rs2 ((rr.mono s2 xs).append r2)⟩
    · exact h1.elim
theorem n_tup {x1 : Nat} (h : PA X ps (TA1 X cl (evalEs C es))) : PE X (.Tuple ps x1 pos) (TE1 X cl (evalE C (.tup es))) :=
  peImp (pe_tup h) fun σ H Q ⟨ρ, η, st, re, rs, h⟩ => by
    simp only [evalE] at h
    refine TD.seq (E := EF) re rs h fun vs H1 ds st1 ρ1 s1 re1 rs1 r1 h1 => ?_
    unfold lim at h1
    split at h1
    · rename_i hl
      refine ⟨by rw [← r1.length]; exact line_of hl, fun p hp => ?_⟩
      exact h1 _ ρ1 _ (Step.same (same_new hp)) (rs1.same (same_new hp)) (rel_newT hp r1)
    · exact h1.elim
abbrev TL1 (X : Cx) (cl : Nat → Addr) (ev : Env → Sto → Res (List D)) : TE := fun σ H Q => TD X cl (HidL X.K cl H) ev σ H Q
theorem l_disp (h : PA X ps (TA1 X cl (evalEs C es))) : PE X (.List ps pos) (TL1 X cl (evalL C (.disp es))) :=
  peImp (pe_lst h) fun σ H Q ⟨ρ, η, st, re, rs, h⟩ => by
    simp only [evalL] at h
    refine TD.seq (E := EF) re rs h fun vs H1 ds st1 ρ1 s1 re1 rs1 r1 h1 => ?_
    unfold lim at h1
    split at h1
    · rename_i hl
      refine ⟨by rw [← r1.length]; exact line_of hl, fun p hp => ?_⟩
      exact h1 _ (ρ1.hide p) _ (Step.hide hp) (rs1.hide hp) (HidL.new s1 hp r1)
    · exact h1.elim
theorem n_frl {l : Lx} (h : PE X p (TL1 X cl (evalL C l))) : PE X p (TE1 X cl (evalE C (.frl l))) :=
  peImp h fun σ H Q ⟨ρ, η, st, re, rs, h⟩ => by
    simp only [evalE] at h
    exact TD.seq0 re rs h fun v H1 ds st1 ρ1 s1 re1 rs1 r1 h1 => h1 H1 ⟨ρ1.f, ρ.hid⟩ v s1.unhide (rs1.unhide s1) (r1.frozen rs s1 rs1)
theorem n_own {l : Lx} (h : PE X p (TL1 X cl (evalL C l))) : PE X p (TE1 X cl (evalE C (.own l))) :=
  peImp h fun σ H Q ⟨ρ, η, st, re, rs, h⟩ => by
    simp only [evalE] at h
    refine TD.seq0 re rs h fun v H1 ds st1 ρ1 s1 re1 rs1 r1 h1 => ?_
    obtain ⟨a, vs, rfl, hn, hh, k, rr⟩ := r1
    exact h1 H1 (ρ1.own ρ st1.length a) _ (s1.own rs1 hn) (rs.own s1 rs1 hn hh ⟨vs, k, rr⟩) rel_own
end
end
end Dv
namespace Dv
open PySem L2
def bname : Blt → Str
  | .len => "len" | .abs => "abs" | .int => "int" | .repr => "repr" | .str => "str" | .sorted => "sorted" | .sset => "" | .lset => "" | .tuple => "tuple" | .list => "list"
  | .dict => "dict" | .all => "all" | .any => "any" | .sum => "sum" | .min => "min" | .max => "max" | .gcd => ""
theorem boot_b : ∀ b : Blt, bnamed b = true → bootBuiltins (bname b) = some (bval b)
  | .len, _ => by decide +kernel
  | .abs, _ => by decide +kernel
  | .int, _ => by decide +kernel
  | .repr, _ => by decide +kernel
  | .sorted, _ => by decide +kernel
  | .tuple, _ => by decide +kernel
  | .list, _ => by decide +kernel
  | .all, _ => by decide +kernel
  | .any, _ => by decide +kernel
  | .sum, _ => by decide +kernel
  | .min, _ => by decide +kernel
  | .max, _ => by decide +kernel
theorem bname_ne (b : Blt) : bname b ≠ "__name__" ∧ (bname b == ("__debug__" : Str)) = false := by cases b <;> decide
section
variable {X : Cx} {cl : Nat → Addr} {C : Cst} {p : Expr} {ps : List Expr} {e : Ex} {es : List Ex} {pos ppos apos : Pos}
theorem call_any (b : Blt) (hb : bnamed b = true) {r : List V → Hp → VK → Prop} {t : TA} (hc : CallR X (bval b) r) (hg : Gl X (bname b)) (hm : X.mg (bname b) = none) (ha : PA X (p :: ps) t) (hs : isStarP p = false) (hps : ps.all (fun p => !isStarP p) = true) :
    PE X (.Call (.Name (bname b) ppos) (p :: ps) [] pos) (tCB r t) := by
  have ht : (∃ id, bval b = .builtin id) ∨ ∃ T, bval b = .type T := by cases b <;> first | exact .inl ⟨_, rfl⟩ | exact .inr ⟨_, rfl⟩ | simp [bnamed] at hb
  have boot := boot_b b hb
  have ne := bname_ne b
  rcases ht with ⟨id, e⟩ | ⟨T, e⟩
  · rw [e] at hc boot
    exact pe_callB hc hg hm boot ha ne.1 ne.2 (star_no hs) (star_none hps)
  · rw [e] at hc boot
    exact pe_callTy hc hg hm boot ha ne.1 ne.2 (star_no hs) (star_none hps)
theorem n_blt (b : Blt) (hb : bnamed b = true) (hc : X.calm = true) (hgd : X.A.guards = some []) (hu : X.A.units + 256 < cLine) (hg : Gl X (bname b)) (hm : X.mg (bname b) = none) (ha : PA X (p :: ps) (TA1 X cl (evalEs C es))) (hs : isStarP p = false) (hps : ps.all (fun p => !isStarP p) = true) :
    PE X (.Call (.Name (bname b) ppos) (p :: ps) [] pos) (TE1 X cl (evalE C (.blt b es))) :=
  peImp (call_any b hb (blt_ok (cl := cl) b hb hc hgd hu) hg hm ha hs hps) fun σ H Q ⟨ρ, η, st, re, rs, h⟩ => by
    simp only [evalE] at h
    exact TD.seq (E := EF) re rs h fun vs H1 ds st1 ρ1 s1 re1 rs1 r1 h1 => ⟨EF, ρ1, st1, ds, rs1, r1, h1⟩
/-- those that make a list -/
def rManyL (K : PySem.W.Frag) (cl : Nat → Addr) (f : List D → Sto → Res (List D)) : List V → Hp → VK → Prop := fun vs H Q => ∃ H0 ρ0 ρ st ds, Step H0 ρ0 H ρ ∧ RepS K cl H ρ st ∧ Rels K cl H ρ ds vs ∧ Post K cl (HidL K cl H0) H ρ (f ds st) Q EF
theorem bltL_ok (b : Blt) (hc : X.calm = true) (hu : X.A.units + 256 < cLine) : CallR X (bval b) (rManyL X.K cl (bltL b)) := by
  intro pins s σ H vs
  intro us Q I r h
  obtain ⟨H0, ρ0, ρ, st, ds, s0, rs, rd, hp⟩ := h
  have fin : ∀ {xs : List D} {ys : List V} {q : Addr}, H q = none → Rels X.K cl H ρ xs ys → Post X.K cl (HidL X.K cl H0) H ρ (.ok xs st) Q EF → Q (.ref q) (upd H q (.lst ys)) := fun hq ry hp => hp _ (ρ.hide _) _ (Step.hide hq) (rs.hide hq) (HidL.new s0 hq ry)
  unfold bltL at hp
  split at hp
  · obtain ⟨v, rfl, a⟩ := rd.one
    split at hp
    · rename_i xs h1
      split at hp
      · rename_i c
        rw [Bool.and_eq_true, Bool.and_eq_true, Bool.and_eq_true, decide_eq_true_eq] at c
        obtain ⟨p, zs, rfl, k, rr⟩ := seqOf_rel rs h1 a
        exact call_sorted hu pins s σ H _ us Q I r ⟨p, zs, ρ, xs, rfl, k, rr, c.1.1.1, c.1.1.2, c.1.2, c.2, fun q ys hq ry => fin hq ry hp⟩
      · exact hp.elim
    · exact hp.elim
  · obtain ⟨v, rfl, a⟩ := rd.one
    split at hp
    · rename_i xs h1
      rcases iter_cases rs h1 a with ⟨z, rfl, hl, rfl, rfl, ok⟩ | ⟨p, zs, rfl, k, rr⟩
      · exact call_listS hc pins s σ H _ us Q I r ⟨z, rfl, hl, fun q hq => fin hq (rels_signs fun c hc => strOk_sign ok hc) hp⟩
      · exact call_list_of pins s σ H _ us Q I r ⟨p, zs, rfl, k, fun q hq => fin hq rr hp⟩
    · exact hp.elim
  · exact hp.elim
theorem l_bltl (b : Blt) (hb : bnamed b = true) (hc : X.calm = true) (hu : X.A.units + 256 < cLine) (hg : Gl X (bname b)) (hm : X.mg (bname b) = none) (ha : PA X (p :: ps) (TA1 X cl (evalEs C es))) (hs : isStarP p = false) (hps : ps.all (fun p => !isStarP p) = true) :
    PE X (.Call (.Name (bname b) ppos) (p :: ps) [] pos) (TL1 X cl (evalL C (.bltl b es))) :=
  peImp (call_any b hb (bltL_ok (cl := cl) b hc hu) hg hm ha hs hps) fun σ H Q ⟨ρ, η, st, re, rs, h⟩ => by
    simp only [evalL] at h
    exact TD.seq (E := EF) re rs h fun vs H1 ds st1 ρ1 s1 re1 rs1 r1 h1 => ⟨H, ρ, ρ1, st1, ds, s1, rs1, r1, h1⟩
theorem l_add {q : Expr} {a b : Ex} (ha : PE X p (TE1 X cl (evalE C a))) (hb : PE X q (TE1 X cl (evalE C b))) : PE X (.BinOp p .Add q pos) (TL1 X cl (evalL C (.add a b))) :=
  peImp (pe_op op_catR ha hb) fun σ H Q ⟨ρ, η, st, re, rs, h⟩ => by
    simp only [evalL] at h
    refine TD.seq (E := EF) re rs h fun x H1 d st1 ρ1 s1 re1 rs1 r1 h1 => TD.seq (E := EF) re1 rs1 h1 fun y H2 e st2 ρ2 s2 re2 rs2 r2 h2 => ?_
    split at h2
    · rename_i xs ys e1 e2
      split at h2
      · rename_i hl
        obtain ⟨l, zs, rfl, k1, q1⟩ := lstOf_rel rs2 e1 (r1.mono s2 d)
        obtain ⟨l', ws, rfl, k2, q2⟩ := lstOf_rel rs2 e2 r2
        refine ⟨l, l', zs, ws, rfl, rfl, k1, k2, line_of (by rw [← q1.length, ← q2.length]; exact hl), fun z hz => ?_⟩
        exact h2 _ (ρ2.hide z) _ (Step.hide hz) (rs2.hide hz) (HidL.new (s1.trans s2) hz (q1.append q2))
      · exact h2.elim
    · exact h2.elim
theorem l_rev {a : Ex} {k : Nat} {p1 p2 p3 : Pos} (ha : PE X p (TE1 X cl (evalE C a))) : PE X (.Subscript p (.Slice none none (some (.UnaryOp .USub (.Constant (.int 1) k p1) p2)) p3) pos) (TL1 X cl (evalL C (.rev a))) :=
  peImp (pe_revL ha) fun σ H Q ⟨ρ, η, st, re, rs, h⟩ => by
    simp only [evalL] at h
    refine TD.seq (E := EF) re rs h fun x H1 d st1 ρ1 s1 re1 rs1 r1 h1 => ?_
    split at h1
    · rename_i xs e1
      obtain ⟨l, zs, rfl, k1, q1⟩ := lstOf_rel rs1 e1 r1
      exact ⟨l, zs, rfl, .inl k1, fun z hz => h1 _ (ρ1.hide z) _ (Step.hide hz) (rs1.hide hz) (HidL.new s1 hz q1.reverse)⟩
    · exact h1.elim
def mname : Mth → Str
  | .append => "append" | .pop => "pop" | .popAt => "pop" | .remove => "remove" | _ => ""
theorem lst_ty {H : Hp} {ρ : Rho} {st : Sto} {d : D} {v : V} {xs : List D} (rs : RepS X.K cl H ρ st) (h : lstOf st d = some xs) (q : Rel X.K cl H ρ d v) : tyV X.K "list" v H := by
  obtain ⟨a, vs, rfl, k, _⟩ := lstOf_rel rs h q
  exact .inl ⟨rfl, vs, .inl k⟩
def isName : Expr → Bool
  | .Name _ _ => true
  | .Subscript _ _ _ => true
  | _ => false
theorem base_name {env : PySem.Env} {nm : Str} {w : Sem Value} (h : isName p = true) : attributeBase p nm env w = w := by
  cases p <;> first | rfl | simp [isName] at h
theorem few1 {env : PySem.Env} (hs : isStarP p = false) : ((backTo pos (starEach [p] env)).all (fun x => !x.1) && (backToKw pos (keywordEach [] env)).all (fun x => x.1.isSome)
      && decide (([p] : List Expr).length + ([] : List Keyword).length + (if ([] : List Keyword).isEmpty then 0 else 1) < 30)) = true := by
  rw [star_no hs]
  rfl
theorem n_mth1 {o : Ex} {q : Expr} (m : Mth) (hm : m = .append ∨ m = .popAt ∨ m = .remove) (hn : isName p = true) (ha : PE X p (TE1 X cl (evalE C o))) (hb : PA X [q] (TA1 X cl (evalEs C es))) (hs : isStarP q = false) (hl : (apos.endLine == pos.line) = true) :
    PE X (.Call (.Attribute p (mname m) apos) [q] [] pos) (TE1 X cl (evalE C (.mth m o es))) := by
  have imp : ∀ σ H Q, TE1 X cl (evalE C (.mth m o es)) σ H Q → tBM X.K "list" (rMeth X.K cl m) (TE1 X cl (evalE C o)) (TA1 X cl (evalEs C es)) σ H Q := fun σ H Q ⟨ρ, η, st, re, rs, h⟩ => by
    simp only [evalE] at h
    refine TD.seq (E := EF) re rs h fun x H1 d st1 ρ1 s1 re1 rs1 r1 h1 => ?_
    split at h1
    · rename_i xs e1
      exact ⟨lst_ty rs1 e1 r1, TD.seq (E := EF) re1 rs1 h1 fun vs H2 ds st2 ρ2 s2 re2 rs2 r2 h2 => ⟨EF, ρ2, st2, d, ds, rs2, r1.mono s2 d, r2, h2⟩⟩
    · exact h1.elim
  rcases hm with rfl | rfl | rfl
  · exact peImp (pe_bm PySem.F.plainAttrs_list PySem.F.slot_list_append PySem.F.type_list_append (mth_ok (cl := cl) .append) ha hb (base_name hn) (few1 hs) hl (star_no hs) rfl) imp
  · exact peImp (pe_bm PySem.F.plainAttrs_list PySem.F.slot_list_pop PySem.F.type_list_pop (mth_ok (cl := cl) .popAt) ha hb (base_name hn) (few1 hs) hl (star_no hs) rfl) imp
  · exact peImp (pe_bm PySem.F.plainAttrs_list PySem.F.slot_list_remove PySem.F.type_list_remove (mth_ok (cl := cl) .remove) ha hb (base_name hn) (few1 hs) hl (star_no hs) rfl) imp
theorem n_pop {o : Ex} (hn : isName p = true) (ha : PE X p (TE1 X cl (evalE C o))) (hl : (apos.endLine == pos.line) = true) :
    PE X (.Call (.Attribute p "pop" apos) [] [] pos) (TE1 X cl (evalE C (.mth .pop o []))) :=
  peImp (pe_bm0 PySem.F.plainAttrs_list PySem.F.slot_list_pop PySem.F.type_list_pop (mth_ok (cl := cl) .pop) ha (base_name hn) hl) fun σ H Q ⟨ρ, η, st, re, rs, h⟩ => by
    simp only [evalE] at h
    refine TD.seq (E := EF) re rs h fun x H1 d st1 ρ1 s1 re1 rs1 r1 h1 => ?_
    split at h1
    · rename_i xs e1
      simp only [evalEs, Res.bind] at h1
      exact ⟨lst_ty rs1 e1 r1, EF, ρ1, st1, d, [], rs1, r1, rfl, h1⟩
    · exact h1.elim
end
/-- what a target leaves: the names beside it as they were -/
def SameOff (is : List Nat) (σ σ' : L2.St) : Prop := ∀ vs : List Nat, (∀ i ∈ is, i ∈ vs) → wipe σ' vs = wipe σ vs
theorem SameOff.refl {is : List Nat} {σ : L2.St} : SameOff is σ σ := fun _ _ => rfl
theorem wipe_in {σ : L2.St} {i : Nat} : ∀ {vs : List Nat}, i ∈ vs → i < σ.length → (wipe σ vs)[i]? = some none
  | v :: vs, h, hl => by
    unfold wipe
    by_cases e : v = i
    · subst e
      rw [List.getElem?_set_self (by rw [wipe_length]; exact hl)]
    · rw [List.getElem?_set_ne e]
      rcases List.mem_cons.mp h with h | h
      · exact absurd h.symm e
      · exact wipe_in h hl
theorem wipe_set {σ : L2.St} {i : Nat} {x : Option V} {vs : List Nat} (h : i ∈ vs) : wipe (σ.set i x) vs = wipe σ vs := by
  apply List.ext_getElem?
  intro j
  by_cases hj : j < σ.length
  · by_cases hm : j ∈ vs
    · rw [wipe_in hm (by rw [List.length_set]; exact hj), wipe_in hm hj]
    · rw [wipe_out hm, wipe_out hm, List.getElem?_set_ne (fun e => hm (by rw [← e]; exact h))]
  · rw [List.getElem?_eq_none (by rw [wipe_length, List.length_set]; omega), List.getElem?_eq_none (by rw [wipe_length]; omega)]
mutual
def tgIx : Tgt → List Nat
  | .nm i => [i]
  | .tp ts => tgIxs ts
def tgIxs : List Tgt → List Nat
  | [] => []
  | t :: ts => tgIx t ++ tgIxs ts
end
section
variable {X : Cx} {cl : Nat → Addr}
def TG1 (X : Cx) (cl : Nat → Addr) (t : Tgt) : TG := fun v σ H Q => ∃ ρ η d η', REnv X.K cl H ρ η σ ∧ Rel X.K cl H ρ d v ∧ bindT t d η = some η' ∧ ∀ σ', REnv X.K cl H ρ η' σ' → SameOff (tgIx t) σ σ' → Q σ' H
def TGs1 (X : Cx) (cl : Nat → Addr) (ts : List Tgt) : TGs := fun vs σ H Q => ∃ ρ η ds η', REnv X.K cl H ρ η σ ∧ Rels X.K cl H ρ ds vs ∧ bindTs ts ds η = some η' ∧ ∀ σ', REnv X.K cl H ρ η' σ' → SameOff (tgIxs ts) σ σ' → Q σ' H
theorem pgsImp {es : List Expr} {t t' : TGs} (h : PGs X es t) (i : ∀ v σ H Q, t' v σ H Q → t v σ H Q) : PGs X es t' := ⟨fun pins s σ H v u Q I r q => h.run pins s σ H v u Q I r (i v σ H Q q)⟩
theorem g_nm {i : Nat} {x : Str} {pos : Pos} (hN : X.N.Nodup) (hi : X.N[i]? = some x) (hx : Loc X.env.scope x) (hf : X.fn x = true ∨ X.env.scope.names.lookup x = some .local) : PG X (.Name x pos) (TG1 X cl (.nm i)) :=
  pgImp (pg_name hN hi hx hf) fun v σ H Q ⟨ρ, η, d, η', re, rd, hb, q⟩ => by
    simp only [bindT] at hb
    cases hb
    exact q _ (re.set i rd) fun vs hv => wipe_set (hv i (List.mem_singleton.mpr rfl))
theorem g_nil : PGs X [] (TGs1 X cl []) :=
  pgsImp pgs_nil fun v σ H Q ⟨ρ, η, ds, η', re, rd, hb, q⟩ => by
    cases ds with
    | nil =>
      simp only [bindTs] at hb
      cases hb
      cases rd
      exact ⟨rfl, q σ re .refl⟩
    | cons d ds => simp only [bindTs] at hb; cases hb
def isTgP : Expr → Bool
  | .Name _ _ => true
  | .Subscript _ _ _ => true
  | .Tuple _ _ _ => true
  | _ => false
theorem asg_no {env : PySem.Env} {p : Expr} {ps : List Expr} (h : isTgP p = true) : assignEach (p :: ps) env = (false, assign p env) :: assignEach ps env := by
  cases p <;> first | rfl | (simp [isTgP] at h) | (simp only [assignEach])
theorem g_cons {t : Tgt} {ts : List Tgt} {p : Expr} {ps : List Expr} (h : isTgP p = true) (h1 : PG X p (TG1 X cl t)) (h2 : PGs X ps (TGs1 X cl ts)) : PGs X (p :: ps) (TGs1 X cl (t :: ts)) :=
  pgsImp (pgs_cons h1 h2 (by rw [asg_no h]; rfl)) fun v σ H Q ⟨ρ, η, ds, η', re, rd, hb, q⟩ => by
    cases ds with
    | nil => simp only [bindTs] at hb; cases hb
    | cons d ds =>
      simp only [bindTs] at hb
      obtain ⟨η1, e1, e2⟩ := bind_some hb
      obtain ⟨x, us, rfl, a, b⟩ := rd
      refine ⟨x, us, rfl, ρ, η, d, η1, re, a, e1, fun σ1 re1 s1 => ⟨ρ, η1, ds, η', re1, b, e2, fun σ2 re2 s2 => q σ2 re2 fun vs hv => ?_⟩⟩
      rw [s2 vs fun i hi => hv i (List.mem_append_right _ hi), s1 vs fun i hi => hv i (List.mem_append_left _ hi)]
theorem asg_all {env : PySem.Env} : ∀ {ps : List Expr}, ps.all isTgP = true → (assignEach ps env).length = ps.length ∧ (assignEach ps env).findIdx? (·.1) = none
  | [], _ => ⟨rfl, rfl⟩
  | p :: ps, h => by
    simp only [Bool.and_eq_true, List.all_cons] at h
    obtain ⟨a, b⟩ := asg_all (env := env) h.2
    rw [asg_no h.1]
    refine ⟨by rw [List.length_cons, List.length_cons, a], ?_⟩
    rw [List.findIdx?_cons, b]
    rfl
theorem bindTs_len : ∀ {ts : List Tgt} {ds : List D} {η η' : Env}, bindTs ts ds η = some η' → ds.length = ts.length
  | [], [], _, _, _ => rfl
  | [], _ :: _, _, _, h => by simp only [bindTs] at h; cases h
  | _ :: _, [], _, _, h => by simp only [bindTs] at h; cases h
  | t :: ts, d :: ds, η, η', h => by
    simp only [bindTs] at h
    obtain ⟨η1, _, e2⟩ := bind_some h
    rw [List.length_cons, List.length_cons, bindTs_len e2]
theorem g_tp {ts : List Tgt} {ps : List Expr} {k : Nat} {pos : Pos} (hc : X.calm = true) (hl : ps.length = ts.length) (ht : ps.all isTgP = true) (h : PGs X ps (TGs1 X cl ts)) : PG X (.Tuple ps k pos) (TG1 X cl (.tp ts)) :=
  pgImp (pg_tup (n := ts.length) hc h (by rw [(asg_all ht).1, hl]) (asg_all ht).2) fun v σ H Q ⟨ρ, η, d, η', re, rd, hb, q⟩ => by
    cases d with
    | tup ds =>
      simp only [bindT] at hb
      obtain ⟨a, vs, rfl, k, rr⟩ := rd
      exact ⟨a, vs, rfl, k, by rw [← rr.length, bindTs_len hb], ρ, η, ds, η', re, rr, hb, q⟩
    | _ => simp only [bindT] at hb; cases hb
end
structure WalkD (K : PySem.W.Frag) (cl : Nat → Addr) (H0 : Hp) (ρ0 : Rho) (p : List D × Guards) (J : It) : Prop where
  go : ∀ i H ρ st, Ext K H0 ρ0 H ρ → RepS K cl H ρ st → guardOk st p.2 = true → i < p.1.length → J.go i H
  yld : ∀ i H ρ st x H', Ext K H0 ρ0 H ρ → RepS K cl H ρ st → guardOk st p.2 = true → J.yld i H x H' → ∃ ρ', Step H ρ H' ρ' ∧ RepS K cl H' ρ' st ∧ ∀ d, p.1[i]? = some d → Rel K cl H' ρ' d x
  stop : ∀ H ρ st, Ext K H0 ρ0 H ρ → RepS K cl H ρ st → guardOk st p.2 = true → J.stop p.1.length H
abbrev TI1 (X : Cx) (cl : Nat → Addr) (ev : Env → Sto → Res (List D × Guards)) : TI := TD X cl (WalkD X.K cl) ev
section
variable {K : PySem.W.Frag} {cl : Nat → Addr} {H0 : Hp} {ρ0 : Rho} {st0 : Sto}
/-- a sequence, as it stands at any turn -/
theorem seq_at (r0 : RepS K cl H0 ρ0 st0) {d : D} {a : Addr} {ds : List D} (hd : seqOf st0 d = some ds) (q : Rel K cl H0 ρ0 d (.ref a)) {H : Hp} {ρ : Rho} {st : Sto} (s : Ext K H0 ρ0 H ρ) (r : RepS K cl H ρ st) (g : guardOk st (guardOf st0 d) = true) :
    ∃ vs, (match d with | .tup _ => SqT K H a vs | _ => SqL K H a vs) ∧ Rels K cl H ρ ds vs := by
  cases d with
  | scr ns =>
    cases hd
    obtain ⟨b, e, k⟩ := q
    cases e
    exact ⟨ns.map V.int, k.imp (fun k => (s.rd _ _ k.1 k.2).1) id, rels_int ns⟩
  | tup xs =>
    cases hd
    obtain ⟨b, vs, e, k, rr⟩ := q
    cases e
    exact ⟨vs, s.sqT _ _ k, rr.ext s _⟩
  | lst xs =>
    cases hd
    obtain ⟨b, vs, e, k, f, rr⟩ := q
    cases e
    exact ⟨vs, .inl (s.rd _ _ k f).1, rr.ext s _⟩
  | obj n =>
    obtain ⟨b, e, k⟩ := q
    cases e
    simp only [seqOf] at hd
    split at hd
    · rename_i xs e2
      cases hd
      have g1 : st.get n = some (.lst ds) := guard_get g (by simp only [guardOf, e2]; exact List.mem_singleton.mpr rfl)
      obtain ⟨b, e3, vs, e4, rr⟩ := r.has n _ g1
      rw [s.live n _ k] at e3
      cases e3
      exact ⟨vs, .inl (.inl e4), rr⟩
    · cases hd
  | _ => cases hd
theorem walk_l (r0 : RepS K cl H0 ρ0 st0) {d : D} {a : Addr} {ds : List D} (hd : seqOf st0 d = some ds) (nt : ∀ xs, d ≠ .tup xs) (q : Rel K cl H0 ρ0 d (.ref a)) : WalkD K cl H0 ρ0 (ds, guardOf st0 d) (Itl K a) := by
  have at_ : ∀ {H ρ st}, Ext K H0 ρ0 H ρ → RepS K cl H ρ st → guardOk st (guardOf st0 d) = true → ∃ vs, SqL K H a vs ∧ Rels K cl H ρ ds vs := fun {H ρ st} s r g => by
    obtain ⟨vs, k, rr⟩ := seq_at r0 hd q s r g
    cases d with
    | tup xs => exact absurd rfl (nt xs)
    | _ => exact ⟨vs, k, rr⟩
  refine ⟨fun i H ρ st s r g hi => ?_, fun i H ρ st x H' s r g y => ?_, fun H ρ st s r g => ?_⟩
  · obtain ⟨vs, k, rr⟩ := at_ s r g
    have hi : i < vs.length := by rw [← rr.length]; exact hi
    exact ⟨vs, vs[i], k, by simp [hi]⟩
  · obtain ⟨vs, k, rr⟩ := at_ s r g
    obtain ⟨rfl, y⟩ := y
    refine ⟨ρ, .refl, r, fun d hd => ?_⟩
    obtain ⟨v, h1, h2⟩ := rr.get hd
    rw [y vs k] at h1
    cases h1
    exact h2
  · obtain ⟨vs, k, rr⟩ := at_ s r g
    exact ⟨vs, k, by rw [← rr.length]; exact Nat.le_refl _⟩
theorem walk_t {ds : List D} {a : Addr} (q : Rel K cl H0 ρ0 (.tup ds) (.ref a)) : WalkD K cl H0 ρ0 (ds, []) (Itt K a) := by
  obtain ⟨b, vs, e, k0, rr0⟩ := q
  cases e
  refine ⟨fun i H ρ st s r g hi => ?_, fun i H ρ st x H' s r g y => ?_, fun H ρ st s r g => ?_⟩
  · have hi : i < vs.length := by rw [← rr0.length]; exact hi
    exact ⟨vs, vs[i], s.sqT _ _ k0, by simp [hi]⟩
  · obtain ⟨rfl, y⟩ := y
    refine ⟨ρ, .refl, r, fun d hd => ?_⟩
    obtain ⟨v, h1, h2⟩ := rr0.get hd
    rw [y vs (s.sqT _ _ k0)] at h1
    cases h1
    exact h2.ext s d
  · exact ⟨vs, s.sqT _ _ k0, by rw [← rr0.length]; exact Nat.le_refl _⟩
theorem walk_s {z : Str} (ok : PyData.strOk z = true) : WalkD K cl H0 ρ0 (signs z, []) (Its z) := by
  have hl : (signs z).length = z.cps.size := by simp [signs]
  refine ⟨fun i H ρ st s r g hi => by rw [hl] at hi; exact hi, fun i H ρ st x H' s r g y => ?_, fun H ρ st s r g => by show z.cps.size ≤ _; rw [hl]; exact Nat.le_refl _⟩
  obtain ⟨rfl, c, h1, rfl⟩ := y
  refine ⟨ρ, .refl, r, fun d hd => ?_⟩
  have hd : (signs z)[i]? = some d := hd
  unfold signs at hd
  rw [List.getElem?_map, Array.getElem?_toList, h1] at hd
  cases hd
  exact ⟨rfl, strOk_sign ok (by rw [Array.mem_toList_iff]; exact Array.mem_of_getElem? h1)⟩
theorem rngL_get : ∀ (n : Nat) (lo : Int) (i : Nat), (rngL lo n)[i]? = if i < n then some (.int (lo + i)) else none
  | 0, lo, i => by simp [rngL]
  | n + 1, lo, 0 => by simp [rngL]
  | n + 1, lo, i + 1 => by
    show (rngL (lo + 1) n)[i]? = _
    rw [rngL_get n (lo + 1) i]
    by_cases h : i < n
    · simp only [h, if_true]
      rw [if_pos (by omega)]
      congr 2
      omega
    · rw [if_neg h]
      rw [if_neg (by omega)]
theorem rngL_len : ∀ (n : Nat) (lo : Int), (rngL lo n).length = n
  | 0, _ => rfl
  | n + 1, lo => by
    show (rngL (lo + 1) n).length + 1 = n + 1
    rw [rngL_len n]
theorem walk_r {lo : Int} {n : Nat} : WalkD K cl H0 ρ0 (rngL lo n, []) (Itr lo n) := by
  refine ⟨fun i H ρ st s r g hi => by rw [rngL_len] at hi; exact hi, fun i H ρ st x H' s r g y => ?_, fun H ρ st s r g => by show n ≤ _; rw [rngL_len]; exact Nat.le_refl _⟩
  obtain ⟨rfl, rfl⟩ := y
  refine ⟨ρ, .refl, r, fun d hd => ?_⟩
  rw [rngL_get] at hd
  split at hd
  · cases hd; rfl
  · cases hd
theorem enumL_get : ∀ (ds : List D) (k i : Nat), (enumL k ds)[i]? = ds[i]?.map fun d => .tup [.int ((k + i : Nat) : Int), d]
  | [], k, i => by simp [enumL]
  | d :: ds, k, 0 => by simp [enumL]
  | d :: ds, k, i + 1 => by
    show (enumL (k + 1) ds)[i]? = _
    rw [enumL_get ds (k + 1) i, List.getElem?_cons_succ, show k + 1 + i = k + (i + 1) by omega]
theorem enumL_len : ∀ (ds : List D) (k : Nat), (enumL k ds).length = ds.length
  | [], _ => rfl
  | d :: ds, k => by
    show (enumL (k + 1) ds).length + 1 = ds.length + 1
    rw [enumL_len ds]
theorem walk_e (r0 : RepS K cl H0 ρ0 st0) {d : D} {a : Addr} {ds : List D} (hd : seqOf st0 d = some ds) (nt : ∀ xs, d ≠ .tup xs) (q : Rel K cl H0 ρ0 d (.ref a)) : WalkD K cl H0 ρ0 (enumL 0 ds, guardOf st0 d) (Ite K a) := by
  have w := walk_l r0 hd nt q
  refine ⟨fun i H ρ st s r g hi => w.go i H ρ st s r g (by rw [enumL_len] at hi; exact hi), fun i H ρ st x H' s r g y => ?_, fun H ρ st s r g => by show (Itl K a).stop _ H; rw [enumL_len]; exact w.stop H ρ st s r g⟩
  obtain ⟨T, z, rfl, hT, rfl, f⟩ := y
  obtain ⟨ρ', s1, r1, f1⟩ := w.yld i H ρ st z H s r g ⟨rfl, f⟩
  refine ⟨ρ, Step.same (same_new hT), r.same (same_new hT), fun d hd => ?_⟩
  rw [enumL_get] at hd
  obtain ⟨e, h1, rfl⟩ := map_some hd
  have q1 : Rel K cl H ρ e z := by
    obtain ⟨vs, k, rr⟩ := seq_at r0 ‹_› q s r g
    obtain ⟨v, h2, h3⟩ := rr.get h1
    have k' : SqL K H a vs := by
      cases d with
      | tup xs => exact absurd rfl (nt xs)
      | _ => exact k
    rw [f vs k'] at h2
    cases h2
    exact h3
  rw [Nat.zero_add]
  exact rel_newT hT ⟨_, _, rfl, rfl, z, [], rfl, q1, rfl⟩
end
section
variable {X : Cx} {cl : Nat → Addr} {C : Cst} {tg p q : Expr} {a b : Ex} {pos ppos tpos : Pos}
theorem i_itv (ha : PE X p (TE1 X cl (evalE C a))) : PI X tg p (TI1 X cl (evalI C (.itv a))) := by
  refine ⟨fun pins s σ H R I ⟨ρ, η, st, re, rs, h⟩ => ?_⟩
  simp only [evalI] at h
  cases e : evalE C a η st with
  | bad => rw [e] at h; exact h.elim
  | exc c fs st1 =>
    refine (pi_list ha).run pins s σ H R I ⟨ρ, η, st, re, rs, ?_⟩
    rw [e] at h ⊢
    exact h
  | ok d st1 =>
    have h' := h
    rw [e] at h'
    have hi : ∃ ds, iterOf st1 d = some ds ∧ Post X.K cl (WalkD X.K cl) H ρ (.ok (ds, guardOf st1 d) st1) R EF := by
      simp only [Res.bind] at h'
      split at h'
      · rename_i ds hds
        exact ⟨ds, hds, h'⟩
      · exact h'.elim
    obtain ⟨ds, hds, hp⟩ := hi
    have out : ∀ (Q' : V → Hp → Prop), (∀ v H1 ρ1, Step H ρ H1 ρ1 → RepS X.K cl H1 ρ1 st1 → Rel X.K cl H1 ρ1 d v → Q' v H1) → TE1 X cl (evalE C a) σ H Q' := fun Q' k => ⟨ρ, η, st, re, rs, by
      rw [e]
      exact fun H1 ρ1 v s1 r1 q1 => k v H1 ρ1 s1 r1 q1⟩
    have seq : (∀ z, d ≠ .str z) → seqOf st1 d = some ds := fun hn => by
      unfold iterOf at hds
      split at hds
      · exact absurd rfl (hn _)
      · exact hds
    cases d with
    | str z =>
      have hds : (if z.length ≤ LIM then some (signs z) else none) = some ds := hds
      obtain ⟨_, hds⟩ := ite_some hds
      cases hds
      exact (pi_str ha).run pins s σ H R I (out _ fun v H1 ρ1 s1 r1 q1 => by
        obtain ⟨rfl, ok⟩ := q1
        exact ⟨z, rfl, hp H1 ρ1 _ s1 r1 (walk_s ok)⟩)
    | tup xs =>
      have := seq (fun _ => nofun)
      cases this
      exact (pi_tup ha).run pins s σ H R I (out _ fun v H1 ρ1 s1 r1 q1 => by
        have q2 := q1
        obtain ⟨l, vs, rfl, k, rr⟩ := q1
        exact ⟨l, rfl, ⟨vs, k⟩, hp H1 ρ1 _ s1 r1 (walk_t q2)⟩)
    | lst xs =>
      have hs := seq (fun _ => nofun)
      exact (pi_list ha).run pins s σ H R I (out _ fun v H1 ρ1 s1 r1 q1 => by
        obtain ⟨l, vs, rfl, k, rr⟩ := lstOf_rel r1 (d := .lst xs) (ds := xs) rfl q1
        exact ⟨l, rfl, ⟨vs, .inl k⟩, hp H1 ρ1 _ s1 r1 (walk_l r1 hs (fun _ => nofun) q1)⟩)
    | obj n =>
      have hs := seq (fun _ => nofun)
      exact (pi_list ha).run pins s σ H R I (out _ fun v H1 ρ1 s1 r1 q1 => by
        obtain ⟨l, vs, rfl, k, rr⟩ := lstOf_rel r1 (d := .obj n) (ds := ds) hs q1
        exact ⟨l, rfl, ⟨vs, .inl k⟩, hp H1 ρ1 _ s1 r1 (walk_l r1 hs (fun _ => nofun) q1)⟩)
    | scr ns =>
      have hs := seq (fun _ => nofun)
      exact (pi_list ha).run pins s σ H R I (out _ fun v H1 ρ1 s1 r1 q1 => by
        have q2 := q1
        obtain ⟨l, rfl, k⟩ := q1
        exact ⟨l, rfl, ⟨ns.map V.int, k.imp (fun k => k.1) id⟩, hp H1 ρ1 _ s1 r1 (walk_l r1 hs (fun _ => nofun) q2)⟩)
    | _ => exact absurd (seq (fun _ => nofun)) (by simp [seqOf])
theorem rng_in {i : Int} (h : rngOk i = true) : -(2 ^ 62) ≤ i ∧ i < 2 ^ 62 := by
  unfold rngOk at h
  rw [decide_eq_true_eq] at h
  omega
theorem star1 {env : PySem.Env} (hs : isStarP p = false) : starEach [p] env = [(false, eval p env)] := by rw [star_no hs]; rfl
theorem i_rng1 (hg : Gl X "range") (hm : X.mg "range" = none) (ha : PE X p (TE1 X cl (evalE C a))) (hs : isStarP p = false) : PI X tg (.Call (.Name "range" ppos) [p] [] pos) (TI1 X cl (evalI C (.rng [a]))) :=
  piImp (pi_range1 hg hm (pa_cons ha pa_nil (star_no hs)) (star1 hs)) fun σ H R ⟨ρ, η, st, re, rs, h⟩ => by
    simp only [evalI] at h
    refine TD.seq (E := EF) re rs h fun x H1 d st1 ρ1 s1 re1 rs1 r1 h1 => ?_
    split at h1
    · split at h1
      · rename_i hi
        cases r1
        exact ⟨_, rfl, (rng_in hi).1, (rng_in hi).2, h1.here rs1 walk_r⟩
      · exact h1.elim
    · exact h1.elim
theorem i_rng2 (hg : Gl X "range") (hm : X.mg "range" = none) (ha : PE X p (TE1 X cl (evalE C a))) (hs : isStarP p = false) (hb : PE X q (TE1 X cl (evalE C b))) (hq : isStarP q = false) : PI X tg (.Call (.Name "range" ppos) [p, q] [] pos) (TI1 X cl (evalI C (.rng [a, b]))) :=
  piImp (pi_range2 hg hm (pa_cons ha (pa_cons hb pa_nil (star_no hq)) (star_no hs)) (by rw [star_no hs, star1 hq]) (star1 hq)) fun σ H R ⟨ρ, η, st, re, rs, h⟩ => by
    simp only [evalI] at h
    refine TD.seq (E := EF) re rs h fun x H1 d st1 ρ1 s1 re1 rs1 r1 h1 => TD.seq (E := EF) re1 rs1 h1 fun y H2 e st2 ρ2 s2 re2 rs2 r2 h2 => ?_
    split at h2
    · split at h2
      · rename_i hi
        rw [Bool.and_eq_true] at hi
        cases r1
        cases r2
        exact ⟨_, _, rfl, ⟨(rng_in hi.1).1, (rng_in hi.1).2, (rng_in hi.2).1, (rng_in hi.2).2⟩, h2.here rs2 walk_r⟩
      · exact h2.elim
    · exact h2.elim
theorem rels_rg {K : PySem.W.Frag} {H : Hp} {ρ : Rho} : ∀ (n : Nat) (a : Int), Rels K cl H ρ (rngL a n) ((List.range n).map fun i => V.int (a + (i : Nat)))
  | 0, _ => rfl
  | n + 1, a => by
    (rw [List.range_succ_eq_map, List.map_cons, List.map_map])
    refine ⟨_, _, rfl, ?_, ?_⟩
    · show V.int (a + ((0 : Nat) : Int)) = V.int a
      simp
    · have := rels_rg (K := K) (H := H) (ρ := ρ) n (a + 1)
      have e : ((fun i : Nat => V.int (a + (i : Nat))) ∘ Nat.succ) = fun i : Nat => V.int (a + 1 + (i : Nat)) := by
        funext i
        show V.int (a + ((i + 1 : Nat) : Int)) = _
        congr 1
        omega
      rw [e]
      exact this
theorem rg_ok {i : Int} (h : rngOk i = true) (l : i.toNat ≤ LIM) : RgOk 0 i := by
  have := rng_in h
  have l0 : LIM = 16777216 := rfl
  refine ⟨by decide, by decide, this.1, this.2, ?_⟩
  rw [Int.sub_zero]
  show i.toNat ≤ 16777216
  omega
theorem rngL_v (i : Int) {K : PySem.W.Frag} {H : Hp} {ρ : Rho} : Rels K cl H ρ (rngL 0 i.toNat) (rgV 0 i) := by
  have := rels_rg (cl := cl) (K := K) (H := H) (ρ := ρ) i.toNat 0
  unfold rgV
  rw [Int.sub_zero]
  exact this
theorem l_rngR {p2 pos2 : Pos} (hc : X.calm = true) (hg0 : Gl X "list") (hm0 : X.mg "list" = none) (hg : Gl X "range") (hm : X.mg "range" = none) (ha : PE X p (TE1 X cl (evalE C a))) (hs : isStarP p = false) :
    PE X (.Call (.Name "list" ppos) [.Call (.Name "range" p2) [p] [] pos2] [] pos) (TL1 X cl (evalL C (.lstR a))) :=
  peImp (pe_listRg hc hg0 hm0 (prg_1 hg hm ha (star1 hs))) fun σ H Q ⟨ρ, η, st, re, rs, h⟩ => by
    simp only [evalL] at h
    refine TD.seq (E := EF) re rs h fun x H1 d st1 ρ1 s1 re1 rs1 r1 h1 => ?_
    cases d with
    | int i =>
      simp only at h1
      by_cases hi : rngOk i = true
      · rw [if_pos hi] at h1
        split at h1
        · rename_i hl
          cases r1
          exact ⟨i, rfl, rg_ok hi hl, fun z hz => h1 _ (ρ1.hide z) _ (Step.hide hz) (rs1.hide hz) (HidL.new s1 hz (rngL_v i))⟩
        · exact h1.elim
      · rw [if_neg hi] at h1
        exact h1.elim
    | _ => exact h1.elim
theorem n_rngT {p2 pos2 : Pos} (hc : X.calm = true) (hg0 : Gl X "tuple") (hm0 : X.mg "tuple" = none) (hg : Gl X "range") (hm : X.mg "range" = none) (ha : PE X p (TE1 X cl (evalE C a))) (hs : isStarP p = false) :
    PE X (.Call (.Name "tuple" ppos) [.Call (.Name "range" p2) [p] [] pos2] [] pos) (TE1 X cl (evalE C (.tupR a))) :=
  peImp (pe_tupRg hc hg0 hm0 (prg_1 hg hm ha (star1 hs))) fun σ H Q ⟨ρ, η, st, re, rs, h⟩ => by
    simp only [evalE] at h
    refine TD.seq (E := EF) re rs h fun x H1 d st1 ρ1 s1 re1 rs1 r1 h1 => ?_
    cases d with
    | int i =>
      simp only at h1
      by_cases hi : rngOk i = true
      · rw [if_pos hi] at h1
        split at h1
        · rename_i hl
          cases r1
          exact ⟨i, rfl, rg_ok hi hl, fun z hz => h1 _ ρ1 _ (Step.same (same_new hz)) (rs1.same (same_new hz)) (rel_newT hz (rngL_v i))⟩
        · exact h1.elim
      · rw [if_neg hi] at h1
        exact h1.elim
    | _ => exact h1.elim
theorem lst_seq {st : Sto} {d : D} {xs : List D} (h : lstOf st d = some xs) : seqOf st d = some xs ∧ ∀ ys, d ≠ .tup ys := by
  cases d with
  | lst ys => exact ⟨h, fun _ => nofun⟩
  | obj n => exact ⟨h, fun _ => nofun⟩
  | _ => cases h
end
end Dv
namespace Dv
open PySem L2
mutual
theorem same_refl : ∀ a : D, same a a = true
  | .non => by simp [same]
  | .bl _ => by simp [same]
  | .int _ => by simp [same]
  | .str _ => by simp [same]
  | .tup xs => by simp only [same]; exact sames_refl xs
  | .lst xs => by simp only [same]; exact sames_refl xs
  | .dct xs => by simp only [same]; exact samek_refl xs
  | .ins c xs => by simp [same, samef_refl xs]
  | .obj _ => by simp [same]
  | .scr _ => by simp [same]
theorem sames_refl : ∀ a : List D, sames a a = true
  | [] => by simp [sames]
  | x :: xs => by simp [sames, same_refl x, sames_refl xs]
theorem samek_refl : ∀ a : List (D × D), samek a a = true
  | [] => by simp [samek]
  | (k, v) :: xs => by simp [samek, same_refl k, same_refl v, samek_refl xs]
theorem samef_refl : ∀ a : List (Str × D), samef a a = true
  | [] => by simp [samef]
  | (k, v) :: xs => by simp [samef, same_refl v, samef_refl xs]
end
theorem guard_of (st : Sto) (d : D) : guardOk st (guardOf st d) = true := by
  cases d with
  | obj n =>
    simp only [guardOf]
    cases h : st.get n with
    | none => rfl
    | some o =>
      simp only [guardOk, List.all_cons, List.all_nil, Bool.and_true, h]
      cases o with
      | lst xs => exact sames_refl xs
      | dct xs => exact samek_refl xs
      | ins c xs => simp [sameO, samef_refl xs]
  | _ => rfl
theorem guard_app {st : Sto} {g h : Guards} (a : guardOk st g = true) (b : guardOk st h = true) : guardOk st (g ++ h) = true := by
  unfold guardOk at *
  rw [List.all_append, a, b]
  rfl
/-- what a walk starts with stands -/
theorem evalI_guard {C : Cst} {it : Ex} {η : Env} {st st1 : Sto} {p : List D × Guards} (h : evalI C it η st = .ok p st1) : guardOk st1 p.2 = true := by
  have bind_ok : ∀ {α β : Type} {r : Res α} {f : α → Sto → Res β} {b : β} {s : Sto}, r.bind f = .ok b s → ∃ a s1, r = .ok a s1 ∧ f a s1 = .ok b s := fun {α β r f b s} e => by
    cases r with
    | ok a s1 => exact ⟨a, s1, rfl, e⟩
    | exc c fs s1 => cases e
    | bad => cases e
  unfold evalI at h
  split at h
  · obtain ⟨x, s1, _, h⟩ := bind_ok h
    split at h
    · split at h
      · cases h; rfl
      · cases h
    · cases h
  · obtain ⟨x, s1, _, h⟩ := bind_ok h
    obtain ⟨y, s2, _, h⟩ := bind_ok h
    split at h
    · split at h
      · cases h; rfl
      · cases h
    · cases h
  · obtain ⟨x, s1, _, h⟩ := bind_ok h
    split at h
    · cases h; exact guard_of _ _
    · cases h
  · obtain ⟨x, s1, _, h⟩ := bind_ok h
    obtain ⟨y, s2, _, h⟩ := bind_ok h
    split at h
    · cases h; exact guard_app (guard_of _ _) (guard_of _ _)
    · cases h
  · obtain ⟨x, s1, _, h⟩ := bind_ok h
    split at h
    · cases h; exact guard_of _ _
    · cases h
  · cases h
theorem REnv.ext {K : PySem.W.Frag} {cl : Nat → Addr} {H H' : Hp} {ρ ρ' : Rho} {η : Env} {σ : L2.St} (r : REnv K cl H ρ η σ) (s : Ext K H ρ H' ρ') : REnv K cl H' ρ' η σ :=
  ⟨r.len, fun i d e => let ⟨v, h, q⟩ := r.get i d e; ⟨v, h, Rel.ext s d q⟩⟩
mutual
theorem bindT_out : ∀ (t : Tgt) {d : D} {η η' : Env}, bindT t d η = some η' → ∀ (i : Nat), i ∉ tgIx t → η'[i]? = η[i]?
  | .nm k, d, η, η', h, i, hi => by
    simp only [bindT] at h
    cases h
    exact List.getElem?_set_ne fun z => hi (by simp [tgIx, z])
  | .tp ts, d, η, η', h, i, hi => by
    cases d with
    | tup ds =>
      simp only [bindT] at h
      exact bindTs_out ts h i (by simpa [tgIx] using hi)
    | _ => simp only [bindT] at h; cases h
theorem bindTs_out : ∀ (ts : List Tgt) {ds : List D} {η η' : Env}, bindTs ts ds η = some η' → ∀ (i : Nat), i ∉ tgIxs ts → η'[i]? = η[i]?
  | [], ds, η, η', h, i, hi => by
    cases ds with
    | nil => simp only [bindTs] at h; cases h; rfl
    | cons _ _ => simp only [bindTs] at h; cases h
  | t :: ts, ds, η, η', h, i, hi => by
    cases ds with
    | nil => simp only [bindTs] at h; cases h
    | cons d ds =>
      simp only [bindTs] at h
      obtain ⟨η1, e1, e2⟩ := bind_some h
      rw [bindTs_out ts e2 i fun z => hi (by simp [tgIxs, z]), bindT_out t e1 i fun z => hi (by simp [tgIxs, z])]
end
theorem wipeE_no : ∀ (vs : List Nat) (η : Env) (i : Nat) (d : D), i ∈ vs → (wipeE η vs)[i]? ≠ some (some d)
  | [], _, _, _, h => (by cases h)
  | v :: vs, η, i, d, h => by
    show ((wipeE η vs).set v none)[i]? ≠ _
    by_cases z : v = i
    · subst z
      rw [List.getElem?_set]
      simp
    · rw [List.getElem?_set_ne z]
      exact wipeE_no vs η i d ((List.mem_cons.mp h).elim (fun q => absurd q.symm z) id)
section
variable {X : Cx} {cl : Nat → Addr} {H Hb : Hp} {ρ ρb : Rho} {η : Env} {st : Sto} {σ : L2.St}
/-- first this, then what is behind it; all told from a start that lies behind -/
theorem TD.seqB {α β γ δ : Type} {rel : Hp → Rho → α → β → Prop} {rel2 : Hp → Rho → γ → δ → Prop} {ev : Env → Sto → Res α} {f : α → Sto → Res γ} {Q : δ → Hp → Prop} {Q' : β → Hp → Prop}
    (re : REnv X.K cl H ρ η σ) (rs : RepS X.K cl H ρ st) (sb : Step Hb ρb H ρ) (h : Post X.K cl rel2 Hb ρb ((ev η st).bind f) Q EF)
    (k : ∀ b H1 a st1 ρ1, Step H ρ H1 ρ1 → REnv X.K cl H1 ρ1 η σ → RepS X.K cl H1 ρ1 st1 → rel H1 ρ1 a b → Post X.K cl rel2 Hb ρb (f a st1) Q EF → Q' b H1) : TD X cl rel ev σ H Q' := by
  refine ⟨ρ, η, st, re, rs, ?_⟩
  cases e : ev η st with
  | bad => rw [e] at h; exact h.elim
  | exc c fs st1 => rw [e] at h; exact fun H' ρ' dd gs s1 r q f => h H' ρ' dd gs (sb.trans s1) r q f
  | ok a st1 =>
    rw [e] at h
    exact fun H1 ρ1 b s1 r1 ra => k b H1 a st1 ρ1 s1 (re.mono s1) r1 ra h
theorem TD.seqN {α β γ δ : Type} {rel : Hp → Rho → α → β → Prop} {rel2 : Hp → Rho → γ → δ → Prop} {ev : Env → Sto → Res α} {f : α → Sto → Res γ} {Q : δ → Hp → Prop} {Q' : β → Hp → Prop}
    (re : REnv X.K cl H ρ η σ) (rs : RepS X.K cl H ρ st) (sb : Step Hb ρb H ρ) (h : Post X.K cl rel2 Hb ρb ((ev η st).noexc.bind f) Q EF)
    (k : ∀ b H1 a st1 ρ1, Step H ρ H1 ρ1 → REnv X.K cl H1 ρ1 η σ → RepS X.K cl H1 ρ1 st1 → rel H1 ρ1 a b → Post X.K cl rel2 Hb ρb (f a st1) Q EF → Q' b H1) : TD X cl rel ev σ H Q' := by
  refine ⟨ρ, η, st, re, rs, ?_⟩
  cases e : ev η st with
  | bad => rw [e] at h; exact h.elim
  | exc c fs st1 => rw [e] at h; exact h.elim
  | ok a st1 =>
    rw [e] at h
    exact fun H1 ρ1 b s1 r1 ra => k b H1 a st1 ρ1 s1 (re.mono s1) r1 ra h
/-- the ifs of a comprehension -/
theorem c_nil {C : Cst} : PTs X [] (TD X cl relB (condsE C [])) :=
  ⟨fun pins s σ H Q I ⟨ρ, η, st, re, rs, h⟩ => pts_nil.run pins s σ H Q I (by simp only [condsE] at h; exact h.here rs rfl)⟩
theorem c_one {C : Cst} {c : Ex} {p : Expr} (hc : PT X p (TT1 X cl (evalE C c))) : PTs X [p] (TD X cl relB (condsE C [c])) :=
  ⟨fun pins s σ H Q I ⟨ρ, η, st, re, rs, h⟩ => (pts_one hc).run pins s σ H Q I (by
    simp only [condsE] at h
    cases e : evalE C c η st with
    | bad => rw [e] at h; exact h.elim
    | exc c fs st1 => rw [e] at h; exact h.elim
    | ok d st1 =>
      refine ⟨ρ, η, st, re, rs, ?_⟩
      show Post X.K cl relB H ρ ((evalE C c η st).bind asB) Q _
      rw [e] at h ⊢
      simp only [Res.noexc, Res.bind] at h ⊢
      unfold asB
      split at h
      · exact h
      · exact h
      · exact h.elim)⟩
theorem wipe_wipe (σ : L2.St) (vs : List Nat) : wipe (wipe σ vs) vs = wipe σ vs := by
  apply List.ext_getElem?
  intro j
  by_cases hj : j < σ.length
  · by_cases hm : j ∈ vs
    · rw [wipe_in hm (by rw [wipe_length]; exact hj), wipe_in hm hj]
    · rw [wipe_out hm]
  · rw [List.getElem?_eq_none (by rw [wipe_length, wipe_length]; omega), List.getElem?_eq_none (by rw [wipe_length]; omega)]
theorem ok_bind {α β : Type} (a : α) (st : Sto) (f : α → Sto → Res β) : (Res.ok a st).bind f = f a st := rfl
/-- the reading of a comprehension -/
theorem lc_read {C : Cst} {t : Tgt} {it e : Ex} {cs : List Ex} {vs : List Nat} {Q : VK} (hsub : ∀ i ∈ tgIx t, i ∈ vs) (h : TL1 X cl (evalL C (.comp vs t it cs e)) σ H Q) :
    tLc (TI1 X cl (evalI C it)) (TG1 X cl t) (TD X cl relB (condsE C cs)) (TE1 X cl (evalE C e)) vs σ H Q := by
  obtain ⟨ρ0, η, st0, re0, rs0, h⟩ := h
  simp only [evalL] at h
  have hI : ∀ p st1, evalI C it η st0 = .ok p st1 → guardOk st1 p.2 = true := fun p st1 e => evalI_guard e
  generalize hev : evalI C it = ev at h hI ⊢
  refine ⟨ρ0, η, st0, re0, rs0, ?_⟩
  cases e0 : ev η st0 with
  | bad => rw [e0] at h; exact h.elim
  | exc c fs st1 => rw [e0] at h; exact h
  | ok p st1 =>
  have g1 := hI p st1 e0
  rw [e0] at h
  intro H1 ρ1 J s1 rs1 w L hL
  have hL0 : H L = none := s1.none_of hL
  simp only [ok_bind] at h
  split at h
  case isFalse => exact h.elim
  rename_i hlen
  obtain ⟨ds, gs⟩ := p
  simp only at h g1 hlen w
  generalize hf : (fun d st => match bindT t d (wipeE η vs) with
      | some η1 => (condsE C cs η1 st).bind fun b st => if b = true then (evalE C e η1 st).noexc.bind fun x st => Res.ok [x] st else Res.ok [] st
      | none => Res.bad : D → Sto → Res (List D)) = f at h
  let Wx : Nat → Hp → Prop := fun i H' => i ≤ ds.length ∧ ∃ ρ st acc us, Step H1 ρ1 H' ρ ∧ RepS X.K cl H' ρ st ∧ guardOk st gs = true ∧ ρ.hid L ∧ H' L = some (.lst us) ∧ Rels X.K cl H' ρ acc us ∧ acc.length ≤ i ∧
    Post X.K cl (HidL X.K cl H) H ρ0 ((compL f gs (ds.drop i) st).bind fun rs st => .ok (acc ++ rs) st) Q EF
  refine ⟨fun i m H' => m = ds.length - i ∧ Wx i H', ⟨ds.length, rfl, Nat.zero_le _, ρ1.hide L, st1, [], [], Step.hide hL, rs1.hide hL, g1, .inr rfl, upd_same, rfl, Nat.le_refl _, ?_⟩, ?_⟩
  · rw [List.drop_zero]
    have e2 : ((compL f gs ds st1).bind fun rs st => Res.ok ([] ++ rs) st) = compL f gs ds st1 := by cases compL f gs ds st1 <;> rfl
    rw [e2]
    exact h
  · rintro i m H' ⟨rfl, hi, ρ, st, acc, us, sp, rs, g, hh, hu, ra, hal, hp⟩
    by_cases hlt : i < ds.length
    · right
      refine ⟨w.go i H' ρ st sp.ext rs g hlt, Wx (i + 1), fun H2 q => ⟨_, by omega, rfl, q⟩, fun x H2 y => ?_⟩
      obtain ⟨ρ2, s2, rs2, rd⟩ := w.yld i H' ρ st x H2 sp.ext rs g y
      have hd : ds[i]? = some ds[i] := by simp [hlt]
      have rd := rd _ hd
      have ut : ∀ n, ρ.f n ≠ some L := fun n e => rs.ap n L e hh
      have hu2 : H2 L = some (.lst us) := s2.keep L _ hu ut
      have ra2 := ra.mono s2 acc
      have hh2 := s2.hid1 L hh
      rw [List.drop_eq_getElem_cons hlt] at hp
      simp only [compL] at hp
      rw [bind_bind] at hp
      have e3 : f ds[i] st = (match bindT t ds[i] (wipeE η vs) with
        | some η1 => (condsE C cs η1 st).bind fun b st => if b = true then (evalE C e η1 st).noexc.bind fun x st => Res.ok [x] st else Res.ok [] st
        | none => Res.bad) := by rw [← hf]
      rw [e3] at hp
      have re2 : REnv X.K cl H2 ρ2 (wipeE η vs) (wipe σ vs) := (re0.mono ((s1.trans sp).trans s2)).wipe vs
      cases hb : bindT t ds[i] (wipeE η vs) with
      | none => rw [hb] at hp; exact hp.elim
      | some η1 =>
        rw [hb] at hp
        simp only at hp
        rw [bind_bind] at hp
        refine ⟨ρ2, wipeE η vs, ds[i], η1, re2, rd, hb, fun σ2 re3 so => ⟨?_, ?_⟩⟩
        · rw [so vs hsub, wipe_wipe]
        · -- the ifs
          refine TD.seqB (Hb := H) (ρb := ρ0) re3 rs2 ((s1.trans sp).trans s2) hp fun b H3 b' st3 ρ3 s3 re4 rs3 eb hp => ?_
          have eb : b' = b := eb
          subst eb
          have hu3 : H3 L = some (.lst us) := s3.keep L _ hu2 fun n e => rs2.ap n L e hh2
          have hh3 := s3.hid1 L hh2
          have ra3 := ra2.mono s3 acc
          cases b' with
          | false =>
            simp only [if_false, Bool.false_eq_true]
            simp only [Bool.false_eq_true, if_false, ok_bind] at hp
            by_cases g3 : guardOk st3 gs = true
            · rw [if_pos g3] at hp
              refine ⟨hlt, ρ3, st3, acc, us, (sp.trans s2).trans s3, rs3, g3, hh3, hu3, ra3, Nat.le_succ_of_le hal, ?_⟩
              cases hq : compL f gs (ds.drop (i + 1)) st3 with
              | bad => rw [hq] at hp; exact hp.elim
              | exc c fs st4 => rw [hq] at hp; exact hp
              | ok rest st4 => rw [hq] at hp; exact hp
            · rw [if_neg g3] at hp
              exact hp.elim
          | true =>
            rw [if_pos rfl]
            simp only [if_true] at hp
            rw [bind_bind] at hp
            refine TD.seqN (Hb := H) (ρb := ρ0) re4 rs3 (((s1.trans sp).trans s2).trans s3) hp fun y H4 d st4 ρ4 s4 re5 rs4 ry hp => ?_
            have hu4 : H4 L = some (.lst us) := s4.keep L _ hu3 fun n e => rs3.ap n L e hh3
            have hh4 := s4.hid1 L hh3
            have ra4 := ra3.mono s4 acc
            have ul : us.length = acc.length := ra4.length.symm
            have l0 := line_of (n := LIM) (Nat.le_refl _)
            refine ⟨us, hu4, by omega, ?_⟩
            simp only [ok_bind] at hp
            by_cases g4 : guardOk st4 gs = true
            · rw [if_pos g4] at hp
              have ex : Ext X.K H4 ρ4 (upd H4 L (.lst (us ++ [y]))) ρ4 := Ext.hidden hh4 hu4 (fun z => z)
              refine ⟨hlt, ρ4, st4, acc ++ [d], us ++ [y], Step.hidden (((sp.trans s2).trans s3).trans s4) hL, rs4.hidden hh4 hu4 (fun z => z), g4, hh4, upd_same, ?_, by rw [List.length_append]; simp; omega, ?_⟩
              · exact Rels.ext ex _ (ra4.append (show Rels X.K cl H4 ρ4 [d] [y] from ⟨y, [], rfl, ry, rfl⟩))
              · cases hq : compL f gs (ds.drop (i + 1)) st4 with
                | bad => rw [hq] at hp; exact hp.elim
                | exc c fs st5 => rw [hq] at hp; exact hp
                | ok rest st5 =>
                  rw [hq] at hp
                  simp only [ok_bind, List.append_assoc] at hp ⊢
                  exact hp
            · rw [if_neg g4] at hp
              exact hp.elim
    · left
      have ei : i = ds.length := by omega
      subst ei
      refine ⟨w.stop H' ρ st sp.ext rs g, ?_⟩
      rw [List.drop_length] at hp
      simp only [compL, ok_bind, List.append_nil] at hp
      exact hp H' ρ _ (s1.trans sp) rs ⟨L, us, rfl, hL0, hh, hu, ra⟩
/-- the reading of a comprehension of two walks -/
theorem lc2_read {C : Cst} {t t2 : Tgt} {it it2 e : Ex} {cs cs2 : List Ex} {vs vs1 : List Nat} {Q : VK} (hsub : ∀ i ∈ tgIx t, i ∈ vs) (hsub1 : ∀ i ∈ tgIx t2, i ∈ vs1) (hv : ∀ i ∈ vs1, i ∈ vs) (hni : ∀ i ∈ vs1, i ∉ tgIx t) (h : TL1 X cl (evalL C (.comp2 vs t it cs t2 it2 cs2 e)) σ H Q) :
    tLc2 (TI1 X cl (evalI C it)) (TG1 X cl t) (TD X cl relB (condsE C cs)) (TI1 X cl (evalI C it2)) (TG1 X cl t2) (TD X cl relB (condsE C cs2)) (TE1 X cl (evalE C e)) vs vs1 σ H Q := by
  obtain ⟨ρ0, η, st0, re0, rs0, h⟩ := h
  simp only [evalL] at h
  have hI : ∀ p st1, evalI C it η st0 = .ok p st1 → guardOk st1 p.2 = true := fun p st1 e => evalI_guard e
  have hI2 : ∀ η st p st1, evalI C it2 η st = .ok p st1 → guardOk st1 p.2 = true := fun η st p st1 e => evalI_guard e
  generalize hev : evalI C it = ev at h hI ⊢
  generalize hev2 : evalI C it2 = ev2 at h hI2 ⊢
  refine ⟨ρ0, η, st0, re0, rs0, ?_⟩
  cases e0 : ev η st0 with
  | bad => rw [e0] at h; exact h.elim
  | exc c fs st1 => rw [e0] at h; exact h
  | ok p st1 =>
  have g1 := hI p st1 e0
  rw [e0] at h
  intro H1 ρ1 J s1 rs1 w L hL
  have hL0 : H L = none := s1.none_of hL
  simp only [ok_bind] at h
  split at h
  case isFalse => exact h.elim
  rename_i hlen
  obtain ⟨ds, gs⟩ := p
  simp only at h g1 hlen w
  generalize hf2 : (fun η1 d2 st => match bindT t2 d2 η1 with
              | some η2 => (condsE C cs2 η2 st).bind fun b st => if b = true then (evalE C e η2 st).noexc.bind fun x st => Res.ok [x] st else Res.ok [] st
              | none => Res.bad : Env → D → Sto → Res (List D)) = f2
  generalize hf : (fun d st => match bindT t d (wipeE η vs) with
      | some η1 => (condsE C cs η1 st).bind fun b st => if b = true then
          (ev2 η1 st).noexc.bind fun p2 st => if p2.1.length ≤ LIM then compL (f2 η1) p2.2 p2.1 st else Res.bad
        else Res.ok [] st
      | none => Res.bad : D → Sto → Res (List D)) = f
  have h : Post X.K cl (HidL X.K cl H) H ρ0 ((compL f gs ds st1).noexc.bind fun rs st => if rs.length ≤ LIM then .ok rs st else .bad) Q EF := by
    rw [← hf, ← hf2]
    exact h
  let fin : List D → Sto → Res (List D) := fun rs st => if rs.length ≤ LIM then .ok rs st else .bad
  -- what is behind an element's own
  let rest : Nat → List D → List D → Sto → Res (List D) := fun i acc r st1 => if guardOk st1 gs = true then (compL f gs (ds.drop (i + 1)) st1).noexc.bind fun rs st2 => fin (acc ++ (r ++ rs)) st2 else .bad
  have short : ∀ {i : Nat} {acc r : List D} {st : Sto}, Post X.K cl (HidL X.K cl H) H ρ0 (rest i acc r st) Q EF → acc.length + r.length ≤ LIM ∧ guardOk st gs = true := fun {i acc r st} hp => by
    have hp : Post X.K cl (HidL X.K cl H) H ρ0 (if guardOk st gs = true then (compL f gs (ds.drop (i + 1)) st).noexc.bind fun rs st2 => fin (acc ++ (r ++ rs)) st2 else .bad) Q EF := hp
    split at hp
    · rename_i g
      refine ⟨?_, g⟩
      cases hq : compL f gs (ds.drop (i + 1)) st with
      | bad => rw [hq] at hp; exact hp.elim
      | exc c fs st4 => rw [hq] at hp; exact hp.elim
      | ok rs st4 =>
        rw [hq] at hp
        have hp : Post X.K cl (HidL X.K cl H) H ρ0 (if (acc ++ (r ++ rs)).length ≤ LIM then .ok (acc ++ (r ++ rs)) st4 else .bad) Q EF := hp
        split at hp
        · rename_i hl
          simp only [List.length_append] at hl
          omega
        · exact hp.elim
    · exact hp.elim
  -- at an outer turn
  have outer : ∀ {i : Nat} {acc : List D} {st : Sto}, i < ds.length → ∀ (hi : ds[i]? = some (ds[i]?.getD .non)), Post X.K cl (HidL X.K cl H) H ρ0 ((compL f gs (ds.drop i) st).noexc.bind fun rs st => fin (acc ++ rs) st) Q EF →
      Post X.K cl (HidL X.K cl H) H ρ0 ((f (ds[i]?.getD .non) st).noexc.bind fun r st1 => rest i acc r st1) Q EF := fun {i acc st} hlt hi hp => by
    have ed : ds.drop i = (ds[i]?.getD .non) :: ds.drop (i + 1) := by
      (rw [List.drop_eq_getElem_cons hlt])
      simp [hlt]
    rw [ed] at hp
    simp only [compL] at hp
    cases hq : f (ds[i]?.getD .non) st with
    | bad => rw [hq] at hp; exact hp.elim
    | exc c fs st4 => rw [hq] at hp; exact hp.elim
    | ok r st4 =>
      rw [hq] at hp
      simp only [ok_bind] at hp
      show Post X.K cl (HidL X.K cl H) H ρ0 (if guardOk st4 gs = true then (compL f gs (ds.drop (i + 1)) st4).noexc.bind fun rs st2 => fin (acc ++ (r ++ rs)) st2 else .bad) Q EF
      split at hp
      · rename_i g
        rw [if_pos g]
        cases hr : compL f gs (ds.drop (i + 1)) st4 with
        | bad => rw [hr] at hp; exact hp.elim
        | exc c fs st5 => rw [hr] at hp; exact hp.elim
        | ok rs st5 => rw [hr] at hp; exact hp
      · exact hp.elim
  let Wx : Nat → Hp → Prop := fun i H' => i ≤ ds.length ∧ ∃ ρ st acc us, Step H1 ρ1 H' ρ ∧ RepS X.K cl H' ρ st ∧ guardOk st gs = true ∧ ρ.hid L ∧ H' L = some (.lst us) ∧ Rels X.K cl H' ρ acc us ∧
    Post X.K cl (HidL X.K cl H) H ρ0 ((compL f gs (ds.drop i) st).noexc.bind fun rs st => fin (acc ++ rs) st) Q EF
  -- on to the next turn
  have next : ∀ {i : Nat} {acc r : List D} {st : Sto} {H' : Hp} {ρ : Rho} {us : List V}, i < ds.length → Step H1 ρ1 H' ρ → RepS X.K cl H' ρ st → ρ.hid L → H' L = some (.lst us) → Rels X.K cl H' ρ (acc ++ r) us → Post X.K cl (HidL X.K cl H) H ρ0 (rest i acc r st) Q EF → Wx (i + 1) H' := fun {i acc r st H' ρ us} hlt sp rs hh hu ra hp => by
    have g := (short hp).2
    refine ⟨hlt, ρ, st, acc ++ r, us, sp, rs, g, hh, hu, ra, ?_⟩
    have hp : Post X.K cl (HidL X.K cl H) H ρ0 (if guardOk st gs = true then (compL f gs (ds.drop (i + 1)) st).noexc.bind fun rs st2 => fin (acc ++ (r ++ rs)) st2 else .bad) Q EF := hp
    rw [if_pos g] at hp
    simp only [List.append_assoc]
    exact hp
  refine ⟨fun i m H' => m = ds.length - i ∧ Wx i H', ⟨ds.length, rfl, Nat.zero_le _, ρ1.hide L, st1, [], [], Step.hide hL, rs1.hide hL, g1, .inr rfl, upd_same, rfl, ?_⟩, ?_⟩
  · rw [List.drop_zero]
    exact h
  · rintro i m H' ⟨rfl, hi, ρ, st, acc, us, sp, rs, g, hh, hu, ra, hp⟩
    by_cases hlt : i < ds.length
    · right
      refine ⟨w.go i H' ρ st sp.ext rs g hlt, Wx (i + 1), fun H2 q => ⟨_, by omega, rfl, q⟩, fun x H2 y => ?_⟩
      obtain ⟨ρ2, s2, rs2, rd⟩ := w.yld i H' ρ st x H2 sp.ext rs g y
      have hd : ds[i]? = some ds[i] := by simp [hlt]
      have ed : ds[i]?.getD .non = ds[i] := by rw [hd]; rfl
      have rd := rd _ hd
      have ut : ∀ n, ρ.f n ≠ some L := fun n e => rs.ap n L e hh
      have hu2 : H2 L = some (.lst us) := s2.keep L _ hu ut
      have ra2 := ra.mono s2 acc
      have hh2 := s2.hid1 L hh
      have hp := outer hlt (by rw [hd]; rfl) hp
      rw [ed] at hp
      have e3 : f ds[i] st = (match bindT t ds[i] (wipeE η vs) with
        | some η1 => (condsE C cs η1 st).bind fun b st => if b = true then
          (ev2 η1 st).noexc.bind fun p2 st => if p2.1.length ≤ LIM then compL (f2 η1) p2.2 p2.1 st else Res.bad
        else Res.ok [] st
        | none => Res.bad) := by rw [← hf]
      rw [e3] at hp
      have re2 : REnv X.K cl H2 ρ2 (wipeE η vs) (wipe σ vs) := (re0.mono ((s1.trans sp).trans s2)).wipe vs
      cases hb : bindT t ds[i] (wipeE η vs) with
      | none => rw [hb] at hp; exact hp.elim
      | some η1 =>
        rw [hb] at hp
        simp only at hp
        refine ⟨ρ2, wipeE η vs, ds[i], η1, re2, rd, hb, fun σ2 re3 so => ⟨?_, ?_⟩⟩
        · rw [so vs hsub, wipe_wipe]
        · have hp2 : Post X.K cl (HidL X.K cl H) H ρ0 ((condsE C cs η1 st).noexc.bind fun b st => (if b = true then
              ((ev2 η1 st).noexc.bind fun p2 st => if p2.1.length ≤ LIM then compL (f2 η1) p2.2 p2.1 st else Res.bad)
            else Res.ok [] st).noexc.bind fun r st1 => rest i acc r st1) Q EF := by
            cases hc : condsE C cs η1 st with
            | bad => rw [hc] at hp; exact hp.elim
            | exc c fs st4 => rw [hc] at hp; exact hp.elim
            | ok b st4 => rw [hc] at hp; exact hp
          refine TD.seqN (Hb := H) (ρb := ρ0) re3 rs2 ((s1.trans sp).trans s2) hp2 fun b H3 b' st3 ρ3 s3 re4 rs3 eb hp => ?_
          have eb : b' = b := eb
          subst eb
          have hu3 : H3 L = some (.lst us) := s3.keep L _ hu2 fun n e => rs2.ap n L e hh2
          have hh3 := s3.hid1 L hh2
          have ra3 := ra2.mono s3 acc
          cases b' with
          | false =>
            simp only [if_false, Bool.false_eq_true]
            simp only [Bool.false_eq_true, if_false] at hp
            have hp : Post X.K cl (HidL X.K cl H) H ρ0 (rest i acc [] st3) Q EF := hp
            exact next hlt ((sp.trans s2).trans s3) rs3 hh3 hu3 (by rw [List.append_nil]; exact ra3) hp
          | true =>
            rw [if_pos rfl]
            simp only [if_true] at hp
            have hp2 : Post X.K cl (HidL X.K cl H) H ρ0 ((ev2 η1 st3).noexc.bind fun p2 st => (if p2.1.length ≤ LIM then compL (f2 η1) p2.2 p2.1 st else Res.bad).noexc.bind fun r st1 => rest i acc r st1) Q EF := by
              cases hc : ev2 η1 st3 with
              | bad => rw [hc] at hp; exact hp.elim
              | exc c fs st4 => rw [hc] at hp; exact hp.elim
              | ok b st4 => rw [hc] at hp; exact hp
            have hI3 := hI2 η1 st3
            refine ⟨ρ3, η1, st3, re4, rs3, ?_⟩
            cases e4 : ev2 η1 st3 with
            | bad => rw [e4] at hp2; exact hp2.elim
            | exc c fs st4 => rw [e4] at hp2; exact hp2.elim
            | ok p2 st4 =>
            rw [e4] at hp2
            have g4 := hI3 p2 st4 e4
            intro H4 ρ4 J1 s4 rs4 w2
            obtain ⟨ds2, gs2⟩ := p2
            have hp3 : Post X.K cl (HidL X.K cl H) H ρ0 ((if ds2.length ≤ LIM then compL (f2 η1) gs2 ds2 st4 else Res.bad).noexc.bind fun r st1 => rest i acc r st1) Q EF := hp2
            split at hp3
            case isFalse => exact hp3.elim
            have hu4 : H4 L = some (.lst us) := s4.keep L _ hu3 fun n e => rs3.ap n L e hh3
            have hh4 := s4.hid1 L hh3
            have ra4 := ra3.mono s4 acc
            have re5 := re4.mono s4
            let Wy : Nat → Hp → Prop := fun j H' => j ≤ ds2.length ∧ ∃ ρ st acc2 us, Step H1 ρ1 H' ρ ∧ Ext X.K H4 ρ4 H' ρ ∧ RepS X.K cl H' ρ st ∧ guardOk st gs2 = true ∧ ρ.hid L ∧ H' L = some (.lst us) ∧ Rels X.K cl H' ρ (acc ++ acc2) us ∧ REnv X.K cl H' ρ η1 σ2 ∧
              Post X.K cl (HidL X.K cl H) H ρ0 ((compL (f2 η1) gs2 (ds2.drop j) st).noexc.bind fun r st1 => rest i acc (acc2 ++ r) st1) Q EF
            have sp4 := ((sp.trans s2).trans s3).trans s4
            refine ⟨fun j k H' => k = ds2.length - j ∧ Wy j H', ⟨ds2.length, rfl, Nat.zero_le _, ρ4, st4, [], us, sp4, Step.ext .refl, rs4, g4, hh4, hu4, by rw [List.append_nil]; exact ra4, re5, by rw [List.drop_zero]; exact hp3⟩, ?_⟩
            rintro j k H5 ⟨rfl, hj, ρ5, st5, acc2, us5, sp5, x5, rs5, g5, hh5, hu5, ra5, re6, hp5⟩
            by_cases hlt2 : j < ds2.length
            · right
              refine ⟨w2.go j H5 ρ5 st5 x5 rs5 g5 hlt2, Wy (j + 1), fun H6 q => ⟨_, by omega, rfl, q⟩, fun x2 H6 y2 => ?_⟩
              obtain ⟨ρ6, s6, rs6, rd6⟩ := w2.yld j H5 ρ5 st5 x2 H6 x5 rs5 g5 y2
              have hd2 : ds2[j]? = some ds2[j] := by simp [hlt2]
              have rd6 := rd6 _ hd2
              have hu6 : H6 L = some (.lst us5) := s6.keep L _ hu5 fun n e => rs5.ap n L e hh5
              have hh6 := s6.hid1 L hh5
              have ra6 := ra5.mono s6 _
              have re7 := (re6.mono s6)
              rw [List.drop_eq_getElem_cons hlt2] at hp5
              simp only [compL] at hp5
              have e5 : f2 η1 ds2[j] st5 = (match bindT t2 ds2[j] η1 with
                | some η2 => (condsE C cs2 η2 st5).bind fun b st => if b = true then (evalE C e η2 st).noexc.bind fun x st => Res.ok [x] st else Res.ok [] st
                | none => Res.bad) := by rw [← hf2]
              rw [e5] at hp5
              have re8 : REnv X.K cl H6 ρ6 η1 (wipe σ2 vs1) := by
                refine ⟨by rw [wipe_length]; exact re7.len, fun n d hn => ?_⟩
                have hnv : n ∉ vs1 := fun z => by
                  rw [bindT_out t hb n (hni n z)] at hn
                  exact wipeE_no vs η n d (hv n z) hn
                obtain ⟨v, k1, k2⟩ := re7.get n d hn
                exact ⟨v, by rw [wipe_out hnv]; exact k1, k2⟩
              cases hb2 : bindT t2 ds2[j] η1 with
              | none => rw [hb2] at hp5; exact hp5.elim
              | some η2 =>
                rw [hb2] at hp5
                simp only at hp5
                refine ⟨ρ6, η1, ds2[j], η2, re8, rd6, hb2, fun σ3 re9 so2 => ⟨?_, ?_⟩⟩
                · rw [so2 vs1 hsub1, wipe_wipe]
                · have hp6 : Post X.K cl (HidL X.K cl H) H ρ0 ((condsE C cs2 η2 st5).noexc.bind fun b st => (if b = true then ((evalE C e η2 st).noexc.bind fun x st => Res.ok [x] st) else Res.ok [] st).noexc.bind fun r st1 => if guardOk st1 gs2 = true then (compL (f2 η1) gs2 (ds2.drop (j + 1)) st1).noexc.bind fun rs st2 => rest i acc (acc2 ++ (r ++ rs)) st2 else .bad) Q EF := by
                    cases hc : condsE C cs2 η2 st5 with
                    | bad => rw [hc] at hp5; exact hp5.elim
                    | exc c fs st6 => rw [hc] at hp5; exact hp5.elim
                    | ok b st6 =>
                      rw [hc] at hp5
                      simp only [ok_bind] at hp5
                      show Post X.K cl (HidL X.K cl H) H ρ0 ((if b = true then ((evalE C e η2 st6).noexc.bind fun x st => Res.ok [x] st) else Res.ok [] st6).noexc.bind fun r st1 => if guardOk st1 gs2 = true then (compL (f2 η1) gs2 (ds2.drop (j + 1)) st1).noexc.bind fun rs st2 => rest i acc (acc2 ++ (r ++ rs)) st2 else .bad) Q EF
                      cases hc2 : (if b = true then ((evalE C e η2 st6).noexc.bind fun x st => Res.ok [x] st) else Res.ok [] st6) with
                      | bad => rw [hc2] at hp5; exact hp5.elim
                      | exc c fs st7 => rw [hc2] at hp5; exact hp5.elim
                      | ok r st7 =>
                        rw [hc2] at hp5
                        simp only [ok_bind] at hp5
                        show Post X.K cl (HidL X.K cl H) H ρ0 (if guardOk st7 gs2 = true then (compL (f2 η1) gs2 (ds2.drop (j + 1)) st7).noexc.bind fun rs st2 => rest i acc (acc2 ++ (r ++ rs)) st2 else .bad) Q EF
                        split at hp5
                        · rename_i g7
                          rw [if_pos g7]
                          cases hr : compL (f2 η1) gs2 (ds2.drop (j + 1)) st7 with
                          | bad => rw [hr] at hp5; exact hp5.elim
                          | exc c fs st8 => rw [hr] at hp5; exact hp5.elim
                          | ok rs st8 => rw [hr] at hp5; exact hp5
                        · exact hp5.elim
                  have sp6 := sp5.trans s6
                  have go7 : ∀ {H' : Hp} {ρ' : Rho} {st' : Sto} {r : List D} {us' : List V}, Step H1 ρ1 H' ρ' → Ext X.K H4 ρ4 H' ρ' → RepS X.K cl H' ρ' st' → ρ'.hid L → H' L = some (.lst us') → Rels X.K cl H' ρ' (acc ++ (acc2 ++ r)) us' → REnv X.K cl H' ρ' η1 σ2 →
                      Post X.K cl (HidL X.K cl H) H ρ0 (if guardOk st' gs2 = true then (compL (f2 η1) gs2 (ds2.drop (j + 1)) st').noexc.bind fun rs st2 => rest i acc (acc2 ++ (r ++ rs)) st2 else .bad) Q EF → Wy (j + 1) H' := fun {H' ρ' st' r us'} a1 a2 a3 a4 a5 a6 a7 hp => by
                    split at hp
                    · rename_i g7
                      refine ⟨hlt2, ρ', st', acc2 ++ r, us', a1, a2, a3, g7, a4, a5, a6, a7, ?_⟩
                      simp only [List.append_assoc]
                      exact hp
                    · exact hp.elim
                  refine TD.seqN (Hb := H) (ρb := ρ0) re9 rs6 (s1.trans sp6) hp6 fun b H7 b' st7 ρ7 s7 re10 rs7 eb hp => ?_
                  have eb : b' = b := eb
                  subst eb
                  have hu7 : H7 L = some (.lst us5) := s7.keep L _ hu6 fun n e => rs6.ap n L e hh6
                  have hh7 := s7.hid1 L hh6
                  have ra7 := ra6.mono s7 _
                  have re11 := re7.mono s7
                  have x7 := (x5.trans s6.ext).trans s7.ext
                  cases b' with
                  | false =>
                    simp only [if_false, Bool.false_eq_true]
                    simp only [Bool.false_eq_true, if_false] at hp
                    exact go7 (r := []) (sp6.trans s7) x7 rs7 hh7 hu7 (by rw [List.append_nil]; exact ra7) re11 hp
                  | true =>
                    rw [if_pos rfl]
                    simp only [if_true] at hp
                    have hp7 : Post X.K cl (HidL X.K cl H) H ρ0 ((evalE C e η2 st7).noexc.bind fun x st1 => if guardOk st1 gs2 = true then (compL (f2 η1) gs2 (ds2.drop (j + 1)) st1).noexc.bind fun rs st2 => rest i acc (acc2 ++ ([x] ++ rs)) st2 else .bad) Q EF := by
                      cases hc : evalE C e η2 st7 with
                      | bad => rw [hc] at hp; exact hp.elim
                      | exc c fs st8 => rw [hc] at hp; exact hp.elim
                      | ok x st8 => rw [hc] at hp; exact hp
                    refine TD.seqN (Hb := H) (ρb := ρ0) re10 rs7 ((s1.trans sp6).trans s7) hp7 fun y H8 d st8 ρ8 s8 re12 rs8 ry hp => ?_
                    have hu8 : H8 L = some (.lst us5) := s8.keep L _ hu7 fun n e => rs7.ap n L e hh7
                    have hh8 := s8.hid1 L hh7
                    have ra8 := ra7.mono s8 _
                    have re13 := re11.mono s8
                    have l0 := line_of (n := LIM) (Nat.le_refl _)
                    have ul : us5.length = (acc ++ acc2).length := ra8.length.symm
                    have sh : (acc ++ acc2).length + 1 ≤ LIM := by
                      split at hp
                      · cases hr : compL (f2 η1) gs2 (ds2.drop (j + 1)) st8 with
                        | bad => rw [hr] at hp; exact hp.elim
                        | exc c fs st9 => rw [hr] at hp; exact hp.elim
                        | ok rs st9 =>
                          rw [hr] at hp
                          have := (short (i := i) (acc := acc) hp).1
                          simp only [List.length_append, List.length_cons, List.length_nil] at this ⊢
                          omega
                      · exact hp.elim
                    refine ⟨us5, hu8, by omega, ?_⟩
                    have ex : Ext X.K H8 ρ8 (upd H8 L (.lst (us5 ++ [y]))) ρ8 := Ext.hidden hh8 hu8 (fun z => z)
                    refine go7 (r := [d]) (ρ' := ρ8) (Step.hidden ((sp6.trans s7).trans s8) hL) ((x7.trans s8.ext).trans ex) (rs8.hidden hh8 hu8 (fun z => z)) hh8 upd_same ?_ ?_ hp
                    · rw [← List.append_assoc]
                      exact Rels.ext ex _ (ra8.append (show Rels X.K cl H8 ρ8 [d] [y] from ⟨y, [], rfl, ry, rfl⟩))
                    · exact REnv.ext re13 ex
            · left
              have ej : j = ds2.length := by omega
              subst ej
              refine ⟨w2.stop H5 ρ5 st5 x5 rs5 g5, ?_⟩
              rw [List.drop_length] at hp5
              have hp5 : Post X.K cl (HidL X.K cl H) H ρ0 (rest i acc (acc2 ++ []) st5) Q EF := hp5
              rw [List.append_nil] at hp5
              exact next hlt sp5 rs5 hh5 hu5 ra5 hp5
    · left
      have ei : i = ds.length := by omega
      subst ei
      refine ⟨w.stop H' ρ st sp.ext rs g, ?_⟩
      rw [List.drop_length] at hp
      have hp : Post X.K cl (HidL X.K cl H) H ρ0 (if (acc ++ []).length ≤ LIM then .ok (acc ++ []) st else .bad) Q EF := hp
      rw [List.append_nil] at hp
      split at hp
      · exact hp H' ρ _ (s1.trans sp) rs ⟨L, us, rfl, hL0, hh, hu, ra⟩
      · exact hp.elim
theorem fold_no {p : Expr} {env : PySem.Env} (h : (match p with | .Set _ _ _ => false | _ => true) = true) (x : Value) : foldedSetIterable p env x = pure x := by
  cases p <;> first | rfl | (simp at h)
def setNo (p : Expr) : Bool := match p with
  | .Set _ _ _ => false
  | _ => true
section
variable {C : Cst} {t : Tgt} {it e : Ex} {cs : List Ex} {own : List (Str × Nat)} {tgp p elt : Expr} {ifs : List Expr} {scope : Scope} {pos : Pos}
theorem l_comp (hc : X.calm = true) (hN : X.N.Nodup) (hi : PI X tgp p (TI1 X cl (evalI C it))) (ok : BlkOk X.N X.env.scope scope own)
    (hg : ∀ (s : Shared) (H : Hp) (L : Addr) (ce : List (Str × Addr)) (fp : List Addr), PG (X.blk s H scope (compEnvC scope ce L X.env) fp) tgp (TG1 X cl t))
    (ht : ∀ (s : Shared) (H : Hp) (L : Addr) (ce : List (Str × Addr)) (fp : List Addr), PTs (X.blk s H scope (compEnvC scope ce L X.env) fp) ifs (TD X cl relB (condsE C cs)))
    (he : ∀ (s : Shared) (H : Hp) (L : Addr) (ce : List (Str × Addr)) (fp : List Addr), PE (X.blk s H scope (compEnvC scope ce L X.env) fp) elt (TE1 X cl (evalE C e)))
    (hsub : ∀ i ∈ tgIx t, i ∈ own.map (·.2)) (hs : setNo p = true) : PE X (.ListComp elt [⟨tgp, p, ifs, 0⟩] scope pos) (TL1 X cl (evalL C (.comp (own.map (·.2)) t it cs e))) :=
  peImp (pe_lc hc hN hi ok hg ht he (fold_no hs)) fun σ H Q h => lc_read hsub h
theorem l_comp2 {t2 : Tgt} {it2 : Ex} {cs2 : List Ex} {tgp2 p2 : Expr} {ifs2 : List Expr} {vs1 : List Nat} (hc : X.calm = true) (hN : X.N.Nodup) (hi : PI X tgp p (TI1 X cl (evalI C it))) (ok : BlkOk X.N X.env.scope scope own) (hv : ∀ i ∈ vs1, i ∈ own.map (·.2)) (hni : ∀ i ∈ vs1, i ∉ tgIx t)
    (hg : ∀ (s : Shared) (H : Hp) (L : Addr) (ce : List (Str × Addr)) (fp : List Addr), PG (X.blk s H scope (compEnvC scope ce L X.env) fp) tgp (TG1 X cl t))
    (ht : ∀ (s : Shared) (H : Hp) (L : Addr) (ce : List (Str × Addr)) (fp : List Addr), PTs (X.blk s H scope (compEnvC scope ce L X.env) fp) ifs (TD X cl relB (condsE C cs)))
    (hi1 : ∀ (s : Shared) (H : Hp) (L : Addr) (ce : List (Str × Addr)) (fp : List Addr), PI (X.blk s H scope (compEnvC scope ce L X.env) fp) tgp2 p2 (TI1 X cl (evalI C it2)))
    (hg1 : ∀ (s : Shared) (H : Hp) (L : Addr) (ce : List (Str × Addr)) (fp : List Addr), PG (X.blk s H scope (compEnvC scope ce L X.env) fp) tgp2 (TG1 X cl t2))
    (ht1 : ∀ (s : Shared) (H : Hp) (L : Addr) (ce : List (Str × Addr)) (fp : List Addr), PTs (X.blk s H scope (compEnvC scope ce L X.env) fp) ifs2 (TD X cl relB (condsE C cs2)))
    (he : ∀ (s : Shared) (H : Hp) (L : Addr) (ce : List (Str × Addr)) (fp : List Addr), PE (X.blk s H scope (compEnvC scope ce L X.env) fp) elt (TE1 X cl (evalE C e)))
    (hsub : ∀ i ∈ tgIx t, i ∈ own.map (·.2)) (hsub1 : ∀ i ∈ tgIx t2, i ∈ vs1) (hs : setNo p = true) (hs2 : setNo p2 = true) : PE X (.ListComp elt [⟨tgp, p, ifs, 0⟩, ⟨tgp2, p2, ifs2, 0⟩] scope pos) (TL1 X cl (evalL C (.comp2 (own.map (·.2)) t it cs t2 it2 cs2 e))) :=
  peImp (pe_lc2 hc hN hi ok hv hg ht hi1 hg1 ht1 he (fold_no hs) (fun _ => fold_no hs2)) fun σ H Q h => lc2_read hsub hsub1 hv hni h
end
section
variable {C : Cst} {pos : Pos}
/-- the readings of the pairs -/
def prs (X : Cx) (cl : Nat → Addr) (C : Cst) : List Ex → List (TE × TE)
  | k :: v :: kvs => (TE1 X cl (evalE C k), TE1 X cl (evalE C v)) :: prs X cl C kvs
  | _ => []
theorem prs_read {γ δ : Type} {rel2 : Hp → Rho → γ → δ → Prop} {Qr : δ → Hp → Prop} : ∀ (kvs : List Ex) {H : Hp} {ρ : Rho} {st : Sto} {f : List (D × D) → Sto → Res γ} {Q' : List (V × V) → Hp → Prop}, REnv X.K cl H ρ η σ → RepS X.K cl H ρ st → Step Hb ρb H ρ →
    Post X.K cl rel2 Hb ρb ((evalPs C kvs η st).bind f) Qr EF →
    (∀ ps H1 ds st1 ρ1, Step H ρ H1 ρ1 → RepS X.K cl H1 ρ1 st1 → ds.length = ps.length → (∀ (i : Nat) (d : D × D) (v : V × V), ds[i]? = some d → ps[i]? = some v → Rel X.K cl H1 ρ1 d.1 v.1 ∧ Rel X.K cl H1 ρ1 d.2 v.2) → ps.length = (prs X cl C kvs).length →
      Post X.K cl rel2 Hb ρb (f ds st1) Qr EF → Q' ps H1) → tPairs (prs X cl C kvs) σ H Q'
  | [], H, ρ, st, f, Q', re, rs, sb, h, k => by
    simp only [evalPs, ok_bind] at h
    exact k [] H [] st ρ .refl rs rfl (fun i d v e => by simp at e) rfl h
  | [_], H, ρ, st, f, Q', re, rs, sb, h, k => by
    simp only [evalPs] at h
    exact h.elim
  | a :: b :: kvs, H, ρ, st, f, Q', re, rs, sb, h, k => by
    simp only [evalPs] at h
    rw [bind_bind] at h
    refine TD.seqB (Hb := Hb) (ρb := ρb) re rs sb h fun x H1 d st1 ρ1 s1 re1 rs1 r1 h => ?_
    rw [bind_bind] at h
    refine TD.seqB (Hb := Hb) (ρb := ρb) re1 rs1 (sb.trans s1) h fun y H2 e st2 ρ2 s2 re2 rs2 r2 h => ?_
    rw [bind_bind] at h
    refine prs_read kvs re2 rs2 ((sb.trans s1).trans s2) h fun ps H3 ds st3 ρ3 s3 rs3 hl hr hn h => ?_
    refine k ((x, y) :: ps) H3 ((d, e) :: ds) st3 ρ3 ((s1.trans s2).trans s3) rs3 (by simp [hl]) (fun i d' v' e1 e2 => ?_) (by simp [prs, hn]) (by simpa only [ok_bind] using h)
    cases i with
    | zero =>
      cases e1
      cases e2
      exact ⟨(r1.mono s2 d).mono s3 d, r2.mono s3 e⟩
    | succ i => exact hr i d' v' (by simpa using e1) (by simpa using e2)
theorem relK_of {H : Hp} {ρ : Rho} : ∀ {ds : List (D × D)} {ps : List (V × V)}, ds.length = ps.length → (∀ (i : Nat) (d : D × D) (v : V × V), ds[i]? = some d → ps[i]? = some v → Rel X.K cl H ρ d.1 v.1 ∧ Rel X.K cl H ρ d.2 v.2) → (ds.all fun p => keyOk p.1) = true →
    ∃ kus : List (Key × V), ps = kus.map (fun kv => (kV kv.1, kv.2)) ∧ RelK X.K cl H ρ ds kus
  | [], [], _, _, _ => ⟨[], rfl, rfl⟩
  | [], _ :: _, h, _, _ => by simp at h
  | _ :: _, [], h, _, _ => by simp at h
  | (k, d) :: ds, (x, y) :: ps, h, r, ok => by
    rw [List.all_cons, Bool.and_eq_true] at ok
    obtain ⟨r1, r2⟩ := r 0 (k, d) (x, y) rfl rfl
    obtain ⟨key, rfl⟩ := keyOk_rel ok.1 r1
    obtain ⟨kus, rfl, rr⟩ := relK_of (ds := ds) (ps := ps) (by simpa using h) (fun i d' v' e1 e2 => r (i + 1) d' v' (by simpa using e1) (by simpa using e2)) ok.2
    exact ⟨(key, y) :: kus, rfl, key, y, kus, rfl, r1, r2, rr⟩
theorem fold_rel {H : Hp} {ρ : Rho} : ∀ {ds : List (D × D)} {kus : List (Key × V)} {acc : List (D × D)} {us : List (Key × V)}, RelK X.K cl H ρ ds kus → RelK X.K cl H ρ acc us → RelK X.K cl H ρ (ds.foldl (fun kvs p => kPut kvs p.1 p.2) acc) (mergeK us kus)
  | [], _, _, _, h, r => by cases h; exact r
  | (k, d) :: ds, _, acc, us, h, r => by
    obtain ⟨key, v, kr, rfl, h1, h2, h3⟩ := h
    have ih := fold_rel (ds := ds) (kus := kr) (acc := kPut acc k d) (us := putK us key v) h3 (kPut_rel h1 h2 r)
    exact ih
abbrev TK1 (X : Cx) (cl : Nat → Addr) (ev : Env → Sto → Res (List (D × D))) : TE := fun σ H Q => TD X cl (HidK X.K cl H) ev σ H Q
theorem k_disp {kvs : List Ex} {ks : List (Option Expr)} {vs : List Expr} (hp : PPs X pos ks vs (prs X cl C kvs)) (hall : ks.all (·.isSome) = true) (hl : ks.length = vs.length) (h0 : ks ≠ []) (h15 : ks.length ≤ 15) (hn : (prs X cl C kvs).length = ks.length) :
    PE X (.Dict ks vs pos) (TK1 X cl (evalK C (.disp kvs))) :=
  peImp (pe_disp hp hall hl h0 h15) fun σ H Q ⟨ρ, η, st, re, rs, h⟩ => by
    simp only [evalK] at h
    intro L hL
    have s1 : Step H ρ (upd H L (.dK [])) (ρ.hide L) := Step.hide hL
    refine prs_read kvs (re.mono s1) (rs.hide hL) s1 h fun ps H1 ds st1 ρ1 s2 rs1 hlen hr hn2 h => ?_
    have hL1 : H1 L = some (.dK []) := s2.keep L _ upd_same fun n e => (rs.hide (o := .dK []) hL).ap n L e (.inr rfl)
    have hh : ρ1.hid L := s2.hid1 L (.inr rfl)
    refine ⟨hL1, ?_⟩
    split at h
    · rename_i ok
      obtain ⟨kus, rfl, rr⟩ := relK_of hlen hr ok
      refine ⟨kus, rfl, by rw [List.length_map] at hn2; omega, ?_⟩
      have ex : Ext X.K H1 ρ1 (upd H1 L (.dK (mergeK [] kus))) ρ1 := Ext.hidden hh hL1 (fun z => z)
      have rr2 : RelK X.K cl H1 ρ1 (mkDict ds) (mergeK [] kus) := fold_rel rr rfl
      exact h _ ρ1 _ (Step.hidden (s1.trans s2) hL) (rs1.hidden hh hL1 (fun z => z)) ⟨L, _, rfl, hL, hh, upd_same, RelK.ext ex _ rr2⟩
    · exact h.elim
theorem n_frd {l : Dx} {p : Expr} (h : PE X p (TK1 X cl (evalK C l))) : PE X p (TE1 X cl (evalE C (.frd l))) :=
  peImp h fun σ H Q ⟨ρ, η, st, re, rs, h⟩ => by
    simp only [evalE] at h
    exact TD.seq0 re rs h fun v H1 ds st1 ρ1 s1 re1 rs1 r1 h1 => h1 H1 ⟨ρ1.f, ρ.hid⟩ v s1.unhide (rs1.unhide s1) (r1.frozen rs s1 rs1)
theorem n_ownd {l : Dx} {p : Expr} (h : PE X p (TK1 X cl (evalK C l))) : PE X p (TE1 X cl (evalE C (.ownd l))) :=
  peImp h fun σ H Q ⟨ρ, η, st, re, rs, h⟩ => by
    simp only [evalE] at h
    refine TD.seq0 re rs h fun v H1 ds st1 ρ1 s1 re1 rs1 r1 h1 => ?_
    obtain ⟨a, vs, rfl, hn, hh, k, rr⟩ := r1
    exact h1 H1 (ρ1.own ρ st1.length a) _ (s1.own rs1 hn) (rs.own s1 rs1 hn hh ⟨vs, k, rr⟩) rel_own
end
end
end Dv
namespace Dv
open PySem L2
structure FnG (P : Program) (w : World) (K : PySem.W.Frag) (mg : Str → Option Value) (base : Heap) (k : Nat) (f : Addr) (fd : FuncData) (ps : List Str) (sp : List V → Hp → VK → Prop) : Prop where
  len : ∀ vs H Q, sp vs H Q → vs.length = ps.length
  run : ∀ (A : Around) (outer : List PySem.Env) (s : Shared) (H : Hp) (args : Args) (us : List Value) (vs : List V) (Q : VK), Room k A → A.guards = some [] → Env0 P w K mg base A outer s H → BindsTo s fd args (ps.zip us) → Vals vs us → sp vs H Q →
    codeAny (model P w) A (.call (.ref f) args) (CR CX0 outer P w H s Q E0) s
theorem FnG.mono {P : Program} {w : World} {K : PySem.W.Frag} {mg : Str → Option Value} {base : Heap} {j k : Nat} {f : Addr} {fd : FuncData} {ps : List Str} {sp : List V → Hp → VK → Prop} (F : FnG P w K mg base j f fd ps sp) (h : j ≤ k) : FnG P w K mg base k f fd ps sp :=
  ⟨F.len, fun A outer s H args us vs Q hr => F.run A outer s H args us vs Q (hr.mono h)⟩
/-- what a def of ours promises -/
def spG (K : PySem.W.Frag) (cl : Nat → Addr) (g : List D → Sto → Res D) : List V → Hp → VK → Prop := fun vs H Q => ∃ ρ st ds, RepS K cl H ρ st ∧ Rels K cl H ρ ds vs ∧ Post K cl (Rel K cl) H ρ (g ds st) Q EF
section
variable {X : Cx} {cl : Nat → Addr} {k : Nat} {f : Addr} {fd : FuncData} {pn : List Str} {x : Str} {p : Expr} {ps : List Expr} {pos ppos : Pos}
theorem run_G {sp : List V → Hp → VK → Prop} {pins : List (Addr × Obj)} {σ : L2.St} {H : Hp} {s : Shared} {Q : VK} {us : List Value} {vs : List V} (F : FnG X.prog X.w X.K X.mg X.base k f fd pn sp) (hr : Room k X.A) (hgd : X.A.guards = some []) (hb : Binds X.K fd pn [])
    (I : Inv X pins σ H s) (r : Vals vs us) (h : sp vs H Q) : wpAny (model X.prog X.w) X.A (call (.ref f) us) (EP X pins σ Q) X.xe s := by
  have hn := F.len _ _ _ h
  have hl : (us ++ []).length = pn.length := by rw [List.append_nil, ← r.length]; exact hn
  have b := hb s us I.kIn hl
  rw [List.append_nil] at b
  refine wpAny_call (codeAny_mono (F.run X.A X.stack s H _ us vs Q hr hgd I.env0 b r h) ?_)
  intro res s' q
  match res, q with
  | .ok (.ret u), q => exact I.after q
  | .ok .next, q => exact q.elim
  | .ok .brk, q => exact q.elim
  | .ok .cont, q => exact q.elim
  | .error e, q => exact q.elim
def tCallG (sp : List V → Hp → VK → Prop) (t : TA) : TE := fun σ H Q => t σ H fun vs H1 => sp vs H1 Q
theorem pe_callG {sp : List V → Hp → VK → Prop} {t : TA} (F : FnG X.prog X.w X.K X.mg X.base k f fd pn sp) (hr : Room k X.A) (hgd : X.A.guards = some []) (hg : Gl X x) (hm : X.mg x = some (.ref f)) (hk : PySem.W.keepIn X.K (.ref f) = true) (hb : Binds X.K fd pn [])
    (hdb : (x == ("__debug__" : Str)) = false) (ha : PA X (p :: ps) t) (hs : isStarP p = false) (hps : ps.all (fun p => !isStarP p) = true) : PE X (.Call (.Name x ppos) (p :: ps) [] pos) (tCallG sp t) := by
  constructor
  intro pins s σ
  intro H Q I h
  have arg := thn (ha.run pos pins s σ H _ I h) fun us s1 ⟨vs, H1, I1, r, q⟩ => (show X.K.In s1.heap ∧ _ from ⟨I1.kIn, run_G F hr hgd hb I1 r q⟩)
  exact wpAny_Call_Name_kw (ld_glob I hg hm (PySem.W.callWith_K (h₀ := X.base) I.ok.mod.kin hk arg (star_no hs) (star_none hps)) hdb)
variable {C : Cst} {n : Nat} {es : List Ex}
theorem n_call (F : FnG X.prog X.w X.K X.mg X.base k f fd pn (spG X.K cl (C.call n))) (hr : Room k X.A) (hgd : X.A.guards = some []) (hg : Gl X x) (hm : X.mg x = some (.ref f)) (hk : PySem.W.keepIn X.K (.ref f) = true) (hb : Binds X.K fd pn [])
    (hdb : (x == ("__debug__" : Str)) = false) (ha : PA X (p :: ps) (TA1 X cl (evalEs C es))) (hs : isStarP p = false) (hps : ps.all (fun p => !isStarP p) = true) : PE X (.Call (.Name x ppos) (p :: ps) [] pos) (TE1 X cl (evalE C (.call n es))) :=
  peImp (pe_callG F hr hgd hg hm hk hb hdb ha hs hps) fun σ H Q ⟨ρ, η, st, re, rs, h⟩ => by
    simp only [evalE] at h
    exact TD.seq (E := EF) re rs h fun vs H1 ds st1 ρ1 s1 re1 rs1 r1 h1 => ⟨ρ1, st1, ds, rs1, r1, h1⟩
theorem n_callz (F : FnG X.prog X.w X.K X.mg X.base k f fd pn (spG X.K cl (C.call n))) (hr : Room k X.A) (hgd : X.A.guards = some []) (hg : Gl X x) (hm : X.mg x = some (.ref f)) (hk : PySem.W.keepIn X.K (.ref f) = true) (hb : Binds X.K fd pn [])
    (hdb : (x == ("__debug__" : Str)) = false) (ha : PA X (p :: ps) (TA1 X cl (evalEs C es))) (hs : isStarP p = false) (hps : ps.all (fun p => !isStarP p) = true) : PE X (.Call (.Name x ppos) (p :: ps) [] pos) (TE1 X cl (evalE C (.callz n es))) :=
  peImp (pe_callG F hr hgd hg hm hk hb hdb ha hs hps) fun σ H Q ⟨ρ, η, st, re, rs, h⟩ => by
    simp only [evalE] at h
    refine TD.seq (E := EF) re rs h fun vs H1 ds st1 ρ1 s1 re1 rs1 r1 h1 => ⟨ρ1, st1, ds, rs1, r1, ?_⟩
    cases e : C.call n ds st1 with
    | bad => rw [e] at h1; exact h1.elim
    | exc c fs st2 => rw [e] at h1; exact h1
    | ok d st2 =>
      rw [e] at h1
      simp only [ok_bind] at h1
      exact fun H2 ρ2 v s2 rs2 q => frz_post rs1 s2 rs2 q h1
end
section
variable (K : PySem.W.Frag) (cl : Nat → Addr)
/-- what is wanted of a statement's end -/
def PostS (H : Hp) (ρ : Rho) (R : Res Fl) (W : Ends) : Prop :=
  match R with
  | .ok (.nx η) st' => ∀ H' ρ' σ', Step H ρ H' ρ' → RepS K cl H' ρ' st' → REnv K cl H' ρ' η σ' → W.nx σ' H'
  | .ok (.bk η) st' => ∀ H' ρ' σ', Step H ρ H' ρ' → RepS K cl H' ρ' st' → REnv K cl H' ρ' η σ' → W.bk σ' H'
  | .ok (.ct η) st' => ∀ H' ρ' σ', Step H ρ H' ρ' → RepS K cl H' ρ' st' → REnv K cl H' ρ' η σ' → W.ct σ' H'
  | .ok (.rt d) st' => ∀ H' ρ' v, Step H ρ H' ρ' → RepS K cl H' ρ' st' → Rel K cl H' ρ' d v → W.rt v H'
  | .exc c fs st' => ∀ H' ρ' dd gs, Step H ρ H' ρ' → RepS K cl H' ρ' st' → H' dd = some (.xd gs) → RelF K cl H' ρ' fs gs → False
  | .bad => False
end
def TS1 (X : Cx) (cl : Nat → Addr) (ev : Env → Sto → Res Fl) : TS := fun W σ H => ∃ ρ η st, REnv X.K cl H ρ η σ ∧ RepS X.K cl H ρ st ∧ PostS X.K cl H ρ (ev η st) W
section
variable {X : Cx} {cl : Nat → Addr} {H H1 : Hp} {ρ ρ1 : Rho} {η : Env} {st : Sto} {σ : L2.St} {W : Ends}
theorem PostS.step {R : Res Fl} (h : PostS X.K cl H ρ R W) (s : Step H ρ H1 ρ1) : PostS X.K cl H1 ρ1 R W := by
  unfold PostS at *
  split at h
  · exact fun H' ρ' b s' r q => h H' ρ' b (s.trans s') r q
  · exact fun H' ρ' b s' r q => h H' ρ' b (s.trans s') r q
  · exact fun H' ρ' b s' r q => h H' ρ' b (s.trans s') r q
  · exact fun H' ρ' b s' r q => h H' ρ' b (s.trans s') r q
  · exact fun H' ρ' dd gs s' r q => h H' ρ' dd gs (s.trans s') r q
  · exact h
/-- first an evaluation, then what is behind it -/
theorem TD.seqS {α β : Type} {rel : Hp → Rho → α → β → Prop} {ev : Env → Sto → Res α} {f : α → Sto → Res Fl} {Q' : β → Hp → Prop} (re : REnv X.K cl H ρ η σ) (rs : RepS X.K cl H ρ st) (h : PostS X.K cl H ρ ((ev η st).bind f) W)
    (k : ∀ b H1 a st1 ρ1, Step H ρ H1 ρ1 → REnv X.K cl H1 ρ1 η σ → RepS X.K cl H1 ρ1 st1 → rel H1 ρ1 a b → PostS X.K cl H1 ρ1 (f a st1) W → Q' b H1) : TD X cl rel ev σ H Q' := by
  refine ⟨ρ, η, st, re, rs, ?_⟩
  cases e : ev η st with
  | bad => rw [e] at h; exact h.elim
  | exc c fs st1 => rw [e] at h; exact h
  | ok a st1 =>
    rw [e] at h
    exact fun H1 ρ1 b s1 r1 ra => k b H1 a st1 ρ1 s1 (re.mono s1) r1 ra (PostS.step (show PostS X.K cl H ρ (f a st1) W from h) s1)
theorem TD.testS {ev : Env → Sto → Res D} {g : D → Sto → Res Fl} {f : Bool → Sto → Res Fl} {Q' : Bool → Hp → Prop} (re : REnv X.K cl H ρ η σ) (rs : RepS X.K cl H ρ st) (h : PostS X.K cl H ρ ((ev η st).bind g) W) (gd : ∀ d st, (∃ b, d = .bl b ∧ g d st = f b st) ∨ g d st = .bad)
    (k : ∀ b H1 st1 ρ1, Step H ρ H1 ρ1 → REnv X.K cl H1 ρ1 η σ → RepS X.K cl H1 ρ1 st1 → PostS X.K cl H1 ρ1 (f b st1) W → Q' b H1) : TT1 X cl ev σ H Q' := by
  refine ⟨ρ, η, st, re, rs, ?_⟩
  show Post X.K cl relB H ρ ((ev η st).bind asB) Q' _
  cases e : ev η st with
  | bad => rw [e] at h; exact h.elim
  | exc c fs st1 => rw [e] at h; exact h
  | ok d st1 =>
    rw [e] at h
    have h : PostS X.K cl H ρ (g d st1) W := h
    rcases gd d st1 with ⟨b, rfl, eg⟩ | eg
    · rw [eg] at h
      exact fun H1 ρ1 b' s1 r1 eb => by
        cases eb
        exact k b H1 st1 ρ1 s1 (re.mono s1) r1 (h.step s1)
    · rw [eg] at h
      exact h.elim
variable {C : Cst} {e a b c : Ex} {p q r : Expr} {pos ppos tpos : Pos} {ss : List Sx} {s : Sx} {ps : List Stmt} {pst : Stmt}
theorem ss_nil : PSs X [] (TS1 X cl (execs C [])) :=
  pssImp pss_nil fun W σ H ⟨ρ, η, st, re, rs, h⟩ => by
    simp only [execs] at h
    exact h H ρ σ .refl rs re
theorem ss_cons (h1 : PS X pst (TS1 X cl (execS C s))) (h2 : PSs X ps (TS1 X cl (execs C ss))) : PSs X (pst :: ps) (TS1 X cl (execs C (s :: ss))) :=
  pssImp (pss_cons h1 h2) fun W σ H ⟨ρ, η, st, re, rs, h⟩ => by
    simp only [execs] at h
    refine ⟨ρ, η, st, re, rs, ?_⟩
    cases e : execS C s η st with
    | bad => rw [e] at h; exact h.elim
    | exc c fs st1 => rw [e] at h; exact h
    | ok fl st1 =>
      rw [e] at h
      simp only [ok_bind] at h
      cases fl with
      | nx η1 => exact fun H1 ρ1 σ1 s1 rs1 re1 => ⟨ρ1, η1, st1, re1, rs1, PostS.step h s1⟩
      | rt d => exact h
      | bk η1 => exact h
      | ct η1 => exact h
/-- the reading of name = e -/
theorem set_read {i : Nat} (h : TS1 X cl (execS C (.set i e)) W σ H) : TE1 X cl (evalE C e) σ H fun x H1 => W.nx (σ.set i (some x)) H1 := by
  obtain ⟨ρ, η, st, re, rs, h⟩ := h
  simp only [execS] at h
  exact TD.seqS re rs h fun x H1 d st1 ρ1 s1 re1 rs1 r1 h1 => h1 H1 ρ1 _ .refl rs1 (re1.set i r1)
theorem s_set {i : Nat} {x : Str} (hN : X.N.Nodup) (hi : X.N[i]? = some x) (hx : Loc X.env.scope x) (hf : X.fn x = true ∨ X.env.scope.names.lookup x = some .local) (hs : swapsWith p (some (.Name x ppos)) pos.line X.env = pure false) (ha : PE X p (TE1 X cl (evalE C e))) :
    PS X (.Assign [.Name x ppos] p pos) (TS1 X cl (execS C (.set i e))) :=
  psImp (ps_set hN hi hx ha hs hf) fun W σ H h => set_read h
theorem frl_read {l : Lx} {Q : VK} (h : TE1 X cl (evalE C (.frl l)) σ H Q) : TL1 X cl (evalL C l) σ H Q := by
  obtain ⟨ρ, η, st, re, rs, h⟩ := h
  simp only [evalE] at h
  exact TD.seq0 re rs h fun v H1 ds st1 ρ1 s1 re1 rs1 r1 h1 => h1 H1 ⟨ρ1.f, ρ.hid⟩ v s1.unhide (rs1.unhide s1) (r1.frozen rs s1 rs1)
theorem own_read {l : Lx} {Q : VK} (h : TE1 X cl (evalE C (.own l)) σ H Q) : TL1 X cl (evalL C l) σ H Q := by
  obtain ⟨ρ, η, st, re, rs, h⟩ := h
  simp only [evalE] at h
  refine TD.seq0 re rs h fun v H1 ds st1 ρ1 s1 re1 rs1 r1 h1 => ?_
  obtain ⟨a, vs, rfl, hn, hh, k, rr⟩ := r1
  exact h1 H1 (ρ1.own ρ st1.length a) _ (s1.own rs1 hn) (rs.own s1 rs1 hn hh ⟨vs, k, rr⟩) rel_own
/-- name = [.. for ..] on one line -/
theorem s_setLc {i : Nat} {x : Str} {t : Tgt} {it : Ex} {cs : List Ex} {own : List (Str × Nat)} {tgp elt : Expr} {ifs : List Expr} {scope : Scope} {l : Lx} (hl : e = .frl l ∨ e = .own l) (el : l = .comp (own.map (·.2)) t it cs a)
    (hc : X.calm = true) (hN : X.N.Nodup) (hy : X.N[i]? = some x) (hyl : X.env.scope.names.lookup x = some .local) (hsw : swapsWith (.ListComp elt [⟨tgp, p, ifs, 0⟩] scope tpos) (some (.Name x ppos)) pos.line X.env = pure true)
    (hi : PI X tgp p (TI1 X cl (evalI C it))) (ok : BlkOk X.N X.env.scope scope own)
    (hg : ∀ (s : Shared) (H : Hp) (L : Addr) (ce : List (Str × Addr)) (fp : List Addr), PG (X.blk s H scope (compEnvC scope ce L X.env) fp) tgp (TG1 X cl t))
    (ht : ∀ (s : Shared) (H : Hp) (L : Addr) (ce : List (Str × Addr)) (fp : List Addr), PTs (X.blk s H scope (compEnvC scope ce L X.env) fp) ifs (TD X cl relB (condsE C cs)))
    (he : ∀ (s : Shared) (H : Hp) (L : Addr) (ce : List (Str × Addr)) (fp : List Addr), PE (X.blk s H scope (compEnvC scope ce L X.env) fp) elt (TE1 X cl (evalE C a)))
    (hsub : ∀ i ∈ tgIx t, i ∈ own.map (·.2)) (hs : setNo p = true) : PS X (.Assign [.Name x ppos] (.ListComp elt [⟨tgp, p, ifs, 0⟩] scope tpos) pos) (TS1 X cl (execS C (.set i e))) :=
  psImp (ps_setLc hc hN hy hyl hsw hi ok hg ht he (fold_no hs)) fun W σ H h => by
    have h := set_read h
    subst el
    rcases hl with rfl | rfl
    · exact lc_read hsub (frl_read h)
    · exact lc_read hsub (own_read h)
theorem s_setLc2 {i : Nat} {x : Str} {t t2 : Tgt} {it it2 : Ex} {cs cs2 : List Ex} {own : List (Str × Nat)} {vs1 : List Nat} {tgp elt tgp2 p2 : Expr} {ifs ifs2 : List Expr} {scope : Scope} {l : Lx} (hl : e = .frl l ∨ e = .own l) (el : l = .comp2 (own.map (·.2)) t it cs t2 it2 cs2 a)
    (hc : X.calm = true) (hN : X.N.Nodup) (hy : X.N[i]? = some x) (hyl : X.env.scope.names.lookup x = some .local) (hsw : swapsWith (.ListComp elt [⟨tgp, p, ifs, 0⟩, ⟨tgp2, p2, ifs2, 0⟩] scope tpos) (some (.Name x ppos)) pos.line X.env = pure true)
    (hi : PI X tgp p (TI1 X cl (evalI C it))) (ok : BlkOk X.N X.env.scope scope own) (hv : ∀ i ∈ vs1, i ∈ own.map (·.2)) (hni : ∀ i ∈ vs1, i ∉ tgIx t)
    (hg : ∀ (s : Shared) (H : Hp) (L : Addr) (ce : List (Str × Addr)) (fp : List Addr), PG (X.blk s H scope (compEnvC scope ce L X.env) fp) tgp (TG1 X cl t))
    (ht : ∀ (s : Shared) (H : Hp) (L : Addr) (ce : List (Str × Addr)) (fp : List Addr), PTs (X.blk s H scope (compEnvC scope ce L X.env) fp) ifs (TD X cl relB (condsE C cs)))
    (hi1 : ∀ (s : Shared) (H : Hp) (L : Addr) (ce : List (Str × Addr)) (fp : List Addr), PI (X.blk s H scope (compEnvC scope ce L X.env) fp) tgp2 p2 (TI1 X cl (evalI C it2)))
    (hg1 : ∀ (s : Shared) (H : Hp) (L : Addr) (ce : List (Str × Addr)) (fp : List Addr), PG (X.blk s H scope (compEnvC scope ce L X.env) fp) tgp2 (TG1 X cl t2))
    (ht1 : ∀ (s : Shared) (H : Hp) (L : Addr) (ce : List (Str × Addr)) (fp : List Addr), PTs (X.blk s H scope (compEnvC scope ce L X.env) fp) ifs2 (TD X cl relB (condsE C cs2)))
    (he : ∀ (s : Shared) (H : Hp) (L : Addr) (ce : List (Str × Addr)) (fp : List Addr), PE (X.blk s H scope (compEnvC scope ce L X.env) fp) elt (TE1 X cl (evalE C a)))
    (hsub : ∀ i ∈ tgIx t, i ∈ own.map (·.2)) (hsub1 : ∀ i ∈ tgIx t2, i ∈ vs1) (hs : setNo p = true) (hs2 : setNo p2 = true) : PS X (.Assign [.Name x ppos] (.ListComp elt [⟨tgp, p, ifs, 0⟩, ⟨tgp2, p2, ifs2, 0⟩] scope tpos) pos) (TS1 X cl (execS C (.set i e))) :=
  psImp (ps_setLc2 hc hN hy hyl hsw hi ok hv hg ht hi1 hg1 ht1 he (fold_no hs) (fun _ => fold_no hs2)) fun W σ H h => by
    have h := set_read h
    subst el
    rcases hl with rfl | rfl
    · exact lc2_read hsub hsub1 hv hni (frl_read h)
    · exact lc2_read hsub hsub1 hv hni (own_read h)
def isCompP : Expr → Bool
  | .ListComp _ _ _ _ => true
  | .SetComp _ _ _ _ => true
  | .DictComp _ _ _ _ _ => true
  | _ => false
theorem swap_no {t : Option Expr} {l : Nat} {env : PySem.Env} (h : isCompP p = false) : swapsWith p t l env = pure false := by
  cases p <;> first | rfl | simp [isCompP] at h
theorem sole_no {t : Expr} {l : Nat} {env : PySem.Env} (h : isCompP p = false) : swapsWithSole [t] p l env = pure false := by
  rw [swapsWithSole]
  exact swap_no h
theorem swap_lc {elt : Expr} {gs : List Comprehension} {scope : Scope} {x : Str} {l : Nat} {env : PySem.Env} {k : Bool}
    (h : (env.blockKind == .function && env.kindOf x == some .local && ppos.line == tpos.line && !(scope.names.any fun (n, k) => n == x && (k == .local || k == .cell))) = k) :
    swapsWith (.ListComp elt gs scope tpos) (some (.Name x ppos)) l env = pure k := by
  rw [← h]
  rfl
def isTupP : Expr → Bool
  | .Tuple _ _ _ => true
  | _ => false
theorem s_tset {t : Tgt} {tps : List Expr} {kt : Nat} (h1 : isCompP p = false) (h2 : isTupP p = false) (ha : PE X p (TE1 X cl (evalE C e))) (hg : PG X (.Tuple tps kt tpos) (TG1 X cl t)) : PS X (.Assign [.Tuple tps kt tpos] p pos) (TS1 X cl (execS C (.tset t e))) :=
  psImp (ps_asg ha hg (sole_no h1) (by cases p <;> first | rfl | simp [isTupP] at h2) (by simp only [assignEach]; rfl)) fun W σ H ⟨ρ, η, st, re, rs, h⟩ => by
    simp only [execS] at h
    refine TD.seqS re rs h fun x H1 d st1 ρ1 s1 re1 rs1 r1 h1 => ?_
    split at h1
    · rename_i η1 hb
      exact ⟨ρ1, η, d, η1, re1, r1, hb, fun σ1 re2 _ => h1 H1 ρ1 σ1 .refl rs1 re2⟩
    · exact h1.elim
theorem s_isub {o i v : Ex} (hu : X.A.units + 1 < cLine) (h1 : isCompP r = false) (hq : (match q with | .Slice _ _ _ _ => false | _ => true) = true) (hv : PE X r (TE1 X cl (evalE C v))) (ho : PE X p (TE1 X cl (evalE C o))) (hi : PE X q (TE1 X cl (evalE C i))) :
    PS X (.Assign [.Subscript p q tpos] r pos) (TS1 X cl (execS C (.isub o i v))) :=
  psImp (ps_asg hv (pg_sub ho hi (isub_ok (cl := cl) hu) (by intro _; cases q <;> first | rfl | simp at hq)) (sole_no h1) (by cases r <;> rfl) (by simp only [assignEach]; rfl)) fun W σ H ⟨ρ, η, st, re, rs, h⟩ => by
    simp only [execS] at h
    refine TD.seqS re rs h fun x H1 d st1 ρ1 s1 re1 rs1 r1 h1 => TD.seqS re1 rs1 h1 fun y H2 e st2 ρ2 s2 re2 rs2 r2 h2 => TD.seqS re2 rs2 h2 fun z H3 g st3 ρ3 s3 re3 rs3 r3 h3 => ?_
    cases e4 : isub e g d st3 with
    | bad => rw [e4] at h3; exact h3.elim
    | exc c fs st4 =>
      exfalso
      unfold isub at e4
      repeat (first | (split at e4) | cases e4)
    | ok u st4 =>
      rw [e4] at h3
      simp only [ok_bind] at h3
      exact ⟨ρ3, st3, e, g, d, st4, rs3, r2.mono s3 e, r3, (r1.mono s2 d).mono s3 d, e4, fun H' ρ' s4 rs4 => h3 H' ρ' σ s4 rs4 (re3.mono s4)⟩
theorem s_expr (h1 : isCompP p = false) (ha : PE X p (TE1 X cl (evalE C e))) : PS X (.Expr p pos) (TS1 X cl (execS C (.expr e))) :=
  psImp (ps_expr ha (swap_no h1)) fun W σ H ⟨ρ, η, st, re, rs, h⟩ => by
    simp only [execS] at h
    exact TD.seqS re rs h fun x H1 d st1 ρ1 s1 re1 rs1 r1 h1 => h1 H1 ρ1 σ .refl rs1 re1
theorem s_ret (ha : PE X p (TE1 X cl (evalE C e))) : PS X (.Return (some p) pos) (TS1 X cl (execS C (.ret e))) :=
  psImp (ps_ret ha) fun W σ H ⟨ρ, η, st, re, rs, h⟩ => by
    simp only [execS] at h
    exact TD.seqS re rs h fun x H1 d st1 ρ1 s1 re1 rs1 r1 h1 => h1 H1 ρ1 x .refl rs1 r1
theorem s_retN : PS X (.Return none pos) (TS1 X cl (execS C .retN)) :=
  psImp ps_retN fun W σ H ⟨ρ, η, st, re, rs, h⟩ => by
    simp only [execS] at h
    exact h H ρ .non .refl rs rfl
theorem s_pass : PS X (.Pass pos) (TS1 X cl (execS C .pass)) :=
  psImp ps_pass fun W σ H ⟨ρ, η, st, re, rs, h⟩ => by
    simp only [execS] at h
    exact h H ρ σ .refl rs re
theorem s_brk : PS X (.Break pos) (TS1 X cl (execS C .brk)) :=
  psImp ps_break fun W σ H ⟨ρ, η, st, re, rs, h⟩ => by
    simp only [execS] at h
    exact h H ρ σ .refl rs re
theorem s_cont : PS X (.Continue pos) (TS1 X cl (execS C .cont)) :=
  psImp ps_continue fun W σ H ⟨ρ, η, st, re, rs, h⟩ => by
    simp only [execS] at h
    exact h H ρ σ .refl rs re
theorem s_ite {ta tb : List Stmt} {sa sb : List Sx} (hc : PT X p (TT1 X cl (evalE C c))) (ha : PSs X ta (TS1 X cl (execs C sa))) (hb : PSs X tb (TS1 X cl (execs C sb))) : PS X (.If p ta tb pos) (TS1 X cl (execS C (.ite c sa sb))) :=
  psImp (ps_if hc ha hb) fun W σ H ⟨ρ, η, st, re, rs, h⟩ => by
    simp only [execS] at h
    refine TD.testS (f := fun k st => if k = true then execs C sa η st else execs C sb η st) re rs h (fun d st => by cases d with | bl k => (cases k <;> exact .inl ⟨_, rfl, rfl⟩) | _ => exact .inr rfl) fun k H1 st1 ρ1 s1 re1 rs1 h1 => ?_
    cases k with
    | true => rw [if_pos rfl] at h1 ⊢; exact ⟨ρ1, η, st1, re1, rs1, h1⟩
    | false => rw [if_neg Bool.false_ne_true] at h1 ⊢; exact ⟨ρ1, η, st1, re1, rs1, h1⟩
theorem s_whl {tb : List Stmt} {sb : List Sx} (hx : X.xe = fun _ _ => False) (hc : PT X p (TT1 X cl (evalE C c))) (hb : PSs X tb (TS1 X cl (execs C sb))) : PS X (.While p tb [] pos) (TS1 X cl (execS C (.whl c sb))) :=
  psImp (ps_while (by rw [hx]; exact PassesOwn.never) hc hb) fun W σ H ⟨ρ, η, st, re, rs, h⟩ => by
    simp only [execS] at h
    refine ⟨fun m σ H => ∃ ρ η st, REnv X.K cl H ρ η σ ∧ RepS X.K cl H ρ st ∧ PostS X.K cl H ρ (whlD (evalE C c) (execs C sb) m η st) W, ⟨LAPS, ρ, η, st, re, rs, h⟩, ?_⟩
    rintro m σ H ⟨ρ, η, st, re, rs, h⟩
    cases m with
    | zero => simp only [whlD] at h; exact h.elim
    | succ m =>
      simp only [whlD] at h
      refine TD.testS (f := fun k st1 => if k = true then ((execs C sb η st1).bind fun fl st2 => match fl with
        | .nx η2 => whlD (evalE C c) (execs C sb) m η2 st2
        | .ct η2 => whlD (evalE C c) (execs C sb) m η2 st2
        | .bk η2 => .ok (.nx η2) st2
        | .rt d => .ok (.rt d) st2) else .ok (.nx η) st1) re rs h (fun d st => by cases d with | bl k => (cases k <;> exact .inl ⟨_, rfl, rfl⟩) | _ => exact .inr rfl) fun k H1 st1 ρ1 s1 re1 rs1 h1 => ?_
      cases k with
      | false => rw [if_neg Bool.false_ne_true] at h1 ⊢; exact h1 H1 ρ1 σ .refl rs1 re1
      | true =>
        rw [if_pos rfl] at h1 ⊢
        refine ⟨fun σ H => ∃ ρ η st, REnv X.K cl H ρ η σ ∧ RepS X.K cl H ρ st ∧ PostS X.K cl H ρ (whlD (evalE C c) (execs C sb) m η st) W, fun σ' H' q => ⟨m, Nat.lt_succ_self m, q⟩, ρ1, η, st1, re1, rs1, ?_⟩
        cases e : execs C sb η st1 with
        | bad => rw [e] at h1; exact h1.elim
        | exc c fs st2 => rw [e] at h1; exact h1
        | ok fl st2 =>
          rw [e] at h1
          simp only [ok_bind] at h1
          cases fl with
          | nx η2 => exact fun H' ρ' σ' s2 rs2 re2 => ⟨ρ', η2, st2, re2, rs2, PostS.step h1 s2⟩
          | ct η2 => exact fun H' ρ' σ' s2 rs2 re2 => ⟨ρ', η2, st2, re2, rs2, PostS.step h1 s2⟩
          | bk η2 => exact h1
          | rt d => exact h1
theorem s_for {t : Tgt} {it : Ex} {tgp : Expr} {tb : List Stmt} {sb : List Sx} (hx : X.xe = fun _ _ => False) (hc : X.calm = true) (hs : setNo p = true) (hi : PI X tgp p (TI1 X cl (evalI C it))) (hg : PG X tgp (TG1 X cl t)) (hb : PSs X tb (TS1 X cl (execs C sb))) :
    PS X (.For tgp p tb [] pos) (TS1 X cl (execS C (.for_ t it sb))) :=
  psImp (ps_for (by rw [hx]; exact PassesOwn.never) hc hi hg hb (fold_no hs)) fun W σ H ⟨ρ, η, st, re, rs, h⟩ => by
    simp only [execS] at h
    have hI : ∀ p st1, evalI C it η st = .ok p st1 → guardOk st1 p.2 = true := fun p st1 e => evalI_guard e
    generalize hev : evalI C it = ev at h hI ⊢
    refine ⟨ρ, η, st, re, rs, ?_⟩
    cases e0 : ev η st with
    | bad => rw [e0] at h; exact h.elim
    | exc c fs st1 => rw [e0] at h; exact h
    | ok p st1 =>
    have g1 := hI p st1 e0
    rw [e0] at h
    simp only [ok_bind] at h
    intro H1 ρ1 J s1 rs1 w
    obtain ⟨ds, gs⟩ := p
    have h : PostS X.K cl H ρ (forD t (execs C sb) gs ds η st1) W := h
    let Wx : Nat → L2.St → Hp → Prop := fun i σ' H' => i ≤ ds.length ∧ ∃ ρ' η' st', Step H1 ρ1 H' ρ' ∧ REnv X.K cl H' ρ' η' σ' ∧ RepS X.K cl H' ρ' st' ∧ guardOk st' gs = true ∧ PostS X.K cl H ρ (forD t (execs C sb) gs (ds.drop i) η' st') W
    refine ⟨fun i m σ' H' => m = ds.length - i ∧ Wx i σ' H', ⟨ds.length, rfl, Nat.zero_le _, ρ1, η, st1, .refl, re.mono s1, rs1, g1, by rw [List.drop_zero]; exact h⟩, ?_⟩
    rintro i m σ' H' ⟨rfl, hi, ρ', η', st', sp, re', rs', g, hp⟩
    by_cases hlt : i < ds.length
    · right
      refine ⟨w.go i H' ρ' st' sp.ext rs' g hlt, Wx (i + 1), fun σ2 H2 q => ⟨_, by omega, rfl, q⟩, fun x H2 y => ?_⟩
      obtain ⟨ρ2, s2, rs2, rd⟩ := w.yld i H' ρ' st' x H2 sp.ext rs' g y
      have hd : ds[i]? = some ds[i] := by simp [hlt]
      have rd := rd _ hd
      rw [List.drop_eq_getElem_cons hlt] at hp
      simp only [forD] at hp
      cases hb : bindT t ds[i] η' with
      | none => rw [hb] at hp; exact hp.elim
      | some η1 =>
        rw [hb] at hp
        simp only at hp
        refine ⟨ρ2, η', ds[i], η1, re'.mono s2, rd, hb, fun σ3 re3 _ => ⟨ρ2, η1, st', re3, rs2, ?_⟩⟩
        have sb2 : Step H ρ H2 ρ2 := (s1.trans sp).trans s2
        cases e : execs C sb η1 st' with
        | bad => rw [e] at hp; exact hp.elim
        | exc c fs st2 => rw [e] at hp; exact PostS.step hp sb2
        | ok fl st2 =>
          rw [e] at hp
          simp only [ok_bind] at hp
          cases fl with
          | nx η2 =>
            intro H3 ρ3 σ4 s3 rs3 re4
            by_cases g3 : guardOk st2 gs = true
            · simp only at hp
              rw [if_pos g3] at hp
              exact ⟨hlt, ρ3, η2, st2, (sp.trans s2).trans s3, re4, rs3, g3, hp⟩
            · simp only at hp
              rw [if_neg g3] at hp
              exact hp.elim
          | ct η2 =>
            intro H3 ρ3 σ4 s3 rs3 re4
            by_cases g3 : guardOk st2 gs = true
            · simp only at hp
              rw [if_pos g3] at hp
              exact ⟨hlt, ρ3, η2, st2, (sp.trans s2).trans s3, re4, rs3, g3, hp⟩
            · simp only at hp
              rw [if_neg g3] at hp
              exact hp.elim
          | bk η2 => exact PostS.step hp sb2
          | rt d => exact PostS.step hp sb2
    · left
      have ei : i = ds.length := by omega
      subst ei
      refine ⟨w.stop H' ρ' st' sp.ext rs' g, ?_⟩
      rw [List.drop_length] at hp
      simp only [forD] at hp
      exact hp H' ρ' σ' (s1.trans sp) rs' re'
theorem blk_fn {env : PySem.Env} (h : env.scope.kind = .function) : (env.blockKind != .function) = false := by
  unfold PySem.Env.blockKind
  rw [h]
  rfl
theorem swap_two {env : PySem.Env} {x y : Str} {px py pt pt2 : Pos} {kt k2 : Nat} (hk : env.scope.kind = .function) (hx : env.scope.names.lookup x = some .local) (hy : env.scope.names.lookup y = some .local) (hl : (py.line == px.line) = true) (hne : x ≠ y)
    (hs : isStarP p = false) (hq : isStarP q = false) (hf : [p, q].all (foldedForSure 8) = false) (hc : [p, q].all (constantsAlone 8) = false) :
    swappedStores [.Tuple [.Name x px, .Name y py] kt pt] (.Tuple [p, q] k2 pt2) env = pure (some [x, y]) := by
  have kx : env.kindOf x = some .local := hx
  have kindY : env.kindOf y = some .local := hy
  have st : ([p, q].any fun | .Starred .. => true | _ => false) = false := by
    have e : ∀ {z : Expr}, isStarP z = false → (match z with | .Starred .. => true | _ => false) = false := fun {z} h => by cases z <;> first | rfl | simp [isStarP] at h
    simp only [List.any_cons, List.any_nil, Bool.or_false]
    rw [Bool.or_eq_false_iff]
    exact ⟨e hs, e hq⟩
  have ed : ([x, y].eraseDups.length != [x, y].length) = false := by
    have : (y == x) = false := by
      rw [beq_eq_false_iff_ne]
      exact fun e => hne e.symm
    simp [List.eraseDups_cons, this]
  unfold swappedStores
  simp only [pure_bind, blk_fn hk, List.length_cons, List.length_nil, st, hf, hc, kx, kindY, Expr.pos, List.head?_cons, Option.map_some, Option.getD_some, List.filterMap_cons, List.filterMap_nil, beq_self_eq_true, Bool.true_and, hl, if_true]
  have ed2 : [x, y].eraseDups.length = 2 := by
    have := bne_eq_false_iff_eq.mp ed
    exact this
  simp [ed2]
  rintro (h | h)
  · exfalso
    cases p <;> simp [isStarP] at hs h
  · exfalso
    cases q <;> simp [isStarP] at hq h
theorem swap_none {env : PySem.Env} {x y : Str} {px py pt pt2 : Pos} {kt k2 : Nat} (h : env.scope.names.lookup x ≠ some .local ∨ env.scope.names.lookup y ≠ some .local) (hs : isStarP p = false) (hq : isStarP q = false) :
    swappedStores [.Tuple [.Name x px, .Name y py] kt pt] (.Tuple [p, q] k2 pt2) env = pure none := by
  have st : ([p, q].any fun | .Starred .. => true | _ => false) = false := by
    have e : ∀ {z : Expr}, isStarP z = false → (match z with | .Starred .. => true | _ => false) = false := fun {z} h => by cases z <;> first | rfl | simp [isStarP] at h
    simp only [List.any_cons, List.any_nil, Bool.or_false]
    rw [Bool.or_eq_false_iff]
    exact ⟨e hs, e hq⟩
  have kx : (env.kindOf x == some .local) = false ∨ (env.kindOf y == some .local) = false := h.imp (fun h => by rw [beq_eq_false_iff_ne]; exact h) fun h => by rw [beq_eq_false_iff_ne]; exact h
  unfold swappedStores
  simp only [pure_bind, List.length_cons, List.length_nil, st, Expr.pos, List.head?_cons, Option.map_some, Option.getD_some, List.filterMap_cons, List.filterMap_nil]
  rcases kx with k | k
  · simp only [k, Bool.false_and]
    obtain ⟨bb, hb⟩ : ∃ bb, (env.kindOf y == some .local && py.line == px.line) = bb := ⟨_, rfl⟩
    simp only [hb]
    cases bb <;> simp
  · simp only [k, Bool.false_and]
    obtain ⟨bb, hb⟩ : ∃ bb, (env.kindOf x == some .local && px.line == px.line) = bb := ⟨_, rfl⟩
    simp only [hb]
    cases bb <;> simp
/-- a, b = x, y where the one or the other is captured: by way of the pair -/
theorem s_par3 {i j : Nat} {x y : Str} {px py pt pt2 : Pos} {kt k2 : Nat} (hc : X.calm = true) (hN : X.N.Nodup) (hi : X.N[i]? = some x) (hj : X.N[j]? = some y)
    (hx : Loc X.env.scope x) (hy : Loc X.env.scope y) (fx : X.fn x = true ∨ X.env.scope.names.lookup x = some .local) (fy : X.fn y = true ∨ X.env.scope.names.lookup y = some .local)
    (hw : swappedStores [.Tuple [.Name x px, .Name y py] kt pt] (.Tuple [p, q] k2 pt2) X.env = pure none)
    (hs : isStarP p = false) (hq : isStarP q = false) (ha : PE X p (TE1 X cl (evalE C a))) (hb : PE X q (TE1 X cl (evalE C b))) (ea : isStar a = false) (eb : isStar b = false) :
    PS X (.Assign [.Tuple [.Name x px, .Name y py] kt pt] (.Tuple [p, q] k2 pt2) pos) (TS1 X cl (execS C (.par [i, j] [a, b]))) :=
  psImp (ps_asg (pe_tup (a_cons hs ea ha (a_cons hq eb hb a_nil))) (pg_tup hc (pgs_cons (pg_name hN hi hx fx) (pgs_cons (pg_name hN hj hy fy) pgs_nil))) (by rw [swapsWithSole]; rfl) hw (by simp only [assignEach]; rfl)) fun W σ H ⟨ρ, η, st, re, rs, h⟩ => by
    simp only [execS] at h
    refine TD.seqS re rs h fun vs H1 ds st1 ρ1 s1 re1 rs1 r1 h1 => ?_
    match ds, r1, h1 with
    | [d, e], r1, h1 =>
      obtain ⟨v, w, rfl, r2, r3⟩ := r1.two
      simp only [setEs] at h1
      refine ⟨by simp [sizeLine], fun t hn => ⟨t, [v, w], rfl, .inl (.inl (upd_same ..)), rfl, v, [w], rfl, w, [], rfl, rfl, ?_⟩⟩
      have sm := same_new (o := HO.tup [v, w]) hn
      exact h1 _ ρ1 _ (Step.same sm) (rs1.same sm) (((re1.mono (Step.same sm)).set i (r2.mono (Step.same sm) d)).set j (r3.mono (Step.same sm) e))
    | [], _, h1 => simp only [setEs] at h1; exact h1.elim
    | [_], _, h1 => simp only [setEs] at h1; exact h1.elim
    | _ :: _ :: _ :: _, _, h1 => simp only [setEs] at h1; exact h1.elim
theorem s_par2 {i j : Nat} {x y : Str} {px py pt pt2 : Pos} {kt k2 : Nat} (hc : X.calm = true) (hN : X.N.Nodup) (hi : X.N[i]? = some x) (hj : X.N[j]? = some y) (hij : i ≠ j)
    (hx : X.env.scope.names.lookup x = some .local) (hy : X.env.scope.names.lookup y = some .local) (hw : swappedStores [.Tuple [.Name x px, .Name y py] kt pt] (.Tuple [p, q] k2 pt2) X.env = pure (some [x, y]))
    (hs : isStarP p = false) (hq : isStarP q = false) (ha : PE X p (TE1 X cl (evalE C a))) (hb : PE X q (TE1 X cl (evalE C b))) (ea : isStar a = false) (eb : isStar b = false) :
    PS X (.Assign [.Tuple [.Name x px, .Name y py] kt pt] (.Tuple [p, q] k2 pt2) pos) (TS1 X cl (execS C (.par [i, j] [a, b]))) :=
  psImp (ps_par hc hN hi hj hij hx hy (a_cons hs ea ha (a_cons hq eb hb a_nil)) hw (by rw [swapsWithSole]; rfl)) fun W σ H ⟨ρ, η, st, re, rs, h⟩ => by
    simp only [execS] at h
    refine TD.seqS re rs h fun vs H1 ds st1 ρ1 s1 re1 rs1 r1 h1 => ?_
    match ds, r1, h1 with
    | [d, e], r1, h1 =>
      obtain ⟨v, w, rfl, r2, r3⟩ := r1.two
      simp only [setEs] at h1
      exact ⟨v, w, rfl, h1 H1 ρ1 _ .refl rs1 ((re1.set i r2).set j r3)⟩
    | [], _, h1 => simp only [setEs] at h1; exact h1.elim
    | [_], _, h1 => simp only [setEs] at h1; exact h1.elim
    | _ :: _ :: _ :: _, _, h1 => simp only [setEs] at h1; exact h1.elim
end
end Dv
namespace Dv
open PySem L2 PyProof.Rows
theorem enum_made {v : Value} {o : Obj} {B0 : Heap → Prop} (B : Begins v o B0) :
    Meets (Builtin.«enumerate.__new__» ⟨[.type "enumerate", v], []⟩) (fun _ R s => B0 s.heap ∧
      R (.ok (.ret (.ref (s.heap.push o).objs.size))) { s with heap := (s.heap.push o).push { cls := .type "enumerate", data := .fields #[.none, .bool false, .ref s.heap.objs.size, rawInt 0, .none, .none] } }) := by
  (refine .of_wp fun prog w A R s h => ?_)
  (obtain ⟨hp, g, d, tk, os⟩ := s)
  obtain ⟨b0, h⟩ := h
  have sub := sub_enumerate
  have it : ∀ {A' : Around} {E' : Value → Shared → Prop} {Q' : Value → Shared → Prop}, Q' (.ref hp.objs.size) ⟨hp.push o, g, d, tk, os⟩ → wpAny (model prog w) A' (pyIter v) Q' E' ⟨hp, g, d, tk, os⟩ := fun q => B.iter prog w _ _ ⟨hp, g, d, tk, os⟩ _ b0 q
  wp_walk using it
  (refine wpAny_stack_any fun st => wpAny_pure ?_)
  split
  · rename_i c _ _ _ _ _
    cases (c == Value.type "enumerate") <;> (wp_walk using it; exact ⟨_, rfl, h⟩)
  · wp_walk using it
    exact ⟨_, rfl, h⟩
section
variable {w : World} {prog : Program} {A : Around} {s : Shared} {E : Value → Shared → Prop}
theorem enum_tuple {a : Addr} {xs : Array Value} {Q : Value → Shared → Prop} (ht : s.heap.IsTuple a xs)
    (h : ∀ h', IsEnum h' (s.heap.objs.size + 1) s.heap.objs.size 0 .none → h'.IsTupleIter s.heap.objs.size a 0 → (∀ b o, s.heap.get? b = some o → h'.get? b = some o) → Q (.ref (s.heap.objs.size + 1)) { s with heap := h' }) :
    wpAny (model prog w) A (call (.type "enumerate") [.ref a]) Q E s := by
  refine callType_new F.called_enumerate (by decide) (F.typeCall_enumerate_1 _) (F.newCall_enumerate_1 _) (fun obj => F.args_object_init_2 obj _) F.entry_enumerate_new (enum_made (begins_tuple a xs)) ⟨ht, ?_⟩
  have z1 : (s.heap.push { cls := .type "tuple_iterator", data := .fields #[.ref a, .int 0 0] }).objs.size = s.heap.objs.size + 1 := Heap.size_push ..
  have e1 := Heap.get?_push_size (s.heap.push { cls := .type "tuple_iterator", data := .fields #[.ref a, .int 0 0] }) (o := { cls := .type "enumerate", data := .fields #[.none, .bool false, .ref s.heap.objs.size, rawInt 0, .none, .none] }) rfl
  rw [z1] at e1
  show _ ∧ _
  rw [z1]
  exact ⟨⟨_, e1, rfl⟩, h _ e1 ⟨_, Heap.get?_push_of_some _ (Heap.get?_push_size _ rfl), rfl, rfl⟩ fun b o x => Heap.get?_push_of_some _ (Heap.get?_push_of_some _ x)⟩
end
/-- the tuple at a as it stands at each turn, each item in a new pair -/
def IteT (K : PySem.W.Frag) (a : Addr) : It :=
  ⟨fun i H => ∃ (xs : List V) (x : V), SqT K H a xs ∧ xs[i]? = some x,
   fun i H v H' => ∃ T x, v = .ref T ∧ H T = none ∧ H' = upd H T (.tup [.int (i : Nat), x]) ∧ ∀ xs, SqT K H a xs → xs[i]? = some x,
   fun i H => ∃ xs : List V, SqT K H a xs ∧ xs.length = i⟩
theorem apart_cls {h : Heap} {a b : Addr} {o p : Obj} (ha : h.get? a = some o) (hb : h.get? b = some p) (n : o.cls ≠ p.cls) : a ≠ b := fun e => by
  subst e
  rw [ha] at hb
  cases hb
  exact n rfl
theorem ty_ne {a b : String} (h : a ≠ b) : Value.type a ≠ Value.type b := fun z => by
  injection z with z
  exact h z
theorem turn_enumT {P : Program} {w : World} {K : PySem.W.Frag} {elts : List Expr} {kk : Nat} {tpos : Pos} (a e it : Addr) :
    Turn P w K (.Tuple elts kk tpos) (IteT K a) [e, it] e (fun i h => (∃ old, IsEnum h e it ((i : Nat) : Int) old) ∧ h.IsTupleIter it a i ∧ e ≠ it) where
  mem := List.mem_cons_self ..
  obj := by
    rintro i h ⟨⟨old, he⟩, ⟨o, ho, _, hd⟩, _⟩ b hb
    (rcases List.mem_cons.mp hb with rfl | hb)
    · exact ⟨_, he, fun v z => nomatch z⟩
    · (rw [List.mem_singleton.mp hb])
      exact ⟨o, ho, fun v z => by rw [hd] at z; cases z⟩
  keep := by
    rintro i h h' ⟨⟨old, he⟩, hi, ne⟩ k
    exact ⟨⟨old, k e (List.mem_cons_self ..) _ he⟩, hi.at fun o q => k it (List.mem_cons_of_mem _ (List.mem_singleton.mpr rfl)) o q, ne⟩
  item := by
    intro X eP ew eK hc i pins s σ H E I hf st hg
    subst eP ew eK
    obtain ⟨⟨old, he⟩, hit, ne⟩ := st
    obtain ⟨xs, x, hq, hx⟩ := hg
    obtain ⟨its, rv, p, _⟩ := I.tuple hq
    have p : s.heap.IsTuple a its.toArray := p
    (obtain ⟨u, hu, ru⟩ := rv.get hx)
    obtain ⟨oa, ha, ca, _⟩ := id p
    obtain ⟨oi, hoi, ci, _⟩ := id hit
    have n1 : a ≠ it := apart_cls ha hoi (by rw [ca, ci]; exact ty_ne (by decide))
    have n2 : e ≠ a := apart_cls he ha (by rw [ca]; exact ty_ne (by decide))
    have W := GoesN.enumFrom (elts := elts) (x1 := kk) (pos := tpos) 0 (Draws.tuple (prog := X.prog) (w := X.w) (A := X.A.in1) (by simp [I.ok.hd hc]) it a n1 its.toArray) e ne (by simp [ne, n2]) (List.mem_cons_self ..)
    have hlt : i < its.toArray.size := by
      rw [List.size_toArray]
      exact (List.getElem?_eq_some_iff.mp hu).1
    have z0 : (0 : Int) + (i : Int) = i := Int.zero_add _
    refine W.goes i s (fun v s2 => ∃ x H', L2.Inv X pins σ H' s2 ∧ L2.RelV x v ∧ (IteT X.K a).yld i H x H' ∧ ((∃ old, IsEnum s2.heap e it (((i + 1 : Nat) : Nat) : Int) old) ∧ s2.heap.IsTupleIter it a (i + 1) ∧ e ≠ it) ∧ ∀ b ∈ [e, it], H' b = none) E hlt ⟨⟨old, by rw [z0]; exact he⟩, hit, p⟩ fun v h' tk y st' hk htk => ?_
    obtain ⟨T, t, y, rfl, hT, hy, ⟨oT, gT, cT, nT, dT⟩⟩ := y
    obtain ⟨⟨old', he'⟩, hit', _⟩ := st'
    have eu : y = u := by
      have hy : its.toArray[i]? = some y := hy
      have : its[i]? = some y := by simpa using hy
      rw [hu] at this
      (exact (Option.some.inj this).symm)
    subst eu
    rw [z0] at dT
    (have hn : H T = none := I.hok.fresh hT)
    have new : ObjOk X.prog X.w (upd H T (.tup [.int (i : Nat), x])) h' T (.tup [.int (i : Nat), x]) := ⟨by show 2 ≤ sizeLine; decide, [.int i t, y], .cons ⟨_, rfl⟩ (.cons ru .nil), ⟨oT, gT, cT, nT, dT⟩⟩
    have J : L2.Inv X pins σ (upd H T (.tup [.int (i : Nat), x])) { s with heap := h', toks := tk } := I.turnedNew (ch := [e, it]) (fun b o hb q => hk b o hb q) hf hT new
    refine ⟨.ref T, _, J, rfl, ⟨T, x, rfl, hn, rfl, fun ys hy => by rw [I.tuple_inj hy hq]; exact hx⟩, ⟨⟨old', ?_⟩, hit', ne⟩, fun b hb => ?_⟩
    · have : (0 : Int) + ((i + 1 : Nat) : Int) = ((i + 1 : Nat) : Int) := Int.zero_add _
      rwa [this] at he'
    · have hbl : b < s.heap.objs.size := by
        (rcases List.mem_cons.mp hb with rfl | hb)
        · exact Heap.lt_size he
        · (rw [List.mem_singleton.mp hb])
          exact Heap.lt_size hoi
      rw [upd_ne (Nat.ne_of_lt (Nat.lt_of_lt_of_le hbl hT))]
      exact (hf b hb).1
  done := by
    intro X eP ew eK hc i pins s σ H E I hf st hg
    subst eP ew eK
    obtain ⟨⟨old, he⟩, hit, ne⟩ := st
    obtain ⟨xs, hq, hx⟩ := hg
    obtain ⟨its, rv, p, _⟩ := I.tuple hq
    have p : s.heap.IsTuple a its.toArray := p
    have hl := rv.length
    obtain ⟨oa, ha, ca, _⟩ := id p
    obtain ⟨oi, hoi, ci, _⟩ := id hit
    have n1 : a ≠ it := apart_cls ha hoi (by rw [ca, ci]; exact ty_ne (by decide))
    have D := Draws.tuple (prog := X.prog) (w := X.w) (A := X.A.in1) (by simp [I.ok.hd hc]) it a n1 its.toArray
    have hi : i = its.toArray.size := by
      rw [List.size_toArray]
      omega
    subst hi
    exact wpAny_pyNext_enum_endD D he ⟨hit, p⟩ fun h' x => ⟨rfl, I.turnedL (t' := s.toks) (fun b o hb q => x b o (fun z => hb (by rw [z]; exact List.mem_cons_of_mem _ (List.mem_singleton.mpr rfl))) q) hf⟩
  self := fun A i s Q E st q => wpAny_pyIter_enum st.1.choose_spec q
/-- enumerate(tuple) -/
def iEnumT (K : PySem.W.Frag) (ta : TA) : TI := fun σ H R => ta σ H fun vs H1 => ∃ a xs, vs = [.ref a] ∧ SqT K H1 a xs ∧ R (IteT K a) H1
set_option maxHeartbeats 2001100 in
theorem pi_enumT {X : Cx} {e : Expr} {ta : TA} {p pos tpos : Pos} {elts : List Expr} {kk : Nat} (hg : Gl X "enumerate") (hm : X.mg "enumerate" = none) (ha : PA X [e] ta) (hs : starEach [e] X.env = [(false, eval e X.env)] := by rfl) :
    PI X (.Tuple elts kk tpos) (.Call (.Name "enumerate" p) [e] [] pos) (iEnumT X.K ta) := by
  (refine ⟨fun pins s σ H R I h => ?_⟩)
  refine Call_ (ld_blt I hg hm boot_enumerate (callWith_type1 (thn (ha.run pos pins s σ H _ I h) fun us s1 ⟨vs, H1, I1, r1, q1⟩ => ?_) hs rfl))
  obtain ⟨a, xs, rfl, hq, q⟩ := q1
  cases r1 with
  | cons r rr =>
    cases rr
    cases r
    obtain ⟨its, rv, p', _⟩ := I1.tuple hq
    refine enum_tuple (show s1.heap.IsTuple a its.toArray from p') fun h' he hit hk => wpAny_pyIter_enum he ?_
    have I2 : L2.Inv X pins σ H1 { s1 with heap := h' } := I1.kept (t' := s1.toks) hk
    refine ⟨s1.heap.objs.size + 1, [s1.heap.objs.size + 1, s1.heap.objs.size], _, _, H1, rfl, I2, turn_enumT a (s1.heap.objs.size + 1) s1.heap.objs.size, ⟨⟨.none, he⟩, hit, Nat.succ_ne_self _⟩, fun b hb => ?_, q⟩
    have old_le : s1.heap.objs.size ≤ b := by
      (rcases List.mem_cons.mp hb with rfl | hb)
      · exact Nat.le_succ _
      · rw [List.mem_singleton.mp hb]; exact Nat.le_refl _
    exact I1.fpOk old_le (I1.hok.fresh old_le)
end Dv
namespace Dv
open PySem L2
section
variable {K : PySem.W.Frag} {cl : Nat → Addr} {H0 : Hp} {ρ0 : Rho} {st0 : Sto}
theorem walk_eT {ds : List D} {a : Addr} (q : Rel K cl H0 ρ0 (.tup ds) (.ref a)) : WalkD K cl H0 ρ0 (enumL 0 ds, []) (IteT K a) := by
  obtain ⟨b, vs, e, k0, rr0⟩ := q
  cases e
  refine ⟨fun i H ρ st s r g hi => ?_, fun i H ρ st x H' s r g y => ?_, fun H ρ st s r g => ?_⟩
  · have hi : i < vs.length := by rw [← rr0.length]; rw [enumL_len] at hi; exact hi
    exact ⟨vs, vs[i], s.sqT _ _ k0, by simp [hi]⟩
  · obtain ⟨T, z, rfl, hT, rfl, f⟩ := y
    refine ⟨ρ, Step.same (same_new hT), r.same (same_new hT), fun d hd => ?_⟩
    rw [enumL_get] at hd
    obtain ⟨e, h1, rfl⟩ := map_some hd
    obtain ⟨v, h2, h3⟩ := rr0.get h1
    rw [f vs (s.sqT _ _ k0)] at h2
    cases h2
    rw [Nat.zero_add]
    exact rel_newT hT ⟨_, _, rfl, rfl, z, [], rfl, h3.ext s e, rfl⟩
  · exact ⟨vs, s.sqT _ _ k0, by rw [enumL_len, ← rr0.length]⟩
theorem zip2_get {xs ys : List D} {i : Nat} {d : D} (h : (zipL [xs, ys])[i]? = some d) : ∃ x y, xs[i]? = some x ∧ ys[i]? = some y ∧ d = .tup [x, y] := by
  show ∃ x y, _
  have h : ((xs.zip ys).map fun p => D.tup [p.1, p.2])[i]? = some d := h
  rw [List.getElem?_map] at h
  obtain ⟨p, h1, rfl⟩ := map_some h
  obtain ⟨h2, h3⟩ := List.getElem?_zip_eq_some.mp h1
  exact ⟨p.1, p.2, h2, h3, rfl⟩
theorem zip2_len {xs ys : List D} : (zipL [xs, ys]).length = min xs.length ys.length := by
  show ((xs.zip ys).map fun p => D.tup [p.1, p.2]).length = _
  rw [List.length_map, List.length_zip]
theorem guard_two {st : Sto} {g1 g2 : Guards} (h : guardOk st (g1 ++ g2) = true) : guardOk st g1 = true ∧ guardOk st g2 = true := by
  unfold guardOk at h ⊢
  rw [List.all_append, Bool.and_eq_true] at h
  exact h
theorem at_l (r0 : RepS K cl H0 ρ0 st0) {d : D} {a : Addr} {ds : List D} (hd : lstOf st0 d = some ds) (q : Rel K cl H0 ρ0 d (.ref a)) {H : Hp} {ρ : Rho} {st : Sto} (s : Ext K H0 ρ0 H ρ) (r : RepS K cl H ρ st) (g : guardOk st (guardOf st0 d) = true) : ∃ vs, SqL K H a vs ∧ Rels K cl H ρ ds vs := by
  obtain ⟨h1, h2⟩ := lst_seq hd
  obtain ⟨vs, k, rr⟩ := seq_at r0 h1 q s r g
  cases d with
  | tup xs => exact absurd rfl (h2 xs)
  | _ => exact ⟨vs, k, rr⟩
theorem walk_zL (r0 : RepS K cl H0 ρ0 st0) {d e : D} {a b : Addr} {xs ys : List D} (hd : lstOf st0 d = some xs) (he : lstOf st0 e = some ys) (q : Rel K cl H0 ρ0 d (.ref a)) (p : Rel K cl H0 ρ0 e (.ref b)) : WalkD K cl H0 ρ0 (zipL [xs, ys], guardOf st0 d ++ guardOf st0 e) (Itz K a b) := by
  refine ⟨fun i H ρ st s r g hi => ?_, fun i H ρ st x H' s r g y => ?_, fun H ρ st s r g => ?_⟩
  · obtain ⟨g1, g2⟩ := guard_two g
    obtain ⟨vs, k1, r1⟩ := at_l r0 hd q s r g1
    obtain ⟨us, k2, r2⟩ := at_l r0 he p s r g2
    have hi : i < (zipL [xs, ys]).length := hi
    rw [zip2_len] at hi
    have h1 : i < vs.length := by rw [← r1.length]; omega
    have h2 : i < us.length := by rw [← r2.length]; omega
    exact ⟨vs, us, vs[i], us[i], k1, k2, by simp [h1], by simp [h2]⟩
  · obtain ⟨T, u, v, rfl, hT, rfl, f1, f2⟩ := y
    obtain ⟨g1, g2⟩ := guard_two g
    obtain ⟨vs, k1, r1⟩ := at_l r0 hd q s r g1
    obtain ⟨us, k2, r2⟩ := at_l r0 he p s r g2
    refine ⟨ρ, Step.same (same_new hT), r.same (same_new hT), fun d hd => ?_⟩
    obtain ⟨x, y, h1, h2, rfl⟩ := zip2_get hd
    obtain ⟨u', e1, q1⟩ := r1.get h1
    obtain ⟨v', e2, q2⟩ := r2.get h2
    rw [f1 vs k1] at e1
    rw [f2 us k2] at e2
    cases e1
    cases e2
    exact rel_newT hT ⟨_, _, rfl, q1, _, _, rfl, q2, rfl⟩
  · obtain ⟨g1, g2⟩ := guard_two g
    obtain ⟨vs, k1, r1⟩ := at_l r0 hd q s r g1
    obtain ⟨us, k2, r2⟩ := at_l r0 he p s r g2
    have e : (zipL [xs, ys]).length = min xs.length ys.length := zip2_len
    refine ⟨vs, us, k1, k2, ?_⟩
    show vs.length ≤ (zipL [xs, ys]).length ∨ us.length ≤ (zipL [xs, ys]).length
    rw [e, ← r1.length, ← r2.length]
    omega
theorem walk_zT {xs ys : List D} {a b : Addr} (q : Rel K cl H0 ρ0 (.tup xs) (.ref a)) (p : Rel K cl H0 ρ0 (.tup ys) (.ref b)) : WalkD K cl H0 ρ0 (zipL [xs, ys], []) (RZ.ItzT K a b) := by
  obtain ⟨_, vs, e, k1, r1⟩ := q
  cases e
  obtain ⟨_, us, e, k2, r2⟩ := p
  cases e
  refine ⟨fun i H ρ st s r g hi => ?_, fun i H ρ st x H' s r g y => ?_, fun H ρ st s r g => ?_⟩
  · have hi : i < (zipL [xs, ys]).length := hi
    rw [zip2_len] at hi
    have h1 : i < vs.length := by rw [← r1.length]; omega
    have h2 : i < us.length := by rw [← r2.length]; omega
    exact ⟨vs, us, vs[i], us[i], s.sqT _ _ k1, s.sqT _ _ k2, by simp [h1], by simp [h2]⟩
  · obtain ⟨T, u, v, rfl, hT, rfl, f1, f2⟩ := y
    refine ⟨ρ, Step.same (same_new hT), r.same (same_new hT), fun d hd => ?_⟩
    obtain ⟨x, y, h1, h2, rfl⟩ := zip2_get hd
    obtain ⟨u', e1, q1⟩ := r1.get h1
    obtain ⟨v', e2, q2⟩ := r2.get h2
    rw [f1 vs (s.sqT _ _ k1)] at e1
    rw [f2 us (s.sqT _ _ k2)] at e2
    cases e1
    cases e2
    exact rel_newT hT ⟨_, _, rfl, q1.ext s x, _, _, rfl, q2.ext s y, rfl⟩
  · have e : (zipL [xs, ys]).length = min xs.length ys.length := zip2_len
    refine ⟨vs, us, s.sqT _ _ k1, s.sqT _ _ k2, ?_⟩
    show vs.length ≤ (zipL [xs, ys]).length ∨ us.length ≤ (zipL [xs, ys]).length
    rw [e, ← r1.length, ← r2.length]
    omega
end
section
variable {X : Cx} {cl : Nat → Addr} {C : Cst} {p q : Expr} {a b : Ex} {pos ppos tpos : Pos}
theorem enum_cases {st : Sto} {d : D} {ds : List D} (h : enumOf st d = some ds) : d = .tup ds ∨ lstOf st d = some ds := by
  cases d with
  | tup xs => cases h; exact .inl rfl
  | lst xs => exact .inr h
  | obj n => exact .inr h
  | _ => cases h
theorem i_enum {elts : List Expr} {kk : Nat} (hg : Gl X "enumerate") (hm : X.mg "enumerate" = none) (ha : PE X p (TE1 X cl (evalE C a))) (hs : isStarP p = false) : PI X (.Tuple elts kk tpos) (.Call (.Name "enumerate" ppos) [p] [] pos) (TI1 X cl (evalI C (.enum a))) := by
  have hl := pi_enum (tpos := tpos) (elts := elts) (kk := kk) (p := ppos) (pos := pos) hg hm (pa_cons ha pa_nil (star_no hs)) (star1 hs)
  have ht := pi_enumT (tpos := tpos) (elts := elts) (kk := kk) (p := ppos) (pos := pos) hg hm (pa_cons ha pa_nil (star_no hs)) (star1 hs)
  refine ⟨fun pins s σ H R I ⟨ρ, η, st, re, rs, h⟩ => ?_⟩
  simp only [evalI] at h
  cases e : evalE C a η st with
  | bad => rw [e] at h; exact h.elim
  | exc c fs st1 =>
    refine hl.run pins s σ H R I ⟨ρ, η, st, re, rs, ?_⟩
    rw [e] at h ⊢
    exact h
  | ok d st1 =>
    rw [e] at h
    have out : ∀ (Q' : V → Hp → Prop), (∀ v H1 ρ1, Step H ρ H1 ρ1 → RepS X.K cl H1 ρ1 st1 → Rel X.K cl H1 ρ1 d v → Q' v H1) → TE1 X cl (evalE C a) σ H Q' := fun Q' k => ⟨ρ, η, st, re, rs, by
      rw [e]
      exact fun H1 ρ1 v s1 r1 q1 => k v H1 ρ1 s1 r1 q1⟩
    simp only [Res.bind] at h
    split at h
    · rename_i ds hds
      rcases enum_cases hds with rfl | hds
      · exact ht.run pins s σ H R I (out _ fun v H1 ρ1 s1 r1 q1 => by
          have q2 := q1
          obtain ⟨l, vs, rfl, k, rr⟩ := q1
          exact ⟨l, vs, rfl, k, h H1 ρ1 _ s1 r1 (walk_eT q2)⟩)
      · exact hl.run pins s σ H R I (out _ fun v H1 ρ1 s1 r1 q1 => by
          obtain ⟨l, vs, rfl, k, rr⟩ := lstOf_rel r1 hds q1
          exact ⟨l, vs, rfl, .inl k, h H1 ρ1 _ s1 r1 (walk_e r1 (lst_seq hds).1 (lst_seq hds).2 q1)⟩)
    · exact h.elim
theorem i_zip {elts : List Expr} {kk : Nat} (hg : Gl X "zip") (hm : X.mg "zip" = none) (ha : PE X p (TE1 X cl (evalE C a))) (hs : isStarP p = false) (hb : PE X q (TE1 X cl (evalE C b))) (hq : isStarP q = false) : PI X (.Tuple elts kk tpos) (.Call (.Name "zip" ppos) [p, q] [] pos) (TI1 X cl (evalI C (.zip [a, b]))) :=
  piImp (RZ.pi_zipA hg hm (pa_cons ha (pa_cons hb pa_nil (star_no hq)) (star_no hs)) (by rw [star_no hs, star1 hq]) (by rw [star1 hq]; rfl)) fun σ H R ⟨ρ, η, st, re, rs, h⟩ => by
    simp only [evalI] at h
    refine TD.seq (E := EF) re rs h fun x H1 d st1 ρ1 s1 re1 rs1 r1 h1 => TD.seq (E := EF) re1 rs1 h1 fun y H2 e st2 ρ2 s2 re2 rs2 r2 h2 => ?_
    split at h2
    · rename_i pr hpr
      have rd := r1.mono s2 d
      unfold bothOf at hpr
      split at hpr
      · rename_i xs ys
        cases hpr
        have rd' := rd
        have r2' := r2
        obtain ⟨l, vs, rfl, k, _⟩ := rd
        obtain ⟨l', us, rfl, k', _⟩ := r2
        exact ⟨l, l', vs, us, rfl, .inr ⟨k, k', h2.here rs2 (walk_zT rd' r2')⟩⟩
      · split at hpr
        · rename_i xs ys e1 e2
          cases hpr
          obtain ⟨l, vs, rfl, k, _⟩ := lstOf_rel rs2 e1 rd
          obtain ⟨l', us, rfl, k', _⟩ := lstOf_rel rs2 e2 r2
          exact ⟨l, l', vs, us, rfl, .inl ⟨.inl k, .inl k', h2.here rs2 (walk_zL rs2 e1 e2 rd r2)⟩⟩
        · cases hpr
    · exact h2.elim
def tyN : Ty → String
  | .int => "int" | .bool => "bool" | .str => "str" | .tup => "tuple" | .lst => "list" | .dct => "dict" | .cls _ => ""
theorem tyx {H : Hp} {ρ : Rho} {st : Sto} {d : D} {v : V} (rs : RepS X.K cl H ρ st) (q : Rel X.K cl H ρ d v) (ok : tyOk st d = true) (t : Ty) (ht : ∀ c, t ≠ .cls c) :
    ∃ T : String, TyX X.K H v (.type T) ∧ kitB T (tyN t) = some (isTy st d t) := by
  have lst : ∀ {a : Addr} {vs : List V}, Rd H a (.lst vs) → TyX X.K H (.ref a) (.type "list") := fun k => by
    rcases k with k | ⟨o, k⟩
    · exact .base (.lst k)
    · exact .base (.frz k)
  have dct : ∀ {a : Addr} {vs : List (Key × V)}, Rd H a (.dK vs) → TyX X.K H (.ref a) (.type "dict") := fun k => by
    rcases k with k | ⟨o, k⟩
    · exact .base (.dK k)
    · exact .fDict k
  cases d with
  | non => cases q; exact ⟨_, .base .non, by cases t <;> first | exact absurd rfl (ht _) | (show _ = some false; decide +kernel)⟩
  | bl b => cases q; exact ⟨_, .base (.bl b), by cases t <;> first | exact absurd rfl (ht _) | (show _ = some true; decide +kernel) | (show _ = some false; decide +kernel)⟩
  | int b => cases q; exact ⟨_, .base (.int b), by cases t <;> first | exact absurd rfl (ht _) | (show _ = some true; decide +kernel) | (show _ = some false; decide +kernel)⟩
  | str b => cases q.1; exact ⟨_, .base (.str b), by cases t <;> first | exact absurd rfl (ht _) | (show _ = some true; decide +kernel) | (show _ = some false; decide +kernel)⟩
  | tup xs =>
    obtain ⟨a, vs, rfl, k, _⟩ := q
    have k : TyX X.K H (.ref a) (.type "tuple") := by
      rcases k with (k | ⟨o, k⟩) | ⟨o, its, n, k, c, _⟩
      · exact .base (.tup k)
      · exact .fTuple k
      · exact .kTuple k c
    exact ⟨_, k, by cases t <;> first | exact absurd rfl (ht _) | (show _ = some true; decide +kernel) | (show _ = some false; decide +kernel)⟩
  | lst xs =>
    obtain ⟨a, vs, rfl, k, _⟩ := q
    exact ⟨_, lst k, by cases t <;> first | exact absurd rfl (ht _) | (show _ = some true; decide +kernel) | (show _ = some false; decide +kernel)⟩
  | dct xs =>
    obtain ⟨a, vs, rfl, k, _⟩ := q
    exact ⟨_, dct k, by cases t <;> first | exact absurd rfl (ht _) | (show _ = some true; decide +kernel) | (show _ = some false; decide +kernel)⟩
  | obj n =>
    simp only [tyOk] at ok
    split at ok
    · rename_i xs e
      obtain ⟨a, vs, rfl, k, _⟩ := lstOf_rel rs (d := .obj n) (ds := xs) (by simp only [lstOf, e]) q
      exact ⟨_, lst k, by cases t <;> simp only [isTy, e] <;> first | exact absurd rfl (ht _) | decide +kernel⟩
    · rename_i xs e
      obtain ⟨a, vs, rfl, k, _⟩ := dctOf_rel rs (d := .obj n) (ds := xs) (by simp only [dctOf, e]) q
      exact ⟨_, dct k, by cases t <;> simp only [isTy, e] <;> first | exact absurd rfl (ht _) | decide +kernel⟩
    · cases ok
  | ins _ _ => cases ok
  | scr _ => cases ok
theorem ty_boot : ∀ t : Ty, (∀ c, t ≠ .cls c) → bootBuiltins (tyN t) = some (.type (tyN t)) ∧ (tyN t : Str) ≠ "__name__" ∧ ((tyN t : Str) == ("__debug__" : Str)) = false := fun t ht => by
  cases t <;> first | exact absurd rfl (ht _) | exact ⟨by decide +kernel, by decide, by decide⟩
theorem n_isi {x : Str} {t : Ty} {tp : Pos} (ht : ∀ c, t ≠ .cls c) (hx : x = tyN t) (hg : Gl X "isinstance") (hm : X.mg "isinstance" = none) (hg2 : Gl X x) (hm2 : X.mg x = none) (ha : PE X p (TE1 X cl (evalE C a))) (hs : isStarP p = false) :
    PE X (.Call (.Name "isinstance" ppos) [p, .Name x tp] [] pos) (TE1 X cl (evalE C (.isi a [t]))) := by
  subst hx
  obtain ⟨b1, b2, b3⟩ := ty_boot t ht
  have hn := pe_bltn (X := X) (x := (tyN t : Str)) (v := .ty (tyN t)) (pos := tp) hg2 hm2 b1 rfl b2 b3
  refine peImp (pe_callB (call_isi (X := X)) hg hm (by decide +kernel) (pa_cons ha (pa_cons hn pa_nil (star_no rfl)) (star_no hs)) (by decide) (by decide) (star_no hs) (star_none (ps := [.Name (tyN t) tp]) rfl)) fun σ H Q ⟨ρ, η, st, re, rs, h⟩ => ?_
  simp only [evalE] at h
  refine TD.seq (E := EF) re rs h fun x H1 d st1 ρ1 s1 re1 rs1 r1 h1 => ?_
  split at h1
  · rename_i ok
    obtain ⟨T, k1, k2⟩ := tyx rs1 r1 ok t ht
    refine ⟨x, .ty (tyN t), .type T, .type (tyN t), isTy st1 d t, rfl, .ty _, k1, kit_ty k2, ?_⟩
    rw [List.any_cons, List.any_nil, Bool.or_false] at h1
    exact h1.here rs1 rfl
  · exact h1.elim
/-- a name of the module's own -/
theorem n_glb {k : Nat} {x : Str} {d : D} {v : V} {u : Value} (hg : Gl X x) (hd : (x == ("__debug__" : Str)) = false) (hm : X.mg x = some u) (r : RelV v u) (hk : C.glbs[k]? = some d) (hr : ∀ H ρ, Rel X.K cl H ρ d v) : PE X (.Name x pos) (TE1 X cl (evalE C (.glb k))) :=
  peImp (pe_glob hg hm r hd) fun σ H Q ⟨ρ, η, st, re, rs, h⟩ => by
    simp only [evalE, hk, ofO] at h
    exact h.here rs (hr H ρ)
end
end Dv
namespace Dv
open PySem L2 PyProof.Rows HT
theorem fm_congr {α β : Type} {f g : α → Option β} : ∀ {l : List α}, (∀ a ∈ l, f a = g a) → l.filterMap f = l.filterMap g
  | [], _ => rfl
  | a :: l, h => by
    rw [List.filterMap_cons, List.filterMap_cons, h a (List.mem_cons_self ..), fm_congr fun b hb => h b (List.mem_cons_of_mem _ hb)]
theorem back_list (its : List Value) : ((List.range its.length).filterMap fun (k : Nat) => its.toArray[((its.length : Int) - 1 + (k : Int) * -1).toNat]?) = its.reverse := by
  have e : ∀ k, k ∈ List.range its.length → its.toArray[((its.length : Int) - 1 + (k : Int) * -1).toNat]? = its.reverse[k]? := fun k hk => by
    have hk := List.mem_range.mp hk
    have : ((its.length : Int) - 1 + (k : Int) * -1).toNat = its.length - 1 - k := by omega
    rw [this, List.getElem?_reverse hk]
    simp
  have all : ∀ l : List Value, ((List.range l.length).filterMap fun k => l[k]?) = l := fun l => by
    induction l with
    | nil => rfl
    | cons v l ih =>
      rw [List.length_cons, List.range_succ_eq_map, List.filterMap_cons, List.filterMap_map]
      show v :: ((List.range l.length).filterMap fun k => (v :: l)[k + 1]?) = _
      congr 1
  rw [fm_congr e]
  have := all its.reverse
  rw [List.length_reverse] at this
  exact this
theorem back_places (n : Nat) : Builtin.Slice.slicePlaces ((n : Int) - 1) (-1) (-1) = n := by
  (unfold Builtin.Slice.slicePlaces)
  rw [if_neg (by decide)]
  split
  · rw [show (n : Int) - 1 - -1 - 1 = (n : Int) - 1 by omega, show -(-1 : Int) = 1 by rfl, Int.ediv_one]
    omega
  · omega
section
variable {w : World} {prog : Program} {A : Around} {s : Shared} {E : Value → Shared → Prop}
theorem sliced_back {sl : Addr} {vs : Value} {n : Nat} {Q : Int × Int × Nat → Shared → Prop} (cut : s.heap.IsSliceOf sl .none .none vs) (pv : IsPart vs (some (-1))) (q : Q ((n : Int) - 1, -1, n) s) : wpAny (model prog w) A (Builtin.Slice.sliceApplied (.ref sl) (pure (n : Int))) Q E s := by
  obtain ⟨o, ho, _, hd⟩ := id cut
  unfold Builtin.Slice.sliceApplied
  unfold Builtin.Slice.sliceFields
  refine wpAny_bind (wpAny_bind (wpAny_field ho hd (x := .none) rfl (wpAny_bind (wpAny_field ho hd (x := .none) rfl (wpAny_bind (wpAny_field ho hd (x := vs) rfl (wpAny_pure ?_)))))))
  refine wpAny_bind (slicePart_ pv ?_)
  show wpAny _ _ (if ((-1 : Int) == 0) = true then _ else _) _ _ s
  rw [if_neg (by decide)]
  refine wpAny_bind (slicePart_none (wpAny_bind (slicePart_none (wpAny_bind (wpAny_pure ?_)))))
  show wpAny _ _ (pure ((n : Int) - 1, (-1 : Int), Builtin.Slice.slicePlaces ((n : Int) - 1) (-1) (-1))) _ _ s
  rw [back_places]
  exact wpAny_pure q
theorem tuple_back {t sl : Addr} {its : List Value} {vs : Value} {Q : Value → Shared → Prop} (tup : IsTup s.heap t its.toArray) (cut : s.heap.IsSliceOf sl .none .none vs) (pv : IsPart vs (some (-1))) (small : its.length ≤ sizeLine)
    (q : Q (.ref s.heap.objs.size) { s with heap := s.heap.push { cls := .type "tuple", data := .seq its.reverse.toArray } }) : wpAny (model prog w) A (getItem (.ref t) (.ref sl)) Q E s := by
  obtain ⟨os, hos, hcs, _⟩ := id cut
  have isSlice : s.TypeIs (.ref sl) "slice" := ⟨os, hos, hcs⟩
  unfold getItem
  (try (with_reducible refine wpAny_holding ?_))
  (try (refine wpAny_bind (wpAny_pure ?_)))
  refine wpAny_bind (wpAny_sequenceKey tup.typeIs (by decide) ?_)
  refine wpAny_bind (wpAny_callSpecial?_slot (name := Str.ofString "__getitem__") tup.typeIs slot_tuple_getitem (wpAny_call_entry slot_tuple_getitem tup.typeIs entry_tuple_getitem ?_ (args_tuple_getitem _ _)))
  (show wpAny _ _ (Builtin.Tuple.tupleItemsOf (.ref t) >>= _) _ _ s)
  refine wpAny_bind (tupleItemsOf_ tup (wpAny_bind (wpAny_typeOf isSlice ?_)))
  rw [if_pos (by decide)]
  have sz : its.toArray.size = its.length := List.size_toArray ..
  rw [sz]
  refine wpAny_bind (sliced_back cut pv ?_)
  show wpAny _ _ (if ((its.length : Int) - 1 == 0 && (-1 : Int) == 1 && its.length == its.length) = true then _ else _) _ _ s
  rw [if_neg (by simp)]
  rw [back_list]
  refine wpAny_bind (m := Builtin.Tuple.tupleExact _) (wpAny_newObj_type ?_ (by show its.reverse.toArray.size ≤ sizeLine; rw [List.size_toArray, List.length_reverse]; exact small))
  exact wpAny_pure ⟨_, rfl, wpAny_pure q⟩
end
section
variable {X : Cx} {cl : Nat → Addr} {C : Cst} {p : Expr} {a : Ex} {pos : Pos}
def tRevT (K : PySem.W.Frag) (te : TE) : TE := fun σ H Q => te σ H fun x H1 => ∃ a xs, x = .ref a ∧ SqT K H1 a xs ∧ ∀ p, H1 p = none → Q (.ref p) (upd H1 p (.tup xs.reverse))
theorem pe_revT {te : TE} {k : Nat} {p1 p2 p3 : Pos} (he : PE X p te) : PE X (.Subscript p (.Slice none none (some (.UnaryOp .USub (.Constant (.int 1) k p1) p2)) p3) pos) (tRevT X.K te) := by
  refine ⟨fun pins s σ H Q I h => Subscript_ (thn (he.run pins s σ H _ I h) fun v s1 ⟨x, H1, I1, r1, a, xs, ex, hx, q⟩ => ?_)⟩
  subst ex
  (obtain rfl : v = Value.ref a := r1)
  have third : PO X (some (.UnaryOp .USub (.Constant (.int 1) k p1) p2)) (tPart (tUn (rU fun i => .int (-i)) (tC (.int 1)))) := po_some (pe_un un_neg pe_int)
  refine wpAny_Slice (thn (po_none.run pins s1 σ H1 (fun o G => o = none ∧ G = H1) I1 ⟨rfl, rfl⟩) fun v1 s2 ⟨o1, G1, J1, u1, e1, g1⟩ => ?_)
  subst e1 g1
  refine thn (po_none.run pins s2 σ G1 (fun o G => o = none ∧ G = G1) J1 ⟨rfl, rfl⟩) fun v2 s3 ⟨o2, G2, J2, u2, e2, g2⟩ => ?_
  subst e2 g2
  refine thn (third.run pins s3 σ G2 (fun o G => o = some (-1) ∧ G = G2) J2 ⟨1, rfl, -1, rfl, rfl, rfl⟩) fun v3 s4 ⟨o3, G3, J3, u3, e3, g3⟩ => ?_
  subst e3 g3
  have J := J3.kept (h' := s4.heap.push { cls := .type "slice", data := .fields #[v1, v2, v3] }) (t' := s4.toks) fun b ob z => Heap.get?_push_of_some _ z
  obtain ⟨its, rv, tup, small⟩ := J.tuple hx
  cases u1
  cases u2
  refine tail_any (ops := [.ref a, .ref s4.heap.objs.size]) tup.typeIs (slot_tuple_getitem.lookup) ?_ (by with_unfolding_all rfl)
  refine tuple_back tup (Heap.IsSliceOf.new _ .none .none v3) u3 (by rw [← rv.length]; exact small) ?_
  refine ⟨.ref _, _, J.laid (t' := s4.toks) (o := .tup xs.reverse) (fun b ob z => Heap.get?_push_of_some _ z) (Nat.le_refl _) ?_, rfl, q _ (J.hok.fresh (Nat.le_refl _))⟩
  exact ⟨by rw [List.length_reverse]; exact small, _, rv.reverse, IsTup.new _ _⟩
/-- from its end -/
theorem n_rev {k : Nat} {p1 p2 p3 : Pos} (ha : PE X p (TE1 X cl (evalE C a))) : PE X (.Subscript p (.Slice none none (some (.UnaryOp .USub (.Constant (.int 1) k p1) p2)) p3) pos) (TE1 X cl (evalE C (.rev a))) := by
  refine ⟨fun pins s σ H Q I ⟨ρ, η, st, re, rs, h⟩ => ?_⟩
  simp only [evalE] at h
  cases e : evalE C a η st with
  | bad => rw [e] at h; exact h.elim
  | exc c fs st1 =>
    refine (pe_revT ha).run pins s σ H Q I ⟨ρ, η, st, re, rs, ?_⟩
    rw [e] at h ⊢
    exact h
  | ok d st1 =>
    rw [e] at h
    have out : ∀ (Q' : V → Hp → Prop), (∀ v H1 ρ1, Step H ρ H1 ρ1 → RepS X.K cl H1 ρ1 st1 → Rel X.K cl H1 ρ1 d v → Q' v H1) → TE1 X cl (evalE C a) σ H Q' := fun Q' k => ⟨ρ, η, st, re, rs, by
      rw [e]
      exact fun H1 ρ1 v s1 r1 q1 => k v H1 ρ1 s1 r1 q1⟩
    simp only [Res.bind, revD] at h
    split at h
    · rename_i xs
      exact (pe_revT ha).run pins s σ H Q I (out _ fun v H1 ρ1 s1 r1 q1 => by
        obtain ⟨l, vs, rfl, k, rr⟩ := q1
        exact ⟨l, vs, rfl, k, fun z hz => h _ ρ1 _ (s1.trans (Step.same (same_new hz))) (r1.same (same_new hz)) (rel_newT hz rr.reverse)⟩)
    · split at h
      · rename_i xs hx
        exact (pe_revL ha).run pins s σ H Q I (out _ fun v H1 ρ1 s1 r1 q1 => by
          obtain ⟨l, vs, rfl, k, rr⟩ := lstOf_rel r1 hx q1
          exact ⟨l, vs, rfl, .inl k, fun z hz => h _ ρ1 _ (s1.trans (Step.same (same_new hz))) (r1.same (same_new hz)) (rel_newL r1 hz rr.reverse)⟩)
      · exact h.elim
theorem k_disp0 : PE X (.Dict [] [] pos) (TK1 X cl (evalK C (.disp []))) :=
  peImp pe_dnewK fun σ H Q ⟨ρ, η, st, re, rs, h⟩ => by
    simp only [evalK, evalPs, ok_bind, List.all_nil, if_true] at h
    intro L hL
    exact h _ (ρ.hide L) _ (Step.hide hL) (rs.hide hL) ⟨L, [], rfl, hL, .inr rfl, upd_same, rfl⟩
end
end Dv
namespace Dv
open PySem PySem.Spec PyProof.Rows L2 PySem.Froz
def newSet (w : World) : Obj := { cls := .type "set", dict := none, data := .set #[] 0 (.fresh 0 0 (!w.params.followText "set-order")) }
def vStr : Value → Str
  | .str x _ => x
  | _ => Str.empty
/-- the set's payload holds the texts l, once each; it can be walked -/
structure TxS (P : Program) (w : World) (D : SD) (l : List Str) : Prop where
  ok : TxOk P w D l
  good : ∀ e ∈ D.1.toList, ∃ k t, e.2 = Value.str k t
  pm : (D.1.toList.map fun e => vStr e.2).Perm l
  ris : Ris D.2.2.place.toList
  led : w.params.followText "set-order" = true ∨ D.2.2.led = true
/-- l: what stands in xs, once each -/
structure SetOf (xs l : List Str) : Prop where
  nd : l.Nodup
  mem : ∀ k, k ∈ l ↔ k ∈ xs
  len : l.length ≤ xs.length
theorem SetOf.nil : SetOf [] [] := ⟨List.nodup_nil, fun _ => Iff.rfl, Nat.le_refl _⟩
theorem SetOf.old {xs l : List Str} {k : Str} (h : SetOf xs l) (hk : k ∈ l) : SetOf (xs ++ [k]) l where
  nd := h.nd
  mem := fun j => by
    rw [List.mem_append, List.mem_singleton, ← h.mem j]
    exact ⟨.inl, fun z => z.elim id fun e => e ▸ hk⟩
  len := by rw [List.length_append]; exact Nat.le_trans h.len (Nat.le_add_right _ _)
theorem SetOf.new {xs l : List Str} {k : Str} (h : SetOf xs l) (hk : k ∉ l) : SetOf (xs ++ [k]) (k :: l) where
  nd := List.nodup_cons.mpr ⟨hk, h.nd⟩
  mem := fun j => by
    rw [List.mem_append, List.mem_singleton, ← h.mem j, List.mem_cons]
    exact Or.comm
  len := by rw [List.length_append]; exact Nat.succ_le_succ h.len
section
variable {P : Program} {w : World}
theorem TxS.nil {ep : Nat} : TxS P w (#[], ep, .fresh 0 0 (!w.params.followText "set-order")) [] where
  ok := TxOk.nil rfl
  good := fun e he => by simp at he
  pm := List.Perm.refl _
  ris := List.Pairwise.nil
  led := by
    (show _ ∨ (!w.params.followText "set-order") = true)
    (cases w.params.followText "set-order")
    · exact .inr rfl
    · exact .inl rfl
theorem tail_perm (ep : Nat) (es1 : Array (Int × Value)) (t2 : SetTable) (b : Bool) : (tailTx ep es1 t2 b).1.toList.Perm es1.toList := by
  unfold tailTx
  split
  · exact relayAll_perm ..
  · exact List.Perm.refl _
theorem tail_ris {ep : Nat} {es1 : Array (Int × Value)} {t2 : SetTable} {b : Bool} (h : Ris t2.place.toList) : Ris (tailTx ep es1 t2 b).2.2.place.toList := by
  unfold tailTx
  split
  · exact relayAll_ris ..
  · exact h
theorem tail_led (ep : Nat) (es1 : Array (Int × Value)) (t2 : SetTable) (b : Bool) : (tailTx ep es1 t2 b).2.2.led = t2.led := by
  unfold tailTx
  split
  · exact relayAll_led ..
  · rfl
theorem add_perm (h : Int) (v : Value) (D : SD) : (addTx h v D).1.toList.Perm ((h, v) :: D.1.toList) := by
  refine (tail_perm _ _ _ _).trans ((layNew_perm _ _ _ _).trans ?_)
  rw [Array.toList_push]
  exact List.perm_append_singleton _ _
theorem add_ris {h : Int} {v : Value} {D : SD} (r : Ris D.2.2.place.toList) : Ris (addTx h v D).2.2.place.toList := by
  refine tail_ris ?_
  split
  · exact layNew_ris _ _ _ _ r
  · exact layNew_ris _ _ _ _ r
theorem add_led (h : Int) (v : Value) (D : SD) : (addTx h v D).2.2.led = D.2.2.led := by
  refine (tail_led _ _ _ _).trans ?_
  split
  · exact layNew_led _ _ _ _
  · exact layNew_led _ _ _ _
theorem TxS.add {D : SD} {l : List Str} {k : Str} (u : Tok) (F : TxS P w D l) : TxS P w (addTx (hashStr w k) (.str k u) D) (k :: l) where
  ok := add_ok u F.ok
  good := fun e he => by
    rcases List.mem_cons.mp ((add_perm _ _ _).mem_iff.mp he) with z | z
    · exact ⟨k, u, by rw [z]⟩
    · exact F.good e z
  pm := ((add_perm _ _ _).map _).trans (F.pm.cons k)
  ris := add_ris F.ris
  led := F.led.imp id fun z => (add_led _ _ _).trans z
variable {s : Shared} {E : Value → Shared → Prop} {A : Around}
/-- a text that is there -/
theorem add_old {a : Addr} {T : String} {D : SD} {l : List Str} {k : Str} {u : Tok} {Q : Bool → Shared → Prop} (ho : s.heap.get? a = some (sObj T D)) (F : TxOk P w D l) (hk : k ∈ l) (hb : l.length < scanBound) (h : Q false s) :
    wpAny (model P w) A (setAddHashed a (.str k u) (hashStr w k)) Q E s := by
  obtain ⟨es, ep, t⟩ := D
  (have hel : ElemsOf (strKind P w) es.toList := F.el)
  (have hsz : es.size = l.length := F.sz)
  (have hf : t.fits es.size = true := F.fit)
  (have hd : (sObj T (es, ep, t)).data = .set es ep t := rfl)
  (have hkey : (strKind P w).is k (.str k u) = true := is_str k u)
  (unfold setAddHashed setAddHashedIn)
  (refine wpAny_holding (wpAny_bind (wpAny_setState_of ho hd hf ?_)))
  dsimp only
  rw [byScan_of rfl (by omega) hel]
  simp only [↓reduceIte]
  unfold setAddByScan
  refine wpAny_bind (wpAny_bind (wpAny_rule (wpAny_bind (wpAny_setScan_of (knd := strKind P w) (k := k) hkey ho hd hf hel ?_))))
  obtain ⟨e, he, q⟩ := (F.mem k).mp hk
  generalize hr : (es.toList.findIdx? fun e => (strKind P w).is k e.2) = found
  cases found with
  | none =>
    have c := List.findIdx?_eq_none_iff.mp hr e he
    rw [q] at c
    cases c
  | some j =>
    dsimp only
    (exact wpAny_pure (wpAny_pure h))
/-- the payload at S holds what xs holds -/
def Held (P : Program) (w : World) (h : Heap) (S : Addr) (xs : List Str) : Prop := ∃ D l, h.get? S = some (sObj "set" D) ∧ TxS P w D l ∧ SetOf xs l
variable {R : Result → Shared → Prop}
theorem updTx {I : Addr} {fp wr : List Addr} {G : Array GenState → Array GenState → Prop} {n : Nat} {Pv : Nat → Value → Prop} {St : Nat → Shared → Prop}
    (W : WalksS P w A.in1 I fp wr G n Pv St) (S : Addr) (hSf : S ∉ fp) (xs : List Str) (hn : n = xs.length) (hb : xs.length + 1 < scanBound) (hval : ∀ i v, Pv i v → ∃ k t, xs[i]? = some k ∧ v = Value.str k t) :
    ∀ (k i : Nat) (s : Shared), n - i = k → i ≤ n → St i s → Held P w s.heap S (xs.take i) → (∀ s', Moved (S :: wr) G s s' → Held P w s'.heap S xs → R (.ok (.ret .none)) s') → codeAny (model P w) A (.builtin "set.update.loop" ⟨[.ref S, .ref I], []⟩) R s := by
  (have hSw : S ∉ wr := fun h => hSf (W.sub _ h))
  (have hsub : ∀ b ∈ wr, b ∈ S :: wr := fun b hb => List.mem_cons_of_mem _ hb)
  intro k
  induction k with
  | zero =>
    intro i s hk' hi hst ⟨D, l, hg, hD, hx⟩ hR
    have hin : i = n := by omega
    subst hin
    (refine codeAny_builtin F.entry_set_update_loop ?_)
    (rw [Around.under_plainId F.plain_set_update_loop _])
    (show wpAny _ A.in1 (pyNext (.ref I) >>= _) _ _ s)
    (refine wpAny_bind (W.done s _ _ hst fun s' hm => ?_))
    (show wpAny _ A.in1 (ret Value.none) _ _ s')
    rw [List.take_of_length_le (by omega)] at hx
    exact wpAny_pure (hR s' (hm.mono hsub) ⟨D, l, hm.heap S _ hSw hg, hD, hx⟩)
  | succ k ih =>
    intro i s hk' hi hst ⟨D, l, hg, hD, hx⟩ hR
    have hlt : i < n := by omega
    (refine codeAny_builtin F.entry_set_update_loop ?_)
    (rw [Around.under_plainId F.plain_set_update_loop _])
    (show wpAny _ A.in1 (pyNext (.ref I) >>= _) _ _ s)
    (refine wpAny_bind (W.item i s _ _ hlt hst fun v s' hP hst' hm => ?_))
    (obtain ⟨z, t, hz, rfl⟩ := hval i v hP)
    have hg' : s'.heap.get? S = some (sObj "set" D) := hm.heap S _ hSw hg
    have hll : l.length ≤ i := Nat.le_trans hx.len (by rw [List.length_take]; exact Nat.min_le_left _ _)
    have hx1 : xs.take (i + 1) = xs.take i ++ [z] := by rw [List.take_add_one, hz] <;> rfl
    show wpAny _ A.in1 (holding [Value.str z t] (setAdd S (.str z t)) >>= _) _ _ s'
    (refine wpAny_bind (wpAny_holding ?_))
    unfold setAdd
    refine wpAny_holding ?_
    refine wpAny_bind ((strKind P w).pyHash (k := z) (is_str _ _) ?_)
    by_cases hk : z ∈ l
    · refine add_old (s := { s' with toks := s'.toks + 1 }) hg' hD.ok hk (by omega) ?_
      refine wpAny_pure ⟨plainId_quiet F.plain_set_update_loop _, ih (i + 1) _ (by omega) hlt (W.frame _ s' _ _ hst' (Nat.le_succ _) fun b hb o e => e) ⟨D, l, hg', hD, by rw [hx1]; exact hx.old hk⟩ fun s'' hm'' hh'' => ?_⟩
      exact hR s'' (Moved.trans W.gtrans ((hm.mono hsub).then_heap (Nat.le_succ _) fun b o hb e => e) hm'') hh''
    · refine add_x (s := { s' with toks := s'.toks + 1 }) hg' hD.ok hk (by omega) ?_
      have hsb : Heap.SameBut S s'.heap (s'.heap.update S fun _ => sObj "set" (addTx (hashStr w z) (.str z t) D)) := Heap.SameBut.update _ _ _
      refine wpAny_pure ⟨plainId_quiet F.plain_set_update_loop _, ih (i + 1) _ (by omega) hlt (W.frame _ s' _ _ hst' (Nat.le_succ _) fun b hb o e => ?_) ⟨_, z :: l, get_upd _ hg' rfl, hD.add t, by rw [hx1]; exact hx.new hk⟩ fun s'' hm'' hh'' => ?_⟩
      · (rw [hsb.2 b (fun h : b = S => hSf (by rw [← h]; exact hb))]; exact e)
      · refine hR s'' (Moved.trans W.gtrans ((hm.mono hsub).then_heap (Nat.le_succ _) fun b o hb e => ?_) hm'') hh''
        (rw [hsb.2 b (fun h : b = S => hb (by rw [h]; exact List.mem_cons_self))]; exact e)
/-- set(..) has made its set -/
def Made (P : Program) (w : World) (s : Shared) (xs : List Str) (r : Value) (s₂ : Shared) : Prop := r = .none ∧ ∃ h' tk, s₂ = { s with heap := h', toks := tk } ∧ Held P w h' s.heap.objs.size xs ∧ StayH s.heap h'
set_option maxHeartbeats 3201100 in
theorem call_setTx_L {l : Addr} {items : Array Value} (xs : List Str) {Q : Value → Shared → Prop} (hh : A.handled = none) (hl : s.heap.IsList l items) (hi : ∀ (i : Nat) (v : Value), items[i]? = some v → ∃ k t, xs[i]? = some k ∧ v = .str k t) (hn : items.size = xs.length) (hb : xs.length + 1 < scanBound)
    (h : ∀ (h' : Heap) (tk : Nat), Held P w h' s.heap.objs.size xs → StayH s.heap h' → Q (.ref s.heap.objs.size) { s with heap := h', toks := tk }) : wpAny (model P w) A (call (.type "set") [.ref l]) Q E s := by
  (have h1 := F.called_set.notType)
  (have h2 := F.called_set.canCreate)
  (have hct := F.typeCall_set_1 (.ref l))
  (have hmade := F.called_set.made)
  have hsub := F.called_set.sub
  (obtain ⟨c, tl, hmro⟩ := F.called_set.mro)
  (refine wpAny_call (codeAny_of_tree ?_))
  (show wpAny _ _ (callAny (.type "set") _) _ _ _)
  (refine wpAny_pure ⟨Code.quiet_builtin _ (by decide +kernel), codeAny_builtin F.entry_type_call ?_⟩)
  (rw [Around.under_plain (weight_type_call_type "set" [.ref l] []) rfl])
  repeat any_goals first | assumption | wp_step
  let h0 := s.heap.push (newSet w)
  refine codeAny_mono (code_set_led1 (.ref l) (E := E) (Q₁ := fun obj s₁ => obj = .ref s.heap.objs.size ∧ s₁ = { s with heap := s.heap.push (newSet w) }) ⟨rfl, rfl⟩) fun r s₁ hr => ?_
  match r, hr with
  | .error e, hr => exact hr
  | .ok (.ret obj), hr =>
    obtain ⟨rfl, rfl⟩ := hr
    have hS : (s.heap.push (newSet w)).get? s.heap.objs.size = some (newSet w) := Heap.get?_push_size _ rfl
    have hT : Shared.TypeIs { s with heap := s.heap.push (newSet w) } (.ref s.heap.objs.size) "set" := ⟨_, hS, rfl⟩
    (have hli := F.called_set.init.lookup)
    (have hbi := F.called_set.init.bind (.ref s.heap.objs.size))
    repeat any_goals first | assumption | wp_step
    refine codeAny_mono (codeAny_call_builtin (R := wants (Made P w s xs) E) F.called_set.init.plain F.entry_set_init (check_set_init_1 hT ?_)) fun r₂ s₂ hr₂ => ?_
    · obtain ⟨⟨ocls, odict, odata, oslots⟩, hol, hcl, nl, hdl⟩ := hl
      simp only at hcl hdl
      subst hcl; subst hdl
      (have hlS : l < s.heap.objs.size := Heap.lt_size hol)
      have hol' : (s.heap.push (newSet w)).get? l = some { cls := .type "list", dict := odict, data := .seq items nl, slots := oslots } := Heap.get?_push_of_some _ hol
      have hl1 : (s.heap.push (newSet w)).IsList l items := ⟨_, hol', rfl, nl, rfl⟩
      have hsls := F.sub_list_set
      (have hslf := F.sub_list_frozenset)
      (have hne : (Value.type "list" == Value.type "dict") = false := by decide)
      (unfold Builtin.«set.__init__» noKeywords Builtin.Frozenset.updateFrom)
      generalize hPI : pyIter = PI
      wp_walk
      subst hPI
      (refine wpAny_pyIter_list hl1 ?_)
      (refine wpAny_bind (wpAny_runValue ?_))
      (have hh3 : A.in1.in1.in1.handled = none := by simp [hh])
      have hz1 : (s.heap.push (newSet w)).objs.size = s.heap.objs.size + 1 := Heap.size_push ..
      have hneI : l ≠ (s.heap.push (newSet w)).objs.size := by rw [hz1]; exact Nat.ne_of_lt (Nat.lt_succ_of_lt hlS)
      have hSf : s.heap.objs.size ∉ [(s.heap.push (newSet w)).objs.size, l] := by
        rw [hz1]
        intro z
        (rcases List.mem_cons.mp z with z | z)
        · omega
        · exact Nat.ne_of_gt hlS (List.mem_singleton.mp z)
      refine updTx ((Walks.list hh3 _ l hneI items).toS) s.heap.objs.size hSf xs hn hb hi (items.size - 0) 0 _ (by omega) (Nat.zero_le _)
        ⟨⟨_, Heap.get?_push_size _ rfl, rfl, rfl⟩, (hl1.push _)⟩ ⟨(#[], 0, .fresh 0 0 (!w.params.followText "set-order")), [], Heap.get?_push_of_some _ hS, TxS.nil, SetOf.nil⟩ fun s' hm hg => ?_
      (obtain ⟨h', g2, d', tk', os'⟩ := s')
      (have eg : g2 = s.gens := hm.gens)
      (have ed : d' = s.drawn := hm.drawn)
      have eo : os' = s.os := hm.os
      subst eg; subst ed; subst eo
      show wpAny _ _ _ _ _ _
      refine wpAny_pure ?_
      (show wpAny _ _ (ret Value.none) _ _ _)
      refine wpAny_pure ⟨rfl, h', tk', rfl, hg, fun b o e => ?_⟩
      (have hb0 : b < s.heap.objs.size := Heap.lt_size e)
      refine hm.heap b o (fun z => ?_) (Heap.get?_push_of_some _ (Heap.get?_push_of_some _ e))
      (rcases List.mem_cons.mp z with z | z)
      · exact Nat.ne_of_lt hb0 z
      · have z1 := List.mem_singleton.mp z
        rw [hz1] at z1
        exact Nat.ne_of_lt (Nat.lt_succ_of_lt hb0) z1
    · match r₂, hr₂ with
      | .error e, hr₂ => exact hr₂
      | .ok (.ret r), hr₂ =>
        obtain ⟨rfl, h', tk, rfl, hg, hk'⟩ := hr₂
        repeat any_goals first | assumption | wp_step
        exact h _ _ hg hk'
set_option maxHeartbeats 3201100 in
theorem call_setTx_T {l : Addr} {items : Array Value} (xs : List Str) {Q : Value → Shared → Prop} (hh : A.handled = none) (hl : s.heap.IsTuple l items) (hi : ∀ (i : Nat) (v : Value), items[i]? = some v → ∃ k t, xs[i]? = some k ∧ v = .str k t) (hn : items.size = xs.length) (hb : xs.length + 1 < scanBound)
    (h : ∀ (h' : Heap) (tk : Nat), Held P w h' s.heap.objs.size xs → StayH s.heap h' → Q (.ref s.heap.objs.size) { s with heap := h', toks := tk }) : wpAny (model P w) A (call (.type "set") [.ref l]) Q E s := by
  (have h1 := F.called_set.notType)
  (have h2 := F.called_set.canCreate)
  (have hct := F.typeCall_set_1 (.ref l))
  (have hmade := F.called_set.made)
  have hsub := F.called_set.sub
  (obtain ⟨c, tl, hmro⟩ := F.called_set.mro)
  (refine wpAny_call (codeAny_of_tree ?_))
  (show wpAny _ _ (callAny (.type "set") _) _ _ _)
  (refine wpAny_pure ⟨Code.quiet_builtin _ (by decide +kernel), codeAny_builtin F.entry_type_call ?_⟩)
  (rw [Around.under_plain (weight_type_call_type "set" [.ref l] []) rfl])
  repeat any_goals first | assumption | wp_step
  let h0 := s.heap.push (newSet w)
  refine codeAny_mono (code_set_led1 (.ref l) (E := E) (Q₁ := fun obj s₁ => obj = .ref s.heap.objs.size ∧ s₁ = { s with heap := s.heap.push (newSet w) }) ⟨rfl, rfl⟩) fun r s₁ hr => ?_
  match r, hr with
  | .error e, hr => exact hr
  | .ok (.ret obj), hr =>
    obtain ⟨rfl, rfl⟩ := hr
    have hS : (s.heap.push (newSet w)).get? s.heap.objs.size = some (newSet w) := Heap.get?_push_size _ rfl
    have hT : Shared.TypeIs { s with heap := s.heap.push (newSet w) } (.ref s.heap.objs.size) "set" := ⟨_, hS, rfl⟩
    (have hli := F.called_set.init.lookup)
    (have hbi := F.called_set.init.bind (.ref s.heap.objs.size))
    repeat any_goals first | assumption | wp_step
    refine codeAny_mono (codeAny_call_builtin (R := wants (Made P w s xs) E) F.called_set.init.plain F.entry_set_init (check_set_init_1 hT ?_)) fun r₂ s₂ hr₂ => ?_
    · obtain ⟨⟨ocls, odict, odata, oslots⟩, hol, hcl, nl, hdl⟩ := hl
      simp only at hcl hdl
      subst hcl; subst hdl
      (have hlS : l < s.heap.objs.size := Heap.lt_size hol)
      have hol' : (s.heap.push (newSet w)).get? l = some { cls := .type "tuple", dict := odict, data := .seq items nl, slots := oslots } := Heap.get?_push_of_some _ hol
      have hl1 : (s.heap.push (newSet w)).IsTuple l items := ⟨_, hol', rfl, nl, rfl⟩
      have hsls := F.sub_tuple_set
      (have hslf := F.sub_tuple_frozenset)
      (have hne : (Value.type "tuple" == Value.type "dict") = false := by decide)
      (unfold Builtin.«set.__init__» noKeywords Builtin.Frozenset.updateFrom)
      generalize hPI : pyIter = PI
      wp_walk
      subst hPI
      (refine wpAny_pyIter_tuple hl1 ?_)
      (refine wpAny_bind (wpAny_runValue ?_))
      (have hh3 : A.in1.in1.in1.handled = none := by simp [hh])
      have hz1 : (s.heap.push (newSet w)).objs.size = s.heap.objs.size + 1 := Heap.size_push ..
      have hneI : l ≠ (s.heap.push (newSet w)).objs.size := by rw [hz1]; exact Nat.ne_of_lt (Nat.lt_succ_of_lt hlS)
      have hSf : s.heap.objs.size ∉ [(s.heap.push (newSet w)).objs.size, l] := by
        rw [hz1]
        intro z
        (rcases List.mem_cons.mp z with z | z)
        · omega
        · exact Nat.ne_of_gt hlS (List.mem_singleton.mp z)
      refine updTx ((Walks.tuple hh3 _ l hneI items).toS) s.heap.objs.size hSf xs hn hb hi (items.size - 0) 0 _ (by omega) (Nat.zero_le _)
        ⟨⟨_, Heap.get?_push_size _ rfl, rfl, rfl⟩, (hl1.push _)⟩ ⟨(#[], 0, .fresh 0 0 (!w.params.followText "set-order")), [], Heap.get?_push_of_some _ hS, TxS.nil, SetOf.nil⟩ fun s' hm hg => ?_
      (obtain ⟨h', g2, d', tk', os'⟩ := s')
      (have eg : g2 = s.gens := hm.gens)
      (have ed : d' = s.drawn := hm.drawn)
      have eo : os' = s.os := hm.os
      subst eg; subst ed; subst eo
      show wpAny _ _ _ _ _ _
      refine wpAny_pure ?_
      (show wpAny _ _ (ret Value.none) _ _ _)
      refine wpAny_pure ⟨rfl, h', tk', rfl, hg, fun b o e => ?_⟩
      (have hb0 : b < s.heap.objs.size := Heap.lt_size e)
      refine hm.heap b o (fun z => ?_) (Heap.get?_push_of_some _ (Heap.get?_push_of_some _ e))
      (rcases List.mem_cons.mp z with z | z)
      · exact Nat.ne_of_lt hb0 z
      · have z1 := List.mem_singleton.mp z
        rw [hz1] at z1
        exact Nat.ne_of_lt (Nat.lt_succ_of_lt hb0) z1
    · match r₂, hr₂ with
      | .error e, hr₂ => exact hr₂
      | .ok (.ret r), hr₂ =>
        obtain ⟨rfl, h', tk, rfl, hg, hk'⟩ := hr₂
        repeat any_goals first | assumption | wp_step
        exact h _ _ hg hk'
theorem setAt_of {h : Heap} {a : Addr} {D : SD} (hg : h.get? a = some (sObj "set" D)) : SetAt h a D.1 D.2.1 D.2.2 := ⟨_, hg, rfl, rfl⟩
theorem strs_val : ∀ (l : List Value), (∀ v ∈ l, ∃ k t, v = Value.str k t) → StrsAre l (l.map vStr)
  | [], _ => .nil
  | v :: l, h => by
    obtain ⟨k, t, rfl⟩ := h v List.mem_cons_self
    exact .cons k t (strs_val l fun u hu => h u (List.mem_cons_of_mem _ hu))
/-- sorted(found) -/
theorem sorted_tx {a : Addr} {D : SD} {l : List Str} {Q : Value → Shared → Prop} (hg : s.heap.get? a = some (sObj "set" D)) (F : TxS P w D l) (hh : A.handled = none) (h64 : l.length < 64)
    (hQ : ∀ s' p (out : Array Value) (c : Nat) (ys : List Str), (∀ b o, s.heap.get? b = some o → s'.heap.get? b = some o) → s'.gens = s.gens → s'.os = s.os → s.heap.objs.size ≤ p →
      s'.heap.get? p = some (seqObj "list" out c) → StrsAre out.toList ys → ys.Perm l → sortedS ys = true → Q (.ref p) s') : wpAny (model P w) A (call (.builtin "sorted") [.ref a]) Q E s := by
  (refine Calls.call_function_entry kind_sorted plain_sorted entry_sorted (args_sorted1 _) ?_)
  unfold Builtin.«sorted»
  (refine wpAny_bind (m := checkCount "sorted" 1 1 _) (wpAny_pure ?_))
  have hsz : D.1.size = l.length := F.ok.sz
  have hb : D.1.size < scanBound := by
    rw [hsz]
    exact Nat.lt_of_lt_of_le h64 (by decide)
  refine wpAny_bind (collect_set (A := A.in1) hh (setAt_of hg) F.ok.fit hb F.ris F.led fun s1 vs k1 hz g1 o1 pm => ?_)
  have hvl : vs.length = l.length := by rw [pm.length_eq, List.length_map, Array.length_toList]; exact hsz
  have hI : StrsAre vs (vs.map vStr) := strs_val vs fun v hv => by
    (obtain ⟨e, he, q⟩ := List.mem_map.mp (pm.mem_iff.mp hv))
    obtain ⟨k, t, h1⟩ := F.good e he
    exact ⟨k, t, by rw [← q]; exact h1⟩
  have pk : (vs.map vStr).Perm l := by
    have q := pm.map vStr
    rw [List.map_map] at q
    exact q.trans F.pm
  (refine wpAny_bind (wpAny_newList ?_ (by rw [hvl, sizeLine_eq]; omega)))
  (have hoL : (s1.heap.push (seqObj "list" vs.toArray 0)).get? s1.heap.objs.size = some (seqObj "list" vs.toArray 0) := Heap.get?_push_size _ rfl)
  refine wpAny_bind (wpAny_holding (wpAny_call_entry slot_list_sort ⟨_, hoL, rfl⟩ entry_list_sort
    (list_sort_treeK strKind_oneLt hoL hI.keysOf (fun v₁ v₂ rest e => keyKind_strs (by rw [← e]; exact hI)) (by rw [hvl]; exact h64) fun st' hp hs => ⟨_, rfl, ?_⟩) (args_list_sort _)))
  obtain ⟨ys, g1', g2, g3⟩ := sorted_out_str hI hp hs
  obtain ⟨c, hc⟩ := sortedHeap_at (vs := vs) (out := (arrOf st').map (·.2)) hoL
  refine wpAny_pure ⟨_, rfl, hQ _ s1.heap.objs.size _ c ys (fun b u e => ?_) g1 o1 hz hc g1' (g2.trans pk) g3⟩
  have q := k1 b u e
  have hlt := Heap.lt_size q
  show (sortedHeap (s1.heap.push (seqObj "list" vs.toArray 0)) s1.heap.objs.size vs _).get? b = some u
  (rw [sortedHeap_old (Nat.ne_of_lt hlt) (by rw [size_push']; exact Nat.lt_succ_of_lt hlt)])
  (exact Heap.get?_push_of_some _ q)
end
theorem os_same {s s' : Shared} (o : s'.os = s.os) : s' = { s with heap := s'.heap, gens := s'.gens, drawn := s'.drawn, toks := s'.toks } := by
  obtain ⟨h, g, d, t, q⟩ := s'
  subst o
  rfl
/-- a set of the texts l at a -/
def TxO (P : Program) (w : World) (a : Addr) (l : List Str) : HO := .ext fun h => ∃ D, h.get? a = some (sObj "set" D) ∧ TxS P w D l
section
variable {X : Cx}
theorem tx_new {w : World} {P : Program} {H : Hp} {h : Heap} {a : Addr} {D : SD} {l : List Str} (hg : h.get? a = some (sObj "set" D)) (F : TxS P w D l) : ObjOk P w H h a (TxO P w a l) :=
  ⟨⟨D, hg, F⟩, ⟨_, hg⟩, fun h1 h2 p k => p.elim fun D q => ⟨D, k _ q.1, q.2⟩⟩
theorem tx_get {pins : List (Addr × Obj)} {σ : L2.St} {H : Hp} {s : Shared} {a : Addr} {l : List Str} (I : Inv X pins σ H s) (ha : H a = some (TxO X.prog X.w a l)) : ∃ D, s.heap.get? a = some (sObj "set" D) ∧ TxS X.prog X.w D l := (I.hok a _ ha).1
/-- set(xs) of a list or a tuple of texts -/
theorem cr_setTx (hc : X.calm = true) : CallR X (.type "set") (fun vs H Q => ∃ (p : Addr) (xs : List Str), vs = [.ref p] ∧ (SqL X.K H p (xs.map V.str) ∨ SqT X.K H p (xs.map V.str)) ∧ xs.length ≤ 1000 ∧
    ∀ q l, H q = none → SetOf xs l → Q (.ref q) (upd H q (TxO X.prog X.w q l))) := by
  intro pins s σ H vs us Q I rv0 h
  obtain ⟨p, xs, rfl, hq, hl, q⟩ := h
  rw [Vals.ref1 rv0]
  have hd := I.ok.hd hc
  have val : ∀ (its : List Value), Vals (xs.map V.str) its → (∀ (i : Nat) (v : Value), its.toArray[i]? = some v → ∃ k t, xs[i]? = some k ∧ v = .str k t) ∧ its.toArray.size = xs.length := fun its rv => by
    have e : its.toArray.size = xs.length := by rw [List.size_toArray, ← rv.length, List.length_map]
    refine ⟨fun i v hv => ?_, e⟩
    have hi : i < xs.length := by rw [← e]; exact (Array.getElem?_eq_some_iff.mp hv).1
    obtain ⟨u, hu, t, hu'⟩ := rv.get (i := i) (x := .str xs[i]) (by simp [hi])
    refine ⟨xs[i], t, List.getElem?_eq_getElem hi, ?_⟩
    rw [List.getElem?_toArray] at hv
    rw [hu] at hv
    rw [← Option.some.inj hv]
    exact hu'
  have fin : ∀ (h' : Heap) (tk : Nat), Held X.prog X.w h' s.heap.objs.size xs → StayH s.heap h' → EP X pins σ Q (.ref s.heap.objs.size) { s with heap := h', toks := tk } := fun h' tk ⟨D, m, hg, hD, hx⟩ k =>
    ⟨.ref s.heap.objs.size, _, I.laid (t' := tk) k (Nat.le_refl _) (tx_new hg hD), rfl, q _ m (I.hok.fresh (Nat.le_refl _)) hx⟩
  have hb : xs.length + 1 < scanBound := Nat.lt_of_le_of_lt (Nat.succ_le_succ hl) (by decide)
  rcases hq with hq | hq
  · obtain ⟨its, rv, pl, hz⟩ := I.list hq
    obtain ⟨a1, a2⟩ := val its rv
    exact call_setTx_L xs hd pl.isList a1 a2 hb fin
  · obtain ⟨its, rv, pl, hz⟩ := I.tuple hq
    obtain ⟨a1, a2⟩ := val its rv
    exact call_setTx_T xs hd pl a1 a2 hb fin
/-- sorted(found) -/
theorem cr_sortTx (hc : X.calm = true) : CallR X (.builtin "sorted") (fun vs H Q => ∃ (a : Addr) (l : List Str), vs = [V.ref a] ∧ H a = some (TxO X.prog X.w a l) ∧ l.length < 64 ∧
    ∀ (ys : List Str) (p : Addr), ys.Perm l → sortedS ys = true → H p = none → Q (.ref p) (upd H p (.lst (ys.map V.str)))) := by
  intro pins s σ H vs us Q I rv0 h
  obtain ⟨a, l, rfl, ha, h64, q⟩ := h
  obtain ⟨D, hg, F⟩ := tx_get I ha
  rw [Vals.ref1 rv0]
  refine sorted_tx hg F (I.ok.hd hc) h64 fun s' p out c ys k g o hp hg' hi hm hs => ?_
  have hlen : (ys.map V.str).length ≤ sizeLine := by rw [List.length_map, hm.length_eq, sizeLine_eq]; omega
  (have hn : H p = none := I.hok.fresh hp)
  have J : Inv X pins σ (upd H p (.lst (ys.map V.str))) { s with heap := s'.heap, gens := s'.gens, drawn := s'.drawn, toks := s'.toks } :=
    I.call (ch := []) (Un.laid k hp hn) (I.hok.laid k hp ⟨hlen, out.toList, c, vals_of_strs hi, hg'⟩) (by rw [g]; exact I.bare) (fun _ z => nomatch z)
  rw [os_same o]
  exact ⟨.ref p, _, J, rfl, q ys p hm hs hn⟩
/-- len(found) -/
theorem cr_lenTx : CallR X (.builtin "len") (fun vs H Q => ∃ (a : Addr) (l : List Str), vs = [V.ref a] ∧ H a = some (TxO X.prog X.w a l) ∧ l.length < 64 ∧ Q (.int l.length) H) := by
  intro pins s σ H vs us Q I rv0 h
  obtain ⟨a, l, rfl, ha, h64, q⟩ := h
  obtain ⟨D, hg, F⟩ := tx_get I ha
  rw [Vals.ref1 rv0]
  have hsz : D.1.size = l.length := F.ok.sz
  refine call_len_set (es := D.1) (ep := D.2.1) (t := D.2.2) hg ⟨rfl, rfl, rfl⟩ rfl F.ok.fit (by rw [hsz]; omega) ⟨.int l.length, H, I.tok _, ⟨_, by rw [hsz]⟩, q⟩
end
end Dv
namespace Dv
open PySem (Str)
theorem ok_bind' {α β : Type} (a : α) (st : Sto) (f : α → Sto → Res β) : (Res.ok a st).bind f = f a st := rfl
def flat : Nat → D → Bool
  | 0, _ => false
  | _ + 1, .non => true
  | _ + 1, .bl _ => true
  | _ + 1, .int _ => true
  | _ + 1, .str _ => true
  | n + 1, .tup xs => xs.all (flat n)
  | n + 1, .lst xs => xs.all (flat n)
  | _ + 1, _ => false
theorem mapM_id {α : Type} {f : α → Option α} : ∀ {xs : List α}, (∀ x ∈ xs, f x = some x) → xs.mapM f = some xs
  | [], _ => rfl
  | x :: xs, h => by
    rw [List.mapM_cons, h x (List.mem_cons_self ..), mapM_id fun y hy => h y (List.mem_cons_of_mem _ hy)]
    rfl
theorem deep_flat {st : Sto} {lo : Nat} : ∀ {n : Nat} {d : D}, flat n d = true → deep st lo n d = some d
  | 0, _, h => by cases h
  | n + 1, d, h => by
    cases d with
    | tup xs =>
      have h : xs.all (flat n) = true := h
      rw [List.all_eq_true] at h
      show (xs.mapM (deep st lo n)).map D.tup = _
      rw [mapM_id fun x hx => deep_flat (h x hx)]
      rfl
    | lst xs =>
      have h : xs.all (flat n) = true := h
      rw [List.all_eq_true] at h
      show (xs.mapM (deep st lo n)).map D.lst = _
      rw [mapM_id fun x hx => deep_flat (h x hx)]
      rfl
    | non => rfl
    | bl _ => rfl
    | int _ => rfl
    | str _ => rfl
    | _ => cases h
theorem plains_all : ∀ xs : List D, plains xs = xs.all plain
  | [] => by simp [plains]
  | x :: xs => by simp [plains, plains_all xs]
theorem belows_all {lo : Nat} : ∀ xs : List D, belows lo xs = xs.all (below lo)
  | [] => by simp [belows]
  | x :: xs => by simp [belows, belows_all xs]
theorem flat_plain : ∀ {n : Nat} {d : D}, flat n d = true → plain d = true
  | 0, _, h => by cases h
  | n + 1, d, h => by
    cases d with
    | tup xs =>
      have h : xs.all (flat n) = true := h
      simp only [plain, plains_all]
      rw [List.all_eq_true] at h ⊢
      exact fun x hx => flat_plain (h x hx)
    | lst xs =>
      have h : xs.all (flat n) = true := h
      simp only [plain, plains_all]
      rw [List.all_eq_true] at h ⊢
      exact fun x hx => flat_plain (h x hx)
    | non => rfl
    | bl _ => rfl
    | int _ => rfl
    | str _ => rfl
    | _ => cases h
theorem flat_mono : ∀ {n m : Nat} {d : D}, flat n d = true → n ≤ m → flat m d = true
  | 0, _, _, h, _ => by cases h
  | n + 1, 0, _, _, h => by omega
  | n + 1, m + 1, d, h, k => by
    cases d with
    | tup xs =>
      have h : xs.all (flat n) = true := h
      show xs.all (flat m) = true
      rw [List.all_eq_true] at h ⊢
      exact fun x hx => flat_mono (h x hx) (by omega)
    | lst xs =>
      have h : xs.all (flat n) = true := h
      show xs.all (flat m) = true
      rw [List.all_eq_true] at h ⊢
      exact fun x hx => flat_mono (h x hx) (by omega)
    | non => rfl
    | bl _ => rfl
    | int _ => rfl
    | str _ => rfl
    | _ => cases h
theorem data_flat {st : Sto} {d : D} (h : flat levels d = true) : data st d = some d := by
  unfold data
  rw [deep_flat h]
  show (if plain d then some d else none) = some d
  rw [if_pos (flat_plain h)]
structure Bs where
  cs : List Int
  l : Int
  m : Int
  t : Int
def bs (b : Bs) : Sto := [.dct [(.str ⟨#[99, 101, 108, 108, 115]⟩, .obj 0), (.str ⟨#[108, 101, 102, 116]⟩, .int b.l), (.str ⟨#[109, 105, 120, 101, 100]⟩, .int b.m), (.str ⟨#[116, 117, 114, 110]⟩, .int b.t)], .lst (b.cs.map .int)]
def Bs.ok (b : Bs) : Prop := b.cs.length ≤ 63
theorem bs_len {b : Bs} {top : Sto} : (top ++ bs b).length = top.length + 2 := by simp [bs]
theorem bs_get0 {b : Bs} {top : Sto} : (top ++ bs b).get 0 = some (.lst (b.cs.map .int)) := by
  unfold Sto.get
  rw [bs_len, if_pos (by omega)]
  simp [bs]
theorem bs_get1 {b : Bs} {top : Sto} : (top ++ bs b).get 1 = some (.dct [(.str ⟨#[99, 101, 108, 108, 115]⟩, .obj 0), (.str ⟨#[108, 101, 102, 116]⟩, .int b.l), (.str ⟨#[109, 105, 120, 101, 100]⟩, .int b.m), (.str ⟨#[116, 117, 114, 110]⟩, .int b.t)]) := by
  unfold Sto.get
  rw [bs_len, if_pos (by omega)]
  simp [bs]
theorem bs_put0 {b : Bs} {top : Sto} {cs : List Int} : (top ++ bs b).put 0 (.lst (cs.map .int)) = top ++ bs { b with cs := cs } := by
  unfold Sto.put
  rw [bs_len]
  simp [bs]
theorem bs_put1 {b : Bs} {top : Sto} {l m t : Int} : (top ++ bs b).put 1 (.dct [(.str ⟨#[99, 101, 108, 108, 115]⟩, .obj 0), (.str ⟨#[108, 101, 102, 116]⟩, .int l), (.str ⟨#[109, 105, 120, 101, 100]⟩, .int m), (.str ⟨#[116, 117, 114, 110]⟩, .int t)]) = top ++ bs ⟨b.cs, l, m, t⟩ := by
  unfold Sto.put
  rw [bs_len]
  simp [bs]
theorem bs_all {b : Bs} {lo : Nat} (h : 1 ≤ lo) : (bs b).all (belowO lo) = true := by
  have hi : ∀ cs : List Int, belows lo (cs.map D.int) = true := fun cs => by
    rw [belows_all, List.all_eq_true]
    intro x hx
    obtain ⟨i, _, rfl⟩ := List.mem_map.mp hx
    rfl
  simp only [bs, List.all_cons, List.all_nil, Bool.and_true, belowO, belowk, below, hi]
  simp
  omega
theorem dct1 {b : Bs} {top : Sto} : dctOf (top ++ bs b) (.obj 1) = some [(.str ⟨#[99, 101, 108, 108, 115]⟩, .obj 0), (.str ⟨#[108, 101, 102, 116]⟩, .int b.l), (.str ⟨#[109, 105, 120, 101, 100]⟩, .int b.m), (.str ⟨#[116, 117, 114, 110]⟩, .int b.t)] := by
  simp only [dctOf, bs_get1]
theorem lst0 {b : Bs} {top : Sto} : lstOf (top ++ bs b) (.obj 0) = some (b.cs.map .int) := by
  simp only [lstOf, bs_get0]
theorem seq0 {b : Bs} {top : Sto} : seqOf (top ++ bs b) (.obj 0) = some (b.cs.map .int) := by
  simp only [seqOf, bs_get0]
theorem get_cells {b : Bs} {top : Sto} : idx (.obj 1) (.str ⟨#[99, 101, 108, 108, 115]⟩) (top ++ bs b) = .ok (.obj 0) (top ++ bs b) := by
  simp only [idx, dct1]
  rfl
theorem get_left {b : Bs} {top : Sto} : idx (.obj 1) (.str ⟨#[108, 101, 102, 116]⟩) (top ++ bs b) = .ok (.int b.l) (top ++ bs b) := by
  simp only [idx, dct1]
  rfl
theorem get_mixed {b : Bs} {top : Sto} : idx (.obj 1) (.str ⟨#[109, 105, 120, 101, 100]⟩) (top ++ bs b) = .ok (.int b.m) (top ++ bs b) := by
  simp only [idx, dct1]
  rfl
theorem get_turn {b : Bs} {top : Sto} : idx (.obj 1) (.str ⟨#[116, 117, 114, 110]⟩) (top ++ bs b) = .ok (.int b.t) (top ++ bs b) := by
  simp only [idx, dct1]
  rfl
theorem put_left {b : Bs} {top : Sto} {v : Int} : isub (.obj 1) (.str ⟨#[108, 101, 102, 116]⟩) (.int v) (top ++ bs b) = .ok () (top ++ bs ⟨b.cs, v, b.m, b.t⟩) := by
  simp only [isub, bs_get1]
  rw [if_pos (by rfl)]
  show Res.ok () ((top ++ bs b).put 1 (.dct [(.str ⟨#[99, 101, 108, 108, 115]⟩, .obj 0), (.str ⟨#[108, 101, 102, 116]⟩, .int v), (.str ⟨#[109, 105, 120, 101, 100]⟩, .int b.m), (.str ⟨#[116, 117, 114, 110]⟩, .int b.t)])) = _
  rw [bs_put1]
theorem put_turn {b : Bs} {top : Sto} {v : Int} : isub (.obj 1) (.str ⟨#[116, 117, 114, 110]⟩) (.int v) (top ++ bs b) = .ok () (top ++ bs ⟨b.cs, b.l, b.m, v⟩) := by
  simp only [isub, bs_get1]
  rw [if_pos (by rfl)]
  show Res.ok () ((top ++ bs b).put 1 (.dct [(.str ⟨#[99, 101, 108, 108, 115]⟩, .obj 0), (.str ⟨#[108, 101, 102, 116]⟩, .int b.l), (.str ⟨#[109, 105, 120, 101, 100]⟩, .int b.m), (.str ⟨#[116, 117, 114, 110]⟩, .int v)])) = _
  rw [bs_put1]
theorem pop_cells {b : Bs} {top : Sto} {cs : List Int} {c : Int} (h : b.cs = cs ++ [c]) : mth .pop (.obj 0) [] (top ++ bs b) = .ok (D.int c) (top ++ bs { b with cs := cs }) := by
  have e : (b.cs.map D.int)[(b.cs.map D.int).length - 1]? = some (D.int c) := by rw [h]; simp
  have e2 : (b.cs.map D.int).dropLast = cs.map D.int := by rw [h]; simp
  simp only [mth, bs_get0]
  rw [e, e2]
  show Res.ok (D.int c) ((top ++ bs b).put 0 (.lst (cs.map .int))) = _
  rw [bs_put0]
theorem len_cells {b : Bs} {top : Sto} : blt .len [.obj 0] (top ++ bs b) = .ok (.int b.cs.length) (top ++ bs b) := by
  simp only [blt, seq0, List.length_map]
theorem data_int {k : Int} {st : Sto} : data st (.int k) = some (.int k) := data_flat rfl
theorem cmp_lt {i j : Int} {st : Sto} : cmp2 .lt (.int i) (.int j) st = some (decide (i < j)) := by
  show ((data st (.int i)).bind fun x => (data st (.int j)).bind fun y => if kin x y then ltD x y else none) = _
  rw [data_int, data_int]
  rfl
theorem cmp_gt {i j : Int} {st : Sto} : cmp2 .gt (.int i) (.int j) st = some (decide (j < i)) := by
  show ((data st (.int i)).bind fun x => (data st (.int j)).bind fun y => if kin x y then ltD y x else none) = _
  rw [data_int, data_int]
  rfl
theorem cmp_ge {i j : Int} {st : Sto} : cmp2 .ge (.int i) (.int j) st = some (decide (j ≤ i)) := by
  show ((data st (.int i)).bind fun x => (data st (.int j)).bind fun y => if kin x y then (ltD x y).map (!·) else none) = _
  rw [data_int, data_int]
  show some (!decide (i < j)) = _
  congr 1
  rw [← decide_not]
  (exact decide_eq_decide.mpr Int.not_lt)
theorem cmp_le {i j : Int} {st : Sto} : cmp2 .le (.int i) (.int j) st = some (decide (i ≤ j)) := by
  show ((data st (.int i)).bind fun x => (data st (.int j)).bind fun y => if kin x y then (ltD y x).map (!·) else none) = _
  rw [data_int, data_int]
  show some (!decide (j < i)) = _
  congr 1
  rw [← decide_not]
  (exact decide_eq_decide.mpr Int.not_lt)
theorem cmp_eqI {i j : Int} {st : Sto} : cmp2 .eq (.int i) (.int j) st = some (i == j) := by
  simp only [cmp2, data_int, Option.bind_some, eqD, Option.map_some]
theorem cmp_neI {i j : Int} {st : Sto} : cmp2 .ne (.int i) (.int j) st = some (!(i == j)) := by
  simp only [cmp2, data_int, Option.bind_some, eqD, Option.map_some]
def pkW : Sx := .whl (.and (.cmp .lt (.idx (.var 0) (.str ⟨#[108, 101, 102, 116]⟩)) (.int 2)) (.cmp .gt (.blt .len [.var 2]) (.int 0))) [.isub (.var 0) (.str ⟨#[108, 101, 102, 116]⟩) (.mth .pop (.var 2) [])]
def pkI : Sx := .ite (.cmp .gt (.var 3) (.int 1)) [.isub (.var 0) (.str ⟨#[108, 101, 102, 116]⟩) (.op .fdiv (.var 3) (.var 1)), .ret (.op .mod (.blt .int [.var 3]) (.var 1))] []
def pk5 : Ex := .op .mod (.blt .int [.op .add (.idx (.var 0) (.str ⟨#[109, 105, 120, 101, 100]⟩)) (.op .mul (.var 4) (.int 104729))]) (.int 998244353)
def pk6 : Ex := .op .mod (.blt .int [.op .add (.op .mul (.var 5) (.var 5)) (.op .mul (.var 4) (.int 17))]) (.int 2147483647)
def b_pick : List Sx := [.ite (.cmp .lt (.var 1) (.int 2)) [.ret (.int 0)] [], .set 2 (.idx (.var 0) (.str ⟨#[99, 101, 108, 108, 115]⟩)), pkW, .set 3 (.idx (.var 0) (.str ⟨#[108, 101, 102, 116]⟩)), pkI, .isub (.var 0) (.str ⟨#[116, 117, 114, 110]⟩) (.op .add (.idx (.var 0) (.str ⟨#[116, 117, 114, 110]⟩)) (.int 1)), .set 4 (.idx (.var 0) (.str ⟨#[116, 117, 114, 110]⟩)), .set 5 pk5, .set 5 pk6, .ret (.op .mod (.blt .int [.op .fdiv (.var 5) (.int 16)]) (.var 1))]
theorem ex_nx {C : Cst} {s : Sx} {ss : List Sx} {η η' : Env} {st st' : Sto} (h : execS C s η st = .ok (.nx η') st') : execs C (s :: ss) η st = execs C ss η' st' := by
  rw [execs, h]
  rfl
theorem ex_rt {C : Cst} {s : Sx} {ss : List Sx} {η : Env} {d : D} {st st' : Sto} (h : execS C s η st = .ok (.rt d) st') : execs C (s :: ss) η st = .ok (.rt d) st' := by
  rw [execs, h]
  rfl
theorem ex_set {C : Cst} {i : Nat} {e : Ex} {η : Env} {d : D} {st st' : Sto} (h : evalE C e η st = .ok d st') : execS C (.set i e) η st = .ok (.nx (η.set i (some d))) st' := by
  rw [execS, h]
  rfl
theorem ex_ret {C : Cst} {e : Ex} {η : Env} {d : D} {st st' : Sto} (h : evalE C e η st = .ok d st') : execS C (.ret e) η st = .ok (.rt d) st' := by
  rw [execS, h]
  rfl
theorem ex_t {C : Cst} {c : Ex} {a b : List Sx} {η : Env} {st st' : Sto} (h : evalE C c η st = .ok (.bl true) st') : execS C (.ite c a b) η st = execs C a η st' := by
  rw [execS, h]
  rfl
theorem ex_f {C : Cst} {c : Ex} {a b : List Sx} {η : Env} {st st' : Sto} (h : evalE C c η st = .ok (.bl false) st') : execS C (.ite c a b) η st = execs C b η st' := by
  rw [execS, h]
  rfl
theorem ex_nil {C : Cst} {η : Env} {st : Sto} : execs C [] η st = .ok (.nx η) st := by rw [execs]
theorem ev_var {C : Cst} {i : Nat} {η : Env} {d : D} {st : Sto} (h : η[i]? = some (some d)) : evalE C (.var i) η st = .ok d st := by
  rw [evalE, h]
theorem ev_int {C : Cst} {i : Int} {η : Env} {st : Sto} : evalE C (.int i) η st = .ok (.int i) st := by rw [evalE]
theorem ev_str {C : Cst} {i : Str} {η : Env} {st : Sto} : evalE C (.str i) η st = .ok (.str i) st := by rw [evalE]
theorem ev_op {C : Cst} {o : Op2} {a b : Ex} {η : Env} {x y : D} {st st1 st2 : Sto} {r : Res D} (h1 : evalE C a η st = .ok x st1) (h2 : evalE C b η st1 = .ok y st2) (h3 : op2 o x y st2 = r) : evalE C (.op o a b) η st = r := by
  rw [evalE, h1, ok_bind', h2, ok_bind', h3]
theorem ev_cmp {C : Cst} {o : Cmp} {a b : Ex} {η : Env} {x y : D} {st st1 st2 : Sto} {r : Bool} (h1 : evalE C a η st = .ok x st1) (h2 : evalE C b η st1 = .ok y st2) (h3 : cmp2 o x y st2 = some r) : evalE C (.cmp o a b) η st = .ok (.bl r) st2 := by
  rw [evalE, h1, ok_bind', h2, ok_bind', h3]
  rfl
theorem ev_idx {C : Cst} {a b : Ex} {η : Env} {x y : D} {st st1 st2 : Sto} {r : Res D} (h1 : evalE C a η st = .ok x st1) (h2 : evalE C b η st1 = .ok y st2) (h3 : idx x y st2 = r) : evalE C (.idx a b) η st = r := by
  rw [evalE, h1, ok_bind', h2, ok_bind', h3]
def noStar : Ex → Bool
  | .star _ => false
  | _ => true
theorem es_cons {C : Cst} {e : Ex} {es : List Ex} (h : noStar e = true) (η : Env) (st : Sto) : evalEs C (e :: es) η st = (evalE C e η st).bind fun x st => (evalEs C es η st).bind fun ds st => .ok (x :: ds) st := by
  cases e <;> first | rfl | (simp [noStar] at h; done) | (simp only [evalEs])
theorem es_nil {C : Cst} {η : Env} {st : Sto} : evalEs C [] η st = .ok [] st := by rw [evalEs]
theorem es_ok {C : Cst} {e : Ex} {es : List Ex} {η : Env} {d : D} {ds : List D} {st st1 st2 : Sto} (hs : noStar e = true) (h1 : evalE C e η st = .ok d st1) (h2 : evalEs C es η st1 = .ok ds st2) : evalEs C (e :: es) η st = .ok (d :: ds) st2 := by
  rw [es_cons hs, h1, ok_bind', h2]
  rfl
theorem ev_blt {C : Cst} {b : Blt} {es : List Ex} {η : Env} {ds : List D} {st st1 : Sto} {r : Res D} (h1 : evalEs C es η st = .ok ds st1) (h3 : blt b ds st1 = r) : evalE C (.blt b es) η st = r := by
  rw [evalE, h1, ok_bind', h3]
theorem ev_blt1 {C : Cst} {b : Blt} {a : Ex} {η : Env} {x : D} {st st1 : Sto} {r : Res D} (hs : noStar a = true) (h1 : evalE C a η st = .ok x st1) (h3 : blt b [x] st1 = r) : evalE C (.blt b [a]) η st = r := ev_blt (es_ok hs h1 es_nil) h3
theorem ev_frl {C : Cst} {l : Lx} {η : Env} {ds : List D} {st st1 : Sto} (h : evalL C l η st = .ok ds st1) : evalE C (.frl l) η st = .ok (.lst ds) st1 := by
  rw [evalE, h, ok_bind']
theorem ev_own {C : Cst} {l : Lx} {η : Env} {ds : List D} {st st1 : Sto} (h : evalL C l η st = .ok ds st1) : evalE C (.own l) η st = .ok (.obj st1.length) (.lst ds :: st1) := by
  rw [evalE, h, ok_bind']
theorem el_disp {C : Cst} {es : List Ex} {η : Env} {ds : List D} {st st1 : Sto} (h : evalEs C es η st = .ok ds st1) (hl : ds.length ≤ LIM) : evalL C (.disp es) η st = .ok ds st1 := by
  rw [evalL, h, ok_bind']
  unfold lim
  rw [if_pos hl]
theorem ev_call {C : Cst} {f : Nat} {es : List Ex} {η : Env} {ds : List D} {st st1 : Sto} {r : Res D} (h : evalEs C es η st = .ok ds st1) (h2 : C.call f ds st1 = r) : evalE C (.call f es) η st = r := by
  rw [evalE, h, ok_bind', h2]
/-- a def's call -/
theorem call_rt {P : Prg} {n f : Nat} {d : Def} {ds : List D} {st st' : Sto} {x : D} (hd : P.defs[f]? = some d) (hn : ds.length = d.np) (h : execs ⟨P.glbs, callD P n⟩ d.body (ds.map some ++ List.replicate (d.ns - d.np) none) st = .ok (.rt x) st') : callD P (n + 1) f ds st = .ok x st' := by
  rw [callD]
  simp only [hd]
  rw [if_pos hn, h]
  rfl
theorem ev_isub {C : Cst} {o i e : Ex} {η : Env} {v x y : D} {st st1 st2 st3 st4 : Sto} (h1 : evalE C e η st = .ok v st1) (h2 : evalE C o η st1 = .ok x st2) (h3 : evalE C i η st2 = .ok y st3) (h4 : isub x y v st3 = .ok () st4) : execS C (.isub o i e) η st = .ok (.nx η) st4 := by
  rw [execS, h1, ok_bind', h2, ok_bind', h3, ok_bind', h4]
  rfl
/-- the loop that opens the next cell -/
theorem pick_loop (C : Cst) (m : D) (x3 x4 x5 : Option D) (top : Sto) : ∀ (n : Nat) (b : Bs), b.cs.length < n →
    ∃ b' : Bs, whlD (evalE C (.and (.cmp .lt (.idx (.var 0) (.str ⟨#[108, 101, 102, 116]⟩)) (.int 2)) (.cmp .gt (.blt .len [.var 2]) (.int 0)))) (execs C [.isub (.var 0) (.str ⟨#[108, 101, 102, 116]⟩) (.mth .pop (.var 2) [])]) n
      [some (.obj 1), some m, some (.obj 0), x3, x4, x5] (top ++ bs b) = .ok (.nx [some (.obj 1), some m, some (.obj 0), x3, x4, x5]) (top ++ bs b') ∧ b'.cs.length ≤ b.cs.length
  | 0, b, h => by omega
  | n + 1, b, h => by
    simp only [whlD, evalE, List.getElem?_cons_zero, ok_bind', get_left, List.getElem?_cons_succ, evalEs, len_cells, cmp_lt, cmp_gt, Option.map_some, ofO]
    by_cases hl : b.l < 2
    · simp only [hl, decide_true, ok_bind']
      by_cases hc : (0 : Int) < b.cs.length
      · simp only [hc, decide_true, ok_bind']
        obtain ⟨cs, c, e⟩ : ∃ cs c, b.cs = cs ++ [c] := by
          have : b.cs ≠ [] := fun e => by rw [e] at hc; simp at hc
          exact ⟨b.cs.dropLast, b.cs.getLast this, (List.dropLast_concat_getLast this).symm⟩
        simp only [execs, execS, evalE, List.getElem?_cons_zero, List.getElem?_cons_succ, ok_bind', lst0, evalEs, pop_cells e, put_left]
        have hlen : cs.length < b.cs.length := by rw [e]; simp
        obtain ⟨b', h1, h2⟩ := pick_loop C m x3 x4 x5 top n ⟨cs, c, b.m, b.t⟩ (by show cs.length < n; omega)
        exact ⟨b', h1, Nat.le_trans h2 (Nat.le_of_lt hlen)⟩
      · simp only [hc, decide_false, ok_bind']
        exact ⟨b, rfl, Nat.le_refl _⟩
    · simp only [hl, decide_false, ok_bind']
      exact ⟨b, rfl, Nat.le_refl _⟩
/-- what a drawn number is -/
def Drawn (m v : Int) : Prop := 0 ≤ v ∧ (2 ≤ m → v < m) ∧ (m < 2 → v = 0)
theorem op_add {i j : Int} {st : Sto} : op2 .add (.int i) (.int j) st = .ok (.int (i + j)) st := rfl
theorem op_sub {i j : Int} {st : Sto} : op2 .sub (.int i) (.int j) st = .ok (.int (i - j)) st := rfl
theorem op_mul {i j : Int} {st : Sto} (h : i.natAbs < 18446744073709551616 ∨ j.natAbs < 18446744073709551616) : op2 .mul (.int i) (.int j) st = .ok (.int (i * j)) st := by
  show (if _ then _ else _) = _
  rw [if_pos (.inl h)]
theorem op_mod {i j : Int} {st : Sto} (h : j ≠ 0) : op2 .mod (.int i) (.int j) st = .ok (.int (fm i j)) st := by
  show (if _ then _ else _) = _
  rw [if_pos h]
theorem op_fdiv {i j : Int} {st : Sto} (h : j ≠ 0) (k : j.natAbs.log2 < 9000) : op2 .fdiv (.int i) (.int j) st = .ok (.int (fd i j)) st := by
  show (if _ then _ else _) = _
  rw [if_pos ⟨h, k⟩]
theorem blt_int {i : Int} {st : Sto} : blt .int [.int i] st = .ok (.int i) st := rfl
theorem small_log {j : Int} (h : j.natAbs < 2 ^ 64) : j.natAbs.log2 < 9000 := by
  by_cases e : j.natAbs = 0
  · rw [e]; decide
  · have := (Nat.log2_lt e).mpr h
    omega
theorem fm_drawn {i m : Int} (h : 2 ≤ m) : Drawn m (fm i m) := by
  unfold fm
  rw [if_pos (by omega)]
  exact ⟨Int.emod_nonneg _ (by omega), fun _ => Int.emod_lt_of_pos _ (by omega), fun h2 => by omega⟩
theorem fm_range (i : Int) : (fm i 998244353).natAbs < 18446744073709551616 := by
  have h1 : 0 ≤ fm i 998244353 := by unfold fm; rw [if_pos (by decide)]; exact Int.emod_nonneg _ (by decide)
  have h2 : fm i 998244353 < 998244353 := by unfold fm; rw [if_pos (by decide)]; exact Int.emod_lt_of_pos _ (by decide)
  omega
theorem pick_run (C : Cst) (b : Bs) (top : Sto) (m : Int) (hb : b.cs.length ≤ 63) (hm : m.natAbs < 2 ^ 64) :
    ∃ (v : Int) (b' : Bs), execs C b_pick [some (.obj 1), some (.int m), none, none, none, none] (top ++ bs b) = .ok (.rt (.int v)) (top ++ bs b') ∧ b'.cs.length ≤ 63 ∧ Drawn m v := by
  unfold b_pick
  by_cases h2 : m < 2
  · refine ⟨0, b, ?_, hb, Int.le_refl _, fun h => by omega, fun _ => rfl⟩
    refine ex_rt ?_
    rw [ex_t (ev_cmp (r := true) (ev_var rfl) ev_int (by rw [cmp_lt, decide_eq_true h2]))]
    exact ex_rt (ex_ret ev_int)
  rw [ex_nx (by rw [ex_f (ev_cmp (r := false) (ev_var rfl) ev_int (by rw [cmp_lt, decide_eq_false h2]))]; exact ex_nil)]
  rw [ex_nx (ex_set (ev_idx (ev_var rfl) ev_str get_cells))]
  obtain ⟨b1, e1, h1⟩ := pick_loop C (.int m) none none none top LAPS b (by have : LAPS = 1000000 := rfl; omega)
  rw [ex_nx (s := pkW) (by unfold pkW; rw [execS]; exact e1)]
  rw [ex_nx (ex_set (ev_idx (ev_var rfl) ev_str get_left))]
  have m0 : m ≠ 0 := by omega
  by_cases h3 : 1 < b1.l
  · have c : execS C pkI ([some (.obj 1), some (.int m), some (.obj 0), some (.int b1.l), none, none]) (top ++ bs b1) = .ok (.rt (.int (fm b1.l m))) (top ++ bs ⟨b1.cs, fd b1.l m, b1.m, b1.t⟩) := by
      unfold pkI
      rw [ex_t (ev_cmp (r := true) (ev_var rfl) ev_int (by rw [cmp_gt, decide_eq_true h3]))]
      rw [ex_nx (ev_isub (ev_op (ev_var rfl) (ev_var rfl) (op_fdiv m0 (small_log hm))) (ev_var rfl) ev_str put_left)]
      exact ex_rt (ex_ret (ev_op (ev_blt1 rfl (ev_var rfl) blt_int) (ev_var rfl) (op_mod m0)))
    exact ⟨_, _, ex_rt c, Nat.le_trans h1 hb, fm_drawn (by omega)⟩
  · have c : execS C pkI ([some (.obj 1), some (.int m), some (.obj 0), some (.int b1.l), none, none]) (top ++ bs b1) = .ok (.nx [some (.obj 1), some (.int m), some (.obj 0), some (.int b1.l), none, none]) (top ++ bs b1) := by
      unfold pkI
      rw [ex_f (ev_cmp (r := false) (ev_var rfl) ev_int (by rw [cmp_gt, decide_eq_false h3]))]
      exact ex_nil
    refine ⟨_, ⟨b1.cs, b1.l, b1.m, b1.t + 1⟩, ?_, Nat.le_trans h1 hb, fm_drawn (m := m) (i := fd (fm (fm (b1.m + (b1.t + 1) * 104729) 998244353 * fm (b1.m + (b1.t + 1) * 104729) 998244353 + (b1.t + 1) * 17) 2147483647) 16) (by omega)⟩
    refine (ex_nx c).trans ?_
    rw [ex_nx (ev_isub (ev_op (ev_idx (ev_var rfl) ev_str get_turn) ev_int op_add) (ev_var rfl) ev_str put_turn)]
    rw [ex_nx (ex_set (ev_idx (ev_var rfl) ev_str get_turn))]
    rw [ex_nx (ex_set (by
      unfold pk5
      exact ev_op (ev_blt1 rfl (ev_op (ev_idx (ev_var rfl) ev_str get_mixed) (ev_op (ev_var rfl) ev_int (op_mul (.inr (by decide)))) op_add) blt_int) ev_int (op_mod (by decide))))]
    rw [ex_nx (ex_set (by
      unfold pk6
      exact ev_op (ev_blt1 rfl (ev_op (ev_op (ev_var rfl) (ev_var rfl) (op_mul (.inl (fm_range _)))) (ev_op (ev_var rfl) ev_int (op_mul (.inr (by decide)))) op_add) blt_int) ev_int (op_mod (by decide))))]
    exact ex_rt (ex_ret (ev_op (ev_blt1 rfl (ev_op (ev_var rfl) ev_int (op_fdiv (by decide) (by decide))) blt_int) (ev_var rfl) (op_mod m0)))
end Dv
namespace Dv
open PySem (Str)
theorem take_perm {α : Type} : ∀ {xs : List α} {j : Nat} (h : j < xs.length), (xs[j] :: xs.eraseIdx j).Perm xs
  | x :: xs, 0, _ => .refl _
  | x :: xs, j + 1, h => by
    have h : j < xs.length := by simpa using h
    show (xs[j] :: x :: xs.eraseIdx j).Perm (x :: xs)
    exact (List.Perm.swap x _ _).trans ((take_perm h).cons x)
theorem comp_map {f : D → Sto → Res (List D)} {g : D → List D} {st : Sto} {gs : Guards} (hg : guardOk st gs = true) : ∀ {ds : List D}, (∀ d ∈ ds, f d st = .ok (g d) st) → compL f gs ds st = .ok (ds.flatMap g) st
  | [], _ => rfl
  | d :: ds, h => by
    rw [compL, h d (List.mem_cons_self ..), ok_bind', if_pos hg, comp_map hg fun x hx => h x (List.mem_cons_of_mem _ hx), ok_bind']
    rfl
/-- what a call of the drawing does -/
def PickOk (C : Cst) (ip : Nat) : Prop := ∀ (b : Bs) (top : Sto) (m : Int), b.cs.length ≤ 63 → m.natAbs < 2 ^ 64 →
  ∃ (v : Int) (b' : Bs), C.call ip [.obj 1, .int m] (top ++ bs b) = .ok (.int v) (top ++ bs b') ∧ b'.cs.length ≤ 63 ∧ Drawn m v
theorem pick_ok {P : Prg} {ip n : Nat} (h : P.defs[ip]? = some ⟨2, 6, b_pick⟩) : PickOk ⟨P.glbs, callD P (n + 1)⟩ ip := by
  intro b top m hb hm
  obtain ⟨v, b', e, h1, h2⟩ := pick_run ⟨P.glbs, callD P n⟩ b top m hb hm
  exact ⟨v, b', call_rt h rfl e, h1, h2⟩
theorem ev_len {C : Cst} {i : Nat} {η : Env} {d : D} {xs : List D} {st : Sto} (h : η[i]? = some (some d)) (hn : ∀ z, d ≠ .str z) (hs : seqOf st d = some xs) : evalE C (.blt .len [.var i]) η st = .ok (.int xs.length) st := by
  refine ev_blt1 rfl (ev_var h) ?_
  unfold blt
  split <;> first
    | (rename_i hx; cases hx; exact absurd rfl (hn _))
    | skip
  · rename_i hx
    cases hx
    simp only [hs]
  all_goals simp_all
end Dv
namespace Dv.Cut
section
variable {α : Type} [deq : DecidableEq α]
def inn (B s : List α) : List α := B.filter fun c => decide (c ∈ s)
def out (B s : List α) : List α := B.filter fun c => decide (c ∉ s)
/-- given and side cut the block -/
def cuts (p : List α × List α) (B : List α) : Prop := (∀ c ∈ B, c ∉ p.1) ∧ (∃ c ∈ B, c ∈ p.2) ∧ ∃ c ∈ B, c ∉ p.2
/-- a partition of rest into blocks that keep rest's order -/
structure Pt (rest : List α) (L : List (List α)) : Prop where
  sub : ∀ B ∈ L, B = rest.filter fun c => decide (c ∈ B)
  ne : ∀ B ∈ L, B ≠ []
  cov : ∀ c ∈ rest, ∃ B ∈ L, c ∈ B
  dis : L.Pairwise fun B C => ∀ c, c ∈ B → c ∉ C
theorem Pt.perm {rest : List α} {L M : List (List α)} (h : Pt rest L) (p : L.Perm M) : Pt rest M :=
  ⟨fun B hB => h.sub B (p.mem_iff.mpr hB), fun B hB => h.ne B (p.mem_iff.mpr hB), fun c hc => let ⟨B, h1, h2⟩ := h.cov c hc; ⟨B, p.mem_iff.mp h1, h2⟩,
    (p.pairwise_iff fun h c hc hb => h c hb hc).mp h.dis⟩
theorem Pt.mem {rest : List α} {L : List (List α)} (h : Pt rest L) {B : List α} (hB : B ∈ L) {c : α} (hc : c ∈ B) : c ∈ rest := by
  rw [h.sub B hB] at hc
  exact (List.mem_filter.mp hc).1
theorem Pt.one {rest : List α} {L : List (List α)} (h : Pt rest L) {B C : List α} (hB : B ∈ L) (hC : C ∈ L) {c : α} (b : c ∈ B) (d : c ∈ C) : B = C := by
  by_cases e : B = C
  · exact e
  · have p1 : L.Pairwise fun B C => B ≠ C → ∀ c, c ∈ B → c ∉ C := by
      refine h.dis.imp ?_
      intro B C h _
      exact h
    have p2 : L.Pairwise (flip fun B C => B ≠ C → ∀ c, c ∈ B → c ∉ C) := by
      refine h.dis.imp ?_
      intro B C h _ c x y
      exact h c y x
    exact ((List.Pairwise.forall_of_forall_of_flip (fun B _ h => absurd rfl h) p1 p2) hB hC e c b d).elim
theorem mem_inn {B s : List α} {c : α} : c ∈ inn B s ↔ c ∈ B ∧ c ∈ s := by simp [inn]
theorem mem_out {B s : List α} {c : α} : c ∈ out B s ↔ c ∈ B ∧ c ∉ s := by simp [out]
/-- a cut -/
theorem Pt.cut {rest : List α} {B : List α} {R : List (List α)} {p : List α × List α} (h : Pt rest (B :: R)) (k : cuts p B) : Pt rest (inn B p.2 :: out B p.2 :: R) := by
  have hB := h.sub B (List.mem_cons_self ..)
  have dB := List.pairwise_cons.mp h.dis
  refine ⟨fun C hC => ?_, fun C hC => ?_, fun c hc => ?_, ?_⟩
  · rcases List.mem_cons.mp hC with rfl | hC
    · conv => lhs; unfold inn; rw [hB, List.filter_filter]
      refine List.filter_congr fun c hc => ?_
      rw [Bool.eq_iff_iff]
      simp [mem_inn, and_comm]
    · rcases List.mem_cons.mp hC with rfl | hC
      · conv => lhs; unfold out; rw [hB, List.filter_filter]
        refine List.filter_congr fun c hc => ?_
        rw [Bool.eq_iff_iff]
        simp [mem_out, and_comm]
      · exact h.sub C (List.mem_cons_of_mem _ hC)
  · obtain ⟨_, ⟨c, h1, h2⟩, d, h3, h4⟩ := k
    rcases List.mem_cons.mp hC with rfl | hC
    · exact List.ne_nil_of_mem (mem_inn.mpr ⟨h1, h2⟩)
    · rcases List.mem_cons.mp hC with rfl | hC
      · exact List.ne_nil_of_mem (mem_out.mpr ⟨h3, h4⟩)
      · exact h.ne C (List.mem_cons_of_mem _ hC)
  · obtain ⟨C, h1, h2⟩ := h.cov c hc
    rcases List.mem_cons.mp h1 with rfl | h1
    · by_cases e : c ∈ p.2
      · exact ⟨_, List.mem_cons_self .., mem_inn.mpr ⟨h2, e⟩⟩
      · exact ⟨_, List.mem_cons_of_mem _ (List.mem_cons_self ..), mem_out.mpr ⟨h2, e⟩⟩
    · exact ⟨C, List.mem_cons_of_mem _ (List.mem_cons_of_mem _ h1), h2⟩
  · refine List.pairwise_cons.mpr ⟨fun C hC c hc => ?_, List.pairwise_cons.mpr ⟨fun C hC c hc => dB.1 C hC c (mem_out.mp hc).1, dB.2⟩⟩
    rcases List.mem_cons.mp hC with rfl | hC
    · exact fun z => (mem_out.mp z).2 (mem_inn.mp hc).2
    · exact dB.1 C hC c (mem_inn.mp hc).1
/-- what is come to by cuts -/
inductive Reach (told : List (List α × List α)) : List (List α) → List (List α) → Prop
  | refl (L) : Reach told L L
  | perm {L M N} : Reach told L M → M.Perm N → Reach told L N
  | cut {L : List (List α)} {B : List α} {R : List (List α)} {p : List α × List α} : Reach told L (B :: R) → p ∈ told → cuts p B → Reach told L (inn B p.2 :: out B p.2 :: R)
def Stable (told : List (List α × List α)) (L : List (List α)) : Prop := ∀ B ∈ L, ∀ p ∈ told, ¬ cuts p B
/-- the whole, as one block -/
def one (rest : List α) : List (List α) := if rest = [] then [] else [rest]
theorem one_pt (rest : List α) : Pt rest (one rest) := by
  unfold one
  split
  · rename_i h
    subst h
    exact ⟨fun B hB => by simp at hB, fun B hB => by simp at hB, fun c hc => by simp at hc, .nil⟩
  · rename_i h
    refine ⟨fun B hB => ?_, fun B hB => ?_, fun c hc => ⟨rest, List.mem_singleton.mpr rfl, hc⟩, List.pairwise_singleton _ _⟩
    · rw [List.mem_singleton.mp hB]
      symm
      rw [List.filter_eq_self]
      intro c hc
      simpa using hc
    · rw [List.mem_singleton.mp hB]
      exact h
theorem Reach.pt {told : List (List α × List α)} {rest : List α} {L : List (List α)} (h : Reach told (one rest) L) : Pt rest L := by
  induction h with
  | refl => exact one_pt rest
  | perm _ p ih => exact ih.perm p
  | cut _ _ k ih => exact ih.cut k
theorem Pt.nodup {rest : List α} {L : List (List α)} (h : Pt rest L) : L.Nodup := by
  have : ∀ {M : List (List α)}, (∀ B ∈ M, B ≠ []) → M.Pairwise (fun B C => ∀ c, c ∈ B → c ∉ C) → M.Nodup := fun {M} ne d => by
    induction M with
    | nil => exact List.nodup_nil
    | cons B M ih =>
      have d := List.pairwise_cons.mp d
      refine List.nodup_cons.mpr ⟨fun hB => ?_, ih (fun C hC => ne C (List.mem_cons_of_mem _ hC)) d.2⟩
      obtain ⟨c, hc⟩ := List.exists_mem_of_ne_nil B (ne B (List.mem_cons_self ..))
      exact d.1 B hB c hc hc
  exact this h.ne h.dis
end
end Dv.Cut
namespace Dv
open PySem (Str)
open Cut
def tupS (cs : List Str) : D := .tup (cs.map .str)
def lstS (cs : List Str) : D := .lst (cs.map .str)
theorem flat_strs {n : Nat} (cs : List Str) : (cs.map D.str).all (flat (n + 1)) = true := by
  rw [List.all_eq_true]
  intro x hx
  obtain ⟨c, _, rfl⟩ := List.mem_map.mp hx
  rfl
theorem flat_tupS {n : Nat} {cs : List Str} : flat (n + 2) (tupS cs) = true := flat_strs cs
theorem flat_lstS {n : Nat} {cs : List Str} : flat (n + 2) (lstS cs) = true := flat_strs cs
theorem data_str {c : Str} {st : Sto} : data st (.str c) = some (.str c) := data_flat rfl
theorem data_tupS {cs : List Str} {st : Sto} : data st (tupS cs) = some (tupS cs) := data_flat flat_tupS
theorem data_lstS {cs : List Str} {st : Sto} : data st (lstS cs) = some (lstS cs) := data_flat flat_lstS
theorem eq_str {a b : Str} : eqD (.str a) (.str b) = decide (a = b) := by
  show (a == b) = _
  rw [Bool.eq_iff_iff]
  simp
theorem eqs_str : ∀ {a b : List Str}, eqDs (a.map .str) (b.map .str) = decide (a = b)
  | [], [] => by simp [eqDs]
  | [], _ :: _ => by simp [eqDs]
  | _ :: _, [] => by simp [eqDs]
  | x :: a, y :: b => by
    show (eqD (.str x) (.str y) && eqDs (a.map .str) (b.map .str)) = _
    rw [eq_str, eqs_str, Bool.eq_iff_iff]
    simp
theorem any_str {c : Str} : ∀ {b : List Str}, ((b.map D.str).any fun z => eqD z (.str c)) = decide (c ∈ b)
  | [] => by simp
  | x :: b => by
    rw [List.map_cons, List.any_cons, any_str, eq_str, Bool.eq_iff_iff]
    simp only [Bool.or_eq_true, decide_eq_true_eq, List.mem_cons]
    exact ⟨fun h => h.imp Eq.symm id, fun h => h.imp Eq.symm id⟩
theorem cmp_inT {c : Str} {b : List Str} {st : Sto} : cmp2 .inn (.str c) (tupS b) st = some (decide (c ∈ b)) := by
  show ((data st (.str c)).bind fun x => (data st (tupS b)).bind fun y => match y with
          | .tup ys => some (ys.any fun z => eqD z x)
          | .lst ys => some (ys.any fun z => eqD z x)
          | _ => none) = _
  rw [data_str, data_tupS]
  show some ((b.map D.str).any fun z => eqD z (.str c)) = _
  rw [any_str]
theorem cmp_inL {c : Str} {b : List Str} {st : Sto} : cmp2 .inn (.str c) (lstS b) st = some (decide (c ∈ b)) := by
  show ((data st (.str c)).bind fun x => (data st (lstS b)).bind fun y => match y with
          | .tup ys => some (ys.any fun z => eqD z x)
          | .lst ys => some (ys.any fun z => eqD z x)
          | _ => none) = _
  rw [data_str, data_lstS]
  show some ((b.map D.str).any fun z => eqD z (.str c)) = _
  rw [any_str]
theorem cmp_ninT {c : Str} {b : List Str} {st : Sto} : cmp2 .nin (.str c) (tupS b) st = some (decide (c ∉ b)) := by
  show (cmp2 .inn (.str c) (tupS b) st).map (!·) = _
  rw [cmp_inT]
  simp
theorem cmp_ninL {c : Str} {b : List Str} {st : Sto} : cmp2 .nin (.str c) (lstS b) st = some (decide (c ∉ b)) := by
  show (cmp2 .inn (.str c) (lstS b) st).map (!·) = _
  rw [cmp_inL]
  simp
theorem cmp_eqT {a b : List Str} {st : Sto} : cmp2 .eq (tupS a) (tupS b) st = some (decide (a = b)) := by
  show ((data st (tupS a)).bind fun x => (data st (tupS b)).map fun y => eqD x y) = _
  rw [data_tupS, data_tupS]
  exact congrArg some eqs_str
theorem cmp_neT {a b : List Str} {st : Sto} : cmp2 .ne (tupS a) (tupS b) st = some (!decide (a = b)) := by
  show ((data st (tupS a)).bind fun x => (data st (tupS b)).map fun y => !eqD x y) = _
  rw [data_tupS, data_tupS]
  exact congrArg (fun k => some (!k)) eqs_str
theorem cmp_neL {a b : List Str} {st : Sto} : cmp2 .ne (lstS a) (lstS b) st = some (!decide (a = b)) := by
  show ((data st (lstS a)).bind fun x => (data st (lstS b)).map fun y => !eqD x y) = _
  rw [data_lstS, data_lstS]
  exact congrArg (fun k => some (!k)) eqs_str
/-- a comprehension with one test that leaves the store; guards stand -/
theorem comp_filter {C : Cst} {j : Nat} {it c e : Ex} {η : Env} {st : Sto} {ds : List D} {gs : Guards} {p : D → Bool} {h : D → D} (hi : evalI C it η st = .ok (ds, gs) st) (hg : guardOk st gs = true) (hl : ds.length ≤ LIM)
    (hc : ∀ d ∈ ds, evalE C c ((η.set j none).set j (some d)) st = .ok (.bl (p d)) st) (he : ∀ d ∈ ds, p d = true → evalE C e ((η.set j none).set j (some d)) st = .ok (h d) st) :
    evalL C (.comp [j] (.nm j) it [c] e) η st = .ok ((ds.filter p).map h) st := by
  rw [evalL, hi, ok_bind']
  show (if ds.length ≤ LIM then _ else _) = _
  rw [if_pos hl]
  rw [comp_map (g := fun d => if p d then [h d] else []) hg fun d hd => ?_]
  · congr 1
    clear hi hl hc he
    induction ds with
    | nil => rfl
    | cons d ds ih =>
      rw [List.flatMap_cons, List.filter_cons, ih]
      cases p d <;> rfl
  · show ((condsE C [c] ((η.set j none).set j (some d)) st).bind fun b st => if b then (evalE C e ((η.set j none).set j (some d)) st).noexc.bind fun x st => .ok [x] st else .ok [] st) = _
    have hc := hc d hd
    have e1 : condsE C [c] ((η.set j none).set j (some d)) st = .ok (p d) st := by
      rw [condsE, hc]
      cases p d with
      | true => simp only [Res.noexc, ok_bind', condsE]
      | false => rfl
    rw [e1, ok_bind']
    cases hp : p d with
    | true => rw [if_pos rfl, he d hd hp]; rfl
    | false => rw [if_neg Bool.false_ne_true]; rfl
/-- .. without a test -/
theorem comp_plain {C : Cst} {j : Nat} {it e : Ex} {η : Env} {st : Sto} {ds : List D} {gs : Guards} {h : D → D} (hi : evalI C it η st = .ok (ds, gs) st) (hg : guardOk st gs = true) (hl : ds.length ≤ LIM)
    (he : ∀ d ∈ ds, evalE C e ((η.set j none).set j (some d)) st = .ok (h d) st) : evalL C (.comp [j] (.nm j) it [] e) η st = .ok (ds.map h) st := by
  rw [evalL, hi, ok_bind']
  show (if ds.length ≤ LIM then _ else _) = _
  rw [if_pos hl]
  rw [comp_map (g := fun d => [h d]) hg fun d hd => ?_]
  · congr 1
    clear hi hl he
    induction ds with
    | nil => rfl
    | cons d ds ih =>
      rw [List.flatMap_cons, ih]
      rfl
  · show ((condsE C [] ((η.set j none).set j (some d)) st).bind fun b st => if b then (evalE C e ((η.set j none).set j (some d)) st).noexc.bind fun x st => .ok [x] st else .ok [] st) = _
    have e1 : condsE C [] ((η.set j none).set j (some d)) st = .ok true st := by rw [condsE]
    rw [e1, ok_bind', if_pos rfl, he d hd]
    rfl
theorem ei_var {C : Cst} {i : Nat} {η : Env} {d : D} {ds : List D} {st : Sto} (h : η[i]? = some (some d)) (hi : iterOf st d = some ds) : evalI C (.itv (.var i)) η st = .ok (ds, guardOf st d) st := by
  rw [evalI, ev_var h, ok_bind']
  simp only [hi]
end Dv
namespace Dv
open PySem (Str)
open Cut
def strOf : D → Str
  | .str c => c
  | _ => ⟨#[]⟩
def sortS (cs : List Str) : List Str := (sortD (cs.map .str)).map strOf
theorem sortD_perm (ds : List D) : (sortD ds).Perm ds := List.mergeSort_perm _ _
theorem sortS_map (cs : List Str) : sortD (cs.map .str) = (sortS cs).map .str := by
  unfold sortS
  rw [List.map_map]
  have h : ∀ d ∈ sortD (cs.map .str), (D.str ∘ strOf) d = d := fun d hd => by
    have := (sortD_perm _).mem_iff.mp hd
    obtain ⟨c, _, rfl⟩ := List.mem_map.mp this
    rfl
  exact (List.map_congr_left h).trans (List.map_id _) |>.symm
theorem sortS_perm (cs : List Str) : (sortS cs).Perm cs := by
  have p := (sortD_perm (cs.map .str)).map strOf
  rw [List.map_map] at p
  have e : cs.map (strOf ∘ D.str) = cs := List.map_id _
  rw [e] at p
  exact p
theorem sortS_mem {cs : List Str} {c : Str} : c ∈ sortS cs ↔ c ∈ cs := (sortS_perm cs).mem_iff
theorem nub_mem : ∀ (xs : List Str) (c : Str), c ∈ nubS xs ↔ c ∈ xs
  | [], c => Iff.rfl
  | x :: xs, c => by
    unfold nubS
    split
    · rename_i h
      rw [nub_mem xs c]
      exact ⟨List.mem_cons_of_mem _, fun h2 => (List.mem_cons.mp h2).elim (fun e => by rw [e]; exact List.contains_iff_mem.mp h) id⟩
    · rw [List.mem_cons, List.mem_cons, nub_mem xs c]
theorem nub_nodup : ∀ xs : List Str, (nubS xs).Nodup
  | [] => List.nodup_nil
  | x :: xs => by
    unfold nubS
    split
    · exact nub_nodup xs
    · rename_i h
      exact List.nodup_cons.mpr ⟨fun k => h (List.contains_iff_mem.mpr ((nub_mem xs x).mp k)), nub_nodup xs⟩
theorem kin_strs {cs : List Str} : allKin (cs.map .str) = true := by
  unfold allKin
  rw [List.all_eq_true]
  intro x hx
  rw [List.all_eq_true]
  intro y hy
  (obtain ⟨a, _, rfl⟩ := List.mem_map.mp hx)
  (obtain ⟨b, _, rfl⟩ := List.mem_map.mp hy)
  rfl
theorem sortable_strs {cs : List Str} : sortable (cs.map .str) = true := by
  unfold sortable
  rw [Bool.or_eq_true]
  right
  rw [List.all_eq_true]
  intro x hx
  (obtain ⟨a, _, rfl⟩ := List.mem_map.mp hx)
  rfl
theorem depth_strs : ∀ cs : List Str, PySem.PyData.depthAll (pys (cs.map .str)) = 0
  | [] => by simp [pys, PySem.PyData.depthAll]
  | c :: cs => by simp [pys, py, PySem.PyData.depthAll, PySem.PyData.depth, depth_strs cs]
theorem plains_strs {cs : List Str} : plains (cs.map .str) = true := by
  rw [plains_all, List.all_eq_true]
  intro x hx
  (obtain ⟨a, _, rfl⟩ := List.mem_map.mp hx)
  rfl
theorem blt_sortS {cs : List Str} {st : Sto} : blt .sorted [lstS cs] st = .ok (lstS (sortS cs)) st := by
  have h : (plains (cs.map .str) && allKin (cs.map .str) && sortable (cs.map .str) && decide (PySem.PyData.depthAll (pys (cs.map .str)) ≤ 100)) = true := by
    rw [plains_strs, kin_strs, sortable_strs, depth_strs]
    rfl
  have e : blt .sorted [lstS cs] st = if (plains (cs.map .str) && allKin (cs.map .str) && sortable (cs.map .str) && decide (PySem.PyData.depthAll (pys (cs.map .str)) ≤ 100)) = true then .ok (.lst (sortD (cs.map .str))) st else .bad := rfl
  rw [e, if_pos h, sortS_map]
  rfl
theorem op_catS {a b : List Str} {st : Sto} (h : a.length + b.length ≤ LIM) : op2 .add (lstS a) (lstS b) st = .ok (lstS (a ++ b)) st := by
  have e : op2 .add (lstS a) (lstS b) st = if (a.map D.str).length + (b.map D.str).length ≤ LIM then .ok (.lst (a.map .str ++ b.map .str)) st else .bad := rfl
  rw [e, List.length_map, List.length_map, if_pos h, ← List.map_append]
  rfl
abbrev Split := List Str × List Str
end Dv
namespace Dv
open PySem (Str)
open Cut
/-- the store stands behind younger objects -/
def Behind (st0 st : Sto) : Prop := ∃ pre, st = pre ++ st0
theorem Behind.cons {st0 st : Sto} {o : O} (h : Behind st0 st) : Behind st0 (o :: st) := by
  obtain ⟨pre, rfl⟩ := h
  exact ⟨o :: pre, rfl⟩
theorem Behind.put {st0 st : Sto} {n : Nat} {o : O} (h : Behind st0 st) (hn : st0.length ≤ n) (hl : n < st.length) : Behind st0 (st.put n o) := by
  obtain ⟨pre, rfl⟩ := h
  unfold Sto.put
  rw [List.length_append] at hl ⊢
  rw [List.set_append_left _ _ (by omega)]
  exact ⟨_, rfl⟩
def wt (B : List Str) : Nat := if B = [] then 1 else 2 * B.length - 1
def mu (L : List (List Str)) : Nat := (L.map wt).sum
theorem split_len (B s : List Str) : (inn B s).length + (out B s).length = B.length := by
  unfold inn out
  induction B with
  | nil => rfl
  | cons c B ih =>
    (rw [List.filter_cons, List.filter_cons])
    by_cases h : c ∈ s
    · simp only [h, decide_true, not_true_eq_false, decide_false, if_true, List.length_cons, Bool.false_eq_true, if_false]
      omega
    · simp only [h, decide_false, not_false_eq_true, decide_true, if_true, List.length_cons, Bool.false_eq_true, if_false]
      omega
def neL (L : List (List Str)) : List (List Str) := L.filter fun B => !B.isEmpty
theorem eqs_nil : ∀ xs : List D, eqDs xs [] = xs.isEmpty
  | [] => by simp [eqDs]
  | _ :: _ => by simp [eqDs]
end Dv
namespace Dv
open PySem (Str)
open Cut
end Dv
namespace Dv
open PySem (Str)
/-- names in their order -/
def nmLt (a b : Str) : Prop := a.cps.toList < b.cps.toList
instance (a b : Str) : Decidable (nmLt a b) := inferInstanceAs (Decidable (a.cps.toList < b.cps.toList))
theorem str_ext {a b : Str} (h : a.cps.toList = b.cps.toList) : a = b := by
  obtain ⟨x⟩ := a
  obtain ⟨y⟩ := b
  have h : x.toList = y.toList := h
  rw [Array.toList_inj.mp h]
theorem nm_irr (a : Str) : ¬ nmLt a a := List.lt_irrefl _
theorem nm_trans {a b c : Str} (h : nmLt a b) (k : nmLt b c) : nmLt a c := List.lt_trans h k
theorem nm_tri (a b : Str) : nmLt a b ∨ a = b ∨ nmLt b a := by
  by_cases h : nmLt a b
  · exact .inl h
  · by_cases k : nmLt b a
    · exact .inr (.inr k)
    · exact .inr (.inl (str_ext (List.le_antisymm (List.not_lt.mp k) (List.not_lt.mp h))))
end Dv
namespace Dv
open PySem L2 PyProof.Rows
def leN (a b : Str) : Bool := !decide (nmLt b a)
theorem leN_trans (a b c : Str) (h : leN a b = true) (k : leN b c = true) : leN a c = true := by
  unfold leN at *
  rw [Bool.not_eq_true', decide_eq_false_iff_not] at *
  intro e
  rcases nm_tri b c with t | t | t
  · exact h (nm_trans t e)
  · subst t
    exact h e
  · exact k t
theorem leN_total (a b : Str) : (leN a b || leN b a) = true := by
  unfold leN
  by_cases h : nmLt b a
  · have : ¬ nmLt a b := fun k => nm_irr _ (nm_trans h k)
    rw [decide_eq_true h, decide_eq_false this] <;> rfl
  · rw [decide_eq_false h] <;> rfl
theorem leN_anti {a b : Str} (h : leN a b = true) (k : leN b a = true) : a = b := by
  unfold leN at *
  rw [Bool.not_eq_true', decide_eq_false_iff_not] at *
  rcases nm_tri a b with t | t | t
  · exact (k t).elim
  · exact t
  · exact (h t).elim
theorem sortD_strs (l : List Str) : sortD (l.map .str) = (l.mergeSort leN).map .str := by
  unfold sortD
  symm
  refine List.map_mergeSort fun a _ b _ => ?_
  unfold leD leN
  show (!decide (nmLt b a)) = match some (decide (nmLt b a)) with | some true => false | _ => true
  cases decide (nmLt b a) <;> rfl
theorem rising_pw : ∀ (r : List Str) (p : Str), risingS p r = true → (∀ y ∈ r, leN p y = true) ∧ r.Pairwise fun a b => leN a b = true
  | [], p, _ => ⟨fun y hy => (nomatch hy), List.Pairwise.nil⟩
  | x :: r, p, h => by
    rw [risingS, Bool.and_eq_true, ltCps_eq] at h
    obtain ⟨h1, h2⟩ := h
    obtain ⟨a, b⟩ := rising_pw r x h2
    have h1 : leN p x = true := h1
    refine ⟨fun y hy => ?_, List.Pairwise.cons a b⟩
    (rcases List.mem_cons.mp hy with e | e)
    · rw [e]
      exact h1
    · exact leN_trans _ _ _ h1 (a y e)
theorem sorted_pw {r : List Str} (h : sortedS r = true) : r.Pairwise fun a b => leN a b = true := by
  cases r with
  | nil => exact List.Pairwise.nil
  | cons x r =>
    obtain ⟨a, b⟩ := rising_pw r x h
    exact List.Pairwise.cons a b
theorem sorted_one {ys l : List Str} (p : ys.Perm l) (h : sortedS ys = true) : ys.map D.str = sortD (l.map .str) := by
  rw [sortD_strs]
  congr 1
  exact List.Perm.eq_of_pairwise (le := fun a b => leN a b = true) (fun a b _ _ => leN_anti) (sorted_pw h) (List.pairwise_mergeSort leN_trans leN_total l) (p.trans (List.mergeSort_perm _ _).symm)
theorem SetOf.nub {xs l : List Str} (h : SetOf xs l) : l.Perm (nubS xs) :=
  (List.perm_ext_iff_of_nodup h.nd (nub_nodup xs)).mpr fun a => (h.mem a).trans (nub_mem xs a).symm
section
variable {K : PySem.W.Frag} {cl : Nat → Addr} {H : Hp} {ρ : Rho} {st : Sto}
theorem rels_txs : ∀ {ds : List D} {l : List Str} {vs : List V}, strsIn ds = some l → Rels K cl H ρ ds vs → vs = l.map V.str ∧ ∀ c ∈ l, PyData.strOk c = true
  | [], l, vs, h, r => by
    cases h
    cases r
    exact ⟨rfl, fun c hc => nomatch hc⟩
  | d :: ds, l, vs, h, r => by
    obtain ⟨v, us, rfl, a, b⟩ := r
    cases d with
    | str c =>
      obtain ⟨cs, h1, rfl⟩ := map_some (show (strsIn ds).map (c :: ·) = some l from h)
      obtain ⟨rfl, ok⟩ := a
      obtain ⟨rfl, oks⟩ := rels_txs h1 b
      refine ⟨rfl, fun x hx => ?_⟩
      rcases List.mem_cons.mp hx with e | e
      · rw [e]
        exact ok
      · exact oks x e
    | _ => cases h
theorem txs_rels : ∀ {ys : List Str}, (∀ c ∈ ys, PyData.strOk c = true) → Rels K cl H ρ (ys.map D.str) (ys.map V.str)
  | [], _ => rfl
  | y :: ys, h => ⟨_, _, rfl, ⟨rfl, h y (List.mem_cons_self ..)⟩, txs_rels fun c hc => h c (List.mem_cons_of_mem _ hc)⟩
theorem prs_rels : ∀ {ds : List D} {ps : List (D × D)} {vs : List V}, prsOf ds = some ps → Rels K cl H ρ ds vs →
    ∃ (as : List Addr) (kus : List (Key × V)), vs = as.map V.ref ∧ Paired (fun p kv => SqT K H p [kV kv.1, kv.2]) as kus ∧ RelK K cl H ρ ps kus
  | [], ps, vs, h, r => by
    cases h
    cases r
    exact ⟨[], [], rfl, .nil, rfl⟩
  | d :: ds, ps, vs, h, r => by
    obtain ⟨v, us, rfl, a, b⟩ := r
    unfold prsOf at h
    split at h
    · rename_i e
      cases e
    · rename_i k w r' e
      cases e
      obtain ⟨ok, h⟩ := ite_some h
      obtain ⟨qs, e1, rfl⟩ := map_some h
      obtain ⟨as, kus, rfl, pr, rk⟩ := prs_rels e1 b
      obtain ⟨p, xs, rfl, kk, rr⟩ := a
      obtain ⟨v1, t1, rfl, q1, v2, t2, rfl, q2, hz⟩ := rr
      cases hz
      obtain ⟨key, rfl⟩ := keyOk_rel ok q1
      exact ⟨p :: as, (key, v2) :: kus, rfl, .cons kk pr, key, v2, kus, rfl, q1, q2, rk⟩
    · cases h
end
section
variable {X : Cx} {cl : Nat → Addr} {C : Cst} {p : Expr} {e : Ex} {pos pos2 p1 p2 : Pos}
/-- set(xs), the only argument of a call -/
def rSet (X : Cx) : List V → Hp → VK → Prop := fun vs H Q => ∃ (p : Addr) (xs : List Str), vs = [.ref p] ∧ (SqL X.K H p (xs.map V.str) ∨ SqT X.K H p (xs.map V.str)) ∧ xs.length ≤ 1000 ∧
    ∀ q l, H q = none → SetOf xs l → Q (.ref q) (upd H q (TxO X.prog X.w q l))
def tSet1 (X : Cx) (ta : TA) : TE := fun σ H Q => ta σ H fun vs H1 => rSet X vs H1 Q
theorem pe_set1 {ta : TA} (hc : X.calm = true) (hg2 : Gl X "set") (hm2 : X.mg "set" = none) (ha : PA X [p] ta) (hs : isStarP p = false) : PE X (.Call (.Name "set" p2) [p] [] pos2) (tSet1 X ta) :=
  peImp (pe_callTy (r := rSet X) (cr_setTx hc) hg2 hm2 PyProof.Rows.boot_set ha (by decide) (by decide) (star_no hs) rfl) fun σ H Q h => h
theorem set_seq {ev : Env → Sto → Res (List D)} {Q' : V → Hp → Prop} {Q : V → Hp → Prop} {f : List Str → Sto → Res D} {σ : L2.St} {H : Hp} {ρ : Rho} {η : Env} {st : Sto} (re : REnv X.K cl H ρ η σ) (rs : RepS X.K cl H ρ st)
    (h : Post X.K cl (Rel X.K cl) H ρ ((ev η st).bind fun ds st1 => match ds with | [d] => (match (seqOf st1 d).bind strsIn with | some l => if l.length < 64 then f l st1 else .bad | none => .bad) | _ => .bad) Q EF)
    (k : ∀ q H1 st1 ρ1 xs l, H1 q = none → Step H ρ H1 ρ1 → RepS X.K cl H1 ρ1 st1 → SetOf xs l → xs.length < 64 → (∀ c ∈ xs, PyData.strOk c = true) → Post X.K cl (Rel X.K cl) H1 ρ1 (f xs st1) Q EF → Q' (.ref q) (upd H1 q (TxO X.prog X.w q l))) :
    tSet1 X (TA1 X cl ev) σ H Q' :=
  TD.seq (E := EF) re rs h fun vs H1 ds st1 ρ1 s1 re1 rs1 r1 h1 => by
    split at h1
    · rename_i d
      obtain ⟨v, rfl, rv⟩ := r1.one
      split at h1
      · rename_i xs e1
        obtain ⟨ds, e2, e3⟩ := bind_some e1
        split at h1
        · rename_i h64
          obtain ⟨p, zs, rfl, hq, rr⟩ := seqOf_rel rs1 e2 rv
          obtain ⟨rfl, ok⟩ := rels_txs e3 rr
          exact ⟨p, xs, rfl, hq, by omega, fun q l hn hx => k q H1 st1 ρ1 xs l hn s1 rs1 hx h64 ok h1⟩
        · exact h1.elim
      · exact h1.elim
    · exact h1.elim
def rSortTx (X : Cx) : List V → Hp → VK → Prop := fun vs H Q => ∃ (a : Addr) (l : List Str), vs = [V.ref a] ∧ H a = some (TxO X.prog X.w a l) ∧ l.length < 64 ∧
    ∀ (ys : List Str) (p : Addr), ys.Perm l → sortedS ys = true → H p = none → Q (.ref p) (upd H p (.lst (ys.map V.str)))
def rLenTx (X : Cx) : List V → Hp → VK → Prop := fun vs H Q => ∃ (a : Addr) (l : List Str), vs = [V.ref a] ∧ H a = some (TxO X.prog X.w a l) ∧ l.length < 64 ∧ Q (.int l.length) H
variable {es : List Ex}
theorem n_sset (hc : X.calm = true) (hg : Gl X "sorted") (hm : X.mg "sorted" = none) (hg2 : Gl X "set") (hm2 : X.mg "set" = none) (ha : PA X [p] (TA1 X cl (evalEs C es))) (hs : isStarP p = false) :
    PE X (.Call (.Name "sorted" p1) [.Call (.Name "set" p2) [p] [] pos2] [] pos) (TE1 X cl (evalE C (.blt .sset es))) :=
  peImp (pe_callB (r := rSortTx X) (cr_sortTx hc) hg hm (boot_b .sorted rfl) (pa_cons (pe_set1 hc hg2 hm2 ha hs) pa_nil)) fun σ H Q ⟨ρ, η, st, re, rs, h⟩ => by
    simp only [evalE] at h
    refine set_seq (f := fun l st1 => .ok (.lst (sortD ((nubS l).map .str))) st1) (Q := Q) (Q' := fun x H1 => rSortTx X [x] H1 Q) re rs ?_ fun q H1 st1 ρ1 xs l hn s1 rs1 hx h64 ok h1 => ?_
    · refine (congrArg (fun z => Post X.K cl (Rel X.K cl) H ρ z Q EF) ?_).mp h
      congr 1
      funext ds st1
      unfold blt
      rcases ds with _ | ⟨d, _ | ⟨e, ds⟩⟩ <;> rfl
    refine ⟨q, l, rfl, upd_same, Nat.lt_of_le_of_lt hx.len h64, fun ys p hp hs hz => ?_⟩
    have ey : ys.map D.str = sortD ((nubS xs).map .str) := sorted_one (hp.trans hx.nub) hs
    have oks : ∀ c ∈ ys, PyData.strOk c = true := fun c hc => ok c ((hx.mem c).mp (hp.mem_iff.mp hc))
    have rs2 := rs1.same (same_new (o := TxO X.prog X.w q l) hn)
    refine h1 _ ρ1 _ ((Step.same (same_new hn)).trans (Step.same (same_new hz))) (rs2.same (same_new hz)) ?_
    rw [← ey]
    exact rel_newL rs2 hz (txs_rels oks)
theorem n_lset (hc : X.calm = true) (hg : Gl X "len") (hm : X.mg "len" = none) (hg2 : Gl X "set") (hm2 : X.mg "set" = none) (ha : PA X [p] (TA1 X cl (evalEs C es))) (hs : isStarP p = false) :
    PE X (.Call (.Name "len" p1) [.Call (.Name "set" p2) [p] [] pos2] [] pos) (TE1 X cl (evalE C (.blt .lset es))) :=
  peImp (pe_callB (r := rLenTx X) cr_lenTx hg hm (boot_b .len rfl) (pa_cons (pe_set1 hc hg2 hm2 ha hs) pa_nil)) fun σ H Q ⟨ρ, η, st, re, rs, h⟩ => by
    simp only [evalE] at h
    refine set_seq (f := fun l st1 => .ok (.int (nubS l).length) st1) (Q := Q) (Q' := fun x H1 => rLenTx X [x] H1 Q) re rs ?_ fun q H1 st1 ρ1 xs l hn s1 rs1 hx h64 ok h1 => ?_
    · refine (congrArg (fun z => Post X.K cl (Rel X.K cl) H ρ z Q EF) ?_).mp h
      congr 1
      funext ds st1
      unfold blt
      rcases ds with _ | ⟨d, _ | ⟨e, ds⟩⟩ <;> rfl
    refine ⟨q, l, rfl, upd_same, Nat.lt_of_le_of_lt hx.len h64, ?_⟩
    rw [hx.nub.length_eq]
    exact h1 _ ρ1 _ (Step.same (same_new hn)) (rs1.same (same_new hn)) rfl
/-- dict(pairs) -/
theorem k_val (hc : X.calm = true) (hg : Gl X "dict") (hm : X.mg "dict" = none) (ha : PE X p (TE1 X cl (evalE C e))) (hs : isStarP p = false) :
    PE X (.Call (.Name "dict" p1) [p] [] pos) (TK1 X cl (evalK C (.val e))) :=
  peImp (pe_callTy (r := fun xs H Q => ∃ (a : Addr) (ps : List Addr) (kvs : List (Key × V)), xs = [.ref a] ∧ SqL X.K H a (ps.map V.ref) ∧ Paired (fun p kv => SqT X.K H p [kV kv.1, kv.2]) ps kvs ∧
    ∀ p, H p = none → Q (.ref p) (upd H p (.dK (mergeK [] kvs)))) (call_dictP hc) hg hm PyProof.Rows.boot_dict (pa_cons ha pa_nil (star_no hs)) (by decide) (by decide) (star_no hs) rfl) fun σ H Q ⟨ρ, η, st, re, rs, h⟩ => by
    simp only [evalK] at h
    refine TD.seq (E := EF) re rs h fun x H1 d st1 ρ1 s1 re1 rs1 r1 h1 => ?_
    split at h1
    · rename_i ps e1
      obtain ⟨ds, e2, e3⟩ := bind_some e1
      obtain ⟨a, vs, rfl, hq, rr⟩ := lstOf_rel rs1 e2 r1
      obtain ⟨as, kus, rfl, pr, rk⟩ := prs_rels e3 rr
      refine ⟨a, as, kus, rfl, .inl hq, pr, fun L hL => ?_⟩
      have rk2 : RelK X.K cl H1 ρ1 (mkDict ps) (mergeK [] kus) := fold_rel rk rfl
      exact h1 _ (ρ1.hide L) _ (Step.hide hL) (rs1.hide hL) ⟨L, _, rfl, s1.none_of hL, .inr rfl, upd_same, RelK.mono (Step.hide hL) _ rk2⟩
    · exact h1.elim
end
end Dv
namespace Dv
open PySem L2
structure Sig where
  N : List Str
  sc : Scope
  fnB : Str → Bool
  fns : List Str
  gls : List Str
def Sig.blk (S : Sig) (scope : Scope) : Sig := { S with sc := relS scope S.sc, fnB := fun x => scope.names.lookup x == some .cell }
def visB (sc : Scope) (x : Str) : Bool := match sc.names.lookup x with
  | some .local => true
  | some .cell => true
  | some .free => true
  | _ => false
def locB (sc : Scope) (x : Str) : Bool := match sc.names.lookup x with
  | some .local => true
  | some .cell => true
  | _ => false
def lclB (sc : Scope) (x : Str) : Bool := match sc.names.lookup x with
  | some .local => true
  | _ => false
def glB (sc : Scope) (x : Str) : Bool := match sc.names.lookup x with
  | some .globalImplicit => true
  | _ => false
def nmOk (x : Str) : Bool := !(x == ("__debug__" : Str)) && !(x == ("__classdict__" : Str))
def notSl (p : Expr) : Bool := match p with
  | .Slice _ _ _ _ => false
  | _ => true
mutual
def chkG (S : Sig) : Tgt → Expr → Bool
  | .nm i, p => match p with
    | .Name x _ => decide (S.N[i]? = some x) && locB S.sc x && (S.fnB x || lclB S.sc x)
    | _ => false
  | .tp ts, p => match p with
    | .Tuple ps _ _ => decide (ps.length = ts.length) && ps.all isTgP && chkGs S ts ps
    | _ => false
def chkGs (S : Sig) : List Tgt → List Expr → Bool
  | [], ps => match ps with
    | [] => true
    | _ => false
  | t :: ts, ps => match ps with
    | p :: ps => chkG S t p && chkGs S ts ps
    | _ => false
end
def ownN (S : Sig) (own : List Nat) : List (Str × Nat) := own.filterMap fun i => S.N[i]?.map fun x => (x, i)
def mthAr (m : Mth) (es : List Ex) (qs : List Expr) : Bool := match m, es, qs with
  | .append, _, [q] => !isStarP q
  | .popAt, _, [q] => !isStarP q
  | .remove, _, [q] => !isStarP q
  | .pop, [], [] => true
  | _, _, _ => false
def notCls : Ty → Bool
  | .cls _ => false
  | _ => true
/-- set(x): its argument -/
def setArg : Expr → List Expr
  | .Call (.Name y _) [r] [] _ => if y = "set" ∧ isStarP r = false then [r] else []
  | _ => []
def setNm : Blt → Str
  | .sset => "sorted"
  | .lset => "len"
  | _ => ""
def setB : Blt → Bool
  | .sset => true
  | .lset => true
  | _ => false
mutual
def chkE (S : Sig) : Ex → Expr → Bool
  | .var i, p => match p with
    | .Name x _ => decide (S.N[i]? = some x) && visB S.sc x && nmOk x
    | _ => false
  | .non, p => match p with
    | .Constant .none _ _ => true
    | _ => false
  | .bl b, p => match p with
    | .Constant (.bool c) _ _ => b == c
    | _ => false
  | .int b, p => match p with
    | .Constant (.int c) _ _ => decide (b = c)
    | _ => false
  | .str b, p => match p with
    | .Constant (.str c) _ _ => decide (b = c) && PyData.strOk b
    | _ => false
  | .tup es, p => match p with
    | .Tuple ps _ _ => chkDs S es ps
    | _ => false
  | .star e, p => match p with
    | .Starred q _ => chkE S e q
    | _ => false
  | .op o a b, p => match p with
    | .BinOp l q r _ => decide (q = bop o) && chkE S a l && chkE S b r
    | _ => false
  | .neg a, p => match p with
    | .UnaryOp .USub l _ => chkE S a l
    | _ => false
  | .not a, p => match p with
    | .UnaryOp .Not l _ => chkE S a l
    | _ => false
  | .and a b, p => match p with
    | .BoolOp .And [l, r] _ => chkE S a l && chkE S b r
    | .BoolOp .And (l :: r :: m :: rest) pos => chkE S a l && chkE S b (.BoolOp .And (r :: m :: rest) pos)
    | _ => false
  | .or a b, p => match p with
    | .BoolOp .Or [l, r] _ => chkE S a l && chkE S b r
    | .BoolOp .Or (l :: r :: m :: rest) pos => chkE S a l && chkE S b (.BoolOp .Or (r :: m :: rest) pos)
    | _ => false
  | .ite c a b, p => match p with
    | .IfExp q l r _ => chkT S c q && chkE S a l && chkE S b r
    | _ => false
  | .cmp o a b, p => match p with
    | .Compare l [q] [r] _ => decide (q = cop o) && !(behindInMarks (cop o) r) && chkE S a l && chkE S b r
    | _ => false
  | .chain o o' a b c, p => match p with
    | .Compare l [q, q'] [r, m] _ => decide (q = cop o) && decide (q' = cop o') && !(lastMarks [cop o, cop o'] [r, m]) && chkE S a l && chkE S b r && chkE S c m
    | _ => false
  | .idx a b, p => match p with
    | .Subscript l r _ => notSl r && chkE S a l && chkE S b r
    | _ => false
  | .slc a lo hi, p => match p with
    | .Subscript l (.Slice pl ph none _) _ => chkE S a l && chkO S lo pl && chkO S hi ph
    | _ => false
  | .call f es, p => match p with
    | .Call (.Name x _) (q :: qs) [] _ => decide (S.fns[f]? = some x) && glB S.sc x && nmOk x && !isStarP q && qs.all (fun p => !isStarP p) && chkAs S es (q :: qs)
    | _ => false
  | .callz f es, p => match p with
    | .Call (.Name x _) (q :: qs) [] _ => decide (S.fns[f]? = some x) && glB S.sc x && nmOk x && !isStarP q && qs.all (fun p => !isStarP p) && chkAs S es (q :: qs)
    | _ => false
  | .blt b es, p => match p with
    | .Call (.Name x _) (q :: qs) [] _ => (bnamed b && decide (x = bname b) && glB S.sc x && !isStarP q && qs.all (fun p => !isStarP p) && chkAs S es (q :: qs)) ||
        (setB b && decide (x = setNm b) && qs.isEmpty && glB S.sc x && glB S.sc "set" && !(setArg q).isEmpty && chkAs S es (setArg q))
    | _ => false
  | .mth m o es, p => match p with
    | .Call (.Attribute l nm apos) qs [] pos => isName l && (apos.endLine == pos.line) && decide (nm = mname m) && chkE S o l && mthAr m es qs && chkAs S es qs
    | _ => false
  | .isi a [t], p => match p with
    | .Call (.Name x _) [q, .Name y _] [] _ => notCls t && decide (x = "isinstance") && decide (y = tyN t) && glB S.sc x && glB S.sc y && !isStarP q && chkE S a q
    | _ => false
  | .glb k, p => match p with
    | .Name x _ => decide (S.gls[k]? = some x) && glB S.sc x && nmOk x
    | _ => false
  | .rev a, p => match p with
    | .Subscript l (.Slice none none (some (.UnaryOp .USub (.Constant (.int c) _ _) _)) _) _ => decide (c = 1) && chkE S a l
    | _ => false
  | .tupR a, p => match p with
    | .Call (.Name x _) [.Call (.Name y _) [q] [] _] [] _ => decide (x = "tuple") && decide (y = "range") && glB S.sc x && glB S.sc y && !isStarP q && chkE S a q
    | _ => false
  | .frl l, p => chkL S l p
  | .own l, p => chkL S l p
  | .frd l, p => chkK S l p
  | .ownd l, p => chkK S l p
  | _, _ => false
def chkT (S : Sig) : Ex → Expr → Bool
  | .not a, p => match p with
    | .UnaryOp .Not l _ => chkT S a l
    | _ => false
  | .and a b, p => match p with
    | .BoolOp .And [l, r] _ => chkT S a l && chkT S b r
    | .BoolOp .And (l :: r :: m :: rest) pos => chkT S a l && chkT S b (.BoolOp .And (r :: m :: rest) pos)
    | _ => false
  | .or a b, p => match p with
    | .BoolOp .Or [l, r] _ => chkT S a l && chkT S b r
    | .BoolOp .Or (l :: r :: m :: rest) pos => chkT S a l && chkT S b (.BoolOp .Or (r :: m :: rest) pos)
    | _ => false
  | .cmp o a b, p => match p with
    | .Compare l [q] [r] _ => decide (q = cop o) && !(behindInMarks (cop o) r) && chkE S a l && chkE S b r
    | _ => false
  | .chain o o' a b c, p => match p with
    | .Compare l [q, q'] [r, m] _ => decide (q = cop o) && decide (q' = cop o') && !(lastMarks [cop o, cop o'] [r, m]) && chkE S a l && chkE S b r && chkE S c m
    | _ => false
  | .var i, p => match p with
    | .Name x _ => decide (S.N[i]? = some x) && visB S.sc x && nmOk x
    | _ => false
  | .bl b, p => match p with
    | .Constant (.bool c) _ _ => b == c
    | _ => false
  | .idx a b, p => match p with
    | .Subscript l r _ => notSl r && chkE S a l && chkE S b r
    | _ => false
  | .call f es, p => match p with
    | .Call (.Name x _) (q :: qs) [] _ => decide (S.fns[f]? = some x) && glB S.sc x && nmOk x && !isStarP q && qs.all (fun p => !isStarP p) && chkAs S es (q :: qs)
    | _ => false
  | .callz f es, p => match p with
    | .Call (.Name x _) (q :: qs) [] _ => decide (S.fns[f]? = some x) && glB S.sc x && nmOk x && !isStarP q && qs.all (fun p => !isStarP p) && chkAs S es (q :: qs)
    | _ => false
  | .blt b es, p => match p with
    | .Call (.Name x _) (q :: qs) [] _ => bnamed b && decide (x = bname b) && glB S.sc x && !isStarP q && qs.all (fun p => !isStarP p) && chkAs S es (q :: qs)
    | _ => false
  | .isi a [t], p => match p with
    | .Call (.Name x _) [q, .Name y _] [] _ => notCls t && decide (x = "isinstance") && decide (y = tyN t) && glB S.sc x && glB S.sc y && !isStarP q && chkE S a q
    | _ => false
  | _, _ => false
def chkO (S : Sig) : Option Ex → Option Expr → Bool
  | none, p => match p with
    | none => true
    | _ => false
  | some e, p => match p with
    | some q => chkE S e q
    | _ => false
/-- arguments -/
def chkAs (S : Sig) : List Ex → List Expr → Bool
  | [], ps => match ps with
    | [] => true
    | _ => false
  | e :: es, ps => match ps with
    | p :: ps => !isStarP p && !isStar e && chkE S e p && chkAs S es ps
    | _ => false
/-- items of a display -/
def chkDs (S : Sig) : List Ex → List Expr → Bool
  | [], ps => match ps with
    | [] => true
    | _ => false
  | e :: es, ps => match ps with
    | p :: ps => (isStar e == isStarP p) && chkE S e p && chkDs S es ps
    | _ => false
def chkCs (S : Sig) : List Ex → List Expr → Bool
  | [], ps => match ps with
    | [] => true
    | _ => false
  | [e], ps => match ps with
    | [p] => chkT S e p
    | _ => false
  | _, _ => false
/-- what a loop walks -/
def chkI (S : Sig) (tg : Expr) : Ex → Expr → Bool
  | .rng [a], p => match p with
    | .Call (.Name x _) [q] [] _ => decide (x = "range") && glB S.sc x && !isStarP q && chkE S a q
    | _ => false
  | .rng [a, b], p => match p with
    | .Call (.Name x _) [q, r] [] _ => decide (x = "range") && glB S.sc x && !isStarP q && !isStarP r && chkE S a q && chkE S b r
    | _ => false
  | .enum a, p => match p with
    | .Call (.Name x _) [q] [] _ => isTupP tg && decide (x = "enumerate") && glB S.sc x && !isStarP q && chkE S a q
    | _ => false
  | .zip [a, b], p => match p with
    | .Call (.Name x _) [q, r] [] _ => isTupP tg && decide (x = "zip") && glB S.sc x && !isStarP q && !isStarP r && chkE S a q && chkE S b r
    | _ => false
  | .itv a, p => chkE S a p
  | _, _ => false
/-- new lists -/
def chkL (S : Sig) : Lx → Expr → Bool
  | .disp es, p => match p with
    | .List ps _ => chkDs S es ps
    | _ => false
  | .comp own t it cs e, p => match p with
    | .ListComp elt [⟨tgp, q, ifs, k⟩] scope _ => decide (k = 0) && chkI S tgp it q && setNo q && blkC S.N S.sc scope (ownN S own) && decide ((ownN S own).map (·.2) = own) && (tgIx t).all (fun i => own.contains i) &&
        chkG (S.blk scope) t tgp && chkCs (S.blk scope) cs ifs && chkE (S.blk scope) e elt
    | _ => false
  | .comp2 own t it cs t2 it2 cs2 e, p => match p with
    | .ListComp elt [⟨tgp, q, ifs, k⟩, ⟨tgp2, q2, ifs2, k2⟩] scope _ => decide (k = 0) && decide (k2 = 0) && chkI S tgp it q && setNo q && setNo q2 && blkC S.N S.sc scope (ownN S own) && decide ((ownN S own).map (·.2) = own) && (tgIx t).all (fun i => own.contains i) &&
        (tgIx t2).all (fun i => own.contains i) && (tgIx t2).all (fun i => !(tgIx t).contains i) && chkG (S.blk scope) t tgp && chkCs (S.blk scope) cs ifs && chkI (S.blk scope) tgp2 it2 q2 && chkG (S.blk scope) t2 tgp2 && chkCs (S.blk scope) cs2 ifs2 && chkE (S.blk scope) e elt
    | _ => false
  | .lstR a, p => match p with
    | .Call (.Name x _) [.Call (.Name y _) [q] [] _] [] _ => decide (x = "list") && decide (y = "range") && glB S.sc x && glB S.sc y && !isStarP q && chkE S a q
    | _ => false
  | .bltl b es, p => match p with
    | .Call (.Name x _) (q :: qs) [] _ => bnamed b && decide (x = bname b) && glB S.sc x && !isStarP q && qs.all (fun p => !isStarP p) && chkAs S es (q :: qs)
    | _ => false
  | .add a b, p => match p with
    | .BinOp l .Add r _ => chkE S a l && chkE S b r
    | _ => false
  | .rev a, p => match p with
    | .Subscript l (.Slice none none (some (.UnaryOp .USub (.Constant (.int c) _ _) _)) _) _ => decide (c = 1) && chkE S a l
    | _ => false
def chkK (S : Sig) : Dx → Expr → Bool
  | .disp kvs, p => match p with
    | .Dict [] [] _ => kvs.isEmpty
    | .Dict ks vs _ => !ks.isEmpty && decide (ks.length ≤ 15) && chkPs S kvs ks vs
    | _ => false
  | .val e, p => match p with
    | .Call (.Name x _) [q] [] _ => decide (x = "dict") && glB S.sc x && !isStarP q && chkE S e q
    | _ => false
  | _, _ => false
def chkPs (S : Sig) : List Ex → List (Option Expr) → List Expr → Bool
  | [], ks, vs => match ks, vs with
    | [], [] => true
    | _, _ => false
  | k :: v :: kvs, ks, vs => match ks, vs with
    | some p :: ks, q :: vs => chkE S k p && chkE S v q && chkPs S kvs ks vs
    | _, _ => false
  | _, _, _ => false
end
/-- further names of what is built in -/
def moreN : List Str := ["isinstance", "zip", "int", "tuple", "list", "bool", "str", "dict", "set"]
structure Good (X : Cx) (cl : Nat → Addr) (C : Cst) (S : Sig) : Prop where
  N : X.N = S.N
  nd : X.N.Nodup
  sc : X.env.scope = S.sc
  fn : ∀ x, S.fnB x = true → X.fn x = true
  calm : X.calm = true
  gd : X.A.guards = some []
  un : X.A.units + 256 < cLine
  kind : ScopeKind.function = X.env.scope.kind
  blt : ∀ b, bnamed b = true → X.mg (bname b) = none
  rng : X.mg "range" = none
  enm : X.mg "enumerate" = none
  mor : ∀ x ∈ moreN, X.mg x = none
  gls : ∀ (k : Nat) (x : Str), S.gls[k]? = some x → ∃ (d : D) (v : V) (u : Value), C.glbs[k]? = some d ∧ X.mg x = some u ∧ RelV v u ∧ ∀ H ρ, Rel X.K cl H ρ d v
  fns : ∀ (f : Nat) (x : Str), S.fns[f]? = some x → ∃ (fa : Addr) (fd : FuncData) (pn : List Str) (k : Nat), FnG X.prog X.w X.K X.mg X.base k fa fd pn (spG X.K cl (C.call f)) ∧ Room k X.A ∧ X.mg x = some (.ref fa) ∧ PySem.W.keepIn X.K (.ref fa) = true ∧ Binds X.K fd pn []
theorem and_t {a b : Bool} (h : (a && b) = true) : a = true ∧ b = true := by rwa [Bool.and_eq_true] at h
theorem not_t {a : Bool} (h : (!a) = true) : a = false := by cases a <;> simp_all
section
variable {X : Cx} {cl : Nat → Addr} {C : Cst} {S : Sig}
theorem Good.blk (g : Good X cl C S) (s : Shared) (H : Hp) (scope : Scope) (L : Addr) (ce : List (Str × Addr)) (fp : List Addr) (hk : scope.kind = .function) : Good (X.blk s H scope (compEnvC scope ce L X.env) fp) cl C (S.blk scope) :=
  ⟨g.N, g.nd, by show relS scope X.env.scope = relS scope S.sc; rw [g.sc], fun x h => h, g.calm, g.gd, g.un, hk.symm, g.blt, g.rng, g.enm, g.mor, g.gls, g.fns⟩
theorem Good.vis (g : Good X cl C S) {x : Str} (h : visB S.sc x = true) : Vis X.env.scope x := by
  unfold visB at h
  unfold Vis
  rw [g.sc]
  split at h <;> simp_all
theorem Good.loc (g : Good X cl C S) {x : Str} (h : locB S.sc x = true) : L2.Loc X.env.scope x := by
  unfold locB at h
  unfold L2.Loc
  rw [g.sc]
  split at h <;> simp_all
theorem Good.lcl (g : Good X cl C S) {x : Str} (h : lclB S.sc x = true) : X.env.scope.names.lookup x = some .local := by
  unfold lclB at h
  rw [g.sc]
  split at h <;> simp_all
theorem Good.gl (g : Good X cl C S) {x : Str} (h : glB S.sc x = true) : Gl X x := by
  unfold glB at h
  show X.env.scope.names.lookup x = _
  rw [g.sc]
  split at h <;> simp_all
theorem nm_ok {x : Str} (h : nmOk x = true) : (x == ("__debug__" : Str)) = false ∧ (x == ("__classdict__" : Str)) = false := by
  unfold nmOk at h
  obtain ⟨a, b⟩ := and_t h
  exact ⟨not_t a, not_t b⟩
theorem isi_facts {t : Ty} {x y : Str} {q : Expr} {b4 b5 b7 : Bool} (h : (notCls t && decide (x = "isinstance") && decide (y = tyN t) && b4 && b5 && !isStarP q && b7) = true) : notCls t = true ∧ x = "isinstance" ∧ y = tyN t ∧ b4 = true ∧ b5 = true ∧ isStarP q = false ∧ b7 = true := by
  obtain ⟨h, h7⟩ := and_t h
  obtain ⟨h, h6⟩ := and_t h
  obtain ⟨h, h5⟩ := and_t h
  obtain ⟨h, h4⟩ := and_t h
  obtain ⟨h, h3⟩ := and_t h
  obtain ⟨h1, h2⟩ := and_t h
  exact ⟨h1, of_decide_eq_true h2, of_decide_eq_true h3, h4, h5, not_t h6, h7⟩
theorem ty_more : ∀ t : Ty, notCls t = true → (tyN t : Str) ∈ moreN := fun t h => by cases t <;> first | decide | cases h
theorem isi_at (g : Good X cl C S) {a : Ex} {t : Ty} {x y : Str} {q : Expr} {pos ppos tp : Pos} (h1 : notCls t = true) (h2 : x = "isinstance") (h3 : y = tyN t) (h4 : glB S.sc x = true) (h5 : glB S.sc y = true) (h6 : isStarP q = false) (ha : PE X q (TE1 X cl (evalE C a))) :
    PE X (.Call (.Name x ppos) [q, .Name y tp] [] pos) (TE1 X cl (evalE C (.isi a [t]))) := by
  subst h2 h3
  exact n_isi (fun c e => by subst e; cases h1) rfl (g.gl h4) (g.mor _ (by decide)) (g.gl h5) (g.mor _ (ty_more t h1)) ha h6
theorem ix_ok {p : Expr} (h : notSl p = true) : PlainIx p := by
  intro o i
  cases p <;> first | rfl | simp [notSl] at h
mutual
theorem sndG (g : Good X cl C S) : ∀ (t : Tgt) (p : Expr), chkG S t p = true → PG X p (TG1 X cl t)
  | .nm i, p, h => by
    simp only [chkG] at h
    split at h
    · obtain ⟨h1, h2⟩ := and_t h
      obtain ⟨h3, h4⟩ := and_t h1
      rw [Bool.or_eq_true] at h2
      exact g_nm g.nd (by rw [g.N]; exact of_decide_eq_true h3) (g.loc h4) (h2.elim (fun e => .inl (g.fn _ e)) fun e => .inr (g.lcl e))
    · cases h
  | .tp ts, p, h => by
    simp only [chkG] at h
    split at h
    · obtain ⟨h1, h2⟩ := and_t h
      obtain ⟨h3, h4⟩ := and_t h1
      exact g_tp g.calm (of_decide_eq_true h3) h4 (sndGs g ts _ h4 h2)
    · cases h
theorem sndGs (g : Good X cl C S) : ∀ (ts : List Tgt) (ps : List Expr), ps.all isTgP = true → chkGs S ts ps = true → PGs X ps (TGs1 X cl ts)
  | [], ps, _, h => by
    simp only [chkGs] at h
    split at h
    · exact g_nil
    · cases h
  | t :: ts, ps, ha, h => by
    simp only [chkGs] at h
    split at h
    · obtain ⟨h1, h2⟩ := and_t h
      rw [List.all_cons] at ha
      obtain ⟨a1, a2⟩ := and_t ha
      exact g_cons a1 (sndG g t _ h1) (sndGs g ts _ a2 h2)
    · cases h
end
theorem nst {p : Expr} (h : (!isStarP p) = true) : isStarP p = false := not_t h
theorem own_ok {X : Cx} {S : Sig} {own : List Nat} {scope : Scope} (hN : X.N = S.N) (hs : X.env.scope = S.sc) (h : blkC S.N S.sc scope (ownN S own) = true) : BlkOk X.N X.env.scope scope (ownN S own) := by
  rw [hN, hs]
  exact blkOk_by h
/-- a call's facts -/
theorem call_facts {f : Nat} {x : Str} {q : Expr} {qs : List Expr} {es : List Ex} (h : (decide (S.fns[f]? = some x) && glB S.sc x && nmOk x && !isStarP q && qs.all (fun p => !isStarP p) && chkAs S es (q :: qs)) = true) :
    S.fns[f]? = some x ∧ glB S.sc x = true ∧ (x == ("__debug__" : Str)) = false ∧ isStarP q = false ∧ qs.all (fun p => !isStarP p) = true ∧ chkAs S es (q :: qs) = true := by
  obtain ⟨h, h6⟩ := and_t h
  obtain ⟨h, h5⟩ := and_t h
  obtain ⟨h, h4⟩ := and_t h
  obtain ⟨h, h3⟩ := and_t h
  obtain ⟨h1, h2⟩ := and_t h
  exact ⟨of_decide_eq_true h1, h2, (nm_ok h3).1, nst h4, h5, h6⟩
theorem rgc_facts {S : Sig} {x y u w : Str} {q : Expr} {a : Ex} (h : (decide (x = u) && decide (y = w) && glB S.sc x && glB S.sc y && !isStarP q && chkE S a q) = true) :
    x = u ∧ y = w ∧ glB S.sc x = true ∧ glB S.sc y = true ∧ isStarP q = false ∧ chkE S a q = true := by
  obtain ⟨h, h6⟩ := and_t h
  obtain ⟨h, h5⟩ := and_t h
  obtain ⟨h, h4⟩ := and_t h
  obtain ⟨h, h3⟩ := and_t h
  obtain ⟨h1, h2⟩ := and_t h
  exact ⟨of_decide_eq_true h1, of_decide_eq_true h2, h3, h4, nst h5, h6⟩
theorem setArg_shape {q : Expr} (h : (setArg q).isEmpty = false) : ∃ r p2 pos2, q = .Call (.Name "set" p2) [r] [] pos2 ∧ setArg q = [r] ∧ isStarP r = false := by
  unfold setArg at h ⊢
  split at h
  · split at h
    · rename_i y p2 r pos2 c
      obtain ⟨rfl, c2⟩ := c
      exact ⟨r, p2, pos2, rfl, if_pos ⟨rfl, c2⟩, c2⟩
    · cases h
  · cases h
theorem set_at (g : Good X cl C S) {b : Blt} {x : Str} {q : Expr} {qs : List Expr} {es : List Ex} {ppos pos : Pos} (hs : ∀ r, PA X [r] (TA1 X cl (evalEs C es)) ∨ chkAs S es [r] = false)
    (h : (setB b && decide (x = setNm b) && qs.isEmpty && glB S.sc x && glB S.sc "set" && !(setArg q).isEmpty && chkAs S es (setArg q)) = true) : PE X (.Call (.Name x ppos) (q :: qs) [] pos) (TE1 X cl (evalE C (.blt b es))) := by
  obtain ⟨h, h7⟩ := and_t h
  obtain ⟨h, h6⟩ := and_t h
  obtain ⟨h, h5⟩ := and_t h
  obtain ⟨h, h4⟩ := and_t h
  obtain ⟨h, h3⟩ := and_t h
  obtain ⟨h1, h2⟩ := and_t h
  have h2 := of_decide_eq_true h2
  obtain ⟨r, p2, pos2, rfl, e, hr⟩ := setArg_shape (not_t h6)
  have h3 := List.isEmpty_iff.mp h3
  rw [e] at h7
  have ha : PA X [r] (TA1 X cl (evalEs C es)) := (hs r).resolve_right (by rw [h7]; exact Bool.noConfusion)
  subst h2 h3
  cases b <;> first | cases h1 | skip
  · exact n_sset g.calm (g.gl h4) (g.blt .sorted rfl) (g.gl h5) (g.mor _ (by decide)) ha hr
  · exact n_lset g.calm (g.gl h4) (g.blt .len rfl) (g.gl h5) (g.mor _ (by decide)) ha hr
theorem blt_facts {b : Blt} {x : Str} {q : Expr} {qs : List Expr} {es : List Ex} (h : (bnamed b && decide (x = bname b) && glB S.sc x && !isStarP q && qs.all (fun p => !isStarP p) && chkAs S es (q :: qs)) = true) :
    bnamed b = true ∧ x = bname b ∧ glB S.sc x = true ∧ isStarP q = false ∧ qs.all (fun p => !isStarP p) = true ∧ chkAs S es (q :: qs) = true := by
  obtain ⟨h, h6⟩ := and_t h
  obtain ⟨h, h5⟩ := and_t h
  obtain ⟨h, h4⟩ := and_t h
  obtain ⟨h, h3⟩ := and_t h
  obtain ⟨h1, h2⟩ := and_t h
  exact ⟨h1, of_decide_eq_true h2, h3, nst h4, h5, h6⟩
theorem units64 (g : Good X cl C S) : X.A.units + 64 < cLine := by have := g.un; omega
theorem units1 (g : Good X cl C S) : X.A.units + 1 < cLine := by have := g.un; omega
set_option maxHeartbeats 4100000 in
mutual
theorem sndE : ∀ (e : Ex) {X : Cx} {S : Sig} (p : Expr), Good X cl C S → chkE S e p = true → PE X p (TE1 X cl (evalE C e))
  | .var i, X, S, p, g, h => by
    simp only [chkE] at h
    split at h
    · obtain ⟨h, h3⟩ := and_t h
      obtain ⟨h1, h2⟩ := and_t h
      exact n_var (by rw [g.N]; exact of_decide_eq_true h1) (g.vis h2) (nm_ok h3).1 (nm_ok h3).2
    · cases h
  | .non, X, S, p, g, h => by
    simp only [chkE] at h
    split at h
    · exact n_non
    · cases h
  | .bl b, X, S, p, g, h => by
    simp only [chkE] at h
    split at h
    · rw [beq_iff_eq] at h
      subst h
      exact n_bl
    · cases h
  | .int b, X, S, p, g, h => by
    simp only [chkE] at h
    split at h
    · have h := of_decide_eq_true h
      subst h
      exact n_int
    · cases h
  | .str b, X, S, p, g, h => by
    simp only [chkE] at h
    split at h
    · obtain ⟨h1, h2⟩ := and_t h
      have h := of_decide_eq_true h1
      subst h
      exact n_str h2
    · cases h
  | .glb k, X, S, p, g, h => by
    simp only [chkE] at h
    split at h
    · obtain ⟨h, h3⟩ := and_t h
      obtain ⟨h1, h2⟩ := and_t h
      obtain ⟨d, v, u, g1, g2, g3, g4⟩ := g.gls _ _ (of_decide_eq_true h1)
      exact n_glb (g.gl h2) (nm_ok h3).1 g2 g3 g1 g4
    · cases h
  | .tup es, X, S, p, g, h => by
    simp only [chkE] at h
    split at h
    · exact n_tup (sndDs es _ g h)
    · cases h
  | .star e, X, S, p, g, h => ⟨fun pins s σ H Q I ⟨ρ, η, st, re, rs, h⟩ => by
    simp only [evalE] at h
    exact h.elim⟩
  | .op o a b, X, S, p, g, h => by
    simp only [chkE] at h
    split at h
    · obtain ⟨h, h3⟩ := and_t h
      obtain ⟨h1, h2⟩ := and_t h
      have h := of_decide_eq_true h1
      subst h
      exact n_op (sndE a _ g h2) (sndE b _ g h3)
    · cases h
  | .neg a, X, S, p, g, h => by
    simp only [chkE] at h
    split at h
    · exact n_neg (sndE a _ g h)
    · cases h
  | .not a, X, S, p, g, h => by
    simp only [chkE] at h
    split at h
    · exact n_not (sndE a _ g h)
    · cases h
  | .and a b, X, S, p, g, h => by
    simp only [chkE] at h
    split at h
    · obtain ⟨h1, h2⟩ := and_t h
      exact n_and (sndE a _ g h1) (pe_one (sndE b _ g h2))
    · obtain ⟨h1, h2⟩ := and_t h
      exact n_and (sndE a _ g h1) (sndE b _ g h2)
    · cases h
  | .or a b, X, S, p, g, h => by
    simp only [chkE] at h
    split at h
    · obtain ⟨h1, h2⟩ := and_t h
      exact n_or (sndE a _ g h1) (pe_one (sndE b _ g h2))
    · obtain ⟨h1, h2⟩ := and_t h
      exact n_or (sndE a _ g h1) (sndE b _ g h2)
    · cases h
  | .ite c a b, X, S, p, g, h => by
    simp only [chkE] at h
    split at h
    · obtain ⟨h, h3⟩ := and_t h
      obtain ⟨h1, h2⟩ := and_t h
      exact n_ite (sndT c _ g h1) (sndE a _ g h2) (sndE b _ g h3)
    · cases h
  | .cmp o a b, X, S, p, g, h => by
    simp only [chkE] at h
    split at h
    · obtain ⟨h, h4⟩ := and_t h
      obtain ⟨h, h3⟩ := and_t h
      obtain ⟨h1, h2⟩ := and_t h
      have h := of_decide_eq_true h1
      subst h
      exact n_cmp (units64 g) (sndE a _ g h3) (sndE b _ g h4) (not_t h2)
    · cases h
  | .chain o o' a b c, X, S, p, g, h => by
    simp only [chkE] at h
    split at h
    · obtain ⟨h, h6⟩ := and_t h
      obtain ⟨h, h5⟩ := and_t h
      obtain ⟨h, h4⟩ := and_t h
      obtain ⟨h, h3⟩ := and_t h
      obtain ⟨h1, h2⟩ := and_t h
      have e1 := of_decide_eq_true h1
      have e2 := of_decide_eq_true h2
      subst e1 e2
      exact n_chain (units64 g) (sndE a _ g h4) (sndE b _ g h5) (sndE c _ g h6) (not_t h3)
    · cases h
  | .idx a b, X, S, p, g, h => by
    simp only [chkE] at h
    split at h
    · obtain ⟨h, h3⟩ := and_t h
      obtain ⟨h1, h2⟩ := and_t h
      exact n_idx (units1 g) (sndE a _ g h2) (sndE b _ g h3) (ix_ok h1)
    · cases h
  | .slc a lo hi, X, S, p, g, h => by
    simp only [chkE] at h
    split at h
    · obtain ⟨h, h3⟩ := and_t h
      obtain ⟨h1, h2⟩ := and_t h
      exact n_slc (sndE a _ g h1) (sndO lo _ g h2) (sndO hi _ g h3)
    · cases h
  | .rev a, X, S, p, g, h => by
    simp only [chkE] at h
    split at h
    · obtain ⟨h1, h2⟩ := and_t h
      have e := of_decide_eq_true h1
      subst e
      exact n_rev (sndE a _ g h2)
    · cases h
  | .call f es, X, S, p, g, h => by
    simp only [chkE] at h
    split at h
    · obtain ⟨h1, h2, h3, h4, h5, h6⟩ := call_facts h
      obtain ⟨fa, fd, pn, k, F, hr, hm, hk, hb⟩ := g.fns f _ h1
      exact n_call F hr g.gd (g.gl h2) hm hk hb h3 (sndAs es _ g h6) h4 h5
    · cases h
  | .callz f es, X, S, p, g, h => by
    simp only [chkE] at h
    split at h
    · obtain ⟨h1, h2, h3, h4, h5, h6⟩ := call_facts h
      obtain ⟨fa, fd, pn, k, F, hr, hm, hk, hb⟩ := g.fns f _ h1
      exact n_callz F hr g.gd (g.gl h2) hm hk hb h3 (sndAs es _ g h6) h4 h5
    · cases h
  | .blt b es, X, S, p, g, h => by
    simp only [chkE] at h
    split at h
    · rcases (Bool.or_eq_true _ _).mp h with h | h
      · obtain ⟨h1, h2, h3, h4, h5, h6⟩ := blt_facts h
        subst h2
        exact n_blt b h1 g.calm g.gd g.un (g.gl h3) (g.blt b h1) (sndAs es _ g h6) h4 h5
      · refine set_at g (fun r => ?_) h
        cases e : chkAs S es [r] with
        | true => exact .inl (sndAs es _ g e)
        | false => exact .inr rfl
    · cases h
  | .tupR a, X, S, p, g, h => by
    simp only [chkE] at h
    split at h
    · rename_i x ppos y p2 q pos2 pos
      obtain ⟨h1, h2, h3, h4, h5, h6⟩ := rgc_facts h
      subst h1 h2
      exact n_rngT g.calm (g.gl h3) (g.blt .tuple rfl) (g.gl h4) g.rng (sndE a _ g h6) h5
    · cases h
  | .isi a [t], X, S, p, g, h => by
    simp only [chkE] at h
    split at h
    · obtain ⟨h1, h2, h3, h4, h5, h6, h7⟩ := isi_facts h
      exact isi_at g h1 h2 h3 h4 h5 h6 (sndE a _ g h7)
    · cases h
  | .isi a [], X, S, p, g, h => by simp [chkE] at h
  | .isi a (_ :: _ :: _), X, S, p, g, h => by simp [chkE] at h
  | .mth m o es, X, S, p, g, h => by
    simp only [chkE] at h
    split at h
    · obtain ⟨h, h5⟩ := and_t h
      obtain ⟨h, h6⟩ := and_t h
      obtain ⟨h, h4⟩ := and_t h
      obtain ⟨h, h3⟩ := and_t h
      obtain ⟨h1, h2⟩ := and_t h
      have e3 := of_decide_eq_true h3
      subst e3
      have ha := sndE o _ g h4
      have hb := sndAs es _ g h5
      unfold mthAr at h6
      split at h6
      · exact n_mth1 .append (.inl rfl) h1 ha hb (nst h6) h2
      · exact n_mth1 .popAt (.inr (.inl rfl)) h1 ha hb (nst h6) h2
      · exact n_mth1 .remove (.inr (.inr rfl)) h1 ha hb (nst h6) h2
      · exact n_pop h1 ha h2
      · cases h6
    · cases h
  | .frl l, X, S, p, g, h => by
    simp only [chkE] at h
    exact n_frl (sndL l _ g h)
  | .own l, X, S, p, g, h => by
    simp only [chkE] at h
    exact n_own (sndL l _ g h)
  | .frd l, X, S, p, g, h => by
    simp only [chkE] at h
    exact n_frd (sndK l _ g h)
  | .ownd l, X, S, p, g, h => by
    simp only [chkE] at h
    exact n_ownd (sndK l _ g h)
  | .rng _, X, S, p, g, h => by simp [chkE] at h
  | .enum _, X, S, p, g, h => by simp [chkE] at h
  | .zip _, X, S, p, g, h => by simp [chkE] at h
  | .items _, X, S, p, g, h => by simp [chkE] at h
  | .values _, X, S, p, g, h => by simp [chkE] at h
  | .keys _, X, S, p, g, h => by simp [chkE] at h
  | .revd _, X, S, p, g, h => by simp [chkE] at h
  | .itv _, X, S, p, g, h => by simp [chkE] at h
theorem sndO : ∀ (e : Option Ex) {X : Cx} {S : Sig} (p : Option Expr), Good X cl C S → chkO S e p = true → PO X p (TO1 X cl (evalO C e))
  | none, X, S, p, g, h => by
    simp only [chkO] at h
    split at h
    · exact o_none
    · cases h
  | some e, X, S, p, g, h => by
    simp only [chkO] at h
    split at h
    · exact o_some (sndE e _ g h)
    · cases h
theorem sndAs : ∀ (es : List Ex) {X : Cx} {S : Sig} (ps : List Expr), Good X cl C S → chkAs S es ps = true → PA X ps (TA1 X cl (evalEs C es))
  | [], X, S, ps, g, h => by
    simp only [chkAs] at h
    split at h
    · exact a_nil
    · cases h
  | e :: es, X, S, ps, g, h => by
    simp only [chkAs] at h
    split at h
    · obtain ⟨h, h4⟩ := and_t h
      obtain ⟨h, h3⟩ := and_t h
      obtain ⟨h1, h2⟩ := and_t h
      exact a_cons (nst h1) (not_t h2) (sndE e _ g h3) (sndAs es _ g h4)
    · cases h
theorem sndDs : ∀ (es : List Ex) {X : Cx} {S : Sig} (ps : List Expr), Good X cl C S → chkDs S es ps = true → PA X ps (TA1 X cl (evalEs C es))
  | [], X, S, ps, g, h => by
    simp only [chkDs] at h
    split at h
    · exact a_nil
    · cases h
  | e :: es, X, S, ps, g, h => by
    simp only [chkDs] at h
    split at h
    · rename_i p ps
      obtain ⟨h, h3⟩ := and_t h
      obtain ⟨h1, h2⟩ := and_t h
      rw [beq_iff_eq] at h1
      have hr := sndDs es ps g h3
      have hx := sndX e p g h2
      have he := sndE e p g h2
      cases hs : isStar e with
      | true =>
        cases e <;> first | (simp [isStar] at hs; done) | skip
        obtain ⟨q, pos, rfl, hq⟩ := hx
        exact a_star hq hr
      | false => exact a_cons (by rw [← h1]; exact hs) hs he hr
    · cases h
theorem sndX : ∀ (e : Ex) {X : Cx} {S : Sig} (p : Expr), Good X cl C S → chkE S e p = true → (match e with | .star e' => ∃ q pos, p = .Starred q pos ∧ PE X q (TE1 X cl (evalE C e')) | _ => True)
  | .star e, X, S, p, g, h => by
    simp only [chkE] at h
    split at h
    · exact ⟨_, _, rfl, sndE e _ g h⟩
    · cases h
  | .var _, _, _, _, _, _ => trivial
  | .non, _, _, _, _, _ => trivial
  | .bl _, _, _, _, _, _ => trivial
  | .int _, _, _, _, _, _ => trivial
  | .str _, _, _, _, _, _ => trivial
  | .glb _, _, _, _, _, _ => trivial
  | .tup _, _, _, _, _, _ => trivial
  | .op _ _ _, _, _, _, _, _ => trivial
  | .neg _, _, _, _, _, _ => trivial
  | .not _, _, _, _, _, _ => trivial
  | .and _ _, _, _, _, _, _ => trivial
  | .or _ _, _, _, _, _, _ => trivial
  | .ite _ _ _, _, _, _, _, _ => trivial
  | .cmp _ _ _, _, _, _, _, _ => trivial
  | .chain _ _ _ _ _, _, _, _, _, _ => trivial
  | .idx _ _, _, _, _, _, _ => trivial
  | .slc _ _ _, _, _, _, _, _ => trivial
  | .rev _, _, _, _, _, _ => trivial
  | .call _ _, _, _, _, _, _ => trivial
  | .callz _ _, _, _, _, _, _ => trivial
  | .blt _ _, _, _, _, _, _ => trivial
  | .tupR _, _, _, _, _, _ => trivial
  | .isi _ _, _, _, _, _, _ => trivial
  | .mth _ _ _, _, _, _, _, _ => trivial
  | .frl _, _, _, _, _, _ => trivial
  | .own _, _, _, _, _, _ => trivial
  | .frd _, _, _, _, _, _ => trivial
  | .ownd _, _, _, _, _, _ => trivial
  | .rng _, _, _, _, _, _ => trivial
  | .enum _, _, _, _, _, _ => trivial
  | .zip _, _, _, _, _, _ => trivial
  | .items _, _, _, _, _, _ => trivial
  | .values _, _, _, _, _, _ => trivial
  | .keys _, _, _, _, _, _ => trivial
  | .revd _, _, _, _, _, _ => trivial
  | .itv _, _, _, _, _, _ => trivial
theorem sndT : ∀ (e : Ex) {X : Cx} {S : Sig} (p : Expr), Good X cl C S → chkT S e p = true → PT X p (TT1 X cl (evalE C e))
  | .not a, X, S, p, g, h => by
    simp only [chkT] at h
    split at h
    · exact t_not (sndT a _ g h)
    · cases h
  | .and a b, X, S, p, g, h => by
    simp only [chkT] at h
    split at h
    · obtain ⟨h1, h2⟩ := and_t h
      exact (w_and (sndT a _ g h1) (w_and1 (sndT b _ g h2))).pt
    · obtain ⟨h1, h2⟩ := and_t h
      exact (w_and (sndT a _ g h1) (sndW b _ _ _ g h2)).pt
    · cases h
  | .or a b, X, S, p, g, h => by
    simp only [chkT] at h
    split at h
    · obtain ⟨h1, h2⟩ := and_t h
      exact (w_or (sndT a _ g h1) (w_or1 (sndT b _ g h2))).pt
    · obtain ⟨h1, h2⟩ := and_t h
      exact (w_or (sndT a _ g h1) (sndW b _ _ _ g h2)).pt
    · cases h
  | .cmp o a b, X, S, p, g, h => by
    simp only [chkT] at h
    split at h
    · obtain ⟨h, h4⟩ := and_t h
      obtain ⟨h, h3⟩ := and_t h
      obtain ⟨h1, h2⟩ := and_t h
      have h := of_decide_eq_true h1
      subst h
      exact t_cmp (units64 g) (sndE a _ g h3) (sndE b _ g h4) (not_t h2)
    · cases h
  | .chain o o' a b c, X, S, p, g, h => by
    simp only [chkT] at h
    split at h
    · obtain ⟨h, h6⟩ := and_t h
      obtain ⟨h, h5⟩ := and_t h
      obtain ⟨h, h4⟩ := and_t h
      obtain ⟨h, h3⟩ := and_t h
      obtain ⟨h1, h2⟩ := and_t h
      have e1 := of_decide_eq_true h1
      have e2 := of_decide_eq_true h2
      subst e1 e2
      exact t_chain (units64 g) (sndE a _ g h4) (sndE b _ g h5) (sndE c _ g h6) (not_t h3)
    · cases h
  | .var i, X, S, p, g, h => by
    simp only [chkT] at h
    split at h
    · obtain ⟨h, h3⟩ := and_t h
      obtain ⟨h1, h2⟩ := and_t h
      exact t_val (n_var (by rw [g.N]; exact of_decide_eq_true h1) (g.vis h2) (nm_ok h3).1 (nm_ok h3).2) (fun _ => rfl)
    · cases h
  | .bl b, X, S, p, g, h => by
    simp only [chkT] at h
    split at h
    · rw [beq_iff_eq] at h
      subst h
      exact t_val n_bl (fun _ => rfl)
    · cases h
  | .idx a b, X, S, p, g, h => by
    simp only [chkT] at h
    split at h
    · obtain ⟨h, h3⟩ := and_t h
      obtain ⟨h1, h2⟩ := and_t h
      exact t_val (n_idx (units1 g) (sndE a _ g h2) (sndE b _ g h3) (ix_ok h1)) (fun _ => rfl)
    · cases h
  | .call f es, X, S, p, g, h => by
    simp only [chkT] at h
    split at h
    · obtain ⟨h1, h2, h3, h4, h5, h6⟩ := call_facts h
      obtain ⟨fa, fd, pn, k, F, hr, hm, hk, hb⟩ := g.fns f _ h1
      exact t_val (n_call F hr g.gd (g.gl h2) hm hk hb h3 (sndAs es _ g h6) h4 h5) (fun _ => rfl)
    · cases h
  | .callz f es, X, S, p, g, h => by
    simp only [chkT] at h
    split at h
    · obtain ⟨h1, h2, h3, h4, h5, h6⟩ := call_facts h
      obtain ⟨fa, fd, pn, k, F, hr, hm, hk, hb⟩ := g.fns f _ h1
      exact t_val (n_callz F hr g.gd (g.gl h2) hm hk hb h3 (sndAs es _ g h6) h4 h5) (fun _ => rfl)
    · cases h
  | .blt b es, X, S, p, g, h => by
    simp only [chkT] at h
    split at h
    · obtain ⟨h1, h2, h3, h4, h5, h6⟩ := blt_facts h
      subst h2
      exact t_val (n_blt b h1 g.calm g.gd g.un (g.gl h3) (g.blt b h1) (sndAs es _ g h6) h4 h5) (fun _ => rfl)
    · cases h
  | .non, X, S, p, g, h => by simp [chkT] at h
  | .int _, X, S, p, g, h => by simp [chkT] at h
  | .str _, X, S, p, g, h => by simp [chkT] at h
  | .glb _, X, S, p, g, h => by simp [chkT] at h
  | .tup _, X, S, p, g, h => by simp [chkT] at h
  | .star _, X, S, p, g, h => by simp [chkT] at h
  | .op _ _ _, X, S, p, g, h => by simp [chkT] at h
  | .neg _, X, S, p, g, h => by simp [chkT] at h
  | .ite _ _ _, X, S, p, g, h => by simp [chkT] at h
  | .slc _ _ _, X, S, p, g, h => by simp [chkT] at h
  | .rev _, X, S, p, g, h => by simp [chkT] at h
  | .tupR _, X, S, p, g, h => by simp [chkT] at h
  | .isi a [t], X, S, p, g, h => by
    simp only [chkT] at h
    split at h
    · obtain ⟨h1, h2, h3, h4, h5, h6, h7⟩ := isi_facts h
      exact t_val (isi_at g h1 h2 h3 h4 h5 h6 (sndE a _ g h7)) (fun _ => rfl)
    · cases h
  | .isi _ [], X, S, p, g, h => by simp [chkT] at h
  | .isi _ (_ :: _ :: _), X, S, p, g, h => by simp [chkT] at h
  | .mth _ _ _, X, S, p, g, h => by simp [chkT] at h
  | .frl _, X, S, p, g, h => by simp [chkT] at h
  | .own _, X, S, p, g, h => by simp [chkT] at h
  | .frd _, X, S, p, g, h => by simp [chkT] at h
  | .ownd _, X, S, p, g, h => by simp [chkT] at h
  | .rng _, X, S, p, g, h => by simp [chkT] at h
  | .enum _, X, S, p, g, h => by simp [chkT] at h
  | .zip _, X, S, p, g, h => by simp [chkT] at h
  | .items _, X, S, p, g, h => by simp [chkT] at h
  | .values _, X, S, p, g, h => by simp [chkT] at h
  | .keys _, X, S, p, g, h => by simp [chkT] at h
  | .revd _, X, S, p, g, h => by simp [chkT] at h
  | .itv _, X, S, p, g, h => by simp [chkT] at h
theorem sndW : ∀ (e : Ex) {X : Cx} {S : Sig} (op : BoolOp) (vs : List Expr) (pos : Pos), Good X cl C S → chkT S e (.BoolOp op vs pos) = true → PW X (.BoolOp op vs pos) (TT1 X cl (evalE C e))
  | .and a b, X, S, op, vs, pos, g, h => by
    simp only [chkT] at h
    split at h
    · rename_i hp
      cases hp
      obtain ⟨h1, h2⟩ := and_t h
      exact w_and (sndT a _ g h1) (w_and1 (sndT b _ g h2))
    · rename_i hp
      cases hp
      obtain ⟨h1, h2⟩ := and_t h
      exact w_and (sndT a _ g h1) (sndW b _ _ _ g h2)
    · cases h
  | .or a b, X, S, op, vs, pos, g, h => by
    simp only [chkT] at h
    split at h
    · rename_i hp
      cases hp
      obtain ⟨h1, h2⟩ := and_t h
      exact w_or (sndT a _ g h1) (w_or1 (sndT b _ g h2))
    · rename_i hp
      cases hp
      obtain ⟨h1, h2⟩ := and_t h
      exact w_or (sndT a _ g h1) (sndW b _ _ _ g h2)
    · cases h
  | .var _, X, S, op, vs, pos, g, h => by simp [chkT] at h
  | .non, X, S, op, vs, pos, g, h => by simp [chkT] at h
  | .bl _, X, S, op, vs, pos, g, h => by simp [chkT] at h
  | .int _, X, S, op, vs, pos, g, h => by simp [chkT] at h
  | .str _, X, S, op, vs, pos, g, h => by simp [chkT] at h
  | .glb _, X, S, op, vs, pos, g, h => by simp [chkT] at h
  | .tup _, X, S, op, vs, pos, g, h => by simp [chkT] at h
  | .star _, X, S, op, vs, pos, g, h => by simp [chkT] at h
  | .op _ _ _, X, S, op, vs, pos, g, h => by simp [chkT] at h
  | .neg _, X, S, op, vs, pos, g, h => by simp [chkT] at h
  | .not _, X, S, op, vs, pos, g, h => by simp [chkT] at h
  | .ite _ _ _, X, S, op, vs, pos, g, h => by simp [chkT] at h
  | .cmp _ _ _, X, S, op, vs, pos, g, h => by simp [chkT] at h
  | .chain _ _ _ _ _, X, S, op, vs, pos, g, h => by simp [chkT] at h
  | .idx _ _, X, S, op, vs, pos, g, h => by simp [chkT] at h
  | .slc _ _ _, X, S, op, vs, pos, g, h => by simp [chkT] at h
  | .rev _, X, S, op, vs, pos, g, h => by simp [chkT] at h
  | .call _ _, X, S, op, vs, pos, g, h => by simp [chkT] at h
  | .callz _ _, X, S, op, vs, pos, g, h => by simp [chkT] at h
  | .blt _ _, X, S, op, vs, pos, g, h => by simp [chkT] at h
  | .tupR _, X, S, op, vs, pos, g, h => by simp [chkT] at h
  | .isi _ [], X, S, op, vs, pos, g, h => by simp [chkT] at h
  | .isi _ [_], X, S, op, vs, pos, g, h => by simp [chkT] at h
  | .isi _ (_ :: _ :: _), X, S, op, vs, pos, g, h => by simp [chkT] at h
  | .mth _ _ _, X, S, op, vs, pos, g, h => by simp [chkT] at h
  | .frl _, X, S, op, vs, pos, g, h => by simp [chkT] at h
  | .own _, X, S, op, vs, pos, g, h => by simp [chkT] at h
  | .frd _, X, S, op, vs, pos, g, h => by simp [chkT] at h
  | .ownd _, X, S, op, vs, pos, g, h => by simp [chkT] at h
  | .rng _, X, S, op, vs, pos, g, h => by simp [chkT] at h
  | .enum _, X, S, op, vs, pos, g, h => by simp [chkT] at h
  | .zip _, X, S, op, vs, pos, g, h => by simp [chkT] at h
  | .items _, X, S, op, vs, pos, g, h => by simp [chkT] at h
  | .values _, X, S, op, vs, pos, g, h => by simp [chkT] at h
  | .keys _, X, S, op, vs, pos, g, h => by simp [chkT] at h
  | .revd _, X, S, op, vs, pos, g, h => by simp [chkT] at h
  | .itv _, X, S, op, vs, pos, g, h => by simp [chkT] at h
theorem sndCs : ∀ (es : List Ex) {X : Cx} {S : Sig} (ps : List Expr), Good X cl C S → chkCs S es ps = true → PTs X ps (TD X cl relB (condsE C es))
  | [], X, S, ps, g, h => by
    simp only [chkCs] at h
    split at h
    · exact c_nil
    · cases h
  | [e], X, S, ps, g, h => by
    simp only [chkCs] at h
    split at h
    · exact c_one (sndT e _ g h)
    · cases h
  | _ :: _ :: _, X, S, ps, g, h => by simp [chkCs] at h
theorem sndI : ∀ (e : Ex) {X : Cx} {S : Sig} (tg p : Expr), Good X cl C S → chkI S tg e p = true → PI X tg p (TI1 X cl (evalI C e))
  | .rng [a], X, S, tg, p, g, h => by
    simp only [chkI] at h
    split at h
    · obtain ⟨h, h4⟩ := and_t h
      obtain ⟨h, h3⟩ := and_t h
      obtain ⟨h1, h2⟩ := and_t h
      have e1 := of_decide_eq_true h1
      subst e1
      exact i_rng1 (g.gl h2) g.rng (sndE a _ g h4) (nst h3)
    · cases h
  | .rng [a, b], X, S, tg, p, g, h => by
    simp only [chkI] at h
    split at h
    · obtain ⟨h, h6⟩ := and_t h
      obtain ⟨h, h5⟩ := and_t h
      obtain ⟨h, h4⟩ := and_t h
      obtain ⟨h, h3⟩ := and_t h
      obtain ⟨h1, h2⟩ := and_t h
      have e1 := of_decide_eq_true h1
      subst e1
      exact i_rng2 (g.gl h2) g.rng (sndE a _ g h5) (nst h3) (sndE b _ g h6) (nst h4)
    · cases h
  | .enum a, X, S, tg, p, g, h => by
    simp only [chkI] at h
    split at h
    · obtain ⟨h, h5⟩ := and_t h
      obtain ⟨h, h4⟩ := and_t h
      obtain ⟨h, h3⟩ := and_t h
      obtain ⟨h1, h2⟩ := and_t h
      have e1 := of_decide_eq_true h2
      subst e1
      have ha := sndE a _ g h5
      cases tg <;> first | (simp [isTupP] at h1; done) | exact i_enum (g.gl h3) g.enm ha (nst h4)
    · cases h
  | .zip [a, b], X, S, tg, p, g, h => by
    simp only [chkI] at h
    split at h
    · obtain ⟨h, h7⟩ := and_t h
      obtain ⟨h, h6⟩ := and_t h
      obtain ⟨h, h5⟩ := and_t h
      obtain ⟨h, h4⟩ := and_t h
      obtain ⟨h, h3⟩ := and_t h
      obtain ⟨h1, h2⟩ := and_t h
      have e1 := of_decide_eq_true h2
      subst e1
      have ha := sndE a _ g h6
      have hb := sndE b _ g h7
      cases tg <;> first | (simp [isTupP] at h1; done) | exact i_zip (g.gl h3) (g.mor _ (by decide)) ha (nst h4) hb (nst h5)
    · cases h
  | .zip [], X, S, tg, p, g, h => by simp [chkI] at h
  | .zip [_], X, S, tg, p, g, h => by simp [chkI] at h
  | .zip (_ :: _ :: _ :: _), X, S, tg, p, g, h => by simp [chkI] at h
  | .itv a, X, S, tg, p, g, h => by
    simp only [chkI] at h
    exact i_itv (sndE a _ g h)
  | .rng [], X, S, tg, p, g, h => by simp [chkI] at h
  | .rng (_ :: _ :: _ :: _), X, S, tg, p, g, h => by simp [chkI] at h
  | .var _, X, S, tg, p, g, h => by simp [chkI] at h
  | .non, X, S, tg, p, g, h => by simp [chkI] at h
  | .bl _, X, S, tg, p, g, h => by simp [chkI] at h
  | .int _, X, S, tg, p, g, h => by simp [chkI] at h
  | .str _, X, S, tg, p, g, h => by simp [chkI] at h
  | .glb _, X, S, tg, p, g, h => by simp [chkI] at h
  | .tup _, X, S, tg, p, g, h => by simp [chkI] at h
  | .star _, X, S, tg, p, g, h => by simp [chkI] at h
  | .op _ _ _, X, S, tg, p, g, h => by simp [chkI] at h
  | .neg _, X, S, tg, p, g, h => by simp [chkI] at h
  | .not _, X, S, tg, p, g, h => by simp [chkI] at h
  | .and _ _, X, S, tg, p, g, h => by simp [chkI] at h
  | .or _ _, X, S, tg, p, g, h => by simp [chkI] at h
  | .ite _ _ _, X, S, tg, p, g, h => by simp [chkI] at h
  | .cmp _ _ _, X, S, tg, p, g, h => by simp [chkI] at h
  | .chain _ _ _ _ _, X, S, tg, p, g, h => by simp [chkI] at h
  | .idx _ _, X, S, tg, p, g, h => by simp [chkI] at h
  | .slc _ _ _, X, S, tg, p, g, h => by simp [chkI] at h
  | .rev _, X, S, tg, p, g, h => by simp [chkI] at h
  | .call _ _, X, S, tg, p, g, h => by simp [chkI] at h
  | .callz _ _, X, S, tg, p, g, h => by simp [chkI] at h
  | .blt _ _, X, S, tg, p, g, h => by simp [chkI] at h
  | .tupR _, X, S, tg, p, g, h => by simp [chkI] at h
  | .isi _ _, X, S, tg, p, g, h => by simp [chkI] at h
  | .mth _ _ _, X, S, tg, p, g, h => by simp [chkI] at h
  | .frl _, X, S, tg, p, g, h => by simp [chkI] at h
  | .own _, X, S, tg, p, g, h => by simp [chkI] at h
  | .frd _, X, S, tg, p, g, h => by simp [chkI] at h
  | .ownd _, X, S, tg, p, g, h => by simp [chkI] at h
  | .items _, X, S, tg, p, g, h => by simp [chkI] at h
  | .values _, X, S, tg, p, g, h => by simp [chkI] at h
  | .keys _, X, S, tg, p, g, h => by simp [chkI] at h
  | .revd _, X, S, tg, p, g, h => by simp [chkI] at h
theorem sndL : ∀ (l : Lx) {X : Cx} {S : Sig} (p : Expr), Good X cl C S → chkL S l p = true → PE X p (TL1 X cl (evalL C l))
  | .disp es, X, S, p, g, h => by
    simp only [chkL] at h
    split at h
    · exact l_disp (sndDs es _ g h)
    · cases h
  | .comp own t it cs e, X, S, p, g, h => by
    simp only [chkL] at h
    split at h
    · rename_i elt tgp q ifs k scope pos
      obtain ⟨h, h9⟩ := and_t h
      obtain ⟨h, h8⟩ := and_t h
      obtain ⟨h, h7⟩ := and_t h
      obtain ⟨h, h6⟩ := and_t h
      obtain ⟨h, h5⟩ := and_t h
      obtain ⟨h, h4⟩ := and_t h
      obtain ⟨h, h3⟩ := and_t h
      obtain ⟨h1, h2⟩ := and_t h
      have e1 := of_decide_eq_true h1
      subst e1
      have eOwn := of_decide_eq_true h5
      have ok := own_ok g.N g.sc h4
      have kn : scope.kind = .function := ok.kind
      have hI := sndI it tgp q g h2
      have := l_comp (e := e) (own := ownN S own) (t := t) g.calm g.nd hI ok (fun s H L ce fp => sndG (g.blk s H scope L ce fp kn) t tgp h7) (fun s H L ce fp => sndCs cs ifs (g.blk s H scope L ce fp kn) h8)
        (fun s H L ce fp => sndE e elt (g.blk s H scope L ce fp kn) h9) (fun i hi => by
          rw [List.all_eq_true] at h6
          rw [eOwn]
          simpa using h6 i hi) h3 (pos := pos)
      rw [eOwn] at this
      exact this
    · cases h
  | .bltl b es, X, S, p, g, h => by
    simp only [chkL] at h
    split at h
    · obtain ⟨h1, h2, h3, h4, h5, h6⟩ := blt_facts h
      subst h2
      exact l_bltl b h1 g.calm g.un (g.gl h3) (g.blt b h1) (sndAs es _ g h6) h4 h5
    · cases h
  | .add a b, X, S, p, g, h => by
    simp only [chkL] at h
    split at h
    · obtain ⟨h1, h2⟩ := and_t h
      exact l_add (sndE a _ g h1) (sndE b _ g h2)
    · cases h
  | .rev a, X, S, p, g, h => by
    simp only [chkL] at h
    split at h
    · obtain ⟨h1, h2⟩ := and_t h
      have e1 := of_decide_eq_true h1
      subst e1
      exact l_rev (sndE a _ g h2)
    · cases h
  | .comp2 own t it cs t2 it2 cs2 e, X, S, p, g, h => by
    simp only [chkL] at h
    split at h
    · rename_i elt tgp q ifs k tgp2 q2 ifs2 k2 scope pos
      obtain ⟨h, z16⟩ := and_t h
      obtain ⟨h, z15⟩ := and_t h
      obtain ⟨h, z14⟩ := and_t h
      obtain ⟨h, z13⟩ := and_t h
      obtain ⟨h, z12⟩ := and_t h
      obtain ⟨h, z11⟩ := and_t h
      obtain ⟨h, z10⟩ := and_t h
      obtain ⟨h, z9⟩ := and_t h
      obtain ⟨h, z8⟩ := and_t h
      obtain ⟨h, z7⟩ := and_t h
      obtain ⟨h, z6⟩ := and_t h
      obtain ⟨h, z5⟩ := and_t h
      obtain ⟨h, z4⟩ := and_t h
      obtain ⟨h, z3⟩ := and_t h
      obtain ⟨z1, z2⟩ := and_t h
      have e1 := of_decide_eq_true z1
      have e2 := of_decide_eq_true z2
      subst e1 e2
      have eOwn := of_decide_eq_true z7
      have ok := own_ok g.N g.sc z6
      have kn : scope.kind = .function := ok.kind
      have hI := sndI it tgp q g z3
      rw [List.all_eq_true] at z8 z9 z10
      have := l_comp2 (e := e) (own := ownN S own) (t := t) (t2 := t2) (vs1 := tgIx t2) g.calm g.nd hI ok (fun i hi => by rw [eOwn]; simpa using z9 i hi) (fun i hi => by simpa using z10 i hi)
        (fun s H L ce fp => sndG (g.blk s H scope L ce fp kn) t tgp z11) (fun s H L ce fp => sndCs cs ifs (g.blk s H scope L ce fp kn) z12)
        (fun s H L ce fp => sndI it2 tgp2 q2 (g.blk s H scope L ce fp kn) z13) (fun s H L ce fp => sndG (g.blk s H scope L ce fp kn) t2 tgp2 z14) (fun s H L ce fp => sndCs cs2 ifs2 (g.blk s H scope L ce fp kn) z15)
        (fun s H L ce fp => sndE e elt (g.blk s H scope L ce fp kn) z16) (fun i hi => by rw [eOwn]; simpa using z8 i hi) (fun i hi => hi) z4 z5 (pos := pos)
      rw [eOwn] at this
      exact this
    · cases h
  | .lstR a, X, S, p, g, h => by
    simp only [chkL] at h
    split at h
    · rename_i x ppos y p2 q pos2 pos
      obtain ⟨h1, h2, h3, h4, h5, h6⟩ := rgc_facts h
      subst h1 h2
      exact l_rngR g.calm (g.gl h3) (g.blt .list rfl) (g.gl h4) g.rng (sndE a _ g h6) h5
    · cases h
theorem sndK : ∀ (l : Dx) {X : Cx} {S : Sig} (p : Expr), Good X cl C S → chkK S l p = true → PE X p (TK1 X cl (evalK C l))
  | .disp kvs, X, S, p, g, h => by
    simp only [chkK] at h
    split at h
    · rename_i pos
      cases kvs with
      | nil => exact k_disp0
      | cons _ _ => cases h
    · rename_i ks vs pos _
      obtain ⟨h, h3⟩ := and_t h
      obtain ⟨h1, h2⟩ := and_t h
      have hp := sndPs kvs ks vs pos g h3
      exact k_disp hp.1 hp.2.1 hp.2.2.1 (by intro e; subst e; simp at h1) (of_decide_eq_true h2) hp.2.2.2
    · cases h
  | .comp _ _ _ _ _ _, X, S, p, g, h => by simp [chkK] at h
  | .val e, X, S, p, g, h => by
    simp only [chkK] at h
    split at h
    · obtain ⟨h, h4⟩ := and_t h
      obtain ⟨h, h3⟩ := and_t h
      obtain ⟨h1, h2⟩ := and_t h
      have h1 := of_decide_eq_true h1
      subst h1
      exact k_val g.calm (g.gl h2) (g.mor _ (by decide)) (sndE e _ g h4) (not_t h3)
    · cases h
theorem sndPs : ∀ (kvs : List Ex) {X : Cx} {S : Sig} (ks : List (Option Expr)) (vs : List Expr) (pos : Pos), Good X cl C S → chkPs S kvs ks vs = true → PPs X pos ks vs (prs X cl C kvs) ∧ ks.all (·.isSome) = true ∧ ks.length = vs.length ∧ (prs X cl C kvs).length = ks.length
  | [], X, S, ks, vs, pos, g, h => by
    simp only [chkPs] at h
    split at h
    · exact ⟨pps_nil, rfl, rfl, rfl⟩
    · cases h
  | [_], X, S, ks, vs, pos, g, h => by simp [chkPs] at h
  | k :: v :: kvs, X, S, ks, vs, pos, g, h => by
    simp only [chkPs] at h
    split at h
    · obtain ⟨h, h3⟩ := and_t h
      obtain ⟨h1, h2⟩ := and_t h
      have ih := sndPs kvs _ _ pos g h3
      refine ⟨?_, ?_, ?_, ?_⟩
      · simp only [prs]
        exact pps_cons (sndE k _ g h1) (sndE v _ g h2) ih.1
      · simp [ih.2.1]
      · simp [ih.2.2.1]
      · simp [prs, ih.2.2.2]
    · cases h
end
end
end Dv
namespace Dv
open PySem L2
def swB (S : Sig) (x : Str) (px tpos : Pos) (scope : Scope) : Bool :=
  (S.sc.names.lookup x == some .local) && px.line == tpos.line && !(scope.names.any fun (n, k) => n == x && (k == .local || k == .cell))
mutual
def chkS (S : Sig) : Sx → Stmt → Bool
  | .set i e, st => match st with
    | .Assign [.Name x px] p _ => decide (S.N[i]? = some x) && locB S.sc x && (S.fnB x || lclB S.sc x) && (match p with
      | .ListComp _ _ scope tpos => if swB S x px tpos scope then (match e with
          | .frl l => chkL S l p
          | .own l => chkL S l p
          | _ => false) else chkE S e p
      | _ => !isCompP p && chkE S e p)
    | _ => false
  | .mov i j, st => match st with
    | .Assign [.Name x px] (.Name y py) _ => decide (S.N[i]? = some x) && locB S.sc x && (S.fnB x || lclB S.sc x) && chkE S (.var j) (.Name y py)
    | _ => false
  | .tset t e, st => match st with
    | .Assign [tg] p _ => isTupP tg && !isCompP p && !isTupP p && chkG S t tg && chkE S e p
    | _ => false
  | .par is es, st => match st with
    | .Assign [.Tuple [.Name x px, .Name y py] _ _] (.Tuple [p, q] _ _) _ => (match is, es with
      | [i, j], [a, b] => decide (S.N[i]? = some x) && decide (S.N[j]? = some y) && decide (i ≠ j) && decide (x ≠ y) && !isStarP p && !isStarP q && !isStar a && !isStar b && chkE S a p && chkE S b q && locB S.sc x && locB S.sc y && (S.fnB x || lclB S.sc x) && (S.fnB y || lclB S.sc y) &&
          ((lclB S.sc x && lclB S.sc y && (py.line == px.line) && !([p, q].all (foldedForSure 8)) && !([p, q].all (constantsAlone 8))) || !(lclB S.sc x) || !(lclB S.sc y))
      | _, _ => false)
    | _ => false
  | .isub o i e, st => match st with
    | .Assign [.Subscript p q _] r _ => !isCompP r && notSl q && chkE S o p && chkE S i q && chkE S e r
    | _ => false
  | .aug _ _ _, _ => false
  | .expr e, st => match st with
    | .Expr p _ => !isCompP p && chkE S e p
    | _ => false
  | .ret e, st => match st with
    | .Return (some p) _ => chkE S e p
    | _ => false
  | .retN, st => match st with
    | .Return none _ => true
    | _ => false
  | .ite c a b, st => match st with
    | .If p ta tb _ => chkT S c p && chkSs S a ta && chkSs S b tb
    | _ => false
  | .whl c b, st => match st with
    | .While p tb [] _ => chkT S c p && chkSs S b tb
    | _ => false
  | .for_ t it b, st => match st with
    | .For tg p tb [] _ => chkI S tg it p && chkG S t tg && setNo p && chkSs S b tb
    | _ => false
  | .unk, _ => true
  | .brk, st => match st with
    | .Break _ => true
    | _ => false
  | .cont, st => match st with
    | .Continue _ => true
    | _ => false
  | .pass, st => match st with
    | .Pass _ => true
    | _ => false
def chkSs (S : Sig) : List Sx → List Stmt → Bool
  | [], ps => match ps with
    | [] => true
    | _ => false
  | s :: ss, ps => match ps with
    | p :: ps => chkS S s p && chkSs S ss ps
    | _ => false
end
section
variable {X : Cx} {cl : Nat → Addr} {C : Cst} {S : Sig}
theorem sw_eq (g : Good X cl C S) {x : Str} {px tpos : Pos} {scope : Scope} : (X.env.blockKind == .function && X.env.kindOf x == some .local && px.line == tpos.line && !(scope.names.any fun (n, k) => n == x && (k == .local || k == .cell))) = swB S x px tpos scope := by
  have h1 : (X.env.blockKind == .function) = true := by
    unfold PySem.Env.blockKind
    rw [g.kind.symm]
    rfl
  rw [h1, Bool.true_and]
  unfold swB
  rw [← g.sc]
  rfl
theorem set_comp (g : Good X cl C S) {i : Nat} {x : Str} {px pos : Pos} {e : Ex} {l : Lx} {elt : Expr} {gs : List Comprehension} {scope : Scope} {tpos : Pos} (hl : e = .frl l ∨ e = .own l) (hi : S.N[i]? = some x) (sw : swB S x px tpos scope = true)
    (h : chkL S l (.ListComp elt gs scope tpos) = true) : PS X (.Assign [.Name x px] (.ListComp elt gs scope tpos) pos) (TS1 X cl (execS C (.set i e))) := by
  have hsw : swapsWith (.ListComp elt gs scope tpos) (some (.Name x px)) pos.line X.env = pure true := swap_lc (by rw [sw_eq g]; exact sw)
  have hx : X.env.scope.names.lookup x = some .local := by
    unfold swB at sw
    obtain ⟨sw, _⟩ := and_t sw
    obtain ⟨sw, _⟩ := and_t sw
    rw [g.sc]
    exact beq_iff_eq.mp sw
  cases l with
  | comp own t it cs a =>
    simp only [chkL] at h
    split at h
    · rename_i hp
      cases hp
      obtain ⟨h, h9⟩ := and_t h
      obtain ⟨h, h8⟩ := and_t h
      obtain ⟨h, h7⟩ := and_t h
      obtain ⟨h, h6⟩ := and_t h
      obtain ⟨h, h5⟩ := and_t h
      obtain ⟨h, h4⟩ := and_t h
      obtain ⟨h, h3⟩ := and_t h
      obtain ⟨h1, h2⟩ := and_t h
      have e1 := of_decide_eq_true h1
      subst e1
      have eOwn := of_decide_eq_true h5
      have ok := own_ok g.N g.sc h4
      have kn : scope.kind = .function := ok.kind
      exact s_setLc (own := ownN S own) (t := t) (it := it) (cs := cs) (a := a) hl (by rw [eOwn]) g.calm g.nd (by rw [g.N]; exact hi) hx hsw (sndI it _ _ g h2) ok (fun s H L ce fp => sndG (g.blk s H scope L ce fp kn) t _ h7) (fun s H L ce fp => sndCs cs _ (g.blk s H scope L ce fp kn) h8)
        (fun s H L ce fp => sndE a _ (g.blk s H scope L ce fp kn) h9) (fun i hi => by
          rw [List.all_eq_true] at h6
          rw [eOwn]
          simpa using h6 i hi) h3
    · cases h
  | disp es => simp [chkL] at h
  | lstR a => simp [chkL] at h
  | bltl b es => simp [chkL] at h
  | add a b => simp [chkL] at h
  | rev a => simp [chkL] at h
  | comp2 own t it cs t2 it2 cs2 a =>
    simp only [chkL] at h
    split at h
    · rename_i hp
      cases hp
      obtain ⟨h, z16⟩ := and_t h
      obtain ⟨h, z15⟩ := and_t h
      obtain ⟨h, z14⟩ := and_t h
      obtain ⟨h, z13⟩ := and_t h
      obtain ⟨h, z12⟩ := and_t h
      obtain ⟨h, z11⟩ := and_t h
      obtain ⟨h, z10⟩ := and_t h
      obtain ⟨h, z9⟩ := and_t h
      obtain ⟨h, z8⟩ := and_t h
      obtain ⟨h, z7⟩ := and_t h
      obtain ⟨h, z6⟩ := and_t h
      obtain ⟨h, z5⟩ := and_t h
      obtain ⟨h, z4⟩ := and_t h
      obtain ⟨h, z3⟩ := and_t h
      obtain ⟨z1, z2⟩ := and_t h
      have e1 := of_decide_eq_true z1
      have e2 := of_decide_eq_true z2
      subst e1 e2
      have eOwn := of_decide_eq_true z7
      have ok := own_ok g.N g.sc z6
      have kn : scope.kind = .function := ok.kind
      rw [List.all_eq_true] at z8 z9 z10
      exact s_setLc2 (own := ownN S own) (t := t) (t2 := t2) (vs1 := tgIx t2) (it := it) (it2 := it2) (cs := cs) (cs2 := cs2) (a := a) hl (by rw [eOwn]) g.calm g.nd (by rw [g.N]; exact hi) hx hsw (sndI it _ _ g z3) ok (fun i hi => by rw [eOwn]; simpa using z9 i hi) (fun i hi => by simpa using z10 i hi)
        (fun s H L ce fp => sndG (g.blk s H scope L ce fp kn) t _ z11) (fun s H L ce fp => sndCs cs _ (g.blk s H scope L ce fp kn) z12)
        (fun s H L ce fp => sndI it2 _ _ (g.blk s H scope L ce fp kn) z13) (fun s H L ce fp => sndG (g.blk s H scope L ce fp kn) t2 _ z14) (fun s H L ce fp => sndCs cs2 _ (g.blk s H scope L ce fp kn) z15)
        (fun s H L ce fp => sndE a _ (g.blk s H scope L ce fp kn) z16) (fun i hi => by rw [eOwn]; simpa using z8 i hi) (fun i hi => hi) z4 z5
    · cases h
theorem exec_mov {C : Cst} {i j : Nat} : execS C (.mov i j) = execS C (.set i (.var j)) := by
  funext η st
  rw [execS, execS, evalE]
  split <;> rfl
set_option maxHeartbeats 4100000 in
mutual
theorem sndS (g : Good X cl C S) (hx : X.xe = fun _ _ => False) : ∀ (s : Sx) (p : Stmt), chkS S s p = true → PS X p (TS1 X cl (execS C s))
  | .set i e, p, h => by
    simp only [chkS] at h
    split at h
    · rename_i x px p pos
      obtain ⟨h, h4⟩ := and_t h
      obtain ⟨h, h3⟩ := and_t h
      obtain ⟨h1, h2⟩ := and_t h
      have h1 := of_decide_eq_true h1
      rw [Bool.or_eq_true] at h3
      have hi : X.N[i]? = some x := by rw [g.N]; exact h1
      have hf := h3.elim (fun e => Or.inl (b := X.env.scope.names.lookup x = some .local) (g.fn _ e)) fun e => .inr (g.lcl e)
      split at h4
      · rename_i elt gs scope tpos
        split at h4
        · rename_i sw
          split at h4
          · exact set_comp g (.inl rfl) h1 sw h4
          · exact set_comp g (.inr rfl) h1 sw h4
          · cases h4
        · rename_i sw
          exact s_set g.nd hi (g.loc h2) hf (swap_lc (by rw [sw_eq g]; exact Bool.eq_false_iff.mpr sw)) (sndE e _ g h4)
      · obtain ⟨h5, h6⟩ := and_t h4
        exact s_set g.nd hi (g.loc h2) hf (swap_no (not_t h5)) (sndE e _ g h6)
    · cases h
  | .mov i j, p, h => by
    simp only [chkS] at h
    split at h
    · rename_i x px y py pos
      obtain ⟨h, h4⟩ := and_t h
      obtain ⟨h, h3⟩ := and_t h
      obtain ⟨h1, h2⟩ := and_t h
      have h1 := of_decide_eq_true h1
      rw [Bool.or_eq_true] at h3
      have hi : X.N[i]? = some x := by rw [g.N]; exact h1
      have hf := h3.elim (fun e => Or.inl (b := X.env.scope.names.lookup x = some .local) (g.fn _ e)) fun e => .inr (g.lcl e)
      rw [exec_mov]
      exact s_set g.nd hi (g.loc h2) hf (swap_no rfl) (sndE (.var j) _ g h4)
    · cases h
  | .tset t e, p, h => by
    simp only [chkS] at h
    split at h
    · rename_i tg p pos
      obtain ⟨h, h5⟩ := and_t h
      obtain ⟨h, h4⟩ := and_t h
      obtain ⟨h, h3⟩ := and_t h
      obtain ⟨h1, h2⟩ := and_t h
      have hg := sndG g t tg h4
      cases tg <;> first | (simp [isTupP] at h1; done) | exact s_tset (not_t h2) (not_t h3) (sndE e _ g h5) hg
    · cases h
  | .par is es, p, h => by
    simp only [chkS] at h
    split at h
    · split at h
      · rename_i i j a b
        obtain ⟨h, z⟩ := and_t h
        obtain ⟨h, fy⟩ := and_t h
        obtain ⟨h, fx⟩ := and_t h
        obtain ⟨h, ly⟩ := and_t h
        obtain ⟨h, lx⟩ := and_t h
        obtain ⟨h, hb⟩ := and_t h
        obtain ⟨h, ha⟩ := and_t h
        obtain ⟨h, eb⟩ := and_t h
        obtain ⟨h, ea⟩ := and_t h
        obtain ⟨h, hq⟩ := and_t h
        obtain ⟨h, hp⟩ := and_t h
        obtain ⟨h, h4⟩ := and_t h
        obtain ⟨h, h3⟩ := and_t h
        obtain ⟨h1, h2⟩ := and_t h
        rw [Bool.or_eq_true] at fx fy
        have gx := fx.elim (fun e => Or.inl (b := X.env.scope.names.lookup _ = some .local) (g.fn _ e)) fun e => .inr (g.lcl e)
        have gy := fy.elim (fun e => Or.inl (b := X.env.scope.names.lookup _ = some .local) (g.fn _ e)) fun e => .inr (g.lcl e)
        have other : ∀ {x' y' : Str}, (!(lclB S.sc x')) = true → X.env.scope.names.lookup x' ≠ some .local := fun {x' _} e k => by
          have e := not_t e
          unfold lclB at e
          rw [g.sc] at k
          rw [k] at e
          simp at e
        rw [Bool.or_eq_true, Bool.or_eq_true] at z
        rcases z with (z | z) | z
        · obtain ⟨z, hc⟩ := and_t z
          obtain ⟨z, hf⟩ := and_t z
          obtain ⟨z, hl⟩ := and_t z
          obtain ⟨h5, h6⟩ := and_t z
          exact s_par2 g.calm g.nd (by rw [g.N]; exact of_decide_eq_true h1) (by rw [g.N]; exact of_decide_eq_true h2) (of_decide_eq_true h3) (g.lcl h5) (g.lcl h6)
            (swap_two g.kind.symm (g.lcl h5) (g.lcl h6) hl (of_decide_eq_true h4) (nst hp) (nst hq) (not_t hf) (not_t hc)) (nst hp) (nst hq) (sndE a _ g ha) (sndE b _ g hb) (not_t ea) (not_t eb)
        · exact s_par3 g.calm g.nd (by rw [g.N]; exact of_decide_eq_true h1) (by rw [g.N]; exact of_decide_eq_true h2) (g.loc lx) (g.loc ly) gx gy (swap_none (.inl (other (y' := "") z)) (nst hp) (nst hq)) (nst hp) (nst hq) (sndE a _ g ha) (sndE b _ g hb) (not_t ea) (not_t eb)
        · exact s_par3 g.calm g.nd (by rw [g.N]; exact of_decide_eq_true h1) (by rw [g.N]; exact of_decide_eq_true h2) (g.loc lx) (g.loc ly) gx gy (swap_none (.inr (other (y' := "") z)) (nst hp) (nst hq)) (nst hp) (nst hq) (sndE a _ g ha) (sndE b _ g hb) (not_t ea) (not_t eb)
      · cases h
    · cases h
  | .isub o i e, p, h => by
    simp only [chkS] at h
    split at h
    · obtain ⟨h, h5⟩ := and_t h
      obtain ⟨h, h4⟩ := and_t h
      obtain ⟨h, h3⟩ := and_t h
      obtain ⟨h1, h2⟩ := and_t h
      exact s_isub (units1 g) (not_t h1) h2 (sndE e _ g h5) (sndE o _ g h3) (sndE i _ g h4)
    · cases h
  | .unk, p, h => ⟨fun pins s σ H D I h => by
      obtain ⟨ρ, η, st, _, _, h⟩ := h
      rw [execS] at h
      exact h.elim⟩
  | .aug _ _ _, p, h => by simp [chkS] at h
  | .expr e, p, h => by
    simp only [chkS] at h
    split at h
    · obtain ⟨h1, h2⟩ := and_t h
      exact s_expr (not_t h1) (sndE e _ g h2)
    · cases h
  | .ret e, p, h => by
    simp only [chkS] at h
    split at h
    · exact s_ret (sndE e _ g h)
    · cases h
  | .retN, p, h => by
    simp only [chkS] at h
    split at h
    · exact s_retN
    · cases h
  | .ite c a b, p, h => by
    simp only [chkS] at h
    split at h
    · obtain ⟨h, h3⟩ := and_t h
      obtain ⟨h1, h2⟩ := and_t h
      exact s_ite (sndT c _ g h1) (sndSs g hx a _ h2) (sndSs g hx b _ h3)
    · cases h
  | .whl c b, p, h => by
    simp only [chkS] at h
    split at h
    · obtain ⟨h1, h2⟩ := and_t h
      exact s_whl hx (sndT c _ g h1) (sndSs g hx b _ h2)
    · cases h
  | .for_ t it b, p, h => by
    simp only [chkS] at h
    split at h
    · obtain ⟨h, h4⟩ := and_t h
      obtain ⟨h, h3⟩ := and_t h
      obtain ⟨h1, h2⟩ := and_t h
      exact s_for hx g.calm h3 (sndI it _ _ g h1) (sndG g t _ h2) (sndSs g hx b _ h4)
    · cases h
  | .brk, p, h => by
    simp only [chkS] at h
    split at h
    · exact s_brk
    · cases h
  | .cont, p, h => by
    simp only [chkS] at h
    split at h
    · exact s_cont
    · cases h
  | .pass, p, h => by
    simp only [chkS] at h
    split at h
    · exact s_pass
    · cases h
theorem sndSs (g : Good X cl C S) (hx : X.xe = fun _ _ => False) : ∀ (ss : List Sx) (ps : List Stmt), chkSs S ss ps = true → PSs X ps (TS1 X cl (execs C ss))
  | [], ps, h => by
    simp only [chkSs] at h
    split at h
    · exact ss_nil
    · cases h
  | s :: ss, ps, h => by
    simp only [chkSs] at h
    split at h
    · obtain ⟨h1, h2⟩ := and_t h
      exact ss_cons (sndS g hx s _ h1) (sndSs g hx ss _ h2)
    · cases h
end
end
end Dv
namespace Dv
open PySem L2 PySem.Spec PyProof.Rows
section
variable {P : Program} {w : World} {K : PySem.W.Frag} {mg : Str → Option Value} {base : Heap} {cl : Nat → Addr}
/-- a def's promise from its body's reading -/
theorem fnG_of {k : Nat} {f : Addr} {x qual : Str} {st : Stmt} {fd : FuncData} {N pn : List Str} {sp : List V → Hp → VK → Prop} (F : Fun K x qual st f fd) (SC : FnScope N pn (defScope st)) (len : ∀ vs H Q, sp vs H Q → vs.length = pn.length)
    (body : ∀ (cdv : Value) (A : Around) (outer : List PySem.Env) (s : Shared) (H : Hp) (vs : List V) (Q : VK), Room k (A.deeper (envOfC qual (defScope st) s.heap.objs.size f cdv)) → A.guards = some [] → sp vs H Q →
      ∃ t, PSs (cxOf CX0 P w K mg base N qual (defScope st) f cdv A outer s H E0).nox (defBody st) t ∧ t { nx := fun _ H' => Q .non H', rt := Q } (L2.start N vs) H) :
    FnG P w K mg base (k + 1) f fd pn sp := by
  obtain ⟨oc, od, kV, doc, pm, an, cdv, ct, osl, rfl, look, code⟩ := F.ex
  constructor
  · exact len
  intro A outer s H args us vs Q room gds e0 binds vals want
  have size := len _ _ _ want
  have old : ∀ (b : Addr) (o : Obj), base.get? b = some o → s.heap.get? b = some o := fun b o e => (e0.bs b o e).1
  have kin : K.In s.heap := e0.mod.kin.keeps old
  have nol : s.heap.NoLimit := e0.mod.nolimit.keeps old
  have names : ∀ y ∈ pn.zip us, (defScope st).names.lookup y.1 = some .local ∨ ((defScope st).names.lookup y.1 = some .cell ∧ ((cellsFrom (s.heap.objs.size + 1) (defScope st).names []).lookup y.1).isSome = true) := by
    rintro ⟨n, v⟩ hy
    exact (SC.par n (List.of_mem_zip hy).1).imp id fun q => ⟨q, PySem.W.cellsFrom_some _ _ _ (.inl q)⟩
  refine codeAny_call_function room.depth (kin _ _ look) rfl SC.co SC.gen rfl (PySem.W.codeRec_of kin code) (binds _ _ _ _ ?_)
  refine wpAny_newFunctionEnv_cells SC.kind names ?_
  rintro env he s1 x
  subst he
  refine ⟨nol.keeps x.toInCall.keep, codeAny_func ?_⟩
  obtain ⟨t, ht, hq⟩ := body cdv A outer s H vs Q (room.deeper _) gds want
  have inv : Inv (cxOf CX0 P w K mg base N qual (defScope st) f cdv A outer s H E0) [] (L2.start N vs) H s1 := inv_start SC room.hd e0 size vals x
  have ran := ht.nox.run [] s1 (L2.start N vs) H _ inv hq
  refine wpAny_mono ran ?_ fun e s' hs => hs
  intro fl s' hs
  match fl, hs with
  | .ret u, ⟨v, σ', H', J, rv, q⟩ => exact ⟨v, H', J.os, J.bare, J.base, J.hok, rv, q⟩
  | .next, ⟨σ', H', J, q⟩ => exact ⟨V.non, H', J.os, J.bare, J.base, J.hok, rfl, q⟩
  | .brk, ⟨_, _, _, q⟩ => exact q.elim
  | .cont, ⟨_, _, _, q⟩ => exact q.elim
/-- the written part of a def, its text of ours, what it is bound by -/
structure DefOk (K : PySem.W.Frag) (mg : Str → Option Value) (names gls : List Str) (x : Str) (d : Def) (f : Addr) (fd : FuncData) (pn : List Str) : Prop where
  mgf : mg x = some (.ref f)
  binds : Binds K fd pn []
  np : pn.length = d.np
  rest : ∃ (qual : Str) (st : Stmt) (N : List Str), Fun K x qual st f fd ∧ FnScope N pn (defScope st) ∧ N.length = d.ns ∧ chkSs ⟨N, defScope st, fun _ => true, names, gls⟩ d.body (defBody st) = true
/-- what is built in and not called otherwise -/
structure Blts (mg : Str → Option Value) : Prop where
  b : ∀ b, bnamed b = true → mg (bname b) = none
  rng : mg "range" = none
  enm : mg "enumerate" = none
  mor : ∀ x ∈ moreN, mg x = none
theorem start_env {H : Hp} {ρ : Rho} {N : List Str} {ds : List D} {vs : List V} {ns : Nat} (hr : Rels K cl H ρ ds vs) (hn : N.length = ns) : REnv K cl H ρ (ds.map some ++ List.replicate (ns - ds.length) none) (L2.start N vs) := by
  have hl := hr.length
  subst hn
  unfold L2.start
  refine ⟨by simp [hl], fun i d e => ?_⟩
  by_cases h : i < ds.length
  · rw [List.getElem?_append_left (by simpa using h), List.getElem?_map] at e
    obtain ⟨d', h1, h2⟩ := map_some e
    cases h2
    obtain ⟨v, h3, h4⟩ := hr.get h1
    refine ⟨v, ?_, h4⟩
    rw [List.getElem?_append_left (by simp; omega), List.getElem?_map, h3]
    rfl
  · rw [List.getElem?_append_right (by simp; omega), List.getElem?_replicate] at e
    split at e
    · cases e
    · cases e
/-- all defs, at any level -/
theorem defs_ok (Pg : Prg) (names gls : List Str) (fa : Nat → Addr) (fd : Nat → FuncData) (pn : Nat → List Str) (hb : Blts mg) (hd : ∀ (f : Nat) (x : Str), names[f]? = some x → ∃ d, Pg.defs[f]? = some d ∧ DefOk K mg names gls x d (fa f) (fd f) (pn f)) (hgl : ∀ (k : Nat) (x : Str), gls[k]? = some x → ∃ (d : D) (v : V) (u : Value), Pg.glbs[k]? = some d ∧ mg x = some u ∧ RelV v u ∧ ∀ H ρ, Rel K cl H ρ d v) :
    ∀ (n : Nat) (f : Nat) (x : Str), names[f]? = some x → FnG P w K mg base (n + 4) (fa f) (fd f) (pn f) (spG K cl (callD Pg n f))
  | 0, f, x, hf => by
    refine ⟨fun vs H Q h => ?_, fun A outer s H args us vs Q _ _ _ _ _ h => ?_⟩
    · obtain ⟨ρ, st, ds, _, _, h⟩ := h
      exact h.elim
    · obtain ⟨ρ, st, ds, _, _, h⟩ := h
      exact h.elim
  | n + 1, f, x, hf => by
    obtain ⟨d, h1, DO⟩ := hd f x hf
    obtain ⟨qual, st, N, F, SC, hN, hc⟩ := DO.rest
    have ih := defs_ok Pg names gls fa fd pn hb hd hgl n
    have np : ∀ {ds : List D} {st0 : Sto} {H : Hp} {ρ : Rho} {Q : VK}, Post K cl (Rel K cl) H ρ (callD Pg (n + 1) f ds st0) Q EF → ds.length = d.np ∧ Post K cl (Rel K cl) H ρ ((execs ⟨Pg.glbs, callD Pg n⟩ d.body (ds.map some ++ List.replicate (d.ns - d.np) none) st0).bind fun fl st => match fl with
          | .nx _ => .ok .non st
          | .rt x => .ok x st
          | _ => .bad) Q EF := fun {ds st0 H ρ Q} h => by
      simp only [callD, h1] at h
      split at h
      · exact ⟨by assumption, h⟩
      · exact h.elim
    refine fnG_of F SC (fun vs H Q h => ?_) fun cdv A outer s H vs Q room gds want => ?_
    · obtain ⟨ρ, st0, ds, _, rd, h⟩ := h
      rw [← rd.length, (np h).1, DO.np]
    · obtain ⟨ρ, st0, ds, rs, rd, h⟩ := want
      obtain ⟨hlen, h⟩ := np h
      let C : Cst := ⟨Pg.glbs, callD Pg n⟩
      have good : Good (cxOf CX0 P w K mg base N qual (defScope st) (fa f) cdv A outer s H E0).nox cl C ⟨N, defScope st, fun _ => true, names, gls⟩ := by
        refine ⟨rfl, SC.nd, rfl, fun _ _ => rfl, rfl, gds, by have := room.un; show (A.deeper _).units + 256 < cLine; omega, SC.kind.symm, hb.b, hb.rng, hb.enm, hb.mor, hgl, fun f' x' hf' => ?_⟩
        obtain ⟨d', _, DO'⟩ := hd f' x' hf'
        obtain ⟨_, _, _, F', _⟩ := DO'.rest
        exact ⟨fa f', fd f', pn f', n + 4, ih f' x' hf', room, DO'.mgf, F'.kp, DO'.binds⟩
      refine ⟨_, sndSs good rfl d.body (defBody st) hc, ρ, ds.map some ++ List.replicate (d.ns - d.np) none, st0, ?_, rs, ?_⟩
      · have := start_env (cl := cl) rd hN
        rw [hlen] at this
        exact this
      · cases e : execs C d.body (ds.map some ++ List.replicate (d.ns - d.np) none) st0 with
        | bad => rw [e] at h; exact h.elim
        | exc c fs st1 => rw [e] at h; exact h
        | ok fl st1 =>
          rw [e] at h
          simp only [ok_bind] at h
          cases fl with
          | nx η => exact fun H' ρ' σ' s1 r1 _ => h H' ρ' .non s1 r1 rfl
          | rt v => exact fun H' ρ' b s1 r1 q => h H' ρ' b s1 r1 q
          | bk η => exact h.elim
          | ct η => exact h.elim
end
/-- the abstract heap in which the script alone may stand -/
def scriptHp (K : PySem.W.Frag) (a : Addr) (vs : List Value) (ns : List Int) : Hp := fun b =>
  if b = a ∧ K.lookup a = none then some (.frz { cls := .type "list", data := .seq vs.toArray } (.lst (ns.map V.int))) else none
section
variable {P : Program} {w : World} {K : PySem.W.Frag} {mg mb : Str → Option Value} {a fa : Addr} {s : Shared} {vs : List Value} {ns : List Int}
theorem script_cases (b : Addr) : scriptHp K a vs ns b = none ∨ (b = a ∧ K.lookup a = none ∧ scriptHp K a vs ns b = some (.frz { cls := .type "list", data := .seq vs.toArray } (.lst (ns.map V.int)))) := by
  unfold scriptHp
  by_cases h : b = a ∧ K.lookup a = none
  · exact .inr ⟨h.1, h.2, if_pos h⟩
  · exact .inl (if_neg h)
theorem script_only : Only (scriptHp K a vs ns) := fun b => (script_cases b).imp id fun ⟨_, _, e⟩ => ⟨_, _, e⟩
theorem script_seq (kin : K.In s.heap) (at_ : s.heap.get? a = some { cls := .type "list", data := .seq vs.toArray }) (hin : IntsAre vs ns) (size : ns.length ≤ sizeLine) : SqL K (scriptHp K a vs ns) a (ns.map V.int) := by
  have rv := vals_ints hin
  cases look : K.lookup a with
  | none => exact .inl (.inr ⟨_, if_pos ⟨rfl, look⟩⟩)
  | some o =>
    have same := kin a o look
    rw [at_] at same
    cases same
    exact .inr ⟨_, vs.toArray, _, look, rfl, rfl, rfl, by rw [List.size_toArray, hin.length]; exact size, by simpa using rv⟩
theorem script_ok (at_ : s.heap.get? a = some { cls := .type "list", data := .seq vs.toArray }) (hin : IntsAre vs ns) (size : ns.length ≤ sizeLine) : HOk P w (scriptHp K a vs ns) s.heap := by
  intro b u e
  rcases script_cases (K := K) (a := a) (vs := vs) (ns := ns) b with z | ⟨rfl, _, z⟩
  · rw [z] at e; cases e
  · rw [z] at e
    cases e
    exact ⟨at_, by rw [List.length_map]; exact size, vs, _, vals_ints hin, at_⟩
/-- the base: the heap without the script -/
theorem script_base (kin : K.In s.heap) (at_ : s.heap.get? a = some { cls := .type "list", data := .seq vs.toArray }) (gl : s.heap.Ns mainGlobals mg) (bn : s.heap.Ns builtinsNs mb) (boot : ∀ x : Str, x ≠ "__name__" → mb x = bootBuiltins x) (lim : s.heap.NoLimit) :
    Mod K mg (hidT s.heap (scriptHp K a vs ns)) := by
  have keepNs : ∀ {b : Addr} {m : Str → Option Value}, s.heap.Ns b m → (hidT s.heap (scriptHp K a vs ns)).Ns b m := by
    rintro b m ⟨o, es, ep, e, d, r⟩
    refine ⟨o, es, ep, hidT_get e ?_, d, r⟩
    rcases script_cases (K := K) (a := a) (vs := vs) (ns := ns) b with z | ⟨rfl, _, _⟩
    · exact z
    · rw [at_] at e
      cases e
      cases d
  obtain ⟨mc, l1, l2⟩ := lim
  refine ⟨fun b o e => hidT_get (kin b o e) ?_, keepNs gl, ⟨mb, keepNs bn, boot⟩, mc, keepNs l1, l2⟩
  rcases script_cases (K := K) (a := a) (vs := vs) (ns := ns) b with z | ⟨rfl, h, _⟩
  · exact z
  · rw [h] at e
    cases e
theorem law_G {k : Nat} {fd : FuncData} {x : Str} {sp : List V → Hp → VK → Prop} (kin : K.In s.heap) (gl : s.heap.Ns mainGlobals mg) (bn : s.heap.Ns builtinsNs mb) (boot : ∀ x : Str, x ≠ "__name__" → mb x = bootBuiltins x) (lim : s.heap.NoLimit) (gens : s.gens = #[])
    (at_ : s.heap.get? a = some { cls := .type "list", data := .seq vs.toArray }) (hin : IntsAre vs ns) (size : ns.length ≤ sizeLine) (room : Room k callerA)
    (F : ∀ base : Heap, K.In base → base.Ns mainGlobals mg → FnG P w K mg base k fa fd [x] sp) (bind1 : ∀ (s : Shared) (u : Value), BindsTo s fd ⟨[u], []⟩ [(x, u)])
    (want : ∀ H : Hp, Only H → SqL K H a (ns.map V.int) → sp [.ref a] H fun v _ => v = .bl true) :
    codeAny (model P w) callerA (.call (.ref fa) ⟨[.ref a], []⟩) (fun r s' => r = .ok (.ret (.bool true)) ∧ OldK s.heap s'.heap ∧ s'.os = s.os ∧ AllBare s'.gens) s := by
  have mod := script_base (vs := vs) (ns := ns) kin at_ gl bn boot lim
  have ok : HOk P w (scriptHp K a vs ns) s.heap := script_ok at_ hin size
  have start : Env0 P w K mg (hidT s.heap (scriptHp K a vs ns)) callerA [] s (scriptHp K a vs ns) :=
    ⟨rfl, mod, fun b o e => of_hidT e, Nat.le_of_eq (hidT_size _ _), trivial, fun b hb => absurd hb (by unfold frs; simp), ok, .of_eq gens⟩
  have run := (F _ mod.kin mod.glob).run callerA [] s _ ⟨[.ref a], []⟩ [.ref a] [.ref a] _ room rfl start (bind1 s (.ref a)) (.cons rfl .nil) (want _ script_only (script_seq kin at_ hin size))
  refine codeAny_mono run ?_
  intro r s' h
  match r, h with
  | .error e, h => exact h.elim
  | .ok .next, h => exact h.elim
  | .ok .brk, h => exact h.elim
  | .ok .cont, h => exact h.elim
  | .ok (.ret u), ⟨v, H', os, bare, un, ok', rv, q⟩ =>
    have q : v = .bl true := q
    subst q
    have rv : u = Value.bool true := rv
    subst rv
    refine ⟨rfl, OldK.of_keep ?_, os, bare⟩
    intro b o e
    rcases script_cases (K := K) (a := a) (vs := vs) (ns := ns) b with z | ⟨rfl, _, z⟩
    · exact un.keep b o e z (by unfold frs; simp) (by simp)
    · have was := (ok b _ z).1
      have is := (ok' b _ (un.frzs b _ _ z)).1
      rw [e] at was
      cases was
      exact is
end
/-- the goal that k_head leaves, from the defs' promise -/
theorem walk_G {l : PySem.W.OpenLaw} {n k : Nat} {q : Program} {loose : List Str} {XP : (Str → Option Value) → Heap → Prop} {YP : World → Heap → Prop} {d : DefRec} {K : Params → PySem.W.Frag} {sp : World → List V → Hp → VK → Prop} {x : Str}
    (hn : l.most = some n) (hn2 : n ≤ sizeLine) (hdf : d.params.defaults = []) (room : Room k callerA) (hY : ∀ (w : World) (h : Heap), YP w h → (K w.params).In h)
    (all : ∀ (w : World) (mg : Str → Option Value) (fa : Addr) (h : Heap), (K w.params).In h → h.Ns mainGlobals mg → mg d.name = some (.ref fa) →
      ∃ fd : FuncData, (∀ (s : Shared) (u : Value), BindsTo s fd ⟨[u], []⟩ [(x, u)]) ∧ ∀ base : Heap, (K w.params).In base → base.Ns mainGlobals mg → FnG l.prog w (K w.params) mg base k fa fd [x] (sp w))
    (want : ∀ (w : World) (H : Hp) (a : Addr) (ns : List Int), ns.length ≤ n → Only H → SqL (K w.params) H a (ns.map V.int) → sp w [.ref a] H fun v _ => v = .bl true) :
    PySem.W.WalkO q loose XP YP l.row.toRowW d [] fun f us => PySem.call f us := by
  refine Att.attach_call hn hdf ?_
  intro w s₀ s₁ mg mb fa o pm cd doc a vs ns G Y ho hd hcd hmg hobj hints hlen hg
  have kin := hY w _ Y
  obtain ⟨fd, bind1, each⟩ := all w mg fa _ kin G.T.g hmg
  exact law_G kin G.T.g G.T.b G.T.builtins G.T.nolimit hg hobj hints (Nat.le_trans hlen hn2) room each bind1 fun H only seq => want w H a ns hlen only seq
/-- a script, as ours -/
theorem rel_script {K : PySem.W.Frag} {cl : Nat → Addr} {H : Hp} {a : Addr} {ns : List Int} (h : SqL K H a (ns.map V.int)) :
    RepS K cl H ⟨fun _ => none, fun _ => False⟩ [] ∧ Rels K cl H ⟨fun _ => none, fun _ => False⟩ [.scr ns] [.ref a] := by
  have no : ∀ {a : Addr}, (none : Option Addr) = some a → False := nofun
  have get0 : ∀ {n : Nat} {o : O}, Sto.get [] n = some o → False := fun {n o} e => by
    unfold Sto.get at e
    split at e
    · rename_i h
      exact (Nat.not_lt_zero _ h).elim
    · cases e
  have rs : RepS K cl H ⟨fun _ => none, fun _ => False⟩ [] := ⟨fun n o e => (get0 e).elim, fun n a e => (no e).elim, fun n m a e _ => (no e).elim, fun n a e => (no e).elim, fun a h => h.elim⟩
  exact ⟨rs, _, _, rfl, ⟨a, rfl, h.imp (fun h => ⟨h, fun n e => no e, fun z => z⟩) id⟩, rfl⟩
end Dv
namespace Dv
open PySem (Str)
/-- how a value stands: closed; a list of somebody else's; a list of our own, by its name; a list that stands nobody knows where; a new list -/
inductive Kd where | clo | bor | own | lse | fre
  deriving DecidableEq
abbrev PE := List (Option (Kd × D))
abbrev Xc := Nat → List (Str × D) → PE → Prop
def noX : Xc := fun _ _ _ => False
abbrev CallW := List (Kd × D) → (Nat → List (Str × D) → Prop) → (Kd → D → Prop) → Prop
structure CW where
  glbs : List D
  call : Nat → CallW
/-- never an object -/
def imm : D → Bool
  | .lst _ => false
  | .dct _ => false
  | .ins _ _ => false
  | _ => true
def isTok : D → Bool
  | .obj _ => true
  | _ => false
def sto (k : Kd) (d : D) : Prop := match k with
  | .clo => True
  | _ => imm d = true
def stoL : List (Kd × D) → Prop
  | [] => True
  | p :: r => sto p.1 p.2 ∧ stoL r
def stay (k : Kd) (π π' : PE) : Prop := match k with
  | .own => π = π'
  | .lse => π = π'
  | _ => True
def ifB (b : Bool) (P R : Prop) : Prop := match b with
  | true => P
  | false => R
def resW {α : Type} (r : Res α) (Q : α → Prop) : Prop := match r with
  | .ok d _ => Q d
  | _ => False
def optW {α : Type} (r : Option α) (Q : α → Prop) : Prop := match r with
  | some d => Q d
  | none => False
def blW (d : D) (Q : Bool → Prop) : Prop := match d with
  | .bl b => Q b
  | _ => False
def intW (d : D) (Q : Int → Prop) : Prop := match d with
  | .int b => Q b
  | _ => False
def argK (k : Kd) (d : D) : Kd := match k with
  | .clo => .clo
  | _ => if imm d then .clo else .bor
def retK (k : Kd) (d : D) : Kd := match k with
  | .clo => .clo
  | .own => .fre
  | .fre => .fre
  | _ => if imm d then .clo else .lse
/-- behind a call whose new objects are forgotten -/
def clzK (k : Kd) : Kd := match k with
  | .fre => .clo
  | k => k
def gdW (k : Kd) (e : Ex) (Q : List Nat → Prop) : Prop := match k with
  | .clo => Q []
  | .bor => Q []
  | .own => match e with
    | .var j => Q [j]
    | _ => False
  | _ => False
def stayG : List Nat → PE → PE → Prop
  | [], _, _ => True
  | j :: r, π, π' => π'[j]? = π[j]? ∧ stayG r π π'
mutual
def bindW : Tgt → D → PE → Option PE
  | .nm i, d, π => some (π.set i (some (.clo, d)))
  | .tp ts, .tup ds, π => bindWs ts ds π
  | _, _, _ => none
def bindWs : List Tgt → List D → PE → Option PE
  | [], [], π => some π
  | t :: ts, d :: ds, π => (bindW t d π).bind (bindWs ts ds)
  | _, _, _ => none
end
def wipeW (π : PE) : List Nat → PE
  | [] => π
  | v :: vs => (wipeW π vs).set v none
/-- the names of a comprehension are as they were -/
def back (π : PE) : List Nat → PE → PE
  | [], π' => π'
  | v :: vs, π' => (back π vs π').set v (match π[v]? with | some s => s | none => none)
def compW (f : D → PE → (List D → PE → Prop) → Prop) (chk : PE → Prop) : List D → PE → (List D → PE → Prop) → Prop
  | [], π, Q => Q [] π
  | d :: ds, π, Q => f d π fun r π1 => chk π1 ∧ compW f chk ds π1 fun rs π2 => Q (r ++ rs) π2
def compKW (f : D → PE → (List (D × D) → PE → Prop) → Prop) (chk : PE → Prop) : List D → PE → (List (D × D) → PE → Prop) → Prop
  | [], π, Q => Q [] π
  | d :: ds, π, Q => f d π fun r π1 => chk π1 ∧ compKW f chk ds π1 fun rs π2 => Q (r ++ rs) π2
mutual
def tgN : Tgt → List Nat
  | .nm i => [i]
  | .tp ts => tgNs ts
def tgNs : List Tgt → List Nat
  | [] => []
  | t :: ts => tgN t ++ tgNs ts
end
def subN (a b : List Nat) : Bool := a.all fun i => b.contains i
/-- a method that changes its list -/
def mthW (m : Mth) (o : Option (Option (Kd × D))) (ds : List D) (Q : D → D → Prop) : Prop := match o with
  | some (some (.own, .lst xs)) => match mth m (.obj 0) ds [.lst xs] with
    | .ok d [.lst ys] => Q d (.lst ys)
    | _ => False
  | _ => False
def subW (o : Option (Option (Kd × D))) (i v : D) (Q : D → Prop) : Prop := match o with
  | some (some (.own, .lst xs)) => match isub (.obj 0) i v [.lst xs] with
    | .ok _ [.lst ys] => Q (.lst ys)
    | _ => False
  | some (some (.own, .dct xs)) => match isub (.obj 0) i v [.dct xs] with
    | .ok _ [.dct ys] => Q (.dct ys)
    | _ => False
  | _ => False
def cloW (o : Option (Option (Kd × D))) (K : D → Prop) : Prop := match o with
  | some (some (.clo, x)) => K x
  | _ => False
/-- a new list -/
def freW (k : Kd) (x : D) (K : List D → Prop) : Prop := match k, x with
  | .fre, .lst xs => K xs
  | _, _ => False
/-- a name that is handed on to another one -/
def movW (o : Option (Option (Kd × D))) (K : D → Prop) : Prop := match o with
  | some (some (.own, x)) => K x
  | _ => False
def isOwn (o : Option (Option (Kd × D))) : Prop := match o with
  | some (some (.own, _)) => True
  | _ => False
def isOwnL (o : Option (Option (Kd × D))) : Prop := match o with
  | some (some (.own, .lst _)) => True
  | _ => False
/-- an element of a comprehension -/
def eltW (own : List Nat) (tg : Tgt) (c : PE → (Bool → PE → Prop) → Prop) (e : PE → (Kd → D → PE → Prop) → Prop) : D → PE → (List D → PE → Prop) → Prop := fun d π2 K =>
  optW (bindW tg d (wipeW π2 own)) fun π3 => c π3 fun b π4 => ifB b (e π4 fun k x π5 => sto k x ∧ K [x] (back π2 own π5)) (K [] (back π2 own π4))
def eltIW (tg2 : Tgt) (c : PE → (Bool → PE → Prop) → Prop) (e : PE → (Kd → D → PE → Prop) → Prop) : D → PE → (List D → PE → Prop) → Prop := fun d2 π6 K2 =>
  optW (bindW tg2 d2 π6) fun π7 => c π7 fun b2 π8 => ifB b2 (e π8 fun k x π9 => sto k x ∧ K2 [x] (back π6 (tgN tg2) π9)) (K2 [] (back π6 (tgN tg2) π8))
def elt2W (own : List Nat) (tg : Tgt) (c : PE → (Bool → PE → Prop) → Prop) (it : PE → (List Nat → List D → PE → Prop) → Prop) (f : D → PE → (List D → PE → Prop) → Prop) : D → PE → (List D → PE → Prop) → Prop := fun d π2 K =>
  optW (bindW tg d (wipeW π2 own)) fun π3 => c π3 fun b π4 => ifB b (it π4 fun gs2 es π5 => es.length ≤ LIM ∧ compW f (stayG gs2 π5) es π5 fun rs π10 => K rs (back π2 own π10)) (K [] (back π2 own π4))
def eltKW (own : List Nat) (tg : Tgt) (c : PE → (Bool → PE → Prop) → Prop) (kx e : PE → (Kd → D → PE → Prop) → Prop) : D → PE → (List (D × D) → PE → Prop) → Prop := fun d π2 K =>
  optW (bindW tg d (wipeW π2 own)) fun π3 => c π3 fun b π4 => ifB b (kx π4 fun _ x π5 => e π5 fun k2 y π6 => sto k2 y ∧ keyOk x = true ∧ K [(x, y)] (back π2 own π6)) (K [] (back π2 own π4))
mutual
def evalW (C : CW) (X : Xc) : Ex → PE → (Kd → D → PE → Prop) → Prop
  | .var i, π, Q => match π[i]? with
    | some (some (k, d)) => Q k d π
    | _ => False
  | .non, π, Q => Q .clo .non π
  | .bl b, π, Q => Q .clo (.bl b) π
  | .int i, π, Q => Q .clo (.int i) π
  | .str x, π, Q => Q .clo (.str x) π
  | .glb k, π, Q => optW C.glbs[k]? fun d => Q .clo d π
  | .tup es, π, Q => evalsW C X es π fun rs π => stoL rs ∧ rs.length ≤ LIM ∧ Q .clo (.tup (rs.map (·.2))) π
  | .op o a b, π, Q => evalW C X a π fun k x π1 => evalW C X b π1 fun _ y π2 => stay k π1 π2 ∧ resW (op2 o x y []) fun d => Q .clo d π2
  | .neg a, π, Q => evalW C X a π fun _ x π1 => intW x fun i => Q .clo (.int (-i)) π1
  | .not a, π, Q => evalW C X a π fun _ x π1 => blW x fun i => Q .clo (.bl (!i)) π1
  | .and a b, π, Q => evalW C X a π fun _ x π1 => blW x fun t => ifB t (evalW C X b π1 Q) (Q .clo (.bl false) π1)
  | .or a b, π, Q => evalW C X a π fun _ x π1 => blW x fun t => ifB t (Q .clo (.bl true) π1) (evalW C X b π1 Q)
  | .ite c a b, π, Q => evalW C X c π fun _ x π1 => blW x fun t => ifB t (evalW C X a π1 Q) (evalW C X b π1 Q)
  | .cmp o a b, π, Q => evalW C X a π fun k x π1 => evalW C X b π1 fun _ y π2 => stay k π1 π2 ∧ optW (cmp2 o x y []) fun t => Q .clo (.bl t) π2
  | .chain o o' a b c, π, Q => evalW C X a π fun k x π1 => evalW C X b π1 fun k2 y π2 => stay k π1 π2 ∧ optW (cmp2 o x y []) fun t => ifB t
      (evalW C X c π2 fun _ z π3 => stay k2 π2 π3 ∧ optW (cmp2 o' y z []) fun t => Q .clo (.bl t) π3) (Q .clo (.bl false) π2)
  | .idx a b, π, Q => evalW C X a π fun k x π1 => evalW C X b π1 fun _ y π2 => stay k π1 π2 ∧ resW (idx x y []) fun d => Q .clo d π2
  | .slc a l h, π, Q => evalW C X a π fun k x π1 => evalOW C X l π1 fun i π2 => evalOW C X h π2 fun j π3 => stay k π1 π3 ∧ resW (slc x i j []) fun d => Q .clo d π3
  | .rev a, π, Q => evalW C X a π fun _ x π1 => resW (revD x []) fun d => Q .clo d π1
  | .call f es, π, Q => evalsW C X es π fun rs π1 => C.call f (rs.map fun p => (argK p.1 p.2, p.2)) (fun c fs => X c fs π1) fun k d => Q k d π1
  | .callz f es, π, Q => evalsW C X es π fun rs π1 => C.call f (rs.map fun p => (argK p.1 p.2, p.2)) (fun c fs => X c fs π1) fun k d => Q (clzK k) d π1
  | .blt b es, π, Q => evalsW C X es π fun rs π1 => resW (blt b (rs.map (·.2)) []) fun d => Q .clo d π1
  | .tupR a, π, Q => evalW C X a π fun _ x π1 => intW x fun i => rngOk i = true ∧ i.toNat ≤ LIM ∧ Q .clo (.tup (rngL 0 i.toNat)) π1
  | .isi a tys, π, Q => evalW C X a π fun _ x π1 => isTok x = false ∧ tyOk [] x = true ∧ Q .clo (.bl (tys.any (isTy [] x))) π1
  | .mth m (.var i) es, π, Q => isOwnL π[i]? ∧ evalsW C X es π fun rs π1 => stoL rs ∧ mthW m π1[i]? (rs.map (·.2)) fun d y => Q .clo d (π1.set i (some (.own, y)))
  | .frl l, π, Q => evalLW C X l π fun ds π1 => Q .clo (.lst ds) π1
  | .own l, π, Q => evalLW C X l π fun ds π1 => Q .fre (.lst ds) π1
  | .frd l, π, Q => evalKW C X l π fun ds π1 => Q .clo (.dct ds) π1
  | .ownd l, π, Q => evalKW C X l π fun ds π1 => Q .fre (.dct ds) π1
  | _, _, _ => False
def evalOW (C : CW) (X : Xc) : Option Ex → PE → (Option Int → PE → Prop) → Prop
  | none, π, Q => Q none π
  | some e, π, Q => evalW C X e π fun _ x π1 => intW x fun i => Q (some i) π1
def evalsW (C : CW) (X : Xc) : List Ex → PE → (List (Kd × D) → PE → Prop) → Prop
  | [], π, Q => Q [] π
  | .star e :: es, π, Q => evalW C X e π fun _ x π1 => optW (seqOf [] x) fun xs => evalsW C X es π1 fun rs π2 => Q (xs.map (fun d => (Kd.clo, d)) ++ rs) π2
  | e :: es, π, Q => evalW C X e π fun k x π1 => evalsW C X es π1 fun rs π2 => stay k π1 π2 ∧ Q ((k, x) :: rs) π2
def evalIW (C : CW) (X : Xc) : Ex → PE → (List Nat → List D → PE → Prop) → Prop
  | .rng [a], π, Q => evalW C X a π fun _ x π1 => intW x fun i => rngOk i = true ∧ Q [] (rngL 0 i.toNat) π1
  | .rng [a, b], π, Q => evalW C X a π fun _ x π1 => evalW C X b π1 fun _ y π2 => intW x fun i => intW y fun j => rngOk i = true ∧ rngOk j = true ∧ Q [] (rngL i (j - i).toNat) π2
  | .enum a, π, Q => evalW C X a π fun k x π1 => gdW k a fun gs => optW (enumOf [] x) fun ds => Q gs (enumL 0 ds) π1
  | .zip [a, b], π, Q => evalW C X a π fun k x π1 => gdW k a fun gs => evalW C X b π1 fun k2 y π2 => gdW k2 b fun gs2 => stay k π1 π2 ∧ optW (bothOf [] x y) fun p => Q (gs ++ gs2) (zipL [p.1, p.2]) π2
  | .itv e, π, Q => evalW C X e π fun k x π1 => gdW k e fun gs => optW (iterOf [] x) fun ds => Q gs ds π1
  | _, _, _ => False
def evalLW (C : CW) (X : Xc) : Lx → PE → (List D → PE → Prop) → Prop
  | .disp es, π, Q => evalsW C X es π fun rs π1 => stoL rs ∧ rs.length ≤ LIM ∧ Q (rs.map (·.2)) π1
  | .lstR a, π, Q => evalW C X a π fun _ x π1 => intW x fun i => rngOk i = true ∧ i.toNat ≤ LIM ∧ Q (rngL 0 i.toNat) π1
  | .comp own tg it cs e, π, Q => subN (tgN tg) own = true ∧ evalIW C X it π fun gs ds π1 => ds.length ≤ LIM ∧ compW (eltW own tg (condsW C cs) (evalW C noX e)) (stayG gs π1) ds π1 Q
  | .comp2 own tg it cs tg2 it2 cs2 e, π, Q => subN (tgN tg) own = true ∧ subN (tgN tg2) own = true ∧ evalIW C X it π fun gs ds π1 => ds.length ≤ LIM ∧
      compW (elt2W own tg (condsW C cs) (evalIW C noX it2) (eltIW tg2 (condsW C cs2) (evalW C noX e))) (stayG gs π1) ds π1 fun rs π2 => rs.length ≤ LIM ∧ Q rs π2
  | .bltl b es, π, Q => evalsW C X es π fun rs π1 => resW (bltL b (rs.map (·.2)) []) fun ds => Q ds π1
  | .add a b, π, Q => evalW C X a π fun k x π1 => evalW C X b π1 fun _ y π2 => stay k π1 π2 ∧ optW (lstOf [] x) fun xs => optW (lstOf [] y) fun ys => xs.length + ys.length ≤ LIM ∧ Q (xs ++ ys) π2
  | .rev a, π, Q => evalW C X a π fun _ x π1 => optW (lstOf [] x) fun xs => Q xs.reverse π1
def evalKW (C : CW) (X : Xc) : Dx → PE → (List (D × D) → PE → Prop) → Prop
  | .disp kvs, π, Q => evalPW C X kvs π fun ps π1 => (ps.all fun p => keyOk p.1) = true ∧ Q (mkDict ps) π1
  | .comp own tg it cs kx e, π, Q => subN (tgN tg) own = true ∧ evalIW C X it π fun gs ds π1 =>
      compKW (eltKW own tg (condsW C cs) (evalW C noX kx) (evalW C noX e)) (stayG gs π1) ds π1 fun ps π7 => ps.length ≤ LIM ∧ Q (mkDict ps) π7
  | .val e, π, Q => evalW C X e π fun _ x π1 => optW ((lstOf [] x).bind prsOf) fun ps => Q (mkDict ps) π1
def evalPW (C : CW) (X : Xc) : List Ex → PE → (List (D × D) → PE → Prop) → Prop
  | [], π, Q => Q [] π
  | k :: v :: kvs, π, Q => evalW C X k π fun kk x π1 => imm x = true ∧ evalW C X v π1 fun kv y π2 => sto kv y ∧ evalPW C X kvs π2 fun ps π3 => Q ((x, y) :: ps) π3
  | _, _, _ => False
def condsW (C : CW) : List Ex → PE → (Bool → PE → Prop) → Prop
  | [], π, Q => Q true π
  | c :: cs, π, Q => evalW C noX c π fun _ x π1 => blW x fun t => ifB t (condsW C cs π1 Q) (Q false π1)
end
inductive FlW where
  | nx (π : PE) | rt (k : Kd) (d : D) (π : PE) | bk (π : PE) | ct (π : PE)
def forW (tg : Tgt) (body : PE → (FlW → Prop) → Prop) (chk : PE → Prop) : List D → PE → (FlW → Prop) → Prop
  | [], π, Q => Q (.nx π)
  | d :: ds, π, Q => optW (bindW tg d π) fun π1 => body π1 fun fl => match fl with
    | .nx π2 => chk π2 ∧ forW tg body chk ds π2 Q
    | .ct π2 => chk π2 ∧ forW tg body chk ds π2 Q
    | .bk π2 => Q (.nx π2)
    | .rt k d π2 => Q (.rt k d π2)
def whlW (test : PE → (Kd → D → PE → Prop) → Prop) (body : PE → (FlW → Prop) → Prop) : Nat → PE → (FlW → Prop) → Prop
  | 0, _, _ => False
  | n + 1, π, Q => test π fun _ x π1 => blW x fun t => ifB t (body π1 fun fl => match fl with
      | .nx π2 => whlW test body n π2 Q
      | .ct π2 => whlW test body n π2 Q
      | .bk π2 => Q (.nx π2)
      | .rt k d π2 => Q (.rt k d π2)) (Q (.nx π1))
def setW (k : Kd) (x : D) (K : Kd × D → Prop) : Prop := match k with
  | .clo => K (.clo, x)
  | .fre => K (.own, x)
  | .bor => K (.bor, x)
  | _ => imm x = true ∧ K (.clo, x)
def setsW : List Nat → List (Kd × D) → PE → (PE → Prop) → Prop
  | [], [], π, Q => Q π
  | i :: is, p :: ps, π, Q => setW p.1 p.2 fun s => setsW is ps (π.set i (some s)) Q
  | _, _, _, _ => False
mutual
/-- what a statement may call -/
def setN : Sx → List Nat
  | .set i _ => [i]
  | .mov i _ => [i]
  | .tset t _ => tgN t
  | .par is _ => is
  | .aug i _ _ => [i]
  | .ite _ a b => setNs a ++ setNs b
  | .whl _ b => setNs b
  | .for_ t _ b => tgN t ++ setNs b
  | _ => []
def setNs : List Sx → List Nat
  | [] => []
  | s :: ss => setN s ++ setNs ss
end
def disN (a b : List Nat) : Bool := a.all fun i => !b.contains i
mutual
def execW (C : CW) (X : Xc) : Sx → PE → (FlW → Prop) → Prop
  | .set i e, π, Q => evalW C X e π fun k x π1 => setW k x fun s => Q (.nx (π1.set i (some s)))
  | .mov i j, π, Q => movW π[j]? fun x => Q (.nx ((π.set j none).set i (some (.own, x))))
  | .tset t e, π, Q => evalW C X e π fun k x π1 => sto k x ∧ optW (bindW t x π1) fun π2 => Q (.nx π2)
  | .par is es, π, Q => evalsW C X es π fun rs π1 => setsW is rs π1 fun π2 => Q (.nx π2)
  | .isub (.var j) i e, π, Q => evalW C X e π fun k v π1 => sto k v ∧ isOwn π1[j]? ∧ evalW C X i π1 fun _ y π2 => imm y = true ∧ subW π2[j]? y v fun z => Q (.nx (π2.set j (some (.own, z))))
  | .aug i o e, π, Q => cloW π[i]? fun x => evalW C X e π fun _ y π1 => intW x fun _ => intW y fun _ => resW (op2 o x y []) fun z => Q (.nx (π1.set i (some (.clo, z))))
  | .expr e, π, Q => evalW C X e π fun _ _ π1 => Q (.nx π1)
  | .ret e, π, Q => evalW C X e π fun k x π1 => Q (.rt k x π1)
  | .retN, π, Q => Q (.rt .clo .non π)
  | .ite c a b, π, Q => evalW C X c π fun _ x π1 => blW x fun t => ifB t (execsW C X a π1 Q) (execsW C X b π1 Q)
  | .whl c b, π, Q => whlW (evalW C X c) (execsW C X b) LAPS π Q
  | .for_ t it b, π, Q => evalIW C X it π fun gs ds π1 => disN gs (tgN t ++ setNs b) = true ∧ forW t (execsW C X b) (stayG gs π1) ds π1 Q
  | .brk, π, Q => Q (.bk π)
  | .cont, π, Q => Q (.ct π)
  | .pass, π, Q => Q (.nx π)
  | _, _, _ => False
def execsW (C : CW) (X : Xc) : List Sx → PE → (FlW → Prop) → Prop
  | [], π, Q => Q (.nx π)
  | s :: ss, π, Q => execW C X s π fun fl => match fl with
    | .nx π1 => execsW C X ss π1 Q
    | fl => Q fl
end
abbrev Prims := Nat → Nat → Option CallW
def callW (P : Prg) (pr : Prims) : Nat → Nat → CallW
  | 0, _, _, _, _ => False
  | n + 1, f, as, X, Q => match pr n f with
    | some w => w as X Q
    | none => match P.defs[f]? with
      | some d => as.length = d.np ∧ execsW ⟨P.glbs, callW P pr n⟩ (fun c fs _ => X c fs) d.body (as.map some ++ List.replicate (d.ns - d.np) none) fun fl => match fl with
        | .nx _ => Q .clo .non
        | .rt k x _ => Q (retK k x) x
        | _ => False
      | none => False
end Dv
namespace Dv
open PySem (Str)
/-- what is older is told by its name alone -/
class Thr where
  t : Nat
  two : 2 ≤ t
abbrev tt [T : Thr] : Nat := T.t
variable [T : Thr]
def Obj (st : Sto) (n : Nat) (p : D) : Prop := 2 ≤ n ∧ ((∃ xs, st.get n = some (.lst xs) ∧ p = .lst xs) ∨ ∃ kvs, st.get n = some (.dct kvs) ∧ p = .dct kvs)
def Val (st : Sto) (d p : D) : Prop := below tt p = true ∧ (d = p ∨ ∃ n, d = .obj n ∧ Obj st n p)
theorem Val.imm {st : Sto} {d p : D} (h : Val st d p) (i : imm p = true) : d = p := by
  obtain ⟨_, h | ⟨n, _, _, ⟨xs, _, e⟩ | ⟨xs, _, e⟩⟩⟩ := h
  · exact h
  · rw [e] at i; cases i
  · rw [e] at i; cases i
theorem Val.refl {st : Sto} {p : D} (h : below tt p = true) : Val st p p := ⟨h, .inl rfl⟩
theorem get_nil {n : Nat} : Sto.get [] n = none := by
  rfl
theorem lst_nil {p : D} {xs : List D} (h : lstOf [] p = some xs) : p = .lst xs := by
  unfold lstOf at h
  split at h
  · cases h; rfl
  · rw [get_nil] at h; cases h
  · cases h
theorem dct_nil {p : D} {xs : List (D × D)} (h : dctOf [] p = some xs) : p = .dct xs := by
  unfold dctOf at h
  split at h
  · cases h; rfl
  · rw [get_nil] at h; cases h
  · cases h
def Bel (xs : List D) : Prop := ∀ x ∈ xs, below tt x = true
theorem bel_of {xs : List D} (h : belows tt xs = true) : Bel xs := by
  rw [belows_all, List.all_eq_true] at h
  exact h
theorem of_bel {xs : List D} (h : Bel xs) : belows tt xs = true := by
  rw [belows_all, List.all_eq_true]
  exact h
def BelK (xs : List (D × D)) : Prop := ∀ x ∈ xs, below tt x.1 = true ∧ below tt x.2 = true
theorem belowk_iff : ∀ xs : List (D × D), belowk tt xs = true ↔ BelK xs
  | [] => by simp [belowk, BelK]
  | (k, v) :: xs => by
    have := belowk_iff xs
    simp only [belowk, BelK, Bool.and_eq_true, List.forall_mem_cons] at this ⊢
    rw [this]
theorem below_lst {xs : List D} : below tt (.lst xs) = true ↔ Bel xs := ⟨fun h => bel_of (by simpa [below] using h), fun h => by simpa [below] using of_bel h⟩
theorem below_tup {xs : List D} : below tt (.tup xs) = true ↔ Bel xs := ⟨fun h => bel_of (by simpa [below] using h), fun h => by simpa [below] using of_bel h⟩
theorem below_dct {xs : List (D × D)} : below tt (.dct xs) = true ↔ BelK xs := by
  rw [← belowk_iff]
  simp [below]
theorem bel_ints (ns : List Int) : Bel (ns.map .int) := fun x hx => by
  obtain ⟨i, _, rfl⟩ := List.mem_map.mp hx
  rfl
section
variable {st : Sto} {d e p q : D}
theorem lst_val {xs : List D} (v : Val st d p) (h : lstOf [] p = some xs) : lstOf st d = some xs ∧ Bel xs := by
  have := lst_nil h
  subst this
  obtain ⟨b, rfl | ⟨n, rfl, _, ⟨ys, e1, e2⟩ | ⟨ys, _, e2⟩⟩⟩ := v
  · exact ⟨rfl, below_lst.mp b⟩
  · cases e2
    exact ⟨by simp only [lstOf, e1], below_lst.mp b⟩
  · cases e2
theorem dct_val {xs : List (D × D)} (v : Val st d p) (h : dctOf [] p = some xs) : dctOf st d = some xs ∧ BelK xs := by
  have := dct_nil h
  subst this
  obtain ⟨b, rfl | ⟨n, rfl, _, ⟨ys, _, e2⟩ | ⟨ys, e1, e2⟩⟩⟩ := v
  · exact ⟨rfl, below_dct.mp b⟩
  · cases e2
  · cases e2
    exact ⟨by simp only [dctOf, e1], below_dct.mp b⟩
theorem seq_val {xs : List D} (v : Val st d p) (h : seqOf [] p = some xs) : seqOf st d = some xs ∧ Bel xs := by
  cases p with
  | scr ns =>
    have := v.imm rfl
    subst this
    cases h
    exact ⟨rfl, bel_ints ns⟩
  | tup ys =>
    have := v.imm rfl
    subst this
    cases h
    exact ⟨rfl, below_tup.mp v.1⟩
  | lst ys =>
    cases h
    obtain ⟨b, rfl | ⟨n, rfl, _, ⟨zs, e1, e2⟩ | ⟨zs, _, e2⟩⟩⟩ := v
    · exact ⟨rfl, below_lst.mp b⟩
    · cases e2
      exact ⟨by simp only [seqOf, e1], below_lst.mp b⟩
    · cases e2
  | obj n => simp only [seqOf, get_nil] at h; cases h
  | _ => cases h
theorem signs_bel (x : Str) : Bel (signs x) := fun y hy => by
  obtain ⟨c, _, rfl⟩ := List.mem_map.mp hy
  rfl
theorem iter_str {x : Str} {xs : List D} (h : iterOf [] (.str x) = some xs) : iterOf st (.str x) = some xs ∧ Bel xs := by
  have h : (if x.length ≤ LIM then some (signs x) else none) = some xs := h
  show (if x.length ≤ LIM then some (signs x) else none) = some xs ∧ _
  by_cases k : x.length ≤ LIM
  · rw [if_pos k] at h ⊢
    cases h
    exact ⟨rfl, signs_bel x⟩
  · rw [if_neg k] at h
    cases h
theorem iter_val {xs : List D} (v : Val st d p) (h : iterOf [] p = some xs) : iterOf st d = some xs ∧ Bel xs := by
  cases p with
  | str x =>
    have := v.imm rfl
    subst this
    exact iter_str h
  | obj n => simp only [iterOf, seqOf, get_nil] at h; cases h
  | scr ns => have w := seq_val v (show seqOf [] (.scr ns) = some xs from h); have := v.imm rfl; subst this; exact w
  | tup ns => have w := seq_val v (show seqOf [] (.tup ns) = some xs from h); have := v.imm rfl; subst this; exact w
  | lst ns =>
    have w := seq_val v (show seqOf [] (.lst ns) = some xs from h)
    refine ⟨?_, w.2⟩
    obtain ⟨b, rfl | ⟨n, rfl, _⟩⟩ := v
    · exact w.1
    · exact w.1
  | _ => cases h
/-- what is told without a store is told with one -/
theorem mapM_le {α β : Type} {f g : α → Option β} : ∀ {xs : List α} {ys : List β}, (∀ x y, f x = some y → g x = some y) → xs.mapM f = some ys → xs.mapM g = some ys
  | [], ys, _, h => h
  | x :: xs, ys, k, h => by
    rw [List.mapM_cons] at h ⊢
    cases e : f x with
    | none => (rw [e] at h; cases h)
    | some y =>
      cases e2 : xs.mapM f with
      | none => rw [e, e2] at h; cases h
      | some r =>
        rw [e, e2] at h
        rw [k x y e, mapM_le k e2]
        exact h
theorem deep_le {lo : Nat} : ∀ {n : Nat} {d e : D}, deep [] lo n d = some e → deep st lo n d = some e
  | 0, _, _, h => by cases h
  | n + 1, d, e, h => by
    have ih : ∀ x y, deep [] lo n x = some y → deep st lo n x = some y := fun x y => deep_le
    cases d with
    | tup xs =>
      have h : (xs.mapM (deep [] lo n)).map D.tup = some e := h
      show (xs.mapM (deep st lo n)).map D.tup = some e
      cases e2 : xs.mapM (deep [] lo n) with
      | none => rw [e2] at h; cases h
      | some r => rw [e2] at h; rw [mapM_le ih e2]; exact h
    | lst xs =>
      have h : (xs.mapM (deep [] lo n)).map D.lst = some e := h
      show (xs.mapM (deep st lo n)).map D.lst = some e
      cases e2 : xs.mapM (deep [] lo n) with
      | none => rw [e2] at h; cases h
      | some r => rw [e2] at h; rw [mapM_le ih e2]; exact h
    | dct xs =>
      have h : (xs.mapM fun p => (deep [] lo n p.1).bind fun k => (deep [] lo n p.2).map fun v => (k, v)).map D.dct = some e := h
      show (xs.mapM fun p => (deep st lo n p.1).bind fun k => (deep st lo n p.2).map fun v => (k, v)).map D.dct = some e
      cases e2 : xs.mapM fun p => (deep [] lo n p.1).bind fun k => (deep [] lo n p.2).map fun v => (k, v) with
      | none => rw [e2] at h; cases h
      | some r =>
        rw [e2] at h
        rw [mapM_le (g := fun p => (deep st lo n p.1).bind fun k => (deep st lo n p.2).map fun v => (k, v)) (fun x y hxy => ?_) e2]
        · exact h
        · cases e3 : deep [] lo n x.1 with
          | none => rw [e3] at hxy; cases hxy
          | some k =>
            cases e4 : deep [] lo n x.2 with
            | none => rw [e3, e4] at hxy; cases hxy
            | some w => rw [e3, e4] at hxy; simp only [ih _ _ e3, ih _ _ e4]; exact hxy
    | ins c xs =>
      have h : (xs.mapM fun p => (deep [] lo n p.2).map fun v => (p.1, v)).map (D.ins c) = some e := h
      show (xs.mapM fun p => (deep st lo n p.2).map fun v => (p.1, v)).map (D.ins c) = some e
      cases e2 : xs.mapM fun p => (deep [] lo n p.2).map fun v => (p.1, v) with
      | none => rw [e2] at h; cases h
      | some r =>
        rw [e2] at h
        rw [mapM_le (g := fun p => (deep st lo n p.2).map fun v => (p.1, v)) (fun x y hxy => ?_) e2]
        · exact h
        · cases e4 : deep [] lo n x.2 with
          | none => rw [e4] at hxy; cases hxy
          | some w => rw [e4] at hxy; simp only [ih _ _ e4]; exact hxy
    | obj k =>
      simp only [deep, get_nil] at h ⊢
      split at h
      · rename_i hk
        rw [if_pos hk]
        exact h
      · cases h
    | non => exact h
    | bl _ => exact h
    | int _ => exact h
    | str _ => exact h
    | scr _ => exact h
theorem deep_lst {st : Sto} {lo n : Nat} {xs : List D} : deep st lo (n + 1) (.lst xs) = (xs.mapM (deep st lo n)).map .lst := by rw [deep]
theorem deep_dct {st : Sto} {lo n : Nat} {xs : List (D × D)} : deep st lo (n + 1) (.dct xs) = (xs.mapM fun p => (deep st lo n p.1).bind fun k => (deep st lo n p.2).map fun v => (k, v)).map .dct := by rw [deep]
theorem deep_objl {st : Sto} {n k : Nat} {xs : List D} (h : st.get k = some (.lst xs)) : deep st 0 (n + 1) (.obj k) = (xs.mapM (deep st 0 n)).map .lst := by
  rw [deep, if_neg (Nat.not_lt_zero k)]
  simp only [h]
theorem data_gen {e : D} {n : Nat} (v : Val st d p) (h : ((deep [] 0 (n + 1) p).bind fun e => if plain e then some e else none) = some e) : ((deep st 0 (n + 1) d).bind fun e => if plain e then some e else none) = some e := by
  obtain ⟨b, rfl | ⟨m, rfl, _, ⟨zs, e1, rfl⟩ | ⟨zs, e1, rfl⟩⟩⟩ := v
  · cases e2 : deep [] 0 (n + 1) d with
    | none => rw [e2] at h; cases h
    | some r => rw [deep_le e2]; rw [e2] at h; exact h
  · rw [deep_objl e1]
    rw [deep_lst] at h
    cases e5 : zs.mapM (deep [] 0 n) with
    | none => rw [e5] at h; cases h
    | some r' => rw [mapM_le (fun x y => deep_le) e5]; rw [e5] at h; exact h
  · exfalso
    rw [deep_dct] at h
    cases e5 : zs.mapM fun p => (deep [] 0 n p.1).bind fun k => (deep [] 0 n p.2).map fun v => (k, v) with
    | none => rw [e5] at h; cases h
    | some r' => rw [e5] at h; cases h
theorem data_val {e : D} (v : Val st d p) (h : data [] p = some e) : data st d = some e := data_gen (n := 39) v h
theorem bel_app {xs ys : List D} (h1 : Bel xs) (h2 : Bel ys) : Bel (xs ++ ys) := fun x hx => (List.mem_append.mp hx).elim (h1 x) (h2 x)
theorem bel_rep {xs : List D} {k : Nat} (h1 : Bel xs) : Bel (List.replicate k xs).flatten := fun x hx => by
  obtain ⟨l, h2, h3⟩ := List.mem_flatten.mp hx
  rw [List.eq_of_mem_replicate h2] at h3
  exact h1 x h3
theorem ok_inj {α : Type} {a b : α} {s t : Sto} (h : Res.ok a s = Res.ok b t) : a = b ∧ s = t := by cases h; exact ⟨rfl, rfl⟩
theorem op2_val {o : Op2} {r : D} {s0 : Sto} (v : Val st d p) (w : Val st e q) (h : op2 o p q [] = .ok r s0) : op2 o d e st = .ok r st ∧ below tt r = true := by
  unfold op2 at h
  split at h
  · have := v.imm rfl; have := w.imm rfl; subst d e
    cases h
    exact ⟨rfl, rfl⟩
  · have := v.imm rfl; have := w.imm rfl; subst d e
    cases h
    exact ⟨rfl, rfl⟩
  · have := v.imm rfl; have := w.imm rfl; subst d e
    split at h
    · rename_i hc
      cases h
      exact ⟨by simp only [op2]; rw [if_pos hc], rfl⟩
    · cases h
  · have := v.imm rfl; have := w.imm rfl; subst d e
    split at h
    · rename_i hc
      cases h
      exact ⟨by simp only [op2]; rw [if_pos hc], rfl⟩
    · cases h
  · have := v.imm rfl; have := w.imm rfl; subst d e
    split at h
    · rename_i hc
      cases h
      exact ⟨by simp only [op2]; rw [if_pos hc], rfl⟩
    · cases h
  · have := v.imm rfl; have := w.imm rfl; subst d e
    split at h
    · rename_i hc
      cases h
      exact ⟨by simp only [op2]; rw [if_pos hc], rfl⟩
    · cases h
  · have := v.imm rfl; have := w.imm rfl; subst d e
    split at h
    · rename_i hc
      cases h
      exact ⟨by simp only [op2]; rw [if_pos hc], rfl⟩
    · cases h
  · have := v.imm rfl; have := w.imm rfl; subst d e
    split at h
    · rename_i hc
      cases h
      exact ⟨by simp only [op2]; rw [if_pos hc], below_tup.mpr (bel_app (below_tup.mp v.1) (below_tup.mp w.1))⟩
    · cases h
  · have := v.imm rfl; have := w.imm rfl; subst d e
    split at h
    · rename_i hc
      cases h
      exact ⟨by simp only [op2]; rw [if_pos hc], below_tup.mpr (bel_rep (below_tup.mp v.1))⟩
    · cases h
  · split at h
    · rename_i xs ys e1 e2
      split at h
      · rename_i hc
        cases h
        obtain ⟨k1, b1⟩ := lst_val v e1
        obtain ⟨k2, b2⟩ := lst_val w e2
        have := lst_nil e1
        have := lst_nil e2
        subst p q
        refine ⟨?_, below_lst.mpr (bel_app b1 b2)⟩
        obtain ⟨_, rfl | ⟨n, rfl, _⟩⟩ := v <;> obtain ⟨_, rfl | ⟨m, rfl, _⟩⟩ := w <;> simp only [op2, k1, k2, if_pos hc]
      · cases h
    · cases h
  · split at h
    · rename_i xs e1
      split at h
      · rename_i hc
        cases h
        obtain ⟨k1, b1⟩ := lst_val v e1
        have := lst_nil e1
        have := w.imm rfl
        subst p e
        refine ⟨?_, below_lst.mpr (bel_rep b1)⟩
        obtain ⟨_, rfl | ⟨n, rfl, _⟩⟩ := v <;> simp only [op2, k1, if_pos hc]
      · cases h
    · cases h
  · cases h
def innD (a b : D) (st : Sto) : Option Bool := match a, b with
      | .str x, .str y => inStr x y
      | a, b => match dctOf st b with
        | some kvs => if keyOk a then some (kGet kvs a).isSome else none
        | none => (data st a).bind fun x => (data st b).bind fun y => match y with
          | .tup ys => some (ys.any fun z => eqD z x)
          | .lst ys => some (ys.any fun z => eqD z x)
          | _ => none
def issD (a b : D) : Option Bool := match a, b with
      | .bl x, .bl y => some (x == y)
      | a, .non => some (isNon a)
      | _, _ => none
theorem two_val {f : D → D → Option Bool} {r : Bool} (v : Val st d p) (w : Val st e q) (h : ((data [] p).bind fun x => (data [] q).bind fun y => f x y) = some r) : ((data st d).bind fun x => (data st e).bind fun y => f x y) = some r := by
  cases e1 : data [] p with
  | none => rw [e1] at h; cases h
  | some x =>
    cases e2 : data [] q with
    | none => rw [e1, e2] at h; cases h
    | some y => rw [data_val v e1, data_val w e2]; rw [e1, e2] at h; exact h
theorem inn_val {r : Bool} (v : Val st d p) (w : Val st e q) (h : innD p q [] = some r) : innD d e st = some r := by
  unfold innD at h
  split at h
  · have := v.imm rfl; have := w.imm rfl; subst d e
    exact h
  · rename_i hn
    have hd : (∀ x y, d = .str x → e = .str y → False) := by
      intro x y e1 e2
      have i1 : p = .str x := by
        obtain ⟨_, z | ⟨n, z, _⟩⟩ := v
        · rw [← z]; exact e1
        · rw [e1] at z; cases z
      have i2 : q = .str y := by
        obtain ⟨_, z | ⟨n, z, _⟩⟩ := w
        · rw [← z]; exact e2
        · rw [e2] at z; cases z
      exact hn x y i1 i2
    unfold innD
    split
    · exact (hd _ _ rfl rfl).elim
    · split at h
      · rename_i kvs e1
        obtain ⟨k1, _⟩ := dct_val w e1
        simp only [k1]
        split at h
        · rename_i hk
          have hi : imm p = true := by
            cases p <;> first | rfl | cases hk
          have := v.imm hi
          subst this
          rw [if_pos hk]
          exact h
        · cases h
      · rename_i e1
        have k1 : dctOf st e = none := by
          cases e0 : data [] p with
          | none => rw [e0] at h; cases h
          | some x =>
          cases e2 : data [] q with
          | none => rw [e0, e2] at h; cases h
          | some y =>
            obtain ⟨_, rfl | ⟨n, rfl, _, ⟨zs, e3, rfl⟩ | ⟨zs, e3, rfl⟩⟩⟩ := w
            · cases e with
              | obj n =>
                exfalso
                unfold data at e2
                rw [deep, if_neg (Nat.not_lt_zero n)] at e2
                cases e2
              | dct ys => cases e1
              | _ => rfl
            · simp only [dctOf, e3]
            · cases e1
        simp only [k1]
        exact two_val (f := fun x y => match y with
          | .tup ys => some (ys.any fun z => eqD z x)
          | .lst ys => some (ys.any fun z => eqD z x)
          | _ => none) v w h
theorem iss_val {r : Bool} (v : Val st d p) (w : Val st e q) (h : issD p q = some r) : issD d e = some r := by
  unfold issD at h
  split at h
  · have := v.imm rfl; have := w.imm rfl; subst d e
    exact h
  · have := w.imm rfl; subst e
    obtain ⟨_, rfl | ⟨n, rfl, _, ⟨zs, e3, rfl⟩ | ⟨zs, e3, rfl⟩⟩⟩ := v
    · cases d <;> exact h
    · exact h
    · exact h
  · cases h
theorem cmp2_val {o : Cmp} {r : Bool} (v : Val st d p) (w : Val st e q) (h : cmp2 o p q [] = some r) : cmp2 o d e st = some r := by
  cases o with
  | eq =>
    have h : ((data [] p).bind fun x => (data [] q).map fun y => eqD x y) = some r := h
    show ((data st d).bind fun x => (data st e).map fun y => eqD x y) = some r
    simp only [Option.map_eq_bind] at h ⊢
    exact two_val v w h
  | ne =>
    have h : ((data [] p).bind fun x => (data [] q).map fun y => !eqD x y) = some r := h
    show ((data st d).bind fun x => (data st e).map fun y => !eqD x y) = some r
    simp only [Option.map_eq_bind] at h ⊢
    exact two_val v w h
  | lt => exact two_val (f := fun x y => if kin x y then ltD x y else none) v w h
  | gt => exact two_val (f := fun x y => if kin x y then ltD y x else none) v w h
  | le => exact two_val (f := fun x y => if kin x y then (ltD y x).map (!·) else none) v w h
  | ge => exact two_val (f := fun x y => if kin x y then (ltD x y).map (!·) else none) v w h
  | inn => exact inn_val v w h
  | nin =>
    obtain ⟨b, h1, h2⟩ : ∃ b, innD p q [] = some b ∧ (!b) = r := Option.map_eq_some_iff.mp h
    have := inn_val v w h1
    exact Option.map_eq_some_iff.mpr ⟨b, this, h2⟩
  | is => exact iss_val v w h
  | isn =>
    obtain ⟨b, h1, h2⟩ : ∃ b, issD p q = some b ∧ (!b) = r := Option.map_eq_some_iff.mp h
    exact Option.map_eq_some_iff.mpr ⟨b, iss_val v w h1, h2⟩
theorem tyOk_val (v : Val st d p) (h : isTok p = false) : tyOk st d = tyOk [] p := by
  obtain ⟨_, rfl | ⟨n, rfl, _, ⟨zs, e3, rfl⟩ | ⟨zs, e3, rfl⟩⟩⟩ := v
  · cases d <;> first | rfl | cases h
  · simp only [tyOk, e3]
  · simp only [tyOk, e3]
theorem enum_val {xs : List D} (v : Val st d p) (h : enumOf [] p = some xs) : enumOf st d = some xs ∧ Bel xs := by
  cases p with
  | tup ys =>
    cases h
    have e : d = .tup xs := v.imm rfl
    subst e
    exact ⟨rfl, below_tup.mp v.1⟩
  | _ =>
    obtain ⟨h1, h2⟩ := lst_val v (show lstOf [] _ = some xs from h)
    refine ⟨?_, h2⟩
    cases d with
    | tup ys => cases h1
    | _ => exact h1
theorem isTy_val {t : Ty} (v : Val st d p) (h : isTok p = false) : isTy st d t = isTy [] p t := by
  obtain ⟨_, rfl | ⟨n, rfl, _, ⟨zs, e3, rfl⟩ | ⟨zs, e3, rfl⟩⟩⟩ := v
  · cases t <;> cases d <;> first | rfl | cases h
  · cases t <;> simp only [isTy, e3]
  · cases t <;> simp only [isTy, e3]
end
end Dv
namespace Dv
open PySem (Str)
variable [T : Thr]
omit T in
theorem bel_get0 {xs : List D} {k : Nat} {x : D} (b : ∀ x ∈ xs, below 2 x = true) (h : xs[k]? = some x) : below 2 x = true := b x (List.mem_of_getElem? h)
theorem bel_get {xs : List D} {k : Nat} {x : D} (b : Bel xs) (h : xs[k]? = some x) : below tt x = true := b x (List.mem_of_getElem? h)
theorem bel_cut {xs : List D} {i j : Option Int} (b : Bel xs) : Bel (cutL xs i j) := fun x hx => by
  unfold cutL at hx
  exact b x (List.mem_of_mem_drop (List.mem_of_mem_take hx))
theorem kGet_bel {xs : List (D × D)} {k v : D} (b : BelK xs) (h : kGet xs k = some v) : below tt v = true := by
  unfold kGet at h
  obtain ⟨p, h1, rfl⟩ := Option.map_eq_some_iff.mp h
  exact (b p (List.mem_of_find?_eq_some h1)).2
theorem ofO_ok {α : Type} {x : Option α} {s t : Sto} {r : α} (h : ofO x s = .ok r t) : x = some r := by
  cases x with
  | none => cases h
  | some a => cases h; rfl
section
variable {st : Sto} {d e p q : D}
theorem seq_objk {n : Nat} {xs : List (D × D)} (h : Obj st n (.dct xs)) : seqOf st (.obj n) = none := by
  obtain ⟨_, ⟨zs, e3, e4⟩ | ⟨zs, e3, e4⟩⟩ := h
  · cases e4
  · simp only [seqOf, e3]
theorem idx_val {r : D} {s0 : Sto} (v : Val st d p) (w : Val st e q) (h : idx p q [] = .ok r s0) : idx d e st = .ok r st ∧ below tt r = true := by
  unfold idx at h
  split at h
  · have := v.imm rfl; have := w.imm rfl; subst d e
    rename_i x i
    by_cases k : x.length ≤ LIM
    · rw [if_pos k] at h
      have h := ofO_ok h
      refine ⟨?_, ?_⟩
      · show (if x.length ≤ LIM then ofO _ st else Res.bad) = _
        rw [if_pos k, h]
        rfl
      · obtain ⟨c, _, rfl⟩ := Option.map_eq_some_iff.mp h
        rfl
    · rw [if_neg k] at h
      cases h
  · have := w.imm rfl
    subst e
    split at h
    · rename_i hn xs e1
      obtain ⟨k1, b1⟩ := seq_val v e1
      have h := ofO_ok h
      have hb : below tt r = true := by
        obtain ⟨k, _, h2⟩ := Option.bind_eq_some_iff.mp h
        exact bel_get b1 h2
      refine ⟨?_, hb⟩
      cases d <;> first | (cases k1; done) | (simp only [idx, k1, h]; rfl)
    · rename_i hn e1
      split at h
      · rename_i kvs e2
        obtain ⟨k2, b2⟩ := dct_val v e2
        have h := ofO_ok h
        refine ⟨?_, kGet_bel b2 h⟩
        have := dct_nil e2
        subst p
        obtain ⟨_, rfl | ⟨n, rfl, o⟩⟩ := v
        · show ofO (kGet kvs _) st = _
          rw [h]
          rfl
        · simp only [idx, seq_objk o, k2, h]
          rfl
      · cases h
  · rename_i hn1 hn2
    split at h
    · rename_i kvs e2
      obtain ⟨k2, b2⟩ := dct_val v e2
      split at h
      · rename_i hk
        have h := ofO_ok h
        have hi : imm q = true := by cases q <;> first | rfl | cases hk
        have := w.imm hi
        subst e
        refine ⟨?_, kGet_bel b2 h⟩
        cases q with
        | int i => simp_all
        | str x => simp only [idx, k2, hk, if_true, h]; rfl
        | _ => cases hk
      · cases h
    · cases h
theorem slc_val {i j : Option Int} {r : D} {s0 : Sto} (v : Val st d p) (h : slc p i j [] = .ok r s0) : slc d i j st = .ok r st ∧ below tt r = true := by
  unfold slc at h
  split at h
  · have := v.imm rfl; subst d
    rename_i x
    by_cases k : x.length ≤ LIM
    · rw [if_pos k] at h
      cases h
      refine ⟨?_, rfl⟩
      show (if x.length ≤ LIM then _ else Res.bad) = _
      rw [if_pos k]
    · rw [if_neg k] at h
      cases h
  · have := v.imm rfl; subst d
    cases h
    exact ⟨rfl, below_tup.mpr (bel_cut (below_tup.mp v.1))⟩
  · split at h
    · rename_i xs e1
      cases h
      obtain ⟨k1, b1⟩ := lst_val v e1
      have := lst_nil e1
      subst p
      refine ⟨?_, below_lst.mpr (bel_cut b1)⟩
      obtain ⟨_, rfl | ⟨n, rfl, o⟩⟩ := v
      · rfl
      · simp only [slc, k1]
    · cases h
theorem rev_val {r : D} {s0 : Sto} (v : Val st d p) (h : revD p [] = .ok r s0) : revD d st = .ok r st ∧ below tt r = true := by
  unfold revD at h
  split at h
  · have := v.imm rfl; subst d
    cases h
    exact ⟨rfl, below_tup.mpr fun x hx => below_tup.mp v.1 x (List.mem_reverse.mp hx)⟩
  · split at h
    · rename_i xs e1
      cases h
      obtain ⟨k1, b1⟩ := lst_val v e1
      have := lst_nil e1
      subst p
      refine ⟨?_, below_lst.mpr fun x hx => b1 x (List.mem_reverse.mp hx)⟩
      obtain ⟨_, rfl | ⟨n, rfl, o⟩⟩ := v
      · rfl
      · simp only [revD, k1]
    · cases h
/-- values side by side -/
def Vals (st : Sto) : List D → List D → Prop
  | [], [] => True
  | d :: ds, p :: ps => Val st d p ∧ Vals st ds ps
  | _, _ => False
theorem sort_bel {xs : List D} (b : Bel xs) : Bel (sortD xs) := fun x hx => b x ((List.mergeSort_perm xs leD).mem_iff.mp hx)
theorem vals_one {ds : List D} (h : Vals st ds [p]) : ∃ d, ds = [d] ∧ Val st d p := by
  match ds, h with
  | [d], ⟨h, _⟩ => exact ⟨d, rfl, h⟩
theorem vals_two {ds : List D} (h : Vals st ds [p, q]) : ∃ d e, ds = [d, e] ∧ Val st d p ∧ Val st e q := by
  match ds, h with
  | [d, e], ⟨h, h2, _⟩ => exact ⟨d, e, rfl, h, h2⟩
omit T in
theorem mapM_same {α β : Type} {f g : α → Option β} : ∀ {xs : List α}, (∀ x ∈ xs, f x = g x) → xs.mapM f = xs.mapM g
  | [], _ => rfl
  | x :: xs, h => by rw [List.mapM_cons, List.mapM_cons, h x (List.mem_cons_self ..), mapM_same fun y hy => h y (List.mem_cons_of_mem _ hy)]
omit T in
theorem clDs_all : ∀ {xs : List D}, clDs xs = true → ∀ x ∈ xs, clD x = true
  | [], _, _, h => absurd h List.not_mem_nil
  | y :: ys, h, x, hx => by
    simp only [clDs, Bool.and_eq_true] at h
    (rcases List.mem_cons.mp hx with rfl | hx)
    · exact h.1
    · exact clDs_all h.2 x hx
omit T in
theorem clDk_all : ∀ {xs : List (D × D)}, clDk xs = true → ∀ x ∈ xs, clD x.1 = true ∧ clD x.2 = true
  | [], _, _, h => absurd h List.not_mem_nil
  | (k, v) :: ys, h, x, hx => by
    simp only [clDk, Bool.and_eq_true] at h
    (rcases List.mem_cons.mp hx with rfl | hx)
    · exact h.1
    · exact clDk_all h.2 x hx
omit T in
theorem cl_deep {st : Sto} {lo : Nat} : ∀ (n : Nat) (d : D), clD d = true → deep st lo n d = deep [] lo n d
  | 0, _, _ => rfl
  | n + 1, .tup xs, h => by
    simp only [clD] at h
    simp only [deep]
    rw [mapM_same fun x hx => cl_deep n x (clDs_all h x hx)]
  | n + 1, .dct kvs, h => by
    simp only [clD] at h
    simp only [deep]
    rw [mapM_same fun x hx => by rw [cl_deep n x.1 (clDk_all h x hx).1, cl_deep n x.2 (clDk_all h x hx).2]]
  | n + 1, .lst _, h => by simp [clD] at h
  | n + 1, .ins _ _, h => by simp [clD] at h
  | n + 1, .obj _, h => by simp [clD] at h
  | n + 1, .scr _, h => by simp [clD] at h
  | n + 1, .non, _ => rfl
  | n + 1, .bl _, _ => rfl
  | n + 1, .int _, _ => rfl
  | n + 1, .str _, _ => rfl
omit T in
theorem data_dct {st : Sto} {n : Nat} {kvs : List (D × D)} (h : st.get n = some (.dct kvs)) : data st (.obj n) = none := by
  unfold data
  obtain ⟨m, hm⟩ : ∃ m, levels = m + 1 := ⟨39, rfl⟩
  rw [hm]
  simp only [deep, h, Nat.not_lt_zero, if_false]
  cases (kvs.mapM fun p => (deep st 0 m p.1).bind fun k => (deep st 0 m p.2).map fun v => (k, v)) <;> rfl
omit T in
theorem rep1_ok {p r : D} {st s0 : Sto} (h : rep1 p st = .ok r s0) : clD p = true ∧ ∃ x, r = .str x ∧ ∀ st2, rep1 p st2 = .ok r st2 := by
  unfold rep1 at *
  split at h
  · rename_i c
    cases h
    simp only [Bool.and_eq_true] at c
    refine ⟨c.1.1.1.1, _, rfl, fun st2 => ?_⟩
    rw [if_pos (by simp only [Bool.and_eq_true]; exact c)]
  · cases h
theorem repD_val {p d r : D} {s0 : Sto} (u : Val st d p) (e1 : data [] p = none) (h : repD p [] = .ok r s0) : blt .repr [d] st = .ok r st ∧ below tt r = true := by
  have hp : rep1 p [] = .ok r s0 ∧ ∀ n, p ≠ .obj n := by
    unfold repD at h
    split at h
    · exfalso
      split at h
      · rename_i e
        simp [Sto.get] at e
      · cases h
    · rename_i z
      exact ⟨h, fun n e => z n e⟩
  obtain ⟨c, x, rfl, all⟩ := rep1_ok hp.1
  refine ⟨?_, rfl⟩
  obtain ⟨_, rfl | ⟨n, rfl, ob⟩⟩ := u
  · have e2 : data st d = none := by
      unfold data at e1 ⊢
      rw [cl_deep levels d c]
      exact e1
    simp only [blt, e2]
    unfold repD
    split
    · exact absurd rfl (hp.2 _)
    · exact all st
  · obtain ⟨_, ⟨xs, e, rfl⟩ | ⟨kvs, e, rfl⟩⟩ := ob
    · simp [clD] at c
    · simp only [blt, data_dct e]
      unfold repD
      simp only [e]
      exact all st
theorem blt_val {b : Blt} {ds ps : List D} {r : D} {s0 : Sto} (v : Vals st ds ps) (h : blt b ps [] = .ok r s0) : blt b ds st = .ok r st ∧ below tt r = true := by
  unfold blt at h
  split at h
  · obtain ⟨d, rfl, u⟩ := vals_one v
    have := u.imm rfl; subst d
    rename_i x
    by_cases k : x.length ≤ LIM
    · rw [if_pos k] at h
      cases h
      refine ⟨?_, rfl⟩
      show (if x.length ≤ LIM then _ else Res.bad) = _
      rw [if_pos k]
    · rw [if_neg k] at h
      cases h
  · obtain ⟨d, rfl, u⟩ := vals_one v
    split at h
    · rename_i hn xs e1
      cases h
      obtain ⟨k1, b1⟩ := seq_val u e1
      refine ⟨?_, rfl⟩
      cases d <;> first | (simp only [blt, k1]; done) | cases k1
    · rename_i hn e1
      split at h
      · rename_i kvs e2
        cases h
        obtain ⟨k2, b2⟩ := dct_val u e2
        have := dct_nil e2
        subst this
        refine ⟨?_, rfl⟩
        obtain ⟨_, rfl | ⟨n, rfl, o⟩⟩ := u
        · rfl
        · simp only [blt, seq_objk o, k2]
      · cases h
  · obtain ⟨d, rfl, u⟩ := vals_one v
    have := u.imm rfl; subst d
    cases h
    exact ⟨rfl, rfl⟩
  · obtain ⟨d, rfl, u⟩ := vals_one v
    have := u.imm rfl; subst d
    cases h
    exact ⟨rfl, rfl⟩
  · obtain ⟨d, rfl, u⟩ := vals_one v
    have := u.imm rfl; subst d
    cases h
    exact ⟨rfl, rfl⟩
  · obtain ⟨d, rfl, u⟩ := vals_one v
    split at h
    · rename_i xs e1
      have k1 := data_val u e1
      simp only [blt, k1]
      split at h
      · rename_i hc
        rw [if_pos hc]
        cases h
        exact ⟨rfl, rfl⟩
      · cases h
    · rename_i e1
      exact repD_val u e1 h
  · obtain ⟨d, rfl, u⟩ := vals_one v
    split at h
    · rename_i xs e1
      obtain ⟨k1, b1⟩ := seq_val u e1
      simp only [blt, k1]
      split at h
      · rename_i hc
        rw [if_pos hc]
        cases h
        exact ⟨rfl, below_lst.mpr (sort_bel b1)⟩
      · cases h
    · cases h
  · obtain ⟨d, rfl, u⟩ := vals_one v
    split at h
    · rename_i xs e1
      obtain ⟨k1, b1⟩ := iter_val u e1
      cases h
      simp only [blt, k1]
      exact ⟨trivial, below_tup.mpr b1⟩
    · cases h
  · obtain ⟨d, rfl, u⟩ := vals_one v
    split at h
    · rename_i xs e1
      obtain ⟨k1, b1⟩ := iter_val u e1
      cases h
      simp only [blt, k1]
      exact ⟨trivial, below_lst.mpr b1⟩
    · rename_i e1
      split at h
      · rename_i kvs e2
        cases h
        obtain ⟨k2, b2⟩ := dct_val u e2
        have := dct_nil e2
        subst this
        refine ⟨?_, below_lst.mpr fun x hx => ?_⟩
        · obtain ⟨_, rfl | ⟨n, rfl, o⟩⟩ := u
          · rfl
          · simp only [blt, iterOf, seq_objk o, k2]
        · obtain ⟨y, h1, rfl⟩ := List.mem_map.mp hx
          exact (b2 y h1).1
      · cases h
  · obtain ⟨d, rfl, u⟩ := vals_one v
    split at h
    · rename_i bs e1
      obtain ⟨xs, e2, e3⟩ := Option.bind_eq_some_iff.mp e1
      obtain ⟨k1, b1⟩ := lst_val u e2
      simp only [blt, k1, Option.bind_some, e3]
      cases h
      exact ⟨rfl, rfl⟩
    · cases h
  · obtain ⟨d, rfl, u⟩ := vals_one v
    split at h
    · rename_i bs e1
      obtain ⟨xs, e2, e3⟩ := Option.bind_eq_some_iff.mp e1
      obtain ⟨k1, b1⟩ := lst_val u e2
      simp only [blt, k1, Option.bind_some, e3]
      cases h
      exact ⟨rfl, rfl⟩
    · cases h
  · obtain ⟨d, rfl, u⟩ := vals_one v
    split at h
    · rename_i bs e1
      obtain ⟨xs, e2, e3⟩ := Option.bind_eq_some_iff.mp e1
      obtain ⟨k1, b1⟩ := lst_val u e2
      simp only [blt, k1, Option.bind_some, e3]
      cases h
      exact ⟨rfl, rfl⟩
    · cases h
  · obtain ⟨d, e, rfl, u, w⟩ := vals_two v
    have := u.imm rfl; have := w.imm rfl; subst d e
    cases h
    exact ⟨rfl, rfl⟩
  · obtain ⟨d, e, rfl, u, w⟩ := vals_two v
    have := u.imm rfl; have := w.imm rfl; subst d e
    cases h
    exact ⟨rfl, rfl⟩
  · obtain ⟨d, rfl, u⟩ := vals_one v
    split at h
    · rename_i i r e1
      obtain ⟨xs, e2, e3⟩ := Option.bind_eq_some_iff.mp e1
      obtain ⟨k1, b1⟩ := seq_val u e2
      simp only [blt, k1, Option.bind_some, e3]
      cases h
      exact ⟨rfl, rfl⟩
    · cases h
  · obtain ⟨d, rfl, u⟩ := vals_one v
    split at h
    · rename_i i r e1
      obtain ⟨xs, e2, e3⟩ := Option.bind_eq_some_iff.mp e1
      obtain ⟨k1, b1⟩ := seq_val u e2
      simp only [blt, k1, Option.bind_some, e3]
      cases h
      exact ⟨rfl, rfl⟩
    · cases h
  · obtain ⟨d, rfl, u⟩ := vals_one v
    split at h
    · rename_i l e1
      obtain ⟨xs, e2, e3⟩ := Option.bind_eq_some_iff.mp e1
      obtain ⟨k1, b1⟩ := seq_val u e2
      simp only [blt, k1, Option.bind_some, e3]
      split at h
      · rename_i hc
        rw [if_pos hc]
        cases h
        exact ⟨rfl, below_lst.mpr (sort_bel fun x hx => by obtain ⟨c, _, rfl⟩ := List.mem_map.mp hx; rfl)⟩
      · cases h
    · cases h
  · obtain ⟨d, rfl, u⟩ := vals_one v
    split at h
    · rename_i l e1
      obtain ⟨xs, e2, e3⟩ := Option.bind_eq_some_iff.mp e1
      obtain ⟨k1, b1⟩ := seq_val u e2
      simp only [blt, k1, Option.bind_some, e3]
      split at h
      · rename_i hc
        rw [if_pos hc]
        cases h
        exact ⟨rfl, rfl⟩
      · cases h
    · cases h
  · cases h
theorem bltL_val {b : Blt} {ds ps : List D} {r : List D} {s0 : Sto} (v : Vals st ds ps) (h : bltL b ps [] = .ok r s0) : bltL b ds st = .ok r st ∧ Bel r := by
  unfold bltL at h
  split at h
  · obtain ⟨d, rfl, u⟩ := vals_one v
    split at h
    · rename_i xs e1
      obtain ⟨k1, b1⟩ := seq_val u e1
      simp only [bltL, k1]
      split at h
      · rename_i hc
        rw [if_pos hc]
        cases h
        exact ⟨rfl, sort_bel b1⟩
      · cases h
    · cases h
  · obtain ⟨d, rfl, u⟩ := vals_one v
    split at h
    · rename_i xs e1
      obtain ⟨k1, b1⟩ := iter_val u e1
      cases h
      simp only [bltL, k1]
      exact ⟨trivial, b1⟩
    · cases h
  · cases h
theorem get_one {o : O} : Sto.get [o] 0 = some o := rfl
theorem put_one {o o' : O} : Sto.put [o] 0 o' = [o'] := rfl
theorem bel_snoc {xs : List D} {y : D} (h : Bel xs) (k : below tt y = true) : Bel (xs ++ [y]) := bel_app h fun x hx => by rw [List.mem_singleton.mp hx]; exact k
theorem mth_val {m : Mth} {n : Nat} {xs ys ds : List D} {r : D} {s0 : Sto} (g : st.get n = some (.lst xs)) (bx : Bel xs) (bd : Bel ds) (h : mth m (.obj 0) ds [.lst xs] = .ok r [.lst ys]) :
    mth m (.obj n) ds st = .ok r (st.put n (.lst ys)) ∧ below tt r = true ∧ Bel ys := by
  unfold mth at h
  split at h
  · rename_i z
    cases z
    simp only [get_one, put_one] at h
    split at h
    · rename_i hc
      obtain ⟨rfl, e⟩ := ok_inj h
      cases e
      refine ⟨?_, rfl, bel_snoc bx (bd _ (List.mem_singleton.mpr rfl))⟩
      simp only [mth, g, if_pos hc]
    · cases h
  · rename_i z
    cases z
    simp only [get_one, put_one] at h
    split at h
    · rename_i y hc
      obtain ⟨rfl, e⟩ := ok_inj h
      cases e
      refine ⟨?_, bel_get bx hc, fun x hx => bx x ((List.dropLast_sublist xs).subset hx)⟩
      simp only [mth, g, hc]
    · cases h
  · rename_i z
    cases z
    simp only [get_one, put_one] at h
    split at h
    · rename_i k hk
      split at h
      · rename_i y hc
        obtain ⟨rfl, e⟩ := ok_inj h
        cases e
        refine ⟨?_, bel_get bx hc, fun x hx => bx x (List.mem_of_mem_eraseIdx hx)⟩
        simp only [mth, g, hk, hc]
      · cases h
    · cases h
  · rename_i z
    cases z
    simp only [get_one, put_one] at h
    split at h
    · rename_i ns hk
      split at h
      · rename_i hc
        obtain ⟨rfl, e⟩ := ok_inj h
        cases e
        refine ⟨?_, rfl, fun x hx => bx x (List.mem_of_mem_eraseIdx hx)⟩
        simp only [mth, g, hk, if_pos hc]
      · cases h
    · cases h
  · cases h
theorem subl_val {n : Nat} {xs ys : List D} {i v : D} {u : Unit} (g : st.get n = some (.lst xs)) (bx : Bel xs) (bv : below tt v = true) (h : isub (.obj 0) i v [.lst xs] = .ok u [.lst ys]) :
    isub (.obj n) i v st = .ok () (st.put n (.lst ys)) ∧ Bel ys := by
  simp only [isub, get_one, put_one] at h
  split at h
  · split at h
    · rename_i k hk
      obtain ⟨_, e⟩ := ok_inj h
      cases e
      refine ⟨?_, fun x hx => ?_⟩
      · simp only [isub, g, hk]
      · rcases List.mem_or_eq_of_mem_set hx with z | z
        · exact bx x z
        · rw [z]; exact bv
    · cases h
  · cases h
theorem kPut_bel {xs : List (D × D)} {k v : D} (b : BelK xs) (hk : below tt k = true) (hv : below tt v = true) : BelK (kPut xs k v) := by
  unfold kPut
  split
  · intro x hx
    obtain ⟨y, h1, rfl⟩ := List.mem_map.mp hx
    split
    · exact ⟨(b y h1).1, hv⟩
    · exact b y h1
  · intro x hx
    rcases List.mem_append.mp hx with z | z
    · exact b x z
    · (rw [List.mem_singleton.mp z])
      exact ⟨hk, hv⟩
theorem subk_val {n : Nat} {xs ys : List (D × D)} {i v : D} {u : Unit} (g : st.get n = some (.dct xs)) (bx : BelK xs) (bi : below tt i = true) (bv : below tt v = true) (h : isub (.obj 0) i v [.dct xs] = .ok u [.dct ys]) :
    isub (.obj n) i v st = .ok () (st.put n (.dct ys)) ∧ BelK ys := by
  simp only [isub, get_one, put_one] at h
  split at h
  · rename_i hc
    obtain ⟨_, e⟩ := ok_inj h
    cases e
    exact ⟨by simp only [isub, g, if_pos hc], kPut_bel bx bi bv⟩
  · cases h
end
theorem prs_bel : ∀ {xs : List D} {ps : List (D × D)}, prsOf xs = some ps → Bel xs → BelK ps
  | [], ps, h, b => by
    cases h
    intro y hy
    cases hy
  | d :: r, ps, h, b => by
    unfold prsOf at h
    split at h
    · cases h
      intro y hy
      cases hy
    · rename_i k v r' e
      cases e
      split at h
      · obtain ⟨qs, e1, rfl⟩ := Option.map_eq_some_iff.mp h
        intro y hy
        rcases List.mem_cons.mp hy with z | z
        · have c := below_tup.mp (b (.tup [k, v]) (List.mem_cons_self ..))
          rw [z]
          exact ⟨c k (by simp), c v (by simp)⟩
        · exact prs_bel e1 (fun x hx => b x (List.mem_cons_of_mem _ hx)) y z
      · cases h
    · cases h
theorem mkDict_bel {ps : List (D × D)} (h : BelK ps) : BelK (mkDict ps) := by
  unfold mkDict
  have : ∀ (ps kvs : List (D × D)), BelK ps → BelK kvs → BelK (ps.foldl (fun kvs p => kPut kvs p.1 p.2) kvs) := by
    intro ps
    induction ps with
    | nil => exact fun kvs _ h => h
    | cons p ps ih => exact fun kvs h1 h2 => ih _ (fun x hx => h1 x (List.mem_cons_of_mem _ hx)) (kPut_bel h2 (h1 p (List.mem_cons_self ..)).1 (h1 p (List.mem_cons_self ..)).2)
  exact this ps [] h (fun x hx => by cases hx)
end Dv
namespace Dv
open PySem (Str)
mutual
theorem below_mono {a b : Nat} (l : a ≤ b) : ∀ {d : D}, below a d = true → below b d = true
  | .non, _ => rfl
  | .bl _, _ => rfl
  | .int _, _ => rfl
  | .str _, _ => rfl
  | .tup xs, h => by simp only [below] at h ⊢; exact belows_mono l h
  | .lst xs, h => by simp only [below] at h ⊢; exact belows_mono l h
  | .dct xs, h => by simp only [below] at h ⊢; exact belowk_mono l h
  | .ins _ xs, h => by simp only [below] at h ⊢; exact belowf_mono l h
  | .obj n, h => by simp only [below, decide_eq_true_eq] at h ⊢; omega
  | .scr _, _ => rfl
theorem belows_mono {a b : Nat} (l : a ≤ b) : ∀ {d : List D}, belows a d = true → belows b d = true
  | [], _ => rfl
  | x :: xs, h => by simp only [belows, Bool.and_eq_true] at h ⊢; exact ⟨below_mono l h.1, belows_mono l h.2⟩
theorem belowk_mono {a b : Nat} (l : a ≤ b) : ∀ {d : List (D × D)}, belowk a d = true → belowk b d = true
  | [], _ => rfl
  | (k, v) :: xs, h => by simp only [belowk, Bool.and_eq_true] at h ⊢; exact ⟨⟨below_mono l h.1.1, below_mono l h.1.2⟩, belowk_mono l h.2⟩
theorem belowf_mono {a b : Nat} (l : a ≤ b) : ∀ {d : List (Str × D)}, belowf a d = true → belowf b d = true
  | [], _ => rfl
  | (k, v) :: xs, h => by simp only [belowf, Bool.and_eq_true] at h ⊢; exact ⟨below_mono l h.1, belowf_mono l h.2⟩
end
theorem belowO_mono {a b : Nat} (l : a ≤ b) {o : O} (h : belowO a o = true) : belowO b o = true := by
  cases o with
  | lst xs => exact belows_mono l h
  | dct xs => exact belowk_mono l h
  | ins c xs => exact belowf_mono l h
def StoOk (st : Sto) : Prop := ∃ top b, st = top ++ bs b ∧ b.cs.length ≤ 63 ∧ ∀ n o, 2 ≤ n → st.get n = some o → belowO st.length o = true
theorem StoOk.two {st : Sto} (h : StoOk st) : 2 ≤ st.length := by
  obtain ⟨top, b, rfl, _⟩ := h
  rw [bs_len]
  omega
variable [T : Thr]
def OwnAt (η : Env) (π : PE) (i n : Nat) : Prop := (∃ p, π[i]? = some (some (.own, p))) ∧ η[i]? = some (some (.obj n))
def Owned (η : Env) (π : PE) (n : Nat) : Prop := ∃ i, OwnAt η π i n
/-- a value, by how it stands; new ones are at lo or behind it -/
def EV (B lo : Nat) (st : Sto) (k : Kd) (d p : D) : Prop := match k with
  | .clo => d = p ∧ below tt p = true
  | .bor => Val st d p ∧ ∀ n, d = .obj n → n < B
  | .own => ∃ n, d = .obj n ∧ B ≤ n ∧ Obj st n p ∧ below tt p = true
  | .lse => Val st d p
  | .fre => ∃ n, d = .obj n ∧ lo ≤ n ∧ Obj st n p ∧ below tt p = true
structure RelW (B : Nat) (η : Env) (st : Sto) (π : PE) : Prop where
  len : η.length = π.length
  slot : ∀ (i : Nat) (k : Kd) (p : D), π[i]? = some (some (k, p)) → ∃ d, η[i]? = some (some d) ∧ EV B B st k d p ∧ (k = .clo ∨ k = .bor ∨ k = .own)
  dis : ∀ (i j n : Nat), OwnAt η π i n → OwnAt η π j n → i = j
structure Here (B : Nat) (η : Env) (π : PE) (st : Sto) : Prop where
  sto : StoOk st
  rel : RelW B η st π
  hB : B ≤ st.length
  h2 : tt ≤ B
def kdAt (π : PE) (i : Nat) : Option Kd := match π[i]? with
  | some (some (k, _)) => some k
  | _ => none
structure GoodW (B : Nat) (η : Env) (π : PE) (st : Sto) (π' : PE) (st' : Sto) : Prop where
  here : Here B η π' st'
  kinds : ∀ i, kdAt π' i = kdAt π i
  le : st.length ≤ st'.length
  fr : ∀ n, 2 ≤ n → n < st.length → ¬ Owned η π n → st'.get n = st.get n
theorem own_kd {π : PE} {i : Nat} : (∃ p, π[i]? = some (some (Kd.own, p))) ↔ kdAt π i = some .own := by
  unfold kdAt
  constructor
  · rintro ⟨p, h⟩
    rw [h]
  · intro h
    split at h
    · rename_i k p e
      cases h
      exact ⟨p, e⟩
    · cases h
theorem Owned.kinds {η : Env} {π π' : PE} {n : Nat} (k : ∀ i, kdAt π' i = kdAt π i) : Owned η π' n ↔ Owned η π n := by
  constructor
  · rintro ⟨i, h1, h2⟩
    exact ⟨i, own_kd.mpr (by rw [← k i]; exact own_kd.mp h1), h2⟩
  · rintro ⟨i, h1, h2⟩
    exact ⟨i, own_kd.mpr (by rw [k i]; exact own_kd.mp h1), h2⟩
theorem Obj.lt {st : Sto} {n : Nat} {p : D} (h : Obj st n p) : n < st.length := by
  obtain ⟨_, ⟨_, e, _⟩ | ⟨_, e, _⟩⟩ := h
  · exact get_lt e
  · exact get_lt e
theorem Obj.same {st st' : Sto} {n : Nat} {p : D} (h : Obj st n p) (e : st'.get n = st.get n) : Obj st' n p := by
  unfold Obj at h ⊢
  rw [e]
  exact h
theorem Val.same {st st' : Sto} {d p : D} (h : Val st d p) (e : ∀ n, d = .obj n → 2 ≤ n → n < st.length → st'.get n = st.get n) : Val st' d p := by
  obtain ⟨b, h | ⟨n, rfl, o⟩⟩ := h
  · exact ⟨b, .inl h⟩
  · exact ⟨b, .inr ⟨n, rfl, o.same (e n rfl o.1 o.lt)⟩⟩
theorem EV.val {B lo : Nat} {st : Sto} {k : Kd} {d p : D} (h : EV B lo st k d p) : Val st d p := by
  cases k with
  | clo => obtain ⟨rfl, b⟩ := h; exact ⟨b, .inl rfl⟩
  | bor => exact h.1
  | own => obtain ⟨n, rfl, _, o, b⟩ := h; exact ⟨b, .inr ⟨n, rfl, o⟩⟩
  | lse => exact h
  | fre => obtain ⟨n, rfl, _, o, b⟩ := h; exact ⟨b, .inr ⟨n, rfl, o⟩⟩
theorem EV.bel {B lo : Nat} {st : Sto} {k : Kd} {d p : D} (h : EV B lo st k d p) : below tt p = true := h.val.1
theorem EV.lo {B lo lo' : Nat} {st : Sto} {k : Kd} {d p : D} (h : EV B lo' st k d p) (l : lo ≤ lo') : EV B lo st k d p := by
  cases k with
  | fre => obtain ⟨n, e, h1, o, b⟩ := h; exact ⟨n, e, by omega, o, b⟩
  | _ => exact h
theorem RelW.own_lt {B : Nat} {η : Env} {st : Sto} {π : PE} (r : RelW B η st π) {n : Nat} (h : Owned η π n) : B ≤ n ∧ n < st.length := by
  obtain ⟨i, ⟨p, h1⟩, h2⟩ := h
  obtain ⟨d, h3, v, _⟩ := r.slot i _ _ h1
  rw [h2] at h3
  cases h3
  obtain ⟨m, e, l, o, _⟩ := v
  cases e
  exact ⟨l, o.lt⟩
theorem GoodW.refl {B : Nat} {η : Env} {π : PE} {st : Sto} (h : Here B η π st) : GoodW B η π st π st := ⟨h, fun _ => rfl, Nat.le_refl _, fun _ _ _ _ => rfl⟩
theorem GoodW.trans {B : Nat} {η : Env} {π π1 π2 : PE} {st st1 st2 : Sto} (a : GoodW B η π st π1 st1) (b : GoodW B η π1 st1 π2 st2) : GoodW B η π st π2 st2 :=
  ⟨b.here, fun i => (b.kinds i).trans (a.kinds i), Nat.le_trans a.le b.le, fun n h1 h2 h3 => (b.fr n h1 (Nat.lt_of_lt_of_le h2 a.le) fun z => h3 ((Owned.kinds a.kinds).mp z)).trans (a.fr n h1 h2 h3)⟩
/-- a value stands while what is behind it is evaluated -/
theorem EV.stays {B : Nat} {η : Env} {π π1 π2 : PE} {st st1 st2 : Sto} {k : Kd} {d p : D} (h0 : Here B η π st) (g : GoodW B η π st π1 st1) (h : EV B st.length st1 k d p) (g2 : GoodW B η π1 st1 π2 st2) (s : stay k π1 π2) : EV B st.length st2 k d p := by
  have gen : ∀ n p, Obj st1 n p → π1 = π2 → Obj st2 n p := fun n p o e => by
    by_cases z : Owned η π1 n
    · obtain ⟨i, ⟨q, h1⟩, h2⟩ := z
      obtain ⟨d1, e1, v1, _⟩ := g.here.rel.slot i _ _ h1
      obtain ⟨d2, e2, v2, _⟩ := g2.here.rel.slot i _ _ (by rw [← e]; exact h1)
      rw [h2] at e1 e2
      cases e1
      cases e2
      obtain ⟨m1, f1, _, o1, _⟩ := v1
      obtain ⟨m2, f2, _, o2, _⟩ := v2
      cases f1
      cases f2
      obtain ⟨k2, ⟨xs, q1, q2⟩ | ⟨xs, q1, q2⟩⟩ := o <;> obtain ⟨_, ⟨ys, q3, q4⟩ | ⟨ys, q3, q4⟩⟩ := o1 <;> rw [q1] at q3 <;> cases q3
      · rw [q2, ← q4]; exact o2
      · rw [q2, ← q4]; exact o2
    · exact o.same (g2.fr n o.1 o.lt z)
  cases k with
  | clo => exact h
  | bor => exact ⟨h.1.same fun n e h2 hl => g2.fr n h2 hl fun z => absurd (h.2 n e) (Nat.not_lt.mpr (g.here.rel.own_lt z).1), h.2⟩
  | own =>
    obtain ⟨n, e, hb, o, b⟩ := h
    exact ⟨n, e, hb, gen n p o s, b⟩
  | lse =>
    obtain ⟨b, h | ⟨n, e, o⟩⟩ := h
    · exact ⟨b, .inl h⟩
    · exact ⟨b, .inr ⟨n, e, gen n p o s⟩⟩
  | fre =>
    obtain ⟨n, e, hl, o, b⟩ := h
    exact ⟨n, e, hl, o.same (g2.fr n o.1 o.lt fun z => absurd hl (Nat.not_le.mpr (h0.rel.own_lt ((Owned.kinds g.kinds).mp z)).2)), b⟩
def SimR {α β : Type} (B : Nat) (η : Env) (X : Xc) (V : Nat → Sto → PE → α → β → Prop) (lo : Nat) (π : PE) (st : Sto) (r : Res α) (Q : β → PE → Prop) : Prop :=
  match r with
  | .ok a st' => ∃ b π', GoodW B η π st π' st' ∧ V lo st' π' a b ∧ Q b π'
  | .exc c fs st' => ∃ π', GoodW B η π st π' st' ∧ belowf tt fs = true ∧ X c fs π'
  | .bad => False
def Mono {α β : Type} (V : Nat → Sto → PE → α → β → Prop) : Prop := ∀ lo lo' st π a b, lo ≤ lo' → V lo' st π a b → V lo st π a b
section
variable {B lo : Nat} {η : Env} {X : Xc} {π : PE} {st : Sto}
theorem SimR.bind {lo1 : Nat} {α β γ δ : Type} {V : Nat → Sto → PE → α → β → Prop} {V2 : Nat → Sto → PE → γ → δ → Prop} {r : Res α} {f : α → Sto → Res γ} {Q1 : β → PE → Prop} {Q : δ → PE → Prop}
    (h : SimR B η X V lo1 π st r Q1) (k : ∀ a st1 b π1, GoodW B η π st π1 st1 → V lo1 st1 π1 a b → Q1 b π1 → SimR B η X V2 lo π1 st1 (f a st1) Q) : SimR B η X V2 lo π st (r.bind f) Q := by
  cases r with
  | bad => exact h
  | exc c fs st' => exact h
  | ok a st1 =>
    obtain ⟨b, π1, g, v, q⟩ := h
    have z := k a st1 b π1 g v q
    show SimR B η X V2 lo π st (f a st1) Q
    cases e : f a st1 with
    | bad => rw [e] at z; exact z
    | exc c fs st' =>
      rw [e] at z
      obtain ⟨π', g', q'⟩ := z
      exact ⟨π', g.trans g', q'⟩
    | ok c st2 =>
      rw [e] at z
      obtain ⟨d, π2, g2, v2, q2⟩ := z
      exact ⟨d, π2, g.trans g2, v2, q2⟩
theorem SimR.lower {lo' : Nat} {α β : Type} {V : Nat → Sto → PE → α → β → Prop} {r : Res α} {Q : β → PE → Prop} (m : Mono V) (l : lo ≤ lo') (h : SimR B η X V lo' π st r Q) : SimR B η X V lo π st r Q := by
  cases r with
  | bad => exact h
  | exc c fs st' => exact h
  | ok a st' =>
    obtain ⟨b, π', g, v, q⟩ := h
    exact ⟨b, π', g, m _ _ _ _ _ _ l v, q⟩
theorem SimR.ret {α β : Type} {V : Nat → Sto → PE → α → β → Prop} {Q : β → PE → Prop} {a : α} {b : β} (h : Here B η π st) (v : V lo st π a b) (q : Q b π) : SimR B η X V lo π st (.ok a st) Q := ⟨b, π, .refl h, v, q⟩
theorem SimR.noexc {α β : Type} {V : Nat → Sto → PE → α → β → Prop} {Q : β → PE → Prop} {r : Res α} (h : SimR B η noX V lo π st r Q) : SimR B η noX V lo π st r.noexc Q := by
  cases r with
  | ok a st' => exact h
  | bad => exact h
  | exc c fs st' =>
    obtain ⟨_, _, _, q⟩ := h
    exact q.elim
theorem SimR.anyX {α β : Type} {V : Nat → Sto → PE → α → β → Prop} {Q : β → PE → Prop} {r : Res α} (h : SimR B η noX V lo π st r Q) : SimR B η X V lo π st r Q := by
  cases r with
  | ok a st' => exact h
  | bad => exact h
  | exc c fs st' =>
    obtain ⟨_, _, _, q⟩ := h
    exact q.elim
end
/-- values and how they stand -/
abbrev VE (B : Nat) : Nat → Sto → PE → D → Kd × D → Prop := fun lo st _ d kp => EV B lo st kp.1 d kp.2
theorem ve_mono {B : Nat} : Mono (VE B) := fun _ _ _ _ _ _ l h => h.lo l
/-- .. several; new ones are unlike -/
def VS (B : Nat) : Nat → Sto → List D → List (Kd × D) → Prop
  | _, _, [], [] => True
  | lo, st, d :: ds, kp :: rs => EV B lo st kp.1 d kp.2 ∧ (kp.1 = .fre → ∀ x ∈ ds.zip rs, x.2.1 = .fre → x.1 ≠ d) ∧ VS B lo st ds rs
  | _, _, _, _ => False
abbrev VS1 (B : Nat) : Nat → Sto → PE → List D → List (Kd × D) → Prop := fun lo st _ ds rs => VS B lo st ds rs
theorem vs_mono {B : Nat} : Mono (VS1 B) := fun lo lo' st _ ds rs l h => by
  induction ds generalizing rs with
  | nil =>
    cases rs with
    | nil => trivial
    | cons _ _ => exact h
  | cons d ds ih =>
    cases rs with
    | nil => exact h
    | cons kp rs => exact ⟨h.1.lo l, h.2.1, ih _ h.2.2⟩
def VP {α : Type} : Nat → Sto → PE → α → α → Prop := fun _ _ _ a b => a = b
def VK : Nat → Sto → PE → List (D × D) → List (D × D) → Prop := fun _ _ _ a b => a = b ∧ BelK b
theorem VS.vals {B lo : Nat} {st : Sto} : ∀ {ds : List D} {rs : List (Kd × D)}, VS B lo st ds rs → Vals st ds (rs.map (·.2))
  | [], [], _ => trivial
  | d :: ds, kp :: rs, h => ⟨h.1.val, h.2.2.vals⟩
  | [], _ :: _, h => h.elim
  | _ :: _, [], h => h.elim
theorem sto_eq {B lo : Nat} {st : Sto} {k : Kd} {d p : D} (h : EV B lo st k d p) (s : sto k p) : d = p := by
  cases k with
  | clo => exact h.1
  | _ => exact h.val.imm s
theorem VS.sto {B lo : Nat} {st : Sto} : ∀ {ds : List D} {rs : List (Kd × D)}, VS B lo st ds rs → stoL rs → ds = rs.map (·.2) ∧ Bel ds
  | [], [], _, _ => ⟨rfl, fun _ h => by cases h⟩
  | d :: ds, kp :: rs, h, s => by
    have e := sto_eq h.1 s.1
    obtain ⟨e2, b2⟩ := h.2.2.sto s.2
    refine ⟨by rw [List.map_cons, ← e, ← e2], fun x hx => ?_⟩
    rcases List.mem_cons.mp hx with z | z
    · rw [z, e]; exact h.1.bel
    · exact b2 x z
  | [], _ :: _, h, _ => h.elim
  | _ :: _, [], h, _ => h.elim
theorem VS.len {B lo : Nat} {st : Sto} : ∀ {ds : List D} {rs : List (Kd × D)}, VS B lo st ds rs → ds.length = rs.length
  | [], [], _ => rfl
  | d :: ds, kp :: rs, h => by rw [List.length_cons, List.length_cons, h.2.2.len]
  | [], _ :: _, h => h.elim
  | _ :: _, [], h => h.elim
theorem VS.fre {B lo : Nat} {st : Sto} : ∀ {ds : List D} {rs : List (Kd × D)}, VS B lo st ds rs → ∀ x ∈ ds.zip rs, x.2.1 = .fre → ∃ n, x.1 = .obj n ∧ lo ≤ n
  | [], [], _, x, hx, _ => by cases hx
  | d :: ds, kp :: rs, h, x, hx, e => by
    rw [List.zip_cons_cons] at hx
    rcases List.mem_cons.mp hx with z | z
    · subst z
      have v := h.1
      rw [show kp.1 = Kd.fre from e] at v
      obtain ⟨n, e1, l, _⟩ := v
      exact ⟨n, e1, l⟩
    · exact VS.fre h.2.2 x z e
  | [], _ :: _, h, _, _, _ => h.elim
  | _ :: _, [], h, _, _, _ => h.elim
theorem vs_clo {B lo : Nat} {st : Sto} {ds : List D} {rs : List (Kd × D)} : ∀ {xs : List D}, Bel xs → VS B lo st ds rs → VS B lo st (xs ++ ds) (xs.map (fun d => (Kd.clo, d)) ++ rs)
  | [], _, h => h
  | x :: xs, b, h => ⟨⟨rfl, b x (List.mem_cons_self ..)⟩, (fun z => by cases z), vs_clo (fun y hy => b y (List.mem_cons_of_mem _ hy)) h⟩
theorem resW_ok {α : Type} {r : Res α} {Q : α → Prop} (h : resW r Q) : ∃ a s, r = .ok a s ∧ Q a := by
  cases r with
  | ok a s => exact ⟨a, s, rfl, h⟩
  | exc _ _ _ => exact h.elim
  | bad => exact h.elim
theorem optW_ok {α : Type} {r : Option α} {Q : α → Prop} (h : optW r Q) : ∃ a, r = some a ∧ Q a := by
  cases r with
  | some a => exact ⟨a, rfl, h⟩
  | none => exact h.elim
theorem blW_ok {d : D} {Q : Bool → Prop} (h : blW d Q) : ∃ b, d = .bl b ∧ Q b := by
  cases d with
  | bl b => exact ⟨b, rfl, h⟩
  | _ => exact h.elim
theorem intW_ok {d : D} {Q : Int → Prop} (h : intW d Q) : ∃ b, d = .int b ∧ Q b := by
  cases d with
  | int b => exact ⟨b, rfl, h⟩
  | _ => exact h.elim
section
variable {B : Nat} {η : Env} {X : Xc} {π : PE} {st : Sto}
theorem Here.push (h : Here B η π st) {o : O} (b : belowO tt o = true) : GoodW B η π st π (o :: st) := by
  have same : ∀ n, n < st.length → Sto.get (o :: st) n = st.get n := fun n hn => by rw [get_push, if_neg (by omega)]
  refine ⟨⟨?_, ⟨h.rel.len, fun i k p e => ?_, h.rel.dis⟩, by simp; have := h.hB; omega, h.h2⟩, fun _ => rfl, by simp, fun n _ h2 _ => same n h2⟩
  · obtain ⟨top, b0, rfl, h1, h2⟩ := h.sto
    refine ⟨o :: top, b0, rfl, h1, fun n o' h3 e => ?_⟩
    rw [get_push] at e
    by_cases z : n = (top ++ bs b0).length
    · rw [if_pos z] at e
      cases e
      have := h.hB
      exact belowO_mono (by have := h.h2; rw [List.length_cons]; omega) b
    · rw [if_neg z] at e
      exact belowO_mono (by rw [List.length_cons]; omega) (h2 n o' h3 e)
  · obtain ⟨d, e1, v, hk⟩ := h.rel.slot i k p e
    refine ⟨d, e1, ?_, hk⟩
    rcases hk with rfl | rfl | rfl
    · exact v
    · exact ⟨v.1.same fun n _ _ hl => same n hl, v.2⟩
    · obtain ⟨n, e2, l, o2, b2⟩ := v
      exact ⟨n, e2, l, o2.same (same n o2.lt), b2⟩
theorem Here.put (h : Here B η π st) {i n : Nat} {p : D} {o : O} {q : D} (hi : π[i]? = some (some (.own, p))) (hn : η[i]? = some (some (.obj n))) (bo : belowO tt o = true) (bq : below tt q = true) (oq : ∀ st' : Sto, st'.get n = some o → 2 ≤ n → Obj st' n q) :
    GoodW B η π st (π.set i (some (.own, q))) (st.put n o) := by
  obtain ⟨d, e1, v, _⟩ := h.rel.slot i _ _ hi
  rw [hn] at e1
  cases e1
  obtain ⟨n', e2, l, on, _⟩ := v
  cases e2
  have hl : n < st.length := on.lt
  have other : ∀ m, m ≠ n → (st.put n o).get m = st.get m := fun m hm => by rw [get_put hl, if_neg hm]
  have self : (st.put n o).get n = some o := by rw [get_put hl, if_pos rfl]
  have li : i < π.length := by
    rcases Nat.lt_or_ge i π.length with z | z
    · exact z
    · rw [List.getElem?_eq_none z] at hi; cases hi
  have kinds : ∀ j, kdAt (π.set i (some (.own, q))) j = kdAt π j := fun j => by
    unfold kdAt
    by_cases z : j = i
    · subst z
      rw [List.getElem?_set_self li, hi]
    · rw [List.getElem?_set_ne (Ne.symm z)]
  refine ⟨⟨?_, ⟨by rw [List.length_set]; exact h.rel.len, fun j k r e => ?_, fun a b m ha hb => ?_⟩, by rw [put_length]; exact h.hB, h.h2⟩, kinds, by rw [put_length]; exact Nat.le_refl _, fun m _ _ hm => other m fun z => hm ⟨i, ⟨p, hi⟩, by rw [z]; exact hn⟩⟩
  · obtain ⟨top, b0, rfl, h1, h2⟩ := h.sto
    have l2 : 2 ≤ n := on.1
    rw [bs_len] at hl
    refine ⟨top.set (top.length + 1 - n) o, b0, ?_, h1, fun m o' h3 e => ?_⟩
    · unfold Sto.put
      rw [bs_len, List.set_append_left _ _ (by omega)]
      rfl
    · rw [put_length]
      rw [get_put (by rw [bs_len]; exact hl)] at e
      by_cases z : m = n
      · rw [if_pos z] at e
        cases e
        exact belowO_mono (Nat.le_trans h.h2 h.hB) bo
      · rw [if_neg z] at e
        exact h2 m o' h3 e
  · by_cases z : j = i
    · subst z
      rw [List.getElem?_set_self li] at e
      cases e
      exact ⟨.obj n, hn, ⟨n, rfl, l, oq _ self on.1, bq⟩, .inr (.inr rfl)⟩
    · rw [List.getElem?_set_ne (Ne.symm z)] at e
      obtain ⟨d, e1, v, hk⟩ := h.rel.slot j k r e
      refine ⟨d, e1, ?_, hk⟩
      rcases hk with rfl | rfl | rfl
      · exact v
      · exact ⟨v.1.same fun m em _ _ => other m fun zz => by have := v.2 m em; omega, v.2⟩
      · obtain ⟨m, e2, l2, o2, b2⟩ := v
        refine ⟨m, e2, l2, o2.same (other m fun zz => ?_), b2⟩
        subst zz
        subst e2
        exact z (h.rel.dis j i m ⟨⟨r, e⟩, e1⟩ ⟨⟨p, hi⟩, hn⟩)
  · have ha' : OwnAt η π a m := ⟨own_kd.mpr (by rw [← kinds a]; exact own_kd.mp ha.1), ha.2⟩
    have hb' : OwnAt η π b m := ⟨own_kd.mpr (by rw [← kinds b]; exact own_kd.mp hb.1), hb.2⟩
    exact h.rel.dis a b m ha' hb'
end
theorem get_mem {st : Sto} {x : O} (h : x ∈ st) : ∃ n, st.get n = some x := by
  obtain ⟨i, hi, e⟩ := List.getElem_of_mem h
  refine ⟨st.length - 1 - i, ?_⟩
  unfold Sto.get
  rw [if_pos (by omega), show st.length - 1 - (st.length - 1 - i) = i by omega, List.getElem?_eq_getElem hi, e]
theorem StoOk.all {st : Sto} (h : StoOk st) : st.all (belowO st.length) = true := by
  have l2 := h.two
  obtain ⟨top, b, e, _, h2⟩ := h
  rw [List.all_eq_true]
  intro x hx
  obtain ⟨n, hn⟩ := get_mem hx
  by_cases z : 2 ≤ n
  · exact h2 n x z hn
  · have hb : (bs b).all (belowO st.length) = true := bs_all (by omega)
    have : x ∈ bs b := by
      subst e
      unfold Sto.get at hn
      rw [bs_len, if_pos (by omega), List.getElem?_append_right (by omega)] at hn
      exact List.mem_of_getElem? hn
    exact List.all_eq_true.mp hb x this
/-- behind a call -/
structure After (st st' : Sto) : Prop where
  sto : StoOk st'
  le : st.length ≤ st'.length
  fr : ∀ n, 2 ≤ n → n < st.length → st'.get n = st.get n
def RV (lo : Nat) (st' : Sto) (k : Kd) (d p : D) : Prop := match k with
  | .clo => d = p ∧ below tt p = true
  | .fre => ∃ n, d = .obj n ∧ lo ≤ n ∧ Obj st' n p ∧ below tt p = true
  | .lse => Val st' d p
  | _ => False
theorem After.good {B : Nat} {η : Env} {π : PE} {st st' : Sto} (a : After st st') (h : Here B η π st) : GoodW B η π st π st' := by
  refine ⟨⟨a.sto, ⟨h.rel.len, fun i k p e => ?_, h.rel.dis⟩, Nat.le_trans h.hB a.le, h.h2⟩, fun _ => rfl, a.le, fun n h1 h2 _ => a.fr n h1 h2⟩
  obtain ⟨d, e1, v, hk⟩ := h.rel.slot i k p e
  refine ⟨d, e1, ?_, hk⟩
  rcases hk with rfl | rfl | rfl
  · exact v
  · exact ⟨v.1.same fun n _ h1 h2 => a.fr n h1 h2, v.2⟩
  · obtain ⟨n, e2, l, o2, b2⟩ := v
    exact ⟨n, e2, l, o2.same (a.fr n o2.1 o2.lt), b2⟩
theorem frz_after {st st' : Sto} {k : Kd} {d p : D} (s0 : StoOk st) (a : After st st') (h2 : tt ≤ st.length) (v : RV st.length st' k d p) : ∃ d' st'', frz st.length d st' = .ok d' st'' ∧ After st st'' ∧ RV st.length st'' (clzK k) d' p ∧ clzK k ≠ .fre := by
  have lt : ∀ {n : Nat} {q : D}, Obj st' n q → n < st'.length := fun o => o.lt
  by_cases hl : st'.length = st.length
  · refine ⟨d, st', by unfold frz; rw [if_pos hl], a, ?_, ?_⟩
    · cases k with
      | fre => obtain ⟨n, _, l, o, _⟩ := v; have := o.lt; omega
      | _ => exact v
    · cases k with
      | fre => obtain ⟨n, _, l, o, _⟩ := v; have := o.lt; omega
      | _ => exact fun z => by cases z
  · have len : (st'.drop (st'.length - st.length)).length = st.length := by
      rw [List.length_drop]
      have := a.le
      omega
    have frd : ∀ n, 2 ≤ n → n < st.length → Sto.get (st'.drop (st'.length - st.length)) n = st.get n := fun n h1 h3 => by
      rw [get_drop a.le, if_pos h3]
      exact a.fr n h1 h3
    have sd : StoOk (st'.drop (st'.length - st.length)) := by
      obtain ⟨top, b, e, h1, _⟩ := a.sto
      refine ⟨top.drop (top.length + 2 - st.length), b, ?_, h1, fun n o h3 e2 => ?_⟩
      · have l1 := a.le
        have l2 : 2 ≤ st.length := Nat.le_trans T.two h2
        rw [e, bs_len] at l1 ⊢
        rw [List.drop_append_of_le_length (by omega)]
      · rw [len]
        obtain ⟨_, _, _, _, k2⟩ := s0
        have hn : n < st.length := by
          have := get_lt e2
          rwa [len] at this
        rw [frd n h3 hn] at e2
        exact k2 n o h3 e2
    have dr : (st'.drop (st'.length - st.length)).all (belowO st.length) = true := by
      have := sd.all
      rwa [len] at this
    have aft : After st (st'.drop (st'.length - st.length)) := ⟨sd, by rw [len]; exact Nat.le_refl _, frd⟩
    have main : ∀ e, clos st' st.length d = some e → frz st.length d st' = .ok e (st'.drop (st'.length - st.length)) := fun e he => by
      unfold frz
      rw [if_neg hl, if_pos dr, he]
    have closed : below tt d = true → clos st' st.length d = some d := fun h => by
      unfold clos
      rw [if_pos (below_mono h2 h)]
    have atObj : ∀ n, Obj st' n p → below tt p = true → st.length ≤ n → clos st' st.length (.obj n) = some p := fun n o b l => by
      unfold clos
      rw [if_neg (by simp only [below, decide_eq_true_eq]; omega)]
      obtain ⟨_, ⟨xs, e1, rfl⟩ | ⟨xs, e1, rfl⟩⟩ := o
      · simp only [e1]
        rw [if_pos ⟨l, belows_mono h2 (by simpa [below] using b)⟩]
      · simp only [e1]
        rw [if_pos ⟨l, belowk_mono h2 (by simpa [below] using b)⟩]
    cases k with
    | clo =>
      obtain ⟨rfl, b⟩ := v
      exact ⟨d, _, main _ (closed b), aft, ⟨rfl, b⟩, fun z => by cases z⟩
    | fre =>
      obtain ⟨n, rfl, l, o, b⟩ := v
      exact ⟨p, _, main _ (atObj n o b l), aft, ⟨rfl, b⟩, fun z => by cases z⟩
    | lse =>
      obtain ⟨b, rfl | ⟨n, rfl, o⟩⟩ := v
      · exact ⟨d, _, main _ (closed b), aft, ⟨b, .inl rfl⟩, fun z => by cases z⟩
      · by_cases l : st.length ≤ n
        · exact ⟨p, _, main _ (atObj n o b l), aft, ⟨b, .inl rfl⟩, fun z => by cases z⟩
        · refine ⟨.obj n, _, main _ ?_, aft, ⟨b, .inr ⟨n, rfl, o.same ?_⟩⟩, fun z => by cases z⟩
          · unfold clos
            rw [if_pos (by simp only [below, decide_eq_true_eq]; omega)]
          · rw [get_drop a.le, if_pos (by omega)]
    | bor => exact v.elim
    | own => exact v.elim
end Dv
namespace Dv
open PySem (Str)
variable [T : Thr]
section
variable {B : Nat} {η η1 η2 : Env} {π π1 π2 : PE} {st : Sto}
theorem Here.setClo (h : Here B η π st) {d : D} (b : below tt d = true) (i : Nat) : Here B (η.set i (some d)) (π.set i (some (.clo, d))) st := by
  refine ⟨h.sto, ⟨by rw [List.length_set, List.length_set]; exact h.rel.len, fun j k p e => ?_, fun a c n ha hc => ?_⟩, h.hB, h.h2⟩
  · by_cases z : i = j
    · subst z
      have li : i < π.length := by
        rcases Nat.lt_or_ge i (π.set i (some (.clo, d))).length with q | q
        · simpa using q
        · rw [List.getElem?_eq_none q] at e; cases e
      rw [List.getElem?_set_self li] at e
      cases e
      exact ⟨d, List.getElem?_set_self (by rw [h.rel.len]; exact li), ⟨rfl, b⟩, .inl rfl⟩
    · rw [List.getElem?_set_ne z] at e ⊢
      exact h.rel.slot j k p e
  · have key : ∀ a, OwnAt (η.set i (some d)) (π.set i (some (.clo, d))) a n → OwnAt η π a n := fun a ha => by
      obtain ⟨⟨p, e⟩, e2⟩ := ha
      by_cases z : i = a
      · subst z
        have li : i < π.length := by
          rcases Nat.lt_or_ge i (π.set i (some (.clo, d))).length with q | q
          · simpa using q
          · rw [List.getElem?_eq_none q] at e; cases e
        rw [List.getElem?_set_self li] at e
        cases e
      · rw [List.getElem?_set_ne z] at e e2
        exact ⟨⟨p, e⟩, e2⟩
    exact h.rel.dis a c n (key a ha) (key c hc)
theorem Here.setNone (h : Here B η π st) (i : Nat) : Here B (η.set i none) (π.set i none) st := by
  refine ⟨h.sto, ⟨by rw [List.length_set, List.length_set]; exact h.rel.len, fun j k p e => ?_, fun a c n ha hc => ?_⟩, h.hB, h.h2⟩
  · by_cases z : i = j
    · subst z
      rw [List.getElem?_set] at e
      simp at e
    · rw [List.getElem?_set_ne z] at e ⊢
      exact h.rel.slot j k p e
  · have key : ∀ a, OwnAt (η.set i none) (π.set i none) a n → OwnAt η π a n := fun a ha => by
      obtain ⟨⟨p, e⟩, e2⟩ := ha
      by_cases z : i = a
      · subst z
        rw [List.getElem?_set] at e
        simp at e
      · rw [List.getElem?_set_ne z] at e e2
        exact ⟨⟨p, e⟩, e2⟩
    exact h.rel.dis a c n (key a ha) (key c hc)
/-- names of an inner scope: those of N bound anew, the others as they were -/
structure Inner (N : List Nat) (η : Env) (π : PE) (η' : Env) (π' : PE) : Prop where
  len : π'.length = π.length
  out : ∀ (j : Nat), j ∉ N → η'[j]? = η[j]? ∧ π'[j]? = π[j]?
  no : ∀ (j n : Nat), OwnAt η' π' j n → j ∉ N
theorem Inner.trans {N M : List Nat} (a : Inner N η π η1 π1) (b : Inner M η1 π1 η2 π2) (s : ∀ j ∈ M, j ∈ N) : Inner N η π η2 π2 := by
  refine ⟨b.len.trans a.len, fun j hj => ?_, fun j n o hj => ?_⟩
  · obtain ⟨x1, x2⟩ := b.out j fun z => hj (s j z)
    obtain ⟨y1, y2⟩ := a.out j hj
    exact ⟨x1.trans y1, x2.trans y2⟩
  · by_cases z : j ∈ M
    · exact b.no j n o z
    · obtain ⟨x1, x2⟩ := b.out j z
      obtain ⟨⟨p, e⟩, e2⟩ := o
      exact a.no j n ⟨⟨p, by rw [← x2]; exact e⟩, by rw [← x1]; exact e2⟩ hj
theorem inner_set (h : Here B η π st) {i : Nat} {x : Option D} {y : Option (Kd × D)} (hy : ∀ p, y ≠ some (.own, p)) : Inner [i] η π (η.set i x) (π.set i y) := by
  refine ⟨by rw [List.length_set], fun j hj => ?_, fun j n o hj => ?_⟩
  · have z : i ≠ j := fun z => hj (by rw [z]; exact List.mem_singleton.mpr rfl)
    exact ⟨List.getElem?_set_ne z, List.getElem?_set_ne z⟩
  · have z := List.mem_singleton.mp hj
    subst z
    obtain ⟨⟨p, e⟩, _⟩ := o
    rw [List.getElem?_set] at e
    simp at e
    exact hy p e.2
theorem inner_nil : Inner [] η π η π := ⟨rfl, fun _ _ => ⟨rfl, rfl⟩, fun _ _ _ h => by cases h⟩
theorem wipe_here (h : Here B η π st) : ∀ N : List Nat, Here B (wipeE η N) (wipeW π N) st ∧ Inner N η π (wipeE η N) (wipeW π N)
  | [] => ⟨h, inner_nil⟩
  | i :: N => by
    obtain ⟨h1, i1⟩ := wipe_here h N
    refine ⟨h1.setNone i, ?_⟩
    have i2 := inner_set (x := none) (y := none) h1 (i := i) (fun p z => by cases z)
    refine ⟨i2.len.trans i1.len, fun j hj => ?_, fun j n o hj => ?_⟩
    · obtain ⟨x1, x2⟩ := i2.out j fun z => hj (by rw [List.mem_singleton.mp z]; exact List.mem_cons_self ..)
      obtain ⟨y1, y2⟩ := i1.out j fun z => hj (List.mem_cons_of_mem _ z)
      exact ⟨x1.trans y1, x2.trans y2⟩
    · by_cases z : j ∈ [i]
      · exact i2.no j n o z
      · obtain ⟨x1, x2⟩ := i2.out j z
        obtain ⟨⟨p, e⟩, e2⟩ := o
        refine i1.no j n ⟨⟨p, by rw [← x2]; exact e⟩, by rw [← x1]; exact e2⟩ ?_
        rcases List.mem_cons.mp hj with w | w
        · exact absurd (by rw [w]; exact List.mem_singleton.mpr rfl) z
        · exact w
end
mutual
theorem bind_here {B : Nat} {st : Sto} : ∀ (t : Tgt) {d : D} {η : Env} {π π' : PE}, Here B η π st → below tt d = true → bindW t d π = some π' → ∃ η', bindT t d η = some η' ∧ Here B η' π' st ∧ Inner (tgN t) η π η' π'
  | .nm i, d, η, π, π', h, b, e => by
    simp only [bindW] at e
    cases e
    exact ⟨η.set i (some d), by simp only [bindT], h.setClo b i, by simp only [tgN]; exact inner_set h fun p z => by cases z⟩
  | .tp ts, d, η, π, π', h, b, e => by
    cases d with
    | tup ds =>
      simp only [bindW] at e
      obtain ⟨η', e1, h1, i1⟩ := binds_here ts h (below_tup.mp b) e
      exact ⟨η', by simp only [bindT]; exact e1, h1, by simp only [tgN]; exact i1⟩
    | _ => simp only [bindW] at e; cases e
theorem binds_here {B : Nat} {st : Sto} : ∀ (ts : List Tgt) {ds : List D} {η : Env} {π π' : PE}, Here B η π st → Bel ds → bindWs ts ds π = some π' → ∃ η', bindTs ts ds η = some η' ∧ Here B η' π' st ∧ Inner (tgNs ts) η π η' π'
  | [], ds, η, π, π', h, b, e => by
    cases ds with
    | nil =>
      simp only [bindWs] at e
      cases e
      exact ⟨η, by simp only [bindTs], h, by simp only [tgNs]; exact inner_nil⟩
    | cons d ds => simp only [bindWs] at e; cases e
  | t :: ts, ds, η, π, π', h, b, e => by
    cases ds with
    | nil => simp only [bindWs] at e; cases e
    | cons d ds =>
      simp only [bindWs] at e
      obtain ⟨π1, e1, e2⟩ := Option.bind_eq_some_iff.mp e
      obtain ⟨η1, f1, h1, i1⟩ := bind_here t h (b d (List.mem_cons_self ..)) e1
      obtain ⟨η2, f2, h2, i2⟩ := binds_here ts h1 (fun x hx => b x (List.mem_cons_of_mem _ hx)) e2
      refine ⟨η2, by simp only [bindTs]; rw [f1]; exact f2, h2, ?_⟩
      simp only [tgNs]
      refine ⟨i2.len.trans i1.len, fun j hj => ?_, fun j n o hj => ?_⟩
      · obtain ⟨x1, x2⟩ := i2.out j fun z => hj (List.mem_append_right _ z)
        obtain ⟨y1, y2⟩ := i1.out j fun z => hj (List.mem_append_left _ z)
        exact ⟨x1.trans y1, x2.trans y2⟩
      · by_cases z : j ∈ tgNs ts
        · exact i2.no j n o z
        · obtain ⟨x1, x2⟩ := i2.out j z
          obtain ⟨⟨p, e⟩, e2⟩ := o
          refine i1.no j n ⟨⟨p, by rw [← x2]; exact e⟩, by rw [← x1]; exact e2⟩ ?_
          rcases List.mem_append.mp hj with w | w
          · exact w
          · exact absurd w z
end
section
variable {B : Nat} {η η1 η2 : Env} {π π1 π5 : PE} {st st5 : Sto}
theorem back_len (π : PE) : ∀ (N : List Nat) (π' : PE), (back π N π').length = π'.length
  | [], _ => rfl
  | v :: vs, π' => by
    show ((back π vs π').set v _).length = _
    rw [List.length_set, back_len π vs]
theorem back_get {π π' : PE} (hl : π'.length = π.length) : ∀ (N : List Nat) (j : Nat), (back π N π')[j]? = if j ∈ N then π[j]? else π'[j]?
  | [], j => by simp [back]
  | v :: vs, j => by
    have ih := back_get hl vs j
    show ((back π vs π').set v (match π[v]? with | some s => s | none => none))[j]? = _
    by_cases z : v = j
    · subst z
      rw [if_pos (List.mem_cons_self ..)]
      by_cases hv : v < π.length
      · rw [List.getElem?_set_self (by rw [back_len]; omega)]
        have : π[v]? = some π[v] := by simp [hv]
        rw [this]
      · rw [List.getElem?_eq_none (by rw [List.length_set, back_len]; omega), List.getElem?_eq_none (by omega)]
    · rw [List.getElem?_set_ne z, ih]
      by_cases w : j ∈ vs
      · rw [if_pos w, if_pos (List.mem_cons_of_mem _ w)]
      · rw [if_neg w, if_neg (fun q => (List.mem_cons.mp q).elim (fun q => z q.symm) w)]
theorem back_good (h : Here B η π st) (h1 : Here B η1 π1 st) {N : List Nat} (i : Inner N η π η1 π1) (g : GoodW B η1 π1 st π5 st5) : GoodW B η π st (back π N π5) st5 := by
  have l5 : π5.length = π.length := by
    rw [← g.here.rel.len, h1.rel.len, i.len]
  have kinds : ∀ j, kdAt (back π N π5) j = kdAt π j := fun j => by
    by_cases z : j ∈ N
    · unfold kdAt
      rw [back_get l5, if_pos z]
    · have e1 : kdAt (back π N π5) j = kdAt π5 j := by
        unfold kdAt
        rw [back_get l5, if_neg z]
      have e2 : kdAt π1 j = kdAt π j := by
        unfold kdAt
        rw [(i.out j z).2]
      rw [e1, g.kinds j, e2]
  have down : ∀ j n, OwnAt η1 π1 j n → OwnAt η π j n := fun j n o => by
    have z := i.no j n o
    obtain ⟨x1, x2⟩ := i.out j z
    obtain ⟨⟨p, e⟩, e2⟩ := o
    exact ⟨⟨p, by rw [← x2]; exact e⟩, by rw [← x1]; exact e2⟩
  refine ⟨⟨g.here.sto, ⟨by rw [back_len, l5]; exact h.rel.len, fun j k p e => ?_, fun a c n ha hc => ?_⟩, g.here.hB, h.h2⟩, kinds, g.le, fun n h2 hl ho => g.fr n h2 hl fun ⟨j, o⟩ => ho ⟨j, down j n o⟩⟩
  · rw [back_get l5] at e
    by_cases z : j ∈ N
    · rw [if_pos z] at e
      obtain ⟨d, e1, v, hk⟩ := h.rel.slot j k p e
      refine ⟨d, e1, ?_, hk⟩
      rcases hk with rfl | rfl | rfl
      · exact v
      · exact ⟨v.1.same fun n en h2 hl => g.fr n h2 hl fun o => absurd (v.2 n en) (Nat.not_lt.mpr (h1.rel.own_lt o).1), v.2⟩
      · obtain ⟨n, en, l, o, b⟩ := v
        refine ⟨n, en, l, o.same (g.fr n o.1 o.lt ?_), b⟩
        rintro ⟨j', o'⟩
        subst en
        have := h.rel.dis j j' n ⟨⟨p, e⟩, e1⟩ (down j' n o')
        subst this
        exact i.no j n o' z
    · rw [if_neg z] at e
      obtain ⟨d, e1, v, hk⟩ := g.here.rel.slot j k p e
      exact ⟨d, by rw [← (i.out j z).1]; exact e1, v, hk⟩
  · have key : ∀ a, OwnAt η (back π N π5) a n → OwnAt η π a n := fun a ha => ⟨own_kd.mpr (by rw [← kinds a]; exact own_kd.mp ha.1), ha.2⟩
    exact h.rel.dis a c n (key a ha) (key c hc)
end
mutual
theorem wsame_refl : ∀ d : D, same d d = true
  | .non => by simp [same]
  | .bl b => by simp [same]
  | .int b => by simp [same]
  | .str b => by simp [same]
  | .tup xs => by simp only [same]; exact wsames_refl xs
  | .lst xs => by simp only [same]; exact wsames_refl xs
  | .dct xs => by simp only [same]; exact wsamek_refl xs
  | .ins c xs => by simp only [same]; rw [wsamef_refl xs]; simp
  | .obj n => by simp [same]
  | .scr n => by simp [same]
theorem wsames_refl : ∀ d : List D, sames d d = true
  | [] => by simp [sames]
  | x :: xs => by simp only [sames]; rw [wsame_refl x, wsames_refl xs]; rfl
theorem wsamek_refl : ∀ d : List (D × D), samek d d = true
  | [] => by simp [samek]
  | (k, v) :: xs => by simp only [samek]; rw [wsame_refl k, wsame_refl v, wsamek_refl xs]; rfl
theorem wsamef_refl : ∀ d : List (Str × D), samef d d = true
  | [] => by simp [samef]
  | (k, v) :: xs => by simp only [samef]; rw [wsame_refl v, wsamef_refl xs]; simp
end
theorem sameO_refl (o : O) : sameO o o = true := by
  cases o with
  | lst xs => exact wsames_refl xs
  | dct xs => exact wsamek_refl xs
  | ins c xs => simp only [sameO]; rw [wsamef_refl xs]; simp
def GV (B : Nat) (η : Env) (π : PE) (st : Sto) (js : List Nat) (gs : Guards) : Prop :=
  ∀ (η' : Env) (π' : PE) (st' : Sto), (∀ (j : Nat), j ∈ js → η'[j]? = η[j]?) → RelW B η' st' π' → stayG js π π' → (∀ n, 2 ≤ n → n < B → st'.get n = st.get n) → guardOk st' gs = true
section
variable {B : Nat} {η : Env} {π : PE} {st : Sto}
theorem gv_nil : GV B η π st [] [] := fun _ _ _ _ _ _ _ => rfl
theorem stayG_app {js ks : List Nat} {π' : PE} : stayG (js ++ ks) π π' ↔ stayG js π π' ∧ stayG ks π π' := by
  induction js with
  | nil => exact ⟨fun h => ⟨trivial, h⟩, fun h => h.2⟩
  | cons j js ih => exact ⟨fun h => ⟨⟨h.1, (ih.mp h.2).1⟩, (ih.mp h.2).2⟩, fun h => ⟨h.1.1, ih.mpr ⟨h.1.2, h.2⟩⟩⟩
theorem wguard_app {gs hs : Guards} : guardOk st (gs ++ hs) = true ↔ guardOk st gs = true ∧ guardOk st hs = true := by
  unfold guardOk
  rw [List.all_append, Bool.and_eq_true]
theorem gv_app {js ks : List Nat} {gs hs : Guards} (a : GV B η π st js gs) (b : GV B η π st ks hs) : GV B η π st (js ++ ks) (gs ++ hs) := fun η' π' st' he r s f =>
  wguard_app.mpr ⟨a η' π' st' (fun j hj => he j (List.mem_append_left _ hj)) r (stayG_app.mp s).1 f, b η' π' st' (fun j hj => he j (List.mem_append_right _ hj)) r (stayG_app.mp s).2 f⟩
theorem guard_one {st' : Sto} {n : Nat} {o : O} (h : st'.get n = some o) : guardOk st' [(n, o)] = true := by
  unfold guardOk
  simp [h, sameO_refl]
theorem gv_obj {js : List Nat} {n : Nat} (h : ∀ (η' : Env) (π' : PE) (st' : Sto), (∀ (j : Nat), j ∈ js → η'[j]? = η[j]?) → RelW B η' st' π' → stayG js π π' → (∀ n, 2 ≤ n → n < B → st'.get n = st.get n) → st'.get n = st.get n) : GV B η π st js (guardOf st (.obj n)) := fun η' π' st' he r s f => by
  have e := h η' π' st' he r s f
  show guardOk st' (match st.get n with
    | some o => [(n, o)]
    | none => []) = true
  cases g : st.get n with
  | none => exact rfl
  | some o =>
    rw [g] at e
    exact guard_one e
/-- what a value that is walked must keep -/
def WF (η : Env) (π : PE) (js : List Nat) (k : Kd) (d p : D) : Prop := (js = [] ∧ (k = .clo ∨ k = .bor)) ∨ (k = .own ∧ ∃ j : Nat, js = [j] ∧ η[j]? = some (some d) ∧ π[j]? = some (some (.own, p)))
def VG (B : Nat) (η : Env) : Nat → Sto → PE → D → List Nat × Kd × D → Prop := fun lo st π d b => EV B lo st b.2.1 d b.2.2 ∧ WF η π b.1 b.2.1 d b.2.2
theorem closed_guard {x p : D} (nt : isTok p = false) (z : x = p) : guardOf st x = [] := by
  rw [z]
  cases p <;> first | rfl | cases nt
theorem gv_fin {lo : Nat} {js : List Nat} {k : Kd} {x p : D} (v : EV B lo st k x p) (w : WF η π js k x p) (nt : isTok p = false) : GV B η π st js (guardOf st x) := by
  rcases w with ⟨rfl, rfl | rfl⟩ | ⟨rfl, j, rfl, e1, hp⟩
  · rw [closed_guard nt v.1]; exact gv_nil
  · obtain ⟨⟨b, z | ⟨n, rfl, o⟩⟩, hn⟩ := v
    · rw [closed_guard nt z]; exact gv_nil
    · exact gv_obj fun η' π' st' _ _ _ f => f n o.1 (hn n rfl)
  · obtain ⟨n, rfl, l, o, b⟩ := v
    refine gv_obj fun η' π' st' he r s f => ?_
    obtain ⟨s1, _⟩ := s
    rw [hp] at s1
    obtain ⟨d', e2, v', _⟩ := r.slot j _ _ s1
    rw [he j (List.mem_singleton.mpr rfl), e1] at e2
    cases e2
    obtain ⟨m, e3, _, o', _⟩ := v'
    cases e3
    obtain ⟨_, ⟨xs, q1, q2⟩ | ⟨xs, q1, q2⟩⟩ := o <;> obtain ⟨_, ⟨ys, q3, q4⟩ | ⟨ys, q3, q4⟩⟩ := o' <;> rw [q2] at q4 <;> cases q4
    · rw [q1, q3]
    · rw [q1, q3]
theorem WF.stays {π1 π2 : PE} {js : List Nat} {k : Kd} {d p : D} (w : WF η π1 js k d p) (s : stay k π1 π2) : WF η π2 js k d p := by
  rcases w with w | ⟨rfl, j, rfl, e1, hp⟩
  · exact .inl w
  · have s : π1 = π2 := s
    subst s
    exact .inr ⟨rfl, j, rfl, e1, hp⟩
theorem walk_sim {C : Cst} {W : CW} {X : Xc} {e : Ex} {Q' : List Nat → Kd → D → PE → Prop} (h0 : Here B η π st) (H : ∀ Q, evalW W X e π Q → SimR B η X (VE B) st.length π st (evalE C e η st) (fun kp π' => Q kp.1 kp.2 π'))
    (h : evalW W X e π fun k x π1 => gdW k e fun js => Q' js k x π1) : SimR B η X (VG B η) st.length π st (evalE C e η st) fun b π' => Q' b.1 b.2.1 b.2.2 π' := by
  by_cases hv : ∃ j, e = .var j
  · obtain ⟨j, rfl⟩ := hv
    simp only [evalW] at h
    split at h
    · rename_i k p hp
      obtain ⟨d, e1, v, hk⟩ := h0.rel.slot j k p hp
      have ev : evalE C (.var j) η st = .ok d st := by simp only [evalE, e1]
      rw [ev]
      rcases hk with rfl | rfl | rfl
      · exact .ret (b := ([], .clo, p)) h0 ⟨v, .inl ⟨rfl, .inl rfl⟩⟩ h
      · exact .ret (b := ([], .bor, p)) h0 ⟨v, .inl ⟨rfl, .inr rfl⟩⟩ h
      · exact .ret (b := ([j], .own, p)) h0 ⟨v, .inr ⟨rfl, j, rfl, e1, hp⟩⟩ h
    · exact h.elim
  · have z := H _ h
    cases r : evalE C e η st with
    | bad => rw [r] at z; exact z
    | exc c fs st' => rw [r] at z; exact z
    | ok d st' =>
      rw [r] at z
      obtain ⟨⟨k, p⟩, π', g, v, q⟩ := z
      cases k with
      | clo => exact ⟨([], .clo, p), π', g, ⟨v, .inl ⟨rfl, .inl rfl⟩⟩, q⟩
      | bor => exact ⟨([], .bor, p), π', g, ⟨v, .inl ⟨rfl, .inr rfl⟩⟩, q⟩
      | own =>
        exfalso
        cases e with
        | var j => exact hv ⟨j, rfl⟩
        | _ => exact q.elim
      | lse => exact q.elim
      | fre => exact q.elim
end
end Dv
namespace Dv
open PySem (Str)
variable [T : Thr]
def Args (st : Sto) : List (Kd × D) → List D → Prop
  | [], [] => True
  | kp :: as, d :: ds => (match kp.1 with
    | .clo => d = kp.2 ∧ below tt kp.2 = true
    | .bor => Val st d kp.2
    | _ => False) ∧ Args st as ds
  | _, _ => False
def Sound (g : List D → Sto → Res D) (w : CallW) : Prop := ∀ [T : Thr] (as : List (Kd × D)) (ds : List D) (st : Sto) (X : Nat → List (Str × D) → Prop) (Q : Kd → D → Prop), w as X Q → StoOk st → tt ≤ st.length → Args st as ds → match g ds st with
  | .ok d st' => ∃ k p, After st st' ∧ RV st.length st' k d p ∧ Q k p
  | .exc c fs st' => After st st' ∧ belowf tt fs = true ∧ X c fs
  | .bad => False
structure SoundC (C : Cst) (W : CW) : Prop where
  glbs : C.glbs = W.glbs
  bel : ∀ x ∈ C.glbs, below 2 x = true
  call : ∀ f, Sound (C.call f) (W.call f)
theorem args_of {B lo : Nat} {st : Sto} : ∀ {ds : List D} {rs : List (Kd × D)}, VS B lo st ds rs → Args st (rs.map fun p => (argK p.1 p.2, p.2)) ds
  | [], [], _ => trivial
  | d :: ds, (k, p) :: rs, h => by
    refine ⟨?_, args_of h.2.2⟩
    have v : Val st d p := h.1.val
    have gen : (match (if imm p then Kd.clo else .bor) with
      | .clo => d = p ∧ below tt p = true
      | .bor => Val st d p
      | _ => False) := by
      cases i : imm p with
      | true => exact ⟨v.imm i, v.1⟩
      | false => exact v
    cases k with
    | clo => exact h.1
    | _ => exact gen
  | [], _ :: _, h => h.elim
  | _ :: _, [], h => h.elim
theorem EV.ch {B lo lo' : Nat} {st : Sto} {k : Kd} {d p : D} (h : EV B lo st k d p) (hk : k = .clo ∨ k = .bor ∨ k = .own) : EV B lo' st k d p := by
  rcases hk with rfl | rfl | rfl <;> exact h
section
variable {B : Nat} {η η1 : Env} {X : Xc} {π π1 : PE} {st : Sto}
theorem GoodW.low {π' : PE} {st' : Sto} (g : GoodW B η π st π' st') (h : Here B η π st) : ∀ n, 2 ≤ n → n < B → st'.get n = st.get n := fun n h2 hl =>
  g.fr n h2 (Nat.lt_of_lt_of_le hl h.hB) fun o => absurd hl (Nat.not_lt.mpr (h.rel.own_lt o).1)
theorem SimR.back {α β : Type} {V : α → β → Prop} {N : List Nat} {r : Res α} {Q : β → PE → Prop} (h : Here B η π st) (h1 : Here B η1 π1 st) (i : Inner N η π η1 π1)
    (z : SimR B η1 noX (fun _ _ _ a b => V a b) 0 π1 st r fun b π5 => Q b (Dv.back π N π5)) : SimR B η noX (fun _ _ _ a b => V a b) 0 π st r Q := by
  cases r with
  | bad => exact z
  | exc c fs st' =>
    obtain ⟨_, _, _, q⟩ := z
    exact q.elim
  | ok a st' =>
    obtain ⟨b, π5, g, v, q⟩ := z
    exact ⟨b, _, back_good h h1 i g, v, q⟩
abbrev VL' : Nat → Sto → PE → List D → List D → Prop := fun _ _ _ a b => a = b ∧ Bel b
abbrev VK' : Nat → Sto → PE → List (D × D) → List (D × D) → Prop := fun _ _ _ a b => a = b ∧ BelK b
theorem comp_sim {π0 : PE} {st0 : Sto} {js : List Nat} {gs : Guards} (gv : GV B η π0 st0 js gs) {f : D → Sto → Res (List D)} {fW : D → PE → (List D → PE → Prop) → Prop}
    (hf : ∀ (d : D) (π : PE) (st : Sto) (K : List D → PE → Prop), Here B η π st → below tt d = true → fW d π K → SimR B η noX VL' 0 π st (f d st) K) :
    ∀ (ds : List D) (π : PE) (st : Sto) (Q : List D → PE → Prop), Here B η π st → Bel ds → (∀ n, 2 ≤ n → n < B → st.get n = st0.get n) → compW fW (stayG js π0) ds π Q → SimR B η X VL' 0 π st (compL f gs ds st) Q
  | [], π, st, Q, h, _, _, q => .ret h ⟨rfl, fun _ hx => by cases hx⟩ q
  | d :: ds, π, st, Q, h, b, fr, q => by
    have z := (hf d π st _ h (b d (List.mem_cons_self ..)) q).anyX (X := X)
    show SimR B η X VL' 0 π st ((f d st).bind fun r st1 => if guardOk st1 gs then (compL f gs ds st1).bind fun rs st2 => .ok (r ++ rs) st2 else .bad) Q
    refine SimR.bind z fun r st1 r' π1 g v q1 => ?_
    have fr1 : ∀ n, 2 ≤ n → n < B → st1.get n = st0.get n := fun n h2 hl => (g.low h n h2 hl).trans (fr n h2 hl)
    rw [if_pos (gv η π1 st1 (fun _ _ => rfl) g.here.rel q1.1 fr1)]
    refine SimR.bind (comp_sim gv hf ds π1 st1 _ g.here (fun x hx => b x (List.mem_cons_of_mem _ hx)) fr1 q1.2) fun rs st2 rs' π2 g2 v2 q2 => ?_
    exact .ret g2.here ⟨by rw [v.1, v2.1], bel_app v.2 v2.2⟩ q2
theorem belk_app {xs ys : List (D × D)} (h1 : BelK xs) (h2 : BelK ys) : BelK (xs ++ ys) := fun x hx => (List.mem_append.mp hx).elim (h1 x) (h2 x)
theorem compK_sim {π0 : PE} {st0 : Sto} {js : List Nat} {gs : Guards} (gv : GV B η π0 st0 js gs) {f : D → Sto → Res (List (D × D))} {fW : D → PE → (List (D × D) → PE → Prop) → Prop}
    (hf : ∀ (d : D) (π : PE) (st : Sto) (K : List (D × D) → PE → Prop), Here B η π st → below tt d = true → fW d π K → SimR B η noX VK' 0 π st (f d st) K) :
    ∀ (ds : List D) (π : PE) (st : Sto) (Q : List (D × D) → PE → Prop), Here B η π st → Bel ds → (∀ n, 2 ≤ n → n < B → st.get n = st0.get n) → compKW fW (stayG js π0) ds π Q → SimR B η X VK' 0 π st (compK f gs ds st) Q
  | [], π, st, Q, h, _, _, q => .ret h ⟨rfl, fun _ hx => by cases hx⟩ q
  | d :: ds, π, st, Q, h, b, fr, q => by
    have z := (hf d π st _ h (b d (List.mem_cons_self ..)) q).anyX (X := X)
    show SimR B η X VK' 0 π st ((f d st).bind fun r st1 => if guardOk st1 gs then (compK f gs ds st1).bind fun rs st2 => .ok (r ++ rs) st2 else .bad) Q
    refine SimR.bind z fun r st1 r' π1 g v q1 => ?_
    have fr1 : ∀ n, 2 ≤ n → n < B → st1.get n = st0.get n := fun n h2 hl => (g.low h n h2 hl).trans (fr n h2 hl)
    rw [if_pos (gv η π1 st1 (fun _ _ => rfl) g.here.rel q1.1 fr1)]
    refine SimR.bind (compK_sim gv hf ds π1 st1 _ g.here (fun x hx => b x (List.mem_cons_of_mem _ hx)) fr1 q1.2) fun rs st2 rs' π2 g2 v2 q2 => ?_
    exact .ret g2.here ⟨by rw [v.1, v2.1], belk_app v.2 v2.2⟩ q2
/-- an element's scope -/
theorem elt_scope {d : D} {tg : Tgt} {own : List Nat} {π3 : PE} (h : Here B η π st) (b : below tt d = true) (s : subN (tgN tg) own = true) (e : bindW tg d (wipeW π own) = some π3) :
    ∃ η1, bindT tg d (wipeE η own) = some η1 ∧ Here B η1 π3 st ∧ Inner own η π η1 π3 := by
  obtain ⟨h1, i1⟩ := wipe_here h own
  obtain ⟨η1, e1, h2, i2⟩ := bind_here tg h1 b e
  refine ⟨η1, e1, h2, i1.trans i2 fun j hj => ?_⟩
  unfold subN at s
  rw [List.all_eq_true] at s
  simpa using s j hj
end
theorem bel_rng : ∀ (n : Nat) (lo : Int), Bel (rngL lo n)
  | 0, _ => fun x hx => by cases hx
  | n + 1, lo => fun x hx => by
    rcases List.mem_cons.mp hx with z | z
    · rw [z]; rfl
    · exact bel_rng n _ x z
theorem bel_enum : ∀ (ds : List D) (k : Nat), Bel ds → Bel (enumL k ds)
  | [], _, _ => fun x hx => by cases hx
  | d :: ds, k, b => fun x hx => by
    rcases List.mem_cons.mp hx with z | z
    · rw [z]
      refine below_tup.mpr fun y hy => ?_
      rcases List.mem_cons.mp hy with w | w
      · rw [w]; rfl
      · rw [List.mem_singleton.mp w]; exact b d (List.mem_cons_self ..)
    · exact bel_enum ds _ (fun x hx => b x (List.mem_cons_of_mem _ hx)) x z
theorem both_val {st : Sto} {d e p q : D} {r : List D × List D} (v : Val st d p) (w : Val st e q) (h : bothOf [] p q = some r) : bothOf st d e = some r ∧ Bel r.1 ∧ Bel r.2 ∧ isTok p = false ∧ isTok q = false := by
  unfold bothOf at h
  split at h
  · have := v.imm rfl; have := w.imm rfl; subst d e
    cases h
    exact ⟨rfl, below_tup.mp v.1, below_tup.mp w.1, rfl, rfl⟩
  · split at h
    · rename_i xs ys e1 e2
      cases h
      obtain ⟨k1, b1⟩ := lst_val v e1
      obtain ⟨k2, b2⟩ := lst_val w e2
      have := lst_nil e1
      have := lst_nil e2
      subst p q
      refine ⟨?_, b1, b2, rfl, rfl⟩
      obtain ⟨_, rfl | ⟨n, rfl, _⟩⟩ := v <;> obtain ⟨_, rfl | ⟨m, rfl, _⟩⟩ := w <;> simp only [bothOf, k1, k2]
    · cases h
theorem bel_zip {xs ys : List D} (a : Bel xs) (b : Bel ys) : Bel (zipL [xs, ys]) := fun x hx => by
  obtain ⟨p, hp, rfl⟩ := List.mem_map.mp hx
  refine below_tup.mpr fun y hy => ?_
  rcases List.mem_cons.mp hy with w | w
  · rw [w]; exact a _ (List.of_mem_zip hp).1
  · rw [List.mem_singleton.mp w]; exact b _ (List.of_mem_zip hp).2
theorem iter_tok {p : D} {xs : List D} (h : iterOf [] p = some xs) : isTok p = false := by cases p <;> first | rfl | cases h
theorem enum_tok {p : D} {xs : List D} (h : enumOf [] p = some xs) : isTok p = false := by cases p <;> first | rfl | cases h
def VI (B : Nat) (η : Env) : Nat → Sto → PE → List D × Guards → List Nat × List D → Prop := fun _ st π a b => a.1 = b.2 ∧ Bel a.1 ∧ GV B η π st b.1 a.2
theorem isOwnL_ok {o : Option (Option (Kd × D))} (h : isOwnL o) : ∃ xs, o = some (some (.own, .lst xs)) := by
  unfold isOwnL at h
  split at h
  · exact ⟨_, rfl⟩
  · exact h.elim
theorem mthW_ok {m : Mth} {o : Option (Option (Kd × D))} {ds : List D} {Q : D → D → Prop} (h : mthW m o ds Q) : ∃ xs d ys, o = some (some (.own, .lst xs)) ∧ mth m (.obj 0) ds [.lst xs] = .ok d [.lst ys] ∧ Q d (.lst ys) := by
  unfold mthW at h
  split at h
  · split at h
    · rename_i e
      exact ⟨_, _, _, rfl, e, h⟩
    · exact h.elim
  · exact h.elim
theorem wown_lst {B : Nat} {η : Env} {π : PE} {st : Sto} (h : Here B η π st) {i : Nat} {xs : List D} (e : π[i]? = some (some (.own, .lst xs))) : ∃ n, η[i]? = some (some (.obj n)) ∧ st.get n = some (.lst xs) ∧ Bel xs ∧ 2 ≤ n := by
  obtain ⟨d, e1, v, _⟩ := h.rel.slot i _ _ e
  obtain ⟨n, rfl, l, ⟨h2, ⟨ys, e3, e4⟩ | ⟨ys, _, e4⟩⟩, b⟩ := v
  · cases e4
    exact ⟨n, e1, e3, below_lst.mp b, h2⟩
  · cases e4
theorem wown_dct {B : Nat} {η : Env} {π : PE} {st : Sto} (h : Here B η π st) {i : Nat} {xs : List (D × D)} (e : π[i]? = some (some (.own, .dct xs))) : ∃ n, η[i]? = some (some (.obj n)) ∧ st.get n = some (.dct xs) ∧ BelK xs ∧ 2 ≤ n := by
  obtain ⟨d, e1, v, _⟩ := h.rel.slot i _ _ e
  obtain ⟨n, rfl, l, ⟨h2, ⟨ys, _, e4⟩ | ⟨ys, e3, e4⟩⟩, b⟩ := v
  · cases e4
  · cases e4
    exact ⟨n, e1, e3, below_dct.mp b, h2⟩
end Dv
namespace Dv
open PySem (Str)
variable [T : Thr]
section
variable {C : Cst} {W : CW}
theorem sim_op2 {B lo : Nat} {η : Env} {X : Xc} {π0 π1 π2 : PE} {st0 st1 st2 : Sto} {o : Op2} {d e : D} {kp kq : Kd × D} {Q : Kd → D → PE → Prop} (h0 : Here B η π0 st0) (g1 : GoodW B η π0 st0 π1 st1) (v1 : EV B st0.length st1 kp.1 d kp.2) (g2 : GoodW B η π1 st1 π2 st2) (v2 : EV B st1.length st2 kq.1 e kq.2)
    (q : stay kp.1 π1 π2 ∧ resW (op2 o kp.2 kq.2 []) fun d => Q .clo d π2) : SimR B η X (VE B) lo π2 st2 (op2 o d e st2) fun kp π' => Q kp.1 kp.2 π' := by
  obtain ⟨s, q⟩ := q
  obtain ⟨r, s0, e1, q⟩ := resW_ok q
  obtain ⟨e2, b⟩ := op2_val (v1.stays h0 g1 g2 s).val v2.val e1
  rw [e2]
  exact .ret (b := (.clo, r)) g2.here ⟨rfl, b⟩ q
set_option maxHeartbeats 4001100 in
mutual
theorem simE (HC : SoundC C W) : ∀ (e : Ex) {B : Nat} {η : Env} {X : Xc} {π : PE} {st : Sto} {Q : Kd → D → PE → Prop}, Here B η π st → evalW W X e π Q → SimR B η X (VE B) st.length π st (evalE C e η st) fun kp π' => Q kp.1 kp.2 π'
  | .var i, B, η, X, π, st, Q, h0, h => by
    simp only [evalW] at h
    split at h
    · rename_i k p hp
      obtain ⟨d, e1, v, hk⟩ := h0.rel.slot i k p hp
      simp only [evalE, e1]
      exact .ret (b := (k, p)) h0 (v.ch hk) h
    · exact h.elim
  | .non, B, η, X, π, st, Q, h0, h => by
    simp only [evalW] at h
    simp only [evalE]
    exact .ret (b := (.clo, .non)) h0 ⟨rfl, rfl⟩ h
  | .bl b, B, η, X, π, st, Q, h0, h => by
    simp only [evalW] at h
    simp only [evalE]
    exact .ret (b := (.clo, .bl b)) h0 ⟨rfl, rfl⟩ h
  | .int b, B, η, X, π, st, Q, h0, h => by
    simp only [evalW] at h
    simp only [evalE]
    exact .ret (b := (.clo, .int b)) h0 ⟨rfl, rfl⟩ h
  | .str b, B, η, X, π, st, Q, h0, h => by
    simp only [evalW] at h
    simp only [evalE]
    exact .ret (b := (.clo, .str b)) h0 ⟨rfl, rfl⟩ h
  | .glb k, B, η, X, π, st, Q, h0, h => by
    simp only [evalW] at h
    obtain ⟨d, e, q⟩ := optW_ok h
    rw [← HC.glbs] at e
    simp only [evalE, e, ofO]
    exact .ret (b := (.clo, d)) h0 ⟨rfl, below_mono T.two (bel_get0 HC.bel e)⟩ q
  | .tup es, B, η, X, π, st, Q, h0, h => by
    simp only [evalW] at h
    simp only [evalE]
    refine SimR.bind (simEs HC es h0 h) fun ds st1 rs π1 g v ⟨s, l, q⟩ => ?_
    obtain ⟨e, b⟩ := v.sto s
    unfold lim
    rw [if_pos (by rw [VS.len v]; exact l)]
    exact .ret (b := (.clo, .tup (rs.map (·.2)))) g.here ⟨by rw [e], by rw [← e]; exact below_tup.mpr b⟩ q
  | .star e, B, η, X, π, st, Q, h0, h => by
    simp only [evalW] at h
  | .op o a b, B, η, X, π, st, Q, h0, h => by
    simp only [evalW] at h
    simp only [evalE]
    refine SimR.bind (simE HC a h0 h) fun d st1 kp π1 g1 v1 q1 => ?_
    refine SimR.bind (simE HC b g1.here q1) fun e st2 kq π2 g2 v2 q2 => ?_
    exact sim_op2 h0 g1 v1 g2 v2 q2
  | .neg a, B, η, X, π, st, Q, h0, h => by
    simp only [evalW] at h
    simp only [evalE]
    refine SimR.bind (simE HC a h0 h) fun d st1 kp π1 g1 v1 q1 => ?_
    obtain ⟨i, e, q⟩ := intW_ok q1
    have ed : d = .int i := by rw [← e]; exact v1.val.imm (by rw [e]; rfl)
    subst ed
    exact .ret (b := (.clo, .int (-i))) g1.here ⟨rfl, rfl⟩ q
  | .not a, B, η, X, π, st, Q, h0, h => by
    simp only [evalW] at h
    simp only [evalE]
    refine SimR.bind (simE HC a h0 h) fun d st1 kp π1 g1 v1 q1 => ?_
    obtain ⟨i, e, q⟩ := blW_ok q1
    have ed : d = .bl i := by rw [← e]; exact v1.val.imm (by rw [e]; rfl)
    subst ed
    exact .ret (b := (.clo, .bl (!i))) g1.here ⟨rfl, rfl⟩ q
  | .and a b, B, η, X, π, st, Q, h0, h => by
    simp only [evalW] at h
    simp only [evalE]
    refine SimR.bind (simE HC a h0 h) fun d st1 kp π1 g1 v1 q1 => ?_
    obtain ⟨i, e, q⟩ := blW_ok q1
    have ed : d = .bl i := by rw [← e]; exact v1.val.imm (by rw [e]; rfl)
    subst ed
    cases i with
    | true => exact (simE HC b g1.here q).lower ve_mono g1.le
    | false => exact .ret (b := (.clo, .bl false)) g1.here ⟨rfl, rfl⟩ q
  | .or a b, B, η, X, π, st, Q, h0, h => by
    simp only [evalW] at h
    simp only [evalE]
    refine SimR.bind (simE HC a h0 h) fun d st1 kp π1 g1 v1 q1 => ?_
    obtain ⟨i, e, q⟩ := blW_ok q1
    have ed : d = .bl i := by rw [← e]; exact v1.val.imm (by rw [e]; rfl)
    subst ed
    cases i with
    | true => exact .ret (b := (.clo, .bl true)) g1.here ⟨rfl, rfl⟩ q
    | false => exact (simE HC b g1.here q).lower ve_mono g1.le
  | .ite c a b, B, η, X, π, st, Q, h0, h => by
    simp only [evalW] at h
    simp only [evalE]
    refine SimR.bind (simE HC c h0 h) fun d st1 kp π1 g1 v1 q1 => ?_
    obtain ⟨i, e, q⟩ := blW_ok q1
    have ed : d = .bl i := by rw [← e]; exact v1.val.imm (by rw [e]; rfl)
    subst ed
    cases i with
    | true => exact (simE HC a g1.here q).lower ve_mono g1.le
    | false => exact (simE HC b g1.here q).lower ve_mono g1.le
  | .cmp o a b, B, η, X, π, st, Q, h0, h => by
    simp only [evalW] at h
    simp only [evalE]
    refine SimR.bind (simE HC a h0 h) fun d st1 kp π1 g1 v1 q1 => ?_
    refine SimR.bind (simE HC b g1.here q1) fun e st2 kq π2 g2 v2 ⟨s, q2⟩ => ?_
    obtain ⟨r, e1, q⟩ := optW_ok q2
    rw [cmp2_val (v1.stays h0 g1 g2 s).val v2.val e1]
    exact .ret (b := (.clo, .bl r)) g2.here ⟨rfl, rfl⟩ q
  | .chain o o' a b c, B, η, X, π, st, Q, h0, h => by
    simp only [evalW] at h
    simp only [evalE]
    refine SimR.bind (simE HC a h0 h) fun d st1 kp π1 g1 v1 q1 => ?_
    refine SimR.bind (simE HC b g1.here q1) fun e st2 kq π2 g2 v2 ⟨s, q2⟩ => ?_
    obtain ⟨r, e1, q⟩ := optW_ok q2
    rw [cmp2_val (v1.stays h0 g1 g2 s).val v2.val e1]
    cases r with
    | true =>
      refine SimR.bind (simE HC c g2.here q) fun f st3 kr π3 g3 v3 ⟨s3, q3⟩ => ?_
      obtain ⟨r, e3, q⟩ := optW_ok q3
      rw [cmp2_val (v2.stays g1.here g2 g3 s3).val v3.val e3]
      exact .ret (b := (.clo, .bl r)) g3.here ⟨rfl, rfl⟩ q
    | false => exact .ret (b := (.clo, .bl false)) g2.here ⟨rfl, rfl⟩ q
  | .idx a b, B, η, X, π, st, Q, h0, h => by
    simp only [evalW] at h
    simp only [evalE]
    refine SimR.bind (simE HC a h0 h) fun d st1 kp π1 g1 v1 q1 => ?_
    refine SimR.bind (simE HC b g1.here q1) fun e st2 kq π2 g2 v2 ⟨s, q2⟩ => ?_
    obtain ⟨r, s0, e1, q⟩ := resW_ok q2
    obtain ⟨e2, b⟩ := idx_val (v1.stays h0 g1 g2 s).val v2.val e1
    rw [e2]
    exact .ret (b := (.clo, r)) g2.here ⟨rfl, b⟩ q
  | .slc a l u, B, η, X, π, st, Q, h0, h => by
    simp only [evalW] at h
    simp only [evalE]
    refine SimR.bind (simE HC a h0 h) fun d st1 kp π1 g1 v1 q1 => ?_
    refine SimR.bind (simO HC l g1.here q1) fun i st2 i' π2 g2 v2 q2 => ?_
    refine SimR.bind (simO HC u g2.here q2) fun j st3 j' π3 g3 v3 ⟨s, q3⟩ => ?_
    obtain ⟨r, s0, e1, q⟩ := resW_ok q3
    have v2 : i = i' := v2
    have v3 : j = j' := v3
    subst v2 v3
    obtain ⟨e2, b⟩ := slc_val (v1.stays h0 g1 (g2.trans g3) s).val e1
    rw [e2]
    exact .ret (b := (.clo, r)) g3.here ⟨rfl, b⟩ q
  | .rev a, B, η, X, π, st, Q, h0, h => by
    simp only [evalW] at h
    simp only [evalE]
    refine SimR.bind (simE HC a h0 h) fun d st1 kp π1 g1 v1 q1 => ?_
    obtain ⟨r, s0, e1, q⟩ := resW_ok q1
    obtain ⟨e2, b⟩ := rev_val v1.val e1
    rw [e2]
    exact .ret (b := (.clo, r)) g1.here ⟨rfl, b⟩ q
  | .call f es, B, η, X, π, st, Q, h0, h => by
    simp only [evalW] at h
    simp only [evalE]
    refine SimR.bind (simEs HC es h0 h) fun ds st1 rs π1 g v q => ?_
    have z := HC.call f _ ds st1 _ _ q g.here.sto (Nat.le_trans g.here.h2 g.here.hB) (args_of v)
    cases r : C.call f ds st1 with
    | bad => rw [r] at z; exact z
    | exc c fs st' =>
      rw [r] at z
      exact ⟨π1, z.1.good g.here, z.2⟩
    | ok d st' =>
      rw [r] at z
      obtain ⟨k, p, a, v, q⟩ := z
      refine ⟨(k, p), π1, a.good g.here, ?_, q⟩
      cases k with
      | clo => exact v
      | fre => obtain ⟨n, z, l, w⟩ := v; exact ⟨n, z, Nat.le_trans g.le l, w⟩
      | lse => exact v
      | _ => exact v.elim
  | .callz f es, B, η, X, π, st, Q, h0, h => by
    simp only [evalW] at h
    simp only [evalE]
    refine SimR.bind (simEs HC es h0 h) fun ds st1 rs π1 g v q => ?_
    have z := HC.call f _ ds st1 _ _ q g.here.sto (Nat.le_trans g.here.h2 g.here.hB) (args_of v)
    cases r : C.call f ds st1 with
    | bad => rw [r] at z; exact z
    | exc c fs st' =>
      rw [r] at z
      exact ⟨π1, z.1.good g.here, z.2⟩
    | ok d st' =>
      rw [r] at z
      obtain ⟨k, p, a, v, q⟩ := z
      obtain ⟨d', st'', e1, a1, v1, nf⟩ := frz_after g.here.sto a (Nat.le_trans g.here.h2 g.here.hB) v
      show SimR B η X (VE B) st.length π1 st1 (frz st1.length d st') _
      rw [e1]
      refine ⟨(clzK k, p), π1, a1.good g.here, ?_, q⟩
      cases k with
      | clo => exact v1
      | fre => exact v1
      | lse => exact v1
      | _ => exact v.elim
  | .blt b es, B, η, X, π, st, Q, h0, h => by
    simp only [evalW] at h
    simp only [evalE]
    refine SimR.bind (simEs HC es h0 h) fun ds st1 rs π1 g v q => ?_
    obtain ⟨r, s0, e1, q⟩ := resW_ok q
    obtain ⟨e2, b⟩ := blt_val v.vals e1
    rw [e2]
    exact .ret (b := (.clo, r)) g.here ⟨rfl, b⟩ q
  | .tupR a, B, η, X, π, st, Q, h0, h => by
    simp only [evalW] at h
    simp only [evalE]
    refine SimR.bind (simE HC a h0 h) fun d st1 kp π1 g1 v1 q1 => ?_
    obtain ⟨i, e, hr, hl, q⟩ := intW_ok q1
    have ed : d = .int i := by rw [← e]; exact v1.val.imm (by rw [e]; rfl)
    subst ed
    simp only [hr, hl, if_true]
    exact .ret (b := (.clo, .tup (rngL 0 i.toNat))) g1.here ⟨rfl, below_tup.mpr (bel_rng _ _)⟩ q
  | .isi a tys, B, η, X, π, st, Q, h0, h => by
    simp only [evalW] at h
    simp only [evalE]
    refine SimR.bind (simE HC a h0 h) fun d st1 kp π1 g1 v1 ⟨nt, ok, q⟩ => ?_
    rw [if_pos ((tyOk_val v1.val nt).trans ok)]
    have e : tys.any (isTy st1 d) = tys.any (isTy [] kp.2) := by
      congr 1
      funext t
      exact isTy_val v1.val nt
    rw [e]
    exact .ret (b := (.clo, .bl _)) g1.here ⟨rfl, rfl⟩ q
  | .mth m o es, B, η, X, π, st, Q, h0, h => by
    cases o with
    | var i =>
      simp only [evalW] at h
      obtain ⟨hl, h⟩ := h
      obtain ⟨xs, e1⟩ := isOwnL_ok hl
      obtain ⟨n, e2, e3, b3, h2⟩ := wown_lst h0 e1
      simp only [evalE, e2, ok_bind', lstOf, e3]
      refine SimR.bind (simEs HC es h0 h) fun ds st1 rs π1 g v ⟨s, q⟩ => ?_
      obtain ⟨es1, bs1⟩ := v.sto s
      obtain ⟨xs1, d, ys, f1, f2, q⟩ := mthW_ok q
      obtain ⟨n1, k2, k3, k4, _⟩ := wown_lst g.here f1
      rw [e2] at k2
      cases k2
      rw [← es1] at f2
      obtain ⟨z1, z2, z3⟩ := mth_val (s0 := []) k3 k4 bs1 f2
      rw [z1]
      have p := g.here.put f1 e2 (o := .lst ys) (q := .lst ys) (of_bel z3) (below_lst.mpr z3) fun st' e l => ⟨l, .inl ⟨ys, e, rfl⟩⟩
      exact ⟨(.clo, d), _, p, ⟨rfl, z2⟩, q⟩
    | _ => simp only [evalW] at h
  | .frl l, B, η, X, π, st, Q, h0, h => by
    simp only [evalW] at h
    simp only [evalE]
    refine SimR.bind (simL HC l h0 h) fun ds st1 ds' π1 g v q => ?_
    obtain ⟨rfl, b⟩ := v
    exact .ret (b := (.clo, .lst ds)) g.here ⟨rfl, below_lst.mpr b⟩ q
  | .own l, B, η, X, π, st, Q, h0, h => by
    simp only [evalW] at h
    simp only [evalE]
    refine SimR.bind (simL HC l h0 h) fun ds st1 ds' π1 g v q => ?_
    obtain ⟨rfl, b⟩ := v
    exact ⟨(.fre, .lst ds), π1, g.here.push (of_bel b), ⟨st1.length, rfl, g.le, ⟨g.here.sto.two, .inl ⟨ds, by rw [get_push, if_pos rfl], rfl⟩⟩, below_lst.mpr b⟩, q⟩
  | .frd l, B, η, X, π, st, Q, h0, h => by
    simp only [evalW] at h
    simp only [evalE]
    refine SimR.bind (simK HC l h0 h) fun ds st1 ds' π1 g v q => ?_
    obtain ⟨rfl, b⟩ := v
    exact .ret (b := (.clo, .dct ds)) g.here ⟨rfl, below_dct.mpr b⟩ q
  | .ownd l, B, η, X, π, st, Q, h0, h => by
    simp only [evalW] at h
    simp only [evalE]
    refine SimR.bind (simK HC l h0 h) fun ds st1 ds' π1 g v q => ?_
    obtain ⟨rfl, b⟩ := v
    exact ⟨(.fre, .dct ds), π1, g.here.push ((belowk_iff ds).mpr b), ⟨st1.length, rfl, g.le, ⟨g.here.sto.two, .inr ⟨ds, by rw [get_push, if_pos rfl], rfl⟩⟩, below_dct.mpr b⟩, q⟩
  | .rng _, B, η, X, π, st, Q, h0, h => by simp only [evalW] at h
  | .enum _, B, η, X, π, st, Q, h0, h => by simp only [evalW] at h
  | .zip _, B, η, X, π, st, Q, h0, h => by simp only [evalW] at h
  | .items _, B, η, X, π, st, Q, h0, h => by simp only [evalW] at h
  | .values _, B, η, X, π, st, Q, h0, h => by simp only [evalW] at h
  | .keys _, B, η, X, π, st, Q, h0, h => by simp only [evalW] at h
  | .revd _, B, η, X, π, st, Q, h0, h => by simp only [evalW] at h
  | .itv _, B, η, X, π, st, Q, h0, h => by simp only [evalW] at h
theorem simO (HC : SoundC C W) : ∀ (e : Option Ex) {B : Nat} {η : Env} {X : Xc} {π : PE} {st : Sto} {Q : Option Int → PE → Prop}, Here B η π st → evalOW W X e π Q → SimR B η X VP 0 π st (evalO C e η st) Q
  | none, B, η, X, π, st, Q, h0, h => by
    simp only [evalOW] at h
    simp only [evalO]
    exact .ret h0 rfl h
  | some e, B, η, X, π, st, Q, h0, h => by
    simp only [evalOW] at h
    simp only [evalO]
    refine SimR.bind (simE HC e h0 h) fun d st1 kp π1 g1 v1 q1 => ?_
    obtain ⟨i, e, q⟩ := intW_ok q1
    have ed : d = .int i := by rw [← e]; exact v1.val.imm (by rw [e]; rfl)
    subst ed
    exact .ret g1.here rfl q
theorem simEs (HC : SoundC C W) : ∀ (es : List Ex) {B : Nat} {η : Env} {X : Xc} {π : PE} {st : Sto} {Q : List (Kd × D) → PE → Prop}, Here B η π st → evalsW W X es π Q → SimR B η X (VS1 B) st.length π st (evalEs C es η st) Q
  | [], B, η, X, π, st, Q, h0, h => by
    simp only [evalsW] at h
    simp only [evalEs]
    exact .ret (b := []) h0 trivial h
  | e :: es, B, η, X, π, st, Q, h0, h => by
    have gen : (evalEs C (e :: es) η st = (evalE C e η st).bind fun x st => (evalEs C es η st).bind fun ds st => .ok (x :: ds) st) → (evalW W X e π fun k x π1 => evalsW W X es π1 fun rs π2 => stay k π1 π2 ∧ Q ((k, x) :: rs) π2) → SimR B η X (VS1 B) st.length π st (evalEs C (e :: es) η st) Q := fun e1 h => by
      rw [e1]
      refine SimR.bind (simE HC e h0 h) fun d st1 kp π1 g1 v1 q1 => ?_
      refine SimR.bind (simEs HC es g1.here q1) fun ds st2 rs π2 g2 v2 ⟨s, q2⟩ => ?_
      refine ⟨(kp.1, kp.2) :: rs, π2, GoodW.refl g2.here, ⟨v1.stays h0 g1 g2 s, fun fk x hx xk => ?_, vs_mono _ _ _ π _ _ g1.le v2⟩, q2⟩
      obtain ⟨k, p⟩ := kp
      have fk : k = .fre := fk
      subst fk
      obtain ⟨n, rfl, _, o, _⟩ := v1
      obtain ⟨m, e2, l2⟩ := v2.fre x hx xk
      rw [e2]
      intro z
      cases z
      have := o.lt
      omega
    cases e with
    | star e =>
      simp only [evalsW] at h
      simp only [evalEs]
      refine SimR.bind (simE HC e h0 h) fun d st1 kp π1 g1 v1 q1 => ?_
      obtain ⟨xs, e1, q1⟩ := optW_ok q1
      obtain ⟨k1, b1⟩ := seq_val v1.val e1
      simp only [k1]
      refine SimR.bind (simEs HC es g1.here q1) fun ds st2 rs π2 g2 v2 q2 => ?_
      exact ⟨_, π2, GoodW.refl g2.here, vs_clo b1 (vs_mono _ _ _ π _ _ g1.le v2), q2⟩
    | _ => exact gen (by simp only [evalEs]) (by simpa only [evalsW] using h)
theorem simI (HC : SoundC C W) : ∀ (e : Ex) {B : Nat} {η : Env} {X : Xc} {π : PE} {st : Sto} {Q : List Nat → List D → PE → Prop}, Here B η π st → evalIW W X e π Q → SimR B η X (VI B η) 0 π st (evalI C e η st) fun b π' => Q b.1 b.2 π'
  | .rng [a], B, η, X, π, st, Q, h0, h => by
    simp only [evalIW] at h
    simp only [evalI]
    refine SimR.bind (simE HC a h0 h) fun d st1 kp π1 g1 v1 q1 => ?_
    obtain ⟨i, e, hr, q⟩ := intW_ok q1
    have ed : d = .int i := by rw [← e]; exact v1.val.imm (by rw [e]; rfl)
    subst ed
    simp only [hr, if_true]
    exact .ret (b := ([], rngL 0 i.toNat)) g1.here ⟨rfl, bel_rng _ _, gv_nil⟩ q
  | .rng [a, b], B, η, X, π, st, Q, h0, h => by
    simp only [evalIW] at h
    simp only [evalI]
    refine SimR.bind (simE HC a h0 h) fun d st1 kp π1 g1 v1 q1 => ?_
    refine SimR.bind (simE HC b g1.here q1) fun e st2 kq π2 g2 v2 q2 => ?_
    obtain ⟨i, e1, q2⟩ := intW_ok q2
    obtain ⟨j, e2, hi, hj, q⟩ := intW_ok q2
    have ed : d = .int i := by rw [← e1]; exact v1.val.imm (by rw [e1]; rfl)
    have ee : e = .int j := by rw [← e2]; exact v2.val.imm (by rw [e2]; rfl)
    subst ed ee
    simp only [hi, hj, Bool.and_self, if_true]
    exact .ret (b := ([], rngL i (j - i).toNat)) g2.here ⟨rfl, bel_rng _ _, gv_nil⟩ q
  | .enum a, B, η, X, π, st, Q, h0, h => by
    simp only [evalIW] at h
    simp only [evalI]
    refine SimR.bind (walk_sim h0 (fun Q hq => simE HC a h0 hq) h) fun d st1 b π1 g1 v1 q1 => ?_
    obtain ⟨ds, e1, q⟩ := optW_ok q1
    obtain ⟨k1, b1⟩ := enum_val v1.1.val e1
    simp only [k1]
    exact .ret (b := (b.1, enumL 0 ds)) g1.here ⟨rfl, bel_enum _ _ b1, gv_fin v1.1 v1.2 (enum_tok e1)⟩ q
  | .zip [a, b], B, η, X, π, st, Q, h0, h => by
    simp only [evalIW] at h
    simp only [evalI]
    refine SimR.bind (walk_sim h0 (fun Q hq => simE HC a h0 hq) h) fun d st1 b1 π1 g1 v1 q1 => ?_
    refine SimR.bind (walk_sim g1.here (fun Q hq => simE HC b g1.here hq) q1) fun e st2 b2 π2 g2 v2 ⟨s, q2⟩ => ?_
    obtain ⟨p, e1, q⟩ := optW_ok q2
    have w1 := v1.1.stays h0 g1 g2 s
    obtain ⟨k1, c1, c2, t1, t2⟩ := both_val w1.val v2.1.val e1
    simp only [k1]
    exact .ret (b := (b1.1 ++ b2.1, zipL [p.1, p.2])) g2.here ⟨rfl, bel_zip c1 c2, gv_app (gv_fin w1 (v1.2.stays s) t1) (gv_fin v2.1 v2.2 t2)⟩ q
  | .itv a, B, η, X, π, st, Q, h0, h => by
    simp only [evalIW] at h
    simp only [evalI]
    refine SimR.bind (walk_sim h0 (fun Q hq => simE HC a h0 hq) h) fun d st1 b π1 g1 v1 q1 => ?_
    obtain ⟨ds, e1, q⟩ := optW_ok q1
    obtain ⟨k1, b1⟩ := iter_val v1.1.val e1
    simp only [k1]
    exact .ret (b := (b.1, ds)) g1.here ⟨rfl, b1, gv_fin v1.1 v1.2 (iter_tok e1)⟩ q
  | .rng [], B, η, X, π, st, Q, h0, h => by simp only [evalIW] at h
  | .rng (_ :: _ :: _ :: _), B, η, X, π, st, Q, h0, h => by simp only [evalIW] at h
  | .zip [], B, η, X, π, st, Q, h0, h => by simp only [evalIW] at h
  | .zip [_], B, η, X, π, st, Q, h0, h => by simp only [evalIW] at h
  | .zip (_ :: _ :: _ :: _), B, η, X, π, st, Q, h0, h => by simp only [evalIW] at h
  | .var _, B, η, X, π, st, Q, h0, h => by simp only [evalIW] at h
  | .non, B, η, X, π, st, Q, h0, h => by simp only [evalIW] at h
  | .bl _, B, η, X, π, st, Q, h0, h => by simp only [evalIW] at h
  | .int _, B, η, X, π, st, Q, h0, h => by simp only [evalIW] at h
  | .str _, B, η, X, π, st, Q, h0, h => by simp only [evalIW] at h
  | .glb _, B, η, X, π, st, Q, h0, h => by simp only [evalIW] at h
  | .tup _, B, η, X, π, st, Q, h0, h => by simp only [evalIW] at h
  | .star _, B, η, X, π, st, Q, h0, h => by simp only [evalIW] at h
  | .op _ _ _, B, η, X, π, st, Q, h0, h => by simp only [evalIW] at h
  | .neg _, B, η, X, π, st, Q, h0, h => by simp only [evalIW] at h
  | .not _, B, η, X, π, st, Q, h0, h => by simp only [evalIW] at h
  | .and _ _, B, η, X, π, st, Q, h0, h => by simp only [evalIW] at h
  | .or _ _, B, η, X, π, st, Q, h0, h => by simp only [evalIW] at h
  | .ite _ _ _, B, η, X, π, st, Q, h0, h => by simp only [evalIW] at h
  | .cmp _ _ _, B, η, X, π, st, Q, h0, h => by simp only [evalIW] at h
  | .chain _ _ _ _ _, B, η, X, π, st, Q, h0, h => by simp only [evalIW] at h
  | .idx _ _, B, η, X, π, st, Q, h0, h => by simp only [evalIW] at h
  | .slc _ _ _, B, η, X, π, st, Q, h0, h => by simp only [evalIW] at h
  | .rev _, B, η, X, π, st, Q, h0, h => by simp only [evalIW] at h
  | .call _ _, B, η, X, π, st, Q, h0, h => by simp only [evalIW] at h
  | .callz _ _, B, η, X, π, st, Q, h0, h => by simp only [evalIW] at h
  | .blt _ _, B, η, X, π, st, Q, h0, h => by simp only [evalIW] at h
  | .isi _ _, B, η, X, π, st, Q, h0, h => by simp only [evalIW] at h
  | .mth _ _ _, B, η, X, π, st, Q, h0, h => by simp only [evalIW] at h
  | .frl _, B, η, X, π, st, Q, h0, h => by simp only [evalIW] at h
  | .own _, B, η, X, π, st, Q, h0, h => by simp only [evalIW] at h
  | .frd _, B, η, X, π, st, Q, h0, h => by simp only [evalIW] at h
  | .ownd _, B, η, X, π, st, Q, h0, h => by simp only [evalIW] at h
  | .tupR _, B, η, X, π, st, Q, h0, h => by simp only [evalIW] at h
  | .items _, B, η, X, π, st, Q, h0, h => by simp only [evalIW] at h
  | .values _, B, η, X, π, st, Q, h0, h => by simp only [evalIW] at h
  | .keys _, B, η, X, π, st, Q, h0, h => by simp only [evalIW] at h
  | .revd _, B, η, X, π, st, Q, h0, h => by simp only [evalIW] at h
theorem simCs (HC : SoundC C W) : ∀ (es : List Ex) {B : Nat} {η : Env} {π : PE} {st : Sto} {Q : Bool → PE → Prop}, Here B η π st → condsW W es π Q → SimR B η noX VP 0 π st (condsE C es η st) Q
  | [], B, η, π, st, Q, h0, h => by
    simp only [condsW] at h
    simp only [condsE]
    exact .ret h0 rfl h
  | c :: cs, B, η, π, st, Q, h0, h => by
    simp only [condsW] at h
    simp only [condsE]
    refine SimR.bind (simE HC c h0 h).noexc fun d st1 kp π1 g1 v1 q1 => ?_
    obtain ⟨i, e, q⟩ := blW_ok q1
    have ed : d = .bl i := by rw [← e]; exact v1.val.imm (by rw [e]; rfl)
    subst ed
    cases i with
    | true => exact simCs HC cs g1.here q
    | false => exact .ret g1.here rfl q
theorem simL (HC : SoundC C W) : ∀ (e : Lx) {B : Nat} {η : Env} {X : Xc} {π : PE} {st : Sto} {Q : List D → PE → Prop}, Here B η π st → evalLW W X e π Q → SimR B η X VL' 0 π st (evalL C e η st) Q
  | .disp es, B, η, X, π, st, Q, h0, h => by
    simp only [evalLW] at h
    simp only [evalL]
    refine SimR.bind (simEs HC es h0 h) fun ds st1 rs π1 g v ⟨s, l, q⟩ => ?_
    obtain ⟨e, b⟩ := v.sto s
    unfold lim
    rw [if_pos (by rw [VS.len v]; exact l)]
    exact .ret (b := rs.map (·.2)) g.here ⟨e, by rw [← e]; exact b⟩ q
  | .lstR a, B, η, X, π, st, Q, h0, h => by
    simp only [evalLW] at h
    simp only [evalL]
    refine SimR.bind (simE HC a h0 h) fun d st1 kp π1 g1 v1 q1 => ?_
    obtain ⟨i, e, hr, hl, q⟩ := intW_ok q1
    have ed : d = .int i := by rw [← e]; exact v1.val.imm (by rw [e]; rfl)
    subst ed
    simp only [hr, hl, if_true]
    exact .ret (b := rngL 0 i.toNat) g1.here ⟨rfl, bel_rng _ _⟩ q
  | .comp own tg it cs e, B, η, X, π, st, Q, h0, h => by
    simp only [evalLW] at h
    obtain ⟨hs, h⟩ := h
    simp only [evalL]
    refine SimR.bind (simI HC it h0 h) fun p st1 b π1 g v ⟨l, q⟩ => ?_
    obtain ⟨js, ds⟩ := b
    obtain ⟨ds', gs⟩ := p
    obtain ⟨e1, b1, gv⟩ := v
    have e1 : ds' = ds := e1
    subst e1
    rw [if_pos l]
    refine comp_sim gv (fun d π2 st2 K h2 bd hf => ?_) ds' π1 st1 _ g.here b1 (fun _ _ _ => rfl) q
    have hf : optW _ _ := hf
    obtain ⟨π3, e2, hf⟩ := optW_ok hf
    obtain ⟨η1, e3, h3, i3⟩ := elt_scope h2 bd hs e2
    simp only [e3]
    refine SimR.back h2 h3 i3 ?_
    refine SimR.bind (simCs HC cs h3 hf) fun t st4 t' π4 g4 v4 q4 => ?_
    have v4 : t = t' := v4
    subst v4
    cases t with
    | true =>
      refine SimR.bind (simE HC e g4.here q4).noexc fun x st5 kx π5 g5 v5 ⟨s5, q5⟩ => ?_
      have ex := sto_eq v5 s5
      subst ex
      exact .ret g5.here ⟨rfl, fun y hy => by rw [List.mem_singleton.mp hy]; exact v5.bel⟩ q5
    | false => exact .ret g4.here ⟨rfl, fun y hy => by cases hy⟩ q4
  | .comp2 own tg it cs tg2 it2 cs2 e, B, η, X, π, st, Q, h0, h => by
    simp only [evalLW] at h
    obtain ⟨hs, hs2, h⟩ := h
    simp only [evalL]
    refine SimR.bind (simI HC it h0 h) fun p st1 b π1 g v ⟨l, q⟩ => ?_
    obtain ⟨js, ds⟩ := b
    obtain ⟨ds', gs⟩ := p
    obtain ⟨e1, b1, gv⟩ := v
    have e1 : ds' = ds := e1
    subst e1
    rw [if_pos l]
    refine SimR.bind (comp_sim (X := noX) gv (fun d π2 st2 K h2 bd hf => ?_) ds' π1 st1 _ g.here b1 (fun _ _ _ => rfl) q).noexc.anyX fun rs st9 rs' π9 g9 v9 ⟨l9, q9⟩ => by
      obtain ⟨rfl, b9⟩ := v9
      rw [if_pos l9]
      exact .ret g9.here ⟨rfl, b9⟩ q9
    have hf : optW _ _ := hf
    obtain ⟨π3, e2, hf⟩ := optW_ok hf
    obtain ⟨η1, e3, h3, i3⟩ := elt_scope h2 bd hs e2
    simp only [e3]
    refine SimR.back h2 h3 i3 ?_
    refine SimR.bind (simCs HC cs h3 hf) fun t st4 t' π4 g4 v4 q4 => ?_
    have v4 : t = t' := v4
    subst v4
    cases t with
    | false => exact .ret g4.here ⟨rfl, fun y hy => by cases hy⟩ q4
    | true =>
      refine SimR.bind (simI HC it2 g4.here q4).noexc fun p5 st5 b5 π5 g5 v5 ⟨l5, q5⟩ => ?_
      obtain ⟨js5, ds5⟩ := b5
      obtain ⟨ds5', gs5⟩ := p5
      obtain ⟨e5, b5, gv5⟩ := v5
      have e5 : ds5' = ds5 := e5
      subst e5
      show SimR B η1 noX _ 0 π5 st5 (if ds5'.length ≤ LIM then _ else _) _
      rw [if_pos l5]
      refine comp_sim gv5 (fun d6 π6 st6 K6 h6 bd6 hf6 => ?_) ds5' π5 st5 _ g5.here b5 (fun _ _ _ => rfl) q5
      have hf6 : optW _ _ := hf6
      obtain ⟨π7, e7, hf6⟩ := optW_ok hf6
      obtain ⟨η2, f7, h7, i7⟩ := bind_here tg2 h6 bd6 e7
      simp only [f7]
      refine SimR.back h6 h7 i7 ?_
      refine SimR.bind (simCs HC cs2 h7 hf6) fun t8 st8 t8' π8 g8 v8 q8 => ?_
      have v8 : t8 = t8' := v8
      subst v8
      cases t8 with
      | true =>
        refine SimR.bind (simE HC e g8.here q8).noexc fun x st9 kx π9 g9 v9 ⟨s9, q9⟩ => ?_
        have ex := sto_eq v9 s9
        subst ex
        exact .ret g9.here ⟨rfl, fun y hy => by rw [List.mem_singleton.mp hy]; exact v9.bel⟩ q9
      | false => exact .ret g8.here ⟨rfl, fun y hy => by cases hy⟩ q8
  | .bltl b es, B, η, X, π, st, Q, h0, h => by
    simp only [evalLW] at h
    simp only [evalL]
    refine SimR.bind (simEs HC es h0 h) fun ds st1 rs π1 g v q => ?_
    obtain ⟨r, s0, e1, q⟩ := resW_ok q
    obtain ⟨e2, b⟩ := bltL_val v.vals e1
    rw [e2]
    exact .ret g.here ⟨rfl, b⟩ q
  | .add a b, B, η, X, π, st, Q, h0, h => by
    simp only [evalLW] at h
    simp only [evalL]
    refine SimR.bind (simE HC a h0 h) fun d st1 kp π1 g1 v1 q1 => ?_
    refine SimR.bind (simE HC b g1.here q1) fun e st2 kq π2 g2 v2 ⟨s, q2⟩ => ?_
    obtain ⟨xs, e1, q2⟩ := optW_ok q2
    obtain ⟨ys, e2, l, q⟩ := optW_ok q2
    obtain ⟨k1, b1⟩ := lst_val (v1.stays h0 g1 g2 s).val e1
    obtain ⟨k2, b2⟩ := lst_val v2.val e2
    simp only [k1, k2]
    rw [if_pos l]
    exact .ret g2.here ⟨rfl, bel_app b1 b2⟩ q
  | .rev a, B, η, X, π, st, Q, h0, h => by
    simp only [evalLW] at h
    simp only [evalL]
    refine SimR.bind (simE HC a h0 h) fun d st1 kp π1 g1 v1 q1 => ?_
    obtain ⟨xs, e1, q⟩ := optW_ok q1
    obtain ⟨k1, b1⟩ := lst_val v1.val e1
    simp only [k1]
    exact .ret g1.here ⟨rfl, fun x hx => b1 x (List.mem_reverse.mp hx)⟩ q
theorem simP (HC : SoundC C W) : ∀ (es : List Ex) {B : Nat} {η : Env} {X : Xc} {π : PE} {st : Sto} {Q : List (D × D) → PE → Prop}, Here B η π st → evalPW W X es π Q → SimR B η X VK' 0 π st (evalPs C es η st) Q
  | [], B, η, X, π, st, Q, h0, h => by
    simp only [evalPW] at h
    simp only [evalPs]
    exact .ret h0 ⟨rfl, fun y hy => by cases hy⟩ h
  | [_], B, η, X, π, st, Q, h0, h => by simp only [evalPW] at h
  | k :: v :: kvs, B, η, X, π, st, Q, h0, h => by
    simp only [evalPW] at h
    simp only [evalPs]
    refine SimR.bind (simE HC k h0 h) fun d st1 kp π1 g1 v1 ⟨i, q1⟩ => ?_
    refine SimR.bind (simE HC v g1.here q1) fun e st2 kq π2 g2 v2 ⟨s, q2⟩ => ?_
    have ed := v1.val.imm i
    have ee := sto_eq v2 s
    subst ed ee
    refine SimR.bind (simP HC kvs g2.here q2) fun ps st3 ps' π3 g3 v3 q3 => ?_
    obtain ⟨rfl, b3⟩ := v3
    exact .ret g3.here ⟨rfl, fun x hx => by
      rcases List.mem_cons.mp hx with z | z
      · rw [z]; exact ⟨v1.bel, v2.bel⟩
      · exact b3 x z⟩ q3
theorem simK (HC : SoundC C W) : ∀ (e : Dx) {B : Nat} {η : Env} {X : Xc} {π : PE} {st : Sto} {Q : List (D × D) → PE → Prop}, Here B η π st → evalKW W X e π Q → SimR B η X VK' 0 π st (evalK C e η st) Q
  | .disp kvs, B, η, X, π, st, Q, h0, h => by
    simp only [evalKW] at h
    simp only [evalK]
    refine SimR.bind (simP HC kvs h0 h) fun ps st1 ps' π1 g v ⟨k, q⟩ => ?_
    obtain ⟨rfl, b⟩ := v
    rw [if_pos k]
    exact .ret g.here ⟨rfl, mkDict_bel b⟩ q
  | .comp own tg it cs kx e, B, η, X, π, st, Q, h0, h => by
    simp only [evalKW] at h
    obtain ⟨hs, h⟩ := h
    simp only [evalK]
    refine SimR.bind (simI HC it h0 h) fun p st1 b π1 g v q => ?_
    obtain ⟨js, ds⟩ := b
    obtain ⟨ds', gs⟩ := p
    obtain ⟨e1, b1, gv⟩ := v
    have e1 : ds' = ds := e1
    subst e1
    refine SimR.bind (compK_sim gv (fun d π2 st2 K h2 bd hf => ?_) ds' π1 st1 _ g.here b1 (fun _ _ _ => rfl) q) fun ps st6 ps' π6 g6 v6 ⟨l6, q6⟩ => ?_
    · have hf : optW _ _ := hf
      obtain ⟨π3, e2, hf⟩ := optW_ok hf
      obtain ⟨η1, e3, h3, i3⟩ := elt_scope h2 bd hs e2
      simp only [e3]
      refine SimR.back h2 h3 i3 ?_
      refine SimR.bind (simCs HC cs h3 hf) fun t st4 t' π4 g4 v4 q4 => ?_
      have v4 : t = t' := v4
      subst v4
      cases t with
      | true =>
        refine SimR.bind (simE HC kx g4.here q4).noexc fun x st5 kx π5 g5 v5 q5 => ?_
        refine SimR.bind (simE HC e g5.here q5).noexc fun y st6 ky π6 g6 v6 ⟨s6, ko, q6⟩ => ?_
        have ey := sto_eq v6 s6
        have hi : imm kx.2 = true := by
          cases z : kx.2 <;> rw [z] at ko <;> first | rfl | cases ko
        have ex := v5.val.imm hi
        subst ex ey
        simp only [ko, if_true]
        exact .ret g6.here ⟨rfl, fun y hy => by rw [List.mem_singleton.mp hy]; exact ⟨v5.bel, v6.bel⟩⟩ q6
      | false => exact .ret g4.here ⟨rfl, fun y hy => by cases hy⟩ q4
    · obtain ⟨rfl, b6⟩ := v6
      rw [if_pos l6]
      exact .ret g6.here ⟨rfl, mkDict_bel b6⟩ q6
  | .val e, B, η, X, π, st, Q, h0, h => by
    simp only [evalKW] at h
    simp only [evalK]
    refine SimR.bind (simE HC e h0 h) fun d st1 kp π1 g1 v1 q1 => ?_
    cases e1 : (lstOf [] kp.2).bind prsOf with
    | none =>
      rw [e1] at q1
      exact q1.elim
    | some ps =>
      rw [e1] at q1
      obtain ⟨xs, e2, e3⟩ := Option.bind_eq_some_iff.mp e1
      obtain ⟨k1, b1⟩ := lst_val v1.val e2
      simp only [k1, Option.bind_some, e3]
      exact .ret g1.here ⟨rfl, mkDict_bel (prs_bel e3 b1)⟩ q1
end
end
end Dv
namespace Dv
open PySem (Str)
variable [T : Thr]
structure Aft (B : Nat) (st st' : Sto) : Prop where
  sto : StoOk st'
  le : st.length ≤ st'.length
  fr : ∀ n, 2 ≤ n → n < B → st'.get n = st.get n
theorem Aft.refl {B : Nat} {st : Sto} (h : StoOk st) : Aft B st st := ⟨h, Nat.le_refl _, fun _ _ _ => rfl⟩
theorem Aft.trans {B : Nat} {st st1 st2 : Sto} (a : Aft B st st1) (b : Aft B st1 st2) : Aft B st st2 := ⟨b.sto, Nat.le_trans a.le b.le, fun n h1 h2 => (b.fr n h1 h2).trans (a.fr n h1 h2)⟩
theorem GoodW.aft {B : Nat} {η : Env} {π π' : PE} {st st' : Sto} (h : Here B η π st) (g : GoodW B η π st π' st') : Aft B st st' := ⟨g.here.sto, g.le, g.low h⟩
def Keep (N : List Nat) (η η' : Env) : Prop := ∀ (j : Nat), j ∉ N → η'[j]? = η[j]?
def FlR (B : Nat) (N : List Nat) (η : Env) (st st' : Sto) : Fl → FlW → Prop
  | .nx η', .nx π' => Here B η' π' st' ∧ Aft B st st' ∧ Keep N η η'
  | .ct η', .ct π' => Here B η' π' st' ∧ Aft B st st' ∧ Keep N η η'
  | .bk η', .bk π' => Here B η' π' st' ∧ Aft B st st' ∧ Keep N η η'
  | .rt d, .rt k p _ => Aft B st st' ∧ EV B B st' k d p
  | _, _ => False
def SimS (B : Nat) (N : List Nat) (η : Env) (X : Xc) (st : Sto) (r : Res Fl) (Q : FlW → Prop) : Prop := match r with
  | .ok fl st' => ∃ fw, FlR B N η st st' fl fw ∧ Q fw
  | .exc c fs st' => Aft B st st' ∧ belowf tt fs = true ∧ ∃ π', X c fs π'
  | .bad => False
section
variable {B : Nat} {N : List Nat} {η η1 : Env} {X : Xc} {π π1 : PE} {st st1 st2 : Sto}
theorem FlR.after {fl : Fl} {fw : FlW} (a : Aft B st st1) (k : Keep N η η1) (h : FlR B N η1 st1 st2 fl fw) : FlR B N η st st2 fl fw := by
  cases fl <;> cases fw <;> first | exact h.elim | exact ⟨h.1, a.trans h.2.1, fun j hj => (h.2.2 j hj).trans (k j hj)⟩ | exact ⟨a.trans h.1, h.2⟩
theorem SimS.after {r : Res Fl} {Q : FlW → Prop} (a : Aft B st st1) (k : Keep N η η1) (h : SimS B N η1 X st1 r Q) : SimS B N η X st r Q := by
  cases r with
  | bad => exact h
  | exc c fs st' => exact ⟨a.trans h.1, h.2⟩
  | ok fl st' =>
    obtain ⟨fw, f, q⟩ := h
    exact ⟨fw, f.after a k, q⟩
theorem Keep.refl : Keep N η η := fun _ _ => rfl
theorem Keep.mono {M : List Nat} (k : Keep N η η1) (s : ∀ j ∈ N, j ∈ M) : Keep M η η1 := fun j hj => k j fun z => hj (s j z)
theorem SimS.mono {M : List Nat} {r : Res Fl} {Q : FlW → Prop} (s : ∀ j ∈ N, j ∈ M) (h : SimS B N η X st r Q) : SimS B M η X st r Q := by
  cases r with
  | bad => exact h
  | exc c fs st' => exact h
  | ok fl st' =>
    obtain ⟨fw, f, q⟩ := h
    refine ⟨fw, ?_, q⟩
    cases fl <;> cases fw <;> first | exact f.elim | exact ⟨f.1, f.2.1, f.2.2.mono s⟩ | exact f
/-- an evaluation, then a statement's rest -/
theorem SimR.bindS {lo1 : Nat} {α β : Type} {V : Nat → Sto → PE → α → β → Prop} {r : Res α} {f : α → Sto → Res Fl} {Q1 : β → PE → Prop} {Q : FlW → Prop} (h0 : Here B η π st)
    (h : SimR B η X V lo1 π st r Q1) (k : ∀ a st1 b π1, GoodW B η π st π1 st1 → V lo1 st1 π1 a b → Q1 b π1 → SimS B N η X st1 (f a st1) Q) : SimS B N η X st (r.bind f) Q := by
  cases r with
  | bad => exact h
  | exc c fs st' =>
    obtain ⟨π', g, b, x⟩ := h
    exact ⟨g.aft h0, b, π', x⟩
  | ok a st1 =>
    obtain ⟨b, π1, g, v, q⟩ := h
    exact (k a st1 b π1 g v q).after (g.aft h0) .refl
/-- a slot is set -/
theorem Here.setAny (h : Here B η π st) {k : Kd} {d p : D} (v : EV B B st k d p) (hk : k = .clo ∨ k = .bor ∨ k = .own) (f : k = .own → ∀ n, d = .obj n → ¬ Owned η π n) (i : Nat) : Here B (η.set i (some d)) (π.set i (some (k, p))) st := by
  have inv : ∀ {j : Nat} {k' : Kd} {q : D}, (π.set i (some (k, p)))[j]? = some (some (k', q)) → (j = i ∧ k' = k ∧ q = p ∧ i < π.length) ∨ (j ≠ i ∧ π[j]? = some (some (k', q))) := fun {j k' q} e => by
    by_cases z : i = j
    · subst z
      have li : i < π.length := by
        rcases Nat.lt_or_ge i (π.set i (some (k, p))).length with q | q
        · simpa using q
        · rw [List.getElem?_eq_none q] at e; cases e
      rw [List.getElem?_set_self li] at e
      cases e
      exact .inl ⟨rfl, rfl, rfl, li⟩
    · rw [List.getElem?_set_ne z] at e
      exact .inr ⟨fun w => z w.symm, e⟩
  refine ⟨h.sto, ⟨by rw [List.length_set, List.length_set]; exact h.rel.len, fun j k' q e => ?_, fun a c n ha hc => ?_⟩, h.hB, h.h2⟩
  · rcases inv e with ⟨rfl, rfl, rfl, li⟩ | ⟨ne, e⟩
    · exact ⟨d, List.getElem?_set_self (by rw [h.rel.len]; exact li), v, hk⟩
    · rw [List.getElem?_set_ne (fun w => ne w.symm)]
      exact h.rel.slot j k' q e
  · have key : ∀ a, OwnAt (η.set i (some d)) (π.set i (some (k, p))) a n → (a = i ∧ k = .own ∧ d = .obj n) ∨ (a ≠ i ∧ OwnAt η π a n) := fun a ha => by
      obtain ⟨⟨q, e⟩, e2⟩ := ha
      rcases inv e with ⟨rfl, z, _, li⟩ | ⟨ne, e⟩
      · rw [List.getElem?_set_self (by rw [h.rel.len]; exact li)] at e2
        cases e2
        exact .inl ⟨rfl, z.symm, rfl⟩
      · rw [List.getElem?_set_ne (fun w => ne w.symm)] at e2
        exact .inr ⟨ne, ⟨q, e⟩, e2⟩
    rcases key a ha with ⟨rfl, k1, d1⟩ | ⟨n1, o1⟩ <;> rcases key c hc with ⟨rfl, k2, d2⟩ | ⟨n2, o2⟩
    · rfl
    · exact (f k1 n d1 ⟨_, o2⟩).elim
    · exact (f k2 n d2 ⟨_, o1⟩).elim
    · exact h.rel.dis a c n o1 o2
theorem owned_set {k : Kd} {d p : D} {i n : Nat} (o : Owned (η.set i (some d)) (π.set i (some (k, p))) n) : Owned η π n ∨ (k = .own ∧ d = .obj n) := by
  obtain ⟨a, ⟨q, e⟩, e2⟩ := o
  by_cases z : i = a
  · subst z
    have li : i < π.length := by
      rcases Nat.lt_or_ge i (π.set i (some (k, p))).length with q | q
      · simpa using q
      · rw [List.getElem?_eq_none q] at e; cases e
    rw [List.getElem?_set_self li] at e
    have l2 : i < η.length := by
      rcases Nat.lt_or_ge i (η.set i (some d)).length with q | q
      · simpa using q
      · rw [List.getElem?_eq_none q] at e2; cases e2
    rw [List.getElem?_set_self l2] at e2
    cases e
    cases e2
    exact .inr ⟨rfl, rfl⟩
  · rw [List.getElem?_set_ne z] at e e2
    exact .inl ⟨a, ⟨q, e⟩, e2⟩
/-- .. by what is evaluated -/
theorem set_sim {lo : Nat} (h : Here B η π st) {k : Kd} {d p : D} (v : EV B lo st k d p) (hl : B ≤ lo) (f : k = .fre → ∀ n, d = .obj n → ¬ Owned η π n) {K : Kd × D → Prop} (s : setW k p K) (i : Nat) :
    ∃ s, K s ∧ Here B (η.set i (some d)) (π.set i (some s)) st ∧ (∀ n, Owned (η.set i (some d)) (π.set i (some s)) n → Owned η π n ∨ (k = .fre ∧ d = .obj n)) := by
  have up : ∀ {k' : Kd} {n : Nat}, (k' = .own → k = .fre) → Owned (η.set i (some d)) (π.set i (some (k', p))) n → Owned η π n ∨ (k = .fre ∧ d = .obj n) := fun hk o => (owned_set o).imp id fun z => ⟨hk z.1, z.2⟩
  have clo : imm p = true → K (.clo, p) → ∃ s, K s ∧ Here B (η.set i (some d)) (π.set i (some s)) st ∧ (∀ n, Owned (η.set i (some d)) (π.set i (some s)) n → Owned η π n ∨ (k = .fre ∧ d = .obj n)) := fun im kk => by
    have e := v.val.imm im
    exact ⟨(.clo, p), kk, h.setAny (k := .clo) ⟨e, v.bel⟩ (.inl rfl) (fun z => by cases z) i, fun n o => up (fun z => by cases z) o⟩
  cases k with
  | clo => exact ⟨(.clo, p), s, h.setAny (k := .clo) v (.inl rfl) (fun z => by cases z) i, fun n o => up (fun z => by cases z) o⟩
  | bor => exact ⟨(.bor, p), s, h.setAny (k := .bor) v (.inr (.inl rfl)) (fun z => by cases z) i, fun n o => up (fun z => by cases z) o⟩
  | own => exact clo s.1 s.2
  | lse => exact clo s.1 s.2
  | fre =>
    obtain ⟨n, e, l, o, b⟩ := v
    exact ⟨(.own, p), s, h.setAny (k := .own) ⟨n, e, Nat.le_trans hl l, o, b⟩ (.inr (.inr rfl)) (fun _ => f rfl) i, fun m o => up (fun _ => rfl) o⟩
theorem movW_ok {o : Option (Option (Kd × D))} {K : D → Prop} (h : movW o K) : ∃ x, o = some (some (.own, x)) ∧ K x := by
  unfold movW at h
  split at h
  · exact ⟨_, rfl, h⟩
  · exact h.elim
theorem mov_sim (h : Here B η π st) {j : Nat} {d x : D} (e1 : π[j]? = some (some (.own, x))) (e2 : η[j]? = some (some d)) (v : EV B B st .own d x) (i : Nat) : Here B (η.set i (some d)) ((π.set j none).set i (some (.own, x))) st := by
  have hj : j < π.length := by
    rcases Nat.lt_or_ge j π.length with z | z
    · exact z
    · rw [List.getElem?_eq_none z] at e1; cases e1
  have old : ∀ {k : Nat} {s : Kd × D}, (π.set j none)[k]? = some (some s) → π[k]? = some (some s) ∧ k ≠ j := fun {k s} e => by
    by_cases z : k = j
    · rw [z, List.getElem?_set_self hj] at e; cases e
    · rw [List.getElem?_set_ne (fun q => z q.symm)] at e; exact ⟨e, z⟩
  have oa : ∀ {k n : Nat}, OwnAt η (π.set j none) k n → OwnAt η π k n ∧ k ≠ j := fun {k n} o => by
    obtain ⟨⟨p, e⟩, e'⟩ := o
    obtain ⟨e3, z⟩ := old e
    exact ⟨⟨⟨p, e3⟩, e'⟩, z⟩
  have h2 : Here B η (π.set j none) st := ⟨h.sto, ⟨by rw [List.length_set]; exact h.rel.len, fun k kd p e => h.rel.slot k kd p (old e).1, fun a b n o1 o2 => h.rel.dis a b n (oa o1).1 (oa o2).1⟩, h.hB, h.h2⟩
  refine h2.setAny (k := .own) v (.inr (.inr rfl)) (fun _ n e o => ?_) i
  obtain ⟨k, o⟩ := o
  obtain ⟨o1, z⟩ := oa o
  exact z (h.rel.dis k j n o1 ⟨⟨x, e1⟩, by rw [e2, e]⟩)
theorem keep_set {i : Nat} {x : Option D} : Keep [i] η (η.set i x) := fun j hj => List.getElem?_set_ne fun z => hj (by rw [z]; exact List.mem_singleton.mpr rfl)
theorem sets_sim {lo : Nat} (hl : B ≤ lo) {Q : PE → Prop} : ∀ (is : List Nat) {ds : List D} {rs : List (Kd × D)} {η : Env} {π : PE}, Here B η π st → VS B lo st ds rs → (∀ x ∈ ds.zip rs, x.2.1 = .fre → ∀ n, x.1 = .obj n → ¬ Owned η π n) → setsW is rs π Q →
    ∃ η' π', setEs is ds η = some η' ∧ Here B η' π' st ∧ Keep is η η' ∧ Q π'
  | [], ds, rs, η, π, h, v, f, q => by
    cases rs with
    | cons _ _ => exact q.elim
    | nil =>
      cases ds with
      | cons _ _ => exact v.elim
      | nil => exact ⟨η, π, rfl, h, .refl, q⟩
  | i :: is, ds, rs, η, π, h, v, f, q => by
    cases rs with
    | nil => exact q.elim
    | cons kp rs =>
      cases ds with
      | nil => exact v.elim
      | cons d ds =>
        obtain ⟨s, q1, h1, o1⟩ := set_sim h v.1 hl (fun z n e => f (d, kp) (List.mem_cons_self ..) z n e) q i
        obtain ⟨η2, π2, e2, h2, k2, q2⟩ := sets_sim hl is h1 v.2.2 (fun x hx xk n xe o => by
          rcases o1 n o with z | ⟨z1, z2⟩
          · exact f x (List.mem_cons_of_mem _ hx) xk n xe z
          · exact v.2.1 z1 x hx xk (xe.trans z2.symm)) q1
        refine ⟨η2, π2, e2, h2, fun j hj => ?_, q2⟩
        rw [k2 j fun z => hj (List.mem_cons_of_mem _ z)]
        exact keep_set j fun z => hj (by rw [List.mem_singleton.mp z]; exact List.mem_cons_self ..)
theorem fre_free {lo : Nat} {d p : D} (h0 : Here B η π st) (g : GoodW B η π st π1 st1) (v : EV B st.length st1 .fre d p) : ∀ n, d = .obj n → ¬ Owned η π1 n := fun n e o => by
  obtain ⟨m, e2, l, _⟩ := v
  rw [e] at e2
  cases e2
  have := (h0.rel.own_lt ((Owned.kinds g.kinds).mp o)).2
  omega
theorem for_sim {C : Cst} {t : Tgt} {body : Env → Sto → Res Fl} {bodyW : PE → (FlW → Prop) → Prop} {M : List Nat} {η0 : Env} {π0 : PE} {st0 : Sto} {js : List Nat} {gs : Guards} (gv : GV B η0 π0 st0 js gs) (dj : ∀ j ∈ js, j ∉ tgN t ++ M)
    (hb : ∀ (η : Env) (π : PE) (st : Sto) (Q : FlW → Prop), Here B η π st → bodyW π Q → SimS B M η X st (body η st) Q) :
    ∀ (ds : List D) (η : Env) (π : PE) (st : Sto) (Q : FlW → Prop), Here B η π st → Bel ds → (∀ j ∈ js, η[j]? = η0[j]?) → (∀ n, 2 ≤ n → n < B → st.get n = st0.get n) → forW t bodyW (stayG js π0) ds π Q → SimS B (tgN t ++ M) η X st (forD t body gs ds η st) Q
  | [], η, π, st, Q, h, _, _, _, q => ⟨.nx π, ⟨h, .refl h.sto, .refl⟩, q⟩
  | d :: ds, η, π, st, Q, h, b, he, fr, q => by
    obtain ⟨π1, e1, q⟩ := optW_ok q
    obtain ⟨η1, f1, h1, i1⟩ := bind_here t h (b d (List.mem_cons_self ..)) e1
    have z := hb η1 π1 st _ h1 q
    have k1 : Keep (tgN t ++ M) η η1 := fun j hj => (i1.out j fun z => hj (List.mem_append_left _ z)).1
    simp only [forD, f1]
    cases r : body η1 st with
    | bad => rw [r] at z; exact z
    | exc c fs st' => rw [r] at z; exact z
    | ok fl st2 =>
      rw [r] at z
      obtain ⟨fw, f, q⟩ := z
      have next : ∀ {η2 : Env} {π2 : PE}, Here B η2 π2 st2 → Aft B st st2 → Keep M η1 η2 → stayG js π0 π2 ∧ forW t bodyW (stayG js π0) ds π2 Q → SimS B (tgN t ++ M) η X st (if guardOk st2 gs then forD t body gs ds η2 st2 else .bad) Q := fun {η2 π2} h2 a k2 q => by
        have k3 : Keep (tgN t ++ M) η η2 := fun j hj => (k2 j fun z => hj (List.mem_append_right _ z)).trans (k1 j hj)
        have he2 : ∀ j ∈ js, η2[j]? = η0[j]? := fun j hj => (k3 j (dj j hj)).trans (he j hj)
        have fr2 : ∀ n, 2 ≤ n → n < B → st2.get n = st0.get n := fun n x1 x2 => (a.fr n x1 x2).trans (fr n x1 x2)
        rw [if_pos (gv η2 π2 st2 he2 h2.rel q.1 fr2)]
        exact (for_sim (C := C) gv dj hb ds η2 π2 st2 Q h2 (fun x hx => b x (List.mem_cons_of_mem _ hx)) he2 fr2 q.2).after a k3
      cases fl <;> cases fw <;> try exact f.elim
      · exact next f.1 f.2.1 f.2.2 q
      · exact ⟨.rt _ _ _, ⟨f.1, f.2⟩, q⟩
      · exact ⟨.nx _, ⟨f.1, f.2.1, fun j hj => (f.2.2 j fun z => hj (List.mem_append_right _ z)).trans (k1 j hj)⟩, q⟩
      · exact next f.1 f.2.1 f.2.2 q
theorem whl_sim {C : Cst} {test : Env → Sto → Res D} {testW : PE → (Kd → D → PE → Prop) → Prop} {body : Env → Sto → Res Fl} {bodyW : PE → (FlW → Prop) → Prop} {M : List Nat}
    (ht : ∀ (η : Env) (π : PE) (st : Sto) (Q : Kd → D → PE → Prop), Here B η π st → testW π Q → SimR B η X (VE B) st.length π st (test η st) fun kp π' => Q kp.1 kp.2 π')
    (hb : ∀ (η : Env) (π : PE) (st : Sto) (Q : FlW → Prop), Here B η π st → bodyW π Q → SimS B M η X st (body η st) Q) :
    ∀ (n : Nat) (η : Env) (π : PE) (st : Sto) (Q : FlW → Prop), Here B η π st → whlW testW bodyW n π Q → SimS B M η X st (whlD test body n η st) Q
  | 0, η, π, st, Q, h, q => q.elim
  | n + 1, η, π, st, Q, h, q => by
    simp only [whlD]
    refine SimR.bindS h (ht η π st _ h q) fun x st1 kp π1 g v q1 => ?_
    obtain ⟨i, e, q⟩ := blW_ok q1
    have ed : x = .bl i := by rw [← e]; exact v.val.imm (by rw [e]; rfl)
    subst ed
    cases i with
    | false => exact ⟨.nx π1, ⟨g.here, .refl g.here.sto, .refl⟩, q⟩
    | true =>
      have z := hb η π1 st1 _ g.here q
      show SimS B M η X st1 ((body η st1).bind _) Q
      cases r : body η st1 with
      | bad => rw [r] at z; exact z
      | exc c fs st' => rw [r] at z; exact z
      | ok fl st2 =>
        rw [r] at z
        obtain ⟨fw, f, q⟩ := z
        cases fl <;> cases fw <;> try exact f.elim
        · exact (whl_sim (C := C) ht hb n _ _ st2 Q f.1 q).after f.2.1 f.2.2
        · exact ⟨_, f, q⟩
        · exact ⟨.nx _, f, q⟩
        · exact (whl_sim (C := C) ht hb n _ _ st2 Q f.1 q).after f.2.1 f.2.2
end
theorem isOwn_ok {o : Option (Option (Kd × D))} (h : isOwn o) : ∃ x, o = some (some (.own, x)) := by
  unfold isOwn at h
  split at h
  · exact ⟨_, rfl⟩
  · exact h.elim
theorem cloW_ok {o : Option (Option (Kd × D))} {K : D → Prop} (h : cloW o K) : ∃ x, o = some (some (.clo, x)) ∧ K x := by
  unfold cloW at h
  split at h
  · exact ⟨_, rfl, h⟩
  · exact h.elim
theorem sub_sim {B : Nat} {η : Env} {π : PE} {st : Sto} (h : Here B η π st) {j : Nat} {y v : D} {K : D → Prop} (by_ : below tt y = true) (bv : below tt v = true) (q : subW π[j]? y v K) :
    ∃ n z st', η[j]? = some (some (.obj n)) ∧ isub (.obj n) y v st = .ok () st' ∧ GoodW B η π st (π.set j (some (.own, z))) st' ∧ K z := by
  unfold subW at q
  split at q
  · rename_i xs e
    obtain ⟨n, e1, e2, b, _⟩ := wown_lst h e
    split at q
    · rename_i ys e3
      obtain ⟨e4, b4⟩ := subl_val e2 b bv e3
      exact ⟨n, _, _, e1, e4, h.put e e1 (o := .lst ys) (q := .lst ys) (of_bel b4) (below_lst.mpr b4) fun st' e l => ⟨l, .inl ⟨ys, e, rfl⟩⟩, q⟩
    · exact q.elim
  · rename_i xs e
    obtain ⟨n, e1, e2, b, _⟩ := wown_dct h e
    split at q
    · rename_i ys e3
      obtain ⟨e4, b4⟩ := subk_val e2 b by_ bv e3
      exact ⟨n, _, _, e1, e4, h.put e e1 (o := .dct ys) (q := .dct ys) ((belowk_iff ys).mpr b4) (below_dct.mpr b4) fun st' e l => ⟨l, .inr ⟨ys, e, rfl⟩⟩, q⟩
    · exact q.elim
  · exact q.elim
section
variable {C : Cst} {W : CW}
set_option maxHeartbeats 2001100 in
mutual
theorem simS (HC : SoundC C W) : ∀ (s : Sx) {B : Nat} {η : Env} {X : Xc} {π : PE} {st : Sto} {Q : FlW → Prop}, Here B η π st → execW W X s π Q → SimS B (setN s) η X st (execS C s η st) Q
  | .set i e, B, η, X, π, st, Q, h0, h => by
    simp only [execW] at h
    simp only [execS, setN]
    refine SimR.bindS h0 (simE HC e h0 h) fun d st1 kp π1 g v q => ?_
    obtain ⟨k, p⟩ := kp
    obtain ⟨s, q1, h1, _⟩ := set_sim g.here v h0.hB (fun z => by
      have z : k = .fre := z
      subst z
      exact fre_free (lo := 0) h0 g v) q i
    exact ⟨.nx _, ⟨h1, .refl h1.sto, keep_set⟩, q1⟩
  | .mov i j, B, η, X, π, st, Q, h0, h => by
    simp only [execW] at h
    simp only [execS, setN]
    obtain ⟨x, e1, q⟩ := movW_ok h
    obtain ⟨d, e2, v, _⟩ := h0.rel.slot j _ _ e1
    simp only [e2]
    exact ⟨.nx _, ⟨mov_sim h0 e1 e2 v i, .refl h0.sto, keep_set⟩, q⟩
  | .tset t e, B, η, X, π, st, Q, h0, h => by
    simp only [execW] at h
    simp only [execS, setN]
    refine SimR.bindS h0 (simE HC e h0 h) fun d st1 kp π1 g v ⟨s, q⟩ => ?_
    obtain ⟨π2, e2, q⟩ := optW_ok q
    have ed := sto_eq v s
    subst ed
    obtain ⟨η2, f2, h2, i2⟩ := bind_here t g.here v.bel e2
    simp only [f2]
    exact ⟨.nx _, ⟨h2, .refl h2.sto, fun j hj => (i2.out j hj).1⟩, q⟩
  | .par is es, B, η, X, π, st, Q, h0, h => by
    simp only [execW] at h
    simp only [execS, setN]
    refine SimR.bindS h0 (simEs HC es h0 h) fun ds st1 rs π1 g v q => ?_
    obtain ⟨η2, π2, e2, h2, k2, q2⟩ := sets_sim h0.hB is g.here v (fun x hx xk n xe o => by
      obtain ⟨m, e, l⟩ := v.fre x hx xk
      rw [xe] at e
      cases e
      have := (h0.rel.own_lt ((Owned.kinds g.kinds).mp o)).2
      omega) q
    simp only [e2]
    exact ⟨.nx _, ⟨h2, .refl h2.sto, k2⟩, q2⟩
  | .isub o i e, B, η, X, π, st, Q, h0, h => by
    cases o with
    | var j =>
      simp only [execW] at h
      simp only [execS, setN]
      refine SimR.bindS h0 (simE HC e h0 h) fun d st1 kp π1 g v ⟨s, ho, q⟩ => ?_
      have ed := sto_eq v s
      subst ed
      obtain ⟨x, e1⟩ := isOwn_ok ho
      obtain ⟨d1, e2, _, _⟩ := g.here.rel.slot j _ _ e1
      simp only [evalE, e2, ok_bind']
      refine SimR.bindS g.here (simE HC i g.here q) fun y st2 kq π2 g2 v2 ⟨im, q2⟩ => ?_
      have ey := v2.val.imm im
      subst ey
      obtain ⟨n, z, st', f1, f2, f3, q3⟩ := sub_sim g2.here v2.bel v.bel q2
      rw [e2] at f1
      cases f1
      rw [f2]
      exact ⟨.nx _, ⟨f3.here, f3.aft g2.here, .refl⟩, q3⟩
    | _ => simp only [execW] at h
  | .aug i o e, B, η, X, π, st, Q, h0, h => by
    simp only [execW] at h
    simp only [execS, setN]
    obtain ⟨x, e1, h⟩ := cloW_ok h
    obtain ⟨d1, e2, v0, _⟩ := h0.rel.slot i _ _ e1
    obtain ⟨rfl, b0⟩ := v0
    simp only [e2]
    refine SimR.bindS h0 (simE HC e h0 h) fun d st1 kp π1 g v q => ?_
    obtain ⟨a, ea, q⟩ := intW_ok q
    obtain ⟨b, eb, q⟩ := intW_ok q
    have ed : d = .int b := by rw [← eb]; exact v.val.imm (by rw [eb]; rfl)
    subst ed ea
    obtain ⟨r, s0, e3, q⟩ := resW_ok q
    obtain ⟨e4, b4⟩ := op2_val (st := st1) (d := .int a) (e := .int b) (.refl rfl) v.val e3
    show SimS B [i] η X st1 ((op2 o (.int a) (.int b) st1).bind _) Q
    rw [e4]
    have h1 := g.here.setClo b4 i
    exact ⟨.nx _, ⟨h1, .refl h1.sto, keep_set⟩, q⟩
  | .expr e, B, η, X, π, st, Q, h0, h => by
    simp only [execW] at h
    simp only [execS, setN]
    refine SimR.bindS h0 (simE HC e h0 h) fun d st1 kp π1 g v q => ?_
    exact ⟨.nx _, ⟨g.here, .refl g.here.sto, .refl⟩, q⟩
  | .ret e, B, η, X, π, st, Q, h0, h => by
    simp only [execW] at h
    simp only [execS, setN]
    refine SimR.bindS h0 (simE HC e h0 h) fun d st1 kp π1 g v q => ?_
    exact ⟨.rt kp.1 kp.2 π1, ⟨.refl g.here.sto, v.lo h0.hB⟩, q⟩
  | .retN, B, η, X, π, st, Q, h0, h => by
    simp only [execW] at h
    simp only [execS, setN]
    exact ⟨.rt .clo .non π, ⟨.refl h0.sto, rfl, rfl⟩, h⟩
  | .ite c a b, B, η, X, π, st, Q, h0, h => by
    simp only [execW] at h
    simp only [execS, setN]
    refine SimR.bindS h0 (simE HC c h0 h) fun d st1 kp π1 g v q => ?_
    obtain ⟨i, e, q⟩ := blW_ok q
    have ed : d = .bl i := by rw [← e]; exact v.val.imm (by rw [e]; rfl)
    subst ed
    cases i with
    | true => exact (simSs HC a g.here q).mono fun j hj => List.mem_append_left _ hj
    | false => exact (simSs HC b g.here q).mono fun j hj => List.mem_append_right _ hj
  | .whl c b, B, η, X, π, st, Q, h0, h => by
    simp only [execW] at h
    simp only [execS, setN]
    exact whl_sim (C := C) (fun η π st Q h q => simE HC c h q) (fun η π st Q h q => simSs HC b h q) _ η π st Q h0 h
  | .for_ t it b, B, η, X, π, st, Q, h0, h => by
    simp only [execW] at h
    simp only [execS, setN]
    refine SimR.bindS h0 (simI HC it h0 h) fun p st1 jd π1 g v ⟨dj, q⟩ => ?_
    obtain ⟨e1, b1, gv⟩ := v
    rw [e1] at b1 ⊢
    refine for_sim (C := C) gv (fun j hj => ?_) (fun η π st Q h q => simSs HC b h q) jd.2 η π1 st1 Q g.here b1 (fun _ _ => rfl) (fun _ _ _ => rfl) q
    unfold disN at dj
    rw [List.all_eq_true] at dj
    simpa using dj j hj
  | .unk, B, η, X, π, st, Q, h0, h => by
    simp only [execW] at h
  | .brk, B, η, X, π, st, Q, h0, h => by
    simp only [execW] at h
    simp only [execS, setN]
    exact ⟨.bk π, ⟨h0, .refl h0.sto, .refl⟩, h⟩
  | .cont, B, η, X, π, st, Q, h0, h => by
    simp only [execW] at h
    simp only [execS, setN]
    exact ⟨.ct π, ⟨h0, .refl h0.sto, .refl⟩, h⟩
  | .pass, B, η, X, π, st, Q, h0, h => by
    simp only [execW] at h
    simp only [execS, setN]
    exact ⟨.nx π, ⟨h0, .refl h0.sto, .refl⟩, h⟩
theorem simSs (HC : SoundC C W) : ∀ (ss : List Sx) {B : Nat} {η : Env} {X : Xc} {π : PE} {st : Sto} {Q : FlW → Prop}, Here B η π st → execsW W X ss π Q → SimS B (setNs ss) η X st (execs C ss η st) Q
  | [], B, η, X, π, st, Q, h0, h => by
    simp only [execsW] at h
    simp only [execs, setNs]
    exact ⟨.nx π, ⟨h0, .refl h0.sto, .refl⟩, h⟩
  | s :: ss, B, η, X, π, st, Q, h0, h => by
    simp only [execsW] at h
    simp only [execs, setNs]
    have z := (simS HC s h0 h).mono (M := setN s ++ setNs ss) fun j hj => List.mem_append_left _ hj
    cases r : execS C s η st with
    | bad => rw [r] at z; exact z
    | exc c fs st' => rw [r] at z; exact z
    | ok fl st1 =>
      rw [r] at z
      obtain ⟨fw, f, q⟩ := z
      cases fl <;> cases fw <;> try exact f.elim
      · exact ((simSs HC ss f.1 q).mono fun j hj => List.mem_append_right _ hj).after f.2.1 f.2.2
      · exact ⟨_, f, q⟩
      · exact ⟨_, f, q⟩
      · exact ⟨_, f, q⟩
end
end
theorem args_len {st : Sto} : ∀ {as : List (Kd × D)} {ds : List D}, Args st as ds → as.length = ds.length
  | [], [], _ => rfl
  | _ :: as, _ :: ds, h => by rw [List.length_cons, List.length_cons, args_len h.2]
  | [], _ :: _, h => h.elim
  | _ :: _, [], h => h.elim
theorem args_get {st : Sto} (h2 : tt ≤ st.length) : ∀ {as : List (Kd × D)} {ds : List D} (i : Nat) {k : Kd} {p : D}, Args st as ds → as[i]? = some (k, p) → ∃ d, ds[i]? = some d ∧ EV st.length st.length st k d p ∧ (k = .clo ∨ k = .bor)
  | [], _, i, k, p, _, e => by cases e
  | (k0, p0) :: as, [], i, k, p, h, _ => h.elim
  | (k0, p0) :: as, d :: ds, 0, k, p, h, e => by
    have e : some (k0, p0) = some (k, p) := e
    have h1 := h.1
    injection e with e
    injection e with e1 e2
    subst e1 e2
    refine ⟨d, rfl, ?_⟩
    cases k0 with
    | clo => exact ⟨h1, .inl rfl⟩
    | bor => exact ⟨⟨h1, fun n e => by
        have h1 : Val st d p0 := h1
        obtain ⟨b, z | ⟨m, z, o⟩⟩ := h1
        · rw [e] at z
          rw [← z] at b
          have : n < tt := by simpa [below] using b
          omega
        · rw [e] at z
          cases z
          exact o.lt⟩, .inr rfl⟩
    | _ => exact h1.elim
  | _ :: as, d :: ds, i + 1, k, p, h, e => args_get h2 i h.2 e
/-- a call's start -/
theorem start_here {st : Sto} {as : List (Kd × D)} {ds : List D} {m : Nat} (s : StoOk st) (h2 : tt ≤ st.length) (a : Args st as ds) : Here st.length (ds.map some ++ List.replicate m none) (as.map some ++ List.replicate m none) st := by
  have hl := args_len a
  refine ⟨s, ⟨by simp [hl], fun i k p e => ?_, fun i j n o _ => ?_⟩, Nat.le_refl _, h2⟩
  · by_cases hi : i < as.length
    · rw [List.getElem?_append_left (by simpa using hi), List.getElem?_map] at e
      obtain ⟨kp, e1, e2⟩ := Option.map_eq_some_iff.mp e
      cases e2
      obtain ⟨d, e3, v, hk⟩ := args_get h2 i a e1
      refine ⟨d, ?_, v, hk.imp id .inl⟩
      rw [List.getElem?_append_left (by simpa [← hl] using hi), List.getElem?_map, e3]
      rfl
    · rw [List.getElem?_append_right (by simpa using hi), List.getElem?_replicate] at e
      split at e <;> cases e
  · obtain ⟨⟨p, e⟩, _⟩ := o
    exfalso
    by_cases hi : i < as.length
    · rw [List.getElem?_append_left (by simpa using hi), List.getElem?_map] at e
      obtain ⟨kp, e1, e2⟩ := Option.map_eq_some_iff.mp e
      cases e2
      obtain ⟨d, e3, v, hk⟩ := args_get h2 i a e1
      rcases hk with z | z <;> cases z
    · rw [List.getElem?_append_right (by simpa using hi), List.getElem?_replicate] at e
      split at e <;> cases e
def PrimOk (P : Prg) (pr : Prims) : Prop := ∀ n f w, pr n f = some w → (∀ g, Sound (callD P n g) (callW P pr n g)) → Sound (callD P (n + 1) f) w
theorem ret_rv {B : Nat} {st : Sto} {k : Kd} {d p : D} (v : EV B B st k d p) : RV B st (retK k p) d p := by
  have gen : Val st d p → RV B st (if imm p then Kd.clo else .lse) d p := fun v => by
    cases i : imm p with
    | true => exact ⟨v.imm i, v.1⟩
    | false => exact v
  cases k with
  | clo => exact v
  | bor => exact gen v.1
  | own => exact v
  | lse => exact gen v
  | fre => exact v
omit T in
theorem callW_sound {P : Prg} {pr : Prims} (hP : ∀ x ∈ P.glbs, below 2 x = true) (hp : PrimOk P pr) : ∀ (n f : Nat), Sound (callD P n f) (callW P pr n f)
  | 0, f => fun as ds st X Q h _ _ _ => h.elim
  | n + 1, f => by
    have ih := callW_sound hP hp n
    intro as ds st X Q h s h2 a
    simp only [callW] at h
    split at h
    · rename_i w e
      exact hp n f w e ih as ds st X Q h s h2 a
    · split at h
      · rename_i d e
        obtain ⟨hl, h⟩ := h
        have HC : SoundC ⟨P.glbs, callD P n⟩ ⟨P.glbs, callW P pr n⟩ := ⟨rfl, hP, ih⟩
        have z := simSs HC d.body (start_here (m := d.ns - d.np) s h2 a) h
        simp only [callD, e]
        rw [if_pos (by rw [← args_len a]; exact hl)]
        cases r : execs ⟨P.glbs, callD P n⟩ d.body (ds.map some ++ List.replicate (d.ns - d.np) none) st with
        | bad => rw [r] at z; exact z
        | exc c fs st' =>
          rw [r] at z
          obtain ⟨aft, b, _, x⟩ := z
          exact ⟨⟨aft.sto, aft.le, aft.fr⟩, b, x⟩
        | ok fl st' =>
          rw [r] at z
          obtain ⟨fw, f, q⟩ := z
          cases fl <;> cases fw <;> first | exact f.elim | exact q.elim | skip
          · exact ⟨.clo, .non, ⟨f.2.1.sto, f.2.1.le, f.2.1.fr⟩, ⟨rfl, rfl⟩, q⟩
          · exact ⟨_, _, ⟨f.1.sto, f.1.le, f.1.fr⟩, ret_rv f.2, q⟩
      · exact h.elim
omit T in
/-- the law's own call: the cells are opened first -/
theorem law_sound {P : Prg} {pr : Prims} (hP : ∀ x ∈ P.glbs, below 2 x = true) (hp : PrimOk P pr) {n io il m : Nat} {ns : List Int} {rest : List Sx} (hd : P.defs[il]? = some ⟨1, m + 2, .set 1 (.call io [.var 0]) :: rest⟩)
    (ho : ∃ b : Bs, callD P n io [.scr ns] [] = .ok (.obj 1) (bs b) ∧ b.cs.length ≤ 63)
    (h : execsW ⟨P.glbs, callW P pr n⟩ noX rest (some (.clo, .scr ns) :: some (.clo, .obj 1) :: List.replicate m none) fun fl => match fl with
      | .rt _ x _ => x = .bl true
      | _ => False) : ∃ st, callD P (n + 1) il [.scr ns] [] = .ok (.bl true) st := by
  obtain ⟨b, eo, hb⟩ := ho
  letI : Thr := ⟨2, Nat.le_refl 2⟩
  have HC : SoundC ⟨P.glbs, callD P n⟩ ⟨P.glbs, callW P pr n⟩ := ⟨rfl, hP, callW_sound hP hp n⟩
  have here : Here 2 (some (.scr ns) :: some (.obj 1) :: List.replicate m none) (some (.clo, .scr ns) :: some (.clo, .obj 1) :: List.replicate m none) (bs b) := by
    refine ⟨⟨[], b, rfl, hb, fun n o h e => by have := get_lt e; simp [bs] at this; omega⟩, ⟨by simp, fun i k p e => ?_, fun i j n o _ => ?_⟩, by simp [bs], Nat.le_refl _⟩
    · match i, e with
      | 0, e => cases e; exact ⟨_, rfl, ⟨rfl, rfl⟩, .inl rfl⟩
      | 1, e => cases e; exact ⟨_, rfl, ⟨rfl, rfl⟩, .inl rfl⟩
      | i + 2, e =>
        rw [List.getElem?_cons_succ, List.getElem?_cons_succ, List.getElem?_replicate] at e
        split at e <;> cases e
    · obtain ⟨⟨p, e⟩, _⟩ := o
      exfalso
      match i, e with
      | 0, e => cases e
      | 1, e => cases e
      | i + 2, e =>
        rw [List.getElem?_cons_succ, List.getElem?_cons_succ, List.getElem?_replicate] at e
        split at e <;> cases e
  have z := simSs HC rest here h
  have e0 : execs ⟨P.glbs, callD P n⟩ (.set 1 (.call io [.var 0]) :: rest) (some (.scr ns) :: none :: List.replicate m none) [] = execs ⟨P.glbs, callD P n⟩ rest (some (.scr ns) :: some (.obj 1) :: List.replicate m none) (bs b) := by
    rw [execs]
    have : execS ⟨P.glbs, callD P n⟩ (.set 1 (.call io [.var 0])) (some (.scr ns) :: none :: List.replicate m none) [] = .ok (.nx (some (.scr ns) :: some (.obj 1) :: List.replicate m none)) (bs b) := by
      have e2 : evalE ⟨P.glbs, callD P n⟩ (.call io [.var 0]) (some (.scr ns) :: none :: List.replicate m none) [] = .ok (.obj 1) (bs b) := by
        simp only [evalE, evalEs, List.getElem?_cons_zero, ok_bind', eo]
      rw [execS, e2]
      rfl
    rw [this]
    rfl
  have e1 : callD P (n + 1) il [.scr ns] [] = (execs ⟨P.glbs, callD P n⟩ rest (some (.scr ns) :: some (.obj 1) :: List.replicate m none) (bs b)).bind fun fl st => match fl with
      | .nx _ => .ok .non st
      | .rt x => .ok x st
      | _ => .bad := by
    simp only [callD, hd]
    rw [if_pos (show [D.scr ns].length = 1 from rfl), ← e0]
    have : m + 2 - 1 = m + 1 := by omega
    rw [this]
    rfl
  rw [e1]
  cases r : execs ⟨P.glbs, callD P n⟩ rest (some (.scr ns) :: some (.obj 1) :: List.replicate m none) (bs b) with
  | bad => rw [r] at z; exact z.elim
  | exc c fs st' =>
    rw [r] at z
    obtain ⟨_, _, _, x⟩ := z
    exact x.elim
  | ok fl st' =>
    rw [r] at z
    obtain ⟨fw, f, q⟩ := z
    cases fl <;> cases fw <;> first | exact f.elim | exact q.elim | skip
    · rename_i d k p π'
      have q : p = .bl true := q
      have := f.2.val.imm (by rw [q]; rfl)
      rw [q] at this
      exact ⟨st', by rw [this]; rfl⟩
end Dv
namespace Dv
open PySem (Str)
def pickW : CallW := fun as _ Q => match as with
  | [(.clo, .obj 1), (.clo, .int m)] => m.natAbs < 18446744073709551616 ∧ ∀ v : Int, 0 ≤ v → (2 ≤ m → v < m) → (m < 2 → v = 0) → Q .clo (.int v)
  | _ => False
theorem bs_fr {top : Sto} {b b' : Bs} {k : Nat} (k2 : 2 ≤ k) : (top ++ bs b').get k = (top ++ bs b).get k := by
  unfold Sto.get
  rw [bs_len, bs_len]
  by_cases kl : k < top.length + 2
  · rw [if_pos kl, if_pos kl, List.getElem?_append_left (by omega), List.getElem?_append_left (by omega)]
  · rw [if_neg kl, if_neg kl]
theorem pick_sound {P : Prg} {ip n : Nat} (h : P.defs[ip]? = some ⟨2, 6, b_pick⟩) : Sound (callD P (n + 1) ip) pickW := by
  intro T as ds st X Q w s h2 a
  unfold pickW at w
  split at w
  · rename_i m
    obtain ⟨hm, w⟩ := w
    match ds, a with
    | [d1, d2], ⟨⟨e1, _⟩, ⟨e2, _⟩, _⟩ =>
      have e1 : d1 = .obj 1 := e1
      have e2 : d2 = .int m := e2
      subst e1 e2
      obtain ⟨top, b, rfl, hb, ht⟩ := s
      obtain ⟨v, b', e, h1, h2⟩ := pick_ok (n := n) h b top m hb hm
      have e : callD P (n + 1) ip [.obj 1, .int m] (top ++ bs b) = .ok (.int v) (top ++ bs b') := e
      rw [e]
      obtain ⟨q1, q2, q3⟩ := h2
      exact ⟨.clo, .int v, ⟨⟨top, b', rfl, h1, fun k o k2 ek => by rw [bs_len] at ht ⊢; rw [bs_fr k2] at ek; exact ht k o k2 ek⟩, by rw [bs_len, bs_len]; exact Nat.le_refl _, fun k k2 kl => bs_fr k2⟩, ⟨rfl, rfl⟩, w v q1 q2 q3⟩
  · exact w.elim
end Dv
namespace Dv
open PySem (Str)
inductive All2 {α β : Type} (R : α → β → Prop) : List α → List β → Prop
  | nil : All2 R [] []
  | cons {a : α} {b : β} {as : List α} {bs : List β} : R a b → All2 R as bs → All2 R (a :: as) (b :: bs)
section
variable {α β : Type} {P R : Prop}
theorem ifB_t : ifB true P R = P := rfl
theorem ifB_f : ifB false P R = R := rfl
theorem ifB_of {b : Bool} (h1 : b = true → P) (h2 : b = false → R) : ifB b P R := by
  cases b with
  | true => exact h1 rfl
  | false => exact h2 rfl
theorem optW_some {a : α} {Q : α → Prop} : optW (some a) Q = Q a := rfl
theorem resW_okk {a : α} {s : Sto} {Q : α → Prop} : resW (.ok a s) Q = Q a := rfl
theorem blW_bl {a : Bool} {Q : Bool → Prop} : blW (.bl a) Q = Q a := rfl
theorem intW_int {a : Int} {Q : Int → Prop} : intW (.int a) Q = Q a := rfl
end
theorem stay_refl {k : Kd} {π : PE} : stay k π π = True := by cases k <;> simp [stay]
theorem stay_clo {π π' : PE} : stay .clo π π' = True := rfl
theorem stay_bor {π π' : PE} : stay .bor π π' = True := rfl
theorem gdW_clo {e : Ex} {Q : List Nat → Prop} : gdW .clo e Q = Q [] := rfl
theorem gdW_bor {e : Ex} {Q : List Nat → Prop} : gdW .bor e Q = Q [] := rfl
theorem gdW_own {j : Nat} {Q : List Nat → Prop} : gdW .own (.var j) Q = Q [j] := rfl
theorem stoL_app {a b : List (Kd × D)} : stoL (a ++ b) = (stoL a ∧ stoL b) := by
  induction a with
  | nil => simp [stoL]
  | cons x a ih => simp only [List.cons_append, stoL, ih, and_assoc]
theorem stoL_clo {xs : List D} : stoL (xs.map fun d => (Kd.clo, d)) = True := by
  induction xs with
  | nil => rfl
  | cons x xs ih => simp only [List.map_cons, stoL, sto, ih, and_self]
theorem snd_clo {xs : List D} : (xs.map fun d => (Kd.clo, d)).map (fun p => p.2) = xs := by
  rw [List.map_map]
  exact List.map_id _
theorem sto_clo {d : D} : sto .clo d = True := rfl
/-- an argument -/
def AK (k : Kd) : Prop := k = .clo ∨ k = .bor
theorem gdW_ak {k : Kd} (h : AK k) {e : Ex} {Q : List Nat → Prop} : gdW k e Q = Q [] := by rcases h with rfl | rfl <;> rfl
theorem argK_clo {d : D} : argK .clo d = .clo := rfl
def compS (C : CW) (own : List Nat) (tg : Tgt) (cs : List Ex) (e : Ex) : D → PE → (List D → PE → Prop) → Prop := eltW own tg (condsW C cs) (evalW C noX e)
def compIS (C : CW) (tg : Tgt) (cs : List Ex) (e : Ex) : D → PE → (List D → PE → Prop) → Prop := eltIW tg (condsW C cs) (evalW C noX e)
def comp2S (C : CW) (own : List Nat) (tg : Tgt) (cs : List Ex) (tg2 : Tgt) (it2 : Ex) (cs2 : List Ex) (e : Ex) : D → PE → (List D → PE → Prop) → Prop := fun d π2 K =>
  optW (bindW tg d (wipeW π2 own)) fun π3 => condsW C cs π3 fun b π4 => ifB b (evalIW C noX it2 π4 fun gs2 es π5 => es.length ≤ LIM ∧ compW (compIS C tg2 cs2 e) (stayG gs2 π5) es π5 fun rs π10 => K rs (back π2 own π10)) (K [] (back π2 own π4))
def compKS (C : CW) (own : List Nat) (tg : Tgt) (cs : List Ex) (k e : Ex) : D → PE → (List (D × D) → PE → Prop) → Prop := eltKW own tg (condsW C cs) (evalW C noX k) (evalW C noX e)
theorem compS_at {C : CW} {own : List Nat} {tg : Tgt} {cs : List Ex} {e : Ex} {d : D} {π2 : PE} {K : List D → PE → Prop} : compS C own tg cs e d π2 K =
  (optW (bindW tg d (wipeW π2 own)) fun π3 => condsW C cs π3 fun b π4 => ifB b (evalW C noX e π4 fun k x π5 => sto k x ∧ K [x] (back π2 own π5)) (K [] (back π2 own π4))) := rfl
theorem compIS_at {C : CW} {tg : Tgt} {cs : List Ex} {e : Ex} {d : D} {π2 : PE} {K : List D → PE → Prop} : compIS C tg cs e d π2 K =
  (optW (bindW tg d π2) fun π3 => condsW C cs π3 fun b π4 => ifB b (evalW C noX e π4 fun k x π5 => sto k x ∧ K [x] (back π2 (tgN tg) π5)) (K [] (back π2 (tgN tg) π4))) := rfl
theorem comp2S_at {C : CW} {own : List Nat} {tg tg2 : Tgt} {cs cs2 : List Ex} {it2 e : Ex} {d : D} {π2 : PE} {K : List D → PE → Prop} : comp2S C own tg cs tg2 it2 cs2 e d π2 K =
  (optW (bindW tg d (wipeW π2 own)) fun π3 => condsW C cs π3 fun b π4 => ifB b (evalIW C noX it2 π4 fun gs2 es π5 => es.length ≤ LIM ∧ compW (compIS C tg2 cs2 e) (stayG gs2 π5) es π5 fun rs π10 => K rs (back π2 own π10)) (K [] (back π2 own π4))) := rfl
theorem compKS_at {C : CW} {own : List Nat} {tg : Tgt} {cs : List Ex} {kx e : Ex} {d : D} {π2 : PE} {K : List (D × D) → PE → Prop} : compKS C own tg cs kx e d π2 K =
  (optW (bindW tg d (wipeW π2 own)) fun π3 => condsW C cs π3 fun b π4 => ifB b (evalW C noX kx π4 fun _ x π5 => evalW C noX e π5 fun k2 y π6 => sto k2 y ∧ keyOk x = true ∧ K [(x, y)] (back π2 own π6)) (K [] (back π2 own π4))) := rfl
def bodyS (C : CW) (X : Xc) (b : List Sx) : PE → (FlW → Prop) → Prop := execsW C X b
theorem bodyS_at {C : CW} {X : Xc} {b : List Sx} {π : PE} {K : FlW → Prop} : bodyS C X b π K = execsW C X b π K := rfl
def testS (C : CW) (X : Xc) (b : Ex) : PE → (Kd → D → PE → Prop) → Prop := evalW C X b
theorem testS_at {C : CW} {X : Xc} {b : Ex} {π : PE} {K : Kd → D → PE → Prop} : testS C X b π K = evalW C X b π K := rfl
section
variable {C : CW} {X : Xc} {π : PE}
theorem lw_comp {own : List Nat} {tg : Tgt} {it e : Ex} {cs : List Ex} {Q : List D → PE → Prop} : evalLW C X (.comp own tg it cs e) π Q = (subN (tgN tg) own = true ∧ evalIW C X it π fun gs ds π1 => ds.length ≤ LIM ∧ compW (compS C own tg cs e) (stayG gs π1) ds π1 Q) := by rw [evalLW]; rfl
theorem lw_comp2 {own : List Nat} {tg tg2 : Tgt} {it it2 e : Ex} {cs cs2 : List Ex} {Q : List D → PE → Prop} : evalLW C X (.comp2 own tg it cs tg2 it2 cs2 e) π Q = (subN (tgN tg) own = true ∧ subN (tgN tg2) own = true ∧ evalIW C X it π fun gs ds π1 => ds.length ≤ LIM ∧ compW (comp2S C own tg cs tg2 it2 cs2 e) (stayG gs π1) ds π1 fun rs π2 => rs.length ≤ LIM ∧ Q rs π2) := by rw [evalLW]; rfl
theorem lw_disp {es : List Ex} {Q : List D → PE → Prop} : evalLW C X (.disp es) π Q = (evalsW C X es π fun rs π1 => stoL rs ∧ rs.length ≤ LIM ∧ Q (rs.map (·.2)) π1) := by rw [evalLW]
theorem lw_walk {a : Ex} {Q : List D → PE → Prop} : evalLW C X (.lstR a) π Q = (evalW C X a π fun _ x π1 => intW x fun i => rngOk i = true ∧ i.toNat ≤ LIM ∧ Q (rngL 0 i.toNat) π1) := by rw [evalLW]
theorem lw_bltl {b : Blt} {es : List Ex} {Q : List D → PE → Prop} : evalLW C X (.bltl b es) π Q = (evalsW C X es π fun rs π1 => resW (bltL b (rs.map (·.2)) []) fun ds => Q ds π1) := by rw [evalLW]
theorem lw_add {a b : Ex} {Q : List D → PE → Prop} : evalLW C X (.add a b) π Q = (evalW C X a π fun k x π1 => evalW C X b π1 fun _ y π2 => stay k π1 π2 ∧ optW (lstOf [] x) fun xs => optW (lstOf [] y) fun ys => xs.length + ys.length ≤ LIM ∧ Q (xs ++ ys) π2) := by rw [evalLW]
theorem lw_rev {a : Ex} {Q : List D → PE → Prop} : evalLW C X (.rev a) π Q = (evalW C X a π fun _ x π1 => optW (lstOf [] x) fun xs => Q xs.reverse π1) := by rw [evalLW]
theorem kw_disp {kvs : List Ex} {Q : List (D × D) → PE → Prop} : evalKW C X (.disp kvs) π Q = (evalPW C X kvs π fun ps π1 => (ps.all fun p => keyOk p.1) = true ∧ Q (mkDict ps) π1) := by rw [evalKW]
theorem kw_comp {own : List Nat} {tg : Tgt} {it kx e : Ex} {cs : List Ex} {Q : List (D × D) → PE → Prop} : evalKW C X (.comp own tg it cs kx e) π Q = (subN (tgN tg) own = true ∧ evalIW C X it π fun gs ds π1 => compKW (compKS C own tg cs kx e) (stayG gs π1) ds π1 fun ps π7 => ps.length ≤ LIM ∧ Q (mkDict ps) π7) := by rw [evalKW]; rfl
theorem kw_val {e : Ex} {Q : List (D × D) → PE → Prop} : evalKW C X (.val e) π Q = (evalW C X e π fun _ x π1 => optW ((lstOf [] x).bind prsOf) fun ps => Q (mkDict ps) π1) := by rw [evalKW]
theorem x_set {i : Nat} {e : Ex} {Q : FlW → Prop} : execW C X (.set i e) π Q = evalW C X e π fun k x π1 => setW k x fun s => Q (.nx (π1.set i (some s))) := by rw [execW]
theorem x_mov {i j : Nat} {Q : FlW → Prop} : execW C X (.mov i j) π Q = movW π[j]? fun x => Q (.nx ((π.set j none).set i (some (.own, x)))) := by rw [execW]
theorem freW_fre {xs : List D} {K : List D → Prop} : freW .fre (.lst xs) K = K xs := rfl
theorem movW_own {x : D} {K : D → Prop} : movW (some (some (.own, x))) K = K x := rfl
theorem x_tset {t : Tgt} {e : Ex} {Q : FlW → Prop} : execW C X (.tset t e) π Q = evalW C X e π fun k x π1 => sto k x ∧ optW (bindW t x π1) fun π2 => Q (.nx π2) := by rw [execW]
theorem x_par {is : List Nat} {es : List Ex} {Q : FlW → Prop} : execW C X (.par is es) π Q = evalsW C X es π fun rs π1 => setsW is rs π1 fun π2 => Q (.nx π2) := by rw [execW]
theorem x_isub {j : Nat} {i e : Ex} {Q : FlW → Prop} : execW C X (.isub (.var j) i e) π Q = evalW C X e π fun k v π1 => sto k v ∧ isOwn π1[j]? ∧ evalW C X i π1 fun _ y π2 => imm y = true ∧ subW π2[j]? y v fun z => Q (.nx (π2.set j (some (.own, z)))) := by rw [execW]
theorem x_aug {i : Nat} {o : Op2} {e : Ex} {Q : FlW → Prop} : execW C X (.aug i o e) π Q = cloW π[i]? fun x => evalW C X e π fun _ y π1 => intW x fun _ => intW y fun _ => resW (op2 o x y []) fun z => Q (.nx (π1.set i (some (.clo, z)))) := by rw [execW]
theorem x_expr {e : Ex} {Q : FlW → Prop} : execW C X (.expr e) π Q = evalW C X e π fun _ _ π1 => Q (.nx π1) := by rw [execW]
theorem x_ret {e : Ex} {Q : FlW → Prop} : execW C X (.ret e) π Q = evalW C X e π fun k x π1 => Q (.rt k x π1) := by rw [execW]
theorem x_retN {Q : FlW → Prop} : execW C X .retN π Q = Q (.rt .clo .non π) := by rw [execW]
theorem x_ite {c : Ex} {a b : List Sx} {Q : FlW → Prop} : execW C X (.ite c a b) π Q = evalW C X c π fun _ x π1 => blW x fun t => ifB t (execsW C X a π1 Q) (execsW C X b π1 Q) := by rw [execW]
theorem x_whl {c : Ex} {b : List Sx} {Q : FlW → Prop} : execW C X (.whl c b) π Q = whlW (testS C X c) (bodyS C X b) LAPS π Q := by rw [execW]; rfl
theorem x_for {t : Tgt} {it : Ex} {b : List Sx} {Q : FlW → Prop} : execW C X (.for_ t it b) π Q = evalIW C X it π fun gs ds π1 => disN gs (tgN t ++ setNs b) = true ∧ forW t (bodyS C X b) (stayG gs π1) ds π1 Q := by rw [execW]; rfl
theorem x_brk {Q : FlW → Prop} : execW C X .brk π Q = Q (.bk π) := by rw [execW]
theorem x_cont {Q : FlW → Prop} : execW C X .cont π Q = Q (.ct π) := by rw [execW]
theorem x_pass {Q : FlW → Prop} : execW C X .pass π Q = Q (.nx π) := by rw [execW]
theorem x_nil {Q : FlW → Prop} : execsW C X [] π Q = Q (.nx π) := by rw [execsW]
theorem x_cons {s : Sx} {ss : List Sx} {Q : FlW → Prop} : execsW C X (s :: ss) π Q = execW C X s π fun fl => match fl with
    | .nx π1 => execsW C X ss π1 Q
    | fl => Q fl := by rw [execsW] <;> rfl
end
theorem bindW_nm {i : Nat} {d : D} {π : PE} : bindW (.nm i) d π = some (π.set i (some (.clo, d))) := by rw [bindW]
theorem bindW_tp {ts : List Tgt} {ds : List D} {π : PE} : bindW (.tp ts) (.tup ds) π = bindWs ts ds π := by rw [bindW]
theorem bindWs_nil {π : PE} : bindWs [] [] π = some π := by rw [bindWs]
theorem bindWs_cons {t : Tgt} {ts : List Tgt} {d : D} {ds : List D} {π : PE} : bindWs (t :: ts) (d :: ds) π = (bindW t d π).bind (bindWs ts ds) := by rw [bindWs]
theorem bind_some' {α β : Type} {a : α} {f : α → Option β} : (some a).bind f = f a := rfl
theorem wipeW_nil {π : PE} : wipeW π [] = π := rfl
theorem wipeW_cons {π : PE} {v : Nat} {vs : List Nat} : wipeW π (v :: vs) = (wipeW π vs).set v none := rfl
def backAt (o : Option (Option (Kd × D))) : Option (Kd × D) := match o with
  | some s => s
  | none => none
theorem backAt_some {s : Option (Kd × D)} : backAt (some s) = s := rfl
theorem back_nil {π π' : PE} : back π [] π' = π' := rfl
theorem back_cons {π π' : PE} {v : Nat} {vs : List Nat} : back π (v :: vs) π' = (back π vs π').set v (backAt π[v]?) := rfl
theorem setW_clo {x : D} {K : Kd × D → Prop} : setW .clo x K = K (.clo, x) := rfl
theorem setW_fre {x : D} {K : Kd × D → Prop} : setW .fre x K = K (.own, x) := rfl
theorem setW_bor {x : D} {K : Kd × D → Prop} : setW .bor x K = K (.bor, x) := rfl
theorem setW_own {x : D} {K : Kd × D → Prop} : setW .own x K = (imm x = true ∧ K (.clo, x)) := rfl
theorem setsW_nil {π : PE} {Q : PE → Prop} : setsW [] [] π Q = Q π := rfl
theorem setsW_cons {i : Nat} {is : List Nat} {p : Kd × D} {ps : List (Kd × D)} {π : PE} {Q : PE → Prop} : setsW (i :: is) (p :: ps) π Q = setW p.1 p.2 fun s => setsW is ps (π.set i (some s)) Q := rfl
theorem clzK_clo : clzK .clo = .clo := rfl
theorem clzK_fre : clzK .fre = .clo := rfl
theorem clzK_lse : clzK .lse = .lse := rfl
theorem retK_clo {x : D} : retK .clo x = .clo := rfl
theorem retK_own {x : D} : retK .own x = .fre := rfl
theorem retK_fre {x : D} : retK .fre x = .fre := rfl
section
variable {x : Str} {i : Int} {b : Bool} {n : Nat} {xs : List D}
theorem imm_str : imm (.str x) = true := rfl
theorem imm_int : imm (.int i) = true := rfl
theorem imm_bl : imm (.bl b) = true := rfl
theorem imm_non : imm .non = true := rfl
theorem imm_tup : imm (.tup xs) = true := rfl
theorem imm_obj : imm (.obj n) = true := rfl
theorem imm_lst : imm (.lst xs) = false := rfl
theorem isTok_str : isTok (.str x) = false := rfl
theorem isTok_int : isTok (.int i) = false := rfl
theorem isTok_bl : isTok (.bl b) = false := rfl
theorem isTok_non : isTok .non = false := rfl
theorem isTok_tup : isTok (.tup xs) = false := rfl
theorem isTok_lst : isTok (.lst xs) = false := rfl
theorem isOwn_own {x : D} : isOwn (some (some (.own, x))) = True := rfl
theorem isOwnL_own : isOwnL (some (some (.own, .lst xs))) = True := rfl
end
section
variable {α β : Type} {f : D → PE → (List D → PE → Prop) → Prop} {chk : PE → Prop} {π : PE} {Q : List D → PE → Prop}
theorem compW_gen {xs : List α} {e : α → D} {R : α → List D → Prop} (hc : chk π) (h : ∀ x ∈ xs, ∀ K : List D → PE → Prop, (∀ r, R x r → K r π) → f (e x) π K)
    (q : ∀ rs : List (List D), All2 R xs rs → Q rs.flatten π) : compW f chk (xs.map e) π Q := by
  induction xs generalizing Q with
  | nil => exact q [] .nil
  | cons x xs ih =>
    refine h x (List.mem_cons_self ..) _ fun r hr => ⟨hc, ?_⟩
    refine ih (fun y hy => h y (List.mem_cons_of_mem _ hy)) fun rs hrs => ?_
    exact q (r :: rs) (.cons hr hrs)
theorem compW_filter {xs : List α} {e : α → D} (p : α → Bool) (g : α → D) (hc : chk π) (h : ∀ x ∈ xs, ∀ K : List D → PE → Prop, ifB (p x) (K [g x] π) (K [] π) → f (e x) π K) (q : Q ((xs.filter p).map g) π) : compW f chk (xs.map e) π Q := by
  refine compW_gen (R := fun x r => r = if p x then [g x] else []) hc (fun x hx K k => h x hx K ?_) fun rs hrs => ?_
  · cases hp : p x with
    | true => exact k _ (by rw [hp]; rfl)
    | false => exact k _ (by rw [hp]; rfl)
  · have : rs.flatten = (xs.filter p).map g := by
      clear h q
      induction hrs with
      | nil => rfl
      | cons hr _ ih =>
        rw [List.flatten_cons, ih, hr, List.filter_cons]
        split <;> rfl
    rw [this]
    exact q
theorem compW_map {xs : List α} {e : α → D} (g : α → D) (hc : chk π) (h : ∀ x ∈ xs, ∀ K : List D → PE → Prop, K [g x] π → f (e x) π K) (q : Q (xs.map g) π) : compW f chk (xs.map e) π Q := by
  refine compW_gen (R := fun x r => r = [g x]) hc (fun x hx K k => h x hx K (k _ rfl)) fun rs hrs => ?_
  have : rs.flatten = xs.map g := by
    clear h q
    induction hrs with
    | nil => rfl
    | cons hr _ ih => rw [List.flatten_cons, ih, hr]; rfl
  rw [this]
  exact q
theorem compW_bind {xs : List α} {e : α → D} (g : α → List D) (hc : chk π) (h : ∀ x ∈ xs, ∀ K : List D → PE → Prop, K (g x) π → f (e x) π K) (q : Q (xs.flatMap g) π) : compW f chk (xs.map e) π Q := by
  refine compW_gen (R := fun x r => r = g x) hc (fun x hx K k => h x hx K (k _ rfl)) fun rs hrs => ?_
  have : rs.flatten = xs.flatMap g := by
    clear h q
    induction hrs with
    | nil => rfl
    | cons hr _ ih => rw [List.flatten_cons, ih, hr]; rfl
  rw [this]
  exact q
/-- each one or not -/
theorem compW_some {xs : List α} {e : α → D} (g : α → D) (hc : chk π) (h : ∀ x ∈ xs, ∀ K : List D → PE → Prop, K [g x] π → K [] π → f (e x) π K) (q : ∀ ys : List α, ys.Sublist xs → Q (ys.map g) π) : compW f chk (xs.map e) π Q := by
  refine compW_gen (R := fun x r => r = [g x] ∨ r = []) hc (fun x hx K k => h x hx K (k _ (.inl rfl)) (k _ (.inr rfl))) fun rs hrs => ?_
  have : ∃ ys : List α, ys.Sublist xs ∧ rs.flatten = ys.map g := by
    clear h q
    induction hrs with
    | nil => exact ⟨[], .slnil, rfl⟩
    | cons hr _ ih =>
      obtain ⟨ys, s, e⟩ := ih
      rcases hr with rfl | rfl
      · exact ⟨_ :: ys, s.cons₂ _, by rw [List.flatten_cons, e]; rfl⟩
      · exact ⟨ys, s.cons _, by rw [List.flatten_cons, e]; rfl⟩
  obtain ⟨ys, s, e⟩ := this
  rw [e]
  exact q ys s
/-- each a drawn one -/
theorem compW_draw {xs : List α} {e : α → D} (T : α → β → Prop) (e' : β → D) (hc : chk π) (h : ∀ x ∈ xs, ∀ K : List D → PE → Prop, (∀ y, T x y → K [e' y] π) → f (e x) π K) (q : ∀ ys : List β, All2 T xs ys → Q (ys.map e') π) : compW f chk (xs.map e) π Q := by
  refine compW_gen (R := fun x r => ∃ y, T x y ∧ r = [e' y]) hc (fun x hx K k => h x hx K fun y hy => k _ ⟨y, hy, rfl⟩) fun rs hrs => ?_
  have : ∃ ys : List β, All2 T xs ys ∧ rs.flatten = ys.map e' := by
    clear h q
    induction hrs with
    | nil => exact ⟨[], .nil, rfl⟩
    | cons hr _ ih =>
      obtain ⟨ys, s, e⟩ := ih
      obtain ⟨y, t, rfl⟩ := hr
      exact ⟨y :: ys, .cons t s, by rw [List.flatten_cons, e]; rfl⟩
  obtain ⟨ys, s, e⟩ := this
  rw [e]
  exact q ys s
end
theorem forW_inv {α : Type} {t : Tgt} {body : PE → (FlW → Prop) → Prop} {chk : PE → Prop} {Q : FlW → Prop} {e : α → D} (I : List α → PE → Prop)
    (hs : ∀ x rest π, I (x :: rest) π → ∃ π1, bindW t (e x) π = some π1 ∧ ∀ K : FlW → Prop, (∀ π2, chk π2 → I rest π2 → K (.nx π2)) → (∀ π2, chk π2 → I rest π2 → K (.ct π2)) → (∀ π2, Q (.nx π2) → K (.bk π2)) → (∀ k x π2, Q (.rt k x π2) → K (.rt k x π2)) → body π1 K)
    (he : ∀ π, I [] π → Q (.nx π)) : ∀ (xs : List α) (π : PE), I xs π → forW t body chk (xs.map e) π Q
  | [], π, h => he π h
  | x :: xs, π, h => by
    obtain ⟨π1, e1, hb⟩ := hs x xs π h
    show optW (bindW t (e x) π) _
    rw [e1]
    exact hb _ (fun π2 c i => ⟨c, forW_inv I hs he xs π2 i⟩) (fun π2 c i => ⟨c, forW_inv I hs he xs π2 i⟩) (fun π2 q => q) (fun k x π2 q => q)
theorem whlW_inv {σ : Type} {test : PE → (Kd → D → PE → Prop) → Prop} {body : PE → (FlW → Prop) → Prop} {Q : FlW → Prop} (I : σ → PE → Prop) (mu : σ → Nat)
    (hs : ∀ s π, I s π → ∀ K : Kd → D → PE → Prop, (∀ k π1, (∀ K2 : FlW → Prop, (∀ s2 π2, I s2 π2 → mu s2 < mu s → K2 (.nx π2)) → (∀ s2 π2, I s2 π2 → mu s2 < mu s → K2 (.ct π2)) → (∀ π2, Q (.nx π2) → K2 (.bk π2)) → (∀ k x π2, Q (.rt k x π2) → K2 (.rt k x π2)) → body π1 K2) → K k (.bl true) π1) →
      (∀ k π1, Q (.nx π1) → K k (.bl false) π1) → test π K) : ∀ (n : Nat) (s : σ) (π : PE), I s π → mu s < n → whlW test body n π Q
  | 0, s, π, _, h => absurd h (Nat.not_lt_zero _)
  | n + 1, s, π, i, h => by
    show test π _
    refine hs s π i _ (fun k π1 hb => ?_) fun k π1 q => ?_
    · exact hb _ (fun s2 π2 i2 l => whlW_inv I mu hs n s2 π2 i2 (by omega)) (fun s2 π2 i2 l => whlW_inv I mu hs n s2 π2 i2 (by omega)) (fun π2 q => q) (fun k x π2 q => q)
    · exact q
def bodyW (C : CW) (np ns : Nat) (b : List Sx) : CallW := fun as X Q => as.length = np ∧ execsW C (fun c fs _ => X c fs) b (as.map some ++ List.replicate (ns - np) none) fun fl => match fl with
        | .nx _ => Q .clo .non
        | .rt k x _ => Q (retK k x) x
        | _ => False
theorem call_at {P : Prg} {pr : Prims} {i np ns k : Nat} {b : List Sx} (hd : P.defs[i]? = some ⟨np, ns, b⟩) (hp : ∀ n, pr n i = none) {S : CallW → Prop} (h : ∀ n, k ≤ n → S (bodyW ⟨P.glbs, callW P pr n⟩ np ns b)) : ∀ n, k + 1 ≤ n → S (callW P pr n i)
  | 0, hn => by omega
  | n + 1, hn => by
    have e : callW P pr (n + 1) i = bodyW ⟨P.glbs, callW P pr n⟩ np ns b := by
      funext as X Q
      simp only [callW, hp, hd]
      rfl
    rw [e]
    exact h n (by omega)
/-- answers just this -/
def Pure (w : CallW) (as : List (Kd × D)) (r : D) : Prop := ∀ (X : Nat → List (Str × D) → Prop) (Q : Kd → D → Prop), Q .clo r → w as X Q
/-- answers one of these -/
def Draws (w : CallW) (as : List (Kd × D)) (R : D → Prop) : Prop := ∀ (X : Nat → List (Str × D) → Prop) (Q : Kd → D → Prop), (∀ d, R d → Q .clo d) → w as X Q
theorem pick_w {C : CW} {ip : Nat} (hp : C.call ip = pickW) {m : Int} {X : Nat → List (Str × D) → Prop} {Q : Kd → D → Prop} (hm : m.natAbs < 18446744073709551616) (h : ∀ v : Int, 0 ≤ v → (2 ≤ m → v < m) → (m < 2 → v = 0) → Q .clo (.int v)) : C.call ip [(.clo, .obj 1), (.clo, .int m)] X Q := by
  rw [hp]
  exact ⟨hm, h⟩
theorem rngL_range (n : Nat) : rngL 0 n = (List.range n).map fun (i : Nat) => D.int i := by
  have : ∀ (n : Nat) (lo : Nat), rngL (lo : Int) n = (List.range' lo n).map fun (i : Nat) => D.int i := by
    intro n
    induction n with
    | zero => intro lo; rfl
    | succ n ih =>
      intro lo
      show D.int lo :: rngL ((lo : Int) + 1) n = _
      rw [List.range'_succ, List.map_cons, ← ih (lo + 1)]
      rfl
  have h := this n 0
  rw [List.range_eq_range']
  exact h
end Dv
namespace Dv
open PySem (Str)
local macro_rules | `(tactic| walk_at "w") => `(tactic| simp only [x_set, x_tset, x_par, x_isub, x_aug, x_expr, x_ret, x_retN, x_ite, x_whl, x_for, x_brk, x_cont, x_pass, x_nil, x_cons, evalW, evalsW, evalOW, evalIW, lw_comp, lw_comp2, lw_disp, lw_walk, lw_bltl, lw_add, lw_rev, kw_disp, kw_comp, evalPW, condsW, gdW_clo, gdW_bor, gdW_own, compS_at, compIS_at, comp2S_at, compKS_at, bodyS_at, testS_at, stay_refl, stay_clo, stay_bor, sto_clo, stoL, stoL_app, stoL_clo, snd_clo, List.map_append, ifB_t, ifB_f, optW_some, resW_okk, blW_bl, intW_int, bindW_nm, bindW_tp, bindWs_nil, bindWs_cons, bind_some', wipeW_nil, wipeW_cons, backAt_some, back_nil, back_cons, List.set_cons_zero, List.set_cons_succ, List.getElem?_cons_zero, List.getElem?_cons_succ, List.map_cons, List.map_nil, List.append_nil, List.nil_append, List.cons_append, List.length_cons, List.length_nil, setW_clo, setW_fre, setW_bor, setW_own, setsW_nil, setsW_cons, argK_clo, clzK_clo, clzK_fre, clzK_lse, retK_clo, retK_own, retK_fre, imm_str, imm_int, imm_bl, imm_non, imm_tup, imm_obj, imm_lst, isTok_str, isTok_int, isTok_bl, isTok_non, isTok_tup, isTok_lst, isOwn_own, isOwnL_own, true_and, and_true, if_true, if_false])
def b_l_any_order (i_l_pick : Nat) : List Sx := [.set 2 (.own (.bltl .list [.var 1])), .ret (.frl (.comp [3] (.nm 3) (.rng [.blt .len [.var 2]]) [] (.mth .popAt (.var 2) [.callz i_l_pick [.var 0, .blt .len [.var 2]]])))]
def AoS (w : CallW) : Prop := ∀ (k : Kd) (d : D) (xs : List D), AK k → iterOf [] d = some xs → xs.length ≤ 10000 → Draws w [(.clo, .obj 1), (k, d)] fun r => ∃ ys, r = .lst ys ∧ ys.Perm xs
theorem ao_comp {C : CW} {ip : Nat} (hp : C.call ip = pickW) {s1 : Option (Kd × D)} {chk : PE → Prop} (hc : ∀ π, chk π) {Q : List D → PE → Prop} : ∀ (n : Nat) (rest : List D) (lo : Int), rest.length = n → n ≤ 10000 → (∀ ys : List D, ys.Perm rest → Q ys [some (.clo, .obj 1), s1, some (.own, .lst []), none]) →
    compW (compS C [3] (.nm 3) [] (.mth .popAt (.var 2) [.callz ip [.var 0, .blt .len [.var 2]]])) chk (rngL lo n) [some (.clo, .obj 1), s1, some (.own, .lst rest), none] Q
  | 0, rest, lo, h, _, q => by
    have : rest = [] := List.eq_nil_of_length_eq_zero h
    subst this
    exact q [] (.refl _)
  | n + 1, rest, lo, h, hl, q => by
    rw [rngL, compW]
    walk_at "w"
    have e : blt .len [.lst rest] [] = .ok (.int rest.length) [] := rfl
    rw [e]
    walk_at "w"
    refine pick_w hp (by omega) fun v v0 v1 v2 => ?_
    have hv : v < rest.length := by
      by_cases z : 2 ≤ (rest.length : Int)
      · exact v1 z
      · have := v2 (by omega); omega
    have hk : v.toNat < rest.length := by omega
    have e2 : mth .popAt (.obj 0) [.int v] [.lst rest] = .ok rest[v.toNat] [.lst (rest.eraseIdx v.toNat)] := by
      have hpl : (if v.natAbs ≤ LIM then place rest.length v else none) = some v.toNat := by
        have : LIM = 16777216 := rfl
        rw [if_pos (by omega)]
        unfold place
        rw [if_pos v0, if_pos hv]
      have hy : rest[v.toNat]? = some rest[v.toNat] := by simp [hk]
      simp only [mth, get_one, hpl, hy, put_one]
    walk_at "w"
    unfold mthW
    simp only [e2]
    refine ⟨hc _, ?_⟩
    refine ao_comp hp hc n (rest.eraseIdx v.toNat) (lo + 1) (by rw [List.length_eraseIdx_of_lt hk]; omega) (by omega) fun ys hys => ?_
    exact q _ ((hys.cons _).trans (take_perm hk))
theorem ao_w {C : CW} {ip : Nat} (hp : C.call ip = pickW) : AoS (bodyW C 2 4 (b_l_any_order ip)) := by
  intro k d xs hk hi hl X Q hq
  refine ⟨rfl, ?_⟩
  show execsW C _ _ [some (.clo, .obj 1), some (k, d), none, none] _
  unfold b_l_any_order
  walk_at "w"
  have e : bltL .list [d] [] = .ok xs [] := by simp only [bltL, hi]
  rw [e]
  walk_at "w"
  have e : blt .len [.lst xs] [] = .ok (.int xs.length) [] := rfl
  rw [e]
  walk_at "w"
  have l0 : LIM = 16777216 := rfl
  have rl : ∀ (n : Nat) (lo : Int), (rngL lo n).length = n := fun n => by
    induction n with
    | zero => intro _; rfl
    | succ n ih => intro lo; show (rngL (lo + 1) n).length + 1 = _; rw [ih]
  refine ⟨by rfl, by unfold rngOk; rw [decide_eq_true_eq]; omega, by rw [rl]; omega, ?_⟩
  exact ao_comp hp (fun _ => trivial) _ xs 0 (by omega) (by omega) fun ys hys => hq _ ⟨ys, rfl, hys⟩
def b_l_draw_names (i_l_any_order : Nat) : List Sx := [.ret (.slc (.callz i_l_any_order [.var 0, .frl (.disp [.str ⟨#[97]⟩, .str ⟨#[98]⟩, .str ⟨#[97, 98]⟩, .str ⟨#[99]⟩, .str ⟨#[108, 111, 119]⟩, .str ⟨#[117, 112]⟩, .str ⟨#[120]⟩, .str ⟨#[122]⟩])]) none (some (.var 1)))]
end Dv
namespace Dv
open PySem (Str)
open Cut
section
variable {xs ys : List D} {a b : List Str}
theorem o_tupleL : blt .tuple [.lst xs] [] = .ok (.tup xs) [] := rfl
theorem o_tupleT : blt .tuple [.tup xs] [] = .ok (.tup xs) [] := rfl
theorem o_listT : blt .list [.tup xs] [] = .ok (.lst xs) [] := rfl
theorem o_listL : blt .list [.lst xs] [] = .ok (.lst xs) [] := rfl
theorem o_listS : blt .list [tupS a] [] = .ok (lstS a) [] := rfl
theorem o_listS2 : blt .list [lstS a] [] = .ok (lstS a) [] := rfl
theorem o_tupleS : blt .tuple [lstS a] [] = .ok (tupS a) [] := rfl
theorem o_lenL : blt .len [.lst xs] [] = .ok (.int xs.length) [] := rfl
theorem o_lenT : blt .len [.tup xs] [] = .ok (.int xs.length) [] := rfl
theorem o_lenS : blt .len [tupS a] [] = .ok (.int a.length) [] := by
  show Res.ok (D.int ((a.map D.str).length : Nat)) [] = _
  rw [List.length_map]
theorem o_lenS2 : blt .len [lstS a] [] = .ok (.int a.length) [] := by
  show Res.ok (D.int ((a.map D.str).length : Nat)) [] = _
  rw [List.length_map]
theorem o_minI {i j : Int} : blt .min [.int i, .int j] [] = .ok (.int (if j < i then j else i)) [] := rfl
theorem o_maxI {i j : Int} : blt .max [.int i, .int j] [] = .ok (.int (if j > i then j else i)) [] := rfl
theorem o_iterL : iterOf [] (.lst xs) = some xs := rfl
theorem o_iterT : iterOf [] (.tup xs) = some xs := rfl
theorem o_iterS : iterOf [] (tupS a) = some (a.map .str) := rfl
theorem o_iterS2 : iterOf [] (lstS a) = some (a.map .str) := rfl
theorem o_seqL : seqOf [] (.lst xs) = some xs := rfl
theorem o_seqT : seqOf [] (.tup xs) = some xs := rfl
theorem o_lstL : lstOf [] (.lst xs) = some xs := rfl
theorem o_lstS : lstOf [] (lstS a) = some (a.map .str) := rfl
theorem o_bltLL : bltL .list [.lst xs] [] = .ok xs [] := rfl
theorem o_bltLT : bltL .list [.tup xs] [] = .ok xs [] := rfl
theorem boolsOf_map : ∀ bs : List Bool, boolsOf (bs.map .bl) = some bs
  | [] => rfl
  | b :: bs => by
    show (boolsOf (bs.map .bl)).map (b :: ·) = _
    rw [boolsOf_map bs]
    rfl
theorem o_all {α : Type} {zs : List α} {p : α → Bool} : blt .all [.lst (zs.map fun z => .bl (p z))] [] = .ok (.bl (zs.all p)) [] := by
  show (match (some (zs.map fun z => D.bl (p z))).bind boolsOf with
    | some bs => Res.ok (D.bl (bs.all id)) ([] : Sto)
    | none => .bad) = _
  have : (zs.map fun z => D.bl (p z)) = (zs.map p).map .bl := by rw [List.map_map]; rfl
  rw [this, Option.bind_some, boolsOf_map]
  show Res.ok (D.bl ((zs.map p).all id)) [] = _
  rw [List.all_map]
  rfl
theorem o_any {α : Type} {zs : List α} {p : α → Bool} : blt .any [.lst (zs.map fun z => .bl (p z))] [] = .ok (.bl (zs.any p)) [] := by
  show (match (some (zs.map fun z => D.bl (p z))).bind boolsOf with
    | some bs => Res.ok (D.bl (bs.any id)) ([] : Sto)
    | none => .bad) = _
  have : (zs.map fun z => D.bl (p z)) = (zs.map p).map .bl := by rw [List.map_map]; rfl
  rw [this, Option.bind_some, boolsOf_map]
  show Res.ok (D.bl ((zs.map p).any id)) [] = _
  rw [List.any_map]
  rfl
theorem o_addI {i j : Int} : op2 .add (.int i) (.int j) [] = .ok (.int (i + j)) [] := rfl
theorem o_subI {i j : Int} : op2 .sub (.int i) (.int j) [] = .ok (.int (i - j)) [] := rfl
theorem o_cat (h : xs.length + ys.length ≤ LIM) : op2 .add (.lst xs) (.lst ys) [] = .ok (.lst (xs ++ ys)) [] := by
  show (if xs.length + ys.length ≤ LIM then Res.ok (D.lst (xs ++ ys)) ([] : Sto) else .bad) = _
  rw [if_pos h]
theorem o_catT (h : xs.length + ys.length ≤ LIM) : op2 .add (.tup xs) (.tup ys) [] = .ok (.tup (xs ++ ys)) [] := by
  show (if xs.length + ys.length ≤ LIM then Res.ok (D.tup (xs ++ ys)) ([] : Sto) else .bad) = _
  rw [if_pos h]
theorem o_slcL {i j : Option Int} : slc (.lst xs) i j [] = .ok (.lst (cutL xs i j)) [] := rfl
theorem o_slcT {i j : Option Int} : slc (.tup xs) i j [] = .ok (.tup (cutL xs i j)) [] := rfl
theorem cut_mapS {cs : List Str} {lo hi : Option Int} : cutL (cs.map D.str) lo hi = (cutL cs lo hi).map D.str := by
  unfold cutL
  rw [List.length_map]
  simp only [List.map_drop, List.map_take]
theorem o_slcS {i j : Option Int} : slc (lstS a) i j [] = .ok (lstS (cutL a i j)) [] := by
  show Res.ok (D.lst (cutL (a.map D.str) i j)) [] = _
  rw [cut_mapS]
  rfl
theorem o_eq0 {st : Sto} : cmp2 .eq (tupS a) (.tup []) st = some (decide (a = [])) := cmp_eqT (b := [])
theorem o_ne0 {st : Sto} : cmp2 .ne (tupS a) (.tup []) st = some (!decide (a = [])) := cmp_neT (b := [])
theorem o_ne0L {st : Sto} : cmp2 .ne (lstS a) (.lst []) st = some (!decide (a = [])) := cmp_neL (b := [])
end
local macro_rules | `(tactic| walk_at "w") => `(tactic| simp only [x_set, x_tset, x_par, x_isub, x_aug, x_expr, x_ret, x_retN, x_ite, x_whl, x_for, x_brk, x_cont, x_pass, x_nil, x_cons, evalW, evalsW, evalOW, evalIW, lw_comp, lw_comp2, lw_disp, lw_walk, lw_bltl, lw_add, lw_rev, kw_disp, kw_comp, evalPW, condsW, gdW_clo, gdW_bor, gdW_own, compS_at, compIS_at, comp2S_at, compKS_at, bodyS_at, testS_at, stay_refl, stay_clo, stay_bor, sto_clo, stoL, stoL_app, stoL_clo, snd_clo, List.map_append, ifB_t, ifB_f, optW_some, resW_okk, blW_bl, intW_int, bindW_nm, bindW_tp, bindWs_nil, bindWs_cons, bind_some', wipeW_nil, wipeW_cons, backAt_some, back_nil, back_cons, List.set_cons_zero, List.set_cons_succ, List.getElem?_cons_zero, List.getElem?_cons_succ, List.map_cons, List.map_nil, List.append_nil, List.nil_append, List.cons_append, List.length_cons, List.length_nil, setW_clo, setW_fre, setW_bor, setW_own, setsW_nil, setsW_cons, argK_clo, clzK_clo, clzK_fre, clzK_lse, retK_clo, retK_own, retK_fre, imm_str, imm_int, imm_bl, imm_non, imm_tup, imm_obj, imm_lst, isTok_str, isTok_int, isTok_bl, isTok_non, isTok_tup, isTok_lst, isOwn_own, isOwnL_own, true_and, and_true, if_true, if_false, o_tupleL, o_tupleT, o_listT, o_listL, o_listS, o_listS2, o_tupleS, o_lenL, o_lenT, o_lenS, o_lenS2, o_minI, o_maxI, o_iterL, o_iterT, o_iterS, o_iterS2, o_seqL, o_seqT, o_lstL, o_lstS, o_bltLL, o_bltLT, o_addI, o_subI, o_slcL, o_slcT, o_slcS, cmp_inT, cmp_inL, cmp_ninT, cmp_ninL, cmp_eqT, cmp_neT, cmp_neL, cmp_lt, cmp_gt, cmp_ge, cmp_le, cmp_eqI, cmp_neI, blt_sortS, o_eq0, o_ne0, o_ne0L])
theorem LIM_eq : LIM = 16777216 := rfl
end Dv
namespace Dv
open PySem (Str)
open Cut
/-- a perm of names is a list of names -/
theorem perm_strs {ys : List D} {cs : List Str} (h : ys.Perm (cs.map .str)) : ∃ ns : List Str, ys = ns.map .str ∧ ns.Perm cs := by
  refine ⟨ys.map strOf, ?_, ?_⟩
  · rw [List.map_map]
    have : ∀ d ∈ ys, (D.str ∘ strOf) d = d := fun d hd => by
      obtain ⟨c, _, rfl⟩ := List.mem_map.mp (h.mem_iff.mp hd)
      rfl
    exact ((List.map_congr_left this).trans (List.map_id _)).symm
  · have p := h.map strOf
    rw [List.map_map] at p
    have e : cs.map (strOf ∘ D.str) = cs := List.map_id _
    rw [e] at p
    exact p
def names8 : List Str := [⟨#[97]⟩, ⟨#[98]⟩, ⟨#[97, 98]⟩, ⟨#[99]⟩, ⟨#[108, 111, 119]⟩, ⟨#[117, 112]⟩, ⟨#[120]⟩, ⟨#[122]⟩]
/-- some of the eight names, once each -/
def Names (ns : List Str) : Prop := ns.Nodup ∧ (∀ c ∈ ns, c ∈ names8) ∧ ns.length ≤ 8
theorem cut_map {α β : Type} {f : α → β} {xs : List α} {lo hi : Option Int} : cutL (xs.map f) lo hi = (cutL xs lo hi).map f := by
  unfold cutL
  rw [List.length_map]
  simp only [List.map_drop, List.map_take]
theorem cut_sub {α : Type} {xs : List α} {lo hi : Option Int} : (cutL xs lo hi).Sublist xs := by
  unfold cutL
  exact (List.take_sublist _ _).trans (List.drop_sublist _ _)
theorem Names.sub {ns ms : List Str} (h : Names ns) (s : ms.Sublist ns) : Names ms := ⟨h.1.sublist s, fun c hc => h.2.1 c (s.subset hc), Nat.le_trans s.length_le h.2.2⟩
theorem Names.perm {ns ms : List Str} (h : Names ns) (p : ms.Perm ns) : Names ms := ⟨p.nodup_iff.mpr h.1, fun c hc => h.2.1 c (p.mem_iff.mp hc), by rw [p.length_eq]; exact h.2.2⟩
theorem names8_ok : Names names8 := ⟨by decide, fun _ h => h, by decide⟩
end Dv
namespace Dv
open PySem (Str)
open Cut
theorem ev_slc {C : Cst} {a : Ex} {lo hi : Option Ex} {η : Env} {x : D} {i j : Option Int} {st st1 st2 st3 : Sto} {r : Res D} (h1 : evalE C a η st = .ok x st1) (h2 : evalO C lo η st1 = .ok i st2) (h3 : evalO C hi η st2 = .ok j st3) (h4 : slc x i j st3 = r) : evalE C (.slc a lo hi) η st = r := by
  rw [evalE, h1, ok_bind', h2, ok_bind', h3, ok_bind', h4]
theorem eo_none {C : Cst} {η : Env} {st : Sto} : evalO C none η st = .ok none st := by rw [evalO]
theorem eo_some {C : Cst} {e : Ex} {η : Env} {i : Int} {st st1 : Sto} (h : evalE C e η st = .ok (.int i) st1) : evalO C (some e) η st = .ok (some i) st1 := by
  rw [evalO, h, ok_bind']
theorem slc_strs {cs : List Str} {lo hi : Option Int} {st : Sto} : slc (lstS cs) lo hi st = .ok (lstS (cutL cs lo hi)) st := by
  show Res.ok (D.lst (cutL (cs.map D.str) lo hi)) st = _
  rw [cut_map]
  rfl
end Dv
namespace Dv
open PySem (Str)
open Cut
end Dv
namespace Dv
open PySem (Str)
open Cut
end Dv
namespace Dv
open PySem (Str)
open Cut
local macro_rules | `(tactic| walk_at "w") => `(tactic| simp only [x_set, x_tset, x_par, x_isub, x_aug, x_expr, x_ret, x_retN, x_ite, x_whl, x_for, x_brk, x_cont, x_pass, x_nil, x_cons, evalW, evalsW, evalOW, evalIW, lw_comp, lw_comp2, lw_disp, lw_walk, lw_bltl, lw_add, lw_rev, kw_disp, kw_comp, evalPW, condsW, gdW_clo, gdW_bor, gdW_own, compS_at, compIS_at, comp2S_at, compKS_at, bodyS_at, testS_at, stay_refl, stay_clo, stay_bor, sto_clo, stoL, stoL_app, stoL_clo, snd_clo, List.map_append, ifB_t, ifB_f, optW_some, resW_okk, blW_bl, intW_int, bindW_nm, bindW_tp, bindWs_nil, bindWs_cons, bind_some', wipeW_nil, wipeW_cons, backAt_some, back_nil, back_cons, List.set_cons_zero, List.set_cons_succ, List.getElem?_cons_zero, List.getElem?_cons_succ, List.map_cons, List.map_nil, List.append_nil, List.nil_append, List.cons_append, List.length_cons, List.length_nil, setW_clo, setW_fre, setW_bor, setW_own, setsW_nil, setsW_cons, argK_clo, clzK_clo, clzK_fre, clzK_lse, retK_clo, retK_own, retK_fre, imm_str, imm_int, imm_bl, imm_non, imm_tup, imm_obj, imm_lst, isTok_str, isTok_int, isTok_bl, isTok_non, isTok_tup, isTok_lst, isOwn_own, isOwnL_own, true_and, and_true, if_true, if_false, o_tupleL, o_tupleT, o_listT, o_listL, o_listS, o_listS2, o_tupleS, o_lenL, o_lenT, o_lenS, o_lenS2, o_minI, o_maxI, o_iterL, o_iterT, o_iterS, o_iterS2, o_seqL, o_seqT, o_lstL, o_lstS, o_bltLL, o_bltLT, o_addI, o_subI, o_slcL, o_slcT, o_slcS, cmp_inT, cmp_inL, cmp_ninT, cmp_ninL, cmp_eqT, cmp_neT, cmp_neL, cmp_lt, cmp_gt, cmp_ge, cmp_le, cmp_eqI, cmp_neI, blt_sortS, o_eq0, o_ne0, o_ne0L])
theorem argK_ak {k : Kd} {d : D} : AK (argK k d) := by
  cases k <;> simp only [argK] <;> first | exact .inl rfl | (split; exact .inl rfl; exact .inr rfl)
def NamesS (w : CallW) : Prop := ∀ m : Int, Draws w [(.clo, .obj 1), (.clo, .int m)] fun r => ∃ ns, r = lstS ns ∧ Names ns ∧ (0 ≤ m → m ≤ 8 → (ns.length : Int) = m)
theorem names_w {C : CW} {ia : Nat} (ha : AoS (C.call ia)) : NamesS (bodyW C 2 2 (b_l_draw_names ia)) := by
  intro m X Q hq
  refine ⟨rfl, ?_⟩
  show execsW C _ _ [some (.clo, .obj 1), some (.clo, .int m)] _
  unfold b_l_draw_names
  walk_at "w"
  refine ⟨by rw [LIM_eq]; omega, ?_⟩
  refine ha .clo _ (names8.map .str) (.inl rfl) rfl (by decide) _ _ fun r hr => ?_
  obtain ⟨ys, rfl, p⟩ := hr
  obtain ⟨ns, rfl, p2⟩ := perm_strs p
  walk_at "w"
  rw [cut_mapS]
  refine hq _ ⟨_, rfl, (names8_ok.perm p2).sub cut_sub, fun h0 h8 => ?_⟩
  have l8 : ns.length = 8 := p2.length_eq
  unfold cutL cutAt
  simp only [List.drop_zero, Nat.sub_zero, List.length_take]
  rw [if_neg (by omega)]
  omega
/-- some of these, in any order -/
def SubP {α : Type} (ys xs : List α) : Prop := ∃ zs, zs.Perm xs ∧ ys.Sublist zs
theorem SubP.mem {α : Type} {ys xs : List α} (h : SubP ys xs) {y : α} (hy : y ∈ ys) : y ∈ xs := by
  obtain ⟨zs, p, s⟩ := h
  exact p.mem_iff.mp (s.subset hy)
theorem SubP.len {α : Type} {ys xs : List α} (h : SubP ys xs) : ys.length ≤ xs.length := by
  obtain ⟨zs, p, s⟩ := h
  rw [← p.length_eq]
  exact s.length_le
theorem SubP.nodup {α : Type} {ys xs : List α} (h : SubP ys xs) (n : xs.Nodup) : ys.Nodup := by
  obtain ⟨zs, p, s⟩ := h
  exact (p.nodup_iff.mpr n).sublist s
theorem SubP.strs {ys : List D} {cs : List Str} (h : SubP ys (cs.map .str)) : ∃ ns, ys = ns.map D.str ∧ SubP ns cs := by
  obtain ⟨zs, p, s⟩ := h
  obtain ⟨ms, rfl, p2⟩ := perm_strs p
  obtain ⟨ns, s2, rfl⟩ := List.sublist_map_iff.mp s
  exact ⟨ns, rfl, ms, p2, s2⟩
theorem SubP.names {ns cs : List Str} (h : SubP ns cs) (n : Names cs) : Names ns := ⟨h.nodup n.1, fun c hc => n.2.1 c (h.mem hc), Nat.le_trans h.len n.2.2⟩
def b_l_draw_some (i_l_any_order i_l_pick : Nat) : List Sx := [.set 3 (.frl (.comp [4] (.nm 4) (.itv (.callz i_l_any_order [.var 0, .var 1])) [.cmp .eq (.callz i_l_pick [.var 0, .int 2]) (.int 0)] (.var 4))), .ret (.ite (.cmp .ge (.blt .len [.var 3]) (.var 2)) (.var 3) (.slc (.blt .list [.var 1]) none (some (.var 2))))]
def SomeS (w : CallW) : Prop := ∀ (k : Kd) (d : D) (xs : List D) (few : Nat), AK k → iterOf [] d = some xs → xs.length ≤ 10000 → Draws w [(.clo, .obj 1), (k, d), (.clo, .int few)] fun r => ∃ ys, r = .lst ys ∧ SubP ys xs ∧ min few xs.length ≤ ys.length
theorem some_w {C : CW} {ia ip : Nat} (ha : AoS (C.call ia)) (hp : C.call ip = pickW) : SomeS (bodyW C 3 5 (b_l_draw_some ia ip)) := by
  intro k d xs few hk hi hl X Q hq
  refine ⟨rfl, ?_⟩
  show execsW C _ _ [some (.clo, .obj 1), some (k, d), some (.clo, .int few), none, none] _
  unfold b_l_draw_some
  walk_at "w"
  refine ⟨by rfl, ha _ d xs argK_ak hi hl _ _ fun r hr => ?_⟩
  obtain ⟨zs, rfl, p⟩ := hr
  walk_at "w"
  refine ⟨by rw [p.length_eq, LIM_eq]; omega, ?_⟩
  have e : zs = zs.map id := (List.map_id _).symm
  rw [e]
  refine compW_some id trivial (fun x hx K k1 k2 => ?_) fun ys hys => ?_
  · walk_at "w"
    refine pick_w hp (by decide) fun v v0 v1 v2 => ?_
    walk_at "w"
    exact ifB_of (fun _ => k1) fun _ => k2
  · rw [List.map_id]
    walk_at "w"
    refine ifB_of (fun h => ?_) fun h => ?_
    · rw [decide_eq_true_eq] at h
      exact hq _ ⟨ys, rfl, ⟨zs, p, hys⟩, by omega⟩
    · have e2 : blt .list [d] [] = .ok (.lst xs) [] := by simp only [blt, hi]
      rw [e2]
      walk_at "w"
      refine hq _ ⟨_, rfl, ⟨xs, .refl _, cut_sub⟩, ?_⟩
      unfold cutL cutAt
      simp only [List.drop_zero, Nat.sub_zero, List.length_take]
      rw [if_neg (by omega)]
      omega
end Dv
namespace Dv
open PySem (Str PyData)
open Cut
local macro_rules | `(tactic| walk_at "w") => `(tactic| simp only [x_set, x_tset, x_par, x_isub, x_aug, x_expr, x_ret, x_retN, x_ite, x_whl, x_for, x_brk, x_cont, x_pass, x_nil, x_cons, evalW, evalsW, evalOW, evalIW, lw_comp, lw_comp2, lw_disp, lw_walk, lw_bltl, lw_add, lw_rev, kw_disp, kw_comp, evalPW, condsW, gdW_clo, gdW_bor, gdW_own, compS_at, compIS_at, comp2S_at, compKS_at, bodyS_at, testS_at, stay_refl, stay_clo, stay_bor, sto_clo, stoL, stoL_app, stoL_clo, snd_clo, List.map_append, ifB_t, ifB_f, optW_some, resW_okk, blW_bl, intW_int, bindW_nm, bindW_tp, bindWs_nil, bindWs_cons, bind_some', wipeW_nil, wipeW_cons, backAt_some, back_nil, back_cons, List.set_cons_zero, List.set_cons_succ, List.getElem?_cons_zero, List.getElem?_cons_succ, List.map_cons, List.map_nil, List.append_nil, List.nil_append, List.cons_append, List.length_cons, List.length_nil, setW_clo, setW_fre, setW_bor, setW_own, setsW_nil, setsW_cons, argK_clo, clzK_clo, clzK_fre, clzK_lse, retK_clo, retK_own, retK_fre, imm_str, imm_int, imm_bl, imm_non, imm_tup, imm_obj, imm_lst, isTok_str, isTok_int, isTok_bl, isTok_non, isTok_tup, isTok_lst, isOwn_own, isOwnL_own, true_and, and_true, if_true, if_false, o_tupleL, o_tupleT, o_listT, o_listL, o_listS, o_listS2, o_tupleS, o_lenL, o_lenT, o_lenS, o_lenS2, o_minI, o_maxI, o_iterL, o_iterT, o_iterS, o_iterS2, o_seqL, o_seqT, o_lstL, o_lstS, o_bltLL, o_bltLT, o_addI, o_subI, o_slcL, o_slcT, o_slcS, cmp_inT, cmp_inL, cmp_ninT, cmp_ninL, cmp_eqT, cmp_neT, cmp_neL, cmp_lt, cmp_gt, cmp_ge, cmp_le, cmp_eqI, cmp_neI, blt_sortS, o_eq0, o_ne0, o_ne0L])
theorem o_append {xs : List D} {d : D} {Q : D → D → Prop} (h : xs.length < LIM) : mthW .append (some (some (.own, .lst xs))) [d] Q = Q .non (.lst (xs ++ [d])) := by
  unfold mthW
  have e : mth .append (.obj 0) [d] [.lst xs] = .ok .non [.lst (xs ++ [d])] := by
    simp only [mth, get_one, put_one]
    rw [if_pos h]
  simp only [e]
theorem o_idxL {xs : List D} {n : Nat} {x : D} (hx : xs[n]? = some x) : idx (.lst xs) (.int n) [] = .ok x [] := by
  have hk : n < xs.length := by
    rcases Nat.lt_or_ge n xs.length with h | h
    · exact h
    · rw [List.getElem?_eq_none h] at hx; cases hx
  show ofO ((place xs.length n).bind fun k => xs[k]?) [] = _
  unfold place
  (rw [if_pos (by omega), if_pos (by omega)])
  simp [hx, ofO]
theorem o_eqL0 {xs : List D} (h : ∃ n, flat n (.lst xs) = true ∧ n ≤ 40) {st : Sto} : cmp2 .eq (.lst xs) (.lst []) st = some xs.isEmpty := by
  obtain ⟨n, h1, h2⟩ := h
  show ((data st (.lst xs)).bind fun x => (data st (.lst [])).map fun y => eqD x y) = _
  rw [data_flat (flat_mono h1 h2), data_flat (d := .lst []) rfl]
  show some (eqDs xs []) = _
  rw [eqs_nil]
theorem all2_mem {α β : Type} {R : α → β → Prop} {as : List α} {bs : List β} (h : All2 R as bs) : (∀ b ∈ bs, ∃ a ∈ as, R a b) ∧ ∀ a ∈ as, ∃ b ∈ bs, R a b := by
  induction h with
  | nil => exact ⟨(fun _ h => by cases h), (fun _ h => by cases h)⟩
  | cons r _ ih =>
    refine ⟨fun b hb => ?_, fun a ha => ?_⟩
    · (rcases List.mem_cons.mp hb with rfl | hb)
      · exact ⟨_, List.mem_cons_self .., r⟩
      · obtain ⟨a, ha, q⟩ := ih.1 b hb
        exact ⟨a, List.mem_cons_of_mem _ ha, q⟩
    · (rcases List.mem_cons.mp ha with rfl | ha)
      · exact ⟨_, List.mem_cons_self .., r⟩
      · obtain ⟨b, hb, q⟩ := ih.2 a ha
        exact ⟨b, List.mem_cons_of_mem _ hb, q⟩
theorem all2_len {α β : Type} {R : α → β → Prop} {as : List α} {bs : List β} (h : All2 R as bs) : as.length = bs.length := by
  induction h with
  | nil => rfl
  | cons _ _ ih => (rw [List.length_cons, List.length_cons, ih])
theorem xs_app {C : CW} {X : Xc} : ∀ (ss : List Sx) {ts : List Sx} {π : PE} {Q : FlW → Prop}, execsW C X (ss ++ ts) π Q = execsW C X ss π fun fl => match fl with
    | .nx π1 => execsW C X ts π1 Q
    | fl => Q fl
  | [], ts, π, Q => by rw [List.nil_append, x_nil]
  | s :: ss, ts, π, Q => by
    rw [List.cons_append, x_cons, x_cons]
    congr 1
    funext fl
    cases fl with
    | nx π1 => exact xs_app ss
    | _ => rfl
theorem cutL_take {α : Type} {xs : List α} {n : Nat} : cutL xs none (some (n : Int)) = xs.take n := by
  unfold cutL cutAt
  (simp only [List.drop_zero, Nat.sub_zero])
  rw [if_neg (by omega)]
  rw [show min (n : Int).toNat xs.length = min n xs.length by simp]
  rcases Nat.le_total n xs.length with h | h
  · rw [Nat.min_eq_left h]
  · rw [Nat.min_eq_right h, List.take_of_length_le (Nat.le_refl _), List.take_of_length_le h]
theorem cutL_drop {α : Type} {xs : List α} {n : Nat} : cutL xs (some (n : Int)) none = xs.drop n := by
  unfold cutL cutAt
  simp only
  rw [if_neg (by omega), show min (n : Int).toNat xs.length = min n xs.length by simp]
  rcases Nat.le_total n xs.length with h | h
  · rw [Nat.min_eq_left h, List.take_of_length_le (by rw [List.length_drop]; omega)]
  · rw [Nat.min_eq_right h, List.drop_of_length_le (Nat.le_refl _), List.drop_of_length_le h]
    simp
theorem ok_app {a b : Str} : PyData.strOk (a ++ b) = (PyData.strOk a && PyData.strOk b) := by
  show (a.cps ++ b.cps).all _ = _
  rw [Array.all_append]
  rfl
theorem len_app {a b : Str} : (a ++ b).length = a.length + b.length := by
  (show (a.cps ++ b.cps).size = _)
  rw [Array.size_append]
  rfl
theorem ok_cm : PyData.strOk (Str.ofString ", ") = true := by decide +kernel
theorem ok_e : PyData.strOk (Str.ofString "") = true := by decide +kernel
theorem ok_lb : PyData.strOk (Str.ofString "[") = true := by decide +kernel
theorem ok_rb : PyData.strOk (Str.ofString "]") = true := by decide +kernel
theorem ok_lp : PyData.strOk (Str.ofString "(") = true := by decide +kernel
theorem ok_rp : PyData.strOk (Str.ofString ")") = true := by decide +kernel
theorem ok_cp : PyData.strOk (Str.ofString ",)") = true := by decide +kernel
def sumL (ts : List Str) : Nat := (ts.map fun t => t.length + 2).sum
theorem from_text : ∀ (ts : List Str) (k : Nat) (acc : Str), PyData.strOk acc = true → (∀ t ∈ ts, PyData.strOk t = true) → PyData.strOk (PySem.textFrom k acc ts) = true ∧ (PySem.textFrom k acc ts).length ≤ acc.length + sumL ts
  | [], k, acc, h, _ => ⟨h, Nat.le_add_right _ _⟩
  | t :: r, k, acc, h, ht => by
    have h1 : PyData.strOk (acc ++ (if k > 0 then ", " else "" : String) ++ t) = true := by
      rw [ok_app, ok_app, h, ht t (List.mem_cons_self ..)]
      split
      · rw [ok_cm]; rfl
      · rw [ok_e]; rfl
    have l1 : (acc ++ ((if k > 0 then ", " else "" : String) : Str) ++ t).length ≤ acc.length + 2 + t.length := by
      rw [len_app, len_app]
      have : ((if k > 0 then ", " else "" : String) : Str).length ≤ 2 := by split <;> decide
      omega
    obtain ⟨h2, l2⟩ := from_text r (k + 1) _ h1 fun x hx => ht x (List.mem_cons_of_mem _ hx)
    refine ⟨h2, Nat.le_trans l2 ?_⟩
    unfold sumL
    (rw [List.map_cons, List.sum_cons])
    show _ + sumL r ≤ acc.length + (t.length + 2 + sumL r)
    omega
theorem list_text {ts : List Str} (ht : ∀ t ∈ ts, PyData.strOk t = true) : PyData.strOk (PySem.listText ts) = true ∧ (PySem.listText ts).length ≤ sumL ts + 2 := by
  obtain ⟨h, l⟩ := from_text ts 0 "[" ok_lb ht
  unfold PySem.listText
  refine ⟨by rw [ok_app, h, ok_rb]; rfl, ?_⟩
  rw [len_app]
  have e1 : (("[" : String) : Str).length = 1 := rfl
  have e2 : (("]" : String) : Str).length = 1 := rfl
  rw [e2]
  rw [e1] at l
  omega
theorem join_text : ∀ ts : List Str, (∀ t ∈ ts, PyData.strOk t = true) → PyData.strOk (Str.join ", " ts) = true ∧ (Str.join ", " ts).length ≤ sumL ts
  | [], _ => ⟨by decide +kernel, Nat.zero_le _⟩
  | [x], h => ⟨h x (List.mem_cons_self ..), by show x.length ≤ x.length + 2 + 0; omega⟩
  | x :: y :: r, h => by
    obtain ⟨h1, l1⟩ := join_text (y :: r) fun t ht => h t (List.mem_cons_of_mem _ ht)
    refine ⟨?_, ?_⟩
    · show PyData.strOk (x ++ ", " ++ Str.join ", " (y :: r)) = true
      rw [ok_app, ok_app, h1, h x (List.mem_cons_self ..), ok_cm]
      rfl
    · show (x ++ ", " ++ Str.join ", " (y :: r)).length ≤ x.length + 2 + sumL (y :: r)
      rw [len_app, len_app]
      have : ((", " : String) : Str).length = 2 := rfl
      omega
theorem tuple_text {ts : List Str} (ht : ∀ t ∈ ts, PyData.strOk t = true) : PyData.strOk (PySem.tupleText ts) = true ∧ (PySem.tupleText ts).length ≤ sumL ts + 3 := by
  obtain ⟨h, l⟩ := join_text ts ht
  unfold PySem.tupleText
  refine ⟨?_, ?_⟩
  · rw [ok_app, ok_app, h, ok_lp]
    split
    · rw [ok_cp]; rfl
    · rw [ok_rp]; rfl
  · rw [len_app, len_app]
    have e1 : (("(" : String) : Str).length = 1 := rfl
    have : ((if ts.length == 1 then ",)" else ")" : String) : Str).length ≤ 2 := by split <;> decide
    omega
/-- shown, and short -/
def Nice (n : Nat) (d : D) : Prop := (py d).showable = true ∧ PyData.strOk (py d).shown = true ∧ (py d).shown.length ≤ n
theorem Nice.mono {n m : Nat} {d : D} (h : Nice n d) (l : n ≤ m) : Nice m d := ⟨h.1, h.2.1, Nat.le_trans h.2.2 l⟩
theorem nice_all {n : Nat} : ∀ {xs : List D}, (∀ x ∈ xs, Nice n x) → PyData.showableAll (pys xs) = true ∧ (∀ t ∈ PyData.shownAll (pys xs), PyData.strOk t = true) ∧ sumL (PyData.shownAll (pys xs)) ≤ xs.length * (n + 2)
  | [], _ => ⟨rfl, fun t ht => by simp [pys, PyData.shownAll] at ht, by simp [pys, PyData.shownAll, sumL]⟩
  | x :: xs, h => by
    obtain ⟨h1, h2, h3⟩ := nice_all fun y hy => h y (List.mem_cons_of_mem _ hy)
    obtain ⟨k1, k2, k3⟩ := h x (List.mem_cons_self ..)
    refine ⟨by simp only [pys, PyData.showableAll, k1, h1, Bool.and_self], fun t ht => ?_, ?_⟩
    · simp only [pys, PyData.shownAll] at ht
      rcases List.mem_cons.mp ht with z | z
      · rw [z]; exact k2
      · exact h2 t z
    · simp only [pys, PyData.shownAll]
      unfold sumL at h3 ⊢
      (rw [List.map_cons, List.sum_cons, List.length_cons, Nat.succ_mul])
      omega
theorem nice_tup {n : Nat} {xs : List D} (h : ∀ x ∈ xs, Nice n x) : Nice (xs.length * (n + 2) + 3) (.tup xs) := by
  obtain ⟨h1, h2, h3⟩ := nice_all h
  obtain ⟨k1, k2⟩ := tuple_text h2
  refine ⟨by simp only [py, PyData.showable, h1], by simp only [py, PyData.shown, k1], ?_⟩
  simp only [py, PyData.shown]
  omega
theorem nice_lst {n : Nat} {xs : List D} (h : ∀ x ∈ xs, Nice n x) : Nice (xs.length * (n + 2) + 3) (.lst xs) := by
  obtain ⟨h1, h2, h3⟩ := nice_all h
  obtain ⟨k1, k2⟩ := list_text h2
  refine ⟨by simp only [py, PyData.showable, h1], by simp only [py, PyData.shown, k1], ?_⟩
  simp only [py, PyData.shown]
  omega
theorem o_neStr {x y : Str} {st : Sto} : cmp2 .ne (.str x) (.str y) st = some (!decide (x = y)) := by
  show ((data st (.str x)).bind fun a => (data st (.str y)).map fun b => !eqD a b) = _
  rw [data_str, data_str]
  show some (!eqD (.str x) (.str y)) = _
  rw [eq_str]
end Dv
namespace Dv
open PySem (Str)
open Cut
local macro_rules | `(tactic| walk_at "w") => `(tactic| simp only [x_set, x_tset, x_par, x_isub, x_aug, x_expr, x_ret, x_retN, x_ite, x_whl, x_for, x_brk, x_cont, x_pass, x_nil, x_cons, evalW, evalsW, evalOW, evalIW, lw_comp, lw_comp2, lw_disp, lw_walk, lw_bltl, lw_add, lw_rev, kw_disp, kw_comp, evalPW, condsW, gdW_clo, gdW_bor, gdW_own, compS_at, compIS_at, comp2S_at, compKS_at, bodyS_at, testS_at, stay_refl, stay_clo, stay_bor, sto_clo, stoL, stoL_app, stoL_clo, snd_clo, List.map_append, ifB_t, ifB_f, optW_some, resW_okk, blW_bl, intW_int, bindW_nm, bindW_tp, bindWs_nil, bindWs_cons, bind_some', wipeW_nil, wipeW_cons, backAt_some, back_nil, back_cons, List.set_cons_zero, List.set_cons_succ, List.getElem?_cons_zero, List.getElem?_cons_succ, List.map_cons, List.map_nil, List.append_nil, List.nil_append, List.cons_append, List.length_cons, List.length_nil, setW_clo, setW_fre, setW_bor, setW_own, setsW_nil, setsW_cons, argK_clo, clzK_clo, clzK_fre, clzK_lse, retK_clo, retK_own, retK_fre, imm_str, imm_int, imm_bl, imm_non, imm_tup, imm_obj, imm_lst, isTok_str, isTok_int, isTok_bl, isTok_non, isTok_tup, isTok_lst, isOwn_own, isOwnL_own, true_and, and_true, if_true, if_false, o_tupleL, o_tupleT, o_listT, o_listL, o_listS, o_listS2, o_tupleS, o_lenL, o_lenT, o_lenS, o_lenS2, o_minI, o_maxI, o_iterL, o_iterT, o_iterS, o_iterS2, o_seqL, o_seqT, o_lstL, o_lstS, o_bltLL, o_bltLT, o_addI, o_subI, o_slcL, o_slcT, o_slcS, cmp_inT, cmp_inL, cmp_ninT, cmp_ninL, cmp_eqT, cmp_neT, cmp_neL, cmp_lt, cmp_gt, cmp_ge, cmp_le, cmp_eqI, cmp_neI, blt_sortS, o_eq0, o_ne0, o_ne0L])
def webS (hs : List (List Str)) : D := .tup (hs.map tupS)
def HdOk (h : List Str) : Prop := ∃ ns, Names ns ∧ h = sortS ns
structure WebOk (hs : List (List Str)) : Prop where
  ne : 1 ≤ hs.length
  le : hs.length ≤ 7
  hd : ∀ h ∈ hs, HdOk h
def b_l_draw_heading (i_l_draw_some : Nat) : List Sx := [.ret (.blt .tuple [.blt .sorted [.callz i_l_draw_some [.var 0, .var 1, .var 2]]])]
def HdS (w : CallW) : Prop := ∀ (k : Kd) (d : D) (cs : List Str) (few : Nat), AK k → iterOf [] d = some (cs.map .str) → cs.length ≤ 10000 → Draws w [(.clo, .obj 1), (k, d), (.clo, .int few)] fun r => ∃ ns, r = tupS (sortS ns) ∧ SubP ns cs ∧ min few cs.length ≤ ns.length
theorem hd_w {C : CW} {is : Nat} (hs : SomeS (C.call is)) : HdS (bodyW C 3 3 (b_l_draw_heading is)) := by
  intro k d cs few hk hi hl X Q hq
  refine ⟨rfl, ?_⟩
  show execsW C _ _ [some (.clo, .obj 1), some (k, d), some (.clo, .int few)] _
  unfold b_l_draw_heading
  walk_at "w"
  refine hs _ d _ few argK_ak hi (by rw [List.length_map]; exact hl) _ _ fun r hr => ?_
  obtain ⟨ys, rfl, p, l⟩ := hr
  obtain ⟨ns, rfl, p2⟩ := p.strs
  rw [List.length_map, List.length_map] at l
  have e2 : blt .sorted [.lst (ns.map .str)] [] = .ok (lstS (sortS ns)) [] := blt_sortS (cs := ns)
  rw [e2]
  walk_at "w"
  exact hq _ ⟨ns, rfl, p2, l⟩
def b_fwLap (i_l_draw_some i_l_pick : Nat) : List Sx := [.set 6 (.ite (.cmp .ne (.var 4) (.frl (.disp []))) (.callz i_l_draw_some [.var 0, .idx (.var 4) (.callz i_l_pick [.var 0, .blt .len [.var 4]]), .int 0]) (.frl (.disp []))), .set 7 (.idx (.frl (.disp [.int 1, .int 2, .int 1, .int 0])) (.callz i_l_pick [.var 0, .int 4])), .expr (.mth .append (.var 4) [.op .add (.var 6) (.slc (.var 3) none (some (.var 7)))]), .set 3 (.slc (.var 3) (some (.var 7)) none)]
def b_l_draw_folding_web (i_l_draw_some i_l_pick i_l_any_order : Nat) : List Sx := [.par [3, 4] [.blt .list [.var 1], .own (.disp [])], .for_ (.nm 5) (.rng [.var 2]) (b_fwLap i_l_draw_some i_l_pick), .ret (.blt .tuple [.frl (.comp [8] (.nm 8) (.itv (.callz i_l_any_order [.var 0, .var 4])) [] (.blt .tuple [.blt .sorted [.var 8]]))])]
def FwS (w : CallW) : Prop := ∀ (k : Kd) (d : D) (cs : List Str) (many : Nat), AK k → iterOf [] d = some (cs.map .str) → Names cs → 1 ≤ many → many ≤ 7 → Draws w [(.clo, .obj 1), (k, d), (.clo, .int many)] fun r => ∃ hs, r = webS hs ∧ WebOk hs
theorem flat_lstsN {n : Nat} (L : List (List Str)) : flat (n + 3) (.lst (L.map lstS)) = true := by
  show (L.map lstS).all (flat (n + 2)) = true
  rw [List.all_eq_true]
  intro x hx
  obtain ⟨B, _, rfl⟩ := List.mem_map.mp hx
  exact flat_lstS
theorem o_neLL {L : List (List Str)} {st : Sto} : cmp2 .ne (.lst (L.map lstS)) (.lst []) st = some (!L.isEmpty) := by
  show ((data st (.lst (L.map lstS))).bind fun x => (data st (.lst [])).map fun y => !eqD x y) = _
  rw [data_flat (flat_lstsN (n := 37) L), data_flat (d := .lst []) rfl]
  show some (!eqDs (L.map lstS) []) = _
  rw [eqs_nil]
  cases L <;> rfl
theorem nodup_len {α : Type} [DecidableEq α] : ∀ {ns ms : List α}, ns.Nodup → (∀ c ∈ ns, c ∈ ms) → ns.length ≤ ms.length
  | [], _, _, _ => (Nat.zero_le _)
  | n :: ns, ms, h, s => by
    have hn := s n (List.mem_cons_self ..)
    have h2 := List.nodup_cons.mp h
    have := nodup_len (ns := ns) (ms := ms.erase n) h2.2 fun c hc => (List.mem_erase_of_ne fun e => h2.1 (by rw [← e]; exact hc)).mpr (s c (List.mem_cons_of_mem _ hc))
    rw [List.length_erase_of_mem hn] at this
    have := List.length_pos_of_mem hn
    rw [List.length_cons]
    omega
theorem names_of {ns : List Str} (h1 : ns.Nodup) (h2 : ∀ c ∈ ns, c ∈ names8) : Names ns := ⟨h1, h2, nodup_len h1 h2⟩
theorem perm_map {α β : Type} {f : α → β} {ys : List β} {xs : List α} (p : ys.Perm (xs.map f)) : ∃ zs : List α, ys = zs.map f ∧ zs.Perm xs := by
  generalize e : xs.map f = ws at p
  induction p generalizing xs with
  | nil => exact ⟨[], rfl, by rw [List.map_eq_nil_iff.mp e]⟩
  | cons a p ih =>
    cases xs with
    | nil => cases e
    | cons x xs =>
      rw [List.map_cons] at e
      injection e with e1 e2
      obtain ⟨zs, h1, h2⟩ := ih e2
      exact ⟨x :: zs, by rw [List.map_cons, e1, h1], h2.cons _⟩
  | swap a b l =>
    cases xs with
    | nil => cases e
    | cons x xs =>
      cases xs with
      | nil => cases e
      | cons y xs =>
        (rw [List.map_cons, List.map_cons] at e)
        injection e with e1 e2
        injection e2 with e2 e3
        exact ⟨y :: x :: xs, by rw [List.map_cons, List.map_cons, e1, e2, e3], .swap ..⟩
  | trans p1 p2 ih1 ih2 =>
    obtain ⟨zs, h1, h2⟩ := ih2 e
    obtain ⟨us, h3, h4⟩ := ih1 h1.symm
    exact ⟨us, h3, h4.trans h2⟩
/-- what has been made, what is left -/
structure FI (rest : List Str) (fs : List (List Str)) : Prop where
  left : Names rest
  made : ∀ f ∈ fs, Names f ∧ ∀ c ∈ f, c ∉ rest
theorem len_any {α : Type} {xs : List α} {v : Int} (v0 : 0 ≤ v) (v1 : 2 ≤ (xs.length : Int) → v < xs.length) (v2 : (xs.length : Int) < 2 → v = 0) (h : xs ≠ []) : ∃ n : Nat, v = n ∧ ∃ x, xs[n]? = some x ∧ x ∈ xs := by
  have l := List.length_pos_iff.mpr h
  have hk : v.toNat < xs.length := by
    by_cases z : 2 ≤ (xs.length : Int)
    · have := v1 z; omega
    · have := v2 (by omega); omega
  exact ⟨v.toNat, by omega, xs[v.toNat], by simp [hk], List.getElem_mem _⟩
theorem fw_lap {C : CW} {X : Xc} {is ip : Nat} (hs : SomeS (C.call is)) (hp : C.call ip = pickW) {rest : List Str} {fs : List (List Str)} {a1 a2 a5 x6 x7 x8 : Option (Kd × D)} {K : FlW → Prop} (I : FI rest fs) (hl : fs.length ≤ 100)
    (h : ∀ rest' f y6 y7, FI rest' (fs ++ [f]) → K (.nx [some (.clo, .obj 1), a1, a2, some (.clo, lstS rest'), some (.own, .lst ((fs ++ [f]).map lstS)), a5, y6, y7, x8])) :
    execsW C X (b_fwLap is ip) [some (.clo, .obj 1), a1, a2, some (.clo, lstS rest), some (.own, .lst (fs.map lstS)), a5, x6, x7, x8] K := by
  unfold b_fwLap
  have tail : ∀ (ms : List Str) (Y : Nat → List (Str × D) → Prop), Names ms → (∀ c ∈ ms, c ∉ rest) → C.call ip [(.clo, .obj 1), (.clo, .int 4)] Y fun k d => resW (idx (.lst [.int 1, .int 2, .int 1, .int 0]) d []) fun d => intW d fun i =>
      resW (op2 .add (lstS ms) (lstS (cutL rest none (some i))) []) fun d_1 => mthW .append (some (some (.own, .lst (fs.map lstS)))) [d_1] fun d_2 y => intW d fun i =>
        K (.nx [some (.clo, .obj 1), a1, a2, some (.clo, lstS (cutL rest (some i) none)), some (.own, y), a5, some (.clo, lstS ms), some (.clo, d), x8]) := by
    intro ms Y hn hd
    refine pick_w hp (by decide) fun v v0 v1 v2 => ?_
    obtain ⟨n, rfl, y, hy, hm⟩ := len_any (xs := [D.int 1, .int 2, .int 1, .int 0]) v0 (fun h => v1 (by decide)) (fun h => absurd h (by decide)) (by simp)
    rw [o_idxL hy]
    have hy2 : ∃ m : Nat, y = .int m := by
      (simp only [List.mem_cons, List.not_mem_nil, or_false] at hm)
      (rcases hm with rfl | rfl | rfl | rfl)
      · exact ⟨1, rfl⟩
      · exact ⟨2, rfl⟩
      · exact ⟨1, rfl⟩
      · exact ⟨0, rfl⟩
    obtain ⟨m, rfl⟩ := hy2
    simp only [resW_okk, intW_int, cutL_take, cutL_drop]
    have l1 := hn.2.2
    have l2 := I.left.2.2
    rw [op_catS (by rw [LIM_eq, List.length_take]; omega), resW_okk, o_append (by rw [List.length_map, LIM_eq]; omega)]
    have e : fs.map lstS ++ [lstS (ms ++ rest.take m)] = (fs ++ [ms ++ rest.take m]).map lstS := by rw [List.map_append]; rfl
    rw [e]
    refine h _ _ _ _ ⟨I.left.sub (List.drop_sublist _ _), fun f hf => ?_⟩
    have td : ∀ c ∈ rest.take m, c ∉ rest.drop m := fun c h1 h2 => by
      have := I.left.1
      rw [← List.take_append_drop m rest] at this
      exact (List.nodup_append.mp this).2.2 c h1 c h2 rfl
    rcases List.mem_append.mp hf with z | z
    · exact ⟨(I.made f z).1, fun c hc h2 => (I.made f z).2 c hc (List.mem_of_mem_drop h2)⟩
    · (rw [List.mem_singleton.mp z])
      refine ⟨names_of (List.nodup_append.mpr ⟨hn.1, I.left.1.sublist (List.take_sublist _ _), fun a ha b hb e => hd a ha (e ▸ List.mem_of_mem_take hb)⟩) fun c hc => ?_, fun c hc => ?_⟩
      · rcases List.mem_append.mp hc with z | z
        · exact hn.2.1 c z
        · exact I.left.2.1 c (List.mem_of_mem_take z)
      · rcases List.mem_append.mp hc with z | z
        · exact fun h2 => hd c z (List.mem_of_mem_drop h2)
        · exact td c z
  walk_at "w"
  rw [o_neLL]
  refine ⟨by decide, ?_⟩
  rw [optW_some]
  refine ifB_of (fun c => ?_) fun c => ?_
  · have ne : fs ≠ [] := fun e => by rw [e] at c; cases c
    rw [List.length_map]
    refine pick_w hp (by omega) fun v v0 v1 v2 => ?_
    obtain ⟨n, rfl, f, hf, hm⟩ := len_any v0 v1 v2 ne
    rw [o_idxL (x := lstS f) (by rw [List.getElem?_map, hf]; rfl), resW_okk]
    refine hs _ _ (f.map .str) 0 (.inl rfl) rfl (by have := (I.made f hm).1.2.2; rw [List.length_map]; omega) _ _ fun r hr => ?_
    obtain ⟨ys, rfl, p, _⟩ := hr
    obtain ⟨ms, rfl, p2⟩ := p.strs
    walk_at "w"
    refine ⟨by decide, tail ms _ (p2.names (I.made f hm).1) fun c hc => (I.made f hm).2 c (p2.mem hc)⟩
  · refine ⟨by decide, by decide, tail [] _ ⟨List.nodup_nil, fun c hc => (by cases hc), by decide⟩ fun c hc => (by cases hc)⟩
theorem fw_w {C : CW} {is ip ia : Nat} (hs : SomeS (C.call is)) (hp : C.call ip = pickW) (ha : AoS (C.call ia)) : FwS (bodyW C 3 9 (b_l_draw_folding_web is ip ia)) := by
  intro k d cs many hk hi hn h1 h7 X Q hq
  refine ⟨rfl, ?_⟩
  show execsW C _ _ [some (.clo, .obj 1), some (k, d), some (.clo, .int many), none, none, none, none, none, none] _
  unfold b_l_draw_folding_web
  have e2 : blt .list [d] [] = .ok (lstS cs) [] := by simp only [blt, hi]; rfl
  walk_at "w"
  rw [e2, resW_okk]
  refine ⟨by decide, by unfold rngOk; rw [decide_eq_true_eq]; omega, rfl, ?_⟩
  rw [show ((many : Int).toNat) = many by simp, rngL_range]
  refine forW_inv (e := fun (i : Nat) => D.int i) (fun lap π => ∃ rest fs y5 y6 y7, π = [some (.clo, .obj 1), some (k, d), some (.clo, .int many), some (.clo, lstS rest), some (.own, .lst (fs.map lstS)), y5, y6, y7, none] ∧ FI rest fs ∧ fs.length + lap.length = many) ?_ ?_ (List.range many) _ ⟨cs, [], _, _, _, rfl, ⟨hn, fun f hf => by cases hf⟩, by simp⟩
  · rintro i lap π ⟨rest, fs, y5, y6, y7, rfl, I, l⟩
    rw [List.length_cons] at l
    refine ⟨_, rfl, fun K j1 j2 j3 j4 => ?_⟩
    rw [bodyS_at]
    refine fw_lap hs hp I (by omega) fun rest' f z6 z7 I' => ?_
    exact j1 _ trivial ⟨rest', fs ++ [f], _, _, _, rfl, I', by rw [List.length_append, List.length_singleton]; omega⟩
  · rintro π ⟨rest, fs, y5, y6, y7, rfl, I, l⟩
    simp only [List.length_nil, Nat.add_zero] at l
    walk_at "w"
    refine ⟨by rfl, ?_⟩
    refine ha _ _ (fs.map lstS) argK_ak rfl (by rw [List.length_map]; omega) _ _ fun r hr => ?_
    obtain ⟨ys, rfl, p⟩ := hr
    obtain ⟨gs, rfl, p2⟩ := perm_map p
    walk_at "w"
    have lg := p2.length_eq
    refine ⟨by rw [List.length_map, LIM_eq]; omega, compW_map (fun g => tupS (sortS g)) trivial (fun x hx K hK => ?_) ?_⟩
    · walk_at "w"
      exact hK
    · have e3 : D.tup (gs.map fun g => tupS (sortS g)) = webS (gs.map sortS) := by
        unfold webS
        rw [List.map_map]
        rfl
      rw [e3]
      refine hq _ ⟨_, rfl, by rw [List.length_map]; omega, by rw [List.length_map]; omega, fun h hh => ?_⟩
      obtain ⟨g, hg, rfl⟩ := List.mem_map.mp hh
      exact ⟨g, (I.made g (p2.mem_iff.mp hg)).1, rfl⟩
def b_l_draw_core (i_l_pick : Nat) : List Sx := [.set 4 (.op .add (.var 2) (.callz i_l_pick [.var 0, .op .sub (.op .add (.var 3) (.int 1)) (.var 2)])), .set 5 (.ite (.or (.cmp .lt (.var 4) (.int 4)) (.cmp .eq (.callz i_l_pick [.var 0, .int 2]) (.int 0))) (.str ⟨#[115, 104, 101, 108, 108]⟩) (.str ⟨#[114, 105, 110, 103]⟩)), .ret (.tup [.var 5, .slc (.blt .list [.var 1]) none (some (.var 4))])]
def wordS (shell : Bool) : Str := if shell then ⟨#[115, 104, 101, 108, 108]⟩ else ⟨#[114, 105, 110, 103]⟩
def CoreS (w : CallW) : Prop := ∀ (k : Kd) (d : D) (cs : List Str) (few most : Nat), AK k → iterOf [] d = some (cs.map .str) → few ≤ most → most ≤ 8 → Draws w [(.clo, .obj 1), (k, d), (.clo, .int few), (.clo, .int most)] fun r => ∃ (n : Nat) (sh : Bool), r = .tup [.str (wordS sh), lstS (cs.take n)] ∧ few ≤ n ∧ n ≤ most ∧ (sh = false → 4 ≤ n)
theorem core_w {C : CW} {ip : Nat} (hp : C.call ip = pickW) : CoreS (bodyW C 4 6 (b_l_draw_core ip)) := by
  intro k d cs few most hk hi h1 h8 X Q hq
  refine ⟨rfl, ?_⟩
  show execsW C _ _ [some (.clo, .obj 1), some (k, d), some (.clo, .int few), some (.clo, .int most), none, none] _
  unfold b_l_draw_core
  have e2 : blt .list [d] [] = .ok (lstS cs) [] := by simp only [blt, hi]; rfl
  have tail : ∀ (n : Nat) (sh : Bool), few ≤ n → n ≤ most → (sh = false → 4 ≤ n) → 2 ≤ LIM ∧ Q .clo (.tup [.str (wordS sh), lstS (cutL cs none (some (n : Int)))]) := fun n sh l1 l2 l3 => ⟨by decide, by rw [cutL_take]; exact hq _ ⟨n, sh, rfl, l1, l2, l3⟩⟩
  walk_at "w"
  refine pick_w hp (by omega) fun v v0 v1 v2 => ?_
  walk_at "w"
  obtain ⟨n, hn⟩ : ∃ n : Nat, (few : Int) + v = n := ⟨((few : Int) + v).toNat, by omega⟩
  have hn2 : n ≤ most := by
    by_cases z : 2 ≤ (most : Int) + 1 - few
    · have := v1 z; omega
    · have := v2 (by omega); omega
  rw [hn]
  try walk_at "w"
  refine ifB_of (fun c => ?_) fun c => ?_
  · try walk_at "w"
    rw [e2]
    walk_at "w"
    exact tail n true (by omega) hn2 (fun z => by cases z)
  · refine pick_w hp (by decide) fun u u0 u1 u2 => ?_
    walk_at "w"
    rw [decide_eq_false_iff_not] at c
    refine ifB_of (fun c2 => ?_) fun c2 => ?_
    · try walk_at "w"
      rw [e2]
      walk_at "w"
      exact tail n true (by omega) hn2 (fun z => by cases z)
    · try walk_at "w"
      rw [e2]
      walk_at "w"
      exact tail n false (by omega) hn2 (fun _ => by omega)
/-- with a core: told elsewhere -/
def CwS (w : CallW) : Prop := ∀ (cs : List Str) (most : Nat), Names cs → 3 ≤ most → most ≤ 5 → most ≤ cs.length → Draws w [(.clo, .obj 1), (.clo, lstS cs), (.clo, .int most)] fun r => ∃ hs, r = webS hs ∧ WebOk hs
def b_l_draw_web (i_l_draw_names i_l_pick i_l_draw_folding_web i_l_draw_cored_web i_l_draw_heading : Nat) : List Sx := [.par [2, 3] [.slc (.callz i_l_draw_names [.var 0, .int 8]) none (some (.var 1)), .callz i_l_pick [.var 0, .int 4]], .ite (.cmp .lt (.var 3) (.int 2)) [.ret (.callz i_l_draw_folding_web [.var 0, .var 2, .op .add (.int 1) (.callz i_l_pick [.var 0, .int 5])])] [], .ite (.cmp .eq (.var 3) (.int 2)) [.ret (.callz i_l_draw_cored_web [.var 0, .var 2, .blt .min [.int 5, .var 1]])] [], .set 4 (.slc (.var 2) none (some (.op .add (.int 1) (.callz i_l_pick [.var 0, .blt .min [.int 4, .var 1]])))), .ret (.blt .tuple [.frl (.comp [5] (.nm 5) (.rng [.op .add (.int 1) (.callz i_l_pick [.var 0, .int 6])]) [] (.callz i_l_draw_heading [.var 0, .var 4, .callz i_l_pick [.var 0, .int 2]]))])]
def DwS (w : CallW) : Prop := ∀ most : Nat, 3 ≤ most → most ≤ 8 → Draws w [(.clo, .obj 1), (.clo, .int most)] fun r => ∃ hs, r = webS hs ∧ WebOk hs
theorem dw_w {C : CW} {inm ip ifw icw ih : Nat} (hn : NamesS (C.call inm)) (hp : C.call ip = pickW) (hf : FwS (C.call ifw)) (hc : CwS (C.call icw)) (hh : HdS (C.call ih)) : DwS (bodyW C 2 6 (b_l_draw_web inm ip ifw icw ih)) := by
  intro most h3 h8 X Q hq
  refine ⟨rfl, ?_⟩
  show execsW C _ _ [some (.clo, .obj 1), some (.clo, .int most), none, none, none, none] _
  unfold b_l_draw_web
  walk_at "w"
  refine hn 8 _ _ fun r hr => ?_
  obtain ⟨ns, rfl, nn, nl⟩ := hr
  have nl : ns.length = 8 := by have := nl (by decide) (by decide); omega
  walk_at "w"
  rw [cutL_take]
  have nt : Names (ns.take most) := nn.sub (List.take_sublist _ _)
  have lt : (ns.take most).length = most := by rw [List.length_take]; omega
  refine pick_w hp (by decide) fun v v0 v1 v2 => ?_
  have v1 := v1 (by decide)
  walk_at "w"
  refine ifB_of (fun c => ?_) fun c => ?_
  · try walk_at "w"
    refine pick_w hp (by decide) fun u u0 u1 u2 => ?_
    have u1 := u1 (by decide)
    walk_at "w"
    obtain ⟨m, hm⟩ : ∃ m : Nat, (1 : Int) + u = m := ⟨(1 + u).toNat, by omega⟩
    rw [hm]
    refine hf .clo _ (ns.take most) m (.inl rfl) rfl nt (by omega) (by omega) _ _ fun r hr => ?_
    obtain ⟨hs, rfl, ok⟩ := hr
    exact hq _ ⟨hs, rfl, ok⟩
  · refine ifB_of (fun c => ?_) fun c => ?_
    · try walk_at "w"
      have e5 : (if (most : Int) < 5 then (most : Int) else 5) = ((min 5 most : Nat) : Int) := by split <;> omega
      rw [e5]
      refine hc (ns.take most) (min 5 most) nt (by omega) (by omega) (by omega) _ _ fun r hr => ?_
      obtain ⟨hs, rfl, ok⟩ := hr
      exact hq _ ⟨hs, rfl, ok⟩
    · try walk_at "w"
      refine pick_w hp (by split <;> omega) fun u u0 u1 u2 => ?_
      walk_at "w"
      obtain ⟨m, hm⟩ : ∃ m : Nat, (1 : Int) + u = m := ⟨(1 + u).toNat, by omega⟩
      rw [hm, cutL_take]
      have nt2 : Names ((ns.take most).take m) := nt.sub (List.take_sublist _ _)
      try walk_at "w"
      refine ⟨by rfl, ?_⟩
      refine pick_w hp (by decide) fun t t0 t1 t2 => ?_
      have t1 := t1 (by decide)
      walk_at "w"
      obtain ⟨g, hg⟩ : ∃ g : Nat, (1 : Int) + t = g := ⟨(1 + t).toNat, by omega⟩
      rw [hg, show ((g : Int).toNat) = g by simp, rngL_range]
      refine ⟨by unfold rngOk; rw [decide_eq_true_eq]; omega, by rw [List.length_map, List.length_range, LIM_eq]; omega, ?_⟩
      refine compW_draw (fun _ (h : List Str) => HdOk h) tupS trivial (fun x hx K hK => ?_) fun ys hys => ?_
      · walk_at "w"
        refine pick_w hp (by decide) fun w w0 w1 w2 => ?_
        walk_at "w"
        obtain ⟨f, rfl⟩ : ∃ f : Nat, w = f := ⟨w.toNat, by omega⟩
        refine hh .clo _ ((ns.take most).take m) f (.inl rfl) rfl (by have := nt2.2.2; omega) _ _ fun r hr => ?_
        obtain ⟨hd, rfl, p, _⟩ := hr
        try walk_at "w"
        exact hK _ ⟨hd, p.names nt2, rfl⟩
      · have l := all2_len hys
        rw [List.length_range] at l
        refine hq _ ⟨ys, rfl, by omega, by omega, fun h hh => ?_⟩
        obtain ⟨_, _, q⟩ := (all2_mem hys).1 h hh
        exact q
end Dv
namespace Dv
open PySem (Str)
open Cut
local macro_rules | `(tactic| walk_at "w") => `(tactic| simp only [x_set, x_tset, x_par, x_isub, x_aug, x_expr, x_ret, x_retN, x_ite, x_whl, x_for, x_brk, x_cont, x_pass, x_nil, x_cons, evalW, evalsW, evalOW, evalIW, lw_comp, lw_comp2, lw_disp, lw_walk, lw_bltl, lw_add, lw_rev, kw_disp, kw_comp, evalPW, condsW, gdW_clo, gdW_bor, gdW_own, compS_at, compIS_at, comp2S_at, compKS_at, bodyS_at, testS_at, stay_refl, stay_clo, stay_bor, sto_clo, stoL, stoL_app, stoL_clo, snd_clo, List.map_append, ifB_t, ifB_f, optW_some, resW_okk, blW_bl, intW_int, bindW_nm, bindW_tp, bindWs_nil, bindWs_cons, bind_some', wipeW_nil, wipeW_cons, backAt_some, back_nil, back_cons, List.set_cons_zero, List.set_cons_succ, List.getElem?_cons_zero, List.getElem?_cons_succ, List.map_cons, List.map_nil, List.append_nil, List.nil_append, List.cons_append, List.length_cons, List.length_nil, setW_clo, setW_fre, setW_bor, setW_own, setsW_nil, setsW_cons, argK_clo, clzK_clo, clzK_fre, clzK_lse, retK_clo, retK_own, retK_fre, imm_str, imm_int, imm_bl, imm_non, imm_tup, imm_obj, imm_lst, isTok_str, isTok_int, isTok_bl, isTok_non, isTok_tup, isTok_lst, isOwn_own, isOwnL_own, true_and, and_true, if_true, if_false, o_tupleL, o_tupleT, o_listT, o_listL, o_listS, o_listS2, o_tupleS, o_lenL, o_lenT, o_lenS, o_lenS2, o_minI, o_maxI, o_iterL, o_iterT, o_iterS, o_iterS2, o_seqL, o_seqT, o_lstL, o_lstS, o_bltLL, o_bltLT, o_addI, o_subI, o_slcL, o_slcT, o_slcS, cmp_inT, cmp_inL, cmp_ninT, cmp_ninL, cmp_eqT, cmp_neT, cmp_neL, cmp_lt, cmp_gt, cmp_ge, cmp_le, cmp_eqI, cmp_neI, blt_sortS, o_eq0, o_ne0, o_ne0L])
abbrev intD (i : Nat) : D := .int i
theorem o_idxT {xs : List D} {n : Nat} {x : D} (hx : xs[n]? = some x) : idx (.tup xs) (.int n) [] = .ok x [] := by
  have hk : n < xs.length := by
    rcases Nat.lt_or_ge n xs.length with h | h
    · exact h
    · rw [List.getElem?_eq_none h] at hx; cases hx
  show ofO ((place xs.length n).bind fun k => xs[k]?) [] = _
  unfold place
  (rw [if_pos (by omega), if_pos (by omega)])
  simp [hx, ofO]
def at_ (hs : List (List Str)) (x : Nat) : List Str := hs.getD x []
theorem o_idxW {hs : List (List Str)} {x : Nat} (h : x < hs.length) : idx (webS hs) (.int x) [] = .ok (tupS (at_ hs x)) [] := by
  refine o_idxT ?_
  unfold at_
  rw [List.getElem?_map, List.getD_eq_getElem?_getD, List.getElem?_eq_getElem h]
  rfl
theorem eq_cast {x y : Nat} : ((x : Int) == (y : Int)) = decide (x = y) := by
  (rw [Bool.eq_iff_iff, beq_iff_eq, decide_eq_true_eq])
  omega
def b_lies_within : List Sx := [.ret (.blt .all [.frl (.comp [2] (.nm 2) (.itv (.var 0)) [] (.cmp .inn (.var 2) (.var 1)))])]
def lw (a b : List Str) : Bool := a.all fun c => decide (c ∈ b)
def LwS (w : CallW) : Prop := ∀ (k : Kd) (d : D) (a b : List Str), AK k → iterOf [] d = some (a.map .str) → a.length ≤ 10000 → Pure w [(k, d), (.clo, tupS b)] (.bl (lw a b))
theorem lw_w {C : CW} : LwS (bodyW C 2 3 b_lies_within) := by
  intro k d a b hk hi hl X Q hq
  refine ⟨rfl, ?_⟩
  show execsW C _ _ [some (k, d), some (.clo, tupS b), none] _
  unfold b_lies_within
  walk_at "w"
  rw [gdW_ak hk, hi, optW_some]
  refine ⟨by rfl, by rw [List.length_map, LIM_eq]; omega, compW_map (fun c => .bl (decide (c ∈ b))) trivial (fun x hx K hK => ?_) ?_⟩
  · walk_at "w"
    exact hK
  · rw [o_all]
    walk_at "w"
    exact hq
def b_is_ear (i_lies_within : Nat) : List Sx := [.set 4 (.frl (.comp2 [5, 6] (.nm 5) (.itv (.var 1)) [.cmp .ne (.var 5) (.var 2)] (.nm 6) (.itv (.idx (.var 0) (.var 2))) [.cmp .inn (.var 6) (.idx (.var 0) (.var 5))] (.var 6))), .ret (.and (.cmp .ne (.var 2) (.var 3)) (.callz i_lies_within [.var 4, .idx (.var 0) (.var 3)]))]
def commonIn (hs : List (List Str)) (lot : List Nat) (x : Nat) : List Str := lot.flatMap fun z => if x = z then [] else inn (at_ hs x) (at_ hs z)
def isEar (hs : List (List Str)) (lot : List Nat) (x y : Nat) : Bool := !decide (x = y) && lw (commonIn hs lot x) (at_ hs y)
/-- numbers of a web's headings -/
structure LotOk (hs : List (List Str)) (lot : List Nat) : Prop where
  lt : ∀ z ∈ lot, z < hs.length
  le : lot.length ≤ 7
  le2 : hs.length ≤ 7
  hd : ∀ h ∈ hs, h.length ≤ 100
theorem LotOk.at {hs : List (List Str)} {lot : List Nat} (h : LotOk hs lot) (z : Nat) : (at_ hs z).length ≤ 100 := by
  unfold at_
  (rw [List.getD_eq_getElem?_getD])
  cases e : hs[z]? with
  | none => exact Nat.zero_le _
  | some a => exact h.hd a (List.mem_of_getElem? e)
theorem inn_len {a b : List Str} : (inn a b).length ≤ a.length := List.length_filter_le _ _
theorem flat_len {α β : Type} {f : α → List β} {n : Nat} : ∀ {xs : List α}, (∀ x ∈ xs, (f x).length ≤ n) → (xs.flatMap f).length ≤ xs.length * n
  | [], _ => Nat.zero_le _
  | x :: xs, h => by
    (have h1 := h x (List.mem_cons_self ..))
    have h2 := flat_len (xs := xs) fun y hy => h y (List.mem_cons_of_mem _ hy)
    rw [List.flatMap_cons, List.length_append, List.length_cons, Nat.succ_mul]
    omega
theorem LotOk.common {hs : List (List Str)} {lot : List Nat} (h : LotOk hs lot) (x : Nat) : (commonIn hs lot x).length ≤ 700 := by
  have := flat_len (f := fun z => if x = z then [] else inn (at_ hs x) (at_ hs z)) (n := 100) (xs := lot) fun z _ => by
    split
    · exact Nat.zero_le _
    · exact Nat.le_trans inn_len (h.at x)
  have h2 := h.le
  unfold commonIn
  omega
def lotT (lot : List Nat) : D := .tup (lot.map intD)
def IsEarS (w : CallW) : Prop := ∀ (hs : List (List Str)) (lot : List Nat) (x y : Nat), LotOk hs lot → x < hs.length → y < hs.length → Pure w [(.clo, webS hs), (.clo, lotT lot), (.clo, intD x), (.clo, intD y)] (.bl (isEar hs lot x y))
theorem isear_w {C : CW} {il : Nat} (hl : LwS (C.call il)) : IsEarS (bodyW C 4 7 (b_is_ear il)) := by
  intro hs lot x y ok hx hy X Q hq
  refine ⟨rfl, ?_⟩
  show execsW C _ _ [some (.clo, webS hs), some (.clo, lotT lot), some (.clo, .int x), some (.clo, .int y), none, none, none] _
  unfold b_is_ear
  unfold lotT
  walk_at "w"
  have l7 := ok.le
  refine ⟨by rfl, by rfl, by rw [List.length_map, LIM_eq]; omega, ?_⟩
  refine compW_bind (fun z => (if x = z then [] else inn (at_ hs x) (at_ hs z)).map D.str) trivial (fun z hz K hK => ?_) ?_
  · walk_at "w"
    rw [eq_cast]
    refine ifB_of (fun c => ?_) fun c => ?_
    · have ne : ¬ x = z := fun e => by simp [e] at c
      rw [if_neg ne] at hK
      rw [o_idxW hx]
      walk_at "w"
      refine ⟨by have := ok.at x; rw [List.length_map, LIM_eq]; omega, compW_filter (fun c => decide (c ∈ at_ hs z)) .str trivial (fun u hu K hK => ?_) ?_⟩
      · walk_at "w"
        rw [o_idxW (ok.lt z hz)]
        walk_at "w"
        exact hK
      · exact hK
    · have e : x = z := by simp at c; exact c.symm
      rw [if_pos e] at hK
      exact hK
  · have e : (lot.flatMap fun z => (if x = z then [] else inn (at_ hs x) (at_ hs z)).map D.str) = (commonIn hs lot x).map .str := (List.map_flatMap ..).symm
    rw [e]
    have lc := ok.common x
    walk_at "w"
    rw [eq_cast]
    refine ⟨by rw [List.length_map, LIM_eq]; omega, ifB_of (fun c => ?_) fun c => ?_⟩
    · rw [o_idxW hy]
      walk_at "w"
      refine hl _ _ (commonIn hs lot x) (at_ hs y) (.inl rfl) rfl (by omega) _ _ ?_
      try walk_at "w"
      unfold isEar at hq
      rw [c] at hq
      exact hq
    · unfold isEar at hq
      rw [c] at hq
      exact hq
def earsF (hs : List (List Str)) (lot : List Nat) : List (Nat × Nat) := lot.flatMap fun x => (lot.filter fun y => isEar hs lot x y).map fun y => (x, y)
def pairD (p : Nat × Nat) : D := .tup [.int p.1, .int p.2]
theorem ears_len {hs : List (List Str)} {lot : List Nat} : (earsF hs lot).length ≤ lot.length * lot.length := flat_len fun x _ => by
  rw [List.length_map]
  exact List.length_filter_le _ _
def eiIn : List Sx := [.set 4 (.frl (.comp [6] (.nm 6) (.itv (.var 1)) [.cmp .ne (.var 6) (.var 3)] (.idx (.var 0) (.var 6)))), .set 5 (.frl (.comp [7] (.nm 7) (.itv (.idx (.var 0) (.var 3))) [.blt .any [.frl (.comp [8] (.nm 8) (.itv (.var 4)) [] (.cmp .inn (.var 7) (.var 8)))]] (.var 7))), .set 2 (.op .add (.var 2) (.frl (.comp [9] (.nm 9) (.itv (.var 1)) [.and (.cmp .ne (.var 9) (.var 3)) (.blt .all [.frl (.comp [7] (.nm 7) (.itv (.var 5)) [] (.cmp .inn (.var 7) (.idx (.var 0) (.var 9))))])] (.tup [.var 3, .var 9]))))]
def b_l_ears_in : List Sx := [.set 2 (.frl (.disp [])), .for_ (.nm 3) (.itv (.var 1)) eiIn, .ret (.var 2)]
def EinS (w : CallW) : Prop := ∀ (k : Kd) (d : D) (hs : List (List Str)) (lot : List Nat), AK k → iterOf [] d = some (lot.map intD) → LotOk hs lot → Pure w [(.clo, webS hs), (k, d)] (.lst ((earsF hs lot).map pairD))
theorem ein_w {C : CW} : EinS (bodyW C 2 10 b_l_ears_in) := by
  intro k d hs lot hk hi ok X Q hq
  refine ⟨rfl, ?_⟩
  show execsW C _ _ [some (.clo, webS hs), some (k, d), none, none, none, none, none, none, none, none] _
  unfold b_l_ears_in
  have l7 := ok.le
  walk_at "w"
  rw [gdW_ak hk, hi, optW_some]
  refine ⟨by decide, by rfl, ?_⟩
  refine forW_inv (fun rest π => ∃ acc y3 y4 y5, π = [some (.clo, webS hs), some (k, d), some (.clo, .lst (acc.map pairD)), y3, y4, y5, none, none, none, none] ∧ (∀ x ∈ rest, x ∈ lot) ∧ acc.length + rest.length * 7 ≤ 49 ∧ acc ++ (rest.flatMap fun x => (lot.filter fun y => isEar hs lot x y).map fun y => (x, y)) = earsF hs lot) ?_ ?_ lot _ ⟨[], _, _, _, rfl, fun _ h => h, by rw [List.length_nil]; omega, rfl⟩
  · rintro x rest π ⟨acc, y3, y4, y5, rfl, hin, hl, hac⟩
    have hx := hin x (List.mem_cons_self ..)
    refine ⟨_, rfl, fun K j1 j2 j3 j4 => ?_⟩
    rw [bodyS_at]
    unfold eiIn
    walk_at "w"
    rw [gdW_ak hk, hi, optW_some]
    refine ⟨by rfl, by rw [List.length_map, LIM_eq]; omega, ?_⟩
    refine compW_filter (fun z => !decide (z = x)) (fun z => tupS (at_ hs z)) trivial (fun z hz K hK => ?_) ?_
    · walk_at "w"
      rw [eq_cast, o_idxW (ok.lt z hz)]
      walk_at "w"
      exact hK
    walk_at "w"
    rw [o_idxW (ok.lt x hx)]
    walk_at "w"
    refine ⟨by rfl, by have := ok.at x; rw [List.length_map, LIM_eq]; omega, ?_⟩
    refine compW_filter (fun c => (lot.filter fun z => !decide (z = x)).any fun z => decide (c ∈ at_ hs z)) .str trivial (fun c hc K hK => ?_) ?_
    · walk_at "w"
      refine ⟨by rfl, by have := List.length_filter_le (fun z => !decide (z = x)) lot; rw [List.length_map, LIM_eq]; omega, ?_⟩
      refine compW_map (fun z => .bl (decide (c ∈ at_ hs z))) trivial (fun z hz K hK => ?_) ?_
      · walk_at "w"
        exact hK
      · rw [o_any]
        walk_at "w"
        exact hK
    walk_at "w"
    rw [gdW_ak hk, hi, optW_some]
    have hc : ∀ y, (decide (y ≠ x) && ((at_ hs x).filter fun c => (lot.filter fun z => !decide (z = x)).any fun z => decide (c ∈ at_ hs z)).all fun c => decide (c ∈ at_ hs y)) = isEar hs lot x y := fun y => by
      unfold isEar lw commonIn
      rw [Bool.eq_iff_iff]
      simp only [Bool.and_eq_true, decide_eq_true_eq, Bool.not_eq_true', decide_eq_false_iff_not, List.all_eq_true, List.mem_filter, List.any_eq_true, List.mem_flatMap]
      constructor
      · rintro ⟨h1, h2⟩
        refine ⟨fun e => h1 e.symm, ?_⟩
        rintro c ⟨z, hz, hc⟩
        by_cases e : x = z
        · rw [if_pos e] at hc; cases hc
        · rw [if_neg e] at hc
          obtain ⟨q1, q2⟩ := mem_inn.mp hc
          exact h2 c ⟨q1, z, ⟨hz, fun w => e w.symm⟩, q2⟩
      · rintro ⟨h1, h2⟩
        refine ⟨fun e => h1 e.symm, ?_⟩
        rintro c ⟨q1, z, ⟨hz, hne⟩, q2⟩
        refine h2 c ⟨z, hz, ?_⟩
        rw [if_neg fun e => hne e.symm]
        exact mem_inn.mpr ⟨q1, q2⟩
    refine ⟨by rfl, by rw [List.length_map, LIM_eq]; omega, ?_⟩
    refine compW_filter (fun y => isEar hs lot x y) (fun y => pairD (x, y)) trivial (fun y hy K hK => ?_) ?_
    · walk_at "w"
      rw [eq_cast]
      have hcy := hc y
      refine ifB_of (fun c1 => ?_) fun c1 => ?_
      · refine ⟨by rfl, by have := List.length_filter_le (fun c => (lot.filter fun z => !decide (z = x)).any fun z => decide (c ∈ at_ hs z)) (at_ hs x); have := ok.at x; rw [List.length_map, LIM_eq]; omega, ?_⟩
        refine compW_map (fun c => .bl (decide (c ∈ at_ hs y))) trivial (fun c hc K hK => ?_) ?_
        · walk_at "w"
          rw [o_idxW (ok.lt y hy)]
          walk_at "w"
          exact hK
        · rw [o_all]
          walk_at "w"
          have : decide (y ≠ x) = true := by simpa using c1
          rw [this, Bool.true_and] at hcy
          rw [hcy]
          refine ifB_of (fun c2 => ?_) fun c2 => ?_
          · rw [c2] at hK
            exact ⟨by decide, hK⟩
          · rw [c2] at hK
            exact hK
      · have : decide (y ≠ x) = false := by simpa using c1
        rw [this, Bool.false_and] at hcy
        rw [← hcy] at hK
        exact hK
    have lf := List.length_filter_le (fun y => isEar hs lot x y) lot
    rw [List.length_cons] at hl
    rw [o_cat (by rw [List.length_map, List.length_map, LIM_eq]; omega)]
    walk_at "w"
    have em : acc.map pairD ++ (lot.filter fun y => isEar hs lot x y).map (fun y => pairD (x, y)) = (acc ++ (lot.filter fun y => isEar hs lot x y).map fun y => (x, y)).map pairD := by
      rw [List.map_append, List.map_map]
      rfl
    rw [em]
    refine j1 _ trivial ⟨acc ++ (lot.filter fun y => isEar hs lot x y).map fun y => (x, y), _, _, _, rfl, fun z hz => hin z (List.mem_cons_of_mem _ hz), by rw [List.length_append, List.length_map]; omega, by rw [← hac, List.flatMap_cons, List.append_assoc]⟩
  · rintro π ⟨acc, y3, y4, y5, rfl, _, _, hac⟩
    rw [List.flatMap_nil, List.append_nil] at hac
    subst hac
    walk_at "w"
    exact hq
end Dv
namespace Dv
open PySem (Str PyData)
open Cut
local macro_rules | `(tactic| walk_at "w") => `(tactic| simp only [x_set, x_tset, x_par, x_isub, x_aug, x_expr, x_ret, x_retN, x_ite, x_whl, x_for, x_brk, x_cont, x_pass, x_nil, x_cons, evalW, evalsW, evalOW, evalIW, lw_comp, lw_comp2, lw_disp, lw_walk, lw_bltl, lw_add, lw_rev, kw_disp, kw_comp, evalPW, condsW, gdW_clo, gdW_bor, gdW_own, compS_at, compIS_at, comp2S_at, compKS_at, bodyS_at, testS_at, stay_refl, stay_clo, stay_bor, sto_clo, stoL, stoL_app, stoL_clo, snd_clo, List.map_append, ifB_t, ifB_f, optW_some, resW_okk, blW_bl, intW_int, bindW_nm, bindW_tp, bindWs_nil, bindWs_cons, bind_some', wipeW_nil, wipeW_cons, backAt_some, back_nil, back_cons, List.set_cons_zero, List.set_cons_succ, List.getElem?_cons_zero, List.getElem?_cons_succ, List.map_cons, List.map_nil, List.append_nil, List.nil_append, List.cons_append, List.length_cons, List.length_nil, setW_clo, setW_fre, setW_bor, setW_own, setsW_nil, setsW_cons, argK_clo, clzK_clo, clzK_fre, clzK_lse, retK_clo, retK_own, retK_fre, imm_str, imm_int, imm_bl, imm_non, imm_tup, imm_obj, imm_lst, isTok_str, isTok_int, isTok_bl, isTok_non, isTok_tup, isTok_lst, isOwn_own, isOwnL_own, true_and, and_true, if_true, if_false, o_tupleL, o_tupleT, o_listT, o_listL, o_listS, o_listS2, o_tupleS, o_lenL, o_lenT, o_lenS, o_lenS2, o_minI, o_maxI, o_iterL, o_iterT, o_iterS, o_iterS2, o_seqL, o_seqT, o_lstL, o_lstS, o_bltLL, o_bltLT, o_addI, o_subI, o_slcL, o_slcT, o_slcS, cmp_inT, cmp_inL, cmp_ninT, cmp_ninL, cmp_eqT, cmp_neT, cmp_neL, cmp_lt, cmp_gt, cmp_ge, cmp_le, cmp_eqI, cmp_neI, blt_sortS, o_eq0, o_ne0, o_ne0L])
theorem HdOk.names {h : List Str} (k : HdOk h) : Names h := by
  obtain ⟨ns, n, rfl⟩ := k
  exact n.perm (sortS_perm _)
theorem names_nil : Names [] := ⟨List.nodup_nil, fun _ h => (by cases h), by decide⟩
theorem flat_pair {n : Nat} {p : Nat × Nat} : flat (n + 2) (pairD p) = true := rfl
theorem flat_pairs {n : Nat} {ps : List (Nat × Nat)} : flat (n + 3) (.lst (ps.map pairD)) = true := by
  show (ps.map pairD).all (flat (n + 2)) = true
  rw [List.all_eq_true]
  intro x hx
  obtain ⟨p, _, rfl⟩ := List.mem_map.mp hx
  exact flat_pair
theorem ears_mem {hs : List (List Str)} {lot : List Nat} {p : Nat × Nat} (h : p ∈ earsF hs lot) : p.1 ∈ lot ∧ p.2 ∈ lot := by
  obtain ⟨x, hx, h⟩ := List.mem_flatMap.mp h
  obtain ⟨y, hy, rfl⟩ := List.mem_map.mp h
  exact ⟨hx, (List.mem_filter.mp hy).1⟩
section
variable {C : CW} {iw ip icut ih icol is ie ii : Nat} {X : Xc} {K : FlW → Prop}
structure WOk (hs : List (List Str)) : Prop where
  le : hs.length ≤ 7
  hd : ∀ h ∈ hs, Names h
theorem WebOk.w {hs : List (List Str)} (h : WebOk hs) : WOk hs := ⟨h.le, fun x hx => (h.hd x hx).names⟩
theorem WOk.cut {hs : List (List Str)} (h : WOk hs) (cs : List Str) : WOk (hs.map fun x => inn x cs) := ⟨by rw [List.length_map]; exact h.le, fun x hx => by
  (obtain ⟨y, hy, rfl⟩ := List.mem_map.mp hx)
  exact (h.hd y hy).sub List.filter_sublist⟩
theorem WOk.lot {hs : List (List Str)} (h : WOk hs) {lot : List Nat} (l1 : ∀ z ∈ lot, z < hs.length) (l2 : lot.length ≤ 7) : LotOk hs lot := ⟨l1, l2, h.le, fun x hx => by have := (h.hd x hx).2.2; omega⟩
end
end Dv
namespace Dv
open PySem (Str PyData)
open Cut
local macro_rules | `(tactic| walk_at "w") => `(tactic| simp only [x_set, x_tset, x_par, x_isub, x_aug, x_expr, x_ret, x_retN, x_ite, x_whl, x_for, x_brk, x_cont, x_pass, x_nil, x_cons, evalW, evalsW, evalOW, evalIW, lw_comp, lw_comp2, lw_disp, lw_walk, lw_bltl, lw_add, lw_rev, kw_disp, kw_comp, evalPW, condsW, gdW_clo, gdW_bor, gdW_own, compS_at, compIS_at, comp2S_at, compKS_at, bodyS_at, testS_at, stay_refl, stay_clo, stay_bor, sto_clo, stoL, stoL_app, stoL_clo, snd_clo, List.map_append, ifB_t, ifB_f, optW_some, resW_okk, blW_bl, intW_int, bindW_nm, bindW_tp, bindWs_nil, bindWs_cons, bind_some', wipeW_nil, wipeW_cons, backAt_some, back_nil, back_cons, List.set_cons_zero, List.set_cons_succ, List.getElem?_cons_zero, List.getElem?_cons_succ, List.map_cons, List.map_nil, List.append_nil, List.nil_append, List.cons_append, List.length_cons, List.length_nil, setW_clo, setW_fre, setW_bor, setW_own, setsW_nil, setsW_cons, argK_clo, clzK_clo, clzK_fre, clzK_lse, retK_clo, retK_own, retK_fre, imm_str, imm_int, imm_bl, imm_non, imm_tup, imm_obj, imm_lst, isTok_str, isTok_int, isTok_bl, isTok_non, isTok_tup, isTok_lst, isOwn_own, isOwnL_own, true_and, and_true, if_true, if_false, o_tupleL, o_tupleT, o_listT, o_listL, o_listS, o_listS2, o_tupleS, o_lenL, o_lenT, o_lenS, o_lenS2, o_minI, o_maxI, o_iterL, o_iterT, o_iterS, o_iterS2, o_seqL, o_seqT, o_lstL, o_lstS, o_bltLL, o_bltLT, o_addI, o_subI, o_slcL, o_slcT, o_slcS, cmp_inT, cmp_inL, cmp_ninT, cmp_ninL, cmp_eqT, cmp_neT, cmp_neL, cmp_lt, cmp_gt, cmp_ge, cmp_le, cmp_eqI, cmp_neI, blt_sortS, o_eq0, o_ne0, o_ne0L])
def without (lot : List Nat) (x : Nat) : List Nat := lot.filter fun z => !decide (z = x)
def foldAll (hs : List (List Str)) : Nat → List Nat → Option (List (Nat × Nat))
  | 0, _ => some []
  | n + 1, lot => if lot.length ≤ 1 then some [] else match earsF hs lot with
    | [] => none
    | p :: _ => (foldAll hs n (without lot p.1)).map (p :: ·)
def foldF (hs : List (List Str)) : Option (List (Nat × Nat)) := foldAll hs hs.length (List.range hs.length)
def foldD : Option (List (Nat × Nat)) → D
  | none => .non
  | some ps => .tup (ps.map pairD)
/-- all ears may be taken, one by one -/
inductive Fd (hs : List (List Str)) : List Nat → Prop where
  | one (lot : List Nat) : lot.length ≤ 1 → Fd hs lot
  | step (lot : List Nat) (p : Nat × Nat) : p ∈ earsF hs lot → Fd hs (without lot p.1) → Fd hs lot
theorem mem_without {lot : List Nat} {x z : Nat} : z ∈ without lot x ↔ z ∈ lot ∧ z ≠ x := by
  unfold without
  simp [List.mem_filter]
theorem without_nodup {lot : List Nat} {x : Nat} (h : lot.Nodup) : (without lot x).Nodup := h.sublist List.filter_sublist
theorem without_len {lot : List Nat} {x : Nat} (h : lot.Nodup) (hx : x ∈ lot) : (without lot x).length + 1 = lot.length := by
  have e : without lot x = lot.erase x := by
    rw [h.erase_eq_filter]
    unfold without
    congr 1
  rw [e, List.length_erase_of_mem hx]
  have := List.length_pos_of_mem hx
  omega
/-- an ear: what it shares with others lies in its mate -/
theorem ear_iff {hs : List (List Str)} {lot : List Nat} {x y : Nat} : (x, y) ∈ earsF hs lot ↔ x ∈ lot ∧ y ∈ lot ∧ x ≠ y ∧ ∀ c ∈ at_ hs x, ∀ z ∈ lot, z ≠ x → c ∈ at_ hs z → c ∈ at_ hs y := by
  unfold earsF
  rw [List.mem_flatMap]
  constructor
  · rintro ⟨a, ha, h⟩
    obtain ⟨b, hb, e⟩ := List.mem_map.mp h
    injection e with e1 e2
    subst e1 e2
    obtain ⟨h1, h2⟩ := List.mem_filter.mp hb
    unfold isEar lw commonIn at h2
    simp only [Bool.and_eq_true, Bool.not_eq_true', decide_eq_false_iff_not, List.all_eq_true, List.mem_flatMap, decide_eq_true_eq] at h2
    refine ⟨ha, h1, h2.1, fun c hc z hz ne hcz => h2.2 c ⟨z, hz, ?_⟩⟩
    rw [if_neg fun e => ne e.symm]
    exact mem_inn.mpr ⟨hc, hcz⟩
  · rintro ⟨h1, h2, h3, h4⟩
    refine ⟨x, h1, List.mem_map.mpr ⟨y, List.mem_filter.mpr ⟨h2, ?_⟩, rfl⟩⟩
    unfold isEar lw commonIn
    simp only [Bool.and_eq_true, Bool.not_eq_true', decide_eq_false_iff_not, List.all_eq_true, List.mem_flatMap, decide_eq_true_eq]
    refine ⟨h3, ?_⟩
    rintro c ⟨z, hz, hc⟩
    by_cases e : x = z
    · rw [if_pos e] at hc; cases hc
    · rw [if_neg e] at hc
      obtain ⟨a, b⟩ := mem_inn.mp hc
      exact h4 c a z hz (fun q => e q.symm) b
theorem without_comm {lot : List Nat} {x y : Nat} : without (without lot x) y = without (without lot y) x := by
  unfold without
  rw [List.filter_filter, List.filter_filter]
  congr 1
  funext z
  rw [Bool.and_comm]
theorem fd_swap {hs : List (List Str)} {K : List Nat} (h : Fd hs K) : ∀ (lot : List Nat) (x a : Nat), lot.Nodup → K = without lot a → (x, a) ∈ earsF hs lot → (a, x) ∈ earsF hs lot → Fd hs (without lot x) := by
  induction h with
  | one K hl =>
    rintro lot x a nd rfl hx ha
    have m1 := (ear_iff.mp hx).1
    have m2 := (ear_iff.mp ha).1
    have l1 := without_len nd m1
    have l2 := without_len nd m2
    exact .one _ (by omega)
  | step K p hp _ ih =>
    rintro lot x a nd rfl hx ha
    obtain ⟨u, v⟩ := p
    obtain ⟨mx, ma, xa, cx⟩ := ear_iff.mp hx
    obtain ⟨_, _, _, ca⟩ := ear_iff.mp ha
    obtain ⟨mu, mv, uv, cu⟩ := ear_iff.mp hp
    obtain ⟨mu1, mu2⟩ := mem_without.mp mu
    obtain ⟨mv1, mv2⟩ := mem_without.mp mv
    by_cases ux : u = x
    · subst ux
      refine .step _ (a, v) (ear_iff.mpr ⟨mem_without.mpr ⟨ma, fun e => xa e.symm⟩, mem_without.mpr ⟨mv1, fun e => uv e.symm⟩, fun e => mv2 e.symm, fun c hc z hz ne hcz => ?_⟩) ?_
      · obtain ⟨z1, z2⟩ := mem_without.mp hz
        have h1 := ca c hc z z1 ne hcz
        exact cu c h1 z (mem_without.mpr ⟨z1, ne⟩) z2 hcz
      · rw [without_comm]
        assumption
    · have key : ∀ c ∈ at_ hs u, ∀ z ∈ without lot x, z ≠ u → c ∈ at_ hs z → c ∈ at_ hs v := fun c hc z hz ne hcz => by
        obtain ⟨z1, z2⟩ := mem_without.mp hz
        by_cases za : z = a
        · subst za
          have h1 := ca c hcz u mu1 mu2 hc
          exact cu c hc x (mem_without.mpr ⟨mx, xa⟩) (fun e => ux e.symm) h1
        · exact cu c hc z (mem_without.mpr ⟨z1, za⟩) ne hcz
      have nxt : Fd hs (without (without lot x) u) := by
        rw [without_comm]
        refine ih (without lot u) x a (without_nodup nd) without_comm (ear_iff.mpr ⟨mem_without.mpr ⟨mx, fun e => ux e.symm⟩, mem_without.mpr ⟨ma, fun e => mu2 e.symm⟩, xa, fun c hc z hz ne hcz => cx c hc z (mem_without.mp hz).1 ne hcz⟩) (ear_iff.mpr ⟨mem_without.mpr ⟨ma, fun e => mu2 e.symm⟩, mem_without.mpr ⟨mx, fun e => ux e.symm⟩, fun e => xa e.symm, fun c hc z hz ne hcz => ca c hc z (mem_without.mp hz).1 ne hcz⟩)
      by_cases vx : v = x
      · refine .step _ (u, a) (ear_iff.mpr ⟨mem_without.mpr ⟨mu1, ux⟩, mem_without.mpr ⟨ma, fun e => xa e.symm⟩, mu2, fun c hc z hz ne hcz => ?_⟩) nxt
        have h1 := key c hc z hz ne hcz
        rw [vx] at h1
        exact cx c h1 u mu1 ux hc
      · exact .step _ (u, v) (ear_iff.mpr ⟨mem_without.mpr ⟨mu1, ux⟩, mem_without.mpr ⟨mv1, vx⟩, uv, key⟩) nxt
/-- whichever ear is taken: what is left can be taken, too -/
theorem fd_ear {hs : List (List Str)} {lot : List Nat} (h : Fd hs lot) : ∀ {p : Nat × Nat}, lot.Nodup → p ∈ earsF hs lot → Fd hs (without lot p.1) := by
  induction h with
  | one K hl =>
    rintro ⟨x, y⟩ nd hx
    obtain ⟨mx, my, xy, _⟩ := ear_iff.mp hx
    have l1 := without_len nd mx
    exact .one _ (by show (without K x).length ≤ 1; omega)
  | step lot q hq hw ih =>
    rintro ⟨x, y⟩ nd hx
    obtain ⟨a, b⟩ := q
    obtain ⟨mx, my, xy, cx⟩ := ear_iff.mp hx
    obtain ⟨ma, mb, ab, ca⟩ := ear_iff.mp hq
    show Fd hs (without lot x)
    by_cases xa : x = a
    · rw [xa]; exact hw
    have wa := without_nodup (x := a) nd
    have fin : (b ≠ x ∨ y ≠ a) → Fd hs (without (without lot a) x) → Fd hs (without lot x) := fun hor hM => by
      rw [without_comm] at hM
      by_cases bx : b = x
      · have ya : y ≠ a := hor.resolve_left fun z => z bx
        refine .step _ (a, y) (ear_iff.mpr ⟨mem_without.mpr ⟨ma, fun e => xa e.symm⟩, mem_without.mpr ⟨my, fun e => xy e.symm⟩, fun e => ya e.symm, fun c hc z hz ne hcz => ?_⟩) hM
        obtain ⟨z1, z2⟩ := mem_without.mp hz
        have h1 := ca c hc z z1 ne hcz
        rw [bx] at h1
        exact cx c h1 z z1 z2 hcz
      · exact .step _ (a, b) (ear_iff.mpr ⟨mem_without.mpr ⟨ma, fun e => xa e.symm⟩, mem_without.mpr ⟨mb, bx⟩, ab, fun c hc z hz ne hcz => ca c hc z (mem_without.mp hz).1 ne hcz⟩) hM
    by_cases ya : y = a
    · by_cases bx : b = x
      · subst ya bx
        exact fd_swap hw lot b y nd rfl hx hq
      · refine fin (.inl bx) (ih (p := (x, b)) wa (ear_iff.mpr ⟨mem_without.mpr ⟨mx, xa⟩, mem_without.mpr ⟨mb, fun e => ab e.symm⟩, fun e => bx e.symm, fun c hc z hz ne hcz => ?_⟩))
        obtain ⟨z1, z2⟩ := mem_without.mp hz
        have h1 := cx c hc z z1 ne hcz
        rw [ya] at h1
        exact ca c h1 z z1 z2 hcz
    · exact fin (.inr ya) (ih (p := (x, y)) wa (ear_iff.mpr ⟨mem_without.mpr ⟨mx, xa⟩, mem_without.mpr ⟨my, ya⟩, xy, fun c hc z hz ne hcz => cx c hc z (mem_without.mp hz).1 ne hcz⟩))
theorem fd_more {hs : List (List Str)} {lot : List Nat} (h : Fd hs lot) (l : 1 < lot.length) : earsF hs lot ≠ [] := by
  cases h with
  | one _ hl => omega
  | step _ p hp _ => exact List.ne_nil_of_mem hp
theorem fd_of {hs : List (List Str)} : ∀ {n : Nat} {lot : List Nat} {ps : List (Nat × Nat)}, lot.Nodup → lot.length ≤ n + 1 → foldAll hs n lot = some ps → Fd hs lot
  | 0, lot, ps, _, hl, _ => .one _ (by omega)
  | n + 1, lot, ps, nd, hl, h => by
    unfold foldAll at h
    split at h
    · exact .one _ (by assumption)
    · split at h
      · cases h
      · rename_i p r e
        obtain ⟨qs, h1, _⟩ := Option.map_eq_some_iff.mp h
        have hp : p ∈ earsF hs lot := by rw [e]; exact List.mem_cons_self ..
        have := without_len nd (ears_mem hp).1
        exact .step _ p hp (fd_of (without_nodup nd) (by omega) h1)
/-- what a folding takes: all but one -/
structure Takes (n : Nat) (ps : List (Nat × Nat)) (lot : List Nat) : Prop where
  nd : lot.Nodup
  lt : ∀ x ∈ lot, x < n
  all : ∀ x < n, x ∈ lot ↔ x ∉ ps.map (·.1)
  pl : ∀ p ∈ ps, p.1 < n ∧ p.2 < n
  len : ps.length + lot.length = n
theorem Takes.start (n : Nat) : Takes n [] (List.range n) := ⟨List.nodup_range, fun x hx => List.mem_range.mp hx, fun x hx => ⟨fun _ => (fun z => nomatch z), fun _ => List.mem_range.mpr hx⟩, fun p hp => (nomatch hp), (by rw [List.length_range]; exact Nat.zero_add n)⟩
theorem Takes.step {hs : List (List Str)} {n : Nat} {ps : List (Nat × Nat)} {lot : List Nat} (t : Takes n ps lot) {p : Nat × Nat} (hp : p ∈ earsF hs lot) : Takes n (ps ++ [p]) (without lot p.1) := by
  obtain ⟨m1, m2⟩ := ears_mem hp
  have := without_len t.nd m1
  refine ⟨without_nodup t.nd, fun x hx => t.lt x (mem_without.mp hx).1, fun x hx => ?_, fun q hq => ?_, by rw [List.length_append, List.length_singleton]; have := t.len; omega⟩
  · rw [mem_without, t.all x hx, List.map_append, List.mem_append]
    simp
  · rcases List.mem_append.mp hq with z | z
    · exact t.pl q z
    · (rw [List.mem_singleton.mp z])
      exact ⟨t.lt _ m1, t.lt _ m2⟩
/-- the one that is left -/
theorem Takes.left {n : Nat} {ps : List (Nat × Nat)} {lot : List Nat} (t : Takes n ps lot) : (List.range n).filter (fun x => !decide (x ∈ ps.map (·.1))) = (List.range n).filter (fun x => decide (x ∈ lot)) := by
  refine List.filter_congr fun x hx => ?_
  have := t.all x (List.mem_range.mp hx)
  by_cases h : x ∈ lot
  · rw [decide_eq_true h, decide_eq_false (this.mp h)]; rfl
  · rw [decide_eq_false h, decide_eq_true (Classical.byContradiction fun z => h (this.mpr z))]; rfl
end Dv
namespace Dv
open PySem (Str PyData)
open Cut
local macro_rules | `(tactic| walk_at "w") => `(tactic| simp only [x_set, x_tset, x_par, x_isub, x_aug, x_expr, x_ret, x_retN, x_ite, x_whl, x_for, x_brk, x_cont, x_pass, x_nil, x_cons, evalW, evalsW, evalOW, evalIW, lw_comp, lw_comp2, lw_disp, lw_walk, lw_bltl, lw_add, lw_rev, kw_disp, kw_comp, evalPW, condsW, gdW_clo, gdW_bor, gdW_own, compS_at, compIS_at, comp2S_at, compKS_at, bodyS_at, testS_at, stay_refl, stay_clo, stay_bor, sto_clo, stoL, stoL_app, stoL_clo, snd_clo, List.map_append, ifB_t, ifB_f, optW_some, resW_okk, blW_bl, intW_int, bindW_nm, bindW_tp, bindWs_nil, bindWs_cons, bind_some', wipeW_nil, wipeW_cons, backAt_some, back_nil, back_cons, List.set_cons_zero, List.set_cons_succ, List.getElem?_cons_zero, List.getElem?_cons_succ, List.map_cons, List.map_nil, List.append_nil, List.nil_append, List.cons_append, List.length_cons, List.length_nil, setW_clo, setW_fre, setW_bor, setW_own, setsW_nil, setsW_cons, argK_clo, clzK_clo, clzK_fre, clzK_lse, retK_clo, retK_own, retK_fre, imm_str, imm_int, imm_bl, imm_non, imm_tup, imm_obj, imm_lst, isTok_str, isTok_int, isTok_bl, isTok_non, isTok_tup, isTok_lst, isOwn_own, isOwnL_own, true_and, and_true, if_true, if_false, o_tupleL, o_tupleT, o_listT, o_listL, o_listS, o_listS2, o_tupleS, o_lenL, o_lenT, o_lenS, o_lenS2, o_minI, o_maxI, o_iterL, o_iterT, o_iterS, o_iterS2, o_seqL, o_seqT, o_lstL, o_lstS, o_bltLL, o_bltLT, o_addI, o_subI, o_slcL, o_slcT, o_slcS, cmp_inT, cmp_inL, cmp_ninT, cmp_ninL, cmp_eqT, cmp_neT, cmp_neL, cmp_lt, cmp_gt, cmp_ge, cmp_le, cmp_eqI, cmp_neI, blt_sortS, o_eq0, o_ne0, o_ne0L])
theorem intsOf_nats : ∀ l : List Nat, intsOf (l.map intD) = some (l.map fun (i : Nat) => (i : Int))
  | [] => rfl
  | i :: l => by
    show (intsOf (l.map intD)).map ((i : Int) :: ·) = _
    rw [intsOf_nats l]
    rfl
theorem idx_nats {x : Nat} : ∀ l : List Nat, (l.map fun (i : Nat) => (i : Int)).idxOf (x : Int) = l.idxOf x
  | [] => rfl
  | i :: l => by
    rw [List.map_cons, List.idxOf_cons, List.idxOf_cons, idx_nats l]
    have : ((i : Int) == (x : Int)) = (i == x) := by
      (rw [Bool.eq_iff_iff, beq_iff_eq, beq_iff_eq])
      omega
    rw [this]
theorem map_eraseN {α β : Type} {f : α → β} : ∀ {xs : List α} {n : Nat}, (xs.map f).eraseIdx n = (xs.eraseIdx n).map f
  | [], _ => rfl
  | x :: xs, 0 => rfl
  | x :: xs, n + 1 => by
    rw [List.map_cons, List.eraseIdx_cons_succ, List.eraseIdx_cons_succ, List.map_cons, map_eraseN]
theorem o_remove {lot : List Nat} {x : Nat} {Q : D → D → Prop} (nd : lot.Nodup) (hx : x ∈ lot) : mthW .remove (some (some (.own, .lst (lot.map intD)))) [.int x] Q = Q .non (.lst ((without lot x).map intD)) := by
  unfold mthW
  have e : mth .remove (.obj 0) [.int x] [.lst (lot.map intD)] = .ok .non [.lst ((without lot x).map intD)] := by
    simp only [mth, get_one, intsOf_nats, idx_nats, List.length_map, put_one]
    rw [if_pos (List.idxOf_lt_length_of_mem hx), map_eraseN]
    congr 4
    rw [← List.erase_eq_eraseIdx_of_idxOf rfl, nd.erase_eq_filter]
    rfl
  simp only [e]
theorem eq_int {i j : Int} : eqD (.int i) (.int j) = (i == j) := by simp only [eqD]
theorem any_ints {x : Nat} : ∀ l : List Nat, ((l.map intD).any fun z => eqD z (.int x)) = decide (x ∈ l)
  | [] => rfl
  | i :: l => by
    rw [List.map_cons, List.any_cons, any_ints l, eq_int, eq_cast, Bool.eq_iff_iff, Bool.or_eq_true, decide_eq_true_eq, decide_eq_true_eq, decide_eq_true_eq, List.mem_cons]
    exact or_congr ⟨Eq.symm, Eq.symm⟩ Iff.rfl
theorem flat_ints {n : Nat} (l : List Nat) : flat (n + 2) (.lst (l.map intD)) = true := by
  show (l.map intD).all (flat (n + 1)) = true
  rw [List.all_eq_true]
  intro x hx
  obtain ⟨i, _, rfl⟩ := List.mem_map.mp hx
  rfl
theorem flat_intsT {n : Nat} (l : List Nat) : flat (n + 2) (.tup (l.map intD)) = true := flat_ints l
theorem o_eqPairs {ps : List (Nat × Nat)} {st : Sto} : cmp2 .eq (.lst (ps.map pairD)) (.lst []) st = some ps.isEmpty := by
  rw [o_eqL0 ⟨3, flat_pairs, by decide⟩]
  cases ps <;> rfl
theorem o_idx0 {x : D} {xs : List D} : idx (.lst (x :: xs)) (.int 0) [] = .ok x [] := o_idxL (n := 0) rfl
theorem o_idx0T {x : D} {xs : List D} : idx (.tup (x :: xs)) (.int 0) [] = .ok x [] := o_idxT (n := 0) rfl
theorem o_pair0 {p : Nat × Nat} : idx (pairD p) (.int 0) [] = .ok (.int p.1) [] := o_idx0T
def b_l_choice_of (i_l_pick : Nat) : List Sx := [.ret (.idx (.var 1) (.callz i_l_pick [.var 0, .blt .len [.var 1]]))]
def ChoS (w : CallW) : Prop := ∀ (k : Kd) (xs : List D), AK k → xs ≠ [] → xs.length ≤ 10000 → Draws w [(.clo, .obj 1), (k, .lst xs)] fun r => r ∈ xs
theorem cho_w {C : CW} {ip : Nat} (hp : C.call ip = pickW) : ChoS (bodyW C 2 2 (b_l_choice_of ip)) := by
  intro k xs hk hn hl X Q hq
  refine ⟨rfl, ?_⟩
  show execsW C _ _ [some (.clo, .obj 1), some (k, .lst xs)] _
  unfold b_l_choice_of
  walk_at "w"
  refine pick_w hp (by omega) fun v v0 v1 v2 => ?_
  obtain ⟨n, rfl, x, hx, hm⟩ := len_any v0 v1 v2 hn
  have e : stay k [some (Kd.clo, D.obj 1), some (k, D.lst xs)] [some (Kd.clo, D.obj 1), some (k, D.lst xs)] := stay_refl ▸ trivial
  try rw [o_idxL hx]
  try walk_at "w"
  exact hq _ hm
def FoldS (w : CallW) : Prop := ∀ hs : List (List Str), WOk hs → Pure w [(.clo, webS hs)] (foldD (foldF hs))
theorem o_lenW {hs : List (List Str)} : blt .len [webS hs] [] = .ok (.int hs.length) [] := by
  show Res.ok (D.int ((hs.map tupS).length : Nat)) [] = _
  rw [List.length_map]
/-- where the loop stands -/
structure FL (hs : List (List Str)) (s : List Nat × List (Nat × Nat)) : Prop where
  nd : s.1.Nodup
  lt : ∀ z ∈ s.1, z < hs.length
  len : s.2.length + s.1.length ≤ 7
  val : foldF hs = (foldAll hs s.1.length s.1).map (s.2 ++ ·)
theorem FL.start {hs : List (List Str)} (h : WOk hs) : FL hs (List.range hs.length, []) := ⟨List.nodup_range, fun z hz => List.mem_range.mp hz, by simp; exact h.le, by
  show foldF hs = _
  unfold foldF
  rw [List.length_range]
  cases foldAll hs hs.length (List.range hs.length) <;> rfl⟩
theorem FL.ok {hs : List (List Str)} (h : WOk hs) {s : List Nat × List (Nat × Nat)} (f : FL hs s) : LotOk hs s.1 := h.lot f.lt (by have := f.len; omega)
theorem FL.end_ {hs : List (List Str)} {s : List Nat × List (Nat × Nat)} (f : FL hs s) (l : s.1.length ≤ 1) : foldF hs = some s.2 := by
  rw [f.val]
  have : foldAll hs s.1.length s.1 = some [] := by
    cases e : s.1.length with
    | zero => rfl
    | succ n =>
      unfold foldAll
      rw [if_pos l]
  rw [this]
  show some (s.2 ++ []) = _
  rw [List.append_nil]
theorem FL.none_ {hs : List (List Str)} {s : List Nat × List (Nat × Nat)} (f : FL hs s) (l : 1 < s.1.length) (e : earsF hs s.1 = []) : foldF hs = none := by
  rw [f.val]
  obtain ⟨n, hn⟩ : ∃ n, s.1.length = n + 1 := ⟨s.1.length - 1, by omega⟩
  rw [hn]
  unfold foldAll
  rw [if_neg (by omega), e]
  rfl
theorem FL.next {hs : List (List Str)} {s : List Nat × List (Nat × Nat)} (f : FL hs s) (l : 1 < s.1.length) {p : Nat × Nat} {r : List (Nat × Nat)} (e : earsF hs s.1 = p :: r) : FL hs (without s.1 p.1, s.2 ++ [p]) ∧ (without s.1 p.1).length < s.1.length := by
  have hp : p ∈ earsF hs s.1 := by rw [e]; exact List.mem_cons_self ..
  have wl := without_len f.nd (ears_mem hp).1
  refine ⟨⟨without_nodup f.nd, fun z hz => f.lt z (mem_without.mp hz).1, ?_, ?_⟩, by omega⟩
  · have := f.len
    show (s.2 ++ [p]).length + (without s.1 p.1).length ≤ 7
    (rw [List.length_append, List.length_singleton])
    omega
  · rw [f.val]
    obtain ⟨n, hn⟩ : ∃ n, s.1.length = n + 1 := ⟨s.1.length - 1, by omega⟩
    show _ = (foldAll hs (without s.1 p.1).length (without s.1 p.1)).map _
    rw [show (without s.1 p.1).length = n by omega, hn]
    conv => lhs; unfold foldAll
    rw [if_neg (by omega), e]
    show ((foldAll hs n (without s.1 p.1)).map (p :: ·)).map _ = _
    rw [Option.map_map]
    congr 1
    funext x
    show s.2 ++ (p :: x) = (s.2 ++ [p]) ++ x
    rw [List.append_assoc]
    rfl
end Dv
namespace Dv
open PySem (Str PyData)
open Cut
local macro_rules | `(tactic| walk_at "w") => `(tactic| simp only [x_set, x_tset, x_par, x_isub, x_aug, x_expr, x_ret, x_retN, x_ite, x_whl, x_for, x_brk, x_cont, x_pass, x_nil, x_cons, evalW, evalsW, evalOW, evalIW, lw_comp, lw_comp2, lw_disp, lw_walk, lw_bltl, lw_add, lw_rev, kw_disp, kw_comp, evalPW, condsW, gdW_clo, gdW_bor, gdW_own, compS_at, compIS_at, comp2S_at, compKS_at, bodyS_at, testS_at, stay_refl, stay_clo, stay_bor, sto_clo, stoL, stoL_app, stoL_clo, snd_clo, List.map_append, ifB_t, ifB_f, optW_some, resW_okk, blW_bl, intW_int, bindW_nm, bindW_tp, bindWs_nil, bindWs_cons, bind_some', wipeW_nil, wipeW_cons, backAt_some, back_nil, back_cons, List.set_cons_zero, List.set_cons_succ, List.getElem?_cons_zero, List.getElem?_cons_succ, List.map_cons, List.map_nil, List.append_nil, List.nil_append, List.cons_append, List.length_cons, List.length_nil, setW_clo, setW_fre, setW_bor, setW_own, setsW_nil, setsW_cons, argK_clo, clzK_clo, clzK_fre, clzK_lse, retK_clo, retK_own, retK_fre, imm_str, imm_int, imm_bl, imm_non, imm_tup, imm_obj, imm_lst, isTok_str, isTok_int, isTok_bl, isTok_non, isTok_tup, isTok_lst, isOwn_own, isOwnL_own, true_and, and_true, if_true, if_false, o_tupleL, o_tupleT, o_listT, o_listL, o_listS, o_listS2, o_tupleS, o_lenL, o_lenT, o_lenS, o_lenS2, o_minI, o_maxI, o_iterL, o_iterT, o_iterS, o_iterS2, o_seqL, o_seqT, o_lstL, o_lstS, o_bltLL, o_bltLT, o_addI, o_subI, o_slcL, o_slcT, o_slcS, cmp_inT, cmp_inL, cmp_ninT, cmp_ninL, cmp_eqT, cmp_neT, cmp_neL, cmp_lt, cmp_gt, cmp_ge, cmp_le, cmp_eqI, cmp_neI, blt_sortS, o_eq0, o_ne0, o_ne0L])
def b_l_folding (i_l_ears_in : Nat) : List Sx := [.par [1, 2] [.own (.lstR (.blt .len [.var 0])), .own (.disp [])], .whl (.cmp .gt (.blt .len [.var 1]) (.int 1)) [.set 3 (.callz i_l_ears_in [.var 0, .var 1]), .ite (.cmp .eq (.var 3) (.frl (.disp []))) [.ret (.non)] [], .expr (.mth .append (.var 2) [.idx (.var 3) (.int 0)]), .expr (.mth .remove (.var 1) [.idx (.idx (.var 3) (.int 0)) (.int 0)])], .ret (.blt .tuple [.var 2])]
theorem lfold_w {C : CW} {ie : Nat} (he : EinS (C.call ie)) : FoldS (bodyW C 1 4 (b_l_folding ie)) := by
  intro hs ok X Q hq
  refine ⟨rfl, ?_⟩
  show execsW C _ _ [some (.clo, webS hs), none, none, none] _
  unfold b_l_folding
  have l7 := ok.le
  walk_at "w"
  rw [o_lenW]
  walk_at "w"
  rw [show ((hs.length : Int).toNat) = hs.length by simp, rngL_range]
  refine ⟨by unfold rngOk; rw [decide_eq_true_eq]; omega, by rw [LIM_eq]; omega, by decide, ?_⟩
  refine whlW_inv (σ := List Nat × List (Nat × Nat)) (fun s π => ∃ y3, π = [some (.clo, webS hs), some (.own, .lst (s.1.map intD)), some (.own, .lst (s.2.map pairD)), y3] ∧ FL hs s) (fun s => s.1.length) ?_ LAPS (List.range hs.length, []) _ ⟨_, rfl, .start ok⟩ (by
    show (List.range hs.length).length < LAPS
    rw [List.length_range]
    have : LAPS = 1000000 := rfl
    omega)
  rintro ⟨lot, acc⟩ π ⟨y3, rfl, f⟩ K kt kf
  have lok : LotOk hs lot := f.ok ok
  have fl : acc.length + lot.length ≤ 7 := f.len
  walk_at "w"
  rw [List.length_map]
  by_cases c : (1 : Int) < lot.length
  · rw [decide_eq_true c]
    refine kt _ _ fun K2 j1 j2 j3 j4 => ?_
    walk_at "w"
    refine he .bor _ hs lot (.inr rfl) rfl lok _ _ ?_
    walk_at "w"
    rw [o_eqPairs]
    walk_at "w"
    refine ⟨by decide, ?_⟩
    cases e : earsF hs lot with
    | nil =>
      refine ifB_of (fun _ => ?_) fun z => by cases z
      refine j4 _ _ _ ?_
      have := f.none_ (by show 1 < lot.length; omega) e
      rw [this] at hq
      walk_at "w"
      exact hq
    | cons p r =>
      refine ifB_of (fun z => by cases z) fun _ => ?_
      obtain ⟨f', lt⟩ := f.next (by show 1 < lot.length; omega) e
      have mp : p.1 ∈ lot := (ears_mem (show p ∈ earsF hs lot by rw [e]; exact List.mem_cons_self ..)).1
      walk_at "w"
      rw [o_idx0]
      walk_at "w"
      rw [o_append (by rw [List.length_map, LIM_eq]; omega)]
      try walk_at "w"
      try rw [o_idx0]
      try walk_at "w"
      rw [o_pair0]
      walk_at "w"
      rw [o_remove (show lot.Nodup from f.nd) mp]
      have em : acc.map pairD ++ [pairD p] = (acc ++ [p]).map pairD := by rw [List.map_append]; rfl
      try walk_at "w"
      rw [em]
      exact j1 (without lot p.1, acc ++ [p]) _ ⟨_, rfl, f'⟩ lt
  · rw [decide_eq_false c]
    refine kf _ _ ?_
    walk_at "w"
    have := f.end_ (by show lot.length ≤ 1; omega)
    rw [this] at hq
    exact hq
def b_l_draw_folding (i_l_choice_of i_l_ears_in : Nat) : List Sx := [.par [2, 3] [.own (.lstR (.blt .len [.var 1])), .own (.disp [])], .whl (.cmp .gt (.blt .len [.var 2]) (.int 1)) [.set 4 (.callz i_l_choice_of [.var 0, .callz i_l_ears_in [.var 1, .var 2]]), .expr (.mth .append (.var 3) [.var 4]), .expr (.mth .remove (.var 2) [.idx (.var 4) (.int 0)])], .ret (.blt .tuple [.var 3])]
/-- a folding, any one -/
def FoldOk (hs : List (List Str)) (ps : List (Nat × Nat)) : Prop := ∃ z, Takes hs.length ps [z]
theorem Takes.one {n : Nat} {ps : List (Nat × Nat)} {lot : List Nat} (t : Takes n ps lot) (l : lot.length = 1) : ∃ z, Takes n ps [z] := by
  match lot, l with
  | [z], _ => exact ⟨z, t⟩
theorem FL.pl {hs : List (List Str)} : ∀ {n : Nat} {lot : List Nat} {ps : List (Nat × Nat)}, lot.Nodup → (∀ x ∈ lot, x < hs.length) → lot.length ≤ n → 1 ≤ lot.length → foldAll hs n lot = some ps → ∀ (acc : List (Nat × Nat)), Takes hs.length acc lot → ∃ z, Takes hs.length (acc ++ ps) [z]
  | 0, lot, ps, _, _, hl, h1, _, _, _ => by omega
  | n + 1, lot, ps, nd, lt, hl, h1, h, acc, t => by
    unfold foldAll at h
    split at h
    · cases h
      rw [List.append_nil]
      exact t.one (by omega)
    · split at h
      · cases h
      · rename_i p r e
        obtain ⟨qs, e1, rfl⟩ := Option.map_eq_some_iff.mp h
        have hp : p ∈ earsF hs lot := by rw [e]; exact List.mem_cons_self ..
        have wl := without_len nd (ears_mem hp).1
        obtain ⟨z, tz⟩ := FL.pl (n := n) (without_nodup nd) (fun x hx => lt x (mem_without.mp hx).1) (by omega) (by omega) e1 (acc ++ [p]) (t.step hp)
        exact ⟨z, by rw [List.append_assoc] at tz; exact tz⟩
theorem fold_fd {hs : List (List Str)} {ps : List (Nat × Nat)} (e : foldF hs = some ps) : Fd hs (List.range hs.length) := fd_of List.nodup_range (by rw [List.length_range]; omega) e
theorem nice_none : Nice 4 .non := ⟨by decide +kernel, by decide +kernel, by decide +kernel⟩
theorem o_reprA {n k : Nat} {d : D} (h : Nice n d) (hn : n ≤ LIM) (hf : flat k d = true) (hk : k ≤ 40) : blt .repr [d] [] = .ok (.str (py d).shown) [] := by
  have e : data [] d = some d := data_flat (flat_mono hf hk)
  obtain ⟨h1, h2, h3⟩ := h
  cases d <;> (simp only [blt, e]; rw [if_pos (by rw [h1, h2, decide_eq_true (Nat.le_trans h3 hn)]; rfl)])
theorem o_isnT {xs : List D} {st : Sto} : cmp2 .isn (.tup xs) .non st = some true := rfl
theorem o_isnN {st : Sto} : cmp2 .isn .non .non st = some false := rfl
end Dv
namespace Dv
open PySem (Str PyData)
def hasT (t : Nat × Nat) (p : List Nat) : Bool := decide (t.1 ∈ p) || decide (t.2 ∈ p)
/-- the pieces behind a tie -/
def stepF (L : List (List Nat)) (t : Nat × Nat) : List (List Nat) := L.filter (fun p => !hasT t p) ++ [(L.filter (hasT t)).flatten]
/-- the names behind a tie -/
def nameF (ns : List Nat) (f : Nat → Nat) (t : Nat × Nat) : Nat → Nat := if t.1 ∈ ns ∧ t.2 ∈ ns ∧ f t.1 ≠ f t.2 then fun n => if f n = f t.1 then f t.2 else f n else f
def inT (ns : List Nat) (t : Nat × Nat) : Bool := decide (t.1 ∈ ns) && decide (t.2 ∈ ns)
theorem has_iff {t : Nat × Nat} {p : List Nat} : hasT t p = true ↔ t.1 ∈ p ∨ t.2 ∈ p := by
  unfold hasT
  (rw [Bool.or_eq_true, decide_eq_true_eq, decide_eq_true_eq])
theorem inT_iff {ns : List Nat} {t : Nat × Nat} : inT ns t = true ↔ t.1 ∈ ns ∧ t.2 ∈ ns := by
  unfold inT
  (rw [Bool.and_eq_true, decide_eq_true_eq, decide_eq_true_eq])
structure PcOk (ns : List Nat) (L : List (List Nat)) (f : Nat → Nat) : Prop where
  pm : L.flatten.Perm ns
  rep : ∀ p ∈ L, ∃ r ∈ p, ∀ n ∈ p, f n = r
  dis : ∀ p ∈ L, ∀ q ∈ L, ∀ a, a ∈ p → a ∈ q → p = q
theorem PcOk.start (ns : List Nat) : PcOk ns (ns.map fun n => [n]) id where
  pm := by
    have : (ns.map fun n => [n]).flatten = ns := by
      induction ns with
      | nil => rfl
      | cons n ns ih => rw [List.map_cons, List.flatten_cons, ih]; rfl
    rw [this]
  rep := fun p hp => by
    obtain ⟨n, _, rfl⟩ := List.mem_map.mp hp
    exact ⟨n, List.mem_singleton.mpr rfl, fun m hm => List.mem_singleton.mp hm⟩
  dis := fun p hp q hq a ha hb => by
    obtain ⟨n, _, rfl⟩ := List.mem_map.mp hp
    obtain ⟨m, _, rfl⟩ := List.mem_map.mp hq
    rw [← List.mem_singleton.mp ha, ← List.mem_singleton.mp hb]
/-- the names, told at once -/
theorem name_at {ns : List Nat} {f : Nat → Nat} {t : Nat × Nat} (h : inT ns t = true) (n : Nat) : nameF ns f t n = if f n = f t.1 then f t.2 else f n := by
  obtain ⟨h1, h2⟩ := inT_iff.mp h
  unfold nameF
  by_cases e : f t.1 = f t.2
  · rw [if_neg (fun z => z.2.2 e)]
    by_cases c : f n = f t.1
    · rw [if_pos c, c, e]
    · rw [if_neg c]
  · rw [if_pos ⟨h1, h2, e⟩]
theorem name_no {ns : List Nat} {f : Nat → Nat} {t : Nat × Nat} (h : inT ns t = false) : nameF ns f t = f := by
  unfold nameF
  rw [if_neg]
  intro z
  rw [inT_iff.mpr ⟨z.1, z.2.1⟩] at h
  cases h
theorem step_mem {L : List (List Nat)} {t : Nat × Nat} {p : List Nat} : p ∈ stepF L t ↔ (p ∈ L ∧ hasT t p = false) ∨ p = (L.filter (hasT t)).flatten := by
  unfold stepF
  rw [List.mem_append, List.mem_filter, List.mem_singleton, Bool.not_eq_true']
theorem joined_mem {L : List (List Nat)} {t : Nat × Nat} {a : Nat} : a ∈ (L.filter (hasT t)).flatten ↔ ∃ p ∈ L, hasT t p = true ∧ a ∈ p := by
  rw [List.mem_flatten]
  exact ⟨fun ⟨p, hp, ha⟩ => ⟨p, (List.mem_filter.mp hp).1, (List.mem_filter.mp hp).2, ha⟩, fun ⟨p, h1, h2, ha⟩ => ⟨p, List.mem_filter.mpr ⟨h1, h2⟩, ha⟩⟩
theorem PcOk.find {ns : List Nat} {L : List (List Nat)} {f : Nat → Nat} (h : PcOk ns L f) {a : Nat} (ha : a ∈ ns) : ∃ p ∈ L, a ∈ p := List.mem_flatten.mp (h.pm.mem_iff.mpr ha)
theorem PcOk.step {ns : List Nat} {L : List (List Nat)} {f : Nat → Nat} (h : PcOk ns L f) {t : Nat × Nat} (ht : inT ns t = true) : PcOk ns (stepF L t) (nameF ns f t) where
  pm := by
    have e : (stepF L t).flatten = (L.filter (fun p => !hasT t p) ++ L.filter (hasT t)).flatten := by
      unfold stepF
      rw [List.flatten_append, List.flatten_append]
      show _ ++ (_ ++ []) = _
      rw [List.append_nil]
    rw [e]
    have p : (L.filter (fun p => !hasT t p) ++ L.filter (hasT t)).Perm L := List.perm_append_comm.trans (List.filter_append_perm _ _)
    exact p.flatten.trans h.pm
  rep := fun p hp => by
    obtain ⟨h1, h2⟩ := inT_iff.mp ht
    obtain ⟨P, hP, aP⟩ := h.find h1
    obtain ⟨Q, hQ, aQ⟩ := h.find h2
    obtain ⟨r, hr, fr⟩ := h.rep P hP
    obtain ⟨r', hr', fr'⟩ := h.rep Q hQ
    have e1 := fr _ aP
    have e2 := fr' _ aQ
    rcases step_mem.mp hp with ⟨hpL, no⟩ | rfl
    · obtain ⟨u, hu, fu⟩ := h.rep p hpL
      refine ⟨u, hu, fun n hn => ?_⟩
      rw [name_at ht, fu n hn, if_neg]
      intro z
      rw [e1] at z
      have := h.dis p hpL P hP u hu (by rw [z]; exact hr)
      rw [this, has_iff.mpr (.inl aP)] at no
      cases no
    · refine ⟨r', joined_mem.mpr ⟨Q, hQ, has_iff.mpr (.inr aQ), hr'⟩, fun n hn => ?_⟩
      obtain ⟨u, hu, c, nu⟩ := joined_mem.mp hn
      obtain ⟨v, hv, fv⟩ := h.rep u hu
      rw [name_at ht]
      rcases has_iff.mp c with c | c
      · rw [fv n nu, fv _ c, if_pos rfl, e2]
      · rw [fv n nu, fv _ c]
        split
        · rw [← fv _ c, e2]
        · rw [← fv _ c, e2]
  dis := fun p hp q hq a ha hb => by
    rcases step_mem.mp hp with ⟨hpL, no⟩ | rfl
    · rcases step_mem.mp hq with ⟨hqL, no'⟩ | rfl
      · exact h.dis p hpL q hqL a ha hb
      · obtain ⟨u, hu, c, nu⟩ := joined_mem.mp hb
        have := h.dis p hpL u hu a ha nu
        rw [this, c] at no
        cases no
    · rcases step_mem.mp hq with ⟨hqL, no'⟩ | rfl
      · obtain ⟨u, hu, c, nu⟩ := joined_mem.mp ha
        have := h.dis q hqL u hu a hb nu
        rw [this, c] at no'
        cases no'
      · rfl
theorem PcOk.all {ns : List Nat} : ∀ (ts : List (Nat × Nat)) {L : List (List Nat)} {f : Nat → Nat}, PcOk ns L f → PcOk ns ((ts.filter (inT ns)).foldl stepF L) (ts.foldl (nameF ns) f)
  | [], L, f, h => h
  | t :: ts, L, f, h => by
    rw [List.foldl_cons]
    cases e : inT ns t with
    | true =>
      rw [List.filter_cons_of_pos e, List.foldl_cons]
      exact PcOk.all ts (h.step e)
    | false =>
      rw [List.filter_cons_of_neg (by rw [e]; exact Bool.false_ne_true), name_no e]
      exact PcOk.all ts h
/-- a folding: each pair an ear at its time -/
def Along (hs : List (List Str)) : List Nat → List (Nat × Nat) → Prop
  | lot, [] => lot.length = 1
  | lot, p :: ps => p ∈ earsF hs lot ∧ Along hs (without lot p.1) ps
end Dv
namespace Dv
open PySem (Str PyData)
open Cut
local macro_rules | `(tactic| walk_at "w") => `(tactic| simp only [x_set, x_tset, x_par, x_isub, x_aug, x_expr, x_ret, x_retN, x_ite, x_whl, x_for, x_brk, x_cont, x_pass, x_nil, x_cons, evalW, evalsW, evalOW, evalIW, lw_comp, lw_comp2, lw_disp, lw_walk, lw_bltl, lw_add, lw_rev, kw_disp, kw_comp, kw_val, evalPW, condsW, gdW_clo, gdW_bor, gdW_own, compS_at, compIS_at, comp2S_at, compKS_at, bodyS_at, testS_at, stay_refl, stay_clo, stay_bor, sto_clo, stoL, stoL_app, stoL_clo, snd_clo, List.map_append, ifB_t, ifB_f, optW_some, resW_okk, blW_bl, intW_int, bindW_nm, bindW_tp, bindWs_nil, bindWs_cons, bind_some', wipeW_nil, wipeW_cons, backAt_some, back_nil, back_cons, List.set_cons_zero, List.set_cons_succ, List.getElem?_cons_zero, List.getElem?_cons_succ, List.map_cons, List.map_nil, List.append_nil, List.nil_append, List.cons_append, List.length_cons, List.length_nil, setW_clo, setW_fre, setW_bor, setW_own, setsW_nil, setsW_cons, argK_clo, clzK_clo, clzK_fre, clzK_lse, retK_clo, retK_own, retK_fre, imm_str, imm_int, imm_bl, imm_non, imm_tup, imm_obj, imm_lst, isTok_str, isTok_int, isTok_bl, isTok_non, isTok_tup, isTok_lst, isOwn_own, isOwnL_own, true_and, and_true, if_true, if_false, o_tupleL, o_tupleT, o_listT, o_listL, o_listS, o_listS2, o_tupleS, o_lenL, o_lenT, o_lenS, o_lenS2, o_minI, o_maxI, o_iterL, o_iterT, o_iterS, o_iterS2, o_seqL, o_seqT, o_lstL, o_lstS, o_bltLL, o_bltLT, o_addI, o_subI, o_slcL, o_slcT, o_slcS, cmp_inT, cmp_inL, cmp_ninT, cmp_ninL, cmp_eqT, cmp_neT, cmp_neL, cmp_lt, cmp_gt, cmp_ge, cmp_le, cmp_eqI, cmp_neI, blt_sortS, o_eq0, o_ne0, o_ne0L])
end Dv
namespace Dv
open PySem (Str PyData)
open Cut
local macro_rules | `(tactic| walk_at "w") => `(tactic| simp only [x_set, x_tset, x_par, x_isub, x_aug, x_expr, x_ret, x_retN, x_ite, x_whl, x_for, x_brk, x_cont, x_pass, x_nil, x_cons, evalW, evalsW, evalOW, evalIW, lw_comp, lw_comp2, lw_disp, lw_walk, lw_bltl, lw_add, lw_rev, kw_disp, kw_comp, kw_val, evalPW, condsW, gdW_clo, gdW_bor, gdW_own, compS_at, compIS_at, comp2S_at, compKS_at, bodyS_at, testS_at, stay_refl, stay_clo, stay_bor, sto_clo, stoL, stoL_app, stoL_clo, snd_clo, List.map_append, ifB_t, ifB_f, optW_some, resW_okk, blW_bl, intW_int, bindW_nm, bindW_tp, bindWs_nil, bindWs_cons, bind_some', wipeW_nil, wipeW_cons, backAt_some, back_nil, back_cons, List.set_cons_zero, List.set_cons_succ, List.getElem?_cons_zero, List.getElem?_cons_succ, List.map_cons, List.map_nil, List.append_nil, List.nil_append, List.cons_append, List.length_cons, List.length_nil, setW_clo, setW_fre, setW_bor, setW_own, setsW_nil, setsW_cons, argK_clo, clzK_clo, clzK_fre, clzK_lse, retK_clo, retK_own, retK_fre, imm_str, imm_int, imm_bl, imm_non, imm_tup, imm_obj, imm_lst, isTok_str, isTok_int, isTok_bl, isTok_non, isTok_tup, isTok_lst, isOwn_own, isOwnL_own, true_and, and_true, if_true, if_false, o_tupleL, o_tupleT, o_listT, o_listL, o_listS, o_listS2, o_tupleS, o_lenL, o_lenT, o_lenS, o_lenS2, o_minI, o_maxI, o_iterL, o_iterT, o_iterS, o_iterS2, o_seqL, o_seqT, o_lstL, o_lstS, o_bltLL, o_bltLT, o_addI, o_subI, o_slcL, o_slcT, o_slcS, cmp_inT, cmp_inL, cmp_ninT, cmp_ninL, cmp_eqT, cmp_neT, cmp_neL, cmp_lt, cmp_gt, cmp_ge, cmp_le, cmp_eqI, cmp_neI, blt_sortS, o_eq0, o_ne0, o_ne0L])
/-- how great the pieces are -/
structure PcLe (m : Nat) (L : List (List Nat)) : Prop where
  cnt : L.length ≤ m + 1000
  all : L.flatten.length ≤ 1000
theorem PcLe.step {m : Nat} {L : List (List Nat)} {t : Nat × Nat} (h : PcLe m L) : PcLe (m + 1) (stepF L t) where
  cnt := by
    unfold stepF
    (rw [List.length_append, List.length_singleton])
    have := List.length_filter_le (fun p => !hasT t p) L
    have := h.cnt
    omega
  all := by
    have e : (stepF L t).flatten = (L.filter (fun p => !hasT t p) ++ L.filter (hasT t)).flatten := by
      unfold stepF
      rw [List.flatten_append, List.flatten_append]
      show _ ++ (_ ++ []) = _
      rw [List.append_nil]
    have p : (L.filter (fun p => !hasT t p) ++ L.filter (hasT t)).Perm L := List.perm_append_comm.trans (List.filter_append_perm _ _)
    rw [e, p.flatten.length_eq]
    exact h.all
end Dv
namespace Dv
open PySem (Str PyData)
open Cut
local macro_rules | `(tactic| walk_at "w") => `(tactic| simp only [x_set, x_tset, x_par, x_isub, x_aug, x_expr, x_ret, x_retN, x_ite, x_whl, x_for, x_brk, x_cont, x_pass, x_nil, x_cons, evalW, evalsW, evalOW, evalIW, lw_comp, lw_comp2, lw_disp, lw_walk, lw_bltl, lw_add, lw_rev, kw_disp, kw_comp, kw_val, evalPW, condsW, gdW_clo, gdW_bor, gdW_own, compS_at, compIS_at, comp2S_at, compKS_at, bodyS_at, testS_at, stay_refl, stay_clo, stay_bor, sto_clo, stoL, stoL_app, stoL_clo, snd_clo, List.map_append, ifB_t, ifB_f, optW_some, resW_okk, blW_bl, intW_int, bindW_nm, bindW_tp, bindWs_nil, bindWs_cons, bind_some', wipeW_nil, wipeW_cons, backAt_some, back_nil, back_cons, List.set_cons_zero, List.set_cons_succ, List.getElem?_cons_zero, List.getElem?_cons_succ, List.map_cons, List.map_nil, List.append_nil, List.nil_append, List.cons_append, List.length_cons, List.length_nil, setW_clo, setW_fre, setW_bor, setW_own, setsW_nil, setsW_cons, argK_clo, clzK_clo, clzK_fre, clzK_lse, retK_clo, retK_own, retK_fre, imm_str, imm_int, imm_bl, imm_non, imm_tup, imm_obj, imm_lst, isTok_str, isTok_int, isTok_bl, isTok_non, isTok_tup, isTok_lst, isOwn_own, isOwnL_own, true_and, and_true, if_true, if_false, o_tupleL, o_tupleT, o_listT, o_listL, o_listS, o_listS2, o_tupleS, o_lenL, o_lenT, o_lenS, o_lenS2, o_minI, o_maxI, o_iterL, o_iterT, o_iterS, o_iterS2, o_seqL, o_seqT, o_lstL, o_lstS, o_bltLL, o_bltLT, o_addI, o_subI, o_slcL, o_slcT, o_slcS, cmp_inT, cmp_inL, cmp_ninT, cmp_ninL, cmp_eqT, cmp_neT, cmp_neL, cmp_lt, cmp_gt, cmp_ge, cmp_le, cmp_eqI, cmp_neI, blt_sortS, o_eq0, o_ne0, o_ne0L])
end Dv
namespace Dv
open PySem (Str PyData)
open Cut
local macro_rules | `(tactic| walk_at "w") => `(tactic| simp only [x_set, x_tset, x_par, x_isub, x_aug, x_expr, x_ret, x_retN, x_ite, x_whl, x_for, x_brk, x_cont, x_pass, x_nil, x_cons, evalW, evalsW, evalOW, evalIW, lw_comp, lw_comp2, lw_disp, lw_walk, lw_bltl, lw_add, lw_rev, kw_disp, kw_comp, kw_val, evalPW, condsW, gdW_clo, gdW_bor, gdW_own, compS_at, compIS_at, comp2S_at, compKS_at, bodyS_at, testS_at, stay_refl, stay_clo, stay_bor, sto_clo, stoL, stoL_app, stoL_clo, snd_clo, List.map_append, ifB_t, ifB_f, optW_some, resW_okk, blW_bl, intW_int, bindW_nm, bindW_tp, bindWs_nil, bindWs_cons, bind_some', wipeW_nil, wipeW_cons, backAt_some, back_nil, back_cons, List.set_cons_zero, List.set_cons_succ, List.getElem?_cons_zero, List.getElem?_cons_succ, List.map_cons, List.map_nil, List.append_nil, List.nil_append, List.cons_append, List.length_cons, List.length_nil, setW_clo, setW_fre, setW_bor, setW_own, setsW_nil, setsW_cons, argK_clo, clzK_clo, clzK_fre, clzK_lse, retK_clo, retK_own, retK_fre, imm_str, imm_int, imm_bl, imm_non, imm_tup, imm_obj, imm_lst, isTok_str, isTok_int, isTok_bl, isTok_non, isTok_tup, isTok_lst, isOwn_own, isOwnL_own, true_and, and_true, if_true, if_false, o_tupleL, o_tupleT, o_listT, o_listL, o_listS, o_listS2, o_tupleS, o_lenL, o_lenT, o_lenS, o_lenS2, o_minI, o_maxI, o_iterL, o_iterT, o_iterS, o_iterS2, o_seqL, o_seqT, o_lstL, o_lstS, o_bltLL, o_bltLT, o_addI, o_subI, o_slcL, o_slcT, o_slcS, cmp_inT, cmp_inL, cmp_ninT, cmp_ninL, cmp_eqT, cmp_neT, cmp_neL, cmp_lt, cmp_gt, cmp_ge, cmp_le, cmp_eqI, cmp_neI, blt_sortS, o_eq0, o_ne0, o_ne0L])
end Dv
namespace Dv
open PySem (Str PyData)
open Cut
local macro_rules | `(tactic| walk_at "w") => `(tactic| simp only [x_set, x_tset, x_par, x_isub, x_aug, x_expr, x_ret, x_retN, x_ite, x_whl, x_for, x_brk, x_cont, x_pass, x_nil, x_cons, evalW, evalsW, evalOW, evalIW, lw_comp, lw_comp2, lw_disp, lw_walk, lw_bltl, lw_add, lw_rev, kw_disp, kw_comp, kw_val, evalPW, condsW, gdW_clo, gdW_bor, gdW_own, compS_at, compIS_at, comp2S_at, compKS_at, bodyS_at, testS_at, stay_refl, stay_clo, stay_bor, sto_clo, stoL, stoL_app, stoL_clo, snd_clo, List.map_append, ifB_t, ifB_f, optW_some, resW_okk, blW_bl, intW_int, bindW_nm, bindW_tp, bindWs_nil, bindWs_cons, bind_some', wipeW_nil, wipeW_cons, backAt_some, back_nil, back_cons, List.set_cons_zero, List.set_cons_succ, List.getElem?_cons_zero, List.getElem?_cons_succ, List.map_cons, List.map_nil, List.append_nil, List.nil_append, List.cons_append, List.length_cons, List.length_nil, setW_clo, setW_fre, setW_bor, setW_own, setsW_nil, setsW_cons, argK_clo, clzK_clo, clzK_fre, clzK_lse, retK_clo, retK_own, retK_fre, imm_str, imm_int, imm_bl, imm_non, imm_tup, imm_obj, imm_lst, isTok_str, isTok_int, isTok_bl, isTok_non, isTok_tup, isTok_lst, isOwn_own, isOwnL_own, true_and, and_true, if_true, if_false, o_tupleL, o_tupleT, o_listT, o_listL, o_listS, o_listS2, o_tupleS, o_lenL, o_lenT, o_lenS, o_lenS2, o_minI, o_maxI, o_iterL, o_iterT, o_iterS, o_iterS2, o_seqL, o_seqT, o_lstL, o_lstS, o_bltLL, o_bltLT, o_addI, o_subI, o_slcL, o_slcT, o_slcS, cmp_inT, cmp_inL, cmp_ninT, cmp_ninL, cmp_eqT, cmp_neT, cmp_neL, cmp_lt, cmp_gt, cmp_ge, cmp_le, cmp_eqI, cmp_neI, blt_sortS, o_eq0, o_ne0, o_ne0L])
theorem WOk.at {hs : List (List Str)} (ok : WOk hs) (x : Nat) : Names (at_ hs x) := by
  unfold at_
  (rw [List.getD_eq_getElem?_getD])
  cases e : hs[x]? with
  | none => exact names_nil
  | some a => exact ok.hd a (List.mem_of_getElem? e)
def DFoldA (w : CallW) : Prop := ∀ hs : List (List Str), WOk hs → 1 ≤ hs.length → Fd hs (List.range hs.length) → Draws w [(.clo, .obj 1), (.clo, webS hs)] fun r => ∃ ps, r = .tup (ps.map pairD) ∧ FoldOk hs ps ∧ Along hs (List.range hs.length) ps
theorem dfolda_w {C : CW} {ic ie : Nat} (hc : ChoS (C.call ic)) (he : EinS (C.call ie)) : DFoldA (bodyW C 2 5 (b_l_draw_folding ic ie)) := by
  intro hs ok h1 fd X Q hq
  refine ⟨rfl, ?_⟩
  show execsW C _ _ [some (.clo, .obj 1), some (.clo, webS hs), none, none, none] _
  unfold b_l_draw_folding
  have l7 := ok.le
  walk_at "w"
  rw [o_lenW]
  walk_at "w"
  rw [show ((hs.length : Int).toNat) = hs.length by simp, rngL_range]
  refine ⟨by unfold rngOk; rw [decide_eq_true_eq]; omega, by rw [LIM_eq]; omega, by decide, ?_⟩
  refine whlW_inv (σ := List Nat × List (Nat × Nat)) (fun s π => ∃ y4, π = [some (.clo, .obj 1), some (.clo, webS hs), some (.own, .lst (s.1.map intD)), some (.own, .lst (s.2.map pairD)), y4] ∧ Takes hs.length s.2 s.1 ∧ Fd hs s.1 ∧ 1 ≤ s.1.length ∧ ∀ ps, Along hs s.1 ps → Along hs (List.range hs.length) (s.2 ++ ps)) (fun s => s.1.length) ?_ LAPS (List.range hs.length, []) _ ⟨_, rfl, .start _, fd, by rw [List.length_range]; exact h1, fun ps h => h⟩ (by
    show (List.range hs.length).length < LAPS
    rw [List.length_range]
    have : LAPS = 1000000 := rfl
    omega)
  rintro ⟨lot, acc⟩ π ⟨y4, rfl, t, fd, l1, al⟩ K kt kf
  have t : Takes hs.length acc lot := t
  have fd : Fd hs lot := fd
  have l1 : 1 ≤ lot.length := l1
  have tl := t.len
  have lok : LotOk hs lot := ok.lot t.lt (by omega)
  walk_at "w"
  rw [List.length_map]
  by_cases c : (1 : Int) < lot.length
  · rw [decide_eq_true c]
    refine kt _ _ fun K2 j1 j2 j3 j4 => ?_
    walk_at "w"
    refine he .bor _ hs lot (.inr rfl) rfl lok _ _ ?_
    walk_at "w"
    have ne := fd_more fd (by omega)
    have el := ears_len (hs := hs) (lot := lot)
    have e49 : lot.length * lot.length ≤ 7 * 7 := Nat.mul_le_mul (by omega) (by omega)
    refine hc .clo ((earsF hs lot).map pairD) (.inl rfl) (by simpa using ne) (by rw [List.length_map]; omega) _ _ fun r hr => ?_
    obtain ⟨p, hp, rfl⟩ := List.mem_map.mp hr
    have mp := (ears_mem hp).1
    walk_at "w"
    try walk_at "w"
    rw [o_append (by rw [List.length_map, LIM_eq]; omega)]
    try walk_at "w"
    rw [o_pair0]
    walk_at "w"
    rw [o_remove t.nd mp]
    have em : acc.map pairD ++ [pairD p] = (acc ++ [p]).map pairD := by rw [List.map_append]; rfl
    try walk_at "w"
    rw [em]
    have wl := without_len t.nd mp
    exact j1 (without lot p.1, acc ++ [p]) _ ⟨_, rfl, t.step hp, fd_ear fd t.nd hp, by show 1 ≤ (without lot p.1).length; omega, fun ps h => by
      rw [List.append_assoc]
      exact al (p :: ps) ⟨hp, h⟩⟩ (by show (without lot p.1).length < lot.length; omega)
  · rw [decide_eq_false c]
    refine kf _ _ ?_
    walk_at "w"
    refine hq _ ⟨acc, rfl, t.one (by omega), ?_⟩
    have := al [] (by show lot.length = 1; omega)
    rw [List.append_nil] at this
    exact this
end Dv
namespace Dv
open PySem (Str PyData)
open Cut
local macro_rules | `(tactic| walk_at "w") => `(tactic| simp only [x_set, x_tset, x_par, x_isub, x_aug, x_expr, x_ret, x_retN, x_ite, x_whl, x_for, x_brk, x_cont, x_pass, x_nil, x_cons, evalW, evalsW, evalOW, evalIW, lw_comp, lw_comp2, lw_disp, lw_walk, lw_bltl, lw_add, lw_rev, kw_disp, kw_comp, kw_val, evalPW, condsW, gdW_clo, gdW_bor, gdW_own, compS_at, compIS_at, comp2S_at, compKS_at, bodyS_at, testS_at, stay_refl, stay_clo, stay_bor, sto_clo, stoL, stoL_app, stoL_clo, snd_clo, List.map_append, ifB_t, ifB_f, optW_some, resW_okk, blW_bl, intW_int, bindW_nm, bindW_tp, bindWs_nil, bindWs_cons, bind_some', wipeW_nil, wipeW_cons, backAt_some, back_nil, back_cons, List.set_cons_zero, List.set_cons_succ, List.getElem?_cons_zero, List.getElem?_cons_succ, List.map_cons, List.map_nil, List.append_nil, List.nil_append, List.cons_append, List.length_cons, List.length_nil, setW_clo, setW_fre, setW_bor, setW_own, setsW_nil, setsW_cons, argK_clo, clzK_clo, clzK_fre, clzK_lse, retK_clo, retK_own, retK_fre, imm_str, imm_int, imm_bl, imm_non, imm_tup, imm_obj, imm_lst, isTok_str, isTok_int, isTok_bl, isTok_non, isTok_tup, isTok_lst, isOwn_own, isOwnL_own, true_and, and_true, if_true, if_false, o_tupleL, o_tupleT, o_listT, o_listL, o_listS, o_listS2, o_tupleS, o_lenL, o_lenT, o_lenS, o_lenS2, o_minI, o_maxI, o_iterL, o_iterT, o_iterS, o_iterS2, o_seqL, o_seqT, o_lstL, o_lstS, o_bltLL, o_bltLT, o_addI, o_subI, o_slcL, o_slcT, o_slcS, cmp_inT, cmp_inL, cmp_ninT, cmp_ninL, cmp_eqT, cmp_neT, cmp_neL, cmp_lt, cmp_gt, cmp_ge, cmp_le, cmp_eqI, cmp_neI, blt_sortS, o_eq0, o_ne0, o_ne0L])
end Dv
namespace Dv
open PySem (Str PyData)
open Cut
local macro_rules | `(tactic| walk_at "w") => `(tactic| simp only [x_set, x_tset, x_par, x_isub, x_aug, x_expr, x_ret, x_retN, x_ite, x_whl, x_for, x_brk, x_cont, x_pass, x_nil, x_cons, evalW, evalsW, evalOW, evalIW, lw_comp, lw_comp2, lw_disp, lw_walk, lw_bltl, lw_add, lw_rev, kw_disp, kw_comp, kw_val, evalPW, condsW, gdW_clo, gdW_bor, gdW_own, compS_at, compIS_at, comp2S_at, compKS_at, bodyS_at, testS_at, stay_refl, stay_clo, stay_bor, sto_clo, stoL, stoL_app, stoL_clo, snd_clo, List.map_append, ifB_t, ifB_f, optW_some, resW_okk, blW_bl, intW_int, bindW_nm, bindW_tp, bindWs_nil, bindWs_cons, bind_some', wipeW_nil, wipeW_cons, backAt_some, back_nil, back_cons, List.set_cons_zero, List.set_cons_succ, List.getElem?_cons_zero, List.getElem?_cons_succ, List.map_cons, List.map_nil, List.append_nil, List.nil_append, List.cons_append, List.length_cons, List.length_nil, setW_clo, setW_fre, setW_bor, setW_own, setsW_nil, setsW_cons, argK_clo, clzK_clo, clzK_fre, clzK_lse, retK_clo, retK_own, retK_fre, imm_str, imm_int, imm_bl, imm_non, imm_tup, imm_obj, imm_lst, isTok_str, isTok_int, isTok_bl, isTok_non, isTok_tup, isTok_lst, isOwn_own, isOwnL_own, true_and, and_true, if_true, if_false, o_tupleL, o_tupleT, o_listT, o_listL, o_listS, o_listS2, o_tupleS, o_lenL, o_lenT, o_lenS, o_lenS2, o_minI, o_maxI, o_iterL, o_iterT, o_iterS, o_iterS2, o_seqL, o_seqT, o_lstL, o_lstS, o_bltLL, o_bltLT, o_addI, o_subI, o_slcL, o_slcT, o_slcS, cmp_inT, cmp_inL, cmp_ninT, cmp_ninL, cmp_eqT, cmp_neT, cmp_neL, cmp_lt, cmp_gt, cmp_ge, cmp_le, cmp_eqI, cmp_neI, blt_sortS, o_eq0, o_ne0, o_ne0L])
def fine (d : D) : Bool := !isTok d && tyOk [] d && match d with
  | .str x => decide (x.length ≤ 1000)
  | .tup xs => decide (xs.length ≤ 1000)
  | _ => true
def okD : Nat → D → Bool
  | 0, d => fine d
  | n + 1, d => fine d && match d with
    | .tup xs => xs.all (okD n)
    | _ => true
theorem okD_fine {n : Nat} {d : D} (h : okD n d = true) : fine d = true := by
  cases n with
  | zero => exact h
  | succ n => exact ((Bool.and_eq_true _ _).mp h).1
theorem okD_at {n : Nat} {xs : List D} (h : okD (n + 1) (.tup xs) = true) : ∀ x ∈ xs, okD n x = true := List.all_eq_true.mp ((Bool.and_eq_true _ _).mp h).2
theorem fine_tok {d : D} (h : fine d = true) : isTok d = false := by
  unfold fine at h
  rw [Bool.and_eq_true, Bool.and_eq_true, Bool.not_eq_true'] at h
  exact h.1.1
theorem fine_ty {d : D} (h : fine d = true) : tyOk [] d = true := by
  unfold fine at h
  rw [Bool.and_eq_true, Bool.and_eq_true] at h
  exact h.1.2
def isTd : D → Bool
  | .tup _ => true
  | _ => false
theorem o_isT {d : D} (h : fine d = true) : ([Ty.tup].any (isTy [] d)) = isTd d := by
  have h1 := fine_tok h
  cases d <;> first | rfl | cases h1
end Dv
namespace Dv
open PySem (Str PyData)
open Cut
local macro_rules | `(tactic| walk_at "w") => `(tactic| simp only [x_set, x_tset, x_par, x_isub, x_aug, x_expr, x_ret, x_retN, x_ite, x_whl, x_for, x_brk, x_cont, x_pass, x_nil, x_cons, evalW, evalsW, evalOW, evalIW, lw_comp, lw_comp2, lw_disp, lw_walk, lw_bltl, lw_add, lw_rev, kw_disp, kw_comp, kw_val, evalPW, condsW, gdW_clo, gdW_bor, gdW_own, compS_at, compIS_at, comp2S_at, compKS_at, bodyS_at, testS_at, stay_refl, stay_clo, stay_bor, sto_clo, stoL, stoL_app, stoL_clo, snd_clo, List.map_append, ifB_t, ifB_f, optW_some, resW_okk, blW_bl, intW_int, bindW_nm, bindW_tp, bindWs_nil, bindWs_cons, bind_some', wipeW_nil, wipeW_cons, backAt_some, back_nil, back_cons, List.set_cons_zero, List.set_cons_succ, List.getElem?_cons_zero, List.getElem?_cons_succ, List.map_cons, List.map_nil, List.append_nil, List.nil_append, List.cons_append, List.length_cons, List.length_nil, setW_clo, setW_fre, setW_bor, setW_own, setsW_nil, setsW_cons, argK_clo, clzK_clo, clzK_fre, clzK_lse, retK_clo, retK_own, retK_fre, imm_str, imm_int, imm_bl, imm_non, imm_tup, imm_obj, imm_lst, isTok_str, isTok_int, isTok_bl, isTok_non, isTok_tup, isTok_lst, isOwn_own, isOwnL_own, true_and, and_true, if_true, if_false, o_tupleL, o_tupleT, o_listT, o_listL, o_listS, o_listS2, o_tupleS, o_lenL, o_lenT, o_lenS, o_lenS2, o_minI, o_maxI, o_iterL, o_iterT, o_iterS, o_iterS2, o_seqL, o_seqT, o_lstL, o_lstS, o_bltLL, o_bltLT, o_addI, o_subI, o_slcL, o_slcT, o_slcS, cmp_inT, cmp_inL, cmp_ninT, cmp_ninL, cmp_eqT, cmp_neT, cmp_neL, cmp_lt, cmp_gt, cmp_ge, cmp_le, cmp_eqI, cmp_neI, blt_sortS, o_eq0, o_ne0, o_ne0L])
theorem compW_mapD {f : D → PE → (List D → PE → Prop) → Prop} {chk : PE → Prop} {π : PE} {Q : List D → PE → Prop} {xs : List D} (g : D → D) (hc : chk π) (h : ∀ x ∈ xs, ∀ K : List D → PE → Prop, K [g x] π → f x π K) (q : Q (xs.map g) π) : compW f chk xs π Q := by
  have z := compW_map (e := id) (xs := xs) (f := f) (chk := chk) (Q := Q) (π := π) g hc h q
  rw [List.map_id] at z
  exact z
theorem forW_invD {t : Tgt} {body : PE → (FlW → Prop) → Prop} {chk : PE → Prop} {Q : FlW → Prop} (I : List D → PE → Prop)
    (hs : ∀ x rest π, I (x :: rest) π → ∃ π1, bindW t x π = some π1 ∧ ∀ K : FlW → Prop, (∀ π2, chk π2 → I rest π2 → K (.nx π2)) → (∀ π2, chk π2 → I rest π2 → K (.ct π2)) → (∀ π2, Q (.nx π2) → K (.bk π2)) → (∀ k x π2, Q (.rt k x π2) → K (.rt k x π2)) → body π1 K)
    (he : ∀ π, I [] π → Q (.nx π)) (xs : List D) (π : PE) (h : I xs π) : forW t body chk xs π Q := by
  have z := forW_inv (e := id) I hs he xs π h
  rw [List.map_id] at z
  exact z
theorem o_allD {xs : List D} {p : D → Bool} : blt .all [.lst (xs.map fun z => .bl (p z))] [] = .ok (.bl (xs.all p)) [] := o_all
end Dv
namespace Dv
open PySem (Str PyData)
open Cut
local macro_rules | `(tactic| walk_at "w") => `(tactic| simp only [x_set, x_tset, x_par, x_isub, x_aug, x_expr, x_ret, x_retN, x_ite, x_whl, x_for, x_brk, x_cont, x_pass, x_nil, x_cons, evalW, evalsW, evalOW, evalIW, lw_comp, lw_comp2, lw_disp, lw_walk, lw_bltl, lw_add, lw_rev, kw_disp, kw_comp, kw_val, evalPW, condsW, gdW_clo, gdW_bor, gdW_own, compS_at, compIS_at, comp2S_at, compKS_at, bodyS_at, testS_at, stay_refl, stay_clo, stay_bor, sto_clo, stoL, stoL_app, stoL_clo, snd_clo, List.map_append, ifB_t, ifB_f, optW_some, resW_okk, blW_bl, intW_int, bindW_nm, bindW_tp, bindWs_nil, bindWs_cons, bind_some', wipeW_nil, wipeW_cons, backAt_some, back_nil, back_cons, List.set_cons_zero, List.set_cons_succ, List.getElem?_cons_zero, List.getElem?_cons_succ, List.map_cons, List.map_nil, List.append_nil, List.nil_append, List.cons_append, List.length_cons, List.length_nil, setW_clo, setW_fre, setW_bor, setW_own, setsW_nil, setsW_cons, argK_clo, clzK_clo, clzK_fre, clzK_lse, retK_clo, retK_own, retK_fre, imm_str, imm_int, imm_bl, imm_non, imm_tup, imm_obj, imm_lst, isTok_str, isTok_int, isTok_bl, isTok_non, isTok_tup, isTok_lst, isOwn_own, isOwnL_own, true_and, and_true, if_true, if_false, o_tupleL, o_tupleT, o_listT, o_listL, o_listS, o_listS2, o_tupleS, o_lenL, o_lenT, o_lenS, o_lenS2, o_minI, o_maxI, o_iterL, o_iterT, o_iterS, o_iterS2, o_seqL, o_seqT, o_lstL, o_lstS, o_bltLL, o_bltLT, o_addI, o_subI, o_slcL, o_slcT, o_slcS, cmp_inT, cmp_inL, cmp_ninT, cmp_ninL, cmp_eqT, cmp_neT, cmp_neL, cmp_lt, cmp_gt, cmp_ge, cmp_le, cmp_eqI, cmp_neI, blt_sortS, o_eq0, o_ne0, o_ne0L])
theorem two_of {xs : List D} (h : xs.length = 2) : ∃ a b, xs = [a, b] := by
  match xs, h with
  | [a, b], _ => exact ⟨a, b, rfl⟩
end Dv
namespace Dv
open PySem (Str PyData)
open Cut
local macro_rules | `(tactic| walk_at "w") => `(tactic| simp only [x_set, x_tset, x_par, x_isub, x_aug, x_expr, x_ret, x_retN, x_ite, x_whl, x_for, x_brk, x_cont, x_pass, x_nil, x_cons, evalW, evalsW, evalOW, evalIW, lw_comp, lw_comp2, lw_disp, lw_walk, lw_bltl, lw_add, lw_rev, kw_disp, kw_comp, kw_val, evalPW, condsW, gdW_clo, gdW_bor, gdW_own, compS_at, compIS_at, comp2S_at, compKS_at, bodyS_at, testS_at, stay_refl, stay_clo, stay_bor, sto_clo, stoL, stoL_app, stoL_clo, snd_clo, List.map_append, ifB_t, ifB_f, optW_some, resW_okk, blW_bl, intW_int, bindW_nm, bindW_tp, bindWs_nil, bindWs_cons, bind_some', wipeW_nil, wipeW_cons, backAt_some, back_nil, back_cons, List.set_cons_zero, List.set_cons_succ, List.getElem?_cons_zero, List.getElem?_cons_succ, List.map_cons, List.map_nil, List.append_nil, List.nil_append, List.cons_append, List.length_cons, List.length_nil, setW_clo, setW_fre, setW_bor, setW_own, setsW_nil, setsW_cons, argK_clo, clzK_clo, clzK_fre, clzK_lse, retK_clo, retK_own, retK_fre, imm_str, imm_int, imm_bl, imm_non, imm_tup, imm_obj, imm_lst, isTok_str, isTok_int, isTok_bl, isTok_non, isTok_tup, isTok_lst, isOwn_own, isOwnL_own, true_and, and_true, if_true, if_false, o_tupleL, o_tupleT, o_listT, o_listL, o_listS, o_listS2, o_tupleS, o_lenL, o_lenT, o_lenS, o_lenS2, o_minI, o_maxI, o_iterL, o_iterT, o_iterS, o_iterS2, o_seqL, o_seqT, o_lstL, o_lstS, o_bltLL, o_bltLT, o_addI, o_subI, o_slcL, o_slcT, o_slcS, cmp_inT, cmp_inL, cmp_ninT, cmp_ninL, cmp_eqT, cmp_neT, cmp_neL, cmp_lt, cmp_gt, cmp_ge, cmp_le, cmp_eqI, cmp_neI, blt_sortS, o_eq0, o_ne0, o_ne0L])
theorem o_idx1T {x y : D} {xs : List D} : idx (.tup (x :: y :: xs)) (.int 1) [] = .ok y [] := o_idxT (n := 1) (xs := x :: y :: xs) rfl
end Dv
namespace Dv
open PySem (Str PyData)
open Cut
local macro_rules | `(tactic| walk_at "w") => `(tactic| simp only [x_set, x_tset, x_par, x_isub, x_aug, x_expr, x_ret, x_retN, x_ite, x_whl, x_for, x_brk, x_cont, x_pass, x_nil, x_cons, evalW, evalsW, evalOW, evalIW, lw_comp, lw_comp2, lw_disp, lw_walk, lw_bltl, lw_add, lw_rev, kw_disp, kw_comp, kw_val, evalPW, condsW, gdW_clo, gdW_bor, gdW_own, compS_at, compIS_at, comp2S_at, compKS_at, bodyS_at, testS_at, stay_refl, stay_clo, stay_bor, sto_clo, stoL, stoL_app, stoL_clo, snd_clo, List.map_append, ifB_t, ifB_f, optW_some, resW_okk, blW_bl, intW_int, bindW_nm, bindW_tp, bindWs_nil, bindWs_cons, bind_some', wipeW_nil, wipeW_cons, backAt_some, back_nil, back_cons, List.set_cons_zero, List.set_cons_succ, List.getElem?_cons_zero, List.getElem?_cons_succ, List.map_cons, List.map_nil, List.append_nil, List.nil_append, List.cons_append, List.length_cons, List.length_nil, setW_clo, setW_fre, setW_bor, setW_own, setsW_nil, setsW_cons, argK_clo, clzK_clo, clzK_fre, clzK_lse, retK_clo, retK_own, retK_fre, imm_str, imm_int, imm_bl, imm_non, imm_tup, imm_obj, imm_lst, isTok_str, isTok_int, isTok_bl, isTok_non, isTok_tup, isTok_lst, isOwn_own, isOwnL_own, true_and, and_true, if_true, if_false, o_tupleL, o_tupleT, o_listT, o_listL, o_listS, o_listS2, o_tupleS, o_lenL, o_lenT, o_lenS, o_lenS2, o_minI, o_maxI, o_iterL, o_iterT, o_iterS, o_iterS2, o_seqL, o_seqT, o_lstL, o_lstS, o_bltLL, o_bltLT, o_addI, o_subI, o_slcL, o_slcT, o_slcS, cmp_inT, cmp_inL, cmp_ninT, cmp_ninL, cmp_eqT, cmp_neT, cmp_neL, cmp_lt, cmp_gt, cmp_ge, cmp_le, cmp_eqI, cmp_neI, blt_sortS, o_eq0, o_ne0, o_ne0L])
end Dv
namespace Dv
open PySem (Str PyData)
open Cut
local macro_rules | `(tactic| walk_at "w") => `(tactic| simp only [x_set, x_tset, x_par, x_isub, x_aug, x_expr, x_ret, x_retN, x_ite, x_whl, x_for, x_brk, x_cont, x_pass, x_nil, x_cons, evalW, evalsW, evalOW, evalIW, lw_comp, lw_comp2, lw_disp, lw_walk, lw_bltl, lw_add, lw_rev, kw_disp, kw_comp, kw_val, evalPW, condsW, gdW_clo, gdW_bor, gdW_own, compS_at, compIS_at, comp2S_at, compKS_at, bodyS_at, testS_at, stay_refl, stay_clo, stay_bor, sto_clo, stoL, stoL_app, stoL_clo, snd_clo, List.map_append, ifB_t, ifB_f, optW_some, resW_okk, blW_bl, intW_int, bindW_nm, bindW_tp, bindWs_nil, bindWs_cons, bind_some', wipeW_nil, wipeW_cons, backAt_some, back_nil, back_cons, List.set_cons_zero, List.set_cons_succ, List.getElem?_cons_zero, List.getElem?_cons_succ, List.map_cons, List.map_nil, List.append_nil, List.nil_append, List.cons_append, List.length_cons, List.length_nil, setW_clo, setW_fre, setW_bor, setW_own, setsW_nil, setsW_cons, argK_clo, clzK_clo, clzK_fre, clzK_lse, retK_clo, retK_own, retK_fre, imm_str, imm_int, imm_bl, imm_non, imm_tup, imm_obj, imm_lst, isTok_str, isTok_int, isTok_bl, isTok_non, isTok_tup, isTok_lst, isOwn_own, isOwnL_own, true_and, and_true, if_true, if_false, o_tupleL, o_tupleT, o_listT, o_listL, o_listS, o_listS2, o_tupleS, o_lenL, o_lenT, o_lenS, o_lenS2, o_minI, o_maxI, o_iterL, o_iterT, o_iterS, o_iterS2, o_seqL, o_seqT, o_lstL, o_lstS, o_bltLL, o_bltLT, o_addI, o_subI, o_slcL, o_slcT, o_slcS, cmp_inT, cmp_inL, cmp_ninT, cmp_ninL, cmp_eqT, cmp_neT, cmp_neL, cmp_lt, cmp_gt, cmp_ge, cmp_le, cmp_eqI, cmp_neI, blt_sortS, o_eq0, o_ne0, o_ne0L])
structure Safe (g : List Str) : Prop where
  len : g.length ≤ 100
  each : ∀ c ∈ g, c.length ≤ 100
theorem Safe.perm {a b : List Str} (p : a.Perm b) (h : Safe b) : Safe a := ⟨by rw [p.length_eq]; exact h.len, fun c hc => h.each c (p.mem_iff.mp hc)⟩
theorem Safe.sub {a b : List Str} (l : a.length ≤ b.length) (s : ∀ c ∈ a, c ∈ b) (h : Safe b) : Safe a := ⟨Nat.le_trans l h.len, fun c hc => h.each c (s c hc)⟩
theorem ok_tup {n : Nat} {xs : List D} (l : xs.length ≤ 1000) (h : ∀ x ∈ xs, okD n x = true) : okD (n + 1) (.tup xs) = true := by
  show ((true && true && decide (xs.length ≤ 1000)) && xs.all (okD n)) = true
  rw [decide_eq_true l, List.all_eq_true.mpr h]
  rfl
theorem ok_lst {n : Nat} {xs : List D} : okD n (.lst xs) = true := by cases n <;> rfl
theorem o_revT {xs : List D} : revD (.tup xs) [] = .ok (.tup xs.reverse) [] := rfl
end Dv
namespace Dv
open PySem (Str PyData)
open Cut
local macro_rules | `(tactic| walk_at "w") => `(tactic| simp only [x_set, x_tset, x_par, x_isub, x_aug, x_expr, x_ret, x_retN, x_ite, x_whl, x_for, x_brk, x_cont, x_pass, x_nil, x_cons, evalW, evalsW, evalOW, evalIW, lw_comp, lw_comp2, lw_disp, lw_walk, lw_bltl, lw_add, lw_rev, kw_disp, kw_comp, kw_val, evalPW, condsW, gdW_clo, gdW_bor, gdW_own, compS_at, compIS_at, comp2S_at, compKS_at, bodyS_at, testS_at, stay_refl, stay_clo, stay_bor, sto_clo, stoL, stoL_app, stoL_clo, snd_clo, List.map_append, ifB_t, ifB_f, optW_some, resW_okk, blW_bl, intW_int, bindW_nm, bindW_tp, bindWs_nil, bindWs_cons, bind_some', wipeW_nil, wipeW_cons, backAt_some, back_nil, back_cons, List.set_cons_zero, List.set_cons_succ, List.getElem?_cons_zero, List.getElem?_cons_succ, List.map_cons, List.map_nil, List.append_nil, List.nil_append, List.cons_append, List.length_cons, List.length_nil, setW_clo, setW_fre, setW_bor, setW_own, setsW_nil, setsW_cons, argK_clo, clzK_clo, clzK_fre, clzK_lse, retK_clo, retK_own, retK_fre, imm_str, imm_int, imm_bl, imm_non, imm_tup, imm_obj, imm_lst, isTok_str, isTok_int, isTok_bl, isTok_non, isTok_tup, isTok_lst, isOwn_own, isOwnL_own, true_and, and_true, if_true, if_false, o_tupleL, o_tupleT, o_listT, o_listL, o_listS, o_listS2, o_tupleS, o_lenL, o_lenT, o_lenS, o_lenS2, o_minI, o_maxI, o_iterL, o_iterT, o_iterS, o_iterS2, o_seqL, o_seqT, o_lstL, o_lstS, o_bltLL, o_bltLT, o_addI, o_subI, o_slcL, o_slcT, o_slcS, cmp_inT, cmp_inL, cmp_ninT, cmp_ninL, cmp_eqT, cmp_neT, cmp_neL, cmp_lt, cmp_gt, cmp_ge, cmp_le, cmp_eqI, cmp_neI, blt_sortS, o_eq0, o_ne0, o_ne0L])
end Dv
namespace Dv
open PySem (Str)
open Cut
local macro_rules | `(tactic| walk_at "w") => `(tactic| simp only [x_set, x_tset, x_par, x_isub, x_aug, x_expr, x_ret, x_retN, x_ite, x_whl, x_for, x_brk, x_cont, x_pass, x_nil, x_cons, evalW, evalsW, evalOW, evalIW, lw_comp, lw_comp2, lw_disp, lw_walk, lw_bltl, lw_add, lw_rev, kw_disp, kw_comp, evalPW, condsW, gdW_clo, gdW_bor, gdW_own, compS_at, compIS_at, comp2S_at, compKS_at, bodyS_at, testS_at, stay_refl, stay_clo, stay_bor, sto_clo, stoL, stoL_app, stoL_clo, snd_clo, List.map_append, ifB_t, ifB_f, optW_some, resW_okk, blW_bl, intW_int, bindW_nm, bindW_tp, bindWs_nil, bindWs_cons, bind_some', wipeW_nil, wipeW_cons, backAt_some, back_nil, back_cons, List.set_cons_zero, List.set_cons_succ, List.getElem?_cons_zero, List.getElem?_cons_succ, List.map_cons, List.map_nil, List.append_nil, List.nil_append, List.cons_append, List.length_cons, List.length_nil, setW_clo, setW_fre, setW_bor, setW_own, setsW_nil, setsW_cons, argK_clo, clzK_clo, clzK_fre, clzK_lse, retK_clo, retK_own, retK_fre, imm_str, imm_int, imm_bl, imm_non, imm_tup, imm_obj, imm_lst, isTok_str, isTok_int, isTok_bl, isTok_non, isTok_tup, isTok_lst, isOwn_own, isOwnL_own, true_and, and_true, if_true, if_false, o_tupleL, o_tupleT, o_listT, o_listL, o_listS, o_listS2, o_tupleS, o_lenL, o_lenT, o_lenS, o_lenS2, o_minI, o_maxI, o_iterL, o_iterT, o_iterS, o_iterS2, o_seqL, o_seqT, o_lstL, o_lstS, o_bltLL, o_bltLT, o_addI, o_subI, o_slcL, o_slcT, o_slcS, cmp_inT, cmp_inL, cmp_ninT, cmp_ninL, cmp_eqT, cmp_neT, cmp_neL, cmp_lt, cmp_gt, cmp_ge, cmp_le, cmp_eqI, cmp_neI, blt_sortS, o_eq0, o_ne0, o_ne0L])
/-- what cutting comes to -/
def Ends (told : List Split) (rest : List Str) (L : List (List Str)) : Prop := Reach told (one rest) L ∧ Stable told L
end Dv
namespace Dv
open PySem (Str)
open Cut
local macro_rules | `(tactic| walk_at "w") => `(tactic| simp only [x_set, x_tset, x_par, x_isub, x_aug, x_expr, x_ret, x_retN, x_ite, x_whl, x_for, x_brk, x_cont, x_pass, x_nil, x_cons, evalW, evalsW, evalOW, evalIW, lw_comp, lw_comp2, lw_disp, lw_walk, lw_bltl, lw_add, lw_rev, kw_disp, kw_comp, evalPW, condsW, gdW_clo, gdW_bor, gdW_own, compS_at, compIS_at, comp2S_at, compKS_at, bodyS_at, testS_at, stay_refl, stay_clo, stay_bor, sto_clo, stoL, stoL_app, stoL_clo, snd_clo, List.map_append, ifB_t, ifB_f, optW_some, resW_okk, blW_bl, intW_int, bindW_nm, bindW_tp, bindWs_nil, bindWs_cons, bind_some', wipeW_nil, wipeW_cons, backAt_some, back_nil, back_cons, List.set_cons_zero, List.set_cons_succ, List.getElem?_cons_zero, List.getElem?_cons_succ, List.map_cons, List.map_nil, List.append_nil, List.nil_append, List.cons_append, List.length_cons, List.length_nil, setW_clo, setW_fre, setW_bor, setW_own, setsW_nil, setsW_cons, argK_clo, clzK_clo, clzK_fre, clzK_lse, retK_clo, retK_own, retK_fre, imm_str, imm_int, imm_bl, imm_non, imm_tup, imm_obj, imm_lst, isTok_str, isTok_int, isTok_bl, isTok_non, isTok_tup, isTok_lst, isOwn_own, isOwnL_own, true_and, and_true, if_true, if_false, o_tupleL, o_tupleT, o_listT, o_listL, o_listS, o_listS2, o_tupleS, o_lenL, o_lenT, o_lenS, o_lenS2, o_minI, o_maxI, o_iterL, o_iterT, o_iterS, o_iterS2, o_seqL, o_seqT, o_lstL, o_lstS, o_bltLL, o_bltLT, o_addI, o_subI, o_slcL, o_slcT, o_slcS, cmp_inT, cmp_inL, cmp_ninT, cmp_ninL, cmp_eqT, cmp_neT, cmp_neL, cmp_lt, cmp_gt, cmp_ge, cmp_le, cmp_eqI, cmp_neI, blt_sortS, o_eq0, o_ne0, o_ne0L])
theorem enumL_map {α : Type} {e : α → D} : ∀ (xs : List α) (k : Nat), enumL k (xs.map e) = (xs.zipIdx k).map fun p => .tup [.int p.2, e p.1]
  | [], _ => rfl
  | x :: xs, k => by
    show D.tup [.int k, e x] :: enumL (k + 1) (xs.map e) = _
    rw [enumL_map xs (k + 1)]
    rfl
/-- the whole -/
structure CI (told : List Split) (rest : List Str) (L : List (List Str)) : Prop where
  reach : Reach told (one rest) (neL L)
  nil : rest = [] → L = [[]]
  ne : rest ≠ [] → ∀ B ∈ L, B ≠ []
  sum : (L.map List.length).sum = rest.length
theorem neL_all {L : List (List Str)} (h : ∀ B ∈ L, B ≠ []) : neL L = L := by
  unfold neL
  rw [List.filter_eq_self]
  intro B hB
  cases B with
  | nil => exact absurd rfl (h _ hB)
  | cons _ _ => rfl
theorem CI.step {told : List Split} {rest : List Str} {L : List (List Str)} (I : CI told rest L) {n : Nat} {B : List Str} {q : Split} (hn : L[n]? = some B) (hq : q ∈ told) (kc : cuts q B) : CI told rest (L.eraseIdx n ++ [inn B q.2, out B q.2]) ∧ (L.eraseIdx n ++ [inn B q.2, out B q.2]).length = L.length + 1 := by
  have hl : n < L.length := by
    rcases Nat.lt_or_ge n L.length with h | h
    · exact h
    · rw [List.getElem?_eq_none h] at hn; cases hn
  have eB : L[n] = B := by
    have : L[n]? = some L[n] := by simp [hl]
    rw [this] at hn
    exact Option.some.inj hn
  have p := take_perm hl
  rw [eB] at p
  have hB : B ∈ L := by rw [← eB]; exact List.getElem_mem _
  obtain ⟨_, ⟨c, h1, h2⟩, d, h3, h4⟩ := id kc
  have Bne : B ≠ [] := List.ne_nil_of_mem h1
  have hr : rest ≠ [] := fun e => by
    rw [I.nil e] at hB
    exact Bne (List.mem_singleton.mp hB)
  have n1 : inn B q.2 ≠ [] := List.ne_nil_of_mem (mem_inn.mpr ⟨h1, h2⟩)
  have n2 : out B q.2 ≠ [] := List.ne_nil_of_mem (mem_out.mpr ⟨h3, h4⟩)
  have ne2 : ∀ C ∈ L.eraseIdx n ++ [inn B q.2, out B q.2], C ≠ [] := fun C hC => by
    rcases List.mem_append.mp hC with z | z
    · exact I.ne hr C (List.mem_of_mem_eraseIdx z)
    · rcases List.mem_cons.mp z with rfl | z
      · exact n1
      · rw [List.mem_singleton.mp z]; exact n2
  refine ⟨⟨?_, fun e => absurd e hr, fun _ => ne2, ?_⟩, ?_⟩
  · rw [neL_all ne2]
    have r := I.reach
    rw [neL_all (I.ne hr)] at r
    have r1 := (r.perm p.symm).cut hq kc
    exact r1.perm (List.perm_append_comm (l₁ := [inn B q.2, out B q.2]))
  · rw [List.map_append, List.sum_append, ← I.sum]
    have e := (p.map List.length).sum_nat
    rw [List.map_cons, List.sum_cons] at e
    have := split_len B q.2
    (simp only [List.map_cons, List.map_nil, List.sum_cons, List.sum_nil])
    omega
  · rw [List.length_append, List.length_eraseIdx_of_lt hl]
    (simp only [List.length_cons, List.length_nil])
    omega
end Dv
namespace Dv
open PySem (Str PyData)
open Cut
local macro_rules | `(tactic| walk_at "w") => `(tactic| simp only [x_set, x_mov, movW_own, freW_fre, x_tset, x_par, x_isub, x_aug, x_expr, x_ret, x_retN, x_ite, x_whl, x_for, x_brk, x_cont, x_pass, x_nil, x_cons, evalW, evalsW, evalOW, evalIW, lw_comp, lw_comp2, lw_disp, lw_walk, lw_bltl, lw_add, lw_rev, kw_disp, kw_comp, kw_val, evalPW, condsW, gdW_clo, gdW_bor, gdW_own, compS_at, compIS_at, comp2S_at, compKS_at, bodyS_at, testS_at, stay_refl, stay_clo, stay_bor, sto_clo, stoL, stoL_app, stoL_clo, snd_clo, List.map_append, ifB_t, ifB_f, optW_some, resW_okk, blW_bl, intW_int, bindW_nm, bindW_tp, bindWs_nil, bindWs_cons, bind_some', wipeW_nil, wipeW_cons, backAt_some, back_nil, back_cons, List.set_cons_zero, List.set_cons_succ, List.getElem?_cons_zero, List.getElem?_cons_succ, List.map_cons, List.map_nil, List.append_nil, List.nil_append, List.cons_append, List.length_cons, List.length_nil, setW_clo, setW_fre, setW_bor, setW_own, setsW_nil, setsW_cons, argK_clo, clzK_clo, clzK_fre, clzK_lse, retK_clo, retK_own, retK_fre, imm_str, imm_int, imm_bl, imm_non, imm_tup, imm_obj, imm_lst, isTok_str, isTok_int, isTok_bl, isTok_non, isTok_tup, isTok_lst, isOwn_own, isOwnL_own, true_and, and_true, if_true, if_false, o_tupleL, o_tupleT, o_listT, o_listL, o_listS, o_listS2, o_tupleS, o_lenL, o_lenT, o_lenS, o_lenS2, o_minI, o_maxI, o_iterL, o_iterT, o_iterS, o_iterS2, o_seqL, o_seqT, o_lstL, o_lstS, o_bltLL, o_bltLT, o_addI, o_subI, o_slcL, o_slcT, o_slcS, cmp_inT, cmp_inL, cmp_ninT, cmp_ninL, cmp_eqT, cmp_neT, cmp_neL, cmp_lt, cmp_gt, cmp_ge, cmp_le, cmp_eqI, cmp_neI, blt_sortS, o_eq0, o_ne0, o_ne0L])
local macro_rules | `(tactic| walk_at "m") => `(tactic| (refine compW_map ?g trivial (fun x hx K hK => ?h) ?q; case h => ((try walk_at "w"); exact hK)))
local macro_rules | `(tactic| walk_at "f") => `(tactic| (refine compW_filter ?p ?g trivial (fun x hx K hK => ?h) ?q; case h => ((try walk_at "w"); exact hK)))
local macro_rules | `(tactic| walk_at "l") => `(tactic| (first | decide | (simp only [List.length_append, List.length_map, List.length_cons, List.length_nil, List.length_range, LIM_eq]; omega)))
theorem compW_filD {f : D → PE → (List D → PE → Prop) → Prop} {chk : PE → Prop} {π : PE} {Q : List D → PE → Prop} {xs : List D} (p : D → Bool) (hc : chk π) (h : ∀ x ∈ xs, ∀ K : List D → PE → Prop, ifB (p x) (K [x] π) (K [] π) → f x π K) (q : Q (xs.filter p) π) : compW f chk xs π Q := by
  have := compW_filter (xs := xs) (e := id) p id hc h (by rw [List.map_id]; exact q)
  rw [List.map_id] at this
  exact this
structure AskV (d : D) : Prop where
  ok : okD 2 d = true
  fl : ∀ xs, d = .tup xs → flat 6 d = true
  rp : ∃ s, blt .repr [d] [] = .ok (.str s) []
theorem o_neD0 {xs : List D} (h : flat 40 (.lst xs) = true) {st : Sto} : cmp2 .ne (.lst xs) (.lst []) st = some (!xs.isEmpty) := by
  show ((data st (.lst xs)).bind fun x => (data st (.lst [])).map fun y => !eqD x y) = _
  rw [data_flat h, data_flat (d := .lst []) rfl]
  cases xs <;> rfl
theorem o_eqD0 {xs : List D} (h : flat 40 (.lst xs) = true) {st : Sto} : cmp2 .eq (.lst xs) (.lst []) st = some xs.isEmpty := o_eqL0 ⟨40, h, by decide⟩
theorem flat_fil {n : Nat} {xs : List D} {p : D → Bool} (h : flat (n + 1) (.tup xs) = true) : flat (n + 1) (.lst (xs.filter p)) = true := by
  have h : xs.all (flat n) = true := h
  show (xs.filter p).all (flat n) = true
  rw [List.all_eq_true] at *
  exact fun x hx => h x (List.mem_filter.mp hx).1
def isIntD : D → Bool
  | .int _ => true
  | _ => false
def b_is_number : List Sx := [.ret (.and (.isi (.var 0) [.int]) (.not (.isi (.var 0) [.bool])))]
def IsnS (w : CallW) : Prop := ∀ d : D, fine d = true → Pure w [(.clo, d)] (.bl (isIntD d))
theorem isn_w {C : CW} : IsnS (bodyW C 1 1 b_is_number) := by
  intro d hd X Q hq
  refine ⟨rfl, ?_⟩
  show execsW C _ _ [some (.clo, d)] _
  unfold b_is_number
  have t := fine_tok hd
  have y := fine_ty hd
  walk_at "w"
  refine ⟨t, y, ?_⟩
  cases d with
  | int i => exact ⟨rfl, rfl, hq⟩
  | bl b => exact ⟨rfl, rfl, hq⟩
  | obj n => cases t
  | ins c fs => cases y
  | scr ns => cases y
  | _ => exact hq
def isPrD (n : Nat) : D → Bool
  | .tup [.int a, .int b] => ((decide (0 ≤ a) && decide (a < n)) && (decide (0 ≤ b) && decide (b < n))) && !decide (a = b)
  | _ => false
theorem pr_num {n : Nat} {a b : D} (h : (isIntD a && isIntD b) = false) : isPrD n (.tup [a, b]) = false := by
  cases a <;> first | rfl | (cases b <;> first | rfl | cases h)
theorem pr_len {n : Nat} {xs : List D} (h : xs.length ≠ 2) : isPrD n (.tup xs) = false := by
  match xs, h with
  | [], _ => rfl
  | [a], _ => cases a <;> rfl
  | [a, b], h => exact absurd rfl h
  | a :: b :: c :: r, _ => cases a <;> first | rfl | (cases b <;> rfl)
def PrS (w : CallW) : Prop := ∀ (hs : List (List Str)) (d : D), hs.length ≤ 100 → okD 1 d = true → (∀ xs, d = .tup xs → flat 5 d = true) → Pure w [(.clo, webS hs), (.clo, d)] (.bl (isPrD hs.length d))
def b_is_pair (i_is_number : Nat) : List Sx := [.ite (.or (.not (.isi (.var 1) [.tup])) (.or (.cmp .ne (.blt .len [.var 1]) (.int 2)) (.not (.blt .all [.frl (.comp [2] (.nm 2) (.itv (.var 1)) [] (.callz i_is_number [.var 2]))])))) [.ret (.bl false)] [], .ret (.and (.blt .all [.frl (.comp [2] (.nm 2) (.itv (.var 1)) [] (.chain .le .lt (.int 0) (.var 2) (.blt .len [.var 0])))]) (.cmp .ne (.idx (.var 1) (.int 0)) (.idx (.var 1) (.int 1))))]
def inR (n : Nat) : D → Bool
  | .int a => decide (0 ≤ a) && decide (a < n)
  | _ => false
theorem ints_two {a b : D} (h : (isIntD a && isIntD b) = true) : ∃ i j, a = .int i ∧ b = .int j := by
  cases a <;> first | (cases h; done) | skip
  cases b <;> first | (cases h; done) | skip
  exact ⟨_, _, rfl, rfl⟩
theorem ispr_w {C : CW} {inn_ : Nat} (hn : IsnS (C.call inn_)) : PrS (bodyW C 2 3 (b_is_pair inn_)) := by
  intro hs d l1 hd hf X Q hq
  refine ⟨rfl, ?_⟩
  show execsW C _ _ [some (.clo, webS hs), some (.clo, d), none] _
  unfold b_is_pair
  have fd := okD_fine hd
  walk_at "w"
  rw [o_isT fd]
  refine ⟨fine_tok fd, fine_ty fd, ifB_of (fun c => ?_) fun c => ?_⟩
  · have e : isPrD hs.length d = false := by cases d <;> first | rfl | cases c
    rw [e] at hq
    try walk_at "w"
    exact hq
  · obtain ⟨xs, rfl⟩ : ∃ xs, d = .tup xs := by cases d <;> first | exact ⟨_, rfl⟩ | cases c
    try walk_at "w"
    by_cases l2 : xs.length = 2
    · obtain ⟨a, b, rfl⟩ := two_of l2
      rw [show ((([a, b] : List D).length : Int) == 2) = true by rfl]
      try walk_at "w"
      refine ⟨by rfl, by decide, compW_mapD (fun x => .bl (isIntD x)) trivial (fun x hx K hK => ?_) ?_⟩
      · walk_at "w"
        refine hn x (okD_fine (okD_at hd x hx)) _ _ ?_
        try walk_at "w"
        exact hK
      · rw [o_allD]
        walk_at "w"
        cases z : (isIntD a && isIntD b) with
        | false =>
          have e : ([a, b] : List D).all isIntD = false := by simpa using z
          rw [e]
          rw [pr_num z] at hq
          try walk_at "w"
          exact hq
        | true =>
          have e : ([a, b] : List D).all isIntD = true := by simpa using z
          rw [e]
          obtain ⟨i, j, rfl, rfl⟩ := ints_two z
          try walk_at "w"
          refine ⟨by rfl, by decide, compW_mapD (fun x => .bl (inR hs.length x)) trivial (fun x hx K hK => ?_) ?_⟩
          · obtain ⟨k, rfl⟩ : ∃ k, x = .int k := by
              (simp only [List.mem_cons, List.not_mem_nil, or_false] at hx)
              rcases hx with rfl | rfl <;> exact ⟨_, rfl⟩
            walk_at "w"
            have hK : K [.bl (decide (0 ≤ k) && decide (k < (hs.length : Int)))] [some (Kd.clo, webS hs), some (Kd.clo, D.tup [D.int i, D.int j]), none] := hK
            cases y : decide (0 ≤ k) with
            | false =>
              rw [y] at hK
              try walk_at "w"
              exact hK
            | true =>
              rw [y] at hK
              try walk_at "w"
              rw [o_lenW]
              try walk_at "w"
              exact hK
          · rw [o_allD]
            walk_at "w"
            have e2 : isPrD hs.length (.tup [.int i, .int j]) = (([D.int i, .int j].all (inR hs.length)) && !decide (i = j)) := by
              unfold isPrD inR
              simp
            rw [e2] at hq
            cases y : ([D.int i, .int j].all (inR hs.length)) with
            | false =>
              rw [y] at hq
              try walk_at "w"
              exact hq
            | true =>
              rw [y] at hq
              try walk_at "w"
              rw [o_idx0T]
              try walk_at "w"
              rw [o_idx1T]
              try walk_at "w"
              have e3 : (i == j) = decide (i = j) := by rw [Bool.eq_iff_iff, beq_iff_eq, decide_eq_true_eq]
              rw [e3]
              exact hq
    · have e : ((xs.length : Int) == 2) = false := by
        rw [beq_eq_false_iff_ne]
        omega
      rw [e]
      rw [pr_len l2] at hq
      try walk_at "w"
      exact hq
def b_l_is_pair (i_l_is_number : Nat) : List Sx := [.ite (.or (.not (.isi (.var 1) [.tup])) (.or (.cmp .ne (.blt .len [.var 1]) (.int 2)) (.cmp .ne (.frl (.comp [2] (.nm 2) (.itv (.var 1)) [.not (.callz i_l_is_number [.var 2])] (.var 2))) (.frl (.disp []))))) [.ret (.bl false)] [], .ret (.and (.cmp .eq (.frl (.comp [2] (.nm 2) (.itv (.var 1)) [.not (.chain .le .lt (.int 0) (.var 2) (.blt .len [.var 0]))] (.var 2))) (.frl (.disp []))) (.cmp .ne (.idx (.var 1) (.int 0)) (.idx (.var 1) (.int 1))))]
theorem fil_empty {α : Type} {xs : List α} {p : α → Bool} : (xs.filter fun x => !p x).isEmpty = xs.all p := by
  induction xs with
  | nil => rfl
  | cons x xs ih =>
    rw [List.filter_cons, List.all_cons]
    cases p x with
    | true => simpa using ih
    | false => rfl
theorem lpr_w {C : CW} {inn_ : Nat} (hn : IsnS (C.call inn_)) : PrS (bodyW C 2 3 (b_l_is_pair inn_)) := by
  intro hs d l1 hd hf X Q hq
  refine ⟨rfl, ?_⟩
  show execsW C _ _ [some (.clo, webS hs), some (.clo, d), none] _
  unfold b_l_is_pair
  have fd := okD_fine hd
  walk_at "w"
  rw [o_isT fd]
  refine ⟨fine_tok fd, fine_ty fd, ifB_of (fun c => ?_) fun c => ?_⟩
  · have e : isPrD hs.length d = false := by cases d <;> first | rfl | cases c
    rw [e] at hq
    try walk_at "w"
    exact hq
  · obtain ⟨xs, rfl⟩ : ∃ xs, d = .tup xs := by cases d <;> first | exact ⟨_, rfl⟩ | cases c
    try walk_at "w"
    have fl := hf xs rfl
    by_cases l2 : xs.length = 2
    · obtain ⟨a, b, rfl⟩ := two_of l2
      rw [show ((([a, b] : List D).length : Int) == 2) = true by rfl]
      try walk_at "w"
      refine ⟨by rfl, by decide, compW_filD (fun x => !isIntD x) trivial (fun x hx K hK => ?_) ?_⟩
      · walk_at "w"
        refine hn x (okD_fine (okD_at hd x hx)) _ _ ?_
        try walk_at "w"
        exact hK
      · refine ⟨by decide, ?_⟩
        rw [o_neD0 (flat_mono (flat_fil fl) (by decide)), fil_empty]
        cases z : (isIntD a && isIntD b) with
        | false =>
          have e : ([a, b] : List D).all isIntD = false := by simpa using z
          rw [e]
          rw [pr_num z] at hq
          try walk_at "w"
          exact hq
        | true =>
          have e : ([a, b] : List D).all isIntD = true := by simpa using z
          rw [e]
          obtain ⟨i, j, rfl, rfl⟩ := ints_two z
          try walk_at "w"
          refine ⟨by rfl, by decide, compW_filD (fun x => !inR hs.length x) trivial (fun x hx K hK => ?_) ?_⟩
          · obtain ⟨k, rfl⟩ : ∃ k, x = .int k := by
              (simp only [List.mem_cons, List.not_mem_nil, or_false] at hx)
              rcases hx with rfl | rfl <;> exact ⟨_, rfl⟩
            walk_at "w"
            have hK : ifB (!(decide (0 ≤ k) && decide (k < (hs.length : Int)))) (K [.int k] [some (Kd.clo, webS hs), some (Kd.clo, D.tup [D.int i, D.int j]), none]) (K [] [some (Kd.clo, webS hs), some (Kd.clo, D.tup [D.int i, D.int j]), none]) := hK
            cases y : decide (0 ≤ k) with
            | false =>
              rw [y] at hK
              try walk_at "w"
              exact hK
            | true =>
              rw [y] at hK
              try walk_at "w"
              rw [o_lenW]
              try walk_at "w"
              exact hK
          · try walk_at "w"
            refine ⟨by decide, ?_⟩
            rw [o_eqD0 (flat_mono (flat_fil fl) (by decide)), fil_empty]
            have e2 : isPrD hs.length (.tup [.int i, .int j]) = (([D.int i, .int j].all (inR hs.length)) && !decide (i = j)) := by
              unfold isPrD inR
              simp
            rw [e2] at hq
            cases y : ([D.int i, .int j].all (inR hs.length)) with
            | false =>
              rw [y] at hq
              try walk_at "w"
              exact hq
            | true =>
              rw [y] at hq
              try walk_at "w"
              rw [o_idx0T]
              try walk_at "w"
              rw [o_idx1T]
              try walk_at "w"
              have e3 : (i == j) = decide (i = j) := by rw [Bool.eq_iff_iff, beq_iff_eq, decide_eq_true_eq]
              rw [e3]
              exact hq
    · have e : ((xs.length : Int) == 2) = false := by
        rw [beq_eq_false_iff_ne]
        omega
      rw [e]
      rw [pr_len l2] at hq
      try walk_at "w"
      exact hq
def prOf : D → Nat × Nat
  | .tup [.int a, .int b] => (a.toNat, b.toNat)
  | _ => (0, 0)
def runF (hs : List (List Str)) : List Nat → Nat → List (Nat × Nat) → Option Nat
  | _, _, [] => none
  | lot, k, p :: ps => if p ∈ earsF hs lot then runF hs (without lot p.1) (k + 1) ps else some k
def formR : D := .tup [.str ⟨#[102, 111, 114, 109]⟩]
def earR : Option Nat → D
  | none => .non
  | some k => .tup [.str ⟨#[101, 97, 114]⟩, .int k]
def jfD (hs : List (List Str)) : D → D
  | .tup xs => if decide (xs.length + 1 = hs.length) && xs.all (isPrD hs.length) then earR (runF hs (List.range hs.length) 0 (xs.map prOf)) else formR
  | _ => formR
def JfS (w : CallW) : Prop := ∀ (hs : List (List Str)) (d : D), WOk hs → 1 ≤ hs.length → okD 2 d = true → (∀ xs, d = .tup xs → flat 6 d = true) → Pure w [(.clo, webS hs), (.clo, d)] (jfD hs d)
theorem pr_is {n : Nat} {x : D} (h : isPrD n x = true) : x = pairD (prOf x) ∧ (prOf x).1 < n ∧ (prOf x).2 < n := by
  unfold isPrD at h
  split at h
  · rename_i a b
    simp only [Bool.and_eq_true, decide_eq_true_eq, Bool.not_eq_true', decide_eq_false_iff_not] at h
    obtain ⟨⟨⟨a0, a1⟩, b0, b1⟩, _⟩ := h
    refine ⟨?_, ?_, ?_⟩
    · unfold pairD prOf
      simp only [Int.toNat_of_nonneg a0, Int.toNat_of_nonneg b0]
    · show a.toNat < n
      omega
    · show b.toNat < n
      omega
  · cases h
theorem prs_are {n : Nat} : ∀ {xs : List D}, xs.all (isPrD n) = true → xs = (xs.map prOf).map pairD ∧ ∀ p ∈ xs.map prOf, p.1 < n ∧ p.2 < n
  | [], _ => ⟨rfl, fun p hp => absurd hp List.not_mem_nil⟩
  | x :: xs, h => by
    (rw [List.all_cons, Bool.and_eq_true] at h)
    obtain ⟨e, a⟩ := pr_is h.1
    obtain ⟨es, as⟩ := prs_are h.2
    refine ⟨?_, fun p hp => ?_⟩
    · rw [List.map_cons, List.map_cons, ← e, ← es]
    · (rcases List.mem_cons.mp hp with rfl | hp)
      · exact a
      · exact as p hp
theorem ears_at {hs : List (List Str)} {lot : List Nat} {x y : Nat} : (x, y) ∈ earsF hs lot ↔ x ∈ lot ∧ y ∈ lot ∧ isEar hs lot x y = true := by
  unfold earsF
  rw [List.mem_flatMap]
  constructor
  · rintro ⟨a, ha, h⟩
    obtain ⟨b, hb, e⟩ := List.mem_map.mp h
    injection e with e1 e2
    subst e1 e2
    obtain ⟨h1, h2⟩ := List.mem_filter.mp hb
    exact ⟨ha, h1, h2⟩
  · rintro ⟨h1, h2, h3⟩
    exact ⟨x, h1, List.mem_map.mpr ⟨y, List.mem_filter.mpr ⟨h2, h3⟩, rfl⟩⟩
theorem cmp_ninNT {x : Nat} {l : List Nat} {st : Sto} : cmp2 .nin (.int x) (.tup (l.map intD)) st = some (!decide (x ∈ l)) := by
  show (((data st (.int x)).bind fun a => (data st (.tup (l.map intD))).bind fun y => match y with
          | .tup ys => some (ys.any fun z => eqD z a)
          | .lst ys => some (ys.any fun z => eqD z a)
          | _ => none)).map (!·) = _
  rw [data_int, data_flat (flat_intsT (n := 38) l)]
  show some (!((l.map intD).any fun z => eqD z (.int x))) = _
  rw [any_ints]
theorem any_prs {p : Nat × Nat} : ∀ L : List (Nat × Nat), ((L.map pairD).any fun z => eqD z (pairD p)) = decide (p ∈ L)
  | [] => by simp
  | q :: L => by
    rw [List.map_cons, List.any_cons, any_prs L]
    have : eqD (pairD q) (pairD p) = decide (q = p) := by
      obtain ⟨a, b⟩ := q
      obtain ⟨c, d⟩ := p
      show ((((a : Int) == (c : Int)) && ((((b : Int) == (d : Int))) && true))) = _
      rw [Bool.eq_iff_iff]
      simp
      omega
    rw [this, Bool.eq_iff_iff, Bool.or_eq_true, decide_eq_true_eq, decide_eq_true_eq, decide_eq_true_eq, List.mem_cons]
    exact or_congr ⟨Eq.symm, Eq.symm⟩ Iff.rfl
theorem cmp_ninPL {p : Nat × Nat} {L : List (Nat × Nat)} {st : Sto} : cmp2 .nin (pairD p) (.lst (L.map pairD)) st = some (!decide (p ∈ L)) := by
  show (((data st (pairD p)).bind fun a => (data st (.lst (L.map pairD))).bind fun y => match y with
          | .tup ys => some (ys.any fun z => eqD z a)
          | .lst ys => some (ys.any fun z => eqD z a)
          | _ => none)).map (!·) = _
  rw [show data st (pairD p) = some (pairD p) from data_flat (flat_mono (flat_pair (n := 0)) (by decide)), data_flat (flat_mono (flat_pairs (n := 0)) (by decide))]
  show some (!((L.map pairD).any fun z => eqD z (pairD p))) = _
  rw [any_prs]
theorem enum_prs (ps : List (Nat × Nat)) : enumL 0 (ps.map pairD) = (ps.zipIdx).map fun (p : (Nat × Nat) × Nat) => D.tup [.int p.2, .tup [.int p.1.1, .int p.1.2]] := enumL_map ps 0
end Dv
namespace Dv
open PySem (Str PyData)
open Cut
local macro_rules | `(tactic| walk_at "w") => `(tactic| simp only [x_set, x_mov, movW_own, freW_fre, x_tset, x_par, x_isub, x_aug, x_expr, x_ret, x_retN, x_ite, x_whl, x_for, x_brk, x_cont, x_pass, x_nil, x_cons, evalW, evalsW, evalOW, evalIW, lw_comp, lw_comp2, lw_disp, lw_walk, lw_bltl, lw_add, lw_rev, kw_disp, kw_comp, kw_val, evalPW, condsW, gdW_clo, gdW_bor, gdW_own, compS_at, compIS_at, comp2S_at, compKS_at, bodyS_at, testS_at, stay_refl, stay_clo, stay_bor, sto_clo, stoL, stoL_app, stoL_clo, snd_clo, List.map_append, ifB_t, ifB_f, optW_some, resW_okk, blW_bl, intW_int, bindW_nm, bindW_tp, bindWs_nil, bindWs_cons, bind_some', wipeW_nil, wipeW_cons, backAt_some, back_nil, back_cons, List.set_cons_zero, List.set_cons_succ, List.getElem?_cons_zero, List.getElem?_cons_succ, List.map_cons, List.map_nil, List.append_nil, List.nil_append, List.cons_append, List.length_cons, List.length_nil, setW_clo, setW_fre, setW_bor, setW_own, setsW_nil, setsW_cons, argK_clo, clzK_clo, clzK_fre, clzK_lse, retK_clo, retK_own, retK_fre, imm_str, imm_int, imm_bl, imm_non, imm_tup, imm_obj, imm_lst, isTok_str, isTok_int, isTok_bl, isTok_non, isTok_tup, isTok_lst, isOwn_own, isOwnL_own, true_and, and_true, if_true, if_false, o_tupleL, o_tupleT, o_listT, o_listL, o_listS, o_listS2, o_tupleS, o_lenL, o_lenT, o_lenS, o_lenS2, o_minI, o_maxI, o_iterL, o_iterT, o_iterS, o_iterS2, o_seqL, o_seqT, o_lstL, o_lstS, o_bltLL, o_bltLT, o_addI, o_subI, o_slcL, o_slcT, o_slcS, cmp_inT, cmp_inL, cmp_ninT, cmp_ninL, cmp_eqT, cmp_neT, cmp_neL, cmp_lt, cmp_gt, cmp_ge, cmp_le, cmp_eqI, cmp_neI, blt_sortS, o_eq0, o_ne0, o_ne0L])
local macro_rules | `(tactic| walk_at "m") => `(tactic| (refine compW_map ?g trivial (fun x hx K hK => ?h) ?q; case h => ((try walk_at "w"); exact hK)))
local macro_rules | `(tactic| walk_at "f") => `(tactic| (refine compW_filter ?p ?g trivial (fun x hx K hK => ?h) ?q; case h => ((try walk_at "w"); exact hK)))
local macro_rules | `(tactic| walk_at "l") => `(tactic| (first | decide | (simp only [List.length_append, List.length_map, List.length_cons, List.length_nil, List.length_range, LIM_eq]; omega)))
theorem small_rng7 {n : Nat} (h : n ≤ 100000) : rngOk (n : Int) = true := by
  unfold rngOk
  rw [decide_eq_true_eq]
  omega
theorem jf_tup {hs : List (List Str)} {xs : List D} : jfD hs (.tup xs) = if decide (xs.length + 1 = hs.length) && xs.all (isPrD hs.length) then earR (runF hs (List.range hs.length) 0 (xs.map prOf)) else formR := rfl
theorem wo_ok {hs : List (List Str)} {lot : List Nat} {x : Nat} (h : LotOk hs lot) : LotOk hs (without lot x) := ⟨fun z hz => h.lt z (mem_without.mp hz).1, Nat.le_trans (List.length_filter_le _ _) h.le, h.le2, h.hd⟩
def b_jfLap (ie : Nat) : List Sx := [.ite (.or (.cmp .nin (.var 4) (.var 2)) (.or (.cmp .nin (.var 5) (.var 2)) (.not (.callz ie [.var 0, .var 2, .var 4, .var 5])))) [.ret (.tup [.str ⟨#[101, 97, 114]⟩, .var 3])] [], .set 2 (.blt .tuple [.frl (.comp [7] (.nm 7) (.itv (.var 2)) [.cmp .ne (.var 7) (.var 4)] (.var 7))])]
def b_judge_folding (i_is_pair i_is_ear : Nat) : List Sx := [.ite (.or (.not (.isi (.var 1) [.tup])) (.or (.cmp .ne (.blt .len [.var 1]) (.op .sub (.blt .len [.var 0]) (.int 1))) (.not (.blt .all [.frl (.comp [6] (.nm 6) (.itv (.var 1)) [] (.callz i_is_pair [.var 0, .var 6]))])))) [.ret (.tup [.str ⟨#[102, 111, 114, 109]⟩])] [], .set 2 (.tupR (.blt .len [.var 0])), .for_ (.tp [.nm 3, .tp [.nm 4, .nm 5]]) (.enum (.var 1)) (b_jfLap i_is_ear), .ret (.non)]
theorem at_all {n : Nat} {xs : List D} (h : flat (n + 1) (.tup xs) = true) : ∀ x ∈ xs, flat n x = true := List.all_eq_true.mp h
theorem jf_lap {C : CW} {X : Xc} {K : FlW → Prop} {ie : Nat} (he : IsEarS (C.call ie)) {hs : List (List Str)} {lot : List Nat} {p : Nat × Nat} {k : Nat} {a1 x6 x7 : Option (Kd × D)} (lo : LotOk hs lot) (p1 : p.1 < hs.length) (p2 : p.2 < hs.length)
    (h1 : p ∈ earsF hs lot → ∀ y7, K (.nx [some (.clo, webS hs), a1, some (.clo, lotT (without lot p.1)), some (.clo, .int k), some (.clo, .int p.1), some (.clo, .int p.2), x6, y7]))
    (h2 : p ∉ earsF hs lot → ∀ y7, K (.rt .clo (earR (some k)) [some (.clo, webS hs), a1, some (.clo, lotT lot), some (.clo, .int k), some (.clo, .int p.1), some (.clo, .int p.2), x6, y7])) :
    execsW C X (b_jfLap ie) [some (.clo, webS hs), a1, some (.clo, lotT lot), some (.clo, .int k), some (.clo, .int p.1), some (.clo, .int p.2), x6, x7] K := by
  unfold b_jfLap
  have no : p ∉ earsF hs lot → 0 + 1 + 1 ≤ LIM ∧ K (.rt .clo (.tup [.str ⟨#[101, 97, 114]⟩, .int k]) [some (.clo, webS hs), a1, some (.clo, lotT lot), some (.clo, .int k), some (.clo, .int p.1), some (.clo, .int p.2), x6, x7]) := fun z => ⟨by decide, h2 z _⟩
  have iff := @ears_at hs lot p.1 p.2
  unfold lotT at *
  have ll := lo.le
  walk_at "w"
  rw [cmp_ninNT]
  walk_at "w"
  cases z1 : decide (p.1 ∈ lot) with
  | false =>
    simp only [Bool.not_false]
    try walk_at "w"
    exact no fun z => by rw [decide_eq_false_iff_not] at z1; exact z1 (iff.mp z).1
  | true =>
    simp only [Bool.not_true]
    try walk_at "w"
    rw [cmp_ninNT]
    try walk_at "w"
    cases z2 : decide (p.2 ∈ lot) with
    | false =>
      simp only [Bool.not_false]
      try walk_at "w"
      exact no fun z => by rw [decide_eq_false_iff_not] at z2; exact z2 (iff.mp z).2.1
    | true =>
      simp only [Bool.not_true]
      try walk_at "w"
      refine he hs lot p.1 p.2 lo p1 p2 _ _ ?_
      try walk_at "w"
      cases z3 : isEar hs lot p.1 p.2 with
      | false =>
        try walk_at "w"
        exact no fun z => by rw [(iff.mp z).2.2] at z3; cases z3
      | true =>
        try walk_at "w"
        have m : p ∈ earsF hs lot := iff.mpr ⟨of_decide_eq_true z1, of_decide_eq_true z2, z3⟩
        refine ⟨by rfl, by walk_at "l", compW_filter (fun z => !decide (z = p.1)) intD trivial (fun z hz K2 hK => ?_) ?_⟩
        · walk_at "w"
          rw [eq_cast]
          exact hK
        · try walk_at "w"
          exact h1 m _
theorem jf_w {C : CW} {ip ie : Nat} (hp : PrS (C.call ip)) (he : IsEarS (C.call ie)) : JfS (bodyW C 2 8 (b_judge_folding ip ie)) := by
  intro hs d ok n1 hd hf X Q hq
  refine ⟨rfl, ?_⟩
  show execsW C _ _ [some (.clo, webS hs), some (.clo, d), none, none, none, none, none, none] _
  unfold b_judge_folding
  have l7 := ok.le
  have fd := okD_fine hd
  walk_at "w"
  rw [o_isT fd]
  refine ⟨fine_tok fd, fine_ty fd, ifB_of (fun c => ?_) fun c => ?_⟩
  · have e : jfD hs d = formR := by cases d <;> first | rfl | cases c
    rw [e] at hq
    try walk_at "w"
    exact ⟨by decide, hq⟩
  · obtain ⟨xs, rfl⟩ : ∃ xs, d = .tup xs := by cases d <;> first | exact ⟨_, rfl⟩ | cases c
    try walk_at "w"
    rw [o_lenW]
    try walk_at "w"
    have fl := hf xs rfl
    have e1 : ((xs.length : Int) == (hs.length : Int) - 1) = decide (xs.length + 1 = hs.length) := by
      rw [Bool.eq_iff_iff, beq_iff_eq, decide_eq_true_eq]; omega
    rw [e1]
    rw [jf_tup] at hq
    cases z : decide (xs.length + 1 = hs.length) with
    | false =>
      rw [z, Bool.false_and, if_neg (by simp)] at hq
      simp only [Bool.not_false]
      try walk_at "w"
      exact ⟨by decide, hq⟩
    | true =>
      rw [z, Bool.true_and] at hq
      have z := of_decide_eq_true z
      simp only [Bool.not_true]
      try walk_at "w"
      refine ⟨by rfl, by rw [LIM_eq]; omega, compW_mapD (fun x => .bl (isPrD hs.length x)) trivial (fun x hx K hK => ?_) ?_⟩
      · walk_at "w"
        refine hp hs x (by omega) (okD_at hd x hx) (fun _ _ => at_all fl x hx) _ _ ?_
        try walk_at "w"
        exact hK
      · rw [o_allD]
        walk_at "w"
        cases y : xs.all (isPrD hs.length) with
        | false =>
          rw [y, if_neg (by simp)] at hq
          simp only [Bool.not_false]
          try walk_at "w"
          exact ⟨by decide, hq⟩
        | true =>
          rw [y, if_pos rfl] at hq
          simp only [Bool.not_true]
          obtain ⟨es, ps⟩ := prs_are y
          generalize xs.map prOf = qs at *
          subst es
          rw [List.length_map] at z
          try walk_at "w"
          rw [o_lenW]
          try walk_at "w"
          rw [Int.toNat_natCast, rngL_range]
          refine ⟨small_rng7 (by omega), by rw [LIM_eq]; omega, ?_⟩
          show optW (some (qs.map pairD)) _
          walk_at "w"
          rw [enum_prs]
          refine ⟨by rfl, ?_⟩
          refine forW_inv (e := fun (p : (Nat × Nat) × Nat) => D.tup [.int p.2, .tup [.int p.1.1, .int p.1.2]]) (fun rest π => ∃ lot y3 y4 y5 y6 y7, π = [some (.clo, webS hs), some (.clo, .tup (qs.map pairD)), some (.clo, lotT lot), y3, y4, y5, y6, y7] ∧ LotOk hs lot ∧ ∃ k rs, rest = rs.zipIdx k ∧ (∀ p ∈ rs, p.1 < hs.length ∧ p.2 < hs.length) ∧ runF hs (List.range hs.length) 0 qs = runF hs lot k rs) ?_ ?_ _ _ ⟨_, _, _, _, _, _, rfl, ⟨fun z hz => List.mem_range.mp hz, by rw [List.length_range]; exact ok.le, ok.le, fun h hh => by have := (ok.hd h hh).2.2; omega⟩, 0, qs, rfl, ps, rfl⟩
          · rintro p rest π ⟨lot, y3, y4, y5, y6, y7, rfl, lo, k, rs, er, hr, e⟩
            cases rs with
            | nil => cases er
            | cons q rs =>
              rw [List.zipIdx_cons] at er
              injection er with e0 er
              subst e0
              refine ⟨_, rfl, fun K j1 j2 j3 j4 => ?_⟩
              rw [bodyS_at]
              obtain ⟨q1, q2⟩ := hr q (List.mem_cons_self ..)
              rw [runF] at e
              refine jf_lap he lo q1 q2 (fun m y7 => ?_) fun m y7 => ?_
              · rw [if_pos m] at e
                exact j1 _ trivial ⟨without lot q.1, _, _, _, _, _, rfl, wo_ok lo, k + 1, rs, er, fun p hp => hr p (List.mem_cons_of_mem _ hp), e⟩
              · rw [if_neg m] at e
                rw [e] at hq
                exact j4 _ _ _ hq
          · rintro π ⟨lot, y3, y4, y5, y6, y7, rfl, lo, k, rs, er, hr, e⟩
            have : rs = [] := by
              cases rs with
              | nil => rfl
              | cons q rs => cases er
            subst this
            try walk_at "w"
            rw [e] at hq
            exact hq
def b_dueLap (ii : Nat) : List Sx := [.ite (.cmp .nin (.var 4) (.callz ii [.var 0, .var 2])) [.ret (.tup [.str ⟨#[101, 97, 114]⟩, .var 3])] [], .expr (.mth .remove (.var 2) [.idx (.var 4) (.int 0)])]
def b_l_due (i_l_is_pair i_l_ears_in : Nat) : List Sx := [.ite (.or (.not (.isi (.var 1) [.tup])) (.or (.cmp .ne (.blt .len [.var 1]) (.op .sub (.blt .len [.var 0]) (.int 1))) (.cmp .ne (.frl (.comp [5] (.nm 5) (.itv (.var 1)) [.not (.callz i_l_is_pair [.var 0, .var 5])] (.var 5))) (.frl (.disp []))))) [.ret (.tup [.str ⟨#[102, 111, 114, 109]⟩])] [], .set 2 (.own (.lstR (.blt .len [.var 0]))), .for_ (.tp [.nm 3, .nm 4]) (.enum (.var 1)) (b_dueLap i_l_ears_in), .ret (.non)]
theorem enum_prs2 (ps : List (Nat × Nat)) : enumL 0 (ps.map pairD) = (ps.zipIdx).map fun (p : (Nat × Nat) × Nat) => D.tup [.int p.2, pairD p.1] := enumL_map ps 0
theorem due_w {C : CW} {ip ii : Nat} (hp : PrS (C.call ip)) (hi : EinS (C.call ii)) : JfS (bodyW C 2 6 (b_l_due ip ii)) := by
  intro hs d ok n1 hd hf X Q hq
  refine ⟨rfl, ?_⟩
  show execsW C _ _ [some (.clo, webS hs), some (.clo, d), none, none, none, none] _
  unfold b_l_due
  have l7 := ok.le
  have fd := okD_fine hd
  walk_at "w"
  rw [o_isT fd]
  refine ⟨fine_tok fd, fine_ty fd, ifB_of (fun c => ?_) fun c => ?_⟩
  · have e : jfD hs d = formR := by cases d <;> first | rfl | cases c
    rw [e] at hq
    try walk_at "w"
    exact ⟨by decide, hq⟩
  · obtain ⟨xs, rfl⟩ : ∃ xs, d = .tup xs := by cases d <;> first | exact ⟨_, rfl⟩ | cases c
    try walk_at "w"
    rw [o_lenW]
    try walk_at "w"
    have fl := hf xs rfl
    have e1 : ((xs.length : Int) == (hs.length : Int) - 1) = decide (xs.length + 1 = hs.length) := by
      rw [Bool.eq_iff_iff, beq_iff_eq, decide_eq_true_eq]; omega
    rw [e1]
    rw [jf_tup] at hq
    cases z : decide (xs.length + 1 = hs.length) with
    | false =>
      rw [z, Bool.false_and, if_neg (by simp)] at hq
      simp only [Bool.not_false]
      try walk_at "w"
      exact ⟨by decide, hq⟩
    | true =>
      rw [z, Bool.true_and] at hq
      have z := of_decide_eq_true z
      simp only [Bool.not_true]
      try walk_at "w"
      refine ⟨by rfl, by rw [LIM_eq]; omega, compW_filD (fun x => !isPrD hs.length x) trivial (fun x hx K hK => ?_) ?_⟩
      · walk_at "w"
        refine hp hs x (by omega) (okD_at hd x hx) (fun _ _ => at_all fl x hx) _ _ ?_
        try walk_at "w"
        exact hK
      · try walk_at "w"
        refine ⟨by decide, ?_⟩
        rw [o_neD0 (flat_mono (flat_fil fl) (by decide)), fil_empty]
        cases y : xs.all (isPrD hs.length) with
        | false =>
          rw [y, if_neg (by simp)] at hq
          simp only [Bool.not_false]
          try walk_at "w"
          exact ⟨by decide, hq⟩
        | true =>
          rw [y, if_pos rfl] at hq
          simp only [Bool.not_true]
          obtain ⟨es, ps⟩ := prs_are y
          generalize xs.map prOf = qs at *
          subst es
          rw [List.length_map] at z
          try walk_at "w"
          rw [o_lenW]
          try walk_at "w"
          rw [Int.toNat_natCast, rngL_range]
          refine ⟨small_rng7 (by omega), by rw [LIM_eq]; omega, ?_⟩
          show optW (some (qs.map pairD)) _
          walk_at "w"
          rw [enum_prs2]
          refine ⟨by rfl, ?_⟩
          refine forW_inv (e := fun (p : (Nat × Nat) × Nat) => D.tup [.int p.2, pairD p.1]) (fun rest π => ∃ lot y3 y4 y5, π = [some (.clo, webS hs), some (.clo, .tup (qs.map pairD)), some (.own, .lst (lot.map intD)), y3, y4, y5] ∧ lot.Nodup ∧ LotOk hs lot ∧ ∃ k rs, rest = rs.zipIdx k ∧ runF hs (List.range hs.length) 0 qs = runF hs lot k rs) ?_ ?_ _ _ ⟨_, _, _, _, rfl, List.nodup_range, ⟨fun z hz => List.mem_range.mp hz, by rw [List.length_range]; exact ok.le, ok.le, fun h hh => by have := (ok.hd h hh).2.2; omega⟩, 0, qs, rfl, rfl⟩
          · rintro p rest π ⟨lot, y3, y4, y5, rfl, nd, lo, k, rs, er, e⟩
            cases rs with
            | nil => cases er
            | cons q rs =>
              rw [List.zipIdx_cons] at er
              injection er with e0 er
              subst e0
              refine ⟨_, rfl, fun K j1 j2 j3 j4 => ?_⟩
              rw [bodyS_at]
              rw [runF] at e
              unfold b_dueLap
              walk_at "w"
              refine hi .bor (.lst (lot.map intD)) hs lot (.inr rfl) rfl lo _ _ ?_
              try walk_at "w"
              rw [cmp_ninPL]
              try walk_at "w"
              by_cases m : q ∈ earsF hs lot
              · rw [if_pos m] at e
                rw [decide_eq_true m]
                simp only [Bool.not_true]
                try walk_at "w"
                rw [o_pair0]
                try walk_at "w"
                rw [o_remove nd (ears_mem m).1]
                try walk_at "w"
                exact j1 _ trivial ⟨without lot q.1, _, _, _, rfl, without_nodup nd, wo_ok lo, k + 1, rs, er, e⟩
              · rw [if_neg m] at e
                rw [e] at hq
                rw [decide_eq_false m]
                simp only [Bool.not_false]
                try walk_at "w"
                exact ⟨by decide, j4 _ _ _ hq⟩
          · rintro π ⟨lot, y3, y4, y5, rfl, nd, lo, k, rs, er, e⟩
            have : rs = [] := by
              cases rs with
              | nil => rfl
              | cons q rs => cases er
            subst this
            try walk_at "w"
            rw [e] at hq
            exact hq
end Dv
namespace Dv
open PySem (Str PyData)
open Cut
local macro_rules | `(tactic| walk_at "w") => `(tactic| simp only [x_set, x_mov, movW_own, freW_fre, x_tset, x_par, x_isub, x_aug, x_expr, x_ret, x_retN, x_ite, x_whl, x_for, x_brk, x_cont, x_pass, x_nil, x_cons, evalW, evalsW, evalOW, evalIW, lw_comp, lw_comp2, lw_disp, lw_walk, lw_bltl, lw_add, lw_rev, kw_disp, kw_comp, kw_val, evalPW, condsW, gdW_clo, gdW_bor, gdW_own, compS_at, compIS_at, comp2S_at, compKS_at, bodyS_at, testS_at, stay_refl, stay_clo, stay_bor, sto_clo, stoL, stoL_app, stoL_clo, snd_clo, List.map_append, ifB_t, ifB_f, optW_some, resW_okk, blW_bl, intW_int, bindW_nm, bindW_tp, bindWs_nil, bindWs_cons, bind_some', wipeW_nil, wipeW_cons, backAt_some, back_nil, back_cons, List.set_cons_zero, List.set_cons_succ, List.getElem?_cons_zero, List.getElem?_cons_succ, List.map_cons, List.map_nil, List.append_nil, List.nil_append, List.cons_append, List.length_cons, List.length_nil, setW_clo, setW_fre, setW_bor, setW_own, setsW_nil, setsW_cons, argK_clo, clzK_clo, clzK_fre, clzK_lse, retK_clo, retK_own, retK_fre, imm_str, imm_int, imm_bl, imm_non, imm_tup, imm_obj, imm_lst, isTok_str, isTok_int, isTok_bl, isTok_non, isTok_tup, isTok_lst, isOwn_own, isOwnL_own, true_and, and_true, if_true, if_false, o_tupleL, o_tupleT, o_listT, o_listL, o_listS, o_listS2, o_tupleS, o_lenL, o_lenT, o_lenS, o_lenS2, o_minI, o_maxI, o_iterL, o_iterT, o_iterS, o_iterS2, o_seqL, o_seqT, o_lstL, o_lstS, o_bltLL, o_bltLT, o_addI, o_subI, o_slcL, o_slcT, o_slcS, cmp_inT, cmp_inL, cmp_ninT, cmp_ninL, cmp_eqT, cmp_neT, cmp_neL, cmp_lt, cmp_gt, cmp_ge, cmp_le, cmp_eqI, cmp_neI, blt_sortS, o_eq0, o_ne0, o_ne0L])
local macro_rules | `(tactic| walk_at "m") => `(tactic| (refine compW_map ?g trivial (fun x hx K hK => ?h) ?q; case h => ((try walk_at "w"); exact hK)))
local macro_rules | `(tactic| walk_at "f") => `(tactic| (refine compW_filter ?p ?g trivial (fun x hx K hK => ?h) ?q; case h => ((try walk_at "w"); exact hK)))
local macro_rules | `(tactic| walk_at "l") => `(tactic| (first | decide | (simp only [List.length_append, List.length_map, List.length_cons, List.length_nil, List.length_range, LIM_eq]; omega)))
/-- small: may stand in a value -/
structure Sm (d : D) : Prop where
  ok : okD 1 d = true
  fl : flat 5 d = true
  ni : Nice 100 d
theorem sm_tup {xs : List D} (l : xs.length ≤ 20) (h : ∀ x ∈ xs, Sm x) : AskV (.tup xs) := by
  have fl : flat 6 (.tup xs) = true := List.all_eq_true.mpr fun x hx => (h x hx).fl
  refine ⟨ok_tup (by omega) fun x hx => (h x hx).ok, fun _ _ => fl, _, o_reprA (nice_tup (n := 100) fun x hx => (h x hx).ni) ?_ fl (by decide)⟩
  rw [LIM_eq]
  omega
theorem sm_lst {xs : List D} (l : xs.length ≤ 20) (h : ∀ x ∈ xs, Sm x) : AskV (.lst xs) := by
  have fl : flat 6 (.lst xs) = true := List.all_eq_true.mpr fun x hx => (h x hx).fl
  refine ⟨ok_lst, (fun _ e => by cases e), _, o_reprA (nice_lst (n := 100) fun x hx => (h x hx).ni) ?_ fl (by decide)⟩
  rw [LIM_eq]
  omega
def niceB (n : Nat) (d : D) : Bool := (py d).showable && PyData.strOk (py d).shown && decide ((py d).shown.length ≤ n)
theorem nice_B {n : Nat} {d : D} (h : niceB n d = true) : Nice n d := by
  unfold niceB at h
  rw [Bool.and_eq_true, Bool.and_eq_true, decide_eq_true_eq] at h
  exact ⟨h.1.1, h.1.2, h.2⟩
def smB (d : D) : Bool := okD 1 d && flat 5 d && niceB 100 d
theorem sm_B {d : D} (h : smB d = true) : Sm d := by
  unfold smB at h
  rw [Bool.and_eq_true, Bool.and_eq_true] at h
  exact ⟨h.1.1, h.1.2, nice_B h.2⟩
def askB (d : D) : Bool := okD 2 d && (!isTd d || flat 6 d) && match blt .repr [d] [] with
  | .ok (.str _) [] => true
  | _ => false
theorem ask_B {d : D} (h : askB d = true) : AskV d := by
  unfold askB at h
  rw [Bool.and_eq_true, Bool.and_eq_true] at h
  refine ⟨h.1.1, fun xs e => ?_, ?_⟩
  · subst e
    simpa [isTd] using h.1.2
  · have h := h.2
    split at h
    · rename_i s e
      exact ⟨s, e⟩
    · cases h
def ODD2 : List D := [.non, .bl true, .bl false, .int 0, .int 1, .int (-1), .int 100, .int (10 ^ 39), .str ⟨#[97]⟩, .str ⟨#[65]⟩, .str ⟨#[]⟩, .str ⟨#[110, 105, 110, 101, 108, 101, 116, 116, 101]⟩, .str ⟨#[97, 49]⟩, .tup [], .tup [.str ⟨#[97]⟩], .tup [.str ⟨#[98]⟩, .str ⟨#[97]⟩], .tup [.str ⟨#[97]⟩, .str ⟨#[97]⟩],
  .lst [.str ⟨#[97]⟩], .lst [], .dct (mkDict []), .tup [.int 0], .tup [.int 1, .int 2], .tup [.bl true], .tup [.int (-1)], .tup [.int 100], .tup [.str ⟨#[97]⟩, .str ⟨#[98]⟩], .lst [.str ⟨#[97]⟩, .str ⟨#[98]⟩], .tup [.tup [.int 0], .int 1], .tup [.tup [], .int 1], .str ⟨#[10]⟩, .str ⟨#[98, 10]⟩]
theorem odd2_ask : ∀ d ∈ ODD2, AskV d := fun d hd => ask_B (List.all_eq_true.mp (show ODD2.all askB = true by decide +kernel) d hd)
def b_l_odd (i_l_choice_of : Nat) : List Sx := [.set 1 (.frl (.disp [.non, .bl true, .bl false, .int 0, .int 1, .neg (.int 1), .int 100, .op .pow (.int 10) (.int 39), .str ⟨#[97]⟩, .str ⟨#[65]⟩, .str ⟨#[]⟩, .str ⟨#[110, 105, 110, 101, 108, 101, 116, 116, 101]⟩, .str ⟨#[97, 49]⟩, .tup [], .tup [.str ⟨#[97]⟩], .tup [.str ⟨#[98]⟩, .str ⟨#[97]⟩], .tup [.str ⟨#[97]⟩, .str ⟨#[97]⟩]])), .set 1 (.op .add (.var 1) (.frl (.disp [.frl (.disp [.str ⟨#[97]⟩]), .frl (.disp []), .frd (.disp []), .tup [.int 0], .tup [.int 1, .int 2], .tup [.bl true], .tup [.neg (.int 1)], .tup [.int 100], .tup [.str ⟨#[97]⟩, .str ⟨#[98]⟩], .frl (.disp [.str ⟨#[97]⟩, .str ⟨#[98]⟩]), .tup [.tup [.int 0], .int 1], .tup [.tup [], .int 1], .str ⟨#[10]⟩, .str ⟨#[98, 10]⟩]))), .ret (.callz i_l_choice_of [.var 0, .var 1])]
def OddS (w : CallW) : Prop := Draws w [(.clo, .obj 1)] fun r => r ∈ ODD2
theorem o_pow39 : op2 .pow (.int 10) (.int 39) [] = .ok (.int (10 ^ 39)) [] := by
  show (if (0 : Int) ≤ 39 ∧ (39 : Int) ≤ 1000000 ∧ (10 : Int).natAbs < 18446744073709551616 then Res.ok (D.int (10 ^ (39 : Int).toNat)) ([] : Sto) else .bad) = _
  rw [if_pos (by decide)]
  rfl
theorem oddv_w {C : CW} {ic : Nat} (hc : ChoS (C.call ic)) : OddS (bodyW C 1 2 (b_l_odd ic)) := by
  intro X Q hq
  refine ⟨rfl, ?_⟩
  show execsW C _ _ [some (.clo, .obj 1), none] _
  unfold b_l_odd
  walk_at "w"
  rw [o_pow39]
  try walk_at "w"
  repeat (refine And.intro (by decide) ?_)
  rw [o_cat (Nat.le_of_ble_eq_true rfl)]
  try walk_at "w"
  refine hc .clo ODD2 (.inl rfl) (by simp [ODD2]) (Nat.le_of_ble_eq_true rfl) _ _ fun r hr => ?_
  exact hq r hr
theorem sm_tup1 {xs : List D} (l : xs.length ≤ 3) (h : ∀ x ∈ xs, fine x = true ∧ flat 4 x = true ∧ Nice 12 x) : Sm (.tup xs) :=
  ⟨ok_tup (n := 0) (by omega) fun x hx => (h x hx).1, List.all_eq_true.mpr fun x hx => (h x hx).2.1, (nice_tup (n := 12) fun x hx => (h x hx).2.2).mono (by omega)⟩
theorem sm_lst1 {xs : List D} (l : xs.length ≤ 3) (h : ∀ x ∈ xs, fine x = true ∧ flat 4 x = true ∧ Nice 12 x) : Sm (.lst xs) :=
  ⟨ok_lst, List.all_eq_true.mpr fun x hx => (h x hx).2.1, (nice_lst (n := 12) fun x hx => (h x hx).2.2).mono (by omega)⟩
def tinyB (d : D) : Bool := fine d && flat 4 d && niceB 12 d
def Tiny (d : D) : Prop := fine d = true ∧ flat 4 d = true ∧ Nice 12 d
theorem tiny_B {d : D} (h : tinyB d = true) : Tiny d := by
  unfold tinyB at h
  rw [Bool.and_eq_true, Bool.and_eq_true] at h
  exact ⟨h.1.1, h.1.2, nice_B h.2⟩
theorem tiny_int : ∀ i : Nat, i < 8 → Tiny (.int i) := fun i hi => tiny_B (List.all_eq_true.mp (show (List.range 8).all (fun i => tinyB (.int (i : Nat))) = true by decide +kernel) i (List.mem_range.mpr hi))
theorem tiny_two {a b : D} (ha : Tiny a) (hb : Tiny b) : Sm (.tup [a, b]) := sm_tup1 (by simp) fun x hx => by
  (simp only [List.mem_cons, List.not_mem_nil, or_false] at hx)
  rcases hx with rfl | rfl
  · exact ha
  · exact hb
def oddPairs (a b c d n u1 u2 u3 : Nat) : List D := [.tup [.int u1, .int u2], .tup [.int b, .int a], .lst [.int a, .int b], .tup [.int a, .int n], .tup [.int a, .bl true],
  .tup [.int a, .non], .tup [.str ⟨#[48]⟩, .int b], .tup [.lst [.int 0], .int b], .tup [.int a, .int (-1)], .tup [.int n, .int b],
  .tup [.int (-1), .int b], .tup [.int a, .int b, .int 0], .non, .tup [.int c, .int d], .tup [.int a, .int u3]]
theorem odd_pairs {a b c d n u1 u2 u3 : Nat} (ha : a < 8) (hb : b < 8) (hc : c < 8) (hd : d < 8) (hn : n < 8) (h1 : u1 < 8) (h2 : u2 < 8) (h3 : u3 < 8) : ∀ x ∈ oddPairs a b c d n u1 u2 u3, Sm x := by
  have t := tiny_int
  have tm : Tiny (.int (-1)) := tiny_B (by decide +kernel)
  have tb : Tiny (.bl true) := tiny_B (by decide +kernel)
  have tn : Tiny .non := tiny_B (by decide +kernel)
  have ts : Tiny (.str ⟨#[48]⟩) := tiny_B (by decide +kernel)
  have tl : Tiny (.lst [.int 0]) := tiny_B (by decide +kernel)
  have t0 : Tiny (.int 0) := tiny_B (by decide +kernel)
  intro x hx
  unfold oddPairs at hx
  (simp only [List.mem_cons, List.not_mem_nil, or_false] at hx)
  rcases hx with rfl | rfl | rfl | rfl | rfl | rfl | rfl | rfl | rfl | rfl | rfl | rfl | rfl | rfl | rfl
  · exact tiny_two (t _ h1) (t _ h2)
  · exact tiny_two (t _ hb) (t _ ha)
  · refine sm_lst1 (by simp) fun x hx => ?_
    (simp only [List.mem_cons, List.not_mem_nil, or_false] at hx)
    rcases hx with rfl | rfl
    · exact t _ ha
    · exact t _ hb
  · exact tiny_two (t _ ha) (t _ hn)
  · exact tiny_two (t _ ha) tb
  · exact tiny_two (t _ ha) tn
  · exact tiny_two ts (t _ hb)
  · exact tiny_two tl (t _ hb)
  · exact tiny_two (t _ ha) tm
  · exact tiny_two (t _ hn) (t _ hb)
  · exact tiny_two tm (t _ hb)
  · refine sm_tup1 (by simp) fun x hx => ?_
    (simp only [List.mem_cons, List.not_mem_nil, or_false] at hx)
    rcases hx with rfl | rfl | rfl
    · exact t _ ha
    · exact t _ hb
    · exact t0
  · exact sm_B (by decide +kernel)
  · exact tiny_two (t _ hc) (t _ hd)
  · exact tiny_two (t _ ha) (t _ h3)
def bentA (i_l_choice_of i_l_odd : Nat) : Sx := .ite (.cmp .eq (.var 2) (.tup [])) [.ret (.callz i_l_choice_of [.var 0, .frl (.disp [.tup [.tup [.int 0, .int 0]], .frl (.disp []), .tup [.tup [.int 0, .int 1]], .callz i_l_odd [.var 0]])])] []
def bentB (i_l_pick : Nat) : List Sx := [.par [3, 4] [.callz i_l_pick [.var 0, .blt .len [.var 2]], .blt .len [.var 1]], .set 5 (.idx (.var 2) (.var 3)), .set 6 (.frl (.disp [.tup [.callz i_l_pick [.var 0, .var 4], .callz i_l_pick [.var 0, .var 4]], .rev (.var 5), .blt .list [.var 5], .tup [.idx (.var 5) (.int 0), .var 4], .tup [.idx (.var 5) (.int 0), .bl true]])), .set 6 (.op .add (.var 6) (.frl (.disp [.tup [.idx (.var 5) (.int 0), .non], .tup [.str ⟨#[48]⟩, .idx (.var 5) (.int 1)], .tup [.frl (.disp [.int 0]), .idx (.var 5) (.int 1)], .tup [.idx (.var 5) (.int 0), .neg (.int 1)], .tup [.var 4, .idx (.var 5) (.int 1)]]))), .set 6 (.op .add (.var 6) (.frl (.disp [.tup [.neg (.int 1), .idx (.var 5) (.int 1)], .op .add (.var 5) (.tup [.int 0]), .non, .idx (.var 2) (.int 0), .tup [.idx (.var 5) (.int 0), .callz i_l_pick [.var 0, .var 4]]])))]
def bentC (i_l_choice_of : Nat) : List Sx := [.set 7 (.frl (.comp [8] (.nm 8) (.itv (.var 6)) [] (.op .add (.op .add (.slc (.var 2) none (some (.var 3))) (.tup [.var 8])) (.slc (.var 2) (some (.op .add (.var 3) (.int 1))) none)))), .set 7 (.op .add (.var 7) (.frl (.disp [.rev (.var 2), .op .add (.slc (.var 2) none (some (.var 3))) (.slc (.var 2) (some (.op .add (.var 3) (.int 1))) none), .blt .list [.var 2], .op .add (.var 2) (.tup [.var 5]), .op .add (.slc (.var 2) (some (.int 1)) none) (.slc (.var 2) none (some (.int 1)))]))), .ret (.callz i_l_choice_of [.var 0, .var 7])]
def b_l_bent (ic io ip : Nat) : List Sx := bentA ic io :: (bentB ip ++ bentC ic)
section
variable {C : CW} {X : Xc} {K : FlW → Prop} {ic io ip : Nat}
theorem o_eqPT0 {ps : List (Nat × Nat)} {st : Sto} : cmp2 .eq (.tup (ps.map pairD)) (.tup []) st = some ps.isEmpty := by
  show ((data st (.tup (ps.map pairD))).bind fun x => (data st (.tup [])).map fun y => eqD x y) = _
  have f : flat 40 (.tup (ps.map pairD)) = true := flat_pairs (n := 37) (ps := ps)
  rw [data_flat f, data_flat (d := .tup []) rfl]
  cases ps <;> rfl
theorem bent_b (hp : C.call ip = pickW) {hs : List (List Str)} {ps : List (Nat × Nat)} (l7 : hs.length ≤ 7) (h1 : 1 ≤ hs.length) (pl : ps.length ≤ 7) (ne : ps ≠ []) (pb : ∀ p ∈ ps, p.1 < 8 ∧ p.2 < 8) {x3 x4 x5 x6 x7 x8 : Option (Kd × D)}
    (h : ∀ (n a b : Nat) (L : List D), a < 8 → b < 8 → (∀ x ∈ L, Sm x) → L.length = 15 → K (.nx [some (.clo, .obj 1), some (.clo, webS hs), some (.clo, .tup (ps.map pairD)), some (.clo, .int n), some (.clo, .int hs.length), some (.clo, .tup [.int a, .int b]), some (.clo, .lst L), x7, x8])) :
    execsW C X (bentB ip) [some (.clo, .obj 1), some (.clo, webS hs), some (.clo, .tup (ps.map pairD)), x3, x4, x5, x6, x7, x8] K := by
  unfold bentB
  walk_at "w"
  rw [List.length_map]
  refine pick_w hp (by omega) fun v v0 v1 v2 => ?_
  obtain ⟨n, rfl, p, hn, hm⟩ := len_any v0 v1 v2 ne
  try walk_at "w"
  rw [o_lenW]
  try walk_at "w"
  rw [o_idxT (x := pairD p) (by rw [List.getElem?_map, hn]; rfl)]
  obtain ⟨a, b⟩ := p
  obtain ⟨pa, pb'⟩ := pb _ hm
  show resW (Res.ok (D.tup [.int a, .int b]) []) _
  walk_at "w"
  have pk : ∀ {v : Int}, 0 ≤ v → (2 ≤ (hs.length : Int) → v < hs.length) → ((hs.length : Int) < 2 → v = 0) → ∃ u : Nat, v = u ∧ u < 8 := fun {v} a b c => ⟨v.toNat, by omega, by
    by_cases z : 2 ≤ (hs.length : Int)
    · have := b z; omega
    · have := c (by omega); omega⟩
  refine pick_w hp (by omega) fun w w0 w1 w2 => ?_
  obtain ⟨u1, rfl, hu1⟩ := pk w0 w1 w2
  try walk_at "w"
  refine pick_w hp (by omega) fun w w0 w1 w2 => ?_
  obtain ⟨u2, rfl, hu2⟩ := pk w0 w1 w2
  try walk_at "w"
  obtain ⟨q, r, hq⟩ := List.exists_cons_of_ne_nil ne
  have e10 : idx (.tup (ps.map pairD)) (.int 0) [] = .ok (.tup [.int q.1, .int q.2]) [] := by
    rw [hq]
    exact o_idx0T
  obtain ⟨qa, qb⟩ := pb q (by rw [hq]; exact List.mem_cons_self ..)
  simp only [o_idx0T, o_idx1T, o_revT, resW_okk, e10]
  repeat (refine And.intro (by decide) ?_)
  rw [o_catT (Nat.le_of_ble_eq_true rfl)]
  simp only [resW_okk]
  refine pick_w hp (by omega) fun w w0 w1 w2 => ?_
  obtain ⟨u3, rfl, hu3⟩ := pk w0 w1 w2
  try walk_at "w"
  repeat (refine And.intro (by decide) ?_)
  rw [o_cat (Nat.le_of_ble_eq_true rfl)]
  try walk_at "w"
  exact h n a b (oddPairs a b q.1 q.2 hs.length u1 u2 u3) pa pb' (odd_pairs pa pb' qa qb (by omega) hu1 hu2 hu3) rfl
theorem cut_in {ps : List (Nat × Nat)} {lo hi : Option Int} (pb : ∀ p ∈ ps, p.1 < 8 ∧ p.2 < 8) : ∀ x ∈ cutL (ps.map pairD) lo hi, Sm x := fun x hx => by
  obtain ⟨p, hp, rfl⟩ := List.mem_map.mp (cut_sub.subset hx)
  obtain ⟨p1, p2⟩ := pb p hp
  exact tiny_two (tiny_int _ p1) (tiny_int _ p2)
theorem pd_in {ps : List (Nat × Nat)} (pb : ∀ p ∈ ps, p.1 < 8 ∧ p.2 < 8) : ∀ x ∈ ps.map pairD, Sm x := fun x hx => by
  obtain ⟨p, hp, rfl⟩ := List.mem_map.mp hx
  obtain ⟨p1, p2⟩ := pb p hp
  exact tiny_two (tiny_int _ p1) (tiny_int _ p2)
theorem in_app {α : Type} {P : α → Prop} {a b : List α} (ha : ∀ x ∈ a, P x) (hb : ∀ x ∈ b, P x) : ∀ x ∈ a ++ b, P x := fun x hx => (List.mem_append.mp hx).elim (ha x) (hb x)
theorem in_one {α : Type} {P : α → Prop} {a : α} (h : P a) : ∀ x ∈ [a], P x := fun x hx => by rw [List.mem_singleton.mp hx]; exact h
theorem bent_c (hc : ChoS (C.call ic)) {ps : List (Nat × Nat)} (pl : ps.length ≤ 7) (pb : ∀ p ∈ ps, p.1 < 8 ∧ p.2 < 8) {n a b : Nat} {L : List D} (ha : a < 8) (hb : b < 8) (hL : ∀ x ∈ L, Sm x) (lL : L.length = 15) {x1 x4 x7 x8 : Option (Kd × D)}
    (h : ∀ r π, AskV r → K (.rt .clo r π)) :
    execsW C X (bentC ic) [some (.clo, .obj 1), x1, some (.clo, .tup (ps.map pairD)), some (.clo, .int n), x4, some (.clo, .tup [.int a, .int b]), some (.clo, .lst L), x7, x8] K := by
  unfold bentC
  have cl : ∀ lo hi, (cutL (ps.map pairD) lo hi).length ≤ 7 := fun lo hi => by
    have := (cut_sub (xs := ps.map pairD) (lo := lo) (hi := hi)).length_le
    rw [List.length_map] at this
    omega
  have ci : ∀ {lo hi}, ∀ x ∈ cutL (ps.map pairD) lo hi, Sm x := cut_in pb
  have pi := pd_in pb
  have lp : (ps.map pairD).length ≤ 7 := by rw [List.length_map]; exact pl
  walk_at "w"
  refine ⟨by rfl, by rw [lL]; decide, compW_mapD (fun x => .tup (cutL (ps.map pairD) none (some n) ++ [x] ++ cutL (ps.map pairD) (some ((n : Int) + 1)) none)) trivial (fun x hx K2 hK => ?_) ?_⟩
  · walk_at "w"
    refine And.intro (by decide) ?_
    have c1 := cl none (some n)
    have c2 := cl (some ((n : Int) + 1)) none
    rw [o_catT (by rw [List.length_singleton, LIM_eq]; omega)]
    try walk_at "w"
    rw [o_catT (by rw [List.length_append, List.length_singleton, LIM_eq]; omega)]
    try walk_at "w"
    exact hK
  · have c1 := cl none (some n)
    have c2 := cl (some ((n : Int) + 1)) none
    have c3 := cl (some 1) none
    have c4 := cl none (some 1)
    try walk_at "w"
    simp only [o_revT, resW_okk]
    rw [o_catT (by rw [LIM_eq]; omega)]
    simp only [resW_okk]
    refine And.intro (by decide) ?_
    rw [o_catT (by rw [List.length_singleton, LIM_eq]; omega)]
    simp only [resW_okk]
    rw [o_catT (by rw [LIM_eq]; omega)]
    simp only [resW_okk]
    refine And.intro (by decide) ?_
    rw [o_cat (by rw [List.length_map, lL]; exact Nat.le_of_ble_eq_true rfl)]
    simp only [resW_okk]
    refine hc .clo _ (.inl rfl) (by simp) (by simp [lL]) _ _ fun r hr => h r _ ?_
    rcases List.mem_append.mp hr with z | z
    · obtain ⟨x, hx, rfl⟩ := List.mem_map.mp z
      exact sm_tup (by rw [List.length_append, List.length_append, List.length_singleton]; omega) (in_app (in_app ci (in_one (hL x hx))) ci)
    · simp only [List.mem_cons, List.not_mem_nil, or_false] at z
      rcases z with rfl | rfl | rfl | rfl | rfl
      · exact sm_tup (by rw [List.length_reverse]; omega) fun x hx => pi x (List.mem_reverse.mp hx)
      · exact sm_tup (by rw [List.length_append]; omega) (in_app ci ci)
      · exact sm_lst (by omega) pi
      · exact sm_tup (by rw [List.length_append, List.length_singleton]; omega) (in_app pi (in_one (tiny_two (tiny_int _ ha) (tiny_int _ hb))))
      · exact sm_tup (by rw [List.length_append]; omega) (in_app ci ci)
def BentS (w : CallW) : Prop := ∀ (hs : List (List Str)) (ps : List (Nat × Nat)), hs.length ≤ 7 → 1 ≤ hs.length → ps.length ≤ 7 → (∀ p ∈ ps, p.1 < 8 ∧ p.2 < 8) → Draws w [(.clo, .obj 1), (.clo, webS hs), (.clo, .tup (ps.map pairD))] AskV
theorem bent_w (hc : ChoS (C.call ic)) (ho : OddS (C.call io)) (hp : C.call ip = pickW) : BentS (bodyW C 3 9 (b_l_bent ic io ip)) := by
  intro hs ps l7 h1 pl pb X Q hq
  refine ⟨rfl, ?_⟩
  show execsW C _ _ [some (.clo, .obj 1), some (.clo, webS hs), some (.clo, .tup (ps.map pairD)), none, none, none, none, none, none] _
  unfold b_l_bent bentA
  walk_at "w"
  refine And.intro (by decide) ?_
  rw [o_eqPT0]
  cases ps with
  | nil =>
    try walk_at "w"
    repeat (refine And.intro (by decide) ?_)
    refine ho _ _ fun r hr => ?_
    try walk_at "w"
    repeat (refine And.intro (by decide) ?_)
    refine hc .clo _ (.inl rfl) (by simp) (by simp) _ _ fun r2 hr2 => ?_
    refine hq _ ?_
    simp only [List.mem_cons, List.not_mem_nil, or_false] at hr2
    rcases hr2 with rfl | rfl | rfl | rfl
    · exact ask_B (by decide +kernel)
    · exact ask_B (by decide +kernel)
    · exact ask_B (by decide +kernel)
    · exact odd2_ask _ hr
  | cons q qs =>
    try walk_at "w"
    rw [xs_app]
    refine bent_b hp l7 h1 pl (by simp) pb fun n a b L ha hb hL lL => ?_
    dsimp only
    refine bent_c hc pl pb ha hb hL lL fun r π ar => ?_
    exact hq r ar
end
end Dv
namespace Dv
open PySem (Str PyData)
open Cut
local macro_rules | `(tactic| walk_at "w") => `(tactic| simp only [x_set, x_mov, movW_own, freW_fre, x_tset, x_par, x_isub, x_aug, x_expr, x_ret, x_retN, x_ite, x_whl, x_for, x_brk, x_cont, x_pass, x_nil, x_cons, evalW, evalsW, evalOW, evalIW, lw_comp, lw_comp2, lw_disp, lw_walk, lw_bltl, lw_add, lw_rev, kw_disp, kw_comp, kw_val, evalPW, condsW, gdW_clo, gdW_bor, gdW_own, compS_at, compIS_at, comp2S_at, compKS_at, bodyS_at, testS_at, stay_refl, stay_clo, stay_bor, sto_clo, stoL, stoL_app, stoL_clo, snd_clo, List.map_append, ifB_t, ifB_f, optW_some, resW_okk, blW_bl, intW_int, bindW_nm, bindW_tp, bindWs_nil, bindWs_cons, bind_some', wipeW_nil, wipeW_cons, backAt_some, back_nil, back_cons, List.set_cons_zero, List.set_cons_succ, List.getElem?_cons_zero, List.getElem?_cons_succ, List.map_cons, List.map_nil, List.append_nil, List.nil_append, List.cons_append, List.length_cons, List.length_nil, setW_clo, setW_fre, setW_bor, setW_own, setsW_nil, setsW_cons, argK_clo, clzK_clo, clzK_fre, clzK_lse, retK_clo, retK_own, retK_fre, imm_str, imm_int, imm_bl, imm_non, imm_tup, imm_obj, imm_lst, isTok_str, isTok_int, isTok_bl, isTok_non, isTok_tup, isTok_lst, isOwn_own, isOwnL_own, true_and, and_true, if_true, if_false, o_tupleL, o_tupleT, o_listT, o_listL, o_listS, o_listS2, o_tupleS, o_lenL, o_lenT, o_lenS, o_lenS2, o_minI, o_maxI, o_iterL, o_iterT, o_iterS, o_iterS2, o_seqL, o_seqT, o_lstL, o_lstS, o_bltLL, o_bltLT, o_addI, o_subI, o_slcL, o_slcT, o_slcS, cmp_inT, cmp_inL, cmp_ninT, cmp_ninL, cmp_eqT, cmp_neT, cmp_neL, cmp_lt, cmp_gt, cmp_ge, cmp_le, cmp_eqI, cmp_neI, blt_sortS, o_eq0, o_ne0, o_ne0L])
local macro_rules | `(tactic| walk_at "m") => `(tactic| (refine compW_map ?g trivial (fun x hx K hK => ?h) ?q; case h => ((try walk_at "w"); exact hK)))
local macro_rules | `(tactic| walk_at "f") => `(tactic| (refine compW_filter ?p ?g trivial (fun x hx K hK => ?h) ?q; case h => ((try walk_at "w"); exact hK)))
local macro_rules | `(tactic| walk_at "l") => `(tactic| (first | decide | (simp only [List.length_append, List.length_map, List.length_cons, List.length_nil, List.length_range, LIM_eq]; omega)))
/-- a run to the end makes the web fold -/
theorem run_fd {hs : List (List Str)} : ∀ {ps : List (Nat × Nat)} {lot : List Nat} {k : Nat}, lot.Nodup → lot.length = ps.length + 1 → runF hs lot k ps = none → Fd hs lot
  | [], lot, k, nd, l, _ => .one lot (by simp at l; omega)
  | p :: ps, lot, k, nd, l, e => by
    rw [runF] at e
    split at e
    · rename_i m
      have wl := without_len nd (ears_mem m).1
      rw [List.length_cons] at l
      exact .step lot p m (run_fd (without_nodup nd) (by omega) e)
    · cases e
theorem fd_folds {hs : List (List Str)} : ∀ {n : Nat} {lot : List Nat}, lot.Nodup → Fd hs lot → foldAll hs n lot ≠ none
  | 0, _, _, _ => by simp [foldAll]
  | n + 1, lot, nd, f => by
    unfold foldAll
    split
    · simp
    · rename_i l
      obtain ⟨q, r, e⟩ := List.exists_cons_of_ne_nil (fd_more f (by omega))
      have hq : q ∈ earsF hs lot := by rw [e]; exact List.mem_cons_self ..
      rw [e]
      simp only [ne_eq, Option.map_eq_none_iff]
      exact fd_folds (without_nodup nd) (fd_ear f nd hq)
theorem run_along {hs : List (List Str)} : ∀ {ps : List (Nat × Nat)} {lot : List Nat} {k : Nat}, Along hs lot ps → runF hs lot k ps = none
  | [], _, _, _ => rfl
  | p :: ps, lot, k, h => by
    rw [runF, if_pos h.1]
    exact run_along h.2
/-- pairs of unlike numbers -/
def PrsOk (n : Nat) (ps : List (Nat × Nat)) : Prop := ∀ p ∈ ps, p.1 < n ∧ p.2 < n ∧ p.1 ≠ p.2
theorem pr_pair {n : Nat} {p : Nat × Nat} (h : p.1 < n ∧ p.2 < n ∧ p.1 ≠ p.2) : isPrD n (pairD p) = true := by
  unfold isPrD pairD
  obtain ⟨h1, h2, h3⟩ := h
  simp
  omega
theorem of_pairD (p : Nat × Nat) : prOf (pairD p) = p := by
  obtain ⟨a, b⟩ := p
  show ((a : Int).toNat, (b : Int).toNat) = _
  simp
theorem jf_pairs {hs : List (List Str)} {ps : List (Nat × Nat)} (h : PrsOk hs.length ps) (l : ps.length + 1 = hs.length) : jfD hs (.tup (ps.map pairD)) = earR (runF hs (List.range hs.length) 0 ps) := by
  rw [jf_tup]
  have e1 : (ps.map pairD).map prOf = ps := by
    rw [List.map_map]
    have : prOf ∘ pairD = id := funext of_pairD
    rw [this, List.map_id]
  have e2 : (ps.map pairD).all (isPrD hs.length) = true := List.all_eq_true.mpr fun x hx => by
    obtain ⟨p, hp, rfl⟩ := List.mem_map.mp hx
    exact pr_pair (h p hp)
  rw [List.length_map, e1, e2, decide_eq_true l]
  rfl
theorem ask_pairs {ps : List (Nat × Nat)} (l : ps.length ≤ 7) (h : ∀ p ∈ ps, p.1 < 8 ∧ p.2 < 8) : AskV (.tup (ps.map pairD)) := sm_tup (by rw [List.length_map]; omega) (pd_in h)
section
variable {C : CW} {X : Xc} {K : FlW → Prop} {iw ilf idf ip ib io ij id_ : Nat}
theorem nice_jf {hs : List (List Str)} {d : D} (l : hs.length ≤ 7) : Nice 2000 (jfD hs d) ∧ flat 3 (jfD hs d) = true := by
  have f : Nice 2000 formR ∧ flat 3 formR = true := ⟨(nice_B (n := 60) (d := formR) (by decide +kernel)).mono (by decide), rfl⟩
  cases d with
  | tup xs =>
    rw [jf_tup]
    split
    · rename_i c
      rw [Bool.and_eq_true, decide_eq_true_eq] at c
      cases e : runF hs (List.range hs.length) 0 (xs.map prOf) with
      | none => exact ⟨nice_none.mono (by decide), rfl⟩
      | some k =>
        have hk : ∀ (ps : List (Nat × Nat)) (lot : List Nat) (j k : Nat), runF hs lot j ps = some k → k < j + ps.length := by
          intro ps
          induction ps with
          | nil => exact fun _ _ _ e => by cases e
          | cons p ps ih =>
            intro lot j k e
            rw [runF] at e
            rw [List.length_cons]
            split at e
            · have := ih _ _ _ e; omega
            · cases e; omega
        have hk := hk _ _ _ _ e
        rw [List.length_map] at hk
        have : ∀ i < 8, Nice 60 (earR (some i)) := fun i hi => nice_B (List.all_eq_true.mp (show (List.range 8).all (fun i => niceB 60 (earR (some i))) = true by decide +kernel) i (List.mem_range.mpr hi))
        exact ⟨(this k (by omega)).mono (by decide), rfl⟩
    · exact f
  | _ => exact f
def e14in (ij id_ : Nat) : List Sx := [.set 10 (.blt .repr [.var 9]), .ite (.or (.cmp .ne (.blt .repr [.callz ij [.var 3, .var 9]]) (.blt .repr [.callz id_ [.var 3, .var 9]])) (.cmp .ne (.blt .repr [.var 9]) (.var 10))) [.ret (.bl false)] []]
def e14pk (ip : Nat) : List Sx := [.set 8 (.callz ip [.var 1, .var 4]), .set 6 (.op .add (.var 6) (.tup [.tup [.var 8, .op .mod (.op .add (.op .add (.var 8) (.int 1)) (.callz ip [.var 1, .op .sub (.var 4) (.int 1)])) (.var 4)]]))]
def e14a (iw ilf : Nat) : List Sx := [.set 3 (.callz iw [.var 1, .int 8]), .par [4, 5] [.blt .len [.var 3], .callz ilf [.var 3]]]
def e14b (idf ip : Nat) : List Sx := [.set 6 (.ite (.cmp .isn (.var 5) (.non)) (.callz idf [.var 1, .var 3]) (.tup [])), .ite (.cmp .is (.var 5) (.non)) [.for_ (.nm 7) (.rng [.op .sub (.var 4) (.int 1)]) (e14pk ip)] []]
def e14c (ib io ij id_ : Nat) : List Sx := [.for_ (.nm 9) (.itv (.tup [.var 6, .callz ib [.var 1, .var 3, .var 6], .callz ib [.var 1, .var 3, .var 6], .callz io [.var 1]])) (e14in ij id_)]
def e14d (ij : Nat) : List Sx := [.ite (.or (.and (.cmp .isn (.var 5) (.non)) (.cmp .isn (.callz ij [.var 3, .var 6]) (.non))) (.and (.cmp .is (.var 5) (.non)) (.cmp .is (.callz ij [.var 3, .var 6]) (.non)))) [.ret (.bl false)] []]
def e14lap (iw ilf idf ip ib io ij id_ : Nat) : List Sx := e14a iw ilf ++ (e14b idf ip ++ (e14c ib io ij id_ ++ e14d ij))
def e14 (iw ilf idf ip ib io ij id_ : Nat) : List Sx := [.for_ (.nm 2) (.rng [.int 6]) (e14lap iw ilf idf ip ib io ij id_), .ret (.bl true)]
theorem w14_in (hj : JfS (C.call ij)) (hd : JfS (C.call id_)) {hs : List (List Str)} (ok : WOk hs) (n1 : 1 ≤ hs.length) {d : D} (a : AskV d) {a0 a1 a2 a4 a5 a6 a7 a8 x10 : Option (Kd × D)}
    (h : ∀ y, K (.nx [a0, a1, a2, some (.clo, webS hs), a4, a5, a6, a7, a8, some (.clo, d), y])) :
    execsW C X (e14in ij id_) [a0, a1, a2, some (.clo, webS hs), a4, a5, a6, a7, a8, some (.clo, d), x10] K := by
  unfold e14in
  obtain ⟨m1, m2⟩ := nice_jf (hs := hs) (d := d) ok.le
  obtain ⟨s, es⟩ := a.rp
  walk_at "w"
  rw [es]
  try walk_at "w"
  refine hj hs d ok n1 a.ok a.fl _ _ ?_
  try walk_at "w"
  rw [o_reprA m1 (by decide) m2 (by decide)]
  try walk_at "w"
  refine hd hs d ok n1 a.ok a.fl _ _ ?_
  try walk_at "w"
  rw [o_reprA m1 (by decide) m2 (by decide)]
  try walk_at "w"
  rw [o_neStr, decide_eq_true rfl]
  simp only [Bool.not_true]
  try walk_at "w"
  rw [o_neStr, decide_eq_true rfl]
  try walk_at "w"
  exact h _
theorem w14_pk (hp : C.call ip = pickW) {n : Nat} (n2 : 2 ≤ n) (n7 : n ≤ 7) {a0 a2 a3 a5 x7 x8 a9 a10 : Option (Kd × D)} {ps : List (Nat × Nat)} (pl : ps.length ≤ 10)
    (h : ∀ p y8, (p.1 < n ∧ p.2 < n ∧ p.1 ≠ p.2) → K (.nx [a0, some (.clo, .obj 1), a2, a3, some (.clo, .int n), a5, some (.clo, .tup ((ps ++ [p]).map pairD)), x7, y8, a9, a10])) :
    execsW C X (e14pk ip) [a0, some (.clo, .obj 1), a2, a3, some (.clo, .int n), a5, some (.clo, .tup (ps.map pairD)), x7, x8, a9, a10] K := by
  unfold e14pk
  walk_at "w"
  refine pick_w hp (by omega) fun v v0 v1 v2 => ?_
  have v1 := v1 (by omega)
  obtain ⟨x, rfl⟩ : ∃ x : Nat, v = x := ⟨v.toNat, by omega⟩
  try walk_at "w"
  refine pick_w hp (by omega) fun u u0 u1 u2 => ?_
  obtain ⟨y, rfl⟩ : ∃ y : Nat, u = y := ⟨u.toNat, by omega⟩
  try walk_at "w"
  have em : op2 .mod (.int ((x : Int) + 1 + y)) (.int n) [] = .ok (.int (((x + 1 + y) % n : Nat) : Int)) [] := by
    show (if (n : Int) ≠ 0 then Res.ok (D.int (fm ((x : Int) + 1 + y) n)) ([] : Sto) else .bad) = _
    rw [if_pos (by omega)]
    unfold fm
    rw [if_pos (by omega)]
    simp
  rw [em]
  try walk_at "w"
  repeat (refine And.intro (by decide) ?_)
  rw [o_catT (by rw [List.length_map, List.length_singleton, LIM_eq]; omega)]
  try walk_at "w"
  have y1 : y < n - 1 := by
    by_cases z : 2 ≤ (n : Int) - 1
    · have := u1 z; omega
    · have := u2 (by omega); omega
  have hx : x < n := by omega
  have := h (x, (x + 1 + y) % n) (some (.clo, .int x)) ⟨hx, Nat.mod_lt _ (by omega), fun e => by
    have e : x = (x + 1 + y) % n := e
    rcases Nat.lt_or_ge (x + 1 + y) n with z | z
    · rw [Nat.mod_eq_of_lt z] at e; omega
    · rw [Nat.mod_eq_sub_mod z, Nat.mod_eq_of_lt (by omega)] at e; omega⟩
  rw [List.map_append] at this
  exact this
theorem along_prs {hs : List (List Str)} {n : Nat} : ∀ {ps : List (Nat × Nat)} {lot : List Nat}, (∀ z ∈ lot, z < n) → Along hs lot ps → PrsOk n ps
  | [], _, _, _ => fun p hp => absurd hp List.not_mem_nil
  | p :: ps, lot, hl, h => fun q hq => by
    (rcases List.mem_cons.mp hq with rfl | hq)
    · obtain ⟨m1, m2⟩ := ears_mem h.1
      have : (q.1, q.2) ∈ earsF hs lot := h.1
      exact ⟨hl _ m1, hl _ m2, (ear_iff.mp this).2.2.1⟩
    · exact along_prs (fun z hz => hl z (mem_without.mp hz).1) h.2 q hq
/-- the pairs at hand -/
structure Hand (hs : List (List Str)) (ps : List (Nat × Nat)) : Prop where
  pr : PrsOk hs.length ps
  len : ps.length + 1 = hs.length
  al : foldF hs ≠ none → Along hs (List.range hs.length) ps
theorem w14_b (hdf : DFoldA (C.call idf)) (hp : C.call ip = pickW) {hs : List (List Str)} (ok : WebOk hs) {a0 a2 x6 x7 x8 a9 a10 : Option (Kd × D)}
    (h : ∀ ps y7 y8, Hand hs ps → K (.nx [a0, some (.clo, .obj 1), a2, some (.clo, webS hs), some (.clo, .int hs.length), some (.clo, foldD (foldF hs)), some (.clo, .tup (ps.map pairD)), y7, y8, a9, a10])) :
    execsW C X (e14b idf ip) [a0, some (.clo, .obj 1), a2, some (.clo, webS hs), some (.clo, .int hs.length), some (.clo, foldD (foldF hs)), x6, x7, x8, a9, a10] K := by
  unfold e14b
  have w := ok.w
  have n1 := ok.ne
  have n7 := ok.le
  cases e : foldF hs with
  | some qs =>
    unfold foldD
    walk_at "w"
    rw [o_isnT]
    walk_at "w"
    refine hdf hs w n1 (fold_fd e) _ _ fun r hr => ?_
    obtain ⟨ps, rfl, ⟨z, tk⟩, al⟩ := hr
    try walk_at "w"
    rw [show cmp2 .is (.tup (qs.map pairD)) .non [] = some false from rfl]
    try walk_at "w"
    have tl := tk.len
    rw [List.length_singleton] at tl
    have := h ps x7 x8 ⟨along_prs (fun z hz => List.mem_range.mp hz) al, tl, fun _ => al⟩
    rw [e] at this
    exact this
  | none =>
    have n2 : 2 ≤ hs.length := by
      rcases Nat.lt_or_ge hs.length 2 with z | z
      · exfalso
        have : foldF hs ≠ none := fd_folds List.nodup_range (.one _ (by rw [List.length_range]; omega))
        exact this e
      · exact z
    unfold foldD
    walk_at "w"
    rw [o_isnN]
    walk_at "w"
    refine And.intro (by decide) ?_
    rw [show cmp2 .is .non .non [] = some true from rfl]
    walk_at "w"
    rw [show (((hs.length : Int) - 1).toNat) = hs.length - 1 by omega, rngL_range]
    refine ⟨by unfold rngOk; rw [decide_eq_true_eq]; omega, by rfl, ?_⟩
    refine forW_inv (e := fun (i : Nat) => D.int i) (fun rest π => ∃ (ps : List (Nat × Nat)) (y7 y8 : Option (Kd × D)), π = [a0, some (.clo, .obj 1), a2, some (.clo, webS hs), some (.clo, .int hs.length), some (.clo, .non), some (.clo, .tup (ps.map pairD)), y7, y8, a9, a10] ∧ PrsOk hs.length ps ∧ ps.length + rest.length + 1 = hs.length) ?_ ?_ (List.range (hs.length - 1)) _ ⟨[], _, _, rfl, (fun p hp => absurd hp List.not_mem_nil), by rw [List.length_range]; simp; omega⟩
    · rintro i rest π ⟨ps, y7, y8, rfl, pk, l⟩
      refine ⟨_, rfl, fun K j1 j2 j3 j4 => ?_⟩
      rw [bodyS_at]
      rw [List.length_cons] at l
      refine w14_pk hp n2 n7 (by omega) fun p y8 hpp => ?_
      refine j1 _ trivial ⟨ps ++ [p], _, y8, rfl, fun q hq => ?_, by rw [List.length_append, List.length_singleton]; omega⟩
      rcases List.mem_append.mp hq with z | z
      · exact pk q z
      · rw [List.mem_singleton.mp z]; exact hpp
    · rintro π ⟨ps, y7, y8, rfl, pk, l⟩
      rw [List.length_nil] at l
      have := h ps y7 y8 ⟨pk, by omega, fun z => absurd e z⟩
      rw [e] at this
      exact this
theorem w14_c (hb : BentS (C.call ib)) (ho : OddS (C.call io)) (hj : JfS (C.call ij)) (hd : JfS (C.call id_)) {hs : List (List Str)} (ok : WebOk hs) {ps : List (Nat × Nat)} (hn : Hand hs ps) {a0 a2 a4 a5 a7 a8 x9 x10 : Option (Kd × D)}
    (h : ∀ y9 y10, K (.nx [a0, some (.clo, .obj 1), a2, some (.clo, webS hs), a4, a5, some (.clo, .tup (ps.map pairD)), a7, a8, y9, y10])) :
    execsW C X (e14c ib io ij id_) [a0, some (.clo, .obj 1), a2, some (.clo, webS hs), a4, a5, some (.clo, .tup (ps.map pairD)), a7, a8, x9, x10] K := by
  unfold e14c
  have w := ok.w
  have n1 := ok.ne
  have n7 := ok.le
  have hl := hn.len
  have pb : ∀ p ∈ ps, p.1 < 8 ∧ p.2 < 8 := fun p hp => by
    obtain ⟨h1, h2, _⟩ := hn.pr p hp
    exact ⟨by omega, by omega⟩
  walk_at "w"
  refine hb hs ps n7 n1 (by omega) pb _ _ fun b1 hb1 => ?_
  try walk_at "w"
  refine hb hs ps n7 n1 (by omega) pb _ _ fun b2 hb2 => ?_
  try walk_at "w"
  refine ho _ _ fun b3 hb3 => ?_
  try walk_at "w"
  repeat (refine And.intro (by first | decide | rfl) ?_)
  refine forW_invD (fun rest π => (∃ y9 y10, π = [a0, some (.clo, .obj 1), a2, some (.clo, webS hs), a4, a5, some (.clo, .tup (ps.map pairD)), a7, a8, y9, y10]) ∧ ∀ d ∈ rest, AskV d) ?_ ?_ _ _ ⟨⟨_, _, rfl⟩, fun d hd => ?_⟩
  · rintro d rest π ⟨⟨y9, y10, rfl⟩, hr⟩
    refine ⟨_, rfl, fun K j1 j2 j3 j4 => ?_⟩
    rw [bodyS_at]
    refine w14_in hj hd w n1 (hr d (List.mem_cons_self ..)) fun y => ?_
    exact j1 _ trivial ⟨⟨_, _, rfl⟩, fun d hd => hr d (List.mem_cons_of_mem _ hd)⟩
  · rintro π ⟨⟨y9, y10, rfl⟩, _⟩
    exact h _ _
  · simp only [List.mem_cons, List.not_mem_nil, or_false] at hd
    rcases hd with rfl | rfl | rfl | rfl
    · exact ask_pairs (by omega) pb
    · exact hb1
    · exact hb2
    · exact odd2_ask _ hb3
theorem w14_d (hj : JfS (C.call ij)) {hs : List (List Str)} (ok : WebOk hs) {ps : List (Nat × Nat)} (hn : Hand hs ps) {a0 a1 a2 a4 a7 a8 a9 a10 : Option (Kd × D)}
    (h : K (.nx [a0, a1, a2, some (.clo, webS hs), a4, some (.clo, foldD (foldF hs)), some (.clo, .tup (ps.map pairD)), a7, a8, a9, a10])) :
    execsW C X (e14d ij) [a0, a1, a2, some (.clo, webS hs), a4, some (.clo, foldD (foldF hs)), some (.clo, .tup (ps.map pairD)), a7, a8, a9, a10] K := by
  unfold e14d
  have w := ok.w
  have n1 := ok.ne
  have n7 := ok.le
  have hl := hn.len
  have pb : ∀ p ∈ ps, p.1 < 8 ∧ p.2 < 8 := fun p hp => by
    obtain ⟨h1, h2, _⟩ := hn.pr p hp
    exact ⟨by omega, by omega⟩
  have av := ask_pairs (by omega) pb
  have ej := jf_pairs hn.pr hn.len
  cases e : foldF hs with
  | some qs =>
    rw [e] at h
    unfold foldD at h ⊢
    walk_at "w"
    rw [o_isnT]
    walk_at "w"
    refine hj hs _ w n1 av.ok av.fl _ _ ?_
    rw [ej, run_along (hn.al (by rw [e]; simp))]
    try walk_at "w"
    rw [show cmp2 .isn (earR none) .non [] = some false from rfl]
    try walk_at "w"
    rw [show cmp2 .is (.tup (qs.map pairD)) .non [] = some false from rfl]
    try walk_at "w"
    exact h
  | none =>
    rw [e] at h
    unfold foldD at h ⊢
    walk_at "w"
    rw [o_isnN]
    walk_at "w"
    rw [show cmp2 .is .non .non [] = some true from rfl]
    walk_at "w"
    refine hj hs _ w n1 av.ok av.fl _ _ ?_
    rw [ej]
    cases r : runF hs (List.range hs.length) 0 ps with
    | none =>
      exfalso
      have f := run_fd List.nodup_range (by rw [List.length_range]; omega) r
      exact fd_folds (n := hs.length) List.nodup_range f e
    | some k =>
      try walk_at "w"
      rw [show cmp2 .is (earR (some k)) .non [] = some false from rfl]
      try walk_at "w"
      exact h
theorem law14 (hw : DwS (C.call iw)) (hlf : FoldS (C.call ilf)) (hdf : DFoldA (C.call idf)) (hp : C.call ip = pickW) (hb : BentS (C.call ib)) (ho : OddS (C.call io)) (hj : JfS (C.call ij)) (hd : JfS (C.call id_)) {a0 : Option (Kd × D)} :
    execsW C X (e14 iw ilf idf ip ib io ij id_) (a0 :: some (.clo, .obj 1) :: List.replicate 9 none) fun fl => match fl with
      | .rt _ x _ => x = .bl true
      | _ => False := by
  show execsW C X _ [a0, some (.clo, .obj 1), none, none, none, none, none, none, none, none, none] _
  unfold e14
  walk_at "w"
  refine ⟨by decide, by rfl, ?_⟩
  rw [show ((6 : Int).toNat) = 6 by rfl, rngL_range]
  refine forW_inv (e := fun (i : Nat) => D.int i) (fun rest π => ∃ y2 y3 y4 y5 y6 y7 y8 y9 y10, π = [a0, some (.clo, .obj 1), y2, y3, y4, y5, y6, y7, y8, y9, y10]) ?_ ?_ (List.range 6) _ ⟨_, _, _, _, _, _, _, _, _, rfl⟩
  · rintro i rest π ⟨y2, y3, y4, y5, y6, y7, y8, y9, y10, rfl⟩
    refine ⟨_, rfl, fun K j1 j2 j3 j4 => ?_⟩
    rw [bodyS_at]
    unfold e14lap
    rw [xs_app]
    unfold e14a
    walk_at "w"
    refine hw 8 (by decide) (by decide) _ _ fun r hr => ?_
    obtain ⟨hs, rfl, ok⟩ := hr
    try walk_at "w"
    rw [o_lenW]
    try walk_at "w"
    refine hlf hs ok.w _ _ ?_
    try walk_at "w"
    rw [xs_app]
    refine w14_b hdf hp ok fun ps z7 z8 hn => ?_
    dsimp only
    rw [xs_app]
    refine w14_c hb ho hj hd ok hn fun z9 z10 => ?_
    dsimp only
    refine w14_d hj ok hn ?_
    exact j1 _ trivial ⟨_, _, _, _, _, _, _, _, _, rfl⟩
  · rintro π ⟨y2, y3, y4, y5, y6, y7, y8, y9, y10, rfl⟩
    try walk_at "w"
end
end Dv
namespace Dv
open PySem (Str)
open Cut
theorem frz_len {lo : Nat} {d e : D} {st st' : Sto} (h : frz lo d st = .ok e st') (l : lo ≤ st.length) : st'.length = lo := by
  unfold frz at h
  split at h
  · cases h; assumption
  · split at h
    · split at h
      · cases h
        rw [List.length_drop]
        omega
      · cases h
    · cases h
theorem call_r {C : Cst} {w : CallW} {f : Nat} (hs : Sound (C.call f) w) {as : List (Kd × D)} {ds : List D} {st : Sto} (so : StoOk st) (a : @Args ⟨st.length, so.two⟩ st as ds) {R : D → Prop} (hw : Draws w as R) :
    ∃ d st2, ((C.call f ds st).bind fun d st' => frz st.length d st') = .ok d st2 ∧ After st st2 ∧ st2.length = st.length ∧ R d := by
  letI : Thr := ⟨st.length, so.two⟩
  have z := hs as ds st (fun _ _ => False) (fun k d => k = .clo ∧ R d) (hw _ _ fun d r => ⟨rfl, r⟩) so (Nat.le_refl _) a
  cases r : C.call f ds st with
  | bad => rw [r] at z; exact z.elim
  | exc c fs st' => rw [r] at z; exact z.2.2.elim
  | ok d st' =>
    rw [r] at z
    obtain ⟨k, p, aft, rv, rfl, rr⟩ := z
    obtain ⟨d', st2, e, aft2, rv2, _⟩ := frz_after so aft (Nat.le_refl _) rv
    have e1 : d' = p := rv2.1
    subst e1
    exact ⟨_, st2, e, aft2, frz_len e aft.le, rr⟩
theorem call_z {C : Cst} {w : CallW} {f : Nat} (hs : Sound (C.call f) w) {es : List Ex} {η : Env} {as : List (Kd × D)} {ds : List D} {st st1 : Sto} (he : evalEs C es η st = .ok ds st1) (so : StoOk st1) (a : @Args ⟨st1.length, so.two⟩ st1 as ds) {R : D → Prop} (hw : Draws w as R) :
    ∃ d st2, evalE C (.callz f es) η st = .ok d st2 ∧ After st1 st2 ∧ st2.length = st1.length ∧ R d := by
  obtain ⟨d, st2, e, h⟩ := call_r hs so a hw
  exact ⟨d, st2, by rw [evalE, he, ok_bind']; exact e, h⟩
/-- one argument -/
theorem arg_clo [T : Thr] {st : Sto} {p : D} {as : List (Kd × D)} {ds : List D} (b : below tt p = true) (h : Args st as ds) : Args st ((.clo, p) :: as) (p :: ds) := ⟨⟨rfl, b⟩, h⟩
theorem arg_bor [T : Thr] {st : Sto} {d p : D} {as : List (Kd × D)} {ds : List D} (v : Val st d p) (h : Args st as ds) : Args st ((.bor, p) :: as) (d :: ds) := ⟨v, h⟩
theorem arg_nil [T : Thr] {st : Sto} : Args st [] [] := trivial
theorem below_src [T : Thr] : below tt (.obj 1) = true := by simp only [below, decide_eq_true_eq]; exact T.two
theorem below_strs {t : Nat} (cs : List Str) : belows t (cs.map D.str) = true := by
  induction cs with
  | nil => rfl
  | cons c cs ih => simp only [List.map_cons, belows, below, ih, Bool.and_self]
/-- .. a number -/
def IntR (m : Int) : D → Prop := fun r => ∃ v : Int, r = .int v ∧ 0 ≤ v ∧ (2 ≤ m → v < m) ∧ (m < 2 → v = 0)
theorem draws_pick {m : Int} (hm : m.natAbs < 18446744073709551616) : Draws pickW [(.clo, .obj 1), (.clo, .int m)] (IntR m) := fun X Q hq => ⟨hm, fun v h0 h1 h2 => hq _ ⟨v, rfl, h0, h1, h2⟩⟩
/-- nothing but the cells changed -/
structure Calm (st st2 : Sto) : Prop where
  so : StoOk st2
  len : st2.length = st.length
  fr : ∀ n, 2 ≤ n → st2.get n = st.get n
theorem calm_of {st st2 : Sto} (a : After st st2) (l : st2.length = st.length) : Calm st st2 := ⟨a.sto, l, fun n h2 => by
  by_cases z : n < st.length
  · exact a.fr n h2 z
  · unfold Sto.get
    rw [if_neg (by omega), if_neg z]⟩
theorem Calm.trans {st st1 st2 : Sto} (a : Calm st st1) (b : Calm st1 st2) : Calm st st2 := ⟨b.so, b.len.trans a.len, fun n h => (b.fr n h).trans (a.fr n h)⟩
theorem pick_z {C : Cst} {ip : Nat} (hp : Sound (C.call ip) pickW) {e : Ex} {η : Env} {st st1 : Sto} {m : Int} (h0 : η[0]? = some (some (.obj 1))) (hs : noStar e = true) (he : evalE C e η st = .ok (.int m) st1) (h00 : evalE C (.var 0) η st = .ok (.obj 1) st) (so : StoOk st1) (hm : m.natAbs < 18446744073709551616) :
    ∃ v st2, evalE C (.callz ip [.var 0, e]) η st = .ok (.int v) st2 ∧ Calm st1 st2 ∧ 0 ≤ v ∧ (2 ≤ m → v < m) ∧ (m < 2 → v = 0) := by
  letI : Thr := ⟨st1.length, so.two⟩
  obtain ⟨d, st2, e1, a, l, v, rfl, h⟩ := call_z hp (es := [.var 0, e]) (es_ok rfl h00 (es_ok hs he es_nil)) so (arg_clo below_src (arg_clo rfl arg_nil)) (draws_pick hm)
  exact ⟨v, st2, e1, calm_of a l, h⟩
theorem comp_fresh {α : Type} {e : α → D} {g : α → List D} {f : D → Sto → Res (List D)} : ∀ (xs : List α) (st : Sto), (∀ x ∈ xs, ∀ st, f (e x) st = .ok [.obj st.length] (.lst (g x) :: st)) →
    compL f [] (xs.map e) st = .ok ((List.range xs.length).map fun i => .obj (st.length + i)) ((xs.map fun x => O.lst (g x)).reverse ++ st)
  | [], st, _ => rfl
  | x :: xs, st, h => by
    rw [List.map_cons, compL, h x (List.mem_cons_self ..) st, ok_bind', if_pos (by rfl), comp_fresh xs (.lst (g x) :: st) fun y hy => h y (List.mem_cons_of_mem _ hy), ok_bind']
    have hr : List.range (x :: xs).length = 0 :: (List.range xs.length).map Nat.succ := List.range_succ_eq_map
    rw [hr, List.map_cons, List.map_map, List.map_cons, List.reverse_cons, List.append_assoc]
    congr 1
    show D.obj st.length :: _ = D.obj (st.length + 0) :: _
    rw [Nat.add_zero]
    congr 1
    (refine List.map_congr_left fun i _ => ?_)
    show D.obj ((O.lst (g x) :: st).length + i) = D.obj (st.length + (i + 1))
    rw [List.length_cons]
    congr 1
    omega
theorem get_new {news st : Sto} {i : Nat} : Sto.get (news.reverse ++ st) (st.length + i) = news[i]? := by
  unfold Sto.get
  rw [List.length_append, List.length_reverse]
  by_cases h : i < news.length
  · rw [if_pos (by omega), List.getElem?_append_left (by rw [List.length_reverse]; omega), List.getElem?_reverse (by omega)]
    congr 1
    omega
  · rw [if_neg (by omega), List.getElem?_eq_none (by omega)]
theorem get_old {news st : Sto} {i : Nat} (h : i < st.length) : Sto.get (news ++ st) i = st.get i := by
  unfold Sto.get
  rw [List.length_append, if_pos (by omega), if_pos h, List.getElem?_append_right (by omega)]
  congr 1
  omega
def shellE : Ex := .own (.comp [3] (.nm 3) (.itv (.var 1)) [.cmp .ne (.var 3) (.var 2)] (.var 3))
def ringE : Ex := .own (.disp [.idx (.var 1) (.var 4), .idx (.op .add (.var 1) (.slc (.var 1) none (some (.int 1)))) (.op .add (.var 4) (.int 1))])
def b_l_core_pieces : List Sx := [.ite (.cmp .eq (.var 0) (.str ⟨#[115, 104, 101, 108, 108]⟩)) [.ret (.own (.comp [2] (.nm 2) (.itv (.var 1)) [] shellE))] [], .ret (.own (.comp [4] (.nm 4) (.rng [.blt .len [.var 1]]) [] ringE))]
def pieces (sh : Bool) (cols : List Str) : List (List Str) := match sh with
  | true => cols.map fun c => cols.filter fun d => decide (d ≠ c)
  | false => (List.range cols.length).map fun k => [cols.getD k ⟨#[]⟩, (cols ++ cols.take 1).getD (k + 1) ⟨#[]⟩]
theorem word_eq {sh : Bool} {st : Sto} : cmp2 .eq (.str (wordS sh)) (.str ⟨#[115, 104, 101, 108, 108]⟩) st = some sh := by
  show ((data st (.str _)).bind fun a => (data st (.str _)).map fun b => eqD a b) = _
  rw [data_str, data_str]
  show some (eqD (.str _) (.str _)) = _
  rw [eq_str]
  cases sh <;> rfl
theorem ne_str {x y : Str} {st : Sto} : cmp2 .ne (.str x) (.str y) st = some (!decide (x = y)) := o_neStr
theorem eval_shell {C : Cst} {cols : List Str} {c : Str} {w : D} {x3 x4 : Option D} {st : Sto} (hl : cols.length ≤ 1000) :
    evalE C shellE [some w, some (lstS cols), some (.str c), x3, x4] st = .ok (.obj st.length) (.lst ((cols.filter fun d => decide (d ≠ c)).map .str) :: st) := by
  refine (ev_own (st1 := st) (ds := ((cols.map D.str).filter fun d => match d with | .str d => decide (d ≠ c) | _ => true).map id) ?_).trans ?_
  · refine comp_filter (gs := []) (ds := cols.map .str) (ei_var (d := lstS cols) rfl rfl) rfl (by rw [List.length_map, LIM_eq]; omega) (fun d hd => ?_) fun d hd _ => ?_
    · obtain ⟨x, _, rfl⟩ := List.mem_map.mp hd
      refine ev_cmp (ev_var rfl) (ev_var rfl) ?_
      rw [ne_str]
      simp
    · exact ev_var rfl
  · rw [List.map_id, List.filter_map]
    rfl
theorem idx_strs {cols : List Str} {k : Nat} {st : Sto} (h : k < cols.length) : idx (lstS cols) (.int k) st = .ok (.str (cols.getD k ⟨#[]⟩)) st := by
  show ofO ((place (cols.map D.str).length k).bind fun j => (cols.map D.str)[j]?) st = _
  rw [List.length_map]
  unfold place
  (rw [if_pos (by omega), if_pos (by omega)])
  have e : ((k : Int).toNat) = k := by simp
  rw [Option.bind_some, e, List.getElem?_map, List.getD_eq_getElem?_getD, List.getElem?_eq_getElem h]
  rfl
theorem eval_ring {C : Cst} {cols : List Str} {k : Nat} {w : D} {x2 x3 : Option D} {st : Sto} (hl : cols.length ≤ 1000) (hk : k < cols.length) :
    evalE C ringE [some w, some (lstS cols), x2, x3, some (.int k)] st = .ok (.obj st.length) (.lst (([cols.getD k ⟨#[]⟩, (cols ++ cols.take 1).getD (k + 1) ⟨#[]⟩] : List Str).map .str) :: st) := by
  refine ev_own (el_disp (es_ok rfl (ev_idx (ev_var rfl) (ev_var rfl) (idx_strs hk)) (es_ok rfl (ev_idx (ev_op (ev_var rfl) (ev_slc (ev_var rfl) eo_none (eo_some ev_int) (slc_strs (cs := cols))) (op_catS (a := cols) (b := cutL cols none (some 1)) ?_)) (ev_op (ev_var rfl) ev_int op_add) ?_) es_nil)) (show 2 ≤ LIM by decide))
  · have : (cutL cols none (some ((1 : Nat) : Int))).length ≤ 1 := by rw [cutL_take, List.length_take]; omega
    have : (cutL cols none (some (1 : Int))).length ≤ 1 := this
    rw [LIM_eq]
    omega
  · have e : cutL cols none (some (1 : Int)) = cols.take 1 := cutL_take (n := 1)
    rw [e]
    exact idx_strs (k := k + 1) (by rw [List.length_append, List.length_take]; omega)
theorem pieces_run {C : Cst} {sh : Bool} {cols : List Str} {st : Sto} (hl : cols.length ≤ 1000) :
    execs C b_l_core_pieces [some (.str (wordS sh)), some (lstS cols), none, none, none] st = .ok (.rt (.obj (st.length + cols.length))) (.lst ((List.range cols.length).map fun i => .obj (st.length + i)) :: (((pieces sh cols).map fun p => O.lst (p.map .str)).reverse ++ st)) := by
  have lenN : ∀ {news : Sto}, news.length = cols.length → (news.reverse ++ st).length = st.length + cols.length := fun {news} h => by rw [List.length_append, List.length_reverse, h]; omega
  cases sh with
  | true =>
    refine ex_rt ((ex_t (st' := st) (ev_cmp (ev_var rfl) ev_str (word_eq (sh := true)))).trans (ex_rt (ex_ret ?_)))
    refine (ev_own (ds := (List.range cols.length).map fun i => .obj (st.length + i)) (st1 := ((cols.map fun c => O.lst ((cols.filter fun d => decide (d ≠ c)).map .str)).reverse ++ st)) ?_).trans ?_
    · rw [evalL, ei_var (ds := cols.map .str) rfl rfl, ok_bind']
      show (if (cols.map D.str).length ≤ LIM then _ else _) = _
      rw [if_pos (by rw [List.length_map, LIM_eq]; omega)]
      refine comp_fresh cols st fun c hc st => ?_
      show ((condsE C [] _ st).bind fun b st => if b then (evalE C shellE [some (.str (wordS true)), some (lstS cols), some (.str c), none, none] st).noexc.bind fun x st => .ok [x] st else .ok [] st) = _
      rw [condsE, ok_bind', if_pos rfl, eval_shell hl]
      rfl
    · rw [lenN (by rw [List.length_map])]
      show _ = Res.ok _ (_ :: (((pieces true cols).map _).reverse ++ st))
      unfold pieces
      rw [List.map_map]
      rfl
  | false =>
    refine (ex_nx ((ex_f (st' := st) (ev_cmp (ev_var rfl) ev_str (word_eq (sh := false)))).trans ex_nil)).trans (ex_rt (ex_ret ?_))
    refine (ev_own (ds := (List.range cols.length).map fun i => .obj (st.length + i)) (st1 := (((List.range cols.length).map fun k => O.lst (([cols.getD k ⟨#[]⟩, (cols ++ cols.take 1).getD (k + 1) ⟨#[]⟩] : List Str).map .str)).reverse ++ st)) ?_).trans ?_
    · have e0 : evalI C (.rng [.blt .len [.var 1]]) [some (.str (wordS false)), some (lstS cols), none, none, none] st = .ok ((List.range cols.length).map fun (i : Nat) => D.int i, []) st := by
        have e1 := ev_len (C := C) (i := 1) (η := [some (.str (wordS false)), some (lstS cols), none, none, none]) (d := lstS cols) (xs := cols.map .str) (st := st) rfl (fun _ h => by cases h) rfl
        rw [List.length_map] at e1
        rw [evalI, e1, ok_bind']
        simp only
        rw [if_pos (by unfold rngOk; rw [decide_eq_true_eq]; omega), show ((cols.length : Int).toNat) = cols.length by simp, rngL_range]
      rw [evalL, e0, ok_bind']
      show (if ((List.range cols.length).map fun (i : Nat) => D.int i).length ≤ LIM then _ else _) = _
      rw [if_pos (by rw [List.length_map, List.length_range, LIM_eq]; omega)]
      have := comp_fresh (e := fun (i : Nat) => D.int i) (g := fun k => ([cols.getD k ⟨#[]⟩, (cols ++ cols.take 1).getD (k + 1) ⟨#[]⟩] : List Str).map .str) (f := fun d st => match bindT (.nm 4) d (wipeE [some (.str (wordS false)), some (lstS cols), none, none, none] [4]) with
        | some η1 => (condsE C [] η1 st).bind fun b st => if b then (evalE C ringE η1 st).noexc.bind fun x st => .ok [x] st else .ok [] st
        | none => .bad) (List.range cols.length) st fun k hk st => ?_
      · rw [List.length_range] at this
        exact this
      · show ((condsE C [] _ st).bind fun b st => if b then (evalE C ringE [some (.str (wordS false)), some (lstS cols), none, none, some (.int k)] st).noexc.bind fun x st => .ok [x] st else .ok [] st) = _
        rw [condsE, ok_bind', if_pos rfl, eval_ring hl (List.mem_range.mp hk)]
        rfl
    · rw [lenN (by rw [List.length_map, List.length_range])]
      show _ = Res.ok _ (_ :: (((pieces false cols).map _).reverse ++ st))
      unfold pieces
      rw [List.map_map]
      rfl
theorem pieces_len {sh : Bool} {cols : List Str} : (pieces sh cols).length = cols.length := by
  cases sh <;> simp [pieces]
theorem pieces_names {sh : Bool} {cols : List Str} (hn : Names cols) (h2 : 2 ≤ cols.length) : ∀ p ∈ pieces sh cols, Names p ∧ ∀ c ∈ p, c ∈ cols := by
  intro p hp
  cases sh with
  | true =>
    obtain ⟨c, _, rfl⟩ := List.mem_map.mp hp
    exact ⟨hn.sub List.filter_sublist, fun d hd => (List.mem_filter.mp hd).1⟩
  | false =>
    obtain ⟨k, hk, rfl⟩ := List.mem_map.mp hp
    have hk := List.mem_range.mp hk
    have e1 : cols.getD k ⟨#[]⟩ = cols[k] := by rw [List.getD_eq_getElem?_getD, List.getElem?_eq_getElem hk]; rfl
    obtain ⟨j, hj, ej, ne⟩ : ∃ j, ∃ hj : j < cols.length, (cols ++ cols.take 1).getD (k + 1) ⟨#[]⟩ = cols[j] ∧ k ≠ j := by
      by_cases z : k + 1 < cols.length
      · exact ⟨k + 1, z, by rw [List.getD_eq_getElem?_getD, List.getElem?_append_left z, List.getElem?_eq_getElem z]; rfl, by omega⟩
      · refine ⟨0, by omega, ?_, by omega⟩
        rw [List.getD_eq_getElem?_getD, List.getElem?_append_right (by omega), show k + 1 - cols.length = 0 by omega, List.getElem?_take_of_lt (by decide), List.getElem?_eq_getElem (by omega)]
        rfl
    rw [e1, ej]
    have m : ∀ c ∈ [cols[k], cols[j]], c ∈ cols := fun c hc => by
      (rcases List.mem_cons.mp hc with rfl | hc)
      · exact List.getElem_mem _
      · rw [List.mem_singleton.mp hc]; exact List.getElem_mem _
    refine ⟨names_of (List.nodup_cons.mpr ⟨fun z => ?_, List.nodup_cons.mpr ⟨List.not_mem_nil, List.nodup_nil⟩⟩) fun c hc => hn.2.1 c (m c hc), m⟩
    have z := List.mem_singleton.mp z
    exact ne ((List.getElem_inj hn.1).mp z)
end Dv
namespace Dv
open PySem (Str)
open Cut
theorem StoOk.put {st : Sto} (h : StoOk st) {n : Nat} {o : O} (h2 : 2 ≤ n) (hl : n < st.length) (b : belowO st.length o = true) : StoOk (st.put n o) := by
  obtain ⟨top, b0, rfl, h1, h3⟩ := h
  rw [bs_len] at hl
  refine ⟨top.set (top.length + 1 - n) o, b0, ?_, h1, fun m o' h4 e => ?_⟩
  · unfold Sto.put
    rw [bs_len, List.set_append_left _ _ (by omega)]
    rfl
  · rw [put_length]
    rw [get_put (by rw [bs_len]; exact hl)] at e
    by_cases z : m = n
    · rw [if_pos z] at e
      cases e
      exact b
    · rw [if_neg z] at e
      exact h3 m o' h4 e
theorem StoOk.news {st news : Sto} (h : StoOk st) (b : ∀ o ∈ news, belowO (news.length + st.length) o = true) : StoOk (news ++ st) := by
  obtain ⟨top, b0, rfl, h1, h3⟩ := h
  refine ⟨news ++ top, b0, by rw [List.append_assoc], h1, fun m o h4 e => ?_⟩
  rw [List.length_append]
  by_cases z : m < (top ++ bs b0).length
  · rw [get_old z] at e
    exact belowO_mono (by omega) (h3 m o h4 e)
  · have hl := get_lt e
    rw [List.length_append] at hl
    unfold Sto.get at e
    rw [List.length_append, if_pos hl, List.getElem?_append_left (by omega)] at e
    exact b o (List.mem_of_getElem? e)
theorem sort_at {d : D} {ns : List Str} {st : Sto} (h : lstOf st d = some (ns.map .str)) : blt .sorted [d] st = .ok (lstS (sortS ns)) st := by
  have e := blt_sortS (cs := ns) (st := st)
  simp only [blt, lstS, seqOf] at e
  have h2 : seqOf st d = some (ns.map .str) := by
    cases d <;> first | exact h | cases h
  simp only [blt, h2]
  exact e
/-- a comprehension without a test, whose walk changes the store first -/
theorem comp_then {C : Cst} {j : Nat} {it e : Ex} {η : Env} {st st1 : Sto} {ds : List D} {gs : Guards} {h : D → D} (hi : evalI C it η st = .ok (ds, gs) st1) (hg : guardOk st1 gs = true) (hl : ds.length ≤ LIM)
    (he : ∀ d ∈ ds, evalE C e ((η.set j none).set j (some d)) st1 = .ok (h d) st1) : evalL C (.comp [j] (.nm j) it [] e) η st = .ok (ds.map h) st1 := by
  rw [evalL, hi, ok_bind']
  show (if ds.length ≤ LIM then _ else _) = _
  rw [if_pos hl]
  rw [comp_map (g := fun d => [h d]) hg fun d hd => ?_]
  · congr 1
    clear hi hl he
    induction ds with
    | nil => rfl
    | cons d ds ih =>
      rw [List.flatMap_cons, ih]
      rfl
  · show ((condsE C [] ((η.set j none).set j (some d)) st1).bind fun b st => if b then (evalE C e ((η.set j none).set j (some d)) st).noexc.bind fun x st => .ok [x] st else .ok [] st) = _
    have e1 : condsE C [] ((η.set j none).set j (some d)) st1 = .ok true st1 := by rw [condsE]
    rw [e1, ok_bind', if_pos rfl, he d hd]
    rfl
def b_cwLap1 (ip : Nat) : List Sx := [.ite (.cmp .eq (.callz ip [.var 0, .int 2]) (.int 0)) [.expr (.mth .append (.idx (.var 5) (.callz ip [.var 0, .blt .len [.var 5]])) [.var 6])] []]
def b_cwLap2 (is ip : Nat) : List Sx := [.expr (.mth .append (.var 5) [.callz is [.var 0, .idx (.var 5) (.callz ip [.var 0, .blt .len [.var 5]]), .int 0]])]
def b_l_draw_cored_web (idc ik ip is ia : Nat) : List Sx := [.tset (.tp [.nm 3, .nm 4]) (.callz idc [.var 0, .var 1, .int 3, .var 2]), .set 5 (.call ik [.var 3, .var 4]), .for_ (.nm 6) (.itv (.slc (.var 1) (some (.blt .len [.var 4])) none)) (b_cwLap1 ip), .for_ (.nm 7) (.rng [.blt .min [.op .sub (.int 7) (.blt .len [.var 5]), .callz ip [.var 0, .int 3]]]) (b_cwLap2 is ip), .ret (.blt .tuple [.frl (.comp [8] (.nm 8) (.itv (.callz ia [.var 0, .var 5])) [] (.blt .tuple [.blt .sorted [.var 8]]))])]
/-- one list of columns -/
def Ent (L0 n0 : Nat) (o : Bool) (rest : List Str) (st : Sto) (e : D) : Prop := ∃ ns, Names ns ∧ (∀ c ∈ ns, c ∉ rest) ∧ ((o = false ∧ e = lstS ns) ∨ ∃ m, e = .obj m ∧ L0 ≤ m ∧ m ≠ n0 ∧ st.get m = some (.lst (ns.map .str)))
structure FS (st0 : Sto) (n0 : Nat) (o : Bool) (rest : List Str) (st : Sto) (es : List D) : Prop where
  so : StoOk st
  l0 : 2 ≤ st0.length
  hn : st0.length ≤ n0
  at_ : st.get n0 = some (.lst es)
  el : ∀ e ∈ es, Ent st0.length n0 o rest st e
  old : ∀ n, 2 ≤ n → n < st0.length → st.get n = st0.get n
theorem FS.calm {st0 st st2 : Sto} {n0 : Nat} {o : Bool} {rest : List Str} {es : List D} (f : FS st0 n0 o rest st es) (c : Calm st st2) : FS st0 n0 o rest st2 es := by
  have l0 := f.l0
  have hn := f.hn
  refine ⟨c.so, f.l0, f.hn, by rw [c.fr _ (by omega)]; exact f.at_, fun e he => ?_, fun n h1 h2 => by rw [c.fr n h1]; exact f.old n h1 h2⟩
  obtain ⟨ns, h1, h2, h3 | ⟨m, h3, h4, h5, h6⟩⟩ := f.el e he
  · exact ⟨ns, h1, h2, .inl h3⟩
  · exact ⟨ns, h1, h2, .inr ⟨m, h3, h4, h5, by rw [c.fr m (by omega)]; exact h6⟩⟩
theorem len_obj {C : Cst} {η : Env} {i n : Nat} {st : Sto} {es : List D} (h : η[i]? = some (some (.obj n))) (g : st.get n = some (.lst es)) : evalE C (.blt .len [.var i]) η st = .ok (.int es.length) st :=
  ev_len h (fun _ z => by cases z) (by simp only [seqOf, g])
theorem idx_obj {n k : Nat} {st : Sto} {es : List D} {e : D} (g : st.get n = some (.lst es)) (h : es[k]? = some e) : idx (.obj n) (.int k) st = .ok e st := by
  have hk : k < es.length := by
    rcases Nat.lt_or_ge k es.length with z | z
    · exact z
    · rw [List.getElem?_eq_none z] at h; cases h
  have e0 : seqOf st (.obj n) = some es := by simp only [seqOf, g]
  show (match seqOf st (.obj n) with
    | some xs => ofO ((place xs.length k).bind fun k => xs[k]?) st
    | none => _) = _
  rw [e0]
  show ofO ((place es.length k).bind fun k => es[k]?) st = _
  unfold place
  rw [if_pos (by omega), if_pos (by omega), Option.bind_some, show ((k : Int).toNat) = k by simp, h]
  rfl
theorem ev_mth {C : Cst} {m : Mth} {o : Ex} {es : List Ex} {η : Env} {x : D} {xs ds : List D} {st st1 st2 : Sto} {r : Res D} (h1 : evalE C o η st = .ok x st1) (h2 : lstOf st1 x = some xs) (h3 : evalEs C es η st1 = .ok ds st2) (h4 : mth m x ds st2 = r) : evalE C (.mth m o es) η st = r := by
  rw [evalE, h1, ok_bind']
  simp only [h2]
  rw [h3, ok_bind', h4]
theorem append_obj {n : Nat} {d : D} {st : Sto} {es : List D} (g : st.get n = some (.lst es)) (h : es.length < LIM) : mth .append (.obj n) [d] st = .ok .non (st.put n (.lst (es ++ [d]))) := by
  simp only [mth, g]
  rw [if_pos h]
theorem ex_expr {C : Cst} {e : Ex} {η : Env} {d : D} {st st1 : Sto} (h : evalE C e η st = .ok d st1) : execS C (.expr e) η st = .ok (.nx η) st1 := by
  rw [execS, h, ok_bind']
def namesAt (st : Sto) (d : D) : List Str := match lstOf st d with
  | some xs => xs.map strOf
  | none => []
theorem namesAt_of {st : Sto} {d : D} {ns : List Str} (h : lstOf st d = some (ns.map .str)) : namesAt st d = ns := by
  unfold namesAt
  rw [h]
  show (ns.map D.str).map strOf = ns
  rw [List.map_map]
  exact List.map_id ns
end Dv
namespace Dv
open PySem (Str)
open Cut
/-- what stands at a place of the list -/
def EntAt (L0 n0 : Nat) (o : Bool) (st : Sto) (e : D) (ns : List Str) : Prop := (o = false ∧ e = lstS ns) ∨ ∃ m, e = .obj m ∧ L0 ≤ m ∧ m ≠ n0 ∧ st.get m = some (.lst (ns.map .str))
/-- within the names; its columns of the core within one piece -/
structure InCore (cs K : List Str) (ps : List (List Str)) (ns : List Str) : Prop where
  sub : ∀ c ∈ ns, c ∈ cs
  one : ∃ p ∈ ps, ∀ c ∈ ns, c ∈ K → c ∈ p
def EntG (G : List Str → Prop) (L0 n0 : Nat) (o : Bool) (rest : List Str) (st : Sto) (e : D) : Prop := ∃ ns, Names ns ∧ (∀ c ∈ ns, c ∉ rest) ∧ G ns ∧ EntAt L0 n0 o st e ns
structure FG (G : List Str → Prop) (ps : List (List Str)) (st0 : Sto) (n0 : Nat) (o : Bool) (rest : List Str) (st : Sto) (es : List D) : Prop where
  so : StoOk st
  l0 : 2 ≤ st0.length
  hn : st0.length ≤ n0
  at_ : st.get n0 = some (.lst es)
  el : ∀ e ∈ es, EntG G st0.length n0 o rest st e
  big : ∀ p ∈ ps, ∃ e ∈ es, ∃ ns, EntAt st0.length n0 o st e ns ∧ ∀ c ∈ p, c ∈ ns
  old : ∀ n, 2 ≤ n → n < st0.length → st.get n = st0.get n
theorem EntAt.calm {L0 n0 : Nat} {o : Bool} {st st2 : Sto} {e : D} {ns : List Str} (h : EntAt L0 n0 o st e ns) (l : 2 ≤ L0) (c : Calm st st2) : EntAt L0 n0 o st2 e ns := by
  rcases h with h | ⟨m, h3, h4, h5, h6⟩
  · exact .inl h
  · exact .inr ⟨m, h3, h4, h5, by rw [c.fr m (by omega)]; exact h6⟩
theorem FG.calm {G : List Str → Prop} {ps : List (List Str)} {st0 st st2 : Sto} {n0 : Nat} {o : Bool} {rest : List Str} {es : List D} (f : FG G ps st0 n0 o rest st es) (c : Calm st st2) : FG G ps st0 n0 o rest st2 es := by
  have l0 := f.l0
  have hn := f.hn
  refine ⟨c.so, f.l0, f.hn, by rw [c.fr _ (by omega)]; exact f.at_, fun e he => ?_, fun p hp => ?_, fun n h1 h2 => by rw [c.fr n h1]; exact f.old n h1 h2⟩
  · obtain ⟨ns, h1, h2, g, h3⟩ := f.el e he
    exact ⟨ns, h1, h2, g, h3.calm l0 c⟩
  · obtain ⟨e, he, ns, h1, h2⟩ := f.big p hp
    exact ⟨e, he, ns, h1.calm l0 c, h2⟩
section
variable {G : List Str → Prop} {ps : List (List Str)} {C : Cst} {st0 st : Sto} {n0 ip is ia : Nat} {η : Env} {es : List D} {rest : List Str}
/-- one of them, drawn -/
theorem draw_oneG (hp : Sound (C.call ip) pickW) {o : Bool} (f : FG G ps st0 n0 o rest st es) (h0 : η[0]? = some (some (.obj 1))) (h5 : η[5]? = some (some (.obj n0))) (h1 : 1 ≤ es.length) (h7 : es.length ≤ 100) :
    ∃ e st2, evalE C (.idx (.var 5) (.callz ip [.var 0, .blt .len [.var 5]])) η st = .ok e st2 ∧ Calm st st2 ∧ e ∈ es := by
  obtain ⟨v, st2, e1, c, v0, v1, v2⟩ := pick_z hp h0 (e := .blt .len [.var 5]) rfl (m := es.length) (len_obj h5 f.at_) (ev_var h0) f.so (by omega)
  obtain ⟨k, rfl, e, he, hm⟩ := len_any v0 v1 v2 (List.ne_nil_of_length_pos h1)
  have hn := f.hn
  have hl := f.l0
  exact ⟨e, st2, ev_idx (ev_var h5) e1 (idx_obj (by rw [c.fr n0 (by omega)]; exact f.at_) he), c, hm⟩
theorem lap1G (hp : Sound (C.call ip) pickW) {c : Str} (hc : c ∈ names8) (hr : c ∉ rest) (hG : ∀ ns, G ns → G (ns ++ [c])) (f : FG G ps st0 n0 true (c :: rest) st es) (h0 : η[0]? = some (some (.obj 1))) (h5 : η[5]? = some (some (.obj n0))) (h6 : η[6]? = some (some (.str c))) (h1 : 1 ≤ es.length) (h7 : es.length ≤ 100) :
    ∃ st2, execs C (b_cwLap1 ip) η st = .ok (.nx η) st2 ∧ FG G ps st0 n0 true rest st2 es := by
  have weak : ∀ {st2 : Sto}, FG G ps st0 n0 true (c :: rest) st2 es → FG G ps st0 n0 true rest st2 es := fun f => ⟨f.so, f.l0, f.hn, f.at_, fun e he => by
    obtain ⟨ns, a1, a2, a3⟩ := f.el e he
    exact ⟨ns, a1, fun d hd z => a2 d hd (List.mem_cons_of_mem _ z), a3⟩, f.big, f.old⟩
  obtain ⟨v, st1, e1, c1, v0, v1, v2⟩ := pick_z hp h0 (e := .int 2) rfl ev_int (ev_var h0) f.so (by decide)
  have f1 := f.calm c1
  have e2 : evalE C (.cmp .eq (.callz ip [.var 0, .int 2]) (.int 0)) η st = .ok (.bl (v == 0)) st1 := ev_cmp e1 ev_int cmp_eqI
  unfold b_cwLap1
  cases hv : v == 0 with
  | false =>
    rw [hv] at e2
    exact ⟨st1, (ex_nx ((ex_f e2).trans ex_nil)).trans ex_nil, weak f1⟩
  | true =>
    rw [hv] at e2
    obtain ⟨e, st2, e3, c2, he⟩ := draw_oneG hp f1 h0 h5 h1 h7
    have f2 := f1.calm c2
    obtain ⟨ns, n1, n2, g1, ⟨z, _⟩ | ⟨m, rfl, m1, m2, m3⟩⟩ := f2.el e he
    · cases z
    have hl := f.l0
    have ml := get_lt m3
    have n8 := n1.2.2
    have e4 : execs C [.expr (.mth .append (.idx (.var 5) (.callz ip [.var 0, .blt .len [.var 5]])) [.var 6])] η st1 = .ok (.nx η) (st2.put m (.lst (ns.map .str ++ [.str c]))) :=
      (ex_nx (ex_expr (ev_mth (xs := ns.map .str) e3 (by simp only [lstOf, m3]) (es_ok rfl (ev_var h6) es_nil) (append_obj m3 (by rw [List.length_map, LIM_eq]; omega))))).trans ex_nil
    refine ⟨_, (ex_nx ((ex_t e2).trans e4)).trans ex_nil, ?_⟩
    have bel : belowO st2.length (.lst (ns.map .str ++ [.str c])) = true := by
      show belows st2.length (ns.map .str ++ [.str c]) = true
      rw [show ns.map D.str ++ [D.str c] = (ns ++ [c]).map D.str by rw [List.map_append]; rfl]
      exact below_strs _
    refine ⟨f2.so.put (by omega) ml bel, f2.l0, f2.hn, by rw [get_put ml, if_neg (fun z => m2 z.symm)]; exact f2.at_, fun e' he' => ?_, fun p hp => ?_, fun n k1 k2 => by rw [get_put ml, if_neg (by omega)]; exact f2.old n k1 k2⟩
    · obtain ⟨ns', a1, a2, g2, ⟨z, _⟩ | ⟨m', rfl, b1, b2, b3⟩⟩ := f2.el e' he'
      · cases z
      by_cases z : m' = m
      · subst z
        refine ⟨ns ++ [c], names_of (List.nodup_append.mpr ⟨n1.1, List.nodup_cons.mpr ⟨List.not_mem_nil, List.nodup_nil⟩, fun a ha b hb e => ?_⟩) fun d hd => ?_, fun d hd => ?_, hG ns g1, .inr ⟨m', rfl, b1, b2, by rw [get_put ml, if_pos rfl, List.map_append]; rfl⟩⟩
        · rw [List.mem_singleton.mp hb] at e
          exact n2 a ha (by rw [e]; exact List.mem_cons_self ..)
        · rcases List.mem_append.mp hd with z | z
          · exact n1.2.1 d z
          · rw [List.mem_singleton.mp z]; exact hc
        · rcases List.mem_append.mp hd with z | z
          · exact fun w => n2 d z (List.mem_cons_of_mem _ w)
          · rw [List.mem_singleton.mp z]; exact hr
      · exact ⟨ns', a1, fun d hd w => a2 d hd (List.mem_cons_of_mem _ w), g2, .inr ⟨m', rfl, b1, b2, by rw [get_put ml, if_neg z]; exact b3⟩⟩
    · obtain ⟨e', he', ns', ⟨z, _⟩ | ⟨m', rfl, b1, b2, b3⟩, sub⟩ := f2.big p hp
      · cases z
      by_cases z : m' = m
      · subst z
        have en : ns' = ns := by
          rw [b3] at m3
          injection m3 with m3
          injection m3 with m3
          have := congrArg (List.map strOf) m3
          rw [List.map_map, List.map_map] at this
          have ia : ns'.map (strOf ∘ D.str) = ns' := List.map_id _
          have ib : ns.map (strOf ∘ D.str) = ns := List.map_id _
          rw [ia, ib] at this
          exact this
        exact ⟨_, he', ns ++ [c], .inr ⟨m', rfl, b1, b2, by rw [get_put ml, if_pos rfl, List.map_append]; rfl⟩, fun d hd => List.mem_append_left _ (en ▸ sub d hd)⟩
      · exact ⟨_, he', ns', .inr ⟨m', rfl, b1, b2, by rw [get_put ml, if_neg z]; exact b3⟩, sub⟩
theorem lap2G (hp : Sound (C.call ip) pickW) {w : CallW} (hs : Sound (C.call is) w) (ws : SomeS w) (hG : ∀ ns ms, G ns → (∀ c ∈ ms, c ∈ ns) → G ms) (f : FG G ps st0 n0 false [] st es) (h0 : η[0]? = some (some (.obj 1))) (h5 : η[5]? = some (some (.obj n0))) (h1 : 1 ≤ es.length) (h7 : es.length ≤ 100) :
    ∃ st2 e, execs C (b_cwLap2 is ip) η st = .ok (.nx η) st2 ∧ FG G ps st0 n0 false [] st2 (es ++ [e]) := by
  obtain ⟨e, st1, e1, c1, he⟩ := draw_oneG hp f h0 h5 h1 h7
  have f1 := f.calm c1
  obtain ⟨ns, n1, _, g1, n3⟩ := f1.el e he
  have hl := f.l0
  have n8 := n1.2.2
  letI T1 : Thr := ⟨st1.length, f1.so.two⟩
  have v : Val st1 e (lstS ns) := by
    refine ⟨below_strs ns, ?_⟩
    rcases n3 with ⟨_, z⟩ | ⟨m, rfl, m1, m2, m3⟩
    · exact .inl z
    · exact .inr ⟨m, rfl, by omega, .inl ⟨_, m3, rfl⟩⟩
  have a : Args st1 [(.clo, .obj 1), (.bor, lstS ns), (.clo, .int (0 : Nat))] [.obj 1, e, .int 0] := arg_clo below_src (arg_bor v (arg_clo rfl arg_nil))
  obtain ⟨d, st2, e2, a2, l2, ys, rfl, p, _⟩ := call_z hs (es := [.var 0, .idx (.var 5) (.callz ip [.var 0, .blt .len [.var 5]]), .int 0]) (η := η) (st := st) (es_ok rfl (ev_var h0) (es_ok rfl e1 (es_ok rfl ev_int es_nil))) f1.so a (ws .bor (lstS ns) (ns.map .str) 0 (.inr rfl) rfl (by rw [List.length_map]; omega))
  obtain ⟨ms, rfl, p2⟩ := p.strs
  have f2 := f1.calm (calm_of a2 l2)
  have nl := get_lt f2.at_
  have e3 : execs C (b_cwLap2 is ip) η st = .ok (.nx η) (st2.put n0 (.lst (es ++ [lstS ms]))) :=
    (ex_nx (ex_expr (ev_mth (xs := es) (ev_var h5) (by simp only [lstOf, f.at_]) (es_ok rfl e2 es_nil) (append_obj f2.at_ (by rw [LIM_eq]; omega))))).trans ex_nil
  have hn := f2.hn
  have bel : belowO st2.length (.lst (es ++ [lstS ms])) = true := by
    show belows st2.length (es ++ [lstS ms]) = true
    rw [belows_all, List.all_append]
    obtain ⟨_, _, _, _, k⟩ := f2.so
    have k1 : belows st2.length es = true := k n0 _ (by omega) f2.at_
    rw [belows_all] at k1
    rw [k1]
    show (below st2.length (lstS ms) && true) = true
    rw [show below st2.length (lstS ms) = belows st2.length (ms.map .str) by simp only [lstS, below], below_strs]
    rfl
  have keep : ∀ {e' : D} {ns' : List Str}, EntAt st0.length n0 false st2 e' ns' → EntAt st0.length n0 false (st2.put n0 (.lst (es ++ [lstS ms]))) e' ns' := fun h => by
    rcases h with h | ⟨m', rfl, b1, b2, b3⟩
    · exact .inl h
    · exact .inr ⟨m', rfl, b1, b2, by rw [get_put nl, if_neg b2]; exact b3⟩
  refine ⟨_, lstS ms, e3, f2.so.put (by omega) nl bel, f2.l0, f2.hn, by rw [get_put nl, if_pos rfl], fun e' he' => ?_, fun p hp => ?_, fun n k1 k2 => by rw [get_put nl, if_neg (by omega)]; exact f2.old n k1 k2⟩
  · rcases List.mem_append.mp he' with z | z
    · obtain ⟨ns', a1, a2, g2, a3⟩ := f2.el e' z
      exact ⟨ns', a1, a2, g2, keep a3⟩
    · (rw [List.mem_singleton.mp z])
      exact ⟨ms, p2.names n1, fun c _ => List.not_mem_nil, hG ns ms g1 fun c hc => p2.mem hc, .inl ⟨rfl, rfl⟩⟩
  · obtain ⟨e', he', ns', a1, a2⟩ := f2.big p hp
    exact ⟨e', List.mem_append_left _ he', ns', keep a1, a2⟩
end
/-- a web with a core of some of the names -/
structure Cored (cs : List Str) (most : Nat) (hs : List (List Str)) : Prop where
  web : WebOk hs
  core : ∃ (k : Nat) (sh : Bool), 3 ≤ k ∧ k ≤ most ∧ k ≤ cs.length ∧ (∀ h ∈ hs, InCore cs (cs.take k) (pieces sh (cs.take k)) h) ∧ ∀ p ∈ pieces sh (cs.take k), ∃ h ∈ hs, ∀ c ∈ p, c ∈ h
def CwG (w : CallW) : Prop := ∀ (cs : List Str) (most : Nat), Names cs → 3 ≤ most → most ≤ 7 → 3 ≤ cs.length → Draws w [(.clo, .obj 1), (.clo, lstS cs), (.clo, .int most)] fun r => ∃ hs, r = webS hs ∧ Cored cs most hs
def coredG : CallW := fun as _ Q => ∃ (cs : List Str) (most : Nat), as = [(.clo, .obj 1), (.clo, lstS cs), (.clo, .int most)] ∧ Names cs ∧ 3 ≤ most ∧ most ≤ 7 ∧ 3 ≤ cs.length ∧ ∀ hs, Cored cs most hs → Q .clo (webS hs)
theorem cored_sG : CwG coredG := fun cs most h1 h2 h3 h4 X Q hq => ⟨cs, most, rfl, h1, h2, h3, h4, fun hs h => hq _ ⟨hs, rfl, h⟩⟩
theorem cored_runG {P : Prg} {n idc ik ip is ia : Nat} {wc ws wa : CallW} (hc : Sound (callD P n idc) wc) (cc : CoreS wc) (hk : ∃ m, n = m + 1 ∧ P.defs[ik]? = some ⟨2, 5, b_l_core_pieces⟩) (hp : Sound (callD P n ip) pickW) (hs : Sound (callD P n is) ws) (ss : SomeS ws) (ha : Sound (callD P n ia) wa) (aa : AoS wa)
    {st0 : Sto} (so : StoOk st0) {cs : List Str} {most : Nat} (nc : Names cs) (h3 : 3 ≤ most) (h5 : most ≤ 7) (hl : 3 ≤ cs.length) :
    ∃ hs st', execs ⟨P.glbs, callD P n⟩ (b_l_draw_cored_web idc ik ip is ia) [some (.obj 1), some (lstS cs), some (.int most), none, none, none, none, none, none] st0 = .ok (.rt (webS hs)) st' ∧ After st0 st' ∧ Cored cs most hs := by
  have l8 := nc.2.2
  have l2 := so.two
  -- the core
  letI T0 : Thr := ⟨st0.length, so.two⟩
  obtain ⟨d, st1, e1, a1, len1, k0, sh, rfl, k1, k2, k3⟩ := call_z (C := ⟨P.glbs, callD P n⟩) hc (es := [.var 0, .var 1, .int 3, .var 2]) (η := [some (.obj 1), some (lstS cs), some (.int most), none, none, none, none, none, none]) (es_ok rfl (ev_var rfl) (es_ok rfl (ev_var rfl) (es_ok rfl ev_int (es_ok rfl (ev_var rfl) es_nil)))) so
    (arg_clo below_src (arg_clo (below_strs cs) (arg_clo rfl (arg_clo rfl arg_nil)))) (cc .clo (lstS cs) cs 3 most (.inl rfl) rfl h3 (by omega))
  have c1 := calm_of a1 len1
  obtain ⟨k, ek, z1, z2, z3⟩ : ∃ k, cs.take k0 = cs.take k ∧ 3 ≤ k ∧ k ≤ most ∧ k ≤ cs.length := by
    rcases Nat.le_total k0 cs.length with z | z
    · exact ⟨k0, rfl, k1, k2, z⟩
    · exact ⟨cs.length, by rw [List.take_of_length_le z, List.take_of_length_le (Nat.le_refl _)], hl, by omega, Nat.le_refl _⟩
  rw [ek] at e1
  have lk : (cs.take k).length = k := by rw [List.length_take]; omega
  have nk : Names (cs.take k) := nc.sub (List.take_sublist _ _)
  have x1 : execS ⟨P.glbs, callD P n⟩ (.tset (.tp [.nm 3, .nm 4]) (.callz idc [.var 0, .var 1, .int 3, .var 2])) [some (.obj 1), some (lstS cs), some (.int most), none, none, none, none, none, none] st0 = .ok (.nx [some (.obj 1), some (lstS cs), some (.int most), some (.str (wordS sh)), some (lstS (cs.take k)), none, none, none, none]) st1 := by
    rw [execS, e1, ok_bind']
    rfl
  -- its pieces
  obtain ⟨m, rfl, hk⟩ := hk
  have e2 := pieces_run (C := ⟨P.glbs, callD P m⟩) (sh := sh) (cols := cs.take k) (st := st1) (by omega)
  have x2 := ex_set (i := 5) (ev_call (C := ⟨P.glbs, callD P (m + 1)⟩) (f := ik) (es := [.var 3, .var 4]) (η := [some (.obj 1), some (lstS cs), some (.int most), some (.str (wordS sh)), some (lstS (cs.take k)), none, none, none, none]) (es_ok rfl (ev_var rfl) (es_ok rfl (ev_var rfl) es_nil)) (call_rt hk rfl e2))
  have pn := pieces_names (sh := sh) nk (by omega)
  have pl := pieces_len (sh := sh) (cols := cs.take k)
  rw [lk] at x2 pl
  generalize hst2 : (O.lst ((List.range k).map fun i => .obj (st1.length + i)) :: (((pieces sh (cs.take k)).map fun p => O.lst (p.map .str)).reverse ++ st1)) = st2 at x2
  have g0 : Sto.get st2 (st1.length + k) = some (.lst ((List.range k).map fun i => .obj (st1.length + i))) := by
    rw [← hst2, get_push, if_pos (by rw [List.length_append, List.length_reverse, List.length_map, pl]; omega)]
  have gi : ∀ i, i < k → Sto.get st2 (st1.length + i) = some (.lst (((pieces sh (cs.take k)).getD i []).map .str)) := fun i hi => by
    rw [← hst2, get_push, if_neg (by rw [List.length_append, List.length_reverse, List.length_map, pl]; omega), get_new, List.getElem?_map, List.getD_eq_getElem?_getD, List.getElem?_eq_getElem (by omega)]
    rfl
  have f2 : FG (InCore cs (cs.take k) (pieces sh (cs.take k))) (pieces sh (cs.take k)) st0 (st1.length + k) true (cs.drop k) st2 ((List.range k).map fun i => .obj (st1.length + i)) := by
    refine ⟨?_, l2, by omega, g0, fun e he => ?_, fun p hp => ?_, fun n h1 h2 => ?_⟩
    · rw [← hst2]
      have := c1.so.news (news := O.lst ((List.range k).map fun i => .obj (st1.length + i)) :: ((pieces sh (cs.take k)).map fun p => O.lst (p.map .str)).reverse) fun o ho => ?_
      · exact this
      · rw [List.length_cons, List.length_reverse, List.length_map, pl]
        rcases List.mem_cons.mp ho with rfl | ho
        · show belows _ _ = true
          rw [belows_all, List.all_eq_true]
          intro x hx
          obtain ⟨i, hi, rfl⟩ := List.mem_map.mp hx
          have := List.mem_range.mp hi
          simp only [below, decide_eq_true_eq]
          omega
        · obtain ⟨p, _, rfl⟩ := List.mem_map.mp (List.mem_reverse.mp ho)
          exact below_strs p
    · obtain ⟨i, hi, rfl⟩ := List.mem_map.mp he
      have hi := List.mem_range.mp hi
      have pm : (pieces sh (cs.take k)).getD i [] ∈ pieces sh (cs.take k) := by
        rw [List.getD_eq_getElem?_getD, List.getElem?_eq_getElem (by omega)]
        exact List.getElem_mem _
      obtain ⟨q1, q2⟩ := pn _ pm
      refine ⟨_, q1, fun c hc hr => ?_, ⟨fun c hc => List.mem_of_mem_take (q2 c hc), _, pm, fun c hc _ => hc⟩, .inr ⟨_, rfl, by omega, by omega, gi i hi⟩⟩
      have nd := nc.1
      rw [← List.take_append_drop k cs] at nd
      exact (List.nodup_append.mp nd).2.2 c (q2 c hc) c hr rfl
    · obtain ⟨i, hi, rfl⟩ := List.getElem_of_mem hp
      have hi : i < k := by omega
      refine ⟨.obj (st1.length + i), List.mem_map.mpr ⟨i, List.mem_range.mpr hi, rfl⟩, _, .inr ⟨_, rfl, by omega, by omega, gi i hi⟩, fun c hc => ?_⟩
      rw [List.getD_eq_getElem?_getD, List.getElem?_eq_getElem (by omega)]
      exact hc
    · rw [← hst2, get_push, if_neg (by rw [List.length_append]; omega), get_old (by omega)]
      exact c1.fr n h1
  -- further columns
  have x3 : ∃ x6 st3, execS ⟨P.glbs, callD P (m + 1)⟩ (.for_ (.nm 6) (.itv (.slc (.var 1) (some (.blt .len [.var 4])) none)) (b_cwLap1 ip)) [some (.obj 1), some (lstS cs), some (.int most), some (.str (wordS sh)), some (lstS (cs.take k)), some (.obj (st1.length + k)), none, none, none] st2 = .ok (.nx [some (.obj 1), some (lstS cs), some (.int most), some (.str (wordS sh)), some (lstS (cs.take k)), some (.obj (st1.length + k)), x6, none, none]) st3 ∧ FG (InCore cs (cs.take k) (pieces sh (cs.take k))) (pieces sh (cs.take k)) st0 (st1.length + k) true [] st3 ((List.range k).map fun i => .obj (st1.length + i)) := by
    have ei : evalI ⟨P.glbs, callD P (m + 1)⟩ (.itv (.slc (.var 1) (some (.blt .len [.var 4])) none)) [some (.obj 1), some (lstS cs), some (.int most), some (.str (wordS sh)), some (lstS (cs.take k)), some (.obj (st1.length + k)), none, none, none] st2 = .ok ((cs.drop k).map .str, []) st2 := by
      have el := ev_len (C := ⟨P.glbs, callD P (m + 1)⟩) (i := 4) (η := [some (.obj 1), some (lstS cs), some (.int most), some (.str (wordS sh)), some (lstS (cs.take k)), some (.obj (st1.length + k)), none, none, none]) (d := lstS (cs.take k)) (xs := (cs.take k).map .str) (st := st2) rfl (fun _ h => by cases h) rfl
      rw [List.length_map, lk] at el
      rw [evalI, ev_slc (ev_var rfl) (eo_some el) eo_none (slc_strs (cs := cs)), ok_bind', cutL_drop]
      rfl
    have loop : ∀ (rest : List Str) (x6 : Option D) (st : Sto), Names rest → (∀ c ∈ rest, c ∈ cs.drop k) → FG (InCore cs (cs.take k) (pieces sh (cs.take k))) (pieces sh (cs.take k)) st0 (st1.length + k) true rest st ((List.range k).map fun i => .obj (st1.length + i)) → ∃ x6' st3, forD (.nm 6) (execs ⟨P.glbs, callD P (m + 1)⟩ (b_cwLap1 ip)) [] (rest.map .str) [some (.obj 1), some (lstS cs), some (.int most), some (.str (wordS sh)), some (lstS (cs.take k)), some (.obj (st1.length + k)), x6, none, none] st = .ok (.nx [some (.obj 1), some (lstS cs), some (.int most), some (.str (wordS sh)), some (lstS (cs.take k)), some (.obj (st1.length + k)), x6', none, none]) st3 ∧ FG (InCore cs (cs.take k) (pieces sh (cs.take k))) (pieces sh (cs.take k)) st0 (st1.length + k) true [] st3 ((List.range k).map fun i => .obj (st1.length + i)) := by
      intro rest
      induction rest with
      | nil => exact fun x6 st _ _ f => ⟨x6, st, rfl, f⟩
      | cons c rest ih =>
        intro x6 st nr rd f
        have cd := rd c (List.mem_cons_self ..)
        have ck : c ∉ cs.take k := fun z => by
          have nd := nc.1
          rw [← List.take_append_drop k cs] at nd
          exact (List.nodup_append.mp nd).2.2 c z c cd rfl
        have nd := List.nodup_cons.mp nr.1
        obtain ⟨st2', e, f'⟩ := lap1G (C := ⟨P.glbs, callD P (m + 1)⟩) (η := [some (.obj 1), some (lstS cs), some (.int most), some (.str (wordS sh)), some (lstS (cs.take k)), some (.obj (st1.length + k)), some (.str c), none, none]) hp (nr.2.1 c (List.mem_cons_self ..)) nd.1 (fun ns g => ⟨fun d hd => (List.mem_append.mp hd).elim (g.sub d) fun z => by rw [List.mem_singleton.mp z]; exact List.mem_of_mem_drop cd, by
          obtain ⟨p, p1, p2⟩ := g.one
          exact ⟨p, p1, fun d hd dk => (List.mem_append.mp hd).elim (fun z => p2 d z dk) fun z => absurd (List.mem_singleton.mp z ▸ dk) ck⟩⟩) f rfl rfl rfl (by rw [List.length_map, List.length_range]; omega) (by rw [List.length_map, List.length_range]; omega)
        obtain ⟨x6', st3, e3, f3⟩ := ih (some (.str c)) st2' (nr.sub (List.sublist_cons_self ..)) (fun d hd => rd d (List.mem_cons_of_mem _ hd)) f'
        refine ⟨x6', st3, ?_, f3⟩
        rw [List.map_cons, forD]
        show ((execs ⟨P.glbs, callD P (m + 1)⟩ (b_cwLap1 ip) [some (.obj 1), some (lstS cs), some (.int most), some (.str (wordS sh)), some (lstS (cs.take k)), some (.obj (st1.length + k)), some (.str c), none, none] st).bind _) = _
        rw [e, ok_bind']
        exact e3
    obtain ⟨x6, st3, e3, f3⟩ := loop (cs.drop k) none st2 (nc.sub (List.drop_sublist _ _)) (fun c hc => hc) f2
    refine ⟨x6, st3, ?_, f3⟩
    rw [execS, ei, ok_bind']
    exact e3
  obtain ⟨x6, st3, x3, f3⟩ := x3
  -- further lists
  have f3' : FG (InCore cs (cs.take k) (pieces sh (cs.take k))) (pieces sh (cs.take k)) st0 (st1.length + k) false [] st3 ((List.range k).map fun i => .obj (st1.length + i)) := ⟨f3.so, f3.l0, f3.hn, f3.at_, fun e he => by
    obtain ⟨ns, b1, b2, b0, ⟨z, _⟩ | b3⟩ := f3.el e he
    · cases z
    · exact ⟨ns, b1, b2, b0, .inr b3⟩, fun p hp => by
    obtain ⟨e, he, ns, ⟨z, _⟩ | b3, b4⟩ := f3.big p hp
    · cases z
    · exact ⟨e, he, ns, .inr b3, b4⟩, f3.old⟩
  have x4 : ∃ x7 st4 es, execS ⟨P.glbs, callD P (m + 1)⟩ (.for_ (.nm 7) (.rng [.blt .min [.op .sub (.int 7) (.blt .len [.var 5]), .callz ip [.var 0, .int 3]]]) (b_cwLap2 is ip)) [some (.obj 1), some (lstS cs), some (.int most), some (.str (wordS sh)), some (lstS (cs.take k)), some (.obj (st1.length + k)), x6, none, none] st3 = .ok (.nx [some (.obj 1), some (lstS cs), some (.int most), some (.str (wordS sh)), some (lstS (cs.take k)), some (.obj (st1.length + k)), x6, x7, none]) st4 ∧ FG (InCore cs (cs.take k) (pieces sh (cs.take k))) (pieces sh (cs.take k)) st0 (st1.length + k) false [] st4 es ∧ 1 ≤ es.length ∧ es.length ≤ 7 := by
    obtain ⟨v, st3', e3, c3, v0, v1, _⟩ := pick_z (C := ⟨P.glbs, callD P (m + 1)⟩) (e := .int 3) (m := 3) (η := [some (.obj 1), some (lstS cs), some (.int most), some (.str (wordS sh)), some (lstS (cs.take k)), some (.obj (st1.length + k)), x6, none, none]) hp rfl rfl ev_int (ev_var rfl) f3.so (by decide)
    have v1 := v1 (by decide)
    have fl := f3'.calm c3
    have el := len_obj (C := ⟨P.glbs, callD P (m + 1)⟩) (i := 5) (η := [some (.obj 1), some (lstS cs), some (.int most), some (.str (wordS sh)), some (lstS (cs.take k)), some (.obj (st1.length + k)), x6, none, none]) rfl f3.at_
    rw [List.length_map, List.length_range] at el
    have em : evalE ⟨P.glbs, callD P (m + 1)⟩ (.blt .min [.op .sub (.int 7) (.blt .len [.var 5]), .callz ip [.var 0, .int 3]]) [some (.obj 1), some (lstS cs), some (.int most), some (.str (wordS sh)), some (lstS (cs.take k)), some (.obj (st1.length + k)), x6, none, none] st3 = .ok (.int (if v < 7 - (k : Int) then v else 7 - k)) st3' :=
      ev_blt (es_ok rfl (ev_op ev_int el op_sub) (es_ok rfl e3 es_nil)) rfl
    have hg : ∃ g : Nat, (if v < 7 - (k : Int) then v else 7 - k) = (g : Int) ∧ g + k ≤ 7 := by
      split
      · exact ⟨v.toNat, by omega, by omega⟩
      · exact ⟨7 - k, by omega, by omega⟩
    obtain ⟨g, hg, gk⟩ := hg
    rw [hg] at em
    have loop : ∀ (g : Nat) (lo : Int) (x7 : Option D) (st : Sto) (es : List D), FG (InCore cs (cs.take k) (pieces sh (cs.take k))) (pieces sh (cs.take k)) st0 (st1.length + k) false [] st es → 1 ≤ es.length → es.length + g ≤ 7 → ∃ x7' st4 es', forD (.nm 7) (execs ⟨P.glbs, callD P (m + 1)⟩ (b_cwLap2 is ip)) [] (rngL lo g) [some (.obj 1), some (lstS cs), some (.int most), some (.str (wordS sh)), some (lstS (cs.take k)), some (.obj (st1.length + k)), x6, x7, none] st = .ok (.nx [some (.obj 1), some (lstS cs), some (.int most), some (.str (wordS sh)), some (lstS (cs.take k)), some (.obj (st1.length + k)), x6, x7', none]) st4 ∧ FG (InCore cs (cs.take k) (pieces sh (cs.take k))) (pieces sh (cs.take k)) st0 (st1.length + k) false [] st4 es' ∧ 1 ≤ es'.length ∧ es'.length ≤ 7 := by
      intro g
      induction g with
      | zero => exact fun lo x7 st es f h1 h2 => ⟨x7, st, es, rfl, f, h1, h2⟩
      | succ g ih =>
        intro lo x7 st es f h1 h2
        obtain ⟨st2', e, ex, f'⟩ := lap2G (C := ⟨P.glbs, callD P (m + 1)⟩) (η := [some (.obj 1), some (lstS cs), some (.int most), some (.str (wordS sh)), some (lstS (cs.take k)), some (.obj (st1.length + k)), x6, some (.int lo), none]) hp hs ss (fun ns ms g hm => ⟨fun c hc => g.sub c (hm c hc), by
          obtain ⟨p, p1, p2⟩ := g.one
          exact ⟨p, p1, fun c hc ck => p2 c (hm c hc) ck⟩⟩) f rfl rfl h1 (by omega)
        obtain ⟨x7', st4, es', e4, f4⟩ := ih (lo + 1) (some (.int lo)) st2' (es ++ [e]) f' (by rw [List.length_append]; omega) (by rw [List.length_append, List.length_singleton]; omega)
        refine ⟨x7', st4, es', ?_, f4⟩
        rw [rngL, forD]
        show ((execs ⟨P.glbs, callD P (m + 1)⟩ (b_cwLap2 is ip) [some (.obj 1), some (lstS cs), some (.int most), some (.str (wordS sh)), some (lstS (cs.take k)), some (.obj (st1.length + k)), x6, some (.int lo), none] st).bind _) = _
        rw [ex, ok_bind']
        exact e4
    obtain ⟨x7, st4, es, e4, f4⟩ := loop g 0 none st3' _ fl (by rw [List.length_map, List.length_range]; omega) (by rw [List.length_map, List.length_range]; omega)
    refine ⟨x7, st4, es, ?_, f4⟩
    rw [execS, evalI, em, ok_bind']
    simp only
    rw [if_pos (by unfold rngOk; rw [decide_eq_true_eq]; omega), ok_bind', show ((g : Int).toNat) = g by simp]
    exact e4
  obtain ⟨x7, st4, es, x4, f4, es1, es7⟩ := x4
  -- all of them, in any order
  have nl := f4.hn
  letI T4 : Thr := ⟨st4.length, f4.so.two⟩
  have v : Val st4 (.obj (st1.length + k)) (.lst es) := by
    obtain ⟨_, _, _, _, kk⟩ := f4.so
    exact ⟨by simp only [below]; exact kk _ _ (by omega) f4.at_, .inr ⟨_, rfl, by omega, .inl ⟨_, f4.at_, rfl⟩⟩⟩
  obtain ⟨d, st5, e5, a5, len5, ys, rfl, p5⟩ := call_z (C := ⟨P.glbs, callD P (m + 1)⟩) ha (es := [.var 0, .var 5]) (η := [some (.obj 1), some (lstS cs), some (.int most), some (.str (wordS sh)), some (lstS (cs.take k)), some (.obj (st1.length + k)), x6, x7, none]) (st := st4) (es_ok rfl (ev_var rfl) (es_ok rfl (ev_var rfl) es_nil)) f4.so
    (arg_clo below_src (arg_bor v arg_nil)) (aa .bor (.lst es) es (.inr rfl) rfl (by omega))
  have f5 := f4.calm (calm_of a5 len5)
  have at5 : ∀ y ∈ ys, ∃ ns, Names ns ∧ lstOf st5 y = some (ns.map .str) ∧ InCore cs (cs.take k) (pieces sh (cs.take k)) ns := fun y hy => by
    obtain ⟨ns, b1, _, b0, ⟨_, rfl⟩ | ⟨j, rfl, b3, b4, b5⟩⟩ := f5.el y (p5.mem_iff.mp hy)
    · exact ⟨ns, b1, rfl, b0⟩
    · exact ⟨ns, b1, by simp only [lstOf, b5], b0⟩
  have yl := p5.length_eq
  have x5 := comp_then (C := ⟨P.glbs, callD P (m + 1)⟩) (j := 8) (e := .blt .tuple [.blt .sorted [.var 8]]) (ds := ys) (gs := []) (h := fun d => tupS (sortS (namesAt st5 d))) (it := .itv (.callz ia [.var 0, .var 5])) (η := [some (.obj 1), some (lstS cs), some (.int most), some (.str (wordS sh)), some (lstS (cs.take k)), some (.obj (st1.length + k)), x6, x7, none]) (st := st4) (st1 := st5)
    (by rw [evalI, e5, ok_bind']; rfl) rfl (by rw [LIM_eq]; omega) fun y hy => by
      obtain ⟨ns, b1, b2, _⟩ := at5 y hy
      rw [namesAt_of b2]
      exact ev_blt1 rfl (ev_blt1 rfl (ev_var rfl) (sort_at b2)) rfl
  refine ⟨ys.map fun d => sortS (namesAt st5 d), st5, ?_, ⟨f5.so, by have := get_lt f5.at_; omega, f5.old⟩, ⟨by rw [List.length_map]; omega, by rw [List.length_map]; omega, fun h hh => ?_⟩, k, sh, z1, z2, z3, fun h hh => ?_, fun p hp => ?_⟩
  · unfold b_l_draw_cored_web
    rw [ex_nx x1, ex_nx x2]
    refine (ex_nx x3).trans ((ex_nx x4).trans (ex_rt (ex_ret (ev_blt1 rfl (ev_frl x5) ?_))))
    unfold webS
    rw [List.map_map]
    rfl
  · obtain ⟨y, hy, rfl⟩ := List.mem_map.mp hh
    obtain ⟨ns, b1, b2, _⟩ := at5 y hy
    rw [namesAt_of b2]
    exact ⟨ns, b1, rfl⟩
  · obtain ⟨y, hy, rfl⟩ := List.mem_map.mp hh
    obtain ⟨ns, b1, b2, b3⟩ := at5 y hy
    rw [namesAt_of b2]
    obtain ⟨p, p1, p2⟩ := b3.one
    exact ⟨fun c hc => b3.sub c (sortS_mem.mp hc), p, p1, fun c hc ck => p2 c (sortS_mem.mp hc) ck⟩
  · obtain ⟨e, he, ns, en, sub⟩ := f5.big p hp
    refine ⟨sortS (namesAt st5 e), List.mem_map.mpr ⟨e, p5.mem_iff.mpr he, rfl⟩, fun c hc => sortS_mem.mpr ?_⟩
    have : lstOf st5 e = some (ns.map .str) := by
      rcases en with ⟨_, rfl⟩ | ⟨j, rfl, b3, b4, b5⟩
      · rfl
      · simp only [lstOf, b5]
    rw [namesAt_of this]
    exact sub c hc
theorem cored_soundG {P : Prg} {n f idc ik ip is ia : Nat} {wc ws wa : CallW} (hd : P.defs[f]? = some ⟨3, 9, b_l_draw_cored_web idc ik ip is ia⟩) (hc : Sound (callD P n idc) wc) (cc : CoreS wc) (hk : ∃ m, n = m + 1 ∧ P.defs[ik]? = some ⟨2, 5, b_l_core_pieces⟩) (hp : Sound (callD P n ip) pickW) (hs : Sound (callD P n is) ws) (ss : SomeS ws) (ha : Sound (callD P n ia) wa) (aa : AoS wa) : Sound (callD P (n + 1) f) coredG := by
  intro T as ds st X Q w so _ a
  obtain ⟨cs, most, rfl, nc, h3, h5, hl, hq⟩ := w
  match ds, a with
  | [d1, d2, d3], ⟨⟨e1, _⟩, ⟨e2, _⟩, ⟨e3, _⟩, _⟩ =>
    have e1 : d1 = .obj 1 := e1
    have e2 : d2 = lstS cs := e2
    have e3 : d3 = .int most := e3
    subst e1 e2 e3
    obtain ⟨web, st', e, aft, ok⟩ := cored_runG hc cc hk hp hs ss ha aa so nc h3 h5 hl
    rw [call_rt hd rfl e]
    refine ⟨.clo, webS web, aft, ⟨rfl, ?_⟩, hq web ok⟩
    unfold webS
    simp only [below]
    rw [belows_all, List.all_eq_true]
    intro x hx
    obtain ⟨h, _, rfl⟩ := List.mem_map.mp hx
    simp only [tupS, below]
    exact below_strs h
end Dv
namespace Dv
def badW : CallW := fun _ _ _ => False
end Dv
namespace Dv
theorem CwG.s {w : CallW} (h : CwG w) : CwS w := fun cs most nc h3 h5 hl X Q hq => h cs most nc h3 (by omega) (by omega) X Q fun d ⟨hs, e, c⟩ => hq d ⟨hs, e, c.web⟩
def prims3 (ip ic k : Nat) : Prims := fun n f => if f = ip then some pickW else if f = ic then (if n < k then some badW else some coredG) else none
theorem pick_at3 {P : Prg} {ip ic k n : Nat} (h : 1 ≤ n) : callW P (prims3 ip ic k) n ip = pickW := by
  (obtain ⟨m, rfl⟩ : ∃ m, n = m + 1 := ⟨n - 1, by omega⟩)
  funext as X Q
  simp only [callW, prims3, if_true]
theorem cored_at3 {P : Prg} {ip ic k n : Nat} (hne : ic ≠ ip) (h : k + 1 ≤ n) : callW P (prims3 ip ic k) n ic = coredG := by
  (obtain ⟨m, rfl⟩ : ∃ m, n = m + 1 := ⟨n - 1, by omega⟩)
  funext as X Q
  simp only [callW, prims3, if_true, if_neg hne, if_neg (show ¬ m < k by omega)]
theorem prims3_ok {P : Prg} {ip ic k idc ik is ia : Nat} (hp : P.defs[ip]? = some ⟨2, 6, b_pick⟩) (hd : P.defs[ic]? = some ⟨3, 9, b_l_draw_cored_web idc ik ip is ia⟩) (hk : P.defs[ik]? = some ⟨2, 5, b_l_core_pieces⟩) (k1 : 1 ≤ k)
    (cc : ∀ n, k ≤ n → CoreS (callW P (prims3 ip ic k) n idc)) (ss : ∀ n, k ≤ n → SomeS (callW P (prims3 ip ic k) n is)) (aa : ∀ n, k ≤ n → AoS (callW P (prims3 ip ic k) n ia)) : PrimOk P (prims3 ip ic k) := fun n f w e ih => by
  unfold prims3 at e
  split at e
  · rename_i z
    cases e
    subst z
    exact pick_sound hp
  · split at e
    · rename_i z
      subst z
      split at e
      · cases e
        intro T as ds st X Q w
        exact w.elim
      · rename_i hn
        cases e
        have hn : k ≤ n := by omega
        have hs : ∀ g, Sound (callD P n g) (callW P (prims3 ip f k) n g) := fun g => @ih g
        have hpk : Sound (callD P n ip) pickW := by
          have h : Sound (callD P n ip) (callW P (prims3 ip f k) n ip) := fun {T} => @hs ip T
          rw [pick_at3 (by omega)] at h
          exact @h
        exact @cored_soundG P n f idc ik ip is ia _ _ _ hd (fun {T} => @hs idc T) (cc n hn) ⟨n - 1, by omega, hk⟩ (fun {T} => @hpk T) (fun {T} => @hs is T) (ss n hn) (fun {T} => @hs ia T) (aa n hn)
    · cases e
end Dv
namespace Dv
open PySem (Str)
def opB : List Sx := [.set 1 (.op .mod (.blt .int [.op .add (.op .add (.op .mul (.var 1) (.int 69069)) (.op .mul (.var 2) (.int 31))) (.int 5)]) (.int 2147483629))]
def b_open : List Sx := [.set 1 (.int 11), .for_ (.nm 2) (.itv (.var 0)) opB, .set 3 (.frl (.comp [2] (.nm 2) (.itv (.var 0)) [] (.blt .abs [.var 2]))), .ret (.ownd (.disp [.str ⟨#[99, 101, 108, 108, 115]⟩, .own (.rev (.var 3)), .str ⟨#[108, 101, 102, 116]⟩, .int 1, .str ⟨#[109, 105, 120, 101, 100]⟩, .var 1, .str ⟨#[116, 117, 114, 110]⟩, .int 0]))]
theorem open_loop {C : Cst} {s : D} : ∀ (ns : List Int) (m : Int) (x : Option D), ∃ m' x', forD (.nm 2) (execs C opB) [] (ns.map .int) [some s, some (.int m), x, none] [] = .ok (.nx [some s, some (.int m'), x', none]) []
  | [], m, x => ⟨m, x, rfl⟩
  | n :: ns, m, x => by
    have body : execs C opB [some s, some (.int m), some (.int n), none] [] = .ok (.nx [some s, some (.int (fm (m * 69069 + n * 31 + 5) 2147483629)), some (.int n), none]) [] := by
      unfold opB
      rw [ex_nx (ex_set (ev_op (ev_blt1 rfl (ev_op (ev_op (ev_op (ev_var rfl) ev_int (op_mul (.inr (by decide)))) (ev_op (ev_var rfl) ev_int (op_mul (.inr (by decide)))) op_add) ev_int op_add) blt_int) ev_int (op_mod (by decide))))]
      exact ex_nil
    obtain ⟨m', x', h⟩ := open_loop ns (fm (m * 69069 + n * 31 + 5) 2147483629) (some (.int n))
    refine ⟨m', x', ?_⟩
    rw [List.map_cons, forD]
    show ((execs C opB [some s, some (.int m), some (.int n), none] []).bind _) = _
    rw [body, ok_bind']
    exact h
theorem open_run (C : Cst) (ns : List Int) (hl : ns.length ≤ 63) : ∃ b : Bs, execs C b_open [some (.scr ns), none, none, none] [] = .ok (.rt (.obj 1)) (bs b) ∧ b.cs.length ≤ 63 := by
  obtain ⟨m, x, e1⟩ := open_loop (C := C) (s := .scr ns) ns 11 none
  have l0 : LIM = 16777216 := rfl
  have hi : ∀ η : Env, η[0]? = some (some (.scr ns)) → evalI C (.itv (.var 0)) η [] = .ok (ns.map .int, []) [] := fun η h => ei_var h rfl
  have e2 : execS C (.for_ (.nm 2) (.itv (.var 0)) opB) [some (.scr ns), some (.int 11), none, none] [] = .ok (.nx [some (.scr ns), some (.int m), x, none]) [] := by
    rw [execS, hi _ rfl, ok_bind']
    exact e1
  have e3 : evalE C (.frl (.comp [2] (.nm 2) (.itv (.var 0)) [] (.blt .abs [.var 2]))) [some (.scr ns), some (.int m), x, none] [] = .ok (.lst ((ns.map fun n => if n < 0 then -n else n).map .int)) [] := by
    refine (ev_frl (comp_plain (h := fun d => match d with | .int n => .int (if n < 0 then -n else n) | d => d) (hi _ rfl) rfl (by rw [List.length_map]; omega) fun d hd => ?_)).trans ?_
    · obtain ⟨n, _, rfl⟩ := List.mem_map.mp hd
      exact ev_blt1 rfl (ev_var rfl) rfl
    · rw [List.map_map, List.map_map]
      rfl
  refine ⟨⟨(ns.map fun n => if n < 0 then -n else n).reverse, 1, m, 0⟩, ?_, by simpa using hl⟩
  unfold b_open
  refine (ex_nx (ex_set ev_int)).trans ?_
  refine (ex_nx e2).trans ?_
  refine (ex_nx (ex_set e3)).trans ?_
  refine ex_rt (ex_ret ?_)
  have e4 : evalE C (.own (.rev (.var 3))) [some (.scr ns), some (.int m), x, some (.lst ((ns.map fun n => if n < 0 then -n else n).map .int))] [] = .ok (.obj 0) [.lst ((ns.map fun n => if n < 0 then -n else n).reverse.map .int)] := by
    refine (ev_own (st1 := []) (ds := ((ns.map fun n => if n < 0 then -n else n).map D.int).reverse) ?_).trans ?_
    · rw [evalL, ev_var rfl, ok_bind']
      rfl
    · rw [List.map_reverse]
      rfl
  show evalE C (.ownd (.disp _)) [some (.scr ns), some (.int m), x, some (.lst ((ns.map fun n => if n < 0 then -n else n).map .int))] [] = _
  rw [evalE, evalK]
  simp only [evalPs, ev_str, ok_bind', e4, ev_int, ev_var (i := 1) (d := .int m) (η := [some (.scr ns), some (.int m), x, some (.lst ((ns.map fun n => if n < 0 then -n else n).map .int))]) rfl]
  rfl
theorem open_ok {P : Prg} {i n : Nat} (h : P.defs[i]? = some ⟨1, 4, b_open⟩) (ns : List Int) (hl : ns.length ≤ 63) : ∃ b : Bs, callD P (n + 1) i [.scr ns] [] = .ok (.obj 1) (bs b) ∧ b.cs.length ≤ 63 := by
  obtain ⟨b, e, h1⟩ := open_run ⟨P.glbs, callD P n⟩ ns hl
  exact ⟨b, call_rt h rfl e, h1⟩
end Dv
namespace T_k14
open Dv
/-- is_number: value=0 -/
def b_is_number : List Sx := [.ret (.and (.isi (.var 0) [.int]) (.not (.isi (.var 0) [.bool])))]
/-- lies_within: one=0 other=1 column=2 -/
def b_lies_within : List Sx := [.ret (.blt .all [.frl (.comp [2] (.nm 2) (.itv (.var 0)) [] (.cmp .inn (.var 2) (.var 1)))])]
/-- is_ear: web=0 lot=1 x=2 y=3 common=4 z=5 column=6 -/
def b_is_ear : List Sx := [.set 4 (.frl (.comp2 [5, 6] (.nm 5) (.itv (.var 1)) [.cmp .ne (.var 5) (.var 2)] (.nm 6) (.itv (.idx (.var 0) (.var 2))) [.cmp .inn (.var 6) (.idx (.var 0) (.var 5))] (.var 6))), .ret (.and (.cmp .ne (.var 2) (.var 3)) (.callz 1 [.var 4, .idx (.var 0) (.var 3)]))]
/-- is_pair: web=0 value=1 one=2 -/
def b_is_pair : List Sx := [.ite (.or (.not (.isi (.var 1) [.tup])) (.or (.cmp .ne (.blt .len [.var 1]) (.int 2)) (.not (.blt .all [.frl (.comp [2] (.nm 2) (.itv (.var 1)) [] (.callz 0 [.var 2]))])))) [.ret (.bl false)] [], .ret (.and (.blt .all [.frl (.comp [2] (.nm 2) (.itv (.var 1)) [] (.chain .le .lt (.int 0) (.var 2) (.blt .len [.var 0])))]) (.cmp .ne (.idx (.var 1) (.int 0)) (.idx (.var 1) (.int 1))))]
/-- judge_folding: web=0 value=1 lot=2 k=3 x=4 y=5 one=6 z=7 -/
def b_judge_folding : List Sx := [.ite (.or (.not (.isi (.var 1) [.tup])) (.or (.cmp .ne (.blt .len [.var 1]) (.op .sub (.blt .len [.var 0]) (.int 1))) (.not (.blt .all [.frl (.comp [6] (.nm 6) (.itv (.var 1)) [] (.callz 3 [.var 0, .var 6]))])))) [.ret (.tup [.str ⟨#[102, 111, 114, 109]⟩])] [], .set 2 (.tupR (.blt .len [.var 0])), .for_ (.tp [.nm 3, .tp [.nm 4, .nm 5]]) (.enum (.var 1)) [.ite (.or (.cmp .nin (.var 4) (.var 2)) (.or (.cmp .nin (.var 5) (.var 2)) (.not (.callz 2 [.var 0, .var 2, .var 4, .var 5])))) [.ret (.tup [.str ⟨#[101, 97, 114]⟩, .var 3])] [], .set 2 (.blt .tuple [.frl (.comp [7] (.nm 7) (.itv (.var 2)) [.cmp .ne (.var 7) (.var 4)] (.var 7))])], .ret (.non)]
/-- _law_open_cells: _law_script=0 _law_mixed=1 _law_cell=2 _law_cells=3 -/
def b__law_open_cells : List Sx := [.set 1 (.int 11), .for_ (.nm 2) (.itv (.var 0)) [.set 1 (.op .mod (.blt .int [.op .add (.op .add (.op .mul (.var 1) (.int 69069)) (.op .mul (.var 2) (.int 31))) (.int 5)]) (.int 2147483629))], .set 3 (.frl (.comp [2] (.nm 2) (.itv (.var 0)) [] (.blt .abs [.var 2]))), .ret (.ownd (.disp [.str ⟨#[99, 101, 108, 108, 115]⟩, .own (.rev (.var 3)), .str ⟨#[108, 101, 102, 116]⟩, .int 1, .str ⟨#[109, 105, 120, 101, 100]⟩, .var 1, .str ⟨#[116, 117, 114, 110]⟩, .int 0]))]
/-- _law_pick: _law_source=0 _law_most=1 _law_cells=2 _law_left=3 _law_turn=4 _law_mixed=5 -/
def b__law_pick : List Sx := [.ite (.cmp .lt (.var 1) (.int 2)) [.ret (.int 0)] [], .set 2 (.idx (.var 0) (.str ⟨#[99, 101, 108, 108, 115]⟩)), .whl (.and (.cmp .lt (.idx (.var 0) (.str ⟨#[108, 101, 102, 116]⟩)) (.int 2)) (.cmp .gt (.blt .len [.var 2]) (.int 0))) [.isub (.var 0) (.str ⟨#[108, 101, 102, 116]⟩) (.mth .pop (.var 2) [])], .set 3 (.idx (.var 0) (.str ⟨#[108, 101, 102, 116]⟩)), .ite (.cmp .gt (.var 3) (.int 1)) [.isub (.var 0) (.str ⟨#[108, 101, 102, 116]⟩) (.op .fdiv (.var 3) (.var 1)), .ret (.op .mod (.blt .int [.var 3]) (.var 1))] [], .isub (.var 0) (.str ⟨#[116, 117, 114, 110]⟩) (.op .add (.idx (.var 0) (.str ⟨#[116, 117, 114, 110]⟩)) (.int 1)), .set 4 (.idx (.var 0) (.str ⟨#[116, 117, 114, 110]⟩)), .set 5 (.op .mod (.blt .int [.op .add (.idx (.var 0) (.str ⟨#[109, 105, 120, 101, 100]⟩)) (.op .mul (.var 4) (.int 104729))]) (.int 998244353)), .set 5 (.op .mod (.blt .int [.op .add (.op .mul (.var 5) (.var 5)) (.op .mul (.var 4) (.int 17))]) (.int 2147483647)), .ret (.op .mod (.blt .int [.op .fdiv (.var 5) (.int 16)]) (.var 1))]
/-- _law_any_order: _law_source=0 _law_things=1 _law_rest=2 _law_lap=3 -/
def b__law_any_order : List Sx := [.set 2 (.own (.bltl .list [.var 1])), .ret (.frl (.comp [3] (.nm 3) (.rng [.blt .len [.var 2]]) [] (.mth .popAt (.var 2) [.callz 6 [.var 0, .blt .len [.var 2]]])))]
/-- _law_draw_names: _law_source=0 _law_many=1 -/
def b__law_draw_names : List Sx := [.ret (.slc (.callz 7 [.var 0, .frl (.disp [.str ⟨#[97]⟩, .str ⟨#[98]⟩, .str ⟨#[97, 98]⟩, .str ⟨#[99]⟩, .str ⟨#[108, 111, 119]⟩, .str ⟨#[117, 112]⟩, .str ⟨#[120]⟩, .str ⟨#[122]⟩])]) none (some (.var 1)))]
/-- _law_draw_some: _law_source=0 _law_things=1 _law_few=2 _law_found=3 _law_one=4 -/
def b__law_draw_some : List Sx := [.set 3 (.frl (.comp [4] (.nm 4) (.itv (.callz 7 [.var 0, .var 1])) [.cmp .eq (.callz 6 [.var 0, .int 2]) (.int 0)] (.var 4))), .ret (.ite (.cmp .ge (.blt .len [.var 3]) (.var 2)) (.var 3) (.slc (.blt .list [.var 1]) none (some (.var 2))))]
/-- _law_choice_of: _law_source=0 _law_things=1 -/
def b__law_choice_of : List Sx := [.ret (.idx (.var 1) (.callz 6 [.var 0, .blt .len [.var 1]]))]
/-- _law_draw_heading: _law_source=0 _law_names=1 _law_least=2 -/
def b__law_draw_heading : List Sx := [.ret (.blt .tuple [.blt .sorted [.callz 9 [.var 0, .var 1, .var 2]]])]
/-- _law_draw_folding_web: _law_source=0 _law_names=1 _law_many=2 _law_rest=3 _law_found=4 _law_lap=5 _law_seam=6 _law_n=7 _law_one=8 -/
def b__law_draw_folding_web : List Sx := [.par [3, 4] [.blt .list [.var 1], .own (.disp [])], .for_ (.nm 5) (.rng [.var 2]) [.set 6 (.ite (.cmp .ne (.var 4) (.frl (.disp []))) (.callz 9 [.var 0, .idx (.var 4) (.callz 6 [.var 0, .blt .len [.var 4]]), .int 0]) (.frl (.disp []))), .set 7 (.idx (.frl (.disp [.int 1, .int 2, .int 1, .int 0])) (.callz 6 [.var 0, .int 4])), .expr (.mth .append (.var 4) [.op .add (.var 6) (.slc (.var 3) none (some (.var 7)))]), .set 3 (.slc (.var 3) (some (.var 7)) none)], .ret (.blt .tuple [.frl (.comp [8] (.nm 8) (.itv (.callz 7 [.var 0, .var 4])) [] (.blt .tuple [.blt .sorted [.var 8]]))])]
/-- _law_draw_core: _law_source=0 _law_names=1 _law_few=2 _law_most=3 _law_n=4 _law_word=5 -/
def b__law_draw_core : List Sx := [.set 4 (.op .add (.var 2) (.callz 6 [.var 0, .op .sub (.op .add (.var 3) (.int 1)) (.var 2)])), .set 5 (.ite (.or (.cmp .lt (.var 4) (.int 4)) (.cmp .eq (.callz 6 [.var 0, .int 2]) (.int 0))) (.str ⟨#[115, 104, 101, 108, 108]⟩) (.str ⟨#[114, 105, 110, 103]⟩)), .ret (.tup [.var 5, .slc (.blt .list [.var 1]) none (some (.var 4))])]
/-- _law_core_pieces: _law_word=0 _law_columns=1 _law_column=2 _law_one=3 _law_k=4 -/
def b__law_core_pieces : List Sx := [.ite (.cmp .eq (.var 0) (.str ⟨#[115, 104, 101, 108, 108]⟩)) [.ret (.own (.comp [2] (.nm 2) (.itv (.var 1)) [] (.own (.comp [3] (.nm 3) (.itv (.var 1)) [.cmp .ne (.var 3) (.var 2)] (.var 3)))))] [], .ret (.own (.comp [4] (.nm 4) (.rng [.blt .len [.var 1]]) [] (.own (.disp [.idx (.var 1) (.var 4), .idx (.op .add (.var 1) (.slc (.var 1) none (some (.int 1)))) (.op .add (.var 4) (.int 1))]))))]
/-- _law_draw_cored_web: _law_source=0 _law_names=1 _law_most=2 _law_word=3 _law_columns=4 _law_found=5 _law_column=6 _law_lap=7 _law_one=8 -/
def b__law_draw_cored_web : List Sx := [.tset (.tp [.nm 3, .nm 4]) (.callz 13 [.var 0, .var 1, .int 3, .var 2]), .set 5 (.call 14 [.var 3, .var 4]), .for_ (.nm 6) (.itv (.slc (.var 1) (some (.blt .len [.var 4])) none)) [.ite (.cmp .eq (.callz 6 [.var 0, .int 2]) (.int 0)) [.expr (.mth .append (.idx (.var 5) (.callz 6 [.var 0, .blt .len [.var 5]])) [.var 6])] []], .for_ (.nm 7) (.rng [.blt .min [.op .sub (.int 7) (.blt .len [.var 5]), .callz 6 [.var 0, .int 3]]]) [.expr (.mth .append (.var 5) [.callz 9 [.var 0, .idx (.var 5) (.callz 6 [.var 0, .blt .len [.var 5]]), .int 0]])], .ret (.blt .tuple [.frl (.comp [8] (.nm 8) (.itv (.callz 7 [.var 0, .var 5])) [] (.blt .tuple [.blt .sorted [.var 8]]))])]
/-- _law_draw_web: _law_source=0 _law_most=1 _law_names=2 _law_road=3 _law_few=4 _law_lap=5 -/
def b__law_draw_web : List Sx := [.par [2, 3] [.slc (.callz 8 [.var 0, .int 8]) none (some (.var 1)), .callz 6 [.var 0, .int 4]], .ite (.cmp .lt (.var 3) (.int 2)) [.ret (.callz 12 [.var 0, .var 2, .op .add (.int 1) (.callz 6 [.var 0, .int 5])])] [], .ite (.cmp .eq (.var 3) (.int 2)) [.ret (.callz 15 [.var 0, .var 2, .blt .min [.int 5, .var 1]])] [], .set 4 (.slc (.var 2) none (some (.op .add (.int 1) (.callz 6 [.var 0, .blt .min [.int 4, .var 1]])))), .ret (.blt .tuple [.frl (.comp [5] (.nm 5) (.rng [.op .add (.int 1) (.callz 6 [.var 0, .int 6])]) [] (.callz 11 [.var 0, .var 4, .callz 6 [.var 0, .int 2]]))])]
/-- _law_ears_in: _law_web=0 _law_lot=1 _law_found=2 _law_x=3 _law_others=4 _law_common=5 _law_z=6 _law_column=7 _law_other=8 _law_y=9 -/
def b__law_ears_in : List Sx := [.set 2 (.frl (.disp [])), .for_ (.nm 3) (.itv (.var 1)) [.set 4 (.frl (.comp [6] (.nm 6) (.itv (.var 1)) [.cmp .ne (.var 6) (.var 3)] (.idx (.var 0) (.var 6)))), .set 5 (.frl (.comp [7] (.nm 7) (.itv (.idx (.var 0) (.var 3))) [.blt .any [.frl (.comp [8] (.nm 8) (.itv (.var 4)) [] (.cmp .inn (.var 7) (.var 8)))]] (.var 7))), .set 2 (.op .add (.var 2) (.frl (.comp [9] (.nm 9) (.itv (.var 1)) [.and (.cmp .ne (.var 9) (.var 3)) (.blt .all [.frl (.comp [7] (.nm 7) (.itv (.var 5)) [] (.cmp .inn (.var 7) (.idx (.var 0) (.var 9))))])] (.tup [.var 3, .var 9]))))], .ret (.var 2)]
/-- _law_draw_folding: _law_source=0 _law_web=1 _law_lot=2 _law_pairs=3 _law_pair=4 -/
def b__law_draw_folding : List Sx := [.par [2, 3] [.own (.lstR (.blt .len [.var 1])), .own (.disp [])], .whl (.cmp .gt (.blt .len [.var 2]) (.int 1)) [.set 4 (.callz 10 [.var 0, .callz 17 [.var 1, .var 2]]), .expr (.mth .append (.var 3) [.var 4]), .expr (.mth .remove (.var 2) [.idx (.var 4) (.int 0)])], .ret (.blt .tuple [.var 3])]
/-- _law_folding: _law_web=0 _law_lot=1 _law_pairs=2 _law_some=3 -/
def b__law_folding : List Sx := [.par [1, 2] [.own (.lstR (.blt .len [.var 0])), .own (.disp [])], .whl (.cmp .gt (.blt .len [.var 1]) (.int 1)) [.set 3 (.callz 17 [.var 0, .var 1]), .ite (.cmp .eq (.var 3) (.frl (.disp []))) [.ret (.non)] [], .expr (.mth .append (.var 2) [.idx (.var 3) (.int 0)]), .expr (.mth .remove (.var 1) [.idx (.idx (.var 3) (.int 0)) (.int 0)])], .ret (.blt .tuple [.var 2])]
/-- _law_is_number: _law_value=0 -/
def b__law_is_number : List Sx := [.ret (.and (.isi (.var 0) [.int]) (.not (.isi (.var 0) [.bool])))]
/-- _law_odd: _law_source=0 _law_some=1 -/
def b__law_odd : List Sx := [.set 1 (.frl (.disp [.non, .bl true, .bl false, .int 0, .int 1, .neg (.int 1), .int 100, .op .pow (.int 10) (.int 39), .str ⟨#[97]⟩, .str ⟨#[65]⟩, .str ⟨#[]⟩, .str ⟨#[110, 105, 110, 101, 108, 101, 116, 116, 101]⟩, .str ⟨#[97, 49]⟩, .tup [], .tup [.str ⟨#[97]⟩], .tup [.str ⟨#[98]⟩, .str ⟨#[97]⟩], .tup [.str ⟨#[97]⟩, .str ⟨#[97]⟩]])), .set 1 (.op .add (.var 1) (.frl (.disp [.frl (.disp [.str ⟨#[97]⟩]), .frl (.disp []), .frd (.disp []), .tup [.int 0], .tup [.int 1, .int 2], .tup [.bl true], .tup [.neg (.int 1)], .tup [.int 100], .tup [.str ⟨#[97]⟩, .str ⟨#[98]⟩], .frl (.disp [.str ⟨#[97]⟩, .str ⟨#[98]⟩]), .tup [.tup [.int 0], .int 1], .tup [.tup [], .int 1], .str ⟨#[10]⟩, .str ⟨#[98, 10]⟩]))), .ret (.callz 10 [.var 0, .var 1])]
/-- _law_is_pair: _law_web=0 _law_value=1 _law_one=2 -/
def b__law_is_pair : List Sx := [.ite (.or (.not (.isi (.var 1) [.tup])) (.or (.cmp .ne (.blt .len [.var 1]) (.int 2)) (.cmp .ne (.frl (.comp [2] (.nm 2) (.itv (.var 1)) [.not (.callz 20 [.var 2])] (.var 2))) (.frl (.disp []))))) [.ret (.bl false)] [], .ret (.and (.cmp .eq (.frl (.comp [2] (.nm 2) (.itv (.var 1)) [.not (.chain .le .lt (.int 0) (.var 2) (.blt .len [.var 0]))] (.var 2))) (.frl (.disp []))) (.cmp .ne (.idx (.var 1) (.int 0)) (.idx (.var 1) (.int 1))))]
/-- _law_due: _law_web=0 _law_value=1 _law_lot=2 _law_k=3 _law_pair=4 _law_one=5 -/
def b__law_due : List Sx := [.ite (.or (.not (.isi (.var 1) [.tup])) (.or (.cmp .ne (.blt .len [.var 1]) (.op .sub (.blt .len [.var 0]) (.int 1))) (.cmp .ne (.frl (.comp [5] (.nm 5) (.itv (.var 1)) [.not (.callz 22 [.var 0, .var 5])] (.var 5))) (.frl (.disp []))))) [.ret (.tup [.str ⟨#[102, 111, 114, 109]⟩])] [], .set 2 (.own (.lstR (.blt .len [.var 0]))), .for_ (.tp [.nm 3, .nm 4]) (.enum (.var 1)) [.ite (.cmp .nin (.var 4) (.callz 17 [.var 0, .var 2])) [.ret (.tup [.str ⟨#[101, 97, 114]⟩, .var 3])] [], .expr (.mth .remove (.var 2) [.idx (.var 4) (.int 0)])], .ret (.non)]
/-- _law_bent: _law_source=0 _law_web=1 _law_pairs=2 _law_at=3 _law_many=4 _law_pair=5 _law_odd_here=6 _law_some=7 _law_one=8 -/
def b__law_bent : List Sx := [.ite (.cmp .eq (.var 2) (.tup [])) [.ret (.callz 10 [.var 0, .frl (.disp [.tup [.tup [.int 0, .int 0]], .frl (.disp []), .tup [.tup [.int 0, .int 1]], .callz 21 [.var 0]])])] [], .par [3, 4] [.callz 6 [.var 0, .blt .len [.var 2]], .blt .len [.var 1]], .set 5 (.idx (.var 2) (.var 3)), .set 6 (.frl (.disp [.tup [.callz 6 [.var 0, .var 4], .callz 6 [.var 0, .var 4]], .rev (.var 5), .blt .list [.var 5], .tup [.idx (.var 5) (.int 0), .var 4], .tup [.idx (.var 5) (.int 0), .bl true]])), .set 6 (.op .add (.var 6) (.frl (.disp [.tup [.idx (.var 5) (.int 0), .non], .tup [.str ⟨#[48]⟩, .idx (.var 5) (.int 1)], .tup [.frl (.disp [.int 0]), .idx (.var 5) (.int 1)], .tup [.idx (.var 5) (.int 0), .neg (.int 1)], .tup [.var 4, .idx (.var 5) (.int 1)]]))), .set 6 (.op .add (.var 6) (.frl (.disp [.tup [.neg (.int 1), .idx (.var 5) (.int 1)], .op .add (.var 5) (.tup [.int 0]), .non, .idx (.var 2) (.int 0), .tup [.idx (.var 5) (.int 0), .callz 6 [.var 0, .var 4]]]))), .set 7 (.frl (.comp [8] (.nm 8) (.itv (.var 6)) [] (.op .add (.op .add (.slc (.var 2) none (some (.var 3))) (.tup [.var 8])) (.slc (.var 2) (some (.op .add (.var 3) (.int 1))) none)))), .set 7 (.op .add (.var 7) (.frl (.disp [.rev (.var 2), .op .add (.slc (.var 2) none (some (.var 3))) (.slc (.var 2) (some (.op .add (.var 3) (.int 1))) none), .blt .list [.var 2], .op .add (.var 2) (.tup [.var 5]), .op .add (.slc (.var 2) (some (.int 1)) none) (.slc (.var 2) none (some (.int 1)))]))), .ret (.callz 10 [.var 0, .var 7])]
/-- law: _law_script=0 _law_source=1 _law_lap=2 _law_web=3 _law_many=4 _law_found=5 _law_pairs=6 _law_k=7 _law_x=8 _law_value=9 _law_before=10 -/
def b_law : List Sx := [.set 1 (.call 5 [.var 0]), .for_ (.nm 2) (.rng [.int 6]) [.set 3 (.callz 16 [.var 1, .int 8]), .par [4, 5] [.blt .len [.var 3], .callz 19 [.var 3]], .set 6 (.ite (.cmp .isn (.var 5) (.non)) (.callz 18 [.var 1, .var 3]) (.tup [])), .ite (.cmp .is (.var 5) (.non)) [.for_ (.nm 7) (.rng [.op .sub (.var 4) (.int 1)]) [.set 8 (.callz 6 [.var 1, .var 4]), .set 6 (.op .add (.var 6) (.tup [.tup [.var 8, .op .mod (.op .add (.op .add (.var 8) (.int 1)) (.callz 6 [.var 1, .op .sub (.var 4) (.int 1)])) (.var 4)]]))]] [], .for_ (.nm 9) (.itv (.tup [.var 6, .callz 24 [.var 1, .var 3, .var 6], .callz 24 [.var 1, .var 3, .var 6], .callz 21 [.var 1]])) [.set 10 (.blt .repr [.var 9]), .ite (.or (.cmp .ne (.blt .repr [.callz 4 [.var 3, .var 9]]) (.blt .repr [.callz 23 [.var 3, .var 9]])) (.cmp .ne (.blt .repr [.var 9]) (.var 10))) [.ret (.bl false)] []], .ite (.or (.and (.cmp .isn (.var 5) (.non)) (.cmp .isn (.callz 4 [.var 3, .var 6]) (.non))) (.and (.cmp .is (.var 5) (.non)) (.cmp .is (.callz 4 [.var 3, .var 6]) (.non)))) [.ret (.bl false)] []], .ret (.bl true)]
def P : Prg := ⟨[], [⟨1, 1, b_is_number⟩, ⟨2, 3, b_lies_within⟩, ⟨4, 7, b_is_ear⟩, ⟨2, 3, b_is_pair⟩, ⟨2, 8, b_judge_folding⟩, ⟨1, 4, b__law_open_cells⟩, ⟨2, 6, b__law_pick⟩, ⟨2, 4, b__law_any_order⟩, ⟨2, 2, b__law_draw_names⟩, ⟨3, 5, b__law_draw_some⟩, ⟨2, 2, b__law_choice_of⟩, ⟨3, 3, b__law_draw_heading⟩, ⟨3, 9, b__law_draw_folding_web⟩, ⟨4, 6, b__law_draw_core⟩, ⟨2, 5, b__law_core_pieces⟩, ⟨3, 9, b__law_draw_cored_web⟩, ⟨2, 6, b__law_draw_web⟩, ⟨2, 10, b__law_ears_in⟩, ⟨2, 5, b__law_draw_folding⟩, ⟨1, 4, b__law_folding⟩, ⟨1, 1, b__law_is_number⟩, ⟨1, 2, b__law_odd⟩, ⟨2, 3, b__law_is_pair⟩, ⟨2, 6, b__law_due⟩, ⟨3, 9, b__law_bent⟩, ⟨1, 11, b_law⟩]⟩
abbrev f_law : Nat := 25
def N_is_number : List PySem.Str := ["value"]
def N_lies_within : List PySem.Str := ["one", "other", "column"]
def N_is_ear : List PySem.Str := ["web", "lot", "x", "y", "common", "z", "column"]
def N_is_pair : List PySem.Str := ["web", "value", "one"]
def N_judge_folding : List PySem.Str := ["web", "value", "lot", "k", "x", "y", "one", "z"]
def N__law_open_cells : List PySem.Str := ["_law_script", "_law_mixed", "_law_cell", "_law_cells"]
def N__law_pick : List PySem.Str := ["_law_source", "_law_most", "_law_cells", "_law_left", "_law_turn", "_law_mixed"]
def N__law_any_order : List PySem.Str := ["_law_source", "_law_things", "_law_rest", "_law_lap"]
def N__law_draw_names : List PySem.Str := ["_law_source", "_law_many"]
def N__law_draw_some : List PySem.Str := ["_law_source", "_law_things", "_law_few", "_law_found", "_law_one"]
def N__law_choice_of : List PySem.Str := ["_law_source", "_law_things"]
def N__law_draw_heading : List PySem.Str := ["_law_source", "_law_names", "_law_least"]
def N__law_draw_folding_web : List PySem.Str := ["_law_source", "_law_names", "_law_many", "_law_rest", "_law_found", "_law_lap", "_law_seam", "_law_n", "_law_one"]
def N__law_draw_core : List PySem.Str := ["_law_source", "_law_names", "_law_few", "_law_most", "_law_n", "_law_word"]
def N__law_core_pieces : List PySem.Str := ["_law_word", "_law_columns", "_law_column", "_law_one", "_law_k"]
def N__law_draw_cored_web : List PySem.Str := ["_law_source", "_law_names", "_law_most", "_law_word", "_law_columns", "_law_found", "_law_column", "_law_lap", "_law_one"]
def N__law_draw_web : List PySem.Str := ["_law_source", "_law_most", "_law_names", "_law_road", "_law_few", "_law_lap"]
def N__law_ears_in : List PySem.Str := ["_law_web", "_law_lot", "_law_found", "_law_x", "_law_others", "_law_common", "_law_z", "_law_column", "_law_other", "_law_y"]
def N__law_draw_folding : List PySem.Str := ["_law_source", "_law_web", "_law_lot", "_law_pairs", "_law_pair"]
def N__law_folding : List PySem.Str := ["_law_web", "_law_lot", "_law_pairs", "_law_some"]
def N__law_is_number : List PySem.Str := ["_law_value"]
def N__law_odd : List PySem.Str := ["_law_source", "_law_some"]
def N__law_is_pair : List PySem.Str := ["_law_web", "_law_value", "_law_one"]
def N__law_due : List PySem.Str := ["_law_web", "_law_value", "_law_lot", "_law_k", "_law_pair", "_law_one"]
def N__law_bent : List PySem.Str := ["_law_source", "_law_web", "_law_pairs", "_law_at", "_law_many", "_law_pair", "_law_odd_here", "_law_some", "_law_one"]
def N_law : List PySem.Str := ["_law_script", "_law_source", "_law_lap", "_law_web", "_law_many", "_law_found", "_law_pairs", "_law_k", "_law_x", "_law_value", "_law_before"]
def p_is_number : List PySem.Str := ["value"]
def p_lies_within : List PySem.Str := ["one", "other"]
def p_is_ear : List PySem.Str := ["web", "lot", "x", "y"]
def p_is_pair : List PySem.Str := ["web", "value"]
def p_judge_folding : List PySem.Str := ["web", "value"]
def p__law_open_cells : List PySem.Str := ["_law_script"]
def p__law_pick : List PySem.Str := ["_law_source", "_law_most"]
def p__law_any_order : List PySem.Str := ["_law_source", "_law_things"]
def p__law_draw_names : List PySem.Str := ["_law_source", "_law_many"]
def p__law_draw_some : List PySem.Str := ["_law_source", "_law_things", "_law_few"]
def p__law_choice_of : List PySem.Str := ["_law_source", "_law_things"]
def p__law_draw_heading : List PySem.Str := ["_law_source", "_law_names", "_law_least"]
def p__law_draw_folding_web : List PySem.Str := ["_law_source", "_law_names", "_law_many"]
def p__law_draw_core : List PySem.Str := ["_law_source", "_law_names", "_law_few", "_law_most"]
def p__law_core_pieces : List PySem.Str := ["_law_word", "_law_columns"]
def p__law_draw_cored_web : List PySem.Str := ["_law_source", "_law_names", "_law_most"]
def p__law_draw_web : List PySem.Str := ["_law_source", "_law_most"]
def p__law_ears_in : List PySem.Str := ["_law_web", "_law_lot"]
def p__law_draw_folding : List PySem.Str := ["_law_source", "_law_web"]
def p__law_folding : List PySem.Str := ["_law_web"]
def p__law_is_number : List PySem.Str := ["_law_value"]
def p__law_odd : List PySem.Str := ["_law_source"]
def p__law_is_pair : List PySem.Str := ["_law_web", "_law_value"]
def p__law_due : List PySem.Str := ["_law_web", "_law_value"]
def p__law_bent : List PySem.Str := ["_law_source", "_law_web", "_law_pairs"]
def p_law : List PySem.Str := ["_law_script"]
def names : List PySem.Str := (["is_number", "lies_within", "is_ear", "is_pair", "judge_folding", "_law_open_cells", "_law_pick", "_law_any_order", "_law_draw_names", "_law_draw_some", "_law_choice_of", "_law_draw_heading", "_law_draw_folding_web", "_law_draw_core", "_law_core_pieces", "_law_draw_cored_web", "_law_draw_web", "_law_ears_in", "_law_draw_folding", "_law_folding"] : List PySem.Str) ++ (["_law_is_number", "_law_odd", "_law_is_pair", "_law_due", "_law_bent", "law"] : List PySem.Str)
def gls : List PySem.Str := []
end T_k14
namespace T_k14
open Dv
abbrev pr : Prims := prims3 6 15 3
theorem c_pick : ∀ n, 1 ≤ n → callW P pr n 6 = pickW := fun n h => pick_at3 h
theorem c__law_draw_core_CoreS : ∀ n, 2 ≤ n → CoreS (callW P pr n 13) := call_at (k := 1) rfl (fun _ => rfl) fun n h => core_w (c_pick n (by omega))
theorem c__law_any_order_AoS : ∀ n, 2 ≤ n → AoS (callW P pr n 7) := call_at (k := 1) rfl (fun _ => rfl) fun n h => ao_w (c_pick n (by omega))
theorem c__law_draw_some_SomeS : ∀ n, 3 ≤ n → SomeS (callW P pr n 9) := call_at (k := 2) rfl (fun _ => rfl) fun n h => some_w (c__law_any_order_AoS n (by omega)) (c_pick n (by omega))
theorem c__law_draw_names_NamesS : ∀ n, 3 ≤ n → NamesS (callW P pr n 8) := call_at (k := 2) rfl (fun _ => rfl) fun n h => names_w (c__law_any_order_AoS n (by omega))
theorem c__law_draw_folding_web_FwS : ∀ n, 4 ≤ n → FwS (callW P pr n 12) := call_at (k := 3) rfl (fun _ => rfl) fun n h => fw_w (c__law_draw_some_SomeS n (by omega)) (c_pick n (by omega)) (c__law_any_order_AoS n (by omega))
theorem c__law_draw_cored_web_CwS : ∀ n, 5 ≤ n → CwS (callW P pr n 15) := fun n h => by rw [cored_at3 (by decide) (by omega)]; exact CwG.s cored_sG
theorem c__law_draw_heading_HdS : ∀ n, 4 ≤ n → HdS (callW P pr n 11) := call_at (k := 3) rfl (fun _ => rfl) fun n h => hd_w (c__law_draw_some_SomeS n (by omega))
theorem c__law_draw_web_DwS : ∀ n, 6 ≤ n → DwS (callW P pr n 16) := call_at (k := 5) rfl (fun _ => rfl) fun n h => dw_w (c__law_draw_names_NamesS n (by omega)) (c_pick n (by omega)) (c__law_draw_folding_web_FwS n (by omega)) (c__law_draw_cored_web_CwS n (by omega)) (c__law_draw_heading_HdS n (by omega))
theorem c__law_ears_in_EinS : ∀ n, 1 ≤ n → EinS (callW P pr n 17) := call_at (k := 0) rfl (fun _ => rfl) fun n h => ein_w
theorem c__law_folding_FoldS : ∀ n, 2 ≤ n → FoldS (callW P pr n 19) := call_at (k := 1) rfl (fun _ => rfl) fun n h => lfold_w (c__law_ears_in_EinS n (by omega))
theorem c__law_choice_of_ChoS : ∀ n, 2 ≤ n → ChoS (callW P pr n 10) := call_at (k := 1) rfl (fun _ => rfl) fun n h => cho_w (c_pick n (by omega))
theorem c__law_draw_folding_DFoldA : ∀ n, 3 ≤ n → DFoldA (callW P pr n 18) := call_at (k := 2) rfl (fun _ => rfl) fun n h => dfolda_w (c__law_choice_of_ChoS n (by omega)) (c__law_ears_in_EinS n (by omega))
theorem c__law_odd_OddS : ∀ n, 3 ≤ n → OddS (callW P pr n 21) := call_at (k := 2) rfl (fun _ => rfl) fun n h => oddv_w (c__law_choice_of_ChoS n (by omega))
theorem c__law_bent_BentS : ∀ n, 4 ≤ n → BentS (callW P pr n 24) := call_at (k := 3) rfl (fun _ => rfl) fun n h => bent_w (c__law_choice_of_ChoS n (by omega)) (c__law_odd_OddS n (by omega)) (c_pick n (by omega))
theorem c_is_number_IsnS : ∀ n, 1 ≤ n → IsnS (callW P pr n 0) := call_at (k := 0) rfl (fun _ => rfl) fun n h => isn_w
theorem c_is_pair_PrS : ∀ n, 2 ≤ n → PrS (callW P pr n 3) := call_at (k := 1) rfl (fun _ => rfl) fun n h => ispr_w (c_is_number_IsnS n (by omega))
theorem c_lies_within_LwS : ∀ n, 1 ≤ n → LwS (callW P pr n 1) := call_at (k := 0) rfl (fun _ => rfl) fun n h => lw_w
theorem c_is_ear_IsEarS : ∀ n, 2 ≤ n → IsEarS (callW P pr n 2) := call_at (k := 1) rfl (fun _ => rfl) fun n h => isear_w (c_lies_within_LwS n (by omega))
theorem c_judge_folding_JfS : ∀ n, 3 ≤ n → JfS (callW P pr n 4) := call_at (k := 2) rfl (fun _ => rfl) fun n h => jf_w (c_is_pair_PrS n (by omega)) (c_is_ear_IsEarS n (by omega))
theorem c__law_is_number_IsnS : ∀ n, 1 ≤ n → IsnS (callW P pr n 20) := call_at (k := 0) rfl (fun _ => rfl) fun n h => isn_w
theorem c__law_is_pair_PrS : ∀ n, 2 ≤ n → PrS (callW P pr n 22) := call_at (k := 1) rfl (fun _ => rfl) fun n h => lpr_w (c__law_is_number_IsnS n (by omega))
theorem c__law_due_JfS : ∀ n, 3 ≤ n → JfS (callW P pr n 23) := call_at (k := 2) rfl (fun _ => rfl) fun n h => due_w (c__law_is_pair_PrS n (by omega)) (c__law_ears_in_EinS n (by omega))
theorem pr_ok : PrimOk P pr := prims3_ok rfl rfl rfl (by decide) (fun n h => c__law_draw_core_CoreS n (by omega)) (fun n h => c__law_draw_some_SomeS n (by omega)) (fun n h => c__law_any_order_AoS n (by omega))
theorem law_true (ns : List Int) (h : ns.length ≤ 63) : ∃ st, callD P 30 f_law [.scr ns] [] = .ok (.bl true) st :=
  law_sound (P := P) (pr := pr) (fun x hx => by cases hx) pr_ok (n := 29) (io := 5) (il := 25) (m := 9) rfl (open_ok (n := 28) rfl ns h)
    (law14 (c__law_draw_web_DwS 29 (by decide)) (c__law_folding_FoldS 29 (by decide)) (c__law_draw_folding_DFoldA 29 (by decide)) (c_pick 29 (by decide)) (c__law_bent_BentS 29 (by decide)) (c__law_odd_OddS 29 (by decide)) (c_judge_folding_JfS 29 (by decide)) (c__law_due_JfS 29 (by decide)))
end T_k14
namespace T_k14
open Dv PySem L2
def topS (i : Nat) : Stmt := PySem.Challenge.pw_agreetwo_k14_foldings_judged.main.body.getD i (.Pass ⟨0, 0, 0, 0⟩)
theorem ok_is_number {K : PySem.W.Frag} {mg : Str → Option Value} {f : Addr} {fd : FuncData} (F : Fun K "is_number" "is_number" (topS 1) f fd) (m : mg "is_number" = some (.ref f)) : DefOk K mg names gls "is_number" ⟨1, 1, b_is_number⟩ f fd p_is_number :=
  ⟨m, F.binds fun _ _ _ _ _ _ us hl => match us, hl with | [_], _ => rfl, rfl, "is_number", topS 1, N_is_number, F, ⟨rfl, rfl, rfl, by decide +kernel, rfl, by decide +kernel, by decide +kernel⟩, rfl, by decide +kernel⟩
theorem ok_lies_within {K : PySem.W.Frag} {mg : Str → Option Value} {f : Addr} {fd : FuncData} (F : Fun K "lies_within" "lies_within" (topS 2) f fd) (m : mg "lies_within" = some (.ref f)) : DefOk K mg names gls "lies_within" ⟨2, 3, b_lies_within⟩ f fd p_lies_within :=
  ⟨m, F.binds fun _ _ _ _ _ _ us hl => match us, hl with | [_, _], _ => rfl, rfl, "lies_within", topS 2, N_lies_within, F, ⟨rfl, rfl, rfl, by decide +kernel, rfl, by decide +kernel, by decide +kernel⟩, rfl, by decide +kernel⟩
theorem ok_is_ear {K : PySem.W.Frag} {mg : Str → Option Value} {f : Addr} {fd : FuncData} (F : Fun K "is_ear" "is_ear" (topS 4) f fd) (m : mg "is_ear" = some (.ref f)) : DefOk K mg names gls "is_ear" ⟨4, 7, b_is_ear⟩ f fd p_is_ear :=
  ⟨m, F.binds fun _ _ _ _ _ _ us hl => match us, hl with | [_, _, _, _], _ => rfl, rfl, "is_ear", topS 4, N_is_ear, F, ⟨rfl, rfl, rfl, by decide +kernel, rfl, by decide +kernel, by decide +kernel⟩, rfl, by decide +kernel⟩
theorem ok_is_pair {K : PySem.W.Frag} {mg : Str → Option Value} {f : Addr} {fd : FuncData} (F : Fun K "is_pair" "is_pair" (topS 5) f fd) (m : mg "is_pair" = some (.ref f)) : DefOk K mg names gls "is_pair" ⟨2, 3, b_is_pair⟩ f fd p_is_pair :=
  ⟨m, F.binds fun _ _ _ _ _ _ us hl => match us, hl with | [_, _], _ => rfl, rfl, "is_pair", topS 5, N_is_pair, F, ⟨rfl, rfl, rfl, by decide +kernel, rfl, by decide +kernel, by decide +kernel⟩, rfl, by decide +kernel⟩
theorem ok_judge_folding {K : PySem.W.Frag} {mg : Str → Option Value} {f : Addr} {fd : FuncData} (F : Fun K "judge_folding" "judge_folding" (topS 6) f fd) (m : mg "judge_folding" = some (.ref f)) : DefOk K mg names gls "judge_folding" ⟨2, 8, b_judge_folding⟩ f fd p_judge_folding :=
  ⟨m, F.binds fun _ _ _ _ _ _ us hl => match us, hl with | [_, _], _ => rfl, rfl, "judge_folding", topS 6, N_judge_folding, F, ⟨rfl, rfl, rfl, by decide +kernel, rfl, by decide +kernel, by decide +kernel⟩, rfl, by decide +kernel⟩
theorem ok__law_open_cells {K : PySem.W.Frag} {mg : Str → Option Value} {f : Addr} {fd : FuncData} (F : Fun K "_law_open_cells" "_law_open_cells" (topS 8) f fd) (m : mg "_law_open_cells" = some (.ref f)) : DefOk K mg names gls "_law_open_cells" ⟨1, 4, b__law_open_cells⟩ f fd p__law_open_cells :=
  ⟨m, F.binds fun _ _ _ _ _ _ us hl => match us, hl with | [_], _ => rfl, rfl, "_law_open_cells", topS 8, N__law_open_cells, F, ⟨rfl, rfl, rfl, by decide +kernel, rfl, by decide +kernel, by decide +kernel⟩, rfl, by decide +kernel⟩
theorem ok__law_pick {K : PySem.W.Frag} {mg : Str → Option Value} {f : Addr} {fd : FuncData} (F : Fun K "_law_pick" "_law_pick" (topS 9) f fd) (m : mg "_law_pick" = some (.ref f)) : DefOk K mg names gls "_law_pick" ⟨2, 6, b__law_pick⟩ f fd p__law_pick :=
  ⟨m, F.binds fun _ _ _ _ _ _ us hl => match us, hl with | [_, _], _ => rfl, rfl, "_law_pick", topS 9, N__law_pick, F, ⟨rfl, rfl, rfl, by decide +kernel, rfl, by decide +kernel, by decide +kernel⟩, rfl, by decide +kernel⟩
theorem ok__law_any_order {K : PySem.W.Frag} {mg : Str → Option Value} {f : Addr} {fd : FuncData} (F : Fun K "_law_any_order" "_law_any_order" (topS 10) f fd) (m : mg "_law_any_order" = some (.ref f)) : DefOk K mg names gls "_law_any_order" ⟨2, 4, b__law_any_order⟩ f fd p__law_any_order :=
  ⟨m, F.binds fun _ _ _ _ _ _ us hl => match us, hl with | [_, _], _ => rfl, rfl, "_law_any_order", topS 10, N__law_any_order, F, ⟨rfl, rfl, rfl, by decide +kernel, rfl, by decide +kernel, by decide +kernel⟩, rfl, by decide +kernel⟩
theorem ok__law_draw_names {K : PySem.W.Frag} {mg : Str → Option Value} {f : Addr} {fd : FuncData} (F : Fun K "_law_draw_names" "_law_draw_names" (topS 11) f fd) (m : mg "_law_draw_names" = some (.ref f)) : DefOk K mg names gls "_law_draw_names" ⟨2, 2, b__law_draw_names⟩ f fd p__law_draw_names :=
  ⟨m, F.binds fun _ _ _ _ _ _ us hl => match us, hl with | [_, _], _ => rfl, rfl, "_law_draw_names", topS 11, N__law_draw_names, F, ⟨rfl, rfl, rfl, by decide +kernel, rfl, by decide +kernel, by decide +kernel⟩, rfl, by decide +kernel⟩
theorem ok__law_draw_some {K : PySem.W.Frag} {mg : Str → Option Value} {f : Addr} {fd : FuncData} (F : Fun K "_law_draw_some" "_law_draw_some" (topS 12) f fd) (m : mg "_law_draw_some" = some (.ref f)) : DefOk K mg names gls "_law_draw_some" ⟨3, 5, b__law_draw_some⟩ f fd p__law_draw_some :=
  ⟨m, F.binds fun _ _ _ _ _ _ us hl => match us, hl with | [_, _, _], _ => rfl, rfl, "_law_draw_some", topS 12, N__law_draw_some, F, ⟨rfl, rfl, rfl, by decide +kernel, rfl, by decide +kernel, by decide +kernel⟩, rfl, by decide +kernel⟩
theorem ok__law_choice_of {K : PySem.W.Frag} {mg : Str → Option Value} {f : Addr} {fd : FuncData} (F : Fun K "_law_choice_of" "_law_choice_of" (topS 13) f fd) (m : mg "_law_choice_of" = some (.ref f)) : DefOk K mg names gls "_law_choice_of" ⟨2, 2, b__law_choice_of⟩ f fd p__law_choice_of :=
  ⟨m, F.binds fun _ _ _ _ _ _ us hl => match us, hl with | [_, _], _ => rfl, rfl, "_law_choice_of", topS 13, N__law_choice_of, F, ⟨rfl, rfl, rfl, by decide +kernel, rfl, by decide +kernel, by decide +kernel⟩, rfl, by decide +kernel⟩
theorem ok__law_draw_heading {K : PySem.W.Frag} {mg : Str → Option Value} {f : Addr} {fd : FuncData} (F : Fun K "_law_draw_heading" "_law_draw_heading" (topS 14) f fd) (m : mg "_law_draw_heading" = some (.ref f)) : DefOk K mg names gls "_law_draw_heading" ⟨3, 3, b__law_draw_heading⟩ f fd p__law_draw_heading :=
  ⟨m, F.binds fun _ _ _ _ _ _ us hl => match us, hl with | [_, _, _], _ => rfl, rfl, "_law_draw_heading", topS 14, N__law_draw_heading, F, ⟨rfl, rfl, rfl, by decide +kernel, rfl, by decide +kernel, by decide +kernel⟩, rfl, by decide +kernel⟩
theorem ok__law_draw_folding_web {K : PySem.W.Frag} {mg : Str → Option Value} {f : Addr} {fd : FuncData} (F : Fun K "_law_draw_folding_web" "_law_draw_folding_web" (topS 15) f fd) (m : mg "_law_draw_folding_web" = some (.ref f)) : DefOk K mg names gls "_law_draw_folding_web" ⟨3, 9, b__law_draw_folding_web⟩ f fd p__law_draw_folding_web :=
  ⟨m, F.binds fun _ _ _ _ _ _ us hl => match us, hl with | [_, _, _], _ => rfl, rfl, "_law_draw_folding_web", topS 15, N__law_draw_folding_web, F, ⟨rfl, rfl, rfl, by decide +kernel, rfl, by decide +kernel, by decide +kernel⟩, rfl, by decide +kernel⟩
theorem ok__law_draw_core {K : PySem.W.Frag} {mg : Str → Option Value} {f : Addr} {fd : FuncData} (F : Fun K "_law_draw_core" "_law_draw_core" (topS 16) f fd) (m : mg "_law_draw_core" = some (.ref f)) : DefOk K mg names gls "_law_draw_core" ⟨4, 6, b__law_draw_core⟩ f fd p__law_draw_core :=
  ⟨m, F.binds fun _ _ _ _ _ _ us hl => match us, hl with | [_, _, _, _], _ => rfl, rfl, "_law_draw_core", topS 16, N__law_draw_core, F, ⟨rfl, rfl, rfl, by decide +kernel, rfl, by decide +kernel, by decide +kernel⟩, rfl, by decide +kernel⟩
theorem ok__law_core_pieces {K : PySem.W.Frag} {mg : Str → Option Value} {f : Addr} {fd : FuncData} (F : Fun K "_law_core_pieces" "_law_core_pieces" (topS 17) f fd) (m : mg "_law_core_pieces" = some (.ref f)) : DefOk K mg names gls "_law_core_pieces" ⟨2, 5, b__law_core_pieces⟩ f fd p__law_core_pieces :=
  ⟨m, F.binds fun _ _ _ _ _ _ us hl => match us, hl with | [_, _], _ => rfl, rfl, "_law_core_pieces", topS 17, N__law_core_pieces, F, ⟨rfl, rfl, rfl, by decide +kernel, rfl, by decide +kernel, by decide +kernel⟩, rfl, by decide +kernel⟩
theorem ok__law_draw_cored_web {K : PySem.W.Frag} {mg : Str → Option Value} {f : Addr} {fd : FuncData} (F : Fun K "_law_draw_cored_web" "_law_draw_cored_web" (topS 18) f fd) (m : mg "_law_draw_cored_web" = some (.ref f)) : DefOk K mg names gls "_law_draw_cored_web" ⟨3, 9, b__law_draw_cored_web⟩ f fd p__law_draw_cored_web :=
  ⟨m, F.binds fun _ _ _ _ _ _ us hl => match us, hl with | [_, _, _], _ => rfl, rfl, "_law_draw_cored_web", topS 18, N__law_draw_cored_web, F, ⟨rfl, rfl, rfl, by decide +kernel, rfl, by decide +kernel, by decide +kernel⟩, rfl, by decide +kernel⟩
theorem ok__law_draw_web {K : PySem.W.Frag} {mg : Str → Option Value} {f : Addr} {fd : FuncData} (F : Fun K "_law_draw_web" "_law_draw_web" (topS 19) f fd) (m : mg "_law_draw_web" = some (.ref f)) : DefOk K mg names gls "_law_draw_web" ⟨2, 6, b__law_draw_web⟩ f fd p__law_draw_web :=
  ⟨m, F.binds fun _ _ _ _ _ _ us hl => match us, hl with | [_, _], _ => rfl, rfl, "_law_draw_web", topS 19, N__law_draw_web, F, ⟨rfl, rfl, rfl, by decide +kernel, rfl, by decide +kernel, by decide +kernel⟩, rfl, by decide +kernel⟩
theorem ok__law_ears_in {K : PySem.W.Frag} {mg : Str → Option Value} {f : Addr} {fd : FuncData} (F : Fun K "_law_ears_in" "_law_ears_in" (topS 20) f fd) (m : mg "_law_ears_in" = some (.ref f)) : DefOk K mg names gls "_law_ears_in" ⟨2, 10, b__law_ears_in⟩ f fd p__law_ears_in :=
  ⟨m, F.binds fun _ _ _ _ _ _ us hl => match us, hl with | [_, _], _ => rfl, rfl, "_law_ears_in", topS 20, N__law_ears_in, F, ⟨rfl, rfl, rfl, by decide +kernel, rfl, by decide +kernel, by decide +kernel⟩, rfl, by decide +kernel⟩
theorem ok__law_draw_folding {K : PySem.W.Frag} {mg : Str → Option Value} {f : Addr} {fd : FuncData} (F : Fun K "_law_draw_folding" "_law_draw_folding" (topS 21) f fd) (m : mg "_law_draw_folding" = some (.ref f)) : DefOk K mg names gls "_law_draw_folding" ⟨2, 5, b__law_draw_folding⟩ f fd p__law_draw_folding :=
  ⟨m, F.binds fun _ _ _ _ _ _ us hl => match us, hl with | [_, _], _ => rfl, rfl, "_law_draw_folding", topS 21, N__law_draw_folding, F, ⟨rfl, rfl, rfl, by decide +kernel, rfl, by decide +kernel, by decide +kernel⟩, rfl, by decide +kernel⟩
theorem ok__law_folding {K : PySem.W.Frag} {mg : Str → Option Value} {f : Addr} {fd : FuncData} (F : Fun K "_law_folding" "_law_folding" (topS 22) f fd) (m : mg "_law_folding" = some (.ref f)) : DefOk K mg names gls "_law_folding" ⟨1, 4, b__law_folding⟩ f fd p__law_folding :=
  ⟨m, F.binds fun _ _ _ _ _ _ us hl => match us, hl with | [_], _ => rfl, rfl, "_law_folding", topS 22, N__law_folding, F, ⟨rfl, rfl, rfl, by decide +kernel, rfl, by decide +kernel, by decide +kernel⟩, rfl, by decide +kernel⟩
theorem ok__law_is_number {K : PySem.W.Frag} {mg : Str → Option Value} {f : Addr} {fd : FuncData} (F : Fun K "_law_is_number" "_law_is_number" (topS 23) f fd) (m : mg "_law_is_number" = some (.ref f)) : DefOk K mg names gls "_law_is_number" ⟨1, 1, b__law_is_number⟩ f fd p__law_is_number :=
  ⟨m, F.binds fun _ _ _ _ _ _ us hl => match us, hl with | [_], _ => rfl, rfl, "_law_is_number", topS 23, N__law_is_number, F, ⟨rfl, rfl, rfl, by decide +kernel, rfl, by decide +kernel, by decide +kernel⟩, rfl, by decide +kernel⟩
theorem ok__law_odd {K : PySem.W.Frag} {mg : Str → Option Value} {f : Addr} {fd : FuncData} (F : Fun K "_law_odd" "_law_odd" (topS 24) f fd) (m : mg "_law_odd" = some (.ref f)) : DefOk K mg names gls "_law_odd" ⟨1, 2, b__law_odd⟩ f fd p__law_odd :=
  ⟨m, F.binds fun _ _ _ _ _ _ us hl => match us, hl with | [_], _ => rfl, rfl, "_law_odd", topS 24, N__law_odd, F, ⟨rfl, rfl, rfl, by decide +kernel, rfl, by decide +kernel, by decide +kernel⟩, rfl, by decide +kernel⟩
theorem ok__law_is_pair {K : PySem.W.Frag} {mg : Str → Option Value} {f : Addr} {fd : FuncData} (F : Fun K "_law_is_pair" "_law_is_pair" (topS 25) f fd) (m : mg "_law_is_pair" = some (.ref f)) : DefOk K mg names gls "_law_is_pair" ⟨2, 3, b__law_is_pair⟩ f fd p__law_is_pair :=
  ⟨m, F.binds fun _ _ _ _ _ _ us hl => match us, hl with | [_, _], _ => rfl, rfl, "_law_is_pair", topS 25, N__law_is_pair, F, ⟨rfl, rfl, rfl, by decide +kernel, rfl, by decide +kernel, by decide +kernel⟩, rfl, by decide +kernel⟩
theorem ok__law_due {K : PySem.W.Frag} {mg : Str → Option Value} {f : Addr} {fd : FuncData} (F : Fun K "_law_due" "_law_due" (topS 26) f fd) (m : mg "_law_due" = some (.ref f)) : DefOk K mg names gls "_law_due" ⟨2, 6, b__law_due⟩ f fd p__law_due :=
  ⟨m, F.binds fun _ _ _ _ _ _ us hl => match us, hl with | [_, _], _ => rfl, rfl, "_law_due", topS 26, N__law_due, F, ⟨rfl, rfl, rfl, by decide +kernel, rfl, by decide +kernel, by decide +kernel⟩, rfl, by decide +kernel⟩
theorem ok__law_bent {K : PySem.W.Frag} {mg : Str → Option Value} {f : Addr} {fd : FuncData} (F : Fun K "_law_bent" "_law_bent" (topS 27) f fd) (m : mg "_law_bent" = some (.ref f)) : DefOk K mg names gls "_law_bent" ⟨3, 9, b__law_bent⟩ f fd p__law_bent :=
  ⟨m, F.binds fun _ _ _ _ _ _ us hl => match us, hl with | [_, _, _], _ => rfl, rfl, "_law_bent", topS 27, N__law_bent, F, ⟨rfl, rfl, rfl, by decide +kernel, rfl, by decide +kernel, by decide +kernel⟩, rfl, by decide +kernel⟩
theorem ok_law {K : PySem.W.Frag} {mg : Str → Option Value} {f : Addr} {fd : FuncData} (F : Fun K "law" "law" (topS 28) f fd) (m : mg "law" = some (.ref f)) : DefOk K mg names gls "law" ⟨1, 11, b_law⟩ f fd p_law :=
  ⟨m, F.binds fun _ _ _ _ _ _ us hl => match us, hl with | [_], _ => rfl, rfl, "law", topS 28, N_law, F, ⟨rfl, rfl, rfl, by decide +kernel, rfl, by decide +kernel, by decide +kernel⟩, rfl, by decide +kernel⟩
set_option maxHeartbeats 8001100 in
theorem all_of {l : PySem.W.OpenLaw} {w : World} {K : PySem.W.Frag} {h : Heap} {mg : Str → Option Value} {fa : Addr} (KX : K.In h) (G : h.Ns mainGlobals mg) (hfa : mg "law" = some (.ref fa))
    {oc0 kV0 dc0 pm0 cd0 ct0 : Value} {od0 an0 : Option Addr} {sl0 : Array (Option Value)} {f0 : Addr}
    (a0 : PySem.W.nsIn K mainGlobals "is_number" = some (some (.ref f0))) (l0 : K.lookup f0 = some ⟨oc0, od0, .func (PySem.W.fnOf "is_number" "is_number" (defArgs (topS 1)) (defBody (topS 1)) (defScope (topS 1)) .none kV0 dc0 pm0 an0 cd0 ct0), sl0⟩) (c0 : PySem.W.codeIn K cd0 "is_number" = true) (k0 : PySem.W.keepIn K (.ref f0) = true)
    {oc1 kV1 dc1 pm1 cd1 ct1 : Value} {od1 an1 : Option Addr} {sl1 : Array (Option Value)} {f1 : Addr}
    (a1 : PySem.W.nsIn K mainGlobals "lies_within" = some (some (.ref f1))) (l1 : K.lookup f1 = some ⟨oc1, od1, .func (PySem.W.fnOf "lies_within" "lies_within" (defArgs (topS 2)) (defBody (topS 2)) (defScope (topS 2)) .none kV1 dc1 pm1 an1 cd1 ct1), sl1⟩) (c1 : PySem.W.codeIn K cd1 "lies_within" = true) (k1 : PySem.W.keepIn K (.ref f1) = true)
    {oc2 kV2 dc2 pm2 cd2 ct2 : Value} {od2 an2 : Option Addr} {sl2 : Array (Option Value)} {f2 : Addr}
    (a2 : PySem.W.nsIn K mainGlobals "is_ear" = some (some (.ref f2))) (l2 : K.lookup f2 = some ⟨oc2, od2, .func (PySem.W.fnOf "is_ear" "is_ear" (defArgs (topS 4)) (defBody (topS 4)) (defScope (topS 4)) .none kV2 dc2 pm2 an2 cd2 ct2), sl2⟩) (c2 : PySem.W.codeIn K cd2 "is_ear" = true) (k2 : PySem.W.keepIn K (.ref f2) = true)
    {oc3 kV3 dc3 pm3 cd3 ct3 : Value} {od3 an3 : Option Addr} {sl3 : Array (Option Value)} {f3 : Addr}
    (a3 : PySem.W.nsIn K mainGlobals "is_pair" = some (some (.ref f3))) (l3 : K.lookup f3 = some ⟨oc3, od3, .func (PySem.W.fnOf "is_pair" "is_pair" (defArgs (topS 5)) (defBody (topS 5)) (defScope (topS 5)) .none kV3 dc3 pm3 an3 cd3 ct3), sl3⟩) (c3 : PySem.W.codeIn K cd3 "is_pair" = true) (k3 : PySem.W.keepIn K (.ref f3) = true)
    {oc4 kV4 dc4 pm4 cd4 ct4 : Value} {od4 an4 : Option Addr} {sl4 : Array (Option Value)} {f4 : Addr}
    (a4 : PySem.W.nsIn K mainGlobals "judge_folding" = some (some (.ref f4))) (l4 : K.lookup f4 = some ⟨oc4, od4, .func (PySem.W.fnOf "judge_folding" "judge_folding" (defArgs (topS 6)) (defBody (topS 6)) (defScope (topS 6)) .none kV4 dc4 pm4 an4 cd4 ct4), sl4⟩) (c4 : PySem.W.codeIn K cd4 "judge_folding" = true) (k4 : PySem.W.keepIn K (.ref f4) = true)
    {oc5 kV5 dc5 pm5 cd5 ct5 : Value} {od5 an5 : Option Addr} {sl5 : Array (Option Value)} {f5 : Addr}
    (a5 : PySem.W.nsIn K mainGlobals "_law_open_cells" = some (some (.ref f5))) (l5 : K.lookup f5 = some ⟨oc5, od5, .func (PySem.W.fnOf "_law_open_cells" "_law_open_cells" (defArgs (topS 8)) (defBody (topS 8)) (defScope (topS 8)) .none kV5 dc5 pm5 an5 cd5 ct5), sl5⟩) (c5 : PySem.W.codeIn K cd5 "_law_open_cells" = true) (k5 : PySem.W.keepIn K (.ref f5) = true)
    {oc6 kV6 dc6 pm6 cd6 ct6 : Value} {od6 an6 : Option Addr} {sl6 : Array (Option Value)} {f6 : Addr}
    (a6 : PySem.W.nsIn K mainGlobals "_law_pick" = some (some (.ref f6))) (l6 : K.lookup f6 = some ⟨oc6, od6, .func (PySem.W.fnOf "_law_pick" "_law_pick" (defArgs (topS 9)) (defBody (topS 9)) (defScope (topS 9)) .none kV6 dc6 pm6 an6 cd6 ct6), sl6⟩) (c6 : PySem.W.codeIn K cd6 "_law_pick" = true) (k6 : PySem.W.keepIn K (.ref f6) = true)
    {oc7 kV7 dc7 pm7 cd7 ct7 : Value} {od7 an7 : Option Addr} {sl7 : Array (Option Value)} {f7 : Addr}
    (a7 : PySem.W.nsIn K mainGlobals "_law_any_order" = some (some (.ref f7))) (l7 : K.lookup f7 = some ⟨oc7, od7, .func (PySem.W.fnOf "_law_any_order" "_law_any_order" (defArgs (topS 10)) (defBody (topS 10)) (defScope (topS 10)) .none kV7 dc7 pm7 an7 cd7 ct7), sl7⟩) (c7 : PySem.W.codeIn K cd7 "_law_any_order" = true) (k7 : PySem.W.keepIn K (.ref f7) = true)
    {oc8 kV8 dc8 pm8 cd8 ct8 : Value} {od8 an8 : Option Addr} {sl8 : Array (Option Value)} {f8 : Addr}
    (a8 : PySem.W.nsIn K mainGlobals "_law_draw_names" = some (some (.ref f8))) (l8 : K.lookup f8 = some ⟨oc8, od8, .func (PySem.W.fnOf "_law_draw_names" "_law_draw_names" (defArgs (topS 11)) (defBody (topS 11)) (defScope (topS 11)) .none kV8 dc8 pm8 an8 cd8 ct8), sl8⟩) (c8 : PySem.W.codeIn K cd8 "_law_draw_names" = true) (k8 : PySem.W.keepIn K (.ref f8) = true)
    {oc9 kV9 dc9 pm9 cd9 ct9 : Value} {od9 an9 : Option Addr} {sl9 : Array (Option Value)} {f9 : Addr}
    (a9 : PySem.W.nsIn K mainGlobals "_law_draw_some" = some (some (.ref f9))) (l9 : K.lookup f9 = some ⟨oc9, od9, .func (PySem.W.fnOf "_law_draw_some" "_law_draw_some" (defArgs (topS 12)) (defBody (topS 12)) (defScope (topS 12)) .none kV9 dc9 pm9 an9 cd9 ct9), sl9⟩) (c9 : PySem.W.codeIn K cd9 "_law_draw_some" = true) (k9 : PySem.W.keepIn K (.ref f9) = true)
    {oc10 kV10 dc10 pm10 cd10 ct10 : Value} {od10 an10 : Option Addr} {sl10 : Array (Option Value)} {f10 : Addr}
    (a10 : PySem.W.nsIn K mainGlobals "_law_choice_of" = some (some (.ref f10))) (l10 : K.lookup f10 = some ⟨oc10, od10, .func (PySem.W.fnOf "_law_choice_of" "_law_choice_of" (defArgs (topS 13)) (defBody (topS 13)) (defScope (topS 13)) .none kV10 dc10 pm10 an10 cd10 ct10), sl10⟩) (c10 : PySem.W.codeIn K cd10 "_law_choice_of" = true) (k10 : PySem.W.keepIn K (.ref f10) = true)
    {oc11 kV11 dc11 pm11 cd11 ct11 : Value} {od11 an11 : Option Addr} {sl11 : Array (Option Value)} {f11 : Addr}
    (a11 : PySem.W.nsIn K mainGlobals "_law_draw_heading" = some (some (.ref f11))) (l11 : K.lookup f11 = some ⟨oc11, od11, .func (PySem.W.fnOf "_law_draw_heading" "_law_draw_heading" (defArgs (topS 14)) (defBody (topS 14)) (defScope (topS 14)) .none kV11 dc11 pm11 an11 cd11 ct11), sl11⟩) (c11 : PySem.W.codeIn K cd11 "_law_draw_heading" = true) (k11 : PySem.W.keepIn K (.ref f11) = true)
    {oc12 kV12 dc12 pm12 cd12 ct12 : Value} {od12 an12 : Option Addr} {sl12 : Array (Option Value)} {f12 : Addr}
    (a12 : PySem.W.nsIn K mainGlobals "_law_draw_folding_web" = some (some (.ref f12))) (l12 : K.lookup f12 = some ⟨oc12, od12, .func (PySem.W.fnOf "_law_draw_folding_web" "_law_draw_folding_web" (defArgs (topS 15)) (defBody (topS 15)) (defScope (topS 15)) .none kV12 dc12 pm12 an12 cd12 ct12), sl12⟩) (c12 : PySem.W.codeIn K cd12 "_law_draw_folding_web" = true) (k12 : PySem.W.keepIn K (.ref f12) = true)
    {oc13 kV13 dc13 pm13 cd13 ct13 : Value} {od13 an13 : Option Addr} {sl13 : Array (Option Value)} {f13 : Addr}
    (a13 : PySem.W.nsIn K mainGlobals "_law_draw_core" = some (some (.ref f13))) (l13 : K.lookup f13 = some ⟨oc13, od13, .func (PySem.W.fnOf "_law_draw_core" "_law_draw_core" (defArgs (topS 16)) (defBody (topS 16)) (defScope (topS 16)) .none kV13 dc13 pm13 an13 cd13 ct13), sl13⟩) (c13 : PySem.W.codeIn K cd13 "_law_draw_core" = true) (k13 : PySem.W.keepIn K (.ref f13) = true)
    {oc14 kV14 dc14 pm14 cd14 ct14 : Value} {od14 an14 : Option Addr} {sl14 : Array (Option Value)} {f14 : Addr}
    (a14 : PySem.W.nsIn K mainGlobals "_law_core_pieces" = some (some (.ref f14))) (l14 : K.lookup f14 = some ⟨oc14, od14, .func (PySem.W.fnOf "_law_core_pieces" "_law_core_pieces" (defArgs (topS 17)) (defBody (topS 17)) (defScope (topS 17)) .none kV14 dc14 pm14 an14 cd14 ct14), sl14⟩) (c14 : PySem.W.codeIn K cd14 "_law_core_pieces" = true) (k14 : PySem.W.keepIn K (.ref f14) = true)
    {oc15 kV15 dc15 pm15 cd15 ct15 : Value} {od15 an15 : Option Addr} {sl15 : Array (Option Value)} {f15 : Addr}
    (a15 : PySem.W.nsIn K mainGlobals "_law_draw_cored_web" = some (some (.ref f15))) (l15 : K.lookup f15 = some ⟨oc15, od15, .func (PySem.W.fnOf "_law_draw_cored_web" "_law_draw_cored_web" (defArgs (topS 18)) (defBody (topS 18)) (defScope (topS 18)) .none kV15 dc15 pm15 an15 cd15 ct15), sl15⟩) (c15 : PySem.W.codeIn K cd15 "_law_draw_cored_web" = true) (k15 : PySem.W.keepIn K (.ref f15) = true)
    {oc16 kV16 dc16 pm16 cd16 ct16 : Value} {od16 an16 : Option Addr} {sl16 : Array (Option Value)} {f16 : Addr}
    (a16 : PySem.W.nsIn K mainGlobals "_law_draw_web" = some (some (.ref f16))) (l16 : K.lookup f16 = some ⟨oc16, od16, .func (PySem.W.fnOf "_law_draw_web" "_law_draw_web" (defArgs (topS 19)) (defBody (topS 19)) (defScope (topS 19)) .none kV16 dc16 pm16 an16 cd16 ct16), sl16⟩) (c16 : PySem.W.codeIn K cd16 "_law_draw_web" = true) (k16 : PySem.W.keepIn K (.ref f16) = true)
    {oc17 kV17 dc17 pm17 cd17 ct17 : Value} {od17 an17 : Option Addr} {sl17 : Array (Option Value)} {f17 : Addr}
    (a17 : PySem.W.nsIn K mainGlobals "_law_ears_in" = some (some (.ref f17))) (l17 : K.lookup f17 = some ⟨oc17, od17, .func (PySem.W.fnOf "_law_ears_in" "_law_ears_in" (defArgs (topS 20)) (defBody (topS 20)) (defScope (topS 20)) .none kV17 dc17 pm17 an17 cd17 ct17), sl17⟩) (c17 : PySem.W.codeIn K cd17 "_law_ears_in" = true) (k17 : PySem.W.keepIn K (.ref f17) = true)
    {oc18 kV18 dc18 pm18 cd18 ct18 : Value} {od18 an18 : Option Addr} {sl18 : Array (Option Value)} {f18 : Addr}
    (a18 : PySem.W.nsIn K mainGlobals "_law_draw_folding" = some (some (.ref f18))) (l18 : K.lookup f18 = some ⟨oc18, od18, .func (PySem.W.fnOf "_law_draw_folding" "_law_draw_folding" (defArgs (topS 21)) (defBody (topS 21)) (defScope (topS 21)) .none kV18 dc18 pm18 an18 cd18 ct18), sl18⟩) (c18 : PySem.W.codeIn K cd18 "_law_draw_folding" = true) (k18 : PySem.W.keepIn K (.ref f18) = true)
    {oc19 kV19 dc19 pm19 cd19 ct19 : Value} {od19 an19 : Option Addr} {sl19 : Array (Option Value)} {f19 : Addr}
    (a19 : PySem.W.nsIn K mainGlobals "_law_folding" = some (some (.ref f19))) (l19 : K.lookup f19 = some ⟨oc19, od19, .func (PySem.W.fnOf "_law_folding" "_law_folding" (defArgs (topS 22)) (defBody (topS 22)) (defScope (topS 22)) .none kV19 dc19 pm19 an19 cd19 ct19), sl19⟩) (c19 : PySem.W.codeIn K cd19 "_law_folding" = true) (k19 : PySem.W.keepIn K (.ref f19) = true)
    {oc20 kV20 dc20 pm20 cd20 ct20 : Value} {od20 an20 : Option Addr} {sl20 : Array (Option Value)} {f20 : Addr}
    (a20 : PySem.W.nsIn K mainGlobals "_law_is_number" = some (some (.ref f20))) (l20 : K.lookup f20 = some ⟨oc20, od20, .func (PySem.W.fnOf "_law_is_number" "_law_is_number" (defArgs (topS 23)) (defBody (topS 23)) (defScope (topS 23)) .none kV20 dc20 pm20 an20 cd20 ct20), sl20⟩) (c20 : PySem.W.codeIn K cd20 "_law_is_number" = true) (k20 : PySem.W.keepIn K (.ref f20) = true)
    {oc21 kV21 dc21 pm21 cd21 ct21 : Value} {od21 an21 : Option Addr} {sl21 : Array (Option Value)} {f21 : Addr}
    (a21 : PySem.W.nsIn K mainGlobals "_law_odd" = some (some (.ref f21))) (l21 : K.lookup f21 = some ⟨oc21, od21, .func (PySem.W.fnOf "_law_odd" "_law_odd" (defArgs (topS 24)) (defBody (topS 24)) (defScope (topS 24)) .none kV21 dc21 pm21 an21 cd21 ct21), sl21⟩) (c21 : PySem.W.codeIn K cd21 "_law_odd" = true) (k21 : PySem.W.keepIn K (.ref f21) = true)
    {oc22 kV22 dc22 pm22 cd22 ct22 : Value} {od22 an22 : Option Addr} {sl22 : Array (Option Value)} {f22 : Addr}
    (a22 : PySem.W.nsIn K mainGlobals "_law_is_pair" = some (some (.ref f22))) (l22 : K.lookup f22 = some ⟨oc22, od22, .func (PySem.W.fnOf "_law_is_pair" "_law_is_pair" (defArgs (topS 25)) (defBody (topS 25)) (defScope (topS 25)) .none kV22 dc22 pm22 an22 cd22 ct22), sl22⟩) (c22 : PySem.W.codeIn K cd22 "_law_is_pair" = true) (k22 : PySem.W.keepIn K (.ref f22) = true)
    {oc23 kV23 dc23 pm23 cd23 ct23 : Value} {od23 an23 : Option Addr} {sl23 : Array (Option Value)} {f23 : Addr}
    (a23 : PySem.W.nsIn K mainGlobals "_law_due" = some (some (.ref f23))) (l23 : K.lookup f23 = some ⟨oc23, od23, .func (PySem.W.fnOf "_law_due" "_law_due" (defArgs (topS 26)) (defBody (topS 26)) (defScope (topS 26)) .none kV23 dc23 pm23 an23 cd23 ct23), sl23⟩) (c23 : PySem.W.codeIn K cd23 "_law_due" = true) (k23 : PySem.W.keepIn K (.ref f23) = true)
    {oc24 kV24 dc24 pm24 cd24 ct24 : Value} {od24 an24 : Option Addr} {sl24 : Array (Option Value)} {f24 : Addr}
    (a24 : PySem.W.nsIn K mainGlobals "_law_bent" = some (some (.ref f24))) (l24 : K.lookup f24 = some ⟨oc24, od24, .func (PySem.W.fnOf "_law_bent" "_law_bent" (defArgs (topS 27)) (defBody (topS 27)) (defScope (topS 27)) .none kV24 dc24 pm24 an24 cd24 ct24), sl24⟩) (c24 : PySem.W.codeIn K cd24 "_law_bent" = true) (k24 : PySem.W.keepIn K (.ref f24) = true)
    {oc25 kV25 dc25 pm25 cd25 ct25 : Value} {od25 an25 : Option Addr} {sl25 : Array (Option Value)} {f25 : Addr}
    (a25 : PySem.W.nsIn K mainGlobals "law" = some (some (.ref f25))) (l25 : K.lookup f25 = some ⟨oc25, od25, .func (PySem.W.fnOf "law" "law" (defArgs (topS 28)) (defBody (topS 28)) (defScope (topS 28)) .none kV25 dc25 pm25 an25 cd25 ct25), sl25⟩) (c25 : PySem.W.codeIn K cd25 "law" = true) (k25 : PySem.W.keepIn K (.ref f25) = true)
    (z_len : PySem.W.nsIn K mainGlobals "len" = some none)
    (z_abs : PySem.W.nsIn K mainGlobals "abs" = some none)
    (z_int : PySem.W.nsIn K mainGlobals "int" = some none)
    (z_repr : PySem.W.nsIn K mainGlobals "repr" = some none)
    (z_sorted : PySem.W.nsIn K mainGlobals "sorted" = some none)
    (z_tuple : PySem.W.nsIn K mainGlobals "tuple" = some none)
    (z_list : PySem.W.nsIn K mainGlobals "list" = some none)
    (z_all : PySem.W.nsIn K mainGlobals "all" = some none)
    (z_any : PySem.W.nsIn K mainGlobals "any" = some none)
    (z_sum : PySem.W.nsIn K mainGlobals "sum" = some none)
    (z_min : PySem.W.nsIn K mainGlobals "min" = some none)
    (z_max : PySem.W.nsIn K mainGlobals "max" = some none)
    (z_range : PySem.W.nsIn K mainGlobals "range" = some none)
    (z_enumerate : PySem.W.nsIn K mainGlobals "enumerate" = some none)
    (z_isinstance : PySem.W.nsIn K mainGlobals "isinstance" = some none)
    (z_zip : PySem.W.nsIn K mainGlobals "zip" = some none)
    (z_bool : PySem.W.nsIn K mainGlobals "bool" = some none)
    (z_str : PySem.W.nsIn K mainGlobals "str" = some none)
    (z_dict : PySem.W.nsIn K mainGlobals "dict" = some none)
    (z_set : PySem.W.nsIn K mainGlobals "set" = some none)
    : ∃ fd : FuncData, (∀ (s : Shared) (v : Value), BindsTo s fd ⟨[v], []⟩ [("_law_script", v)]) ∧ ∀ base : Heap, K.In base → base.Ns mainGlobals mg → FnG l.prog w K mg base 34 fa fd ["_law_script"] (spG K (fun _ => 0) (callD P 30 f_law)) := by
  have e := hfa.symm.trans (PySem.W.mg_of KX G a25)
  cases e
  have bz : Blts mg := by
    refine ⟨fun b hb => ?_, PySem.W.mg_none_of KX G z_range, PySem.W.mg_none_of KX G z_enumerate, fun x hx => ?_⟩
    · cases b <;> first | exact absurd hb Bool.false_ne_true | exact PySem.W.mg_none_of KX G z_len | exact PySem.W.mg_none_of KX G z_abs | exact PySem.W.mg_none_of KX G z_int | exact PySem.W.mg_none_of KX G z_repr | exact PySem.W.mg_none_of KX G z_sorted | exact PySem.W.mg_none_of KX G z_tuple | exact PySem.W.mg_none_of KX G z_list | exact PySem.W.mg_none_of KX G z_all | exact PySem.W.mg_none_of KX G z_any | exact PySem.W.mg_none_of KX G z_sum | exact PySem.W.mg_none_of KX G z_min | exact PySem.W.mg_none_of KX G z_max
    · simp only [moreN, List.mem_cons, List.not_mem_nil, or_false] at hx
      rcases hx with rfl | rfl | rfl | rfl | rfl | rfl | rfl | rfl | rfl
      · exact PySem.W.mg_none_of KX G z_isinstance
      · exact PySem.W.mg_none_of KX G z_zip
      · exact PySem.W.mg_none_of KX G z_int
      · exact PySem.W.mg_none_of KX G z_tuple
      · exact PySem.W.mg_none_of KX G z_list
      · exact PySem.W.mg_none_of KX G z_bool
      · exact PySem.W.mg_none_of KX G z_str
      · exact PySem.W.mg_none_of KX G z_dict
      · exact PySem.W.mg_none_of KX G z_set
  let fas : Nat → Addr := fun i => match i with | 0 => f0 | 1 => f1 | 2 => f2 | 3 => f3 | 4 => f4 | 5 => f5 | 6 => f6 | 7 => f7 | 8 => f8 | 9 => f9 | 10 => f10 | 11 => f11 | 12 => f12 | 13 => f13 | 14 => f14 | 15 => f15 | 16 => f16 | 17 => f17 | 18 => f18 | 19 => f19 | 20 => f20 | 21 => f21 | 22 => f22 | 23 => f23 | 24 => f24 | 25 => fa | _ => 0
  let fds : Nat → FuncData := fun i => match i with | 0 => PySem.W.fnOf "is_number" "is_number" (defArgs (topS 1)) (defBody (topS 1)) (defScope (topS 1)) .none kV0 dc0 pm0 an0 cd0 ct0 | 1 => PySem.W.fnOf "lies_within" "lies_within" (defArgs (topS 2)) (defBody (topS 2)) (defScope (topS 2)) .none kV1 dc1 pm1 an1 cd1 ct1 | 2 => PySem.W.fnOf "is_ear" "is_ear" (defArgs (topS 4)) (defBody (topS 4)) (defScope (topS 4)) .none kV2 dc2 pm2 an2 cd2 ct2 | 3 => PySem.W.fnOf "is_pair" "is_pair" (defArgs (topS 5)) (defBody (topS 5)) (defScope (topS 5)) .none kV3 dc3 pm3 an3 cd3 ct3 | 4 => PySem.W.fnOf "judge_folding" "judge_folding" (defArgs (topS 6)) (defBody (topS 6)) (defScope (topS 6)) .none kV4 dc4 pm4 an4 cd4 ct4 | 5 => PySem.W.fnOf "_law_open_cells" "_law_open_cells" (defArgs (topS 8)) (defBody (topS 8)) (defScope (topS 8)) .none kV5 dc5 pm5 an5 cd5 ct5 | 6 => PySem.W.fnOf "_law_pick" "_law_pick" (defArgs (topS 9)) (defBody (topS 9)) (defScope (topS 9)) .none kV6 dc6 pm6 an6 cd6 ct6 | 7 => PySem.W.fnOf "_law_any_order" "_law_any_order" (defArgs (topS 10)) (defBody (topS 10)) (defScope (topS 10)) .none kV7 dc7 pm7 an7 cd7 ct7 | 8 => PySem.W.fnOf "_law_draw_names" "_law_draw_names" (defArgs (topS 11)) (defBody (topS 11)) (defScope (topS 11)) .none kV8 dc8 pm8 an8 cd8 ct8 | 9 => PySem.W.fnOf "_law_draw_some" "_law_draw_some" (defArgs (topS 12)) (defBody (topS 12)) (defScope (topS 12)) .none kV9 dc9 pm9 an9 cd9 ct9 | 10 => PySem.W.fnOf "_law_choice_of" "_law_choice_of" (defArgs (topS 13)) (defBody (topS 13)) (defScope (topS 13)) .none kV10 dc10 pm10 an10 cd10 ct10 | 11 => PySem.W.fnOf "_law_draw_heading" "_law_draw_heading" (defArgs (topS 14)) (defBody (topS 14)) (defScope (topS 14)) .none kV11 dc11 pm11 an11 cd11 ct11 | 12 => PySem.W.fnOf "_law_draw_folding_web" "_law_draw_folding_web" (defArgs (topS 15)) (defBody (topS 15)) (defScope (topS 15)) .none kV12 dc12 pm12 an12 cd12 ct12 | 13 => PySem.W.fnOf "_law_draw_core" "_law_draw_core" (defArgs (topS 16)) (defBody (topS 16)) (defScope (topS 16)) .none kV13 dc13 pm13 an13 cd13 ct13 | 14 => PySem.W.fnOf "_law_core_pieces" "_law_core_pieces" (defArgs (topS 17)) (defBody (topS 17)) (defScope (topS 17)) .none kV14 dc14 pm14 an14 cd14 ct14 | 15 => PySem.W.fnOf "_law_draw_cored_web" "_law_draw_cored_web" (defArgs (topS 18)) (defBody (topS 18)) (defScope (topS 18)) .none kV15 dc15 pm15 an15 cd15 ct15 | 16 => PySem.W.fnOf "_law_draw_web" "_law_draw_web" (defArgs (topS 19)) (defBody (topS 19)) (defScope (topS 19)) .none kV16 dc16 pm16 an16 cd16 ct16 | 17 => PySem.W.fnOf "_law_ears_in" "_law_ears_in" (defArgs (topS 20)) (defBody (topS 20)) (defScope (topS 20)) .none kV17 dc17 pm17 an17 cd17 ct17 | 18 => PySem.W.fnOf "_law_draw_folding" "_law_draw_folding" (defArgs (topS 21)) (defBody (topS 21)) (defScope (topS 21)) .none kV18 dc18 pm18 an18 cd18 ct18 | 19 => PySem.W.fnOf "_law_folding" "_law_folding" (defArgs (topS 22)) (defBody (topS 22)) (defScope (topS 22)) .none kV19 dc19 pm19 an19 cd19 ct19 | 20 => PySem.W.fnOf "_law_is_number" "_law_is_number" (defArgs (topS 23)) (defBody (topS 23)) (defScope (topS 23)) .none kV20 dc20 pm20 an20 cd20 ct20 | 21 => PySem.W.fnOf "_law_odd" "_law_odd" (defArgs (topS 24)) (defBody (topS 24)) (defScope (topS 24)) .none kV21 dc21 pm21 an21 cd21 ct21 | 22 => PySem.W.fnOf "_law_is_pair" "_law_is_pair" (defArgs (topS 25)) (defBody (topS 25)) (defScope (topS 25)) .none kV22 dc22 pm22 an22 cd22 ct22 | 23 => PySem.W.fnOf "_law_due" "_law_due" (defArgs (topS 26)) (defBody (topS 26)) (defScope (topS 26)) .none kV23 dc23 pm23 an23 cd23 ct23 | 24 => PySem.W.fnOf "_law_bent" "_law_bent" (defArgs (topS 27)) (defBody (topS 27)) (defScope (topS 27)) .none kV24 dc24 pm24 an24 cd24 ct24 | 25 => PySem.W.fnOf "law" "law" (defArgs (topS 28)) (defBody (topS 28)) (defScope (topS 28)) .none kV25 dc25 pm25 an25 cd25 ct25 | _ => PySem.W.fnOf "is_number" "is_number" (defArgs (topS 1)) (defBody (topS 1)) (defScope (topS 1)) .none kV0 dc0 pm0 an0 cd0 ct0
  let pns : Nat → List Str := fun i => match i with | 0 => p_is_number | 1 => p_lies_within | 2 => p_is_ear | 3 => p_is_pair | 4 => p_judge_folding | 5 => p__law_open_cells | 6 => p__law_pick | 7 => p__law_any_order | 8 => p__law_draw_names | 9 => p__law_draw_some | 10 => p__law_choice_of | 11 => p__law_draw_heading | 12 => p__law_draw_folding_web | 13 => p__law_draw_core | 14 => p__law_core_pieces | 15 => p__law_draw_cored_web | 16 => p__law_draw_web | 17 => p__law_ears_in | 18 => p__law_draw_folding | 19 => p__law_folding | 20 => p__law_is_number | 21 => p__law_odd | 22 => p__law_is_pair | 23 => p__law_due | 24 => p__law_bent | 25 => p_law | _ => []
  have hd : ∀ (f : Nat) (x : Str), names[f]? = some x → ∃ d, P.defs[f]? = some d ∧ DefOk K mg names gls x d (fas f) (fds f) (pns f) := by
    intro f x hx
    match f, hx with
    | 0, hx => have hx : some ("is_number" : Str) = some x := hx; cases hx; exact ⟨_, rfl, ok_is_number (fun_mk l0 c0 k0) (PySem.W.mg_of KX G a0)⟩
    | 1, hx => have hx : some ("lies_within" : Str) = some x := hx; cases hx; exact ⟨_, rfl, ok_lies_within (fun_mk l1 c1 k1) (PySem.W.mg_of KX G a1)⟩
    | 2, hx => have hx : some ("is_ear" : Str) = some x := hx; cases hx; exact ⟨_, rfl, ok_is_ear (fun_mk l2 c2 k2) (PySem.W.mg_of KX G a2)⟩
    | 3, hx => have hx : some ("is_pair" : Str) = some x := hx; cases hx; exact ⟨_, rfl, ok_is_pair (fun_mk l3 c3 k3) (PySem.W.mg_of KX G a3)⟩
    | 4, hx => have hx : some ("judge_folding" : Str) = some x := hx; cases hx; exact ⟨_, rfl, ok_judge_folding (fun_mk l4 c4 k4) (PySem.W.mg_of KX G a4)⟩
    | 5, hx => have hx : some ("_law_open_cells" : Str) = some x := hx; cases hx; exact ⟨_, rfl, ok__law_open_cells (fun_mk l5 c5 k5) (PySem.W.mg_of KX G a5)⟩
    | 6, hx => have hx : some ("_law_pick" : Str) = some x := hx; cases hx; exact ⟨_, rfl, ok__law_pick (fun_mk l6 c6 k6) (PySem.W.mg_of KX G a6)⟩
    | 7, hx => have hx : some ("_law_any_order" : Str) = some x := hx; cases hx; exact ⟨_, rfl, ok__law_any_order (fun_mk l7 c7 k7) (PySem.W.mg_of KX G a7)⟩
    | 8, hx => have hx : some ("_law_draw_names" : Str) = some x := hx; cases hx; exact ⟨_, rfl, ok__law_draw_names (fun_mk l8 c8 k8) (PySem.W.mg_of KX G a8)⟩
    | 9, hx => have hx : some ("_law_draw_some" : Str) = some x := hx; cases hx; exact ⟨_, rfl, ok__law_draw_some (fun_mk l9 c9 k9) (PySem.W.mg_of KX G a9)⟩
    | 10, hx => have hx : some ("_law_choice_of" : Str) = some x := hx; cases hx; exact ⟨_, rfl, ok__law_choice_of (fun_mk l10 c10 k10) (PySem.W.mg_of KX G a10)⟩
    | 11, hx => have hx : some ("_law_draw_heading" : Str) = some x := hx; cases hx; exact ⟨_, rfl, ok__law_draw_heading (fun_mk l11 c11 k11) (PySem.W.mg_of KX G a11)⟩
    | 12, hx => have hx : some ("_law_draw_folding_web" : Str) = some x := hx; cases hx; exact ⟨_, rfl, ok__law_draw_folding_web (fun_mk l12 c12 k12) (PySem.W.mg_of KX G a12)⟩
    | 13, hx => have hx : some ("_law_draw_core" : Str) = some x := hx; cases hx; exact ⟨_, rfl, ok__law_draw_core (fun_mk l13 c13 k13) (PySem.W.mg_of KX G a13)⟩
    | 14, hx => have hx : some ("_law_core_pieces" : Str) = some x := hx; cases hx; exact ⟨_, rfl, ok__law_core_pieces (fun_mk l14 c14 k14) (PySem.W.mg_of KX G a14)⟩
    | 15, hx => have hx : some ("_law_draw_cored_web" : Str) = some x := hx; cases hx; exact ⟨_, rfl, ok__law_draw_cored_web (fun_mk l15 c15 k15) (PySem.W.mg_of KX G a15)⟩
    | 16, hx => have hx : some ("_law_draw_web" : Str) = some x := hx; cases hx; exact ⟨_, rfl, ok__law_draw_web (fun_mk l16 c16 k16) (PySem.W.mg_of KX G a16)⟩
    | 17, hx => have hx : some ("_law_ears_in" : Str) = some x := hx; cases hx; exact ⟨_, rfl, ok__law_ears_in (fun_mk l17 c17 k17) (PySem.W.mg_of KX G a17)⟩
    | 18, hx => have hx : some ("_law_draw_folding" : Str) = some x := hx; cases hx; exact ⟨_, rfl, ok__law_draw_folding (fun_mk l18 c18 k18) (PySem.W.mg_of KX G a18)⟩
    | 19, hx => have hx : some ("_law_folding" : Str) = some x := hx; cases hx; exact ⟨_, rfl, ok__law_folding (fun_mk l19 c19 k19) (PySem.W.mg_of KX G a19)⟩
    | 20, hx => have hx : some ("_law_is_number" : Str) = some x := hx; cases hx; exact ⟨_, rfl, ok__law_is_number (fun_mk l20 c20 k20) (PySem.W.mg_of KX G a20)⟩
    | 21, hx => have hx : some ("_law_odd" : Str) = some x := hx; cases hx; exact ⟨_, rfl, ok__law_odd (fun_mk l21 c21 k21) (PySem.W.mg_of KX G a21)⟩
    | 22, hx => have hx : some ("_law_is_pair" : Str) = some x := hx; cases hx; exact ⟨_, rfl, ok__law_is_pair (fun_mk l22 c22 k22) (PySem.W.mg_of KX G a22)⟩
    | 23, hx => have hx : some ("_law_due" : Str) = some x := hx; cases hx; exact ⟨_, rfl, ok__law_due (fun_mk l23 c23 k23) (PySem.W.mg_of KX G a23)⟩
    | 24, hx => have hx : some ("_law_bent" : Str) = some x := hx; cases hx; exact ⟨_, rfl, ok__law_bent (fun_mk l24 c24 k24) (PySem.W.mg_of KX G a24)⟩
    | 25, hx => have hx : some ("law" : Str) = some x := hx; cases hx; exact ⟨_, rfl, ok_law (fun_mk l25 c25 k25) (PySem.W.mg_of KX G a25)⟩
    | i + 26, hx => have hx : (none : Option Str) = some x := hx; cases hx
  have hgl : ∀ (k : Nat) (x : Str), gls[k]? = some x → ∃ (d : D) (v : V) (u : Value), P.glbs[k]? = some d ∧ mg x = some u ∧ L2.RelV v u ∧ ∀ H ρ, Rel K (fun _ => 0) H ρ d v := by
    intro k x hx
    match k, hx with
    | i + 0, hx => have hx : (none : Option Str) = some x := hx; cases hx
  exact ⟨fds 25, fun s v => .of_eq rfl, fun base _ _ => defs_ok (P := l.prog) (w := w) (base := base) (cl := fun _ => 0) P names gls fas fds pns bz hd hgl 30 25 "law" rfl⟩
theorem want {K : PySem.W.Frag} {H : Hp} {a : Addr} {ns : List Int} (hn : ns.length ≤ 63) (h : SqL K H a (ns.map V.int)) : spG K (fun _ => 0) (callD P 30 f_law) [.ref a] H fun v _ => v = .bl true := by
  obtain ⟨st, e⟩ := law_true ns hn
  obtain ⟨rs, rd⟩ := rel_script (cl := fun _ => 0) h
  refine ⟨_, [], [.scr ns], rs, rd, ?_⟩
  rw [e]
  exact fun H1 ρ1 b _ _ q => q
end T_k14
open PyProof.Rows PySem.W PySem
set_option maxHeartbeats 0 in
theorem PySem.Challenge.cw_agreetwo_k14_foldings_judged_holds : PySem.Challenge.rw_agreetwo_k14_foldings_judged.Holds := by
  w_on; o_law; k_head
  (case hw => w_witness2)
  k_fill
  refine Dv.walk_G (l := PySem.Challenge.rw_agreetwo_k14_foldings_judged) (n := 63) (k := 34) (x := "_law_script") (sp := fun w => Dv.spG _ (fun _ => 0) (Dv.callD T_k14.P 30 T_k14.f_law)) rfl (by decide) rfl ⟨rfl, by decide, by decide⟩ (fun w h Y => PySem.W.kIn_of Y) ?F (fun _ _ a ns hl _ hS => T_k14.want hl hS)
  case F =>
    intro w mg fa h KX G hmg
    refine' T_k14.all_of KX G hmg ?a0 ?l0 ?c0 ?k0 ?a1 ?l1 ?c1 ?k1 ?a2 ?l2 ?c2 ?k2 ?a3 ?l3 ?c3 ?k3 ?a4 ?l4 ?c4 ?k4 ?a5 ?l5 ?c5 ?k5 ?a6 ?l6 ?c6 ?k6 ?a7 ?l7 ?c7 ?k7 ?a8 ?l8 ?c8 ?k8 ?a9 ?l9 ?c9 ?k9 ?a10 ?l10 ?c10 ?k10 ?a11 ?l11 ?c11 ?k11 ?a12 ?l12 ?c12 ?k12 ?a13 ?l13 ?c13 ?k13 ?a14 ?l14 ?c14 ?k14 ?a15 ?l15 ?c15 ?k15 ?a16 ?l16 ?c16 ?k16 ?a17 ?l17 ?c17 ?k17 ?a18 ?l18 ?c18 ?k18 ?a19 ?l19 ?c19 ?k19 ?a20 ?l20 ?c20 ?k20 ?a21 ?l21 ?c21 ?k21 ?a22 ?l22 ?c22 ?k22 ?a23 ?l23 ?c23 ?k23 ?a24 ?l24 ?c24 ?k24 ?a25 ?l25 ?c25 ?k25 ?z_len ?z_abs ?z_int ?z_repr ?z_sorted ?z_tuple ?z_list ?z_all ?z_any ?z_sum ?z_min ?z_max ?z_range ?z_enumerate ?z_isinstance ?z_zip ?z_bool ?z_str ?z_dict ?z_set
    (case a0 => k_is)
    (case l0 => k_is)
    (case c0 => k_is)
    (case k0 => k_is)
    (case a1 => k_is)
    (case l1 => k_is)
    (case c1 => k_is)
    (case k1 => k_is)
    (case a2 => k_is)
    (case l2 => k_is)
    (case c2 => k_is)
    (case k2 => k_is)
    (case a3 => k_is)
    (case l3 => k_is)
    (case c3 => k_is)
    (case k3 => k_is)
    (case a4 => k_is)
    (case l4 => k_is)
    (case c4 => k_is)
    (case k4 => k_is)
    (case a5 => k_is)
    (case l5 => k_is)
    (case c5 => k_is)
    (case k5 => k_is)
    (case a6 => k_is)
    (case l6 => k_is)
    (case c6 => k_is)
    (case k6 => k_is)
    (case a7 => k_is)
    (case l7 => k_is)
    (case c7 => k_is)
    (case k7 => k_is)
    (case a8 => k_is)
    (case l8 => k_is)
    (case c8 => k_is)
    (case k8 => k_is)
    (case a9 => k_is)
    (case l9 => k_is)
    (case c9 => k_is)
    (case k9 => k_is)
    (case a10 => k_is)
    (case l10 => k_is)
    (case c10 => k_is)
    (case k10 => k_is)
    (case a11 => k_is)
    (case l11 => k_is)
    (case c11 => k_is)
    (case k11 => k_is)
    (case a12 => k_is)
    (case l12 => k_is)
    (case c12 => k_is)
    (case k12 => k_is)
    (case a13 => k_is)
    (case l13 => k_is)
    (case c13 => k_is)
    (case k13 => k_is)
    (case a14 => k_is)
    (case l14 => k_is)
    (case c14 => k_is)
    (case k14 => k_is)
    (case a15 => k_is)
    (case l15 => k_is)
    (case c15 => k_is)
    (case k15 => k_is)
    (case a16 => k_is)
    (case l16 => k_is)
    (case c16 => k_is)
    (case k16 => k_is)
    (case a17 => k_is)
    (case l17 => k_is)
    (case c17 => k_is)
    (case k17 => k_is)
    (case a18 => k_is)
    (case l18 => k_is)
    (case c18 => k_is)
    (case k18 => k_is)
    (case a19 => k_is)
    (case l19 => k_is)
    (case c19 => k_is)
    (case k19 => k_is)
    (case a20 => k_is)
    (case l20 => k_is)
    (case c20 => k_is)
    (case k20 => k_is)
    (case a21 => k_is)
    (case l21 => k_is)
    (case c21 => k_is)
    (case k21 => k_is)
    (case a22 => k_is)
    (case l22 => k_is)
    (case c22 => k_is)
    (case k22 => k_is)
    (case a23 => k_is)
    (case l23 => k_is)
    (case c23 => k_is)
    (case k23 => k_is)
    (case a24 => k_is)
    (case l24 => k_is)
    (case c24 => k_is)
    (case k24 => k_is)
    (case a25 => k_is)
    (case l25 => k_is)
    (case c25 => k_is)
    (case k25 => k_is)
    (case z_len => k_is)
    (case z_abs => k_is)
    (case z_int => k_is)
    (case z_repr => k_is)
    (case z_sorted => k_is)
    (case z_tuple => k_is)
    (case z_list => k_is)
    (case z_all => k_is)
    (case z_any => k_is)
    (case z_sum => k_is)
    (case z_min => k_is)
    (case z_max => k_is)
    (case z_range => k_is)
    (case z_enumerate => k_is)
    (case z_isinstance => k_is)
    (case z_zip => k_is)
    (case z_bool => k_is)
    (case z_str => k_is)
    (case z_dict => k_is)
    (case z_set => k_is)
