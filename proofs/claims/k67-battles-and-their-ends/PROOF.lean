import PyProof.Rows.All
import Wide.All
import OpenK.AllK
import Wide.FinOn
import KE.SortData
import HandS.ForMost
import HandS.SortKw
import HandS.Defaults
import HandS.HeadEnd
import HandS.Head0
import HandS.Head1
import HandS.Head2
import HandS.HeadHook1
import HandS.HeadHook2
import HandS.HeadHook3
import HandS.HeadHook4
import HandS.HeadWalk
import KE.KStateDown
import HandS.Wide
import HandS.TupAny
import HandS.TupMul
import HandS.TupLe
import HandS.Style
import HandS.Flow
import HandS.Deep
import HandS.IsInst
import KE.DataMinMax
import KE.DataAny
import HandS.WordsList
import HandS.More
import HandS.Iter
import HandS.Zip
import HandS.Comp
import PySem.Challenge.RW_wormsinline_k67_whole_battles_and_their
set_option Elab.async false
set_option linter.all false
set_option maxRecDepth 100000
set_option maxHeartbeats 1000000
/-! EvSort0: sorted of alike data, empty tuples among them; of lists and of tuples. -/
namespace Ev
open PySem PySem.Spec PyProof.Rows PySem.W
section
variable {prog : Program} {w : World} {A : Around} {E : Value → Shared → Prop} {s : Shared}
/-- tuple's own __lt__ -/
theorem tup_lt_call {Q : Value → Shared → Prop} {p q : Addr} {us ws : Array Value} {e r : Nat → Bool} (hp : s.heap.IsTuple p us) (hq : s.heap.IsTuple q ws)
    (he : ∀ j (j1 : j < us.size) (j2 : j < ws.size), SeqAt.EqAt A.in1 s us[j] ws[j] (e j)) (hr : ∀ j (j1 : j < us.size) (j2 : j < ws.size), e j = false → SeqAt.RcLt A.in1 s us[j] ws[j] (r j))
    (h : Q (.bool (SeqAt.firstLt e r (decide (us.size < ws.size)) (List.range (min us.size ws.size)))) s) : wpAny (model prog w) A (call (.builtin "tuple.__lt__") [.ref p, .ref q]) Q E s := by
  obtain ⟨⟨c1, d1, dat1, sl1⟩, o1, e1, n1, f1⟩ := id hp
  obtain ⟨⟨c2, d2, dat2, sl2⟩, o2, e2, n2, f2⟩ := id hq
  simp only at e1 f1 e2 f2
  subst e1 f1 e2 f2
  exact call_meets PySem.F.slot_tuple_lt ⟨_, o1, rfl⟩ PySem.F.entry_tuple_lt (PySem.F.args_tuple_lt_2 _ _) (SeqAt.tuple_ltAt p q us ws n1 n2 d1 d2 sl1 sl2 e r) ⟨o1, o2, he, hr, h⟩
/-- one datum against another, whatever the flag -/
theorem one_lt {f : Bool} {da db : PyData} {a b : Value} {as bs : List Addr} {Q : Bool → Shared → Prop} (ra : Reads s.heap a da as) (rb : Reads s.heap b db bs) (h : alike da db = true) (hn : da ≠ .none)
    (hu : A.units + min da.depth db.depth < cLine) (hq : Q (dataLt da db) s) : wpAny (model prog w) A (oneLt' f a b) Q E s := by
  by_cases ht : ∃ xs, da = .tuple xs
  · obtain ⟨xs, rfl⟩ := ht
    cases f with
    | false => exact oneLt_alike (fun z => nomatch z) ra rb h hn hu hq
    | true =>
      cases db with
      | tuple ys =>
        have al : alikeAll xs ys = true := by simpa [alike] using h
        cases ra with
        | @tuple p o us n _ _ a1 a2 a3 a4 =>
          cases rb with
          | @tuple q o' ws n' _ _ b1 b2 b3 b4 =>
            have l1 : us.size = xs.length := by simpa using SeqAt.ReadsAll.length _ _ _ a4
            have l2 : ws.size = ys.length := by simpa using SeqAt.ReadsAll.length _ _ _ b4
            rw [dataLt_tuple, ← firstLt_toks xs ys al, ← l1, ← l2] at hq
            rw [oneLt'_eq, if_pos rfl]
            have rm := SeqAt.room_in hu
            refine wpAny_bind (wpAny_cRoomFor (SeqAt.room_here hu) ?_)
            refine wpAny_bind (wpAny_callSpecialIfBound?_slot (T := "tuple") ⟨_, a1, a2⟩ PySem.F.slot_tuple_lt (tup_lt_call (e := SeqAt.pairEq xs ys) (r := fun j => dataLt (xs.getD j .none) (ys.getD j .none)) ⟨_, a1, a2, _, a3⟩ ⟨_, b1, b2, _, b3⟩ (fun j j1 j2 => ?_) (fun j j1 j2 hj => ?_) (wpAny_truthy_bool hq)))
            · have z := eqAt_alikeAll xs ys A.in1 s us.toList ws.toList _ _ a4 b4 al rm j (by simpa using j1) (by simpa using j2)
              rw [Array.getElem_toList, Array.getElem_toList] at z
              exact z
            · have z := rcLt_alikeAll xs ys A.in1 s us.toList ws.toList _ _ a4 b4 al rm j (by simpa using j1) (by simpa using j2) hj
              rw [Array.getElem_toList, Array.getElem_toList] at z
              exact z
      | _ => exact absurd h (by simp [alike])
  · exact oneLt_alike (fun _ xs e => ht ⟨xs, e⟩) ra rb h hn hu hq
/-- the first items of tuples -/
theorem tup_firsts : ∀ {vs : List Value} {ds : List PyData}, EachIs (fun v d => ∃ as, Reads s.heap v d as) vs ds → (∀ d, d ∈ ds → ∃ xs, d = .tuple xs) → ∃ fs : List (Option Value), fs.length = vs.length ∧ (PyData.tuple [] ∈ ds → none ∈ fs) ∧
    ∀ (E : Value → Shared → Prop) {Q : List (Option Value) → Shared → Prop}, Q fs s → wpAny (model prog w) A (vs.mapM firstOfTuple') Q E s
  | [], _, .nil, _ => ⟨[], rfl, (fun h => nomatch h), fun E {Q} h => by rw [List.mapM_nil]; exact wpAny_pure h⟩
  | v :: vs, d :: ds, .cons ⟨as, r⟩ t, ht => by
    obtain ⟨fs, f1, f2, f3⟩ := tup_firsts t fun d hd => ht d (List.mem_cons_of_mem _ hd)
    obtain ⟨xs, rfl⟩ := ht d List.mem_cons_self
    cases r with
    | @tuple p o us n _ _ a1 a2 a3 a4 =>
      refine ⟨us[0]? :: fs, by rw [List.length_cons, List.length_cons, f1], fun hm => ?_, fun E {Q} h => ?_⟩
      · rcases List.mem_cons.mp hm with e | hm
        · have e : xs = [] := by injection e with e; exact e.symm
          subst e
          have : us.toList = [] := by cases q : us.toList with
            | nil => rfl
            | cons y ys => rw [q] at a4; cases a4
          have z : us[0]? = none := by rw [← Array.getElem?_toList, this]; rfl
          rw [z]
          exact List.mem_cons_self
        · exact List.mem_cons_of_mem _ (f2 hm)
      · rw [List.mapM_cons]
        refine wpAny_bind ?_
        rw [kas_first_eq]
        refine wpAny_bind (Looks.here (show Looks (model prog w) s.heap (typeOf (.ref p)) o.cls from (Looks.ld a1).andThen .now) ?_)
        rw [a2, if_neg (by first | decide | simp)]
        exact wpAny_bind (listItems_at a1 a3 (wpAny_pure (wpAny_bind (f3 E (Q := fun bs s' => wpAny _ _ (pure (us[0]? :: bs)) Q E s') (wpAny_pure h)))))
/-- the kind of tuples, an empty one among them -/
theorem tup_kind {vs : List Value} {ds : List PyData} (h2 : 2 ≤ vs.length) (e : EachIs (fun v d => ∃ as, Reads s.heap v d as) vs ds) (ht : ∀ d, d ∈ ds → ∃ xs, d = .tuple xs) (h0 : PyData.tuple [] ∈ ds) :
    ∃ one : Bool, ∀ (E : Value → Shared → Prop) {Q : SortKind → Shared → Prop}, Q (if one = true then oneType' else general') s → wpAny (model prog w) A (keyKind' vs.toArray) Q E s := by
  obtain ⟨fs, g1, g2, g3⟩ := tup_firsts (prog := prog) (w := w) (A := A) e ht
  have hm := g2 h0
  have nall : ¬ (fs.toArray.all fun x => x.isSome) = true := fun z => by
    rw [List.all_toArray, List.all_eq_true] at z
    exact absurd (z none hm) (by decide)
  by_cases hf : ((fs.toArray[0]?).bind id).isSome = true
  · refine ⟨false, fun E Q hq => ?_⟩
    rw [kat_kind_eq, List.mapM_toArray, map_eq_pure_bind]
    refine wpAny_bind (wpAny_bind (g3 E (wpAny_pure ?_)))
    rw [if_neg nall, if_pos hf]
    exact wpAny_pure hq
  · refine ⟨true, fun E Q hq => ?_⟩
    rw [kat_kind_eq, List.mapM_toArray, map_eq_pure_bind]
    refine wpAny_bind (wpAny_bind (g3 E (wpAny_pure ?_)))
    rw [if_neg nall, if_neg hf, oneTypeOnly'_eq, List.mapM_toArray, map_eq_pure_bind]
    refine wpAny_bind (wpAny_bind (wpAny_bind (kas_mapM (r := Value.type "tuple") _ (fun v hv Q' hq' => ?_) (wpAny_pure ?_))))
    · obtain ⟨d, hd, as, r⟩ := e.left v hv
      obtain ⟨xs, rfl⟩ := ht d hd
      exact Looks.here (looks_reads r) hq'
    · match vs, h2 with
      | v :: us, _ =>
        have z1 : (List.map (fun _ => Value.type "tuple") (v :: us)).toArray[0]? = some (Value.type "tuple") := by simp
        have z2 : ((List.map (fun _ => Value.type "tuple") (v :: us)).toArray.all fun x => x == Value.type "tuple") = true := by
          rw [List.all_toArray, List.all_map, List.all_eq_true]
          exact fun _ _ => beq_self_eq_true _
        rw [z1]
        simp only [z2, if_true]
        exact wpAny_pure (wpAny_pure hq)
/-- alike data can be sorted -/
theorem sorts_any {vs : List Value} {ds : List PyData} (e : EachIs (fun v d => ∃ as, Reads s.heap v d as) vs ds) (hal : AllAlike ds) (hn : ∀ d ∈ ds, d ≠ .none) (hu : ∀ d, d ∈ ds → A.units + d.depth < cLine) : SortsAt prog w A s (dataKind s.heap ds) vs := by
  by_cases h0 : PyData.tuple [] ∈ ds
  · have ht : ∀ d, d ∈ ds → ∃ xs, d = .tuple xs := fun d hd => by
      have q := hal _ h0 d hd
      cases d with
      | tuple xs => exact ⟨xs, rfl⟩
      | _ => exact absurd q (by simp [alike])
    refine ⟨fun v hv => ?_, ?_⟩
    · obtain ⟨d, hd, as, r⟩ := e.left v hv
      exact ⟨_, dataKind_some hal hd r⟩
    · have lt : ∀ one : Bool, H.LtAt prog w A s (dataKind s.heap ds) (if one = true then oneType' else general') := fun one => by
        intro E x y a b Q ha hb hq
        obtain ⟨d, as, hd, ra, rfl⟩ := dataKind_inv ha
        obtain ⟨d', bs, hd', rb, rfl⟩ := dataKind_inv hb
        have rm : A.units + min d.depth d'.depth < cLine := Nat.lt_of_le_of_lt (Nat.add_le_add_left (Nat.min_le_left _ _) _) (hu d hd)
        cases one with
        | true => exact one_lt (f := true) ra rb (hal d hd d' hd') (hn d hd) rm hq
        | false => exact one_lt (f := false) ra rb (hal d hd d' hd') (hn d hd) rm hq
      by_cases h2 : 2 ≤ vs.length
      · obtain ⟨one, k⟩ := tup_kind (prog := prog) (w := w) (A := A) h2 e ht h0
        exact ⟨_, lt one, fun _ => k⟩
      · exact ⟨_, lt true, fun z => absurd z h2⟩
  · refine SortsAt.data e hal ?_ hu
    cases ds with
    | nil => exact .inr fun d hd => nomatch hd
    | cons d0 ds =>
      by_cases ht : ∃ xs, d0 = .tuple xs
      · obtain ⟨xs0, rfl⟩ := ht
        refine .inl fun d hd => ?_
        have q := hal _ List.mem_cons_self d hd
        cases d with
        | tuple xs =>
          cases xs with
          | nil => exact absurd hd h0
          | cons x r => exact ⟨x, r, rfl⟩
        | _ => exact absurd q (by simp [alike])
      · refine .inr fun d hd => ⟨hn d hd, fun xs ed => ?_⟩
        subst ed
        have q := hal _ hd d0 List.mem_cons_self
        cases d0 with
        | tuple ys => exact ht ⟨ys, rfl⟩
        | _ => exact absurd q (by simp [alike])
end
end Ev
set_option Elab.async false
set_option linter.all false
set_option maxRecDepth 100000
set_option maxHeartbeats 1000000
/-! EvSort1: sorted(..) of a list or a tuple of alike data. -/
namespace Ev
open PySem PySem.Spec PyProof.Rows PySem.W PySem.Calls
section
variable {prog : Program} {w : World} {A : Around} {E : Value → Shared → Prop} {s : Shared}
/-- the heap behind the collecting: one new list that holds the items -/
abbrev gotHeap (h : Heap) (us : List Value) : Heap := (h.push (seqObj "list" #[] 0)).update h.objs.size (Obj.mapSeq (· ++ us.toArray))
theorem collect_tup {t : Addr} {us : List Value} {Q : List Value → Shared → Prop} (ht : s.heap.IsTuple t us.toArray) (q : Q us { s with heap := gotHeap s.heap us }) (hz : us.length ≤ sizeLine) : wpAny (model prog w) A (collect (.ref t)) Q E s := by
  obtain ⟨ob, h1, h2, m, h3⟩ := id ht
  have e1 : (s.heap.push (seqObj "list" #[] 0)).get? t = some ob := Heap.get?_push_of_some _ h1
  have e2 : (s.heap.push (seqObj "list" #[] 0)).get? s.heap.objs.size = some (seqObj "list" #[] 0) := Heap.get?_push_size _ rfl
  unfold collect
  refine wpAny_bind (wpAny_runValue (codeAny_builtin entry_proto_collect' ?_))
  show wpAny _ _ (do let l ← newList []; again (.builtin "list.__iadd__" ⟨[l, .ref t], []⟩)) _ _ s
  refine wpAny_bind (wpAny_newList (wpAny_pure ⟨Code.quiet_builtin _ (by decide +kernel), codeAny_builtin entry_list_iadd' ?_⟩))
  show wpAny _ _ (Builtin.List.listExtendWith (.ref s.heap.objs.size) (.ref t) (.ref s.heap.objs.size)) _ _ { s with heap := s.heap.push (seqObj "list" #[] 0) }
  unfold Builtin.List.listExtendWith
  refine wpAny_bind (wpAny_typeOf (T := "tuple") ⟨ob, e1, h2⟩ ?_)
  rw [if_pos (by rw [show (Value.type "tuple" == Value.type "tuple") = true from rfl]; simp)]
  refine wpAny_bind (listItems_at e1 h3 (wpAny_bind (listItems_at (xs := #[]) (n := 0) e2 rfl ?_)))
  rw [if_neg (by simp)]
  have few : ((#[] : Array Value) ++ us.toArray).size ≤ sizeLine + 1 := by
    simp only [Array.size_append, List.size_toArray, List.length_nil]
    omega
  refine wpAny_bind (listUpdate_at (xs := #[]) (n := 0) e2 rfl ?_ (Nat.zero_le _) few)
  refine wpAny_pure ?_
  show wpAny (model prog w) A (load s.heap.objs.size >>= fun o => match o.data with
      | .seq xs _ => pure xs.toList
      | _ => unsupported "internal:collect") Q E { s with heap := gotHeap s.heap us }
  refine wpAny_bind (wpAny_load (get?_update_seq e2 _) ?_)
  show wpAny _ _ (pure ((#[] : Array Value) ++ us.toArray).toList) Q E _
  rw [show ((#[] : Array Value) ++ us.toArray).toList = us by simp]
  exact wpAny_pure q
/-- sorted(v, ..), v a list or a tuple -/
theorem sorted_gen {v : Value} {us : List Value} {kw : List (Str × Value)} {Q : Value → Shared → Prop} (hv : (∃ l, v = .ref l ∧ s.heap.IsList l us.toArray) ∨ ∃ t, v = .ref t ∧ s.heap.IsTuple t us.toArray) (hz : us.length ≤ sizeLine)
    (b1 : argsOk "sorted" ⟨[v], kw⟩) (b2 : ∀ x, argsOk "list.sort" ⟨[.ref x], kw⟩)
    (body : ∀ E' : Value → Shared → Prop, wpAny (model prog w) A.in1.in1 (Builtin.«list.sort» ⟨[.ref (s.heap.objs.size + 1)], kw⟩) (fun f s' => f = .done (.ret .none) ∧ Q (.ref (s.heap.objs.size + 1)) s') E' { s with heap := copyHeap s.heap us }) :
    wpAny (model prog w) A (call (.builtin "sorted") [v] kw) Q E s := by
  refine call_function_entry_kw kind_sorted plain_sorted entry_sorted b1 ?_
  unfold Builtin.«sorted»
  refine wpAny_bind (m := checkCount "sorted" 1 1 _) (wpAny_pure ?_)
  have step : ∀ {R : List Value → Shared → Prop} {E' : Value → Shared → Prop}, R us { s with heap := gotHeap s.heap us } → wpAny (model prog w) A.in1 (collect v) R E' s := fun {R E'} hR => by
    rcases hv with ⟨l, rfl, hl⟩ | ⟨t, rfl, ht⟩
    · exact collect_list hl hR hz
    · exact collect_tup ht hR hz
  refine wpAny_bind (step (wpAny_bind (wpAny_newList ?_ hz)))
  have size1 : (gotHeap s.heap us).objs.size = s.heap.objs.size + 1 := by rw [Heap.size_update, size_push']
  show wpAny _ _ _ _ _ { s with heap := copyHeap s.heap us }
  rw [size1]
  refine wpAny_bind (wpAny_holding (wpAny_call_entry_kw slot_list_sort ⟨_, copyHeap_at s.heap us, rfl⟩ entry_list_sort ?srt (b2 _)))
  case srt =>
    show wpAny (model prog w) A.in1.in1 (Builtin.«list.sort» ⟨[.ref (s.heap.objs.size + 1)], kw⟩) _ _ _
    refine wpAny_mono (body _) (fun f s' ⟨e, hq⟩ => ?_) fun _ _ z => z
    subst e
    exact ⟨_, rfl, wpAny_pure ⟨_, rfl, hq⟩⟩
/-- sorted(v, reverse=b) of alike data -/
theorem sorted_dat {β : Type} {R : Value → β → Prop} {enc : β → PyData} {v : Value} {us : List Value} {bs : List β} {b : Bool} {Q : Value → Shared → Prop} (hv : (∃ l, v = .ref l ∧ s.heap.IsList l us.toArray) ∨ ∃ t, v = .ref t ∧ s.heap.IsTuple t us.toArray)
    (e : EachIs R us bs) (er : EachIs (fun v b => ∃ as, Reads s.heap v (enc b) as) us bs) (hal : AllAlike (bs.map enc)) (hn : ∀ d ∈ bs.map enc, d ≠ .none) (hz : bs.length ≤ sizeLine) (hu : ∀ b ∈ bs, A.units + 2 + (enc b).depth < cLine) (pl : Bool)
    (h : ∀ out, out.length = bs.length → EachIs R out (bs.mergeSort (dataLe (if pl = true then false else b) enc)) → Q (.ref (s.heap.objs.size + 1)) { s with heap := sortedAll s.heap us out.toArray }) :
    wpAny (model prog w) A (call (.builtin "sorted") [v] (if pl = true then [] else [(Str.ofString "reverse", .bool b)])) Q E s := by
  have hl : us.length ≤ sizeLine := by rw [e.length]; exact hz
  have er2 : EachIs (fun v b => ∃ as, Reads (sortingHeap (copyHeap s.heap us) (s.heap.objs.size + 1) us) v (enc b) as) us bs := er.mono fun _ _ ⟨as, r⟩ => ⟨as, PyProof.Rows.Reads.keeps (fun _ _ => sorting_copy_old) r⟩
  have S : SortsAt prog w A.in1.in1 { s with heap := sortingHeap (copyHeap s.heap us) (s.heap.objs.size + 1) us } (dataKind (sortingHeap (copyHeap s.heap us) (s.heap.objs.size + 1) us) (bs.map enc)) us :=
    sorts_any (s := { s with heap := sortingHeap (copyHeap s.heap us) (s.heap.objs.size + 1) us }) (each_map (R := fun v d => ∃ as, Reads (sortingHeap (copyHeap s.heap us) (s.heap.objs.size + 1) us) v d as) enc er2) hal hn (bound_map hu)
  cases pl with
  | true => exact sorted_gen hv hl (args_sorted1 _) (fun _ => args_list_sort _) fun E' => list_sort_vals (s := { s with heap := copyHeap s.heap us }) (copyHeap_at s.heap us) S hl ⟨rfl, h _ (by rw [sortVals_length false rfl]; exact e.length) (sortVals_data false e er2 hal)⟩
  | false => exact sorted_gen hv hl (args_sorted_rev _ _) (fun _ => args_list_sort_rev _ _) fun E' => list_sort_rev_vals (s := { s with heap := copyHeap s.heap us }) (copyHeap_at s.heap us) S hl ⟨rfl, h _ (by rw [sortVals_length b rfl]; exact e.length) (sortVals_data b e er2 hal)⟩
end
end Ev
set_option Elab.async false
set_option linter.all false
set_option maxRecDepth 100000
/-! EvSem: a small language without positions, plain data, and its evaluator. -/
namespace Ev
open PySem
/-- data: plain values, tuples by value, lists that are never written by value, lists by their number in the small heap -/
inductive D where
  | non | bl (b : Bool) | int (i : Int) | str (x : Str) | tup (ds : List D) | fz (ds : List D) | ref (n : Nat)
mutual
/-- the data as the library says it (a reference is not asked for) -/
def D.py : D → PyData
  | .non => .none
  | .bl b => .bool b
  | .int i => .int i
  | .str x => .str x
  | .tup ds => .tuple (D.pys ds)
  | .fz _ => .none
  | .ref _ => .none
def D.pys : List D → List PyData
  | [] => []
  | d :: r => d.py :: D.pys r
end
/-- no references, plain signs, tuples nested at most so deep -/
def okd : Nat → D → Bool
  | n, .tup ds => match n with
    | 0 => false
    | n + 1 => ds.all (okd n)
  | _, .ref _ => false
  | _, .fz _ => false
  | _, .str x => PyData.strOk x
  | _, .non => true
  | _, .bl _ => true
  | _, .int _ => true
/-- the deepest data that are compared -/
def deep : Nat := 60
/-! ### the order of all data: by kinds, then as Python's -/
def strOrd (x y : Str) : Ordering := if x.cps.toList < y.cps.toList then .lt else if x = y then .eq else .gt
def intOrd (i j : Int) : Ordering := if i < j then .lt else if i = j then .eq else .gt
def rank : D → Nat
  | .non => 0
  | .bl _ => 1
  | .int _ => 2
  | .str _ => 3
  | .tup _ => 4
  | .ref _ => 5
  | .fz _ => 6
mutual
def cmpD : D → D → Ordering
  | .int i, .int j => intOrd i j
  | .str x, .str y => strOrd x y
  | .tup xs, .tup ys => cmpL xs ys
  | .bl a, .bl b => intOrd (if a then 1 else 0) (if b then 1 else 0)
  | .ref a, .ref b => intOrd a b
  | .fz xs, .fz ys => cmpL xs ys
  | x, y => intOrd (rank x) (rank y)
def cmpL : List D → List D → Ordering
  | [], [] => .eq
  | [], _ :: _ => .lt
  | _ :: _, [] => .gt
  | x :: xs, y :: ys => match cmpD x y with
    | .eq => cmpL xs ys
    | r => r
end
mutual
/-- may these be compared by < (and is the answer by cmpD)? -/
def cpD : D → D → Bool
  | .int _, .int _ => true
  | .str _, .str _ => true
  | .tup xs, .tup ys => cpL xs ys
  | _, _ => false
def cpL : List D → List D → Bool
  | x :: xs, y :: ys => cpD x y && (match cmpD x y with
    | .eq => cpL xs ys
    | _ => true)
  | _, _ => true
end
inductive MO where
  | lst (xs : List D)
abbrev MH := List MO
abbrev Env := List (Option D)
/-- what an expression gives: data, or a list that nobody else has -/
inductive R where
  | v (d : D)
  | l (ds : List D)
def box : R → MH → D × MH
  | .v d, mh => (d, mh)
  | .l ds, mh => (.ref mh.length, mh ++ [.lst ds])
/-- the most items that a list or tuple made here has -/
def many : Nat := 1000000
def lstOf (mh : MH) (n : Nat) : Option (List D) := match mh[n]? with
  | some (.lst xs) => some xs
  | none => none
/-- the items of a list or a tuple -/
def seqOf (mh : MH) : R → Option (List D)
  | .l ds => some ds
  | .v (.tup ds) => some ds
  | .v (.fz ds) => some ds
  | .v (.ref n) => lstOf mh n
  | .v _ => none
/-- .. of a list that may be written -/
def ownOf (mh : MH) : R → Option (List D)
  | .l ds => some ds
  | .v (.ref n) => lstOf mh n
  | .v _ => none
/-- the items of a list -/
def lisOf (mh : MH) : R → Option (List D)
  | .l ds => some ds
  | .v (.fz ds) => some ds
  | .v (.ref n) => lstOf mh n
  | .v _ => none
def truth (mh : MH) : R → Option Bool
  | .l ds => some (!ds.isEmpty)
  | .v .non => some false
  | .v (.bl b) => some b
  | .v (.int i) => some (i != 0)
  | .v (.str x) => if x.length ≤ many then some ((x.length : Int) != 0) else none
  | .v (.tup ds) => some (!ds.isEmpty)
  | .v (.fz ds) => some (!ds.isEmpty)
  | .v (.ref n) => (lstOf mh n).map fun ds => !ds.isEmpty
/-- data as the library says it, lists too; none: too deep, or a list within -/
def pyR (mh : MH) : R → Option PyData
  | .l ds => if ds.all (okd deep) then some (.list (D.pys ds)) else none
  | .v (.fz ds) => if ds.all (okd deep) then some (.list (D.pys ds)) else none
  | .v (.ref n) => match lstOf mh n with
    | some ds => if ds.all (okd deep) then some (.list (D.pys ds)) else none
    | none => none
  | .v d => if okd deep d then some d.py else none
inductive Op where
  | add | sub | mul | fdiv | mod | pow
inductive Cm where
  | eq | ne | lt | le | gt | ge | is_ | isnot | in_ | notin
inductive Ty where
  | int | bool | str | tuple | list
inductive Bl where
  | len | abs | max2 | min2 | maxs | mins | int | tuple | list | all | any | sum | sorted | sortedR
inductive Mt where
  | append | extend | pop
/-- a target: a name, or a tuple of targets -/
inductive Tg where
  | nm (i : Nat)
  | tup (ts : List Tg)
inductive Kd where
  | seq | range1 | range2 | zip | enum
inductive Ex where
  | never
  | var (i : Nat)
  | cst (d : D)
  | tup (es : List Ex)
  | lst (es : List Ex)
  | op (o : Op) (a b : Ex)
  | cmp (o : Cm) (a b : Ex)
  | chain (o p : Cm) (a b c : Ex)
  | and_ (a b : Ex)
  | or_ (a b : Ex)
  | not_ (a : Ex)
  | ite (c a b : Ex)
  | idx (a i : Ex)
  | slc (a : Ex) (lo hi : Option Ex)
  | rev (a : Ex)
  | call (f : Nat) (es : List Ex) (perm : List Nat)
  | blt (b : Bl) (es : List Ex)
  | inst (a : Ex) (t : Ty)
  | mt (m : Mt) (a : Ex) (es : List Ex)
  | comp (elt : Ex) (t : Tg) (k : Kd) (es : List Ex) (c : Option Ex) (own : List Nat)
  | comp2 (elt : Ex) (t : Tg) (k : Kd) (es : List Ex) (c : Option Ex) (t1 : Tg) (k1 : Kd) (es1 : List Ex) (c1 : Option Ex) (own own1 : List Nat)
inductive St where
  | never
  | pass
  | expr (e : Ex)
  | asg (t : Tg) (e : Ex)
  | par (is : List Nat) (es : List Ex)
  | seti (o i e : Ex)
  | aug (i : Nat) (o : Op) (e : Ex)
  | ite (c : Ex) (a b : List St)
  | whl (c : Ex) (b : List St)
  | for_ (t : Tg) (k : Kd) (es : List Ex) (b : List St)
  | ret (e : Ex)
  | retN
  | brk
  | cnt
/-- how a def's end is tidied: the lists made within are let go -/
inductive Gc where
  /-- nothing is let go -/
  | keep
  /-- data come back, or a list made within, by its items -/
  | drop
structure FD where
  np : Nat
  n : Nat
  gc : Gc
  body : List St
mutual
/-- all references are below n -/
def low (n : Nat) : D → Bool
  | .tup ds => lowL n ds
  | .fz ds => lowL n ds
  | .ref m => Nat.blt m n
  | _ => true
def lowL (n : Nat) : List D → Bool
  | [] => true
  | d :: ds => low n d && lowL n ds
end
def lowM (n : Nat) : MH → Bool
  | [] => true
  | .lst xs :: r => lowL n xs && lowM n r
def tidy (g : Gc) (mh : MH) (r : R) (mh' : MH) : Option (R × MH) := match g with
  | .keep => some (r, mh')
  | .drop => if lowM mh.length (mh'.take mh.length) then (match r with
    | .l ds => if lowL mh.length ds then some (.l ds, mh'.take mh.length) else none
    | .v (.ref n) => if Nat.blt n mh.length then some (.v (.ref n), mh'.take mh.length) else (match mh'[n]? with
      | some (.lst ds) => if lowL mh.length ds then some (.l ds, mh'.take mh.length) else none
      | none => none)
    | .v d => if low mh.length d then some (.v d, mh'.take mh.length) else none) else none
/-! ### operators, by values -/
def repT (xs : List D) (k : Int) : Option (List D) := if -1000 ≤ k ∧ k ≤ 1000 ∧ xs.length ≤ 1000 then some (List.replicate k.toNat xs).flatten else none
def catR (mh : MH) (a b : R) : Option R := match ownOf mh a, ownOf mh b with
  | some xs, some ys => if xs.length + ys.length ≤ many then some (.l (xs ++ ys)) else none
  | _, _ => none
def opR (mh : MH) : Op → R → R → Option R
  | .add, .v (.int i), .v (.int j) => some (.v (.int (i + j)))
  | .add, .v (.str x), .v (.str y) => if x.length + y.length ≤ many then some (.v (.str (x ++ y))) else none
  | .add, .v (.tup xs), .v (.tup ys) => if xs.length + ys.length ≤ many then some (.v (.tup (xs ++ ys))) else none
  | .add, a, b => catR mh a b
  | .sub, .v (.int i), .v (.int j) => some (.v (.int (i - j)))
  | .mul, .v (.int i), .v (.int j) => if (Nat.blt i.natAbs 18446744073709551616 || Nat.blt j.natAbs 18446744073709551616) || Nat.blt (i.natAbs.log2 + j.natAbs.log2) 1000000 then some (.v (.int (i * j))) else none
  | .mul, .v (.tup xs), .v (.int k) => (repT xs k).map fun ys => .v (.tup ys)
  | .fdiv, .v (.int i), .v (.int j) => if 0 < j ∧ j.natAbs.log2 < 9000 then some (.v (.int (i / j))) else none
  | .mod, .v (.int i), .v (.int j) => if 0 < j then some (.v (.int (i % j))) else none
  | .pow, .v (.int i), .v (.int j) => if 0 ≤ j ∧ j ≤ 1000 ∧ i.natAbs < 2 ^ 64 then some (.v (.int (i ^ j.toNat))) else none
  | _, _, _ => none
/-- a op= b -/
def opA (mh : MH) : Op → R → R → Option R
  | .add, .v (.int i), .v (.int j) => some (.v (.int (i + j)))
  | .add, .v (.str x), .v (.str y) => if x.length + y.length ≤ many then some (.v (.str (x ++ y))) else none
  | .sub, .v (.int i), .v (.int j) => some (.v (.int (i - j)))
  | _, _, _ => none
def ordB : Cm → Ordering → Option Bool
  | .lt, .lt => some true
  | .lt, _ => some false
  | .le, .gt => some false
  | .le, _ => some true
  | .gt, .gt => some true
  | .gt, _ => some false
  | .ge, .lt => some false
  | .ge, _ => some true
  | _, _ => none
def isNon : R → Bool
  | .v .non => true
  | _ => false
def inR (mh : MH) (a b : R) : Option Bool := match pyR mh a, seqOf mh b with
  | some x, some ys => if ys.all (okd deep) then some ((D.pys ys).any fun y => PyData.eqv y x) else none
  | _, _ => none
def eqR (mh : MH) (a b : R) : Option Bool := match pyR mh a, pyR mh b with
  | some x, some y => some (PyData.eqv x y)
  | _, _ => none
def isR : R → R → Option Bool
  | a, .v .non => some (isNon a)
  | .v (.bl x), .v (.bl y) => some (x == y)
  | _, _ => none
def ordR (o : Cm) : R → R → Option Bool
  | .v a, .v b => if okd deep a && (okd deep b && cpD a b) then ordB o (cmpD a b) else none
  | _, _ => none
def cmR (mh : MH) : Cm → R → R → Option Bool
  | .eq, a, b => eqR mh a b
  | .ne, a, b => (eqR mh a b).map (!·)
  | .is_, a, b => isR a b
  | .isnot, a, b => (isR a b).map (!·)
  | .in_, a, b => inR mh a b
  | .notin, a, b => (inR mh a b).map (!·)
  | o, a, b => ordR o a b
def idxR (mh : MH) (a : R) (i : R) : Option D := match a, i with
  | .v (.str x), .v (.int i) => if x.length ≤ many then (L2.atI x.cps.toList i).map fun c => .str ⟨#[c]⟩ else none
  | a, .v (.int i) => match seqOf mh a with
    | some xs => L2.atI xs i
    | none => none
  | _, _ => none
def cutD (xs : List D) (lo hi : Option Int) : List D := (xs.drop (HT.sIx xs.length 0 lo)).take (HT.sIx xs.length xs.length hi - HT.sIx xs.length 0 lo)
def cutR (mh : MH) (a : R) (lo hi : Option Int) : Option R := match a with
  | .v (.tup xs) => some (.v (.tup (cutD xs lo hi)))
  | .v (.str z) => if z.length ≤ many then some (.v (.str (L2.cutS z lo hi))) else none
  | a => (seqOf mh a).map fun xs => .l (cutD xs lo hi)
def revR (mh : MH) (a : R) : Option R := match a with
  | .v (.tup xs) => some (.v (.tup xs.reverse))
  | .v (.str _) => none
  | a => (seqOf mh a).map fun xs => .l xs.reverse
/-! ### built-ins -/
def intsOf : List D → Option (List Int)
  | [] => some []
  | .int i :: r => (intsOf r).map (i :: ·)
  | _ => none
def boolsOf : List D → Option (List Bool)
  | [] => some []
  | .bl b :: r => (boolsOf r).map (b :: ·)
  | _ => none
/-- truths of bools and ints -/
def truthsOf : List D → Option (List Bool)
  | [] => some []
  | .bl b :: r => (truthsOf r).map (b :: ·)
  | .int i :: r => (truthsOf r).map ((i != 0) :: ·)
  | _ => none
def maxI : Int → List Int → Int
  | m, [] => m
  | m, i :: r => maxI (if i > m then i else m) r
def minI : Int → List Int → Int
  | m, [] => m
  | m, i :: r => minI (if i < m then i else m) r
/-- insertion ahead of what is not less -/
def insR {α : Type} (lt : α → α → Bool) (x : α) : List α → List α
  | [] => [x]
  | y :: r => if lt y x then y :: insR lt x r else x :: y :: r
def isort {α : Type} (lt : α → α → Bool) : List α → List α
  | [] => []
  | x :: r => insR lt x (isort lt r)
def ltD (a b : D) : Bool := match cmpD a b with
  | .lt => true
  | _ => false
mutual
/-- may these be sorted beside each other? -/
def alD : D → D → Bool
  | .int _, .int _ => true
  | .str _, .str _ => true
  | .tup xs, .tup ys => alL xs ys
  | _, _ => false
def alL : List D → List D → Bool
  | x :: xs, y :: ys => alD x y && alL xs ys
  | _, _ => true
end
def sortable (xs : List D) : Bool := Nat.ble xs.length many && xs.all fun x => okd deep x && xs.all fun y => alD x y
def bltR (mh : MH) : Bl → List R → Option R
  | .len, [.v (.str x)] => if x.length ≤ many then some (.v (.int x.length)) else none
  | .len, [r] => (seqOf mh r).map fun xs => .v (.int xs.length)
  | .abs, [.v (.int i)] => some (.v (.int (if i < 0 then -i else i)))
  | .max2, [.v (.int i), .v (.int j)] => some (.v (.int (if j > i then j else i)))
  | .min2, [.v (.int i), .v (.int j)] => some (.v (.int (if j < i then j else i)))
  | .maxs, [r] => match (seqOf mh r).bind intsOf with
    | some (i :: is) => some (.v (.int (maxI i is)))
    | _ => none
  | .mins, [r] => match (seqOf mh r).bind intsOf with
    | some (i :: is) => some (.v (.int (minI i is)))
    | _ => none
  | .int, [.v (.int i)] => some (.v (.int i))
  | .int, [.v (.bl b)] => some (.v (.int (if b then 1 else 0)))
  | .tuple, [r] => (seqOf mh r).map fun xs => .v (.tup xs)
  | .list, [r] => (seqOf mh r).map fun xs => .l xs
  | .all, [r] => ((seqOf mh r).bind truthsOf).map fun bs => .v (.bl (bs.all id))
  | .any, [r] => ((seqOf mh r).bind truthsOf).map fun bs => .v (.bl (bs.any id))
  | .sum, [r] => ((lisOf mh r).bind intsOf).map fun is => .v (.int is.sum)
  | .sorted, [r] => match seqOf mh r with
    | some xs => if sortable xs then some (.l (isort ltD xs)) else none
    | none => none
  | .sortedR, [r] => match seqOf mh r with
    | some xs => if sortable xs then some (.l (isort ltD xs).reverse) else none
    | none => none
  | _, _ => none
def instD : Ty → R → MH → Option Bool
  | .int, .v (.int _), _ => some true
  | .int, .v (.bl _), _ => some true
  | .bool, .v (.bl _), _ => some true
  | .str, .v (.str _), _ => some true
  | .tuple, .v (.tup _), _ => some true
  | .list, .v (.ref _), _ => some true
  | .list, .v (.fz _), _ => some true
  | .list, .l _, _ => some true
  | _, .v _, _ => some false
  | _, .l _, _ => some false
/-- a method: what comes back, the heap behind -/
def mtR : Mt → R → List R → MH → Option (R × MH)
  | .append, .v (.ref n), [.v x], mh => match mh[n]? with
    | some (.lst xs) => if xs.length < many then some (.v .non, mh.set n (.lst (xs ++ [x]))) else none
    | _ => none
  | .extend, .v (.ref n), [r], mh => match mh[n]?, ownOf mh r with
    | some (.lst xs), some ys => if xs.length + ys.length ≤ many then some (.v .non, mh.set n (.lst (xs ++ ys))) else none
    | _, _ => none
  | .pop, .v (.ref n), [], mh => match mh[n]? with
    | some (.lst xs) => match xs[xs.length - 1]? with
      | some y => some (.v y, mh.set n (.lst xs.dropLast))
      | none => none
    | _ => none
  | _, _, _, _ => none
/-! ### what is walked -/
inductive Src where
  | st (xs : List D)
  | rf (n : Nat)
  | rng (lo : Int) (n : Nat)
  | zp (a b : Src)
  | en (a : Src)
/-- the items of a list, as they stand at each turn -/
def lsrc (mh : MH) : R → Option Src
  | .l ds => some (.st ds)
  | .v (.fz ds) => some (.st ds)
  | .v (.ref n) => (lstOf mh n).map fun _ => .rf n
  | .v _ => none
def small62 (i : Int) : Bool := decide (-(2 ^ 62) ≤ i) && decide (i < 2 ^ 62)
def srcR (mh : MH) : Kd → List R → Option Src
  | .seq, [.v (.tup xs)] => some (.st xs)
  | .seq, [r] => lsrc mh r
  | .range1, [.v (.int j)] => if small62 j then some (.rng 0 j.toNat) else none
  | .range2, [.v (.int i), .v (.int j)] => if small62 i && small62 j then some (.rng i (j - i).toNat) else none
  | .zip, [.v (.tup xs), .v (.tup ys)] => some (.zp (.st xs) (.st ys))
  | .zip, [a, b] => match lsrc mh a, lsrc mh b with
    | some s, some t => some (.zp s t)
    | _, _ => none
  | .enum, [a] => (lsrc mh a).map .en
  | _, _ => none
/-- the item at a turn; some none: the end -/
def nxt (mh : MH) : Src → Nat → Option (Option D)
  | .st xs, i => some xs[i]?
  | .rf n, i => (lstOf mh n).map fun xs => xs[i]?
  | .rng lo n, i => if i < n then some (some (.int (lo + i))) else some none
  | .zp a b, i => match nxt mh a i, nxt mh b i with
    | some (some x), some (some y) => some (some (.tup [x, y]))
    | some _, some _ => some none
    | _, _ => none
  | .en a, i => match nxt mh a i with
    | some (some x) => some (some (.tup [.int i, x]))
    | some none => some none
    | none => none
def turns (mh : MH) : Src → Nat
  | .st xs => xs.length + 1
  | .rf n => match lstOf mh n with
    | some xs => xs.length + 1
    | none => 0
  | .rng _ n => n + 1
  | .zp a _ => turns mh a
  | .en a => turns mh a
def wipeE (env : Env) : List Nat → Env
  | [] => env
  | i :: is => (wipeE env is).set i none
def setAll : List Nat → List D → Env → Option Env
  | [], [], env => some env
  | i :: is, d :: ds, env => setAll is ds (env.set i (some d))
  | _, _, _ => none
mutual
def asgT : Tg → D → Env → Option Env
  | .nm i, d, env => some (env.set i (some d))
  | .tup ts, .tup ds, env => asgTs ts ds env
  | _, _, _ => none
def asgTs : List Tg → List D → Env → Option Env
  | [], [], env => some env
  | t :: ts, d :: ds, env => match asgT t d env with
    | some env => asgTs ts ds env
    | none => none
  | _, _, _ => none
end
mutual
/-- the slots of a target -/
def tgIx : Tg → List Nat
  | .nm i => [i]
  | .tup ts => tgIxs ts
def tgIxs : List Tg → List Nat
  | [] => []
  | t :: ts => tgIx t ++ tgIxs ts
end
/-- a list comprehension's turns: f gives the item, or none where the test says no -/
def compGo (f : D → MH → Option (Option D × MH)) (src : Src) : Nat → Nat → MH → List D → Option (List D × MH)
  | 0, _, _, _ => none
  | F + 1, i, mh, acc => match nxt mh src i with
    | none => none
    | some none => some (acc, mh)
    | some (some x) => match f x mh with
      | some (some y, mh') => if acc.length < many then compGo f src F (i + 1) mh' (acc ++ [y]) else none
      | some (none, mh') => compGo f src F (i + 1) mh' acc
      | none => none
/-- .. with a list within -/
def compGo2 (f : D → MH → List D → Option (List D × MH)) (src : Src) : Nat → Nat → MH → List D → Option (List D × MH)
  | 0, _, _, _ => none
  | F + 1, i, mh, acc => match nxt mh src i with
    | none => none
    | some none => some (acc, mh)
    | some (some x) => match f x mh acc with
      | some (acc', mh') => compGo2 f src F (i + 1) mh' acc'
      | none => none
def permute (perm : List Nat) (ds : List D) : Option (List D) := if perm.isEmpty then some ds else perm.mapM fun i => ds[i]?
abbrev CallF := Nat → List D → MH → Option (R × MH)
mutual
def ex (C : CallF) : Ex → Env → MH → Option (R × MH)
  | .never, _, _ => none
  | .var i, env, mh => match env[i]? with
    | some (some d) => some (.v d, mh)
    | _ => none
  | .cst d, _, mh => some (.v d, mh)
  | .tup es, env, mh => match exs C es env mh with
    | some (ds, mh) => if ds.length ≤ many then some (.v (.tup ds), mh) else none
    | none => none
  | .lst es, env, mh => match exs C es env mh with
    | some (ds, mh) => if ds.length ≤ many then some (.l ds, mh) else none
    | none => none
  | .op o a b, env, mh => match ex C a env mh with
    | some (x, mh) => match ex C b env mh with
      | some (y, mh) => (opR mh o x y).map fun r => (r, mh)
      | none => none
    | none => none
  | .cmp o a b, env, mh => match ex C a env mh with
    | some (x, mh) => match ex C b env mh with
      | some (y, mh) => (cmR mh o x y).map fun r => (.v (.bl r), mh)
      | none => none
    | none => none
  | .chain o p a b c, env, mh => match ex C a env mh with
    | some (x, mh) => match ex C b env mh with
      | some (y, mh) => match cmR mh o x y with
        | some true => match ex C c env mh with
          | some (z, mh) => (cmR mh p y z).map fun r => (.v (.bl r), mh)
          | none => none
        | some false => some (.v (.bl false), mh)
        | none => none
      | none => none
    | none => none
  | .and_ a b, env, mh => match ex C a env mh with
    | some (x, mh) => match truth mh x with
      | some true => ex C b env mh
      | some false => some (x, mh)
      | none => none
    | none => none
  | .or_ a b, env, mh => match ex C a env mh with
    | some (x, mh) => match truth mh x with
      | some true => some (x, mh)
      | some false => ex C b env mh
      | none => none
    | none => none
  | .not_ a, env, mh => match ex C a env mh with
    | some (x, mh) => (truth mh x).map fun b => (.v (.bl (!b)), mh)
    | none => none
  | .ite c a b, env, mh => match ex C c env mh with
    | some (x, mh) => match truth mh x with
      | some true => ex C a env mh
      | some false => ex C b env mh
      | none => none
    | none => none
  | .idx a i, env, mh => match ex C a env mh with
    | some (x, mh) => match ex C i env mh with
      | some (y, mh) => (idxR mh x y).map fun d => (.v d, mh)
      | none => none
    | none => none
  | .slc a lo hi, env, mh => match ex C a env mh with
    | some (x, mh) => match exo C lo env mh with
      | some (l, mh) => match exo C hi env mh with
        | some (h, mh) => (cutR mh x l h).map fun r => (r, mh)
        | none => none
      | none => none
    | none => none
  | .rev a, env, mh => match ex C a env mh with
    | some (x, mh) => (revR mh x).map fun r => (r, mh)
    | none => none
  | .call f es perm, env, mh => match exs C es env mh with
    | some (ds, mh) => match permute perm ds with
      | some ds => C f ds mh
      | none => none
    | none => none
  | .blt b es, env, mh => match exr C es env mh with
    | some (rs, mh) => (bltR mh b rs).map fun r => (r, mh)
    | none => none
  | .inst a t, env, mh => match ex C a env mh with
    | some (x, mh) => (instD t x mh).map fun b => (.v (.bl b), mh)
    | none => none
  | .mt m a es, env, mh => match ex C a env mh with
    | some (x, mh) => match exr C es env mh with
      | some (rs, mh) => mtR m x rs mh
      | none => none
    | none => none
  | .comp elt t k es c own, env, mh => match exr C es env mh with
    | some (rs, mh) => match srcR mh k rs with
      | some src => (compGo (fun x mh => match asgT t x (wipeE env own) with
          | some env => match exc C c env mh with
            | some (true, mh) => (ex C elt env mh).map fun r => match box r.1 r.2 with | (d, mh) => (some d, mh)
            | some (false, mh) => some (none, mh)
            | none => none
          | none => none) src (turns mh src) 0 mh []).map fun r => (.l r.1, r.2)
      | none => none
    | none => none
  | .comp2 elt t k es c t1 k1 es1 c1 own own1, env, mh => match exr C es env mh with
    | some (rs, mh) => match srcR mh k rs with
      | some src => (compGo2 (fun x mh acc => match asgT t x (wipeE env own) with
          | some env => match exc C c env mh with
            | some (true, mh) => match exr C es1 env mh with
              | some (rs, mh) => match srcR mh k1 rs with
                | some src1 => compGo (fun x mh => match asgT t1 x (wipeE env own1) with
                    | some env => match exc C c1 env mh with
                      | some (true, mh) => (ex C elt env mh).map fun r => match box r.1 r.2 with | (d, mh) => (some d, mh)
                      | some (false, mh) => some (none, mh)
                      | none => none
                    | none => none) src1 (turns mh src1) 0 mh acc
                | none => none
              | none => none
            | some (false, mh) => some (acc, mh)
            | none => none
          | none => none) src (turns mh src) 0 mh []).map fun r => (.l r.1, r.2)
      | none => none
    | none => none
/-- data, lists put into the heap -/
def exs (C : CallF) : List Ex → Env → MH → Option (List D × MH)
  | [], _, mh => some ([], mh)
  | e :: es, env, mh => match ex C e env mh with
    | some (r, mh) => match exs C es env (box r mh).2 with
      | some (ds, mh') => some ((box r mh).1 :: ds, mh')
      | none => none
    | none => none
/-- as they come -/
def exr (C : CallF) : List Ex → Env → MH → Option (List R × MH)
  | [], _, mh => some ([], mh)
  | e :: es, env, mh => match ex C e env mh with
    | some (r, mh) => match exr C es env mh with
      | some (rs, mh) => some (r :: rs, mh)
      | none => none
    | none => none
/-- a part of a slice -/
def exo (C : CallF) : Option Ex → Env → MH → Option (Option Int × MH)
  | none, _, mh => some (none, mh)
  | some e, env, mh => match ex C e env mh with
    | some (.v (.int i), mh) => some (some i, mh)
    | _ => none
/-- a test, if any -/
def exc (C : CallF) : Option Ex → Env → MH → Option (Bool × MH)
  | none, _, mh => some (true, mh)
  | some e, env, mh => match ex C e env mh with
    | some (r, mh) => (truth mh r).map fun b => (b, mh)
    | none => none
end
/-- how a statement ends -/
inductive Fl where
  | nx | bk | ct
  | rt (r : R)
/-- a loop's turns -/
def loop (body : D → Env → MH → Option (Fl × Env × MH)) (src : Src) : Nat → Nat → Env → MH → Option (Fl × Env × MH)
  | 0, _, _, _ => none
  | F + 1, i, env, mh => match nxt mh src i with
    | none => none
    | some none => some (.nx, env, mh)
    | some (some x) => match body x env mh with
      | some (.nx, env, mh) => loop body src F (i + 1) env mh
      | some (.ct, env, mh) => loop body src F (i + 1) env mh
      | some (.bk, env, mh) => some (.nx, env, mh)
      | some (.rt r, env, mh) => some (.rt r, env, mh)
      | none => none
def wloop (c : Env → MH → Option (Bool × MH)) (body : Env → MH → Option (Fl × Env × MH)) : Nat → Env → MH → Option (Fl × Env × MH)
  | 0, _, _ => none
  | F + 1, env, mh => match c env mh with
    | some (true, mh) => match body env mh with
      | some (.nx, env, mh) => wloop c body F env mh
      | some (.ct, env, mh) => wloop c body F env mh
      | some (.bk, env, mh) => some (.nx, env, mh)
      | some (.rt r, env, mh) => some (.rt r, env, mh)
      | none => none
    | some (false, mh) => some (.nx, env, mh)
    | none => none
/-- the most turns of a while -/
def manyW : Nat := 100000
mutual
def st (C : CallF) : St → Env → MH → Option (Fl × Env × MH)
  | .never, _, _ => none
  | .pass, env, mh => some (.nx, env, mh)
  | .expr e, env, mh => match ex C e env mh with
    | some (_, mh) => some (.nx, env, mh)
    | none => none
  | .asg t e, env, mh => match ex C e env mh with
    | some (r, mh) => match asgT t (box r mh).1 env with
      | some env => some (.nx, env, (box r mh).2)
      | none => none
    | none => none
  | .par is es, env, mh => match exs C es env mh with
    | some (ds, mh) => match setAll is ds env with
      | some env => some (.nx, env, mh)
      | none => none
    | none => none
  | .seti o i e, env, mh => match ex C e env mh with
    | some (r, mh) => match ex C o env (box r mh).2 with
      | some (.v (.ref n), mh2) => match ex C i env mh2 with
        | some (.v (.int k), mh3) => match mh3[n]? with
          | some (.lst xs) => match L2.ixN xs.length k with
            | some j => some (.nx, env, mh3.set n (.lst (xs.set j (box r mh).1)))
            | none => none
          | _ => none
        | _ => none
      | _ => none
    | none => none
  | .aug i o e, env, mh => match env[i]? with
    | some (some d) => match ex C e env mh with
      | some (y, mh) => match opA mh o (.v d) y with
        | some (.v z) => some (.nx, env.set i (some z), mh)
        | _ => none
      | none => none
    | _ => none
  | .ite c a b, env, mh => match ex C c env mh with
    | some (x, mh) => match truth mh x with
      | some true => sts C a env mh
      | some false => sts C b env mh
      | none => none
    | none => none
  | .whl c b, env, mh => wloop (fun env mh => match ex C c env mh with
      | some (x, mh) => (truth mh x).map fun t => (t, mh)
      | none => none) (fun env mh => sts C b env mh) manyW env mh
  | .for_ t k es b, env, mh => match exr C es env mh with
    | some (rs, mh) => match srcR mh k rs with
      | some src => loop (fun x env mh => match asgT t x env with
          | some env => sts C b env mh
          | none => none) src (turns mh src) 0 env mh
      | none => none
    | none => none
  | .ret e, env, mh => match ex C e env mh with
    | some (r, mh) => some (.rt r, env, mh)
    | none => none
  | .retN, env, mh => some (.rt (.v .non), env, mh)
  | .brk, env, mh => some (.bk, env, mh)
  | .cnt, env, mh => some (.ct, env, mh)
def sts (C : CallF) : List St → Env → MH → Option (Fl × Env × MH)
  | [], env, mh => some (.nx, env, mh)
  | s :: ss, env, mh => match st C s env mh with
    | some (.nx, env, mh) => sts C ss env mh
    | some (.bk, env, mh) => some (.bk, env, mh)
    | some (.ct, env, mh) => some (.ct, env, mh)
    | some (.rt r, env, mh) => some (.rt r, env, mh)
    | none => none
end
/-- a call: at level 0 none comes back -/
def call (T : Nat → Option FD) : Nat → CallF
  | 0, _, _, _ => none
  | k + 1, f, ds, mh => match T f with
    | none => none
    | some fd => if Nat.beq ds.length fd.np then
        match sts (call T k) fd.body (ds.map some ++ List.replicate (fd.n - fd.np) none) mh with
        | some (.rt r, _, mh') => tidy fd.gc mh r mh'
        | some (.nx, _, mh') => tidy fd.gc mh (.v .non) mh'
        | _ => none
      else none
end Ev
set_option Elab.async false
set_option linter.all false
set_option maxRecDepth 100000
set_option maxHeartbeats 1000000
/-! EvRow: a def of the text, and what a head looks at: as early as can be (it wants memory). -/
namespace Ev
open PySem PySem.Spec PyProof.Rows L2
/-- a def of the text -/
structure Row where
  /-- the global name -/
  at_ : Str
  name : Str
  ps : List Str
  N : List Str
  gc : Gc
  args : Arguments
  body : List Stmt
  scope : Scope
  /-- keywords that are used, alone: their order, and how they bind -/
  kw : List (List Str × List Nat) := []
mutual
def datB (K : PySem.W.Frag) : D → Value → Bool
  | .non, .none => true
  | .bl b, .bool c => b == c
  | .int i, .int j _ => decide (i = j)
  | .str x, .str y _ => decide (x = y)
  | .tup ds, .ref a => (match K.lookup a with
    | some o => (o.cls == .type "tuple") && (match o.data with
      | .seq its _ => Nat.ble its.size sizeLine && datBs K ds its.toList
      | _ => false)
    | none => false)
  | _, _ => false
def datBs (K : PySem.W.Frag) : List D → List Value → Bool
  | [], [] => true
  | d :: ds, u :: us => datB K d u && datBs K ds us
  | _, _ => false
end
def csB (cs : List (Str × D)) (K : PySem.W.Frag) : Bool := cs.all fun p => match PySem.W.nsIn K mainGlobals p.1 with
  | some (some u) => datB K p.2 u
  | _ => false
def packFa (rows : List Row) (fr : List Str) : List He.Fa := rows.map (fun r => .glo r.at_) ++ fr.map .free
def packFn (rows : List Row) : List He.DefD := rows.map fun r => ⟨(r.at_, none), r.name, r.name, r.args, r.body, r.scope, [], []⟩
end Ev
set_option Elab.async false
set_option linter.all false
set_option maxRecDepth 100000
set_option maxHeartbeats 0
namespace K67
open PySem PySem.Spec PyProof.Rows L2 Ev
def top (i : Nat) : Stmt := PySem.Challenge.pw_wormsinline_k67_whole_battles_and_their.main.body.getD i (.Pass ⟨0, 0, 0, 0⟩)
def rw_ (a x : Str) (i : Nat) (ps N : List Str) (kw : List (List Str × List Nat)) : Ev.Row := ⟨a, x, ps, N, .drop, defArgs (top i), defBody (top i), defScope (top i), kw⟩
def row0 : Ev.Row := rw_ "is_integer" "is_integer" 6 ["value"] ["value"] []
def row1 : Ev.Row := rw_ "is_between" "is_between" 7 ["value", "low", "high"] ["value", "low", "high"] []
def row2 : Ev.Row := rw_ "is_tuple" "is_tuple" 8 ["value", "low", "high"] ["value", "low", "high"] []
def row3 : Ev.Row := rw_ "need_number" "need_number" 9 ["number", "low", "high"] ["number", "low", "high"] []
def row4 : Ev.Row := rw_ "anew" "anew" 10 ["value"] ["value", "part"] []
def row5 : Ev.Row := rw_ "counted" "counted" 14 ["value"] ["value", "many", "own", "part", "one", "other"] []
def row6 : Ev.Row := rw_ "is_ordinal_in" "is_ordinal_in" 15 ["value"] ["value"] []
def row7 : Ev.Row := rw_ "number_in" "number_in" 16 ["n"] ["n"] []
def row8 : Ev.Row := rw_ "last_in" "last_in" 17 ["ordinal"] ["ordinal"] []
def row9 : Ev.Row := rw_ "is_number_in" "is_number_in" 18 ["ordinal"] ["ordinal"] []
def row10 : Ev.Row := rw_ "plus_in" "plus_in" 19 ["one", "other"] ["one", "other", "own"] []
def row11 : Ev.Row := rw_ "natural_in" "natural_in" 20 ["one", "other"] ["one", "other"] []
def row12 : Ev.Row := rw_ "minus_in" "minus_in" 21 ["one", "other"] ["one", "other", "at"] []
def row13 : Ev.Row := rw_ "times_in" "times_in" 22 ["one", "other"] ["one", "other", "found", "own"] []
def row14 : Ev.Row := rw_ "natural_product_in" "natural_product_in" 23 ["one", "other"] ["one", "other", "found", "own", "more"] []
def row15 : Ev.Row := rw_ "toward_in" "toward_in" 24 ["ordinal", "n"] ["ordinal", "n", "own"] []
def row16 : Ev.Row := rw_ "is_worm_in" "is_worm_in" 28 ["value"] ["value", "own"] []
def row17 : Ev.Row := rw_ "raised_in" "raised_in" 29 ["worm", "n"] ["worm", "n", "own"] []
def row18 : Ev.Row := rw_ "lowered_in" "lowered_in" 30 ["worm", "n"] ["worm", "n", "own"] []
def row19 : Ev.Row := rw_ "pieces_of" "pieces_of" 31 ["worm"] ["worm", "found", "here", "own"] []
def row20 : Ev.Row := rw_ "order_in" "order_in" 32 ["worm"] ["worm", "found", "piece"] []
def row21 : Ev.Row := rw_ "worm_in" "worm_in" 33 ["ordinal"] ["ordinal", "found", "own"] []
def row22 : Ev.Row := rw_ "form_in" "form_in" 34 ["worm"] ["worm"] []
def row23 : Ev.Row := rw_ "head_at" "head_at" 36 ["n", "worm"] ["n", "worm", "at"] []
def row24 : Ev.Row := rw_ "next_in" "next_in" 38 ["worm", "turn"] ["worm", "turn", "own", "piece", "rest"] []
def row25 : Ev.Row := rw_ "behind_in" "behind_in" 39 ["worm", "turns"] ["worm", "turns", "found", "turn"] []
def row26 : Ev.Row := rw_ "last_behind" "last_behind" 40 ["worm", "turns"] ["worm", "turns", "turn"] []
def row27 : Ev.Row := rw_ "worms_of" "worms_of" 42 ["length", "most"] ["length", "most", "found", "turn", "worm", "letter"] []
def row28 : Ev.Row := rw_ "turn_in" "turn_in" 43 ["worm", "ordinal"] ["worm", "ordinal", "turn"] []
def row29 : Ev.Row := rw_ "halfway_in" "halfway_in" 44 ["one", "other"] ["one", "other", "low", "high", "length", "worm"] []
def row30 : Ev.Row := rw_ "need_ordinal" "need_ordinal" 48 ["ordinal"] ["ordinal"] []
def row31 : Ev.Row := rw_ "need_ordinals" "need_ordinals" 49 ["one", "other"] ["one", "other"] []
def row32 : Ev.Row := rw_ "number" "number" 50 ["n"] ["n"] []
def row33 : Ev.Row := rw_ "last" "last" 51 ["ordinal"] ["ordinal"] []
def row34 : Ev.Row := rw_ "plus" "plus" 52 ["one", "other"] ["one", "other"] []
def row35 : Ev.Row := rw_ "natural_sum" "natural_sum" 53 ["one", "other"] ["one", "other"] []
def row36 : Ev.Row := rw_ "minus" "minus" 54 ["one", "other"] ["one", "other"] []
def row37 : Ev.Row := rw_ "times" "times" 55 ["one", "other"] ["one", "other"] []
def row38 : Ev.Row := rw_ "natural_product" "natural_product" 56 ["one", "other"] ["one", "other"] []
def row39 : Ev.Row := rw_ "kind_of" "kind_of" 57 ["ordinal"] ["ordinal"] []
def row40 : Ev.Row := rw_ "toward" "toward" 58 ["ordinal", "n"] ["ordinal", "n"] [(["n", "ordinal"], [1, 0])]
def row41 : Ev.Row := rw_ "need_worm" "need_worm" 60 ["worm"] ["worm"] []
def row42 : Ev.Row := rw_ "order" "order" 61 ["worm"] ["worm"] []
def row43 : Ev.Row := rw_ "worm_of" "worm_of" 62 ["ordinal"] ["ordinal", "found"] []
def row44 : Ev.Row := rw_ "form_of" "form_of" 63 ["worm"] ["worm"] []
def row45 : Ev.Row := rw_ "need_worms" "need_worms" 65 ["one", "other"] ["one", "other"] []
def row46 : Ev.Row := rw_ "turn_above" "turn_above" 67 ["worm", "ordinal"] ["worm", "ordinal"] [(["ordinal", "worm"], [1, 0])]
def row47 : Ev.Row := rw_ "halfway" "halfway" 68 ["one", "other"] ["one", "other"] [(["other", "one"], [1, 0])]
def row48 : Ev.Row := rw_ "next_worm" "next_worm" 72 ["worm", "turn"] ["worm", "turn"] []
def row49 : Ev.Row := rw_ "behind" "behind" 73 ["worm", "turns"] ["worm", "turns"] []
def row50 : Ev.Row := rw_ "turns_of" "turns_of" 74 ["worm", "most"] ["worm", "most", "found", "turns"] []
def row51 : Ev.Row := rw_ "orders" "orders" 75 ["worm", "turns"] ["worm", "turns", "own"] []
def row52 : Ev.Row := rw_ "is_in_form" "is_in_form" 77 ["worm"] ["worm"] []
def row53 : Ev.Row := rw_ "longest_above" "longest_above" 80 ["worm", "n"] ["worm", "n", "found"] []
def row54 : Ev.Row := rw_ "piece_end" "piece_end" 81 ["worm", "turn"] ["worm", "turn", "n", "inner"] []
def row55 : Ev.Row := rw_ "repeated_end" "repeated_end" 82 ["inner", "turn"] ["inner", "turn", "at", "time"] []
def row56 : Ev.Row := rw_ "worm_end" "worm_end" 83 ["worm", "turn"] ["worm", "turn", "at", "start", "place"] []
def row57 : Ev.Row := rw_ "ends_at" "ends_at" 86 ["worm", "turn"] ["worm", "turn"] []
def row58 : Ev.Row := rw_ "_law_source" "_law_source" 88 ["script", "k"] ["script", "k", "own", "others", "at", "cell", "seed"] []
def row59 : Ev.Row := rw_ "_law_pick" "_law_pick" 89 ["source", "many"] ["source", "many", "turn", "mixed", "told"] []
def row60 : Ev.Row := rw_ "_law_plus" "_law_plus" 90 ["one", "other"] ["one", "other", "own"] []
def row61 : Ev.Row := rw_ "_law_order" "_law_order" 91 ["worm"] ["worm", "pieces", "here", "own", "found", "piece", "more"] []
def row62 : Ev.Row := rw_ "_law_point" "_law_point" 92 ["worm"] ["worm", "found", "n", "head", "own"] []
def row63 : Ev.Row := rw_ "_law_implies" "_law_implies" 93 ["one", "other"] ["one", "other", "mine", "yours"] []
def row64 : Ev.Row := rw_ "_law_worm" "_law_worm" 94 ["source", "length", "most"] ["source", "length", "most", "found", "turn"] []
def row65 : Ev.Row := rw_ "_law_chain" "_law_chain" 95 ["worm"] ["worm", "found", "n"] []
def row66 : Ev.Row := rw_ "_law_ordinal" "_law_ordinal" 96 ["source", "deep"] ["source", "deep", "found", "turn"] []
def row67 : Ev.Row := rw_ "_law_times" "_law_times" 97 ["one", "other"] ["one", "other", "found", "own"] []
def row68 : Ev.Row := rw_ "_law_sums_right" "_law_sums_right" 98 ["a", "b", "c"] ["a", "b", "c", "less"] []
def row69 : Ev.Row := rw_ "_law_toward_right" "_law_toward_right" 99 ["a", "b"] ["a", "b", "word", "row", "n", "one", "other"] []
def row70 : Ev.Row := rw_ "law" "law" 100 ["script"] ["script", "k", "source", "turn", "worm", "row", "short", "due", "one", "other", "told", "a", "b", "c", "end", "far", "below", "own", "n"] []
def rows : List Ev.Row := [row0, row1, row2, row3, row4, row5, row6, row7, row8, row9, row10, row11, row12, row13, row14, row15, row16, row17, row18, row19, row20, row21, row22, row23, row24, row25, row26, row27, row28, row29, row30, row31, row32, row33, row34, row35, row36, row37, row38, row39, row40, row41, row42, row43, row44, row45, row46, row47, row48, row49, row50, row51, row52, row53, row54, row55, row56, row57, row58, row59, row60, row61, row62, row63, row64, row65, row66, row67, row68, row69, row70]
def cs0 : List (Str × D) := [("MOST", (.int 400)), ("ZERO", (.tup [])), ("MOST_LETTER", (.int 6)), ("MOST_LENGTH", (.int 400)), ("MOST_NUMBER", (.int 399)), ("MOST_TOWARD", (.int 20)), ("MOST_TURNS", (.int 10000)), ("MOST_ORDERS", (.int 100)), ("MOST_END", (.int 1000000000000000000)), ("MOST_TURN", (.int 1000000))]
def cs : List (Str × D) := cs0
def fr0 : List Str := ["len", "range", "enumerate", "zip", "min", "max", "abs", "sorted", "int", "bool", "list", "tuple"]
def fr1 : List Str := ["isinstance", "any", "all"]
def fr : List Str := fr0 ++ fr1
end K67
set_option Elab.async false
set_option linter.all false
set_option maxRecDepth 100000
set_option maxHeartbeats 0
namespace K67.Hd
open PySem PySem.W PySem.Calls PySem.Spec PyProof.Rows L2 Ev HandSHeadRun
def loose0 : List Str := ["WormsError", "InvalidNumber", "InvalidOrdinal", "InvalidWorm", "is_integer", "is_between", "is_tuple", "need_number", "anew", "MOST", "ZERO", "counted"]
def loose1 : List Str := ["is_ordinal_in", "number_in", "last_in", "is_number_in", "plus_in", "natural_in", "minus_in", "times_in", "natural_product_in", "toward_in", "MOST_LETTER", "MOST_LENGTH"]
def loose2 : List Str := ["is_worm_in", "raised_in", "lowered_in", "pieces_of", "order_in", "worm_in", "form_in", "head_at", "next_in", "behind_in", "last_behind", "worms_of"]
def loose3 : List Str := ["turn_in", "halfway_in", "MOST_NUMBER", "MOST_TOWARD", "need_ordinal", "need_ordinals", "number", "last", "plus", "natural_sum", "minus", "times"]
def loose4 : List Str := ["natural_product", "kind_of", "toward", "need_worm", "order", "worm_of", "form_of", "need_worms", "turn_above", "halfway", "MOST_TURNS", "MOST_ORDERS"]
def loose5 : List Str := ["next_worm", "behind", "turns_of", "orders", "is_in_form", "MOST_END", "longest_above", "piece_end", "repeated_end", "worm_end", "MOST_TURN", "ends_at"]
def loose6 : List Str := ["_law_source", "_law_pick", "_law_plus", "_law_order", "_law_point", "_law_implies", "_law_worm", "_law_chain", "_law_ordinal", "_law_times", "_law_sums_right", "_law_toward_right"]
def loose : List Str := loose0 ++ loose1 ++ loose2 ++ loose3 ++ loose4 ++ loose5 ++ loose6
abbrev R : PySem.W.OpenRow := PySem.W.OpenLaw.row PySem.Challenge.rw_wormsinline_k67_whole_battles_and_their
abbrev hk : PySem.W.Hook := He.hookX 6 (packFa rows fr) (packFn rows) [] [] (csB cs)
def ob (s : PySem.W.SharedT) : He.AlX := He.obsX 6 (packFa rows fr) (packFn rows) [] [] (csB cs) (HandSHeadRun.getT s)
theorem ob_eq (s : PySem.W.SharedT) : ob s = hk.obs s.abs := He.obsX_eq (HandSHeadRun.getT_eq s)
noncomputable abbrev ended (w : World) (os : OsState) := endF (stepQ (denQ tabQ) R.prog w) 4000 R.prog w os
theorem runA (w : World) (os : OsState) : (ended w os).map (fun s => looksF R.prog (boot_heap w.params) s.abs) = some true := by
  kernel_rfl
theorem runB (w : World) (os : OsState) : (ended w os).map (fun s => seenQ (PySem.W.view R.prog [100]) loose (importedModules R.prog.main.body) (fun s => xlAt (PySem.W.view R.prog [100]) [] s && recOk R.toRowW.records s) s.abs) = some (openGood (PySem.W.view R.prog [100]) loose) := by
  kernel_rfl
theorem runC (w : World) (os : OsState) : (ended w os).map (fun s => ob s) = some (hk.val w) := by
  kernel_rfl
theorem map3 {α β γ δ : Type} {x : Option α} {f : α → β} {g : α → γ} {h : α → δ} {a : β} {b : γ} {c : δ} (e1 : x.map f = some a) (e2 : x.map g = some b) (e3 : x.map h = some c) : x.map (fun s => (f s, g s, h s)) = some (a, b, c) := by
  cases x with
  | none => cases e1
  | some s =>
    cases e1
    cases e2
    cases e3
    rfl
theorem run (w : World) : HandSHeadRun.RunEq R (PySem.W.view R.prog [100]) hk ob 4000 loose w := fun os => map3 (runA w os) (runB w os) (runC w os)
end K67.Hd
set_option Elab.async false
set_option linter.all false
set_option maxRecDepth 100000
/-! EvRel: what the data stand for in the abstract heap. -/
namespace Ev
open PySem L2
/-- a list that is never written -/
def FzL (K : PySem.W.Frag) (H : Hp) (a : Addr) (vs : List V) : Prop := SqL K H a vs ∧ ((∃ o, H a = some (.frz o (.lst vs))) ∨ ∀ H', SqL K H' a vs)
mutual
inductive Den (K : PySem.W.Frag) (β : List Addr) (H : Hp) : D → V → Prop
  | non : Den K β H .non .non
  | bl (b : Bool) : Den K β H (.bl b) (.bl b)
  | int (i : Int) : Den K β H (.int i) (.int i)
  | str (x : Str) : Den K β H (.str x) (.str x)
  | tup {a : Addr} {vs : List V} {ds : List D} : SqT K H a vs → DenL K β H ds vs → Den K β H (.tup ds) (.ref a)
  | fz {a : Addr} {vs : List V} {ds : List D} : FzL K H a vs → DenL K β H ds vs → Den K β H (.fz ds) (.ref a)
  | ref {n : Nat} {a : Addr} : β[n]? = some a → Den K β H (.ref n) (.ref a)
inductive DenL (K : PySem.W.Frag) (β : List Addr) (H : Hp) : List D → List V → Prop
  | nil : DenL K β H [] []
  | cons {d : D} {v : V} {ds : List D} {vs : List V} : Den K β H d v → DenL K β H ds vs → DenL K β H (d :: ds) (v :: vs)
end
section
variable {K : PySem.W.Frag} {β β' : List Addr} {H H' : Hp}
mutual
theorem Den.mono (hb : ∀ (n : Nat) (a : Addr), β[n]? = some a → β'[n]? = some a) (hT : ∀ a vs, SqT K H a vs → SqT K H' a vs) (hF : ∀ a vs, FzL K H a vs → FzL K H' a vs) : ∀ {d : D} {v : V}, Den K β H d v → Den K β' H' d v
  | _, _, .non => .non
  | _, _, .bl b => .bl b
  | _, _, .int i => .int i
  | _, _, .str x => .str x
  | _, _, .tup h l => .tup (hT _ _ h) (DenL.mono hb hT hF l)
  | _, _, .fz h l => .fz (hF _ _ h) (DenL.mono hb hT hF l)
  | _, _, .ref h => .ref (hb _ _ h)
theorem DenL.mono (hb : ∀ (n : Nat) (a : Addr), β[n]? = some a → β'[n]? = some a) (hT : ∀ a vs, SqT K H a vs → SqT K H' a vs) (hF : ∀ a vs, FzL K H a vs → FzL K H' a vs) : ∀ {ds : List D} {vs : List V}, DenL K β H ds vs → DenL K β' H' ds vs
  | _, _, .nil => .nil
  | _, _, .cons h l => .cons (Den.mono hb hT hF h) (DenL.mono hb hT hF l)
end
theorem DenL.len : ∀ {ds : List D} {vs : List V}, DenL K β H ds vs → ds.length = vs.length
  | _, _, .nil => rfl
  | _, _, .cons _ l => by rw [List.length_cons, List.length_cons, l.len]
theorem DenL.get : ∀ {ds : List D} {vs : List V} {i : Nat} {d : D}, DenL K β H ds vs → ds[i]? = some d → ∃ v, vs[i]? = some v ∧ Den K β H d v
  | _, _, _, _, .nil, e => by simp at e
  | _, _, 0, _, .cons h _, e => by simp at e; subst e; exact ⟨_, rfl, h⟩
  | _, _, i + 1, _, .cons _ l, e => by
    obtain ⟨v, h1, h2⟩ := l.get (i := i) (by simpa using e)
    exact ⟨v, by simpa using h1, h2⟩
theorem DenL.app : ∀ {ds es : List D} {vs ws : List V}, DenL K β H ds vs → DenL K β H es ws → DenL K β H (ds ++ es) (vs ++ ws)
  | _, _, _, _, .nil, s => s
  | _, _, _, _, .cons h l, s => .cons h (l.app s)
theorem DenL.set {d : D} {v : V} (r : Den K β H d v) : ∀ {ds : List D} {vs : List V} (i : Nat), DenL K β H ds vs → DenL K β H (ds.set i d) (vs.set i v)
  | _, _, _, .nil => .nil
  | _, _, 0, .cons _ l => .cons r l
  | _, _, i + 1, .cons h l => .cons h (l.set r i)
theorem DenL.take : ∀ {ds : List D} {vs : List V} (n : Nat), DenL K β H ds vs → DenL K β H (ds.take n) (vs.take n)
  | _, _, 0, _ => .nil
  | _, _, _ + 1, .nil => .nil
  | _, _, n + 1, .cons h l => .cons h (l.take n)
theorem DenL.drop : ∀ {ds : List D} {vs : List V} (n : Nat), DenL K β H ds vs → DenL K β H (ds.drop n) (vs.drop n)
  | _, _, 0, l => l
  | _, _, _ + 1, .nil => .nil
  | _, _, n + 1, .cons _ l => l.drop n
theorem DenL.rev {ds : List D} {vs : List V} (h : DenL K β H ds vs) : DenL K β H ds.reverse vs.reverse := by
  induction ds generalizing vs with
  | nil => cases h; exact .nil
  | cons d ds ih =>
    cases h with
    | cons h l =>
      rw [List.reverse_cons, List.reverse_cons]
      exact (ih l).app (.cons h .nil)
theorem DenL.rep {ds : List D} {vs : List V} (h : DenL K β H ds vs) : ∀ k : Nat, DenL K β H (List.replicate k ds).flatten (List.replicate k vs).flatten
  | 0 => .nil
  | k + 1 => by
    rw [List.replicate_succ, List.replicate_succ, List.flatten_cons, List.flatten_cons]
    exact h.app (h.rep k)
theorem DenL.dropLast {ds : List D} {vs : List V} (h : DenL K β H ds vs) : DenL K β H ds.dropLast vs.dropLast := by
  rw [List.dropLast_eq_take, List.dropLast_eq_take, h.len]
  exact h.take _
theorem DenL.none_of {ds : List D} {vs : List V} {i : Nat} (h : DenL K β H ds vs) (e : ds[i]? = none) : vs[i]? = none := by
  have h1 := h.len
  have h2 : ds.length ≤ i := List.getElem?_eq_none_iff.mp e
  exact List.getElem?_eq_none_iff.mpr (by omega)
end
/-- a list of the small heap -/
def MRel (K : PySem.W.Frag) (β : List Addr) (H : Hp) (a : Addr) : MO → Prop
  | .lst xs => ∃ vs, H a = some (.lst vs) ∧ DenL K β H xs vs
structure HRel (K : PySem.W.Frag) (β : List Addr) (mh : MH) (H : Hp) : Prop where
  len : β.length = mh.length
  nd : β.Nodup
  at_ : ∀ (n : Nat) (o : MO) (a : Addr), mh[n]? = some o → β[n]? = some a → MRel K β H a o
/-- what stands behind an expression: the numbers go on, what isn't numbered stays, new numbers are new objects -/
structure Po (K : PySem.W.Frag) (β : List Addr) (H : Hp) (β' : List Addr) (H' : Hp) (mh' : MH) : Prop where
  pre : ∀ (n : Nat) (a : Addr), β[n]? = some a → β'[n]? = some a
  ext : ∀ a o, H a = some o → a ∉ β → H' a = some o
  frs : ∀ a ∈ β', a ∈ β ∨ H a = none
  rel : HRel K β' mh' H'
/-- what an expression gives stands for a value: H ahead, H' behind -/
def DenR (K : PySem.W.Frag) (H : Hp) (β' : List Addr) (H' : Hp) : R → V → Prop
  | .v d, v => Den K β' H' d v
  | .l ds, v => ∃ a vs, v = .ref a ∧ H a = none ∧ a ∉ β' ∧ H' a = some (.lst vs) ∧ DenL K β' H' ds vs
inductive DenRs (K : PySem.W.Frag) (H : Hp) (β' : List Addr) (H' : Hp) : List R → List V → Prop
  | nil : DenRs K H β' H' [] []
  | cons {r : R} {v : V} {rs : List R} {vs : List V} : DenR K H β' H' r v → DenRs K H β' H' rs vs → DenRs K H β' H' (r :: rs) (v :: vs)
structure EnvRel (K : PySem.W.Frag) (β : List Addr) (H : Hp) (env : Env) (σ : L2.St) : Prop where
  len : env.length = σ.length
  at_ : ∀ (i : Nat) (d : D), env[i]? = some (some d) → ∃ v, σ[i]? = some (some v) ∧ Den K β H d v
section
variable {K : PySem.W.Frag} {β β' β'' : List Addr} {H H' H'' : Hp} {mh mh' mh'' : MH}
theorem mem_get {β : List Addr} {a : Addr} (h : a ∈ β) : ∃ n : Nat, β[n]? = some a := by
  obtain ⟨n, hn, e⟩ := List.mem_iff_getElem.mp h
  exact ⟨n, by rw [List.getElem?_eq_getElem hn, e]⟩
theorem HRel.there (h : HRel K β mh H) {n : Nat} {a : Addr} (e : β[n]? = some a) : ∃ o, mh[n]? = some o ∧ MRel K β H a o := by
  have hn : n < β.length := (List.getElem?_eq_some_iff.mp e).1
  have hm : n < mh.length := by rw [← h.len]; exact hn
  exact ⟨mh[n], by rw [List.getElem?_eq_getElem hm], h.at_ n _ a (by rw [List.getElem?_eq_getElem hm]) e⟩
/-- a numbered address holds a list of its own -/
theorem HRel.isl (h : HRel K β mh H) {a : Addr} (hm : a ∈ β) : ∃ vs, H a = some (.lst vs) := by
  obtain ⟨n, e⟩ := mem_get hm
  obtain ⟨o, _, r⟩ := h.there e
  cases o with
  | lst xs =>
    obtain ⟨vs, e1, _⟩ := r
    exact ⟨vs, e1⟩
theorem HRel.sqT (h : HRel K β mh H) (ext : ∀ a o, H a = some o → a ∉ β → H' a = some o) (a : Addr) (vs : List V) (q : SqT K H a vs) : SqT K H' a vs := by
  rcases q with (q | ⟨o, q⟩) | q
  · exact .inl (.inl (ext _ _ q fun hm => by obtain ⟨_, e⟩ := h.isl hm; rw [e] at q; cases q))
  · exact .inl (.inr ⟨o, ext _ _ q fun hm => by obtain ⟨_, e⟩ := h.isl hm; rw [e] at q; cases q⟩)
  · exact .inr q
theorem HRel.fzL (h : HRel K β mh H) (ext : ∀ a o, H a = some o → a ∉ β → H' a = some o) (a : Addr) (vs : List V) (q : FzL K H a vs) : FzL K H' a vs := by
  obtain ⟨q1, q2⟩ := q
  rcases q2 with ⟨o, q2⟩ | q2
  · have e := ext _ _ q2 fun hm => by obtain ⟨_, e⟩ := h.isl hm; rw [e] at q2; cases q2
    exact ⟨.inl (.inr ⟨o, e⟩), .inl ⟨o, e⟩⟩
  · exact ⟨q2 H', .inr q2⟩
theorem Po.den (p : Po K β H β' H' mh') (h : HRel K β mh H) {d : D} {v : V} (q : Den K β H d v) : Den K β' H' d v := q.mono p.pre (h.sqT p.ext) (h.fzL p.ext)
theorem Po.denL (p : Po K β H β' H' mh') (h : HRel K β mh H) {d : List D} {v : List V} (q : DenL K β H d v) : DenL K β' H' d v := q.mono p.pre (h.sqT p.ext) (h.fzL p.ext)
theorem Po.refl (h : HRel K β mh H) : Po K β H β H mh := ⟨fun _ _ e => e, fun _ _ e _ => e, fun _ hm => .inl hm, h⟩
theorem Po.trans (p : Po K β H β' H' mh') (q : Po K β' H' β'' H'' mh'') : Po K β H β'' H'' mh'' where
  pre := fun n a e => q.pre n a (p.pre n a e)
  ext := fun a o e hn => q.ext a o (p.ext a o e hn) fun hm => (p.frs a hm).elim hn fun z => by rw [e] at z; cases z
  frs := fun a hm => (q.frs a hm).elim (p.frs a) fun z => by
    by_cases hb : a ∈ β
    · exact .inl hb
    · cases e : H a with
      | none => exact .inr rfl
      | some o => rw [p.ext a o e hb] at z; cases z
  rel := q.rel
theorem EnvRel.mono (p : Po K β H β' H' mh') (h : HRel K β mh H) {env : Env} {σ : L2.St} (e : EnvRel K β H env σ) : EnvRel K β' H' env σ :=
  ⟨e.len, fun i d q => let ⟨v, h1, h2⟩ := e.at_ i d q; ⟨v, h1, p.den h h2⟩⟩
/-- what came ahead stays behind a further expression -/
theorem DenR.later (q : Po K β' H' β'' H'' mh'') (h : HRel K β' mh' H') {r : R} {v : V} (d : DenR K H β' H' r v) : DenR K H β'' H'' r v := by
  cases r with
  | v d' => exact q.den h d
  | l ds =>
    obtain ⟨a, vs, e, n, hb, hl, hd⟩ := d
    refine ⟨a, vs, e, n, fun hm => ?_, q.ext a _ hl hb, q.denL h hd⟩
    rcases q.frs a hm with z | z
    · exact hb z
    · rw [hl] at z; cases z
/-- what comes behind was not there ahead -/
theorem DenR.back (p : Po K β H β' H' mh') {r : R} {v : V} (hb2 : ∀ (n : Nat) (a : Addr), β'[n]? = some a → β''[n]? = some a) (d : DenR K H' β'' H'' r v) : DenR K H β'' H'' r v := by
  cases r with
  | v d' => exact d
  | l ds =>
    obtain ⟨a, vs, e, n, hb, hl, hd⟩ := d
    refine ⟨a, vs, e, ?_, hb, hl, hd⟩
    have hb0 : a ∉ β := fun hm => by
      obtain ⟨i, e1⟩ := mem_get hm
      exact hb (List.mem_of_getElem? (hb2 _ _ (p.pre _ _ e1)))
    cases e1 : H a with
    | none => rfl
    | some o => rw [p.ext a o e1 hb0] at n; cases n
theorem DenRs.later (q : Po K β' H' β'' H'' mh'') (h : HRel K β' mh' H') : ∀ {rs : List R} {vs : List V}, DenRs K H β' H' rs vs → DenRs K H β'' H'' rs vs
  | _, _, .nil => .nil
  | _, _, .cons d l => .cons (d.later q h) (DenRs.later q h l)
theorem DenRs.back (p : Po K β H β' H' mh') (hb2 : ∀ (n : Nat) (a : Addr), β'[n]? = some a → β''[n]? = some a) : ∀ {rs : List R} {vs : List V}, DenRs K H' β'' H'' rs vs → DenRs K H β'' H'' rs vs
  | _, _, .nil => .nil
  | _, _, .cons d l => .cons (d.back p hb2) (DenRs.back p hb2 l)
theorem lst_ne {β : List Addr} {mh : MH} {H : Hp} (h : HRel K β mh H) {a : Addr} {vs : List V} (e : H a = some (.lst vs)) (hb : a ∉ β) : ∀ (n : Nat) (b : Addr), β[n]? = some b → b ≠ a := fun n b e1 z => hb (z ▸ List.mem_of_getElem? e1)
/-- the numbers may go on where the heap stays -/
theorem MRel.more {β β' : List Addr} (hb : ∀ (n : Nat) (a : Addr), β[n]? = some a → β'[n]? = some a) {a : Addr} {o : MO} (r : MRel K β H a o) : MRel K β' H a o := by
  cases o with
  | lst xs =>
    obtain ⟨vs, e, d⟩ := r
    exact ⟨vs, e, d.mono hb (fun _ _ z => z) fun _ _ z => z⟩
theorem pre_app (β : List Addr) (a : Addr) : ∀ (n : Nat) (b : Addr), β[n]? = some b → (β ++ [a])[n]? = some b := fun n b e => by
  rw [List.getElem?_append_left (List.getElem?_eq_some_iff.mp e).1]
  exact e
/-- a list is numbered -/
theorem HRel.box (h : HRel K β mh H) {a : Addr} {vs : List V} {ds : List D} (e : H a = some (.lst vs)) (hb : a ∉ β) (d : DenL K β H ds vs) : HRel K (β ++ [a]) (mh ++ [.lst ds]) H where
  len := by rw [List.length_append, List.length_append, h.len]; rfl
  nd := List.nodup_append.mpr ⟨h.nd, by simp, fun x hx y hy z => hb (by rw [List.mem_singleton.mp hy] at z; exact z ▸ hx)⟩
  at_ := fun n o b e1 e2 => by
    by_cases hn : n < mh.length
    · rw [List.getElem?_append_left hn] at e1
      rw [List.getElem?_append_left (by rw [h.len]; exact hn)] at e2
      exact (h.at_ n o b e1 e2).more (pre_app β a)
    · have e3 : n = mh.length := by
        have : n < (mh ++ [MO.lst ds]).length := (List.getElem?_eq_some_iff.mp e1).1
        rw [List.length_append, List.length_singleton] at this
        omega
      subst e3
      rw [List.getElem?_append_right (Nat.le_refl _), Nat.sub_self] at e1
      rw [← h.len, List.getElem?_append_right (Nat.le_refl _), Nat.sub_self] at e2
      simp at e1 e2
      subst e1 e2
      exact ⟨vs, e, d.mono (pre_app β a) (fun _ _ z => z) fun _ _ z => z⟩
theorem Po.box (p : Po K β H β' H' mh') {r : R} {v : V} (d : DenR K H β' H' r v) : ∃ β'', Po K β H β'' H' (Ev.box r mh').2 ∧ (∀ (n : Nat) (a : Addr), β'[n]? = some a → β''[n]? = some a) ∧ (∀ a ∈ β'', a ∈ β' ∨ H a = none) ∧ Den K β'' H' (Ev.box r mh').1 v := by
  cases r with
  | v d' => exact ⟨β', p, fun _ _ e => e, fun _ h => .inl h, d⟩
  | l ds =>
    obtain ⟨a, vs, e, n, hb, hl, hd⟩ := d
    refine ⟨β' ++ [a], ⟨fun n' b e1 => pre_app _ _ _ _ (p.pre _ _ e1), p.ext, fun b hm => ?_, p.rel.box hl hb hd⟩, pre_app β' a, fun b hm => ?_, ?_⟩
    · rcases List.mem_append.mp hm with z | z
      · exact p.frs b z
      · rw [List.mem_singleton.mp z]; exact .inr n
    · rcases List.mem_append.mp hm with z | z
      · exact .inl z
      · rw [List.mem_singleton.mp z]; exact .inr n
    · subst e
      show Den K (β' ++ [a]) H' (.ref mh'.length) (.ref a)
      refine .ref ?_
      rw [← p.rel.len, List.getElem?_append_right (Nat.le_refl _), Nat.sub_self]
      rfl
/-- boxing, as a step of its own -/
theorem Po.boxed (h : HRel K β' mh' H') {r : R} {v : V} (d : DenR K H β' H' r v) (hx : ∀ a ∈ β', a ∈ β' ∨ H a = none := fun _ h => .inl h) : ∃ β'', (∀ (n : Nat) (a : Addr), β'[n]? = some a → β''[n]? = some a) ∧ (∀ a ∈ β'', a ∈ β' ∨ H a = none) ∧ HRel K β'' (Ev.box r mh').2 H' ∧ Den K β'' H' (Ev.box r mh').1 v := by
  cases r with
  | v d' => exact ⟨β', fun _ _ e => e, fun _ h => .inl h, h, d⟩
  | l ds =>
    obtain ⟨a, vs, e, n, hb, hl, hd⟩ := d
    refine ⟨β' ++ [a], pre_app β' a, fun b hm => ?_, h.box hl hb hd, ?_⟩
    · rcases List.mem_append.mp hm with z | z
      · exact .inl z
      · rw [List.mem_singleton.mp z]; exact .inr n
    · subst e
      show Den K (β' ++ [a]) H' (.ref mh'.length) (.ref a)
      refine .ref ?_
      rw [← h.len, List.getElem?_append_right (Nat.le_refl _), Nat.sub_self]
      rfl
/-! ### what is laid, what is changed -/
theorem upd_ext {H : Hp} {p : Addr} {o : HO} (hp : H p = none) : ∀ a u, H a = some u → (upd H p o) a = some u := fun a u e => by
  rw [upd_ne (ne_of_none e hp)]; exact e
/-- a new object, not numbered -/
theorem HRel.free (h : HRel K β mh H) {p : Addr} (hp : H p = none) : p ∉ β := fun hm => by obtain ⟨_, e⟩ := h.isl hm; rw [e] at hp; cases hp
theorem HRel.laid (h : HRel K β mh H) {p : Addr} {o : HO} (hp : H p = none) : HRel K β mh (upd H p o) where
  len := h.len
  nd := h.nd
  at_ := fun n m a e1 e2 => by
    have ne : a ≠ p := fun z => h.free hp (z ▸ List.mem_of_getElem? e2)
    have hT : ∀ b vs, SqT K H b vs → SqT K (upd H p o) b vs := h.sqT fun b u e _ => upd_ext hp b u e
    have hF : ∀ b vs, FzL K H b vs → FzL K (upd H p o) b vs := h.fzL fun b u e _ => upd_ext hp b u e
    have r := h.at_ n m a e1 e2
    cases m with
    | lst xs =>
      obtain ⟨vs, e, d⟩ := r
      exact ⟨vs, by rw [upd_ne ne]; exact e, d.mono (fun _ _ z => z) hT hF⟩
theorem Po.laid (h : HRel K β mh H) {p : Addr} {o : HO} (hp : H p = none) : Po K β H β (upd H p o) mh :=
  ⟨fun _ _ e => e, fun a u e _ => upd_ext hp a u e, fun _ hm => .inl hm, h.laid hp⟩
/-- a numbered list is changed -/
theorem HRel.write (h : HRel K β mh H) {n : Nat} {a : Addr} {xs ys : List D} {ws : List V} (e1 : mh[n]? = some (.lst xs)) (e2 : β[n]? = some a) (d : DenL K β H ys ws) : HRel K β (mh.set n (.lst ys)) (upd H a (.lst ws)) := by
  obtain ⟨vs, ea, _⟩ := h.at_ n _ a e1 e2
  have ext : ∀ b u, H b = some u → b ∉ β → (upd H a (.lst ws)) b = some u := fun b u e hn => by rw [upd_ne (a := a) fun z => hn (by rw [z]; exact List.mem_of_getElem? e2)]; exact e
  have hT := h.sqT ext
  have hF := h.fzL ext
  refine ⟨by rw [List.length_set]; exact h.len, h.nd, fun m o b e3 e4 => ?_⟩
  by_cases hm : m = n
  · subst hm
    rw [e2] at e4; cases e4
    rw [List.getElem?_set_self (List.getElem?_eq_some_iff.mp e1).1] at e3
    cases e3
    exact ⟨ws, upd_same, d.mono (fun _ _ z => z) hT hF⟩
  · rw [List.getElem?_set_ne (Ne.symm hm)] at e3
    have ne : b ≠ a := fun z => by
      subst z
      obtain ⟨h1, q1⟩ := List.getElem?_eq_some_iff.mp e2
      obtain ⟨h2, q2⟩ := List.getElem?_eq_some_iff.mp e4
      exact hm ((List.getElem_inj h.nd).mp (q2.trans q1.symm))
    have r := h.at_ m o b e3 e4
    cases o with
    | lst zs =>
      obtain ⟨us, e, d'⟩ := r
      exact ⟨us, by rw [upd_ne ne]; exact e, d'.mono (fun _ _ z => z) hT hF⟩
theorem Po.write (h : HRel K β mh H) {n : Nat} {a : Addr} {xs ys : List D} {ws : List V} (e1 : mh[n]? = some (.lst xs)) (e2 : β[n]? = some a) (d : DenL K β H ys ws) : Po K β H β (upd H a (.lst ws)) (mh.set n (.lst ys)) :=
  ⟨fun _ _ e => e, fun b u e hn => by rw [upd_ne (a := a) fun z => hn (by rw [z]; exact List.mem_of_getElem? e2)]; exact e, fun _ hm => .inl hm, h.write e1 e2 d⟩
end
end Ev
set_option Elab.async false
set_option linter.all false
set_option maxRecDepth 100000
set_option maxHeartbeats 1000000
/-! EvRule1: expressions by the library's rules: names, constants, displays, operators. -/
namespace Ev
open PySem PySem.Spec PyProof.Rows L2
abbrev Run := Env → MH → Option (R × MH)
def tEx (K : PySem.W.Frag) (f : Run) : TE := fun σ H Q => ∃ β env mh r mh', HRel K β mh H ∧ EnvRel K β H env σ ∧ f env mh = some (r, mh') ∧
  ∀ β' v H', Po K β H β' H' mh' → DenR K H β' H' r v → Q v H'
def tTs (K : PySem.W.Frag) (f : Env → MH → Option (Bool × MH)) : TT := fun σ H Q => ∃ β env mh b mh', HRel K β mh H ∧ EnvRel K β H env σ ∧ f env mh = some (b, mh') ∧
  ∀ β' H', Po K β H β' H' mh' → Q b H'
def tAs (K : PySem.W.Frag) (f : Env → MH → Option (List D × MH)) : TA := fun σ H Q => ∃ β env mh ds mh', HRel K β mh H ∧ EnvRel K β H env σ ∧ f env mh = some (ds, mh') ∧
  ∀ β' vs H', Po K β H β' H' mh' → DenL K β' H' ds vs → Q vs H'
def tRs (K : PySem.W.Frag) (f : Env → MH → Option (List R × MH)) : TA := fun σ H Q => ∃ β env mh rs mh', HRel K β mh H ∧ EnvRel K β H env σ ∧ f env mh = some (rs, mh') ∧
  ∀ β' vs H', Po K β H β' H' mh' → DenRs K H β' H' rs vs → Q vs H'
section
variable {X : Cx}
theorem PE_imp {e : Expr} {t t' : TE} (h : PE X e t) (i : ∀ σ H Q, t' σ H Q → t σ H Q) : PE X e t' := ⟨fun pins s σ H Q I q => h.run pins s σ H Q I (i σ H Q q)⟩
theorem PT_imp {e : Expr} {t t' : TT} (h : PT X e t) (i : ∀ σ H Q, t' σ H Q → t σ H Q) : PT X e t' := ⟨fun pins s σ H Q I q => h.run pins s σ H Q I (i σ H Q q)⟩
theorem PA_imp {es : List Expr} {t t' : TA} (h : PA X es t) (i : ∀ σ H Q, t' σ H Q → t σ H Q) : PA X es t' := ⟨fun pos pins s σ H Q I q => h.run pos pins s σ H Q I (i σ H Q q)⟩
abbrev PX (X : Cx) (e : Expr) (f : Run) : Prop := PE X e (tEx X.K f)
/-! ### steps within readings -/
section
variable {K : PySem.W.Frag} {β : List Addr} {env : Env} {mh mh1 mh2 : MH} {H : Hp} {σ : L2.St} {x y : R} {fa fb : Run}
theorem one_of {P : V → Hp → Prop} (hr : HRel K β mh H) (he : EnvRel K β H env σ) (ha : fa env mh = some (x, mh1))
    (k : ∀ β1 v H1, Po K β H β1 H1 mh1 → DenR K H β1 H1 x v → P v H1) : tEx K fa σ H P := ⟨β, env, mh, x, mh1, hr, he, ha, k⟩
theorem two_of {P : V → V → Hp → Prop} (hr : HRel K β mh H) (he : EnvRel K β H env σ) (ha : fa env mh = some (x, mh1)) (hb : fb env mh1 = some (y, mh2))
    (k : ∀ β2 v u H2, Po K β H β2 H2 mh2 → DenR K H β2 H2 x v → DenR K H β2 H2 y u → P v u H2) : tEx K fa σ H fun v H1 => tEx K fb σ H1 fun u H2 => P v u H2 :=
  one_of hr he ha fun β1 v H1 p1 d1 => one_of p1.rel (he.mono p1 hr) hb fun β2 u H2 p2 d2 => k β2 v u H2 (p1.trans p2) (d1.later p2 p1.rel) (d2.back p1 p2.pre)
end
/-! ### names, constants -/
theorem x_var {i : Nat} {x : Str} {pos : Pos} (hN : X.N[i]? = some x) (hv : Vis X.env.scope x) (hd : (x == ("__debug__" : Str)) = false) (hcd : (x == ("__classdict__" : Str)) = false) :
    PX X (.Name x pos) (fun env mh => match env[i]? with | some (some d) => some (.v d, mh) | _ => none) := by
  refine PE_imp (pe_var hN hv hd hcd) fun σ H Q h => ?_
  obtain ⟨β, env, mh, r, mh', hr, he, hf, q⟩ := h
  dsimp only at hf
  cases e : env[i]? with
  | none => rw [e] at hf; cases hf
  | some o =>
    cases o with
    | none => rw [e] at hf; cases hf
    | some d =>
      rw [e] at hf
      cases hf
      obtain ⟨v, h1, h2⟩ := he.at_ i d e
      exact ⟨v, h1, q β v H (Po.refl hr) h2⟩
theorem x_cst {e : Expr} {v : V} {d : D} (h : PE X e (tC v)) (hd : ∀ β H, Den X.K β H d v) : PX X e (fun _ mh => some (.v d, mh)) := by
  refine PE_imp h fun σ H Q h => ?_
  obtain ⟨β, env, mh, r, mh', hr, he, hf, q⟩ := h
  dsimp only at hf
  cases hf
  exact q β v H (Po.refl hr) (hd β H)
theorem x_never {e : Expr} : PX X e (fun _ _ => none) := ⟨fun pins s σ H Q I q => by
  obtain ⟨β, env, mh, r, mh', hr, he, hf, q⟩ := q
  cases hf⟩
/-! ### arguments -/
theorem x_nil : PA X [] (tAs X.K fun _ mh => some ([], mh)) := PA_imp pa_nil fun σ H Q h => by
  obtain ⟨β, env, mh, r, mh', hr, he, hf, q⟩ := h
  dsimp only at hf
  cases hf
  exact q β [] H (Po.refl hr) .nil
theorem x_cons {e : Expr} {es : List Expr} {f : Run} {g : Env → MH → Option (List D × MH)} (ha : PX X e f) (hb : PA X es (tAs X.K g)) (hs : starEach (e :: es) X.env = (false, eval e X.env) :: starEach es X.env) :
    PA X (e :: es) (tAs X.K fun env mh => match f env mh with
      | some (r, mh) => match g env (box r mh).2 with
        | some (ds, mh') => some ((box r mh).1 :: ds, mh')
        | none => none
      | none => none) := by
  refine PA_imp (pa_cons ha hb hs) fun σ H Q h => ?_
  obtain ⟨β, env, mh, r, mh', hr, he, hf, q⟩ := h
  dsimp only at hf
  cases e1 : f env mh with
  | none => rw [e1] at hf; cases hf
  | some z =>
    obtain ⟨r1, mh1⟩ := z
    rw [e1] at hf
    have hf : (match g env (box r1 mh1).2 with
      | some (ds, mh') => some ((box r1 mh1).1 :: ds, mh')
      | none => none) = some (r, mh') := hf
    cases e2 : g env (box r1 mh1).2 with
    | none => rw [e2] at hf; cases hf
    | some z =>
      obtain ⟨ds, mh2⟩ := z
      rw [e2] at hf
      cases hf
      refine one_of hr he e1 fun β1 v H1 p1 d1 => ?_
      obtain ⟨β2, p2, hp, _, d2⟩ := p1.box d1
      refine ⟨β2, env, _, ds, _, p2.rel, he.mono p2 hr, e2, fun β3 vs H3 p3 d3 => ?_⟩
      exact q β3 (v :: vs) H3 (p2.trans p3) (.cons (p3.den p2.rel d2) d3)
theorem r_nil : PA X [] (tRs X.K fun _ mh => some ([], mh)) := PA_imp pa_nil fun σ H Q h => by
  obtain ⟨β, env, mh, r, mh', hr, he, hf, q⟩ := h
  dsimp only at hf
  cases hf
  exact q β [] H (Po.refl hr) .nil
theorem r_cons {e : Expr} {es : List Expr} {f : Run} {g : Env → MH → Option (List R × MH)} (ha : PX X e f) (hb : PA X es (tRs X.K g)) (hs : starEach (e :: es) X.env = (false, eval e X.env) :: starEach es X.env) :
    PA X (e :: es) (tRs X.K fun env mh => match f env mh with
      | some (r, mh) => match g env mh with
        | some (rs, mh) => some (r :: rs, mh)
        | none => none
      | none => none) := by
  refine PA_imp (pa_cons ha hb hs) fun σ H Q h => ?_
  obtain ⟨β, env, mh, r, mh', hr, he, hf, q⟩ := h
  dsimp only at hf
  cases e1 : f env mh with
  | none => rw [e1] at hf; cases hf
  | some z =>
    obtain ⟨r1, mh1⟩ := z
    rw [e1] at hf
    have hf : (match g env mh1 with
      | some (rs, mh) => some (r1 :: rs, mh)
      | none => none) = some (r, mh') := hf
    cases e2 : g env mh1 with
    | none => rw [e2] at hf; cases hf
    | some z =>
      obtain ⟨ds, mh2⟩ := z
      rw [e2] at hf
      cases hf
      refine one_of hr he e1 fun β1 v H1 p1 d1 => ?_
      refine ⟨β1, env, _, ds, _, p1.rel, he.mono p1 hr, e2, fun β3 vs H3 p3 d3 => ?_⟩
      exact q β3 (v :: vs) H3 (p1.trans p3) (.cons (d1.later p3 p1.rel) (d3.back p1 p3.pre))
/-! ### displays -/
theorem many_line {n : Nat} (h : n ≤ many) : n ≤ sizeLine := Nat.le_trans h (by decide)
theorem den_new {K : PySem.W.Frag} {β : List Addr} {mh : MH} {H : Hp} (hr : HRel K β mh H) {p : Addr} (hp : H p = none) {ds : List D} {vs : List V} (d : DenL K β H ds vs) : DenR K H β (upd H p (.tup vs)) (.v (.tup ds)) (.ref p) :=
  .tup (.inl (.inl upd_same)) ((Po.laid hr hp).denL hr d)
theorem den_newl {K : PySem.W.Frag} {β : List Addr} {mh : MH} {H : Hp} (hr : HRel K β mh H) {p : Addr} (hp : H p = none) {ds : List D} {vs : List V} (d : DenL K β H ds vs) : DenR K H β (upd H p (.lst vs)) (.l ds) (.ref p) :=
  ⟨p, vs, rfl, hp, hr.free hp, upd_same, (Po.laid hr hp).denL hr d⟩
theorem x_tup {es : List Expr} {k : Nat} {pos : Pos} {g : Env → MH → Option (List D × MH)} (h : PA X es (tAs X.K g)) : PX X (.Tuple es k pos) (fun env mh => match g env mh with
    | some (ds, mh) => if ds.length ≤ many then some (.v (.tup ds), mh) else none
    | none => none) := by
  refine PE_imp (pe_tup h) fun σ H Q h => ?_
  obtain ⟨β, env, mh, r, mh', hr, he, hf, q⟩ := h
  dsimp only at hf
  cases e1 : g env mh with
  | none => rw [e1] at hf; cases hf
  | some z =>
    obtain ⟨ds, mh1⟩ := z
    rw [e1] at hf
    by_cases hz : ds.length ≤ many
    · have hf : (if ds.length ≤ many then some (R.v (.tup ds), mh1) else none) = some (r, mh') := hf
      rw [if_pos hz] at hf
      cases hf
      refine ⟨β, env, mh, ds, mh', hr, he, e1, fun β1 vs H1 p1 d1 => ⟨many_line (by rw [← d1.len]; exact hz), fun p hp => ?_⟩⟩
      exact q β1 (.ref p) _ (p1.trans (Po.laid p1.rel hp)) ((den_new p1.rel hp d1).back p1 fun _ _ e => e)
    · have hf : (if ds.length ≤ many then some (R.v (.tup ds), mh1) else none) = some (r, mh') := hf
      rw [if_neg hz] at hf
      cases hf
theorem x_lst {es : List Expr} {pos : Pos} {g : Env → MH → Option (List D × MH)} (h : PA X es (tAs X.K g)) : PX X (.List es pos) (fun env mh => match g env mh with
    | some (ds, mh) => if ds.length ≤ many then some (.l ds, mh) else none
    | none => none) := by
  refine PE_imp (pe_lst h) fun σ H Q h => ?_
  obtain ⟨β, env, mh, r, mh', hr, he, hf, q⟩ := h
  dsimp only at hf
  cases e1 : g env mh with
  | none => rw [e1] at hf; cases hf
  | some z =>
    obtain ⟨ds, mh1⟩ := z
    rw [e1] at hf
    by_cases hz : ds.length ≤ many
    · have hf : (if ds.length ≤ many then some (R.l ds, mh1) else none) = some (r, mh') := hf
      rw [if_pos hz] at hf
      cases hf
      refine ⟨β, env, mh, ds, mh', hr, he, e1, fun β1 vs H1 p1 d1 => ⟨many_line (by rw [← d1.len]; exact hz), fun p hp => ?_⟩⟩
      exact q β1 (.ref p) _ (p1.trans (Po.laid p1.rel hp)) ((den_newl p1.rel hp d1).back p1 fun _ _ e => e)
    · have hf : (if ds.length ≤ many then some (R.l ds, mh1) else none) = some (r, mh') := hf
      rw [if_neg hz] at hf
      cases hf
/-! ### operators -/
/-- a rule by values serves a function on data -/
def OpVal (K : PySem.W.Frag) (g : MH → R → R → Option R) (r : R2) : Prop :=
  ∀ (H0 : Hp) (β : List Addr) (mh : MH) (H : Hp) (x y z : R) (v u : V) (Q : VK), HRel K β mh H → DenR K H0 β H x v → DenR K H0 β H y u → g mh x y = some z →
    (∀ w H', Po K β H β H' mh → DenR K H β H' z w → Q w H') → r v u H Q
theorem two_run {α : Type} {fa fb : Run} {env : Env} {mh mh' : MH} {g : MH → R → R → Option α} {z : α}
    (hf : (match fa env mh with
      | some (x, mh) => match fb env mh with
        | some (y, mh) => (g mh x y).map fun r => (r, mh)
        | none => none
      | none => none) = some (z, mh')) : ∃ x mh1 y, fa env mh = some (x, mh1) ∧ fb env mh1 = some (y, mh') ∧ g mh' x y = some z := by
  cases e1 : fa env mh with
  | none => rw [e1] at hf; cases hf
  | some p =>
    obtain ⟨x, mh1⟩ := p
    rw [e1] at hf
    have hf : (match fb env mh1 with
        | some (y, mh) => (g mh x y).map fun r => (r, mh)
        | none => none) = some (z, mh') := hf
    cases e2 : fb env mh1 with
    | none => rw [e2] at hf; cases hf
    | some p =>
      obtain ⟨y, mh2⟩ := p
      rw [e2] at hf
      have hf : ((g mh2 x y).map fun r => (r, mh2)) = some (z, mh') := hf
      cases e3 : g mh2 x y with
      | none => rw [e3] at hf; cases hf
      | some w =>
        rw [e3] at hf
        cases hf
        exact ⟨x, mh1, y, rfl, e2, e3⟩
theorem x_op {a b : Expr} {pos : Pos} {op : Operator} {r : R2} {g : MH → R → R → Option R} {fa fb : Run} (ho : OpR X (binaryOp op) r) (hv : OpVal X.K g r) (ha : PX X a fa) (hb : PX X b fb) :
    PX X (.BinOp a op b pos) (fun env mh => match fa env mh with
      | some (x, mh) => match fb env mh with
        | some (y, mh) => (g mh x y).map fun r => (r, mh)
        | none => none
      | none => none) := by
  refine PE_imp (pe_op ho ha hb) fun σ H Q h => ?_
  obtain ⟨β, env, mh, z, mh', hr, he, hf, q⟩ := h
  dsimp only at hf
  obtain ⟨x, mh1, y, e1, e2, e3⟩ := two_run hf
  exact two_of hr he e1 e2 fun β2 v u H2 p2 d1 d2 => hv H β2 mh' H2 x y z v u Q p2.rel d1 d2 e3 fun w H' p3 d3 => q β2 w H' (p2.trans p3) (d3.back p2 p3.pre)
theorem OpVal.or {K : PySem.W.Frag} {g g1 g2 : MH → R → R → Option R} {r r' : R2} (h1 : OpVal K g1 r) (h2 : OpVal K g2 r') (hg : ∀ mh x y z, g mh x y = some z → g1 mh x y = some z ∨ g2 mh x y = some z) : OpVal K g (fun x y H Q => r x y H Q ∨ r' x y H Q) :=
  fun H0 β mh H x y z v u Q hr dx dy e q => (hg mh x y z e).elim (fun e => .inl (h1 H0 β mh H x y z v u Q hr dx dy e q)) fun e => .inr (h2 H0 β mh H x y z v u Q hr dx dy e q)
end
end Ev
set_option Elab.async false
set_option linter.all false
set_option maxRecDepth 100000
set_option maxHeartbeats 4000000
/-! EvMul: a tuple times an int, whatever the int. -/
namespace Ev
open PySem PySem.Spec PyProof.Rows L2
/-- the same tuple comes back -/
theorem tupmul_same (l : Addr) (its : Array Value) (n : Nat) (dd : Option Addr) (sl : Array (Option Value)) (x : Int) (u : Tok)
    (c0 : (decide (x < -(2 ^ 63)) || decide (x ≥ 2 ^ 63)) = false) (c1 : (its.isEmpty || x == 1) = true) :
    Meets (Builtin.«tuple.__mul__» ⟨[.ref l, .int x u], []⟩) (fun _ R s => s.heap.get? l = some { cls := .type "tuple", dict := dd, data := .seq its n, slots := sl } ∧ R (.ok (.ret (Value.ref l))) s) :=
  .of_wp fun prog w A R s h => by
    obtain ⟨hp, g, d, tk, os⟩ := s
    obtain ⟨hl, h⟩ := h
    have f1 := AutoSeq1.idx_int
    wp_walk using wpAny_loadPart' hl
    repeat (first
      | (refine wpAny_ite_false (decide_eq_false (by rw [c0]; exact Bool.false_ne_true)) ?_; wp_walk using wpAny_loadPart' hl)
      | (refine wpAny_ite_true (decide_eq_true (by rw [c1])) ?_; wp_walk using wpAny_loadPart' hl))
    exact ⟨_, rfl, h⟩
/-- an empty tuple comes back -/
theorem tupmul_none (l : Addr) (its : Array Value) (n : Nat) (dd : Option Addr) (sl : Array (Option Value)) (x : Int) (u : Tok)
    (c0 : (decide (x < -(2 ^ 63)) || decide (x ≥ 2 ^ 63)) = false) (c1 : (its.isEmpty || x == 1) = false) (c2 : (decide (x ≤ 0) || its.isEmpty) = true) :
    Meets (Builtin.«tuple.__mul__» ⟨[.ref l, .int x u], []⟩) (fun _ R s => s.heap.get? l = some { cls := .type "tuple", dict := dd, data := .seq its n, slots := sl } ∧
      R (.ok (.ret (Value.ref s.heap.objs.size))) { s with heap := s.heap.push { cls := Value.type "tuple", data := Data.seq #[] }, toks := s.toks }) :=
  .of_wp fun prog w A R s h => by
    obtain ⟨hp, g, d, tk, os⟩ := s
    obtain ⟨hl, h⟩ := h
    have f1 := AutoSeq1.idx_int
    wp_walk using wpAny_loadPart' hl
    repeat (first
      | (refine wpAny_ite_false (decide_eq_false (by rw [c0]; exact Bool.false_ne_true)) ?_; wp_walk using wpAny_loadPart' hl)
      | (refine wpAny_ite_false (decide_eq_false (by rw [c1]; exact Bool.false_ne_true)) ?_; wp_walk using wpAny_loadPart' hl)
      | (refine wpAny_ite_true (decide_eq_true (by rw [c2])) ?_; wp_walk using wpAny_loadPart' hl))
    exact ⟨_, rfl, h⟩
/-- tuple * int, for ints to 1000 -/
def rRepAll (K : PySem.W.Frag) : R2 := fun x y H Q => ∃ l k xs, x = .ref l ∧ y = .int k ∧ SqT K H l xs ∧ -(2 ^ 63) ≤ k ∧ k ≤ 1000 ∧ xs.length ≤ 1000 ∧ (xs = [] ∨ k = 1 → Q (.ref l) H) ∧
  (xs ≠ [] → k ≠ 1 → ∀ p, H p = none → Q (.ref p) (upd H p (.tup (List.replicate k.toNat xs).flatten)))
theorem op_repAll {X : Cx} : OpR X (binaryOp .Mult) (rRepAll X.K) := by
  intro pins s σ H x y v u Q I rx ry h
  obtain ⟨l, k, xs, rfl, rfl, hT, hlo, hhi, hz, q1, q2⟩ := h
  by_cases hs : xs = [] ∨ k = 1
  · cases rx
    obtain ⟨t, rfl⟩ := ry
    obtain ⟨its, r, ⟨⟨cls, dd, data, sl⟩, ho, hc, n, hd⟩, _⟩ := I.tuple hT
    simp only at hc hd
    subst hc hd
    have c1 : (its.toArray.isEmpty || k == 1) = true := by
      rcases hs with e | e
      · have e2 : its = [] := List.eq_nil_of_length_eq_zero (by rw [← r.length, e]; rfl)
        rw [e2]; rfl
      · rw [e, beq_self_eq_true, Bool.or_true]
    have c0 : (decide (k < -(2 ^ 63)) || decide (k ≥ 2 ^ 63)) = false := by rw [decide_eq_false (by omega), decide_eq_false (by omega)]; rfl
    exact wpAny_binaryOp_repeat_ref (T := "tuple") (U := "int") (by decide) ⟨_, ho, rfl⟩ (fun s' => typeIs_int s' k t) noFill_tuple_mul F.fills_int_mul F.slot_int_rmul repeat_tuple F.slot_int_index.lookup
      (call_meets F.slot_int_rmul (typeIs_int s k t) F.entry_int_rmul (F.args_int_rmul_2 _ _) (int_rmul_tuple k t l its.toArray n dd sl)
        ⟨ho, rfl, ⟨_, ho, rfl⟩, call_meets F.slot_tuple_mul ⟨_, ho, rfl⟩ F.entry_tuple_mul (F.args_tuple_mul_2 _ _) (tupmul_same l its.toArray n dd sl k t c0 c1) ⟨ho, ⟨.ref l, H, I, rfl, q1 hs⟩⟩⟩)
  · have hx : xs ≠ [] := fun e => hs (.inl e)
    have hk : k ≠ 1 := fun e => hs (.inr e)
    by_cases h2 : 2 ≤ k
    · exact op_repT pins s σ H _ _ v u Q I rx ry ⟨l, k, xs, rfl, rfl, hT, hx, h2, hhi, hz, q2 hx hk⟩
    · cases rx
      obtain ⟨t, rfl⟩ := ry
      obtain ⟨its, r, ⟨⟨cls, dd, data, sl⟩, ho, hc, n, hd⟩, _⟩ := I.tuple hT
      simp only at hc hd
      subst hc hd
      have hi : its.toArray.isEmpty = false := by
        cases its with
        | nil => exact absurd (List.eq_nil_of_length_eq_zero (by rw [r.length]; rfl)) hx
        | cons a b => rfl
      have c1 : (its.toArray.isEmpty || k == 1) = false := by rw [hi, Bool.false_or]; exact beq_eq_false_iff_ne.mpr hk
      have c2 : (decide (k ≤ 0) || its.toArray.isEmpty) = true := by rw [hi, Bool.or_false]; exact decide_eq_true (by omega)
      have c0 : (decide (k < -(2 ^ 63)) || decide (k ≥ 2 ^ 63)) = false := by rw [decide_eq_false (by omega), decide_eq_false (by omega)]; rfl
      have e0 : (List.replicate k.toNat xs).flatten = [] := by rw [show k.toNat = 0 by omega]; rfl
      refine wpAny_binaryOp_repeat_ref (T := "tuple") (U := "int") (by decide) ⟨_, ho, rfl⟩ (fun s' => typeIs_int s' k t) noFill_tuple_mul F.fills_int_mul F.slot_int_rmul repeat_tuple F.slot_int_index.lookup
        (call_meets F.slot_int_rmul (typeIs_int s k t) F.entry_int_rmul (F.args_int_rmul_2 _ _) (int_rmul_tuple k t l its.toArray n dd sl)
          ⟨ho, rfl, ⟨_, ho, rfl⟩, call_meets F.slot_tuple_mul ⟨_, ho, rfl⟩ F.entry_tuple_mul (F.args_tuple_mul_2 _ _) (tupmul_none l its.toArray n dd sl k t c0 c1 c2) ⟨ho, ?_⟩⟩)
      refine ⟨.ref s.heap.objs.size, _, I.laid (t' := s.toks) (o := .tup (List.replicate k.toNat xs).flatten) (fun b ob q => Heap.get?_push_of_some _ q) (Nat.le_refl _) ?_, rfl, q2 hx hk _ (I.hok.fresh (Nat.le_refl _))⟩
      rw [e0]
      exact ⟨Nat.zero_le _, [], .nil, IsTup.new _ _⟩
end Ev
set_option Elab.async false
set_option linter.all false
set_option maxRecDepth 100000
set_option maxHeartbeats 4000000
/-! EvOrd0: comparisons of tuples, whatever stands in them (printed by gen/ord.py). -/
namespace Ev
open PySem PySem.SeqAt L2
open PySem.AutoSeq1 (wpAny_loadPart')
open PySem.MeetsSeq PySem.MeetsSeq2 PySem.MeetsSeq3
/-- pairs gone through: equal ones are passed, the first unequal one tells, z at the end -/
inductive Lex (op : CmpOp) (A : Around) (s : Shared) (z : Bool) : List (Value × Value) → Bool → Prop
  | nil : Lex op A s z [] z
  | next {y x : Value} {rest : List (Value × Value)} {b : Bool} : EqAt A s y x true → Lex op A s z rest b → Lex op A s z ((y, x) :: rest) b
  | stop {y x : Value} {rest : List (Value × Value)} {b : Bool} : EqAt A s y x false → Ob.RcOp op A s y x b → Lex op A s z ((y, x) :: rest) b
theorem tuple_lt_lex (l b : Addr) (xs ys : Array Value) (n m : Nat) (dd de : Option Addr) (sl sm : Array (Option Value)) (k : Bool) :
    Meets (Builtin.«tuple.__lt__» ⟨[.ref l, .ref b], []⟩)
      (fun A R s => s.heap.get? l = some { cls := .type "tuple", dict := dd, data := .seq xs n, slots := sl } ∧ s.heap.get? b = some { cls := .type "tuple", dict := de, data := .seq ys m, slots := sm } ∧
        Lex .Lt A.in1 s (decide (xs.size < ys.size)) (xs.toList.zip ys.toList) k ∧ R (.ok (.ret (.bool k))) s) :=
  .of_wp fun prog w A R s h => by
    obtain ⟨hp, g, d, tk, os⟩ := s; obtain ⟨hl, hb, hx, h⟩ := h
    have f2 := AutoSeq1.sub_tuple_tuple
    wp_walk using wpAny_loadPart' hl, wpAny_loadPart' hb, wpAny_forIn_list _ (fun rest c s' => c.1 = none ∧ s' = ⟨hp, g, d, tk, os⟩ ∧ Lex .Lt A.in1 ⟨hp, g, d, tk, os⟩ (decide (xs.size < ys.size)) rest k) _
    case turn =>
      rintro ⟨y, x⟩ rest c s' ⟨hc, rfl, q⟩
      cases q with
      | next he q =>
        refine wpAny_bind (he prog w _ _ ?_)
        wp_walk
        exact ⟨rfl, rfl, q⟩
      | stop he hr =>
        refine wpAny_bind (he prog w _ _ ?_)
        have hri := hr prog w
        wp_walk using hri
        exact ⟨_, rfl, by simpa using h⟩
    case fin =>
      rintro ⟨c1, c2⟩ s' ⟨hc, rfl, q⟩
      simp only at hc
      subst hc
      cases q
      wp_walk
      exact ⟨_, rfl, by simpa [Builtin.Tuple.tupleCompareSizes] using h⟩
    case h => exact ⟨rfl, rfl, hx⟩
theorem rc_lt {A : Around} {s : Shared} {l b : Addr} {xs ys : Array Value} {k : Bool} (hl : s.heap.IsTuple l xs) (hb : s.heap.IsTuple b ys) (hu : A.units < cLine)
    (h : Lex .Lt A.in1 s (decide (xs.size < ys.size)) (xs.toList.zip ys.toList) k) : Ob.RcOp .Lt A s (.ref l) (.ref b) k := fun prog w E Q q => by
  obtain ⟨⟨c1, dd, d1, sl⟩, ho, hc, n, hd⟩ := id hl
  obtain ⟨⟨c2, de, d2, sm⟩, hp, hf, m, hg⟩ := id hb
  simp only at hc hd hf hg
  subst hc hd hf hg
  exact richCompare_meets_room (op := .Lt) ⟨_, ho, rfl⟩ ⟨_, hp, rfl⟩ F.slot_tuple_lt F.entry_tuple_lt (F.args_tuple_lt_2 _ _) (tuple_lt_lex l b xs ys n m dd de sl sm k)
    ⟨ho, hp, h, ⟨(fun x => nomatch x), q⟩⟩ hu
theorem tuple_le_lex (l b : Addr) (xs ys : Array Value) (n m : Nat) (dd de : Option Addr) (sl sm : Array (Option Value)) (k : Bool) :
    Meets (Builtin.«tuple.__le__» ⟨[.ref l, .ref b], []⟩)
      (fun A R s => s.heap.get? l = some { cls := .type "tuple", dict := dd, data := .seq xs n, slots := sl } ∧ s.heap.get? b = some { cls := .type "tuple", dict := de, data := .seq ys m, slots := sm } ∧
        Lex .LtE A.in1 s (decide (xs.size ≤ ys.size)) (xs.toList.zip ys.toList) k ∧ R (.ok (.ret (.bool k))) s) :=
  .of_wp fun prog w A R s h => by
    obtain ⟨hp, g, d, tk, os⟩ := s; obtain ⟨hl, hb, hx, h⟩ := h
    have f2 := AutoSeq1.sub_tuple_tuple
    wp_walk using wpAny_loadPart' hl, wpAny_loadPart' hb, wpAny_forIn_list _ (fun rest c s' => c.1 = none ∧ s' = ⟨hp, g, d, tk, os⟩ ∧ Lex .LtE A.in1 ⟨hp, g, d, tk, os⟩ (decide (xs.size ≤ ys.size)) rest k) _
    case turn =>
      rintro ⟨y, x⟩ rest c s' ⟨hc, rfl, q⟩
      cases q with
      | next he q =>
        refine wpAny_bind (he prog w _ _ ?_)
        wp_walk
        exact ⟨rfl, rfl, q⟩
      | stop he hr =>
        refine wpAny_bind (he prog w _ _ ?_)
        have hri := hr prog w
        wp_walk using hri
        exact ⟨_, rfl, by simpa using h⟩
    case fin =>
      rintro ⟨c1, c2⟩ s' ⟨hc, rfl, q⟩
      simp only at hc
      subst hc
      cases q
      wp_walk
      exact ⟨_, rfl, by simpa [Builtin.Tuple.tupleCompareSizes] using h⟩
    case h => exact ⟨rfl, rfl, hx⟩
theorem rc_le {A : Around} {s : Shared} {l b : Addr} {xs ys : Array Value} {k : Bool} (hl : s.heap.IsTuple l xs) (hb : s.heap.IsTuple b ys) (hu : A.units < cLine)
    (h : Lex .LtE A.in1 s (decide (xs.size ≤ ys.size)) (xs.toList.zip ys.toList) k) : Ob.RcOp .LtE A s (.ref l) (.ref b) k := fun prog w E Q q => by
  obtain ⟨⟨c1, dd, d1, sl⟩, ho, hc, n, hd⟩ := id hl
  obtain ⟨⟨c2, de, d2, sm⟩, hp, hf, m, hg⟩ := id hb
  simp only at hc hd hf hg
  subst hc hd hf hg
  exact richCompare_meets_room (op := .LtE) ⟨_, ho, rfl⟩ ⟨_, hp, rfl⟩ F.slot_tuple_le F.entry_tuple_le (F.args_tuple_le_2 _ _) (tuple_le_lex l b xs ys n m dd de sl sm k)
    ⟨ho, hp, h, ⟨(fun x => nomatch x), q⟩⟩ hu
theorem tuple_gt_lex (l b : Addr) (xs ys : Array Value) (n m : Nat) (dd de : Option Addr) (sl sm : Array (Option Value)) (k : Bool) :
    Meets (Builtin.«tuple.__gt__» ⟨[.ref l, .ref b], []⟩)
      (fun A R s => s.heap.get? l = some { cls := .type "tuple", dict := dd, data := .seq xs n, slots := sl } ∧ s.heap.get? b = some { cls := .type "tuple", dict := de, data := .seq ys m, slots := sm } ∧
        Lex .Gt A.in1 s (decide (xs.size > ys.size)) (xs.toList.zip ys.toList) k ∧ R (.ok (.ret (.bool k))) s) :=
  .of_wp fun prog w A R s h => by
    obtain ⟨hp, g, d, tk, os⟩ := s; obtain ⟨hl, hb, hx, h⟩ := h
    have f2 := AutoSeq1.sub_tuple_tuple
    wp_walk using wpAny_loadPart' hl, wpAny_loadPart' hb, wpAny_forIn_list _ (fun rest c s' => c.1 = none ∧ s' = ⟨hp, g, d, tk, os⟩ ∧ Lex .Gt A.in1 ⟨hp, g, d, tk, os⟩ (decide (xs.size > ys.size)) rest k) _
    case turn =>
      rintro ⟨y, x⟩ rest c s' ⟨hc, rfl, q⟩
      cases q with
      | next he q =>
        refine wpAny_bind (he prog w _ _ ?_)
        wp_walk
        exact ⟨rfl, rfl, q⟩
      | stop he hr =>
        refine wpAny_bind (he prog w _ _ ?_)
        have hri := hr prog w
        wp_walk using hri
        exact ⟨_, rfl, by simpa using h⟩
    case fin =>
      rintro ⟨c1, c2⟩ s' ⟨hc, rfl, q⟩
      simp only at hc
      subst hc
      cases q
      wp_walk
      exact ⟨_, rfl, by simpa [Builtin.Tuple.tupleCompareSizes] using h⟩
    case h => exact ⟨rfl, rfl, hx⟩
theorem rc_gt {A : Around} {s : Shared} {l b : Addr} {xs ys : Array Value} {k : Bool} (hl : s.heap.IsTuple l xs) (hb : s.heap.IsTuple b ys) (hu : A.units < cLine)
    (h : Lex .Gt A.in1 s (decide (xs.size > ys.size)) (xs.toList.zip ys.toList) k) : Ob.RcOp .Gt A s (.ref l) (.ref b) k := fun prog w E Q q => by
  obtain ⟨⟨c1, dd, d1, sl⟩, ho, hc, n, hd⟩ := id hl
  obtain ⟨⟨c2, de, d2, sm⟩, hp, hf, m, hg⟩ := id hb
  simp only at hc hd hf hg
  subst hc hd hf hg
  exact richCompare_meets_room (op := .Gt) ⟨_, ho, rfl⟩ ⟨_, hp, rfl⟩ F.slot_tuple_gt F.entry_tuple_gt (F.args_tuple_gt_2 _ _) (tuple_gt_lex l b xs ys n m dd de sl sm k)
    ⟨ho, hp, h, ⟨(fun x => nomatch x), q⟩⟩ hu
theorem tuple_ge_lex (l b : Addr) (xs ys : Array Value) (n m : Nat) (dd de : Option Addr) (sl sm : Array (Option Value)) (k : Bool) :
    Meets (Builtin.«tuple.__ge__» ⟨[.ref l, .ref b], []⟩)
      (fun A R s => s.heap.get? l = some { cls := .type "tuple", dict := dd, data := .seq xs n, slots := sl } ∧ s.heap.get? b = some { cls := .type "tuple", dict := de, data := .seq ys m, slots := sm } ∧
        Lex .GtE A.in1 s (decide (xs.size ≥ ys.size)) (xs.toList.zip ys.toList) k ∧ R (.ok (.ret (.bool k))) s) :=
  .of_wp fun prog w A R s h => by
    obtain ⟨hp, g, d, tk, os⟩ := s; obtain ⟨hl, hb, hx, h⟩ := h
    have f2 := AutoSeq1.sub_tuple_tuple
    wp_walk using wpAny_loadPart' hl, wpAny_loadPart' hb, wpAny_forIn_list _ (fun rest c s' => c.1 = none ∧ s' = ⟨hp, g, d, tk, os⟩ ∧ Lex .GtE A.in1 ⟨hp, g, d, tk, os⟩ (decide (xs.size ≥ ys.size)) rest k) _
    case turn =>
      rintro ⟨y, x⟩ rest c s' ⟨hc, rfl, q⟩
      cases q with
      | next he q =>
        refine wpAny_bind (he prog w _ _ ?_)
        wp_walk
        exact ⟨rfl, rfl, q⟩
      | stop he hr =>
        refine wpAny_bind (he prog w _ _ ?_)
        have hri := hr prog w
        wp_walk using hri
        exact ⟨_, rfl, by simpa using h⟩
    case fin =>
      rintro ⟨c1, c2⟩ s' ⟨hc, rfl, q⟩
      simp only at hc
      subst hc
      cases q
      wp_walk
      exact ⟨_, rfl, by simpa [Builtin.Tuple.tupleCompareSizes] using h⟩
    case h => exact ⟨rfl, rfl, hx⟩
theorem rc_ge {A : Around} {s : Shared} {l b : Addr} {xs ys : Array Value} {k : Bool} (hl : s.heap.IsTuple l xs) (hb : s.heap.IsTuple b ys) (hu : A.units < cLine)
    (h : Lex .GtE A.in1 s (decide (xs.size ≥ ys.size)) (xs.toList.zip ys.toList) k) : Ob.RcOp .GtE A s (.ref l) (.ref b) k := fun prog w E Q q => by
  obtain ⟨⟨c1, dd, d1, sl⟩, ho, hc, n, hd⟩ := id hl
  obtain ⟨⟨c2, de, d2, sm⟩, hp, hf, m, hg⟩ := id hb
  simp only at hc hd hf hg
  subst hc hd hf hg
  exact richCompare_meets_room (op := .GtE) ⟨_, ho, rfl⟩ ⟨_, hp, rfl⟩ F.slot_tuple_ge F.entry_tuple_ge (F.args_tuple_ge_2 _ _) (tuple_ge_lex l b xs ys n m dd de sl sm k)
    ⟨ho, hp, h, ⟨(fun x => nomatch x), q⟩⟩ hu
end Ev
set_option Elab.async false
set_option linter.all false
set_option maxRecDepth 100000
set_option maxHeartbeats 400000
/-! EvOrd: the order of data at any depth. -/
namespace Ev
open PySem PySem.SeqAt L2
/-! ### data as the library's data -/
section
variable {K : PySem.W.Frag} {β : List Addr} {H : Hp}
theorem okd_tup {n : Nat} {ds : List D} (h : okd n (.tup ds) = true) : ∃ m, n = m + 1 ∧ ∀ d ∈ ds, okd m d = true := by
  cases n with
  | zero => rw [okd] at h; cases h
  | succ m => exact ⟨m, rfl, fun d hd => List.all_eq_true.mp (by rw [okd] at h; exact h) d hd⟩
mutual
theorem Den.dp : ∀ {d : D} {v : V} {n : Nat}, Den K β H d v → okd n d = true → Dp K H v d.py
  | _, _, _, .non, _ => .non
  | _, _, _, .bl b, _ => .bl b
  | _, _, _, .int i, _ => .int i
  | _, _, _, .str x, _ => .str x
  | _, _, _, .tup h l, k => by
    obtain ⟨m, rfl, q⟩ := okd_tup k
    exact .tup h (DenL.dp l q)
  | _, _, n, .fz _ _, k => by cases n <;> (rw [okd] at k; cases k)
  | _, _, n, .ref _, k => by cases n <;> (rw [okd] at k; cases k)
theorem DenL.dp : ∀ {ds : List D} {vs : List V} {n : Nat}, DenL K β H ds vs → (∀ d ∈ ds, okd n d = true) → DpAll K H vs (D.pys ds)
  | _, _, _, .nil, _ => .nil
  | _, _, _, .cons h l, k => .cons (h.dp (k _ List.mem_cons_self)) (l.dp fun d hd => k d (List.mem_cons_of_mem _ hd))
end
mutual
theorem okd_py : ∀ (d : D) (n : Nat), okd n d = true → d.py.canLay0 = true ∧ d.py.depth ≤ n
  | .non, n, _ => by simp [D.py, PyData.canLay0, PyData.depth]
  | .bl b, n, _ => by simp [D.py, PyData.canLay0, PyData.depth]
  | .int i, n, _ => by simp [D.py, PyData.canLay0, PyData.depth]
  | .str x, n, k => by
    have k' : PyData.strOk x = true := by cases n <;> (rw [okd] at k; exact k)
    simp [D.py, PyData.canLay0, PyData.depth, k']
  | .tup ds, n, k => by
    obtain ⟨m, rfl, q⟩ := okd_tup k
    obtain ⟨h1, h2⟩ := okd_pys ds m q
    simp only [D.py, PyData.canLay0, PyData.depth]
    exact ⟨h1, by omega⟩
  | .fz _, n, k => by cases n <;> (rw [okd] at k; cases k)
  | .ref _, n, k => by cases n <;> (rw [okd] at k; cases k)
theorem okd_pys : ∀ (ds : List D) (n : Nat), (∀ d ∈ ds, okd n d = true) → PyData.canLayAll0 (D.pys ds) = true ∧ PyData.depthAll (D.pys ds) ≤ n
  | [], n, _ => by simp [D.pys, PyData.canLayAll0, PyData.depthAll]
  | d :: ds, n, k => by
    obtain ⟨h1, h2⟩ := okd_py d n (k _ List.mem_cons_self)
    obtain ⟨h3, h4⟩ := okd_pys ds n fun d hd => k d (List.mem_cons_of_mem _ hd)
    simp only [D.pys, PyData.canLayAll0, PyData.depthAll, h1, h3]
    exact ⟨rfl, by omega⟩
end
theorem intOrd_eq {i j : Int} : (intOrd i j = .eq) ↔ i = j := by
  unfold intOrd
  by_cases h : i < j
  · rw [if_pos h]; exact ⟨fun z => (by cases z), fun z => (by omega)⟩
  · rw [if_neg h]
    by_cases h2 : i = j
    · rw [if_pos h2]; exact ⟨fun _ => h2, fun _ => rfl⟩
    · rw [if_neg h2]; exact ⟨fun z => (by cases z), fun z => absurd z h2⟩
theorem strOrd_eq {x y : Str} : (strOrd x y = .eq) ↔ x = y := by
  unfold strOrd
  by_cases h : x.cps.toList < y.cps.toList
  · rw [if_pos h]
    refine ⟨fun z => (by cases z), fun z => ?_⟩
    subst z
    exact absurd h (List.lt_irrefl _)
  · rw [if_neg h]
    by_cases h2 : x = y
    · rw [if_pos h2]; exact ⟨fun _ => h2, fun _ => rfl⟩
    · rw [if_neg h2]; exact ⟨fun z => (by cases z), fun z => absurd z h2⟩
def isEq : Ordering → Bool
  | .eq => true
  | _ => false
theorem isEq_iff {o : Ordering} : isEq o = true ↔ o = .eq := by cases o <;> simp [isEq]
mutual
theorem cp_eqv : ∀ (d e : D), cpD d e = true → PyData.eqv d.py e.py = isEq (cmpD d e)
  | .int i, .int j, _ => by
    simp only [D.py, PyData.eqv, cmpD]
    by_cases h : i = j
    · rw [isEq_iff.mpr (intOrd_eq.mpr h)]; exact beq_iff_eq.mpr h
    · rw [show isEq (intOrd i j) = false from Bool.eq_false_iff.mpr fun z => h (intOrd_eq.mp (isEq_iff.mp z))]; exact beq_eq_false_iff_ne.mpr h
  | .str x, .str y, _ => by
    simp only [D.py, PyData.eqv, cmpD]
    by_cases h : x = y
    · rw [isEq_iff.mpr (strOrd_eq.mpr h)]; exact beq_iff_eq.mpr h
    · rw [show isEq (strOrd x y) = false from Bool.eq_false_iff.mpr fun z => h (strOrd_eq.mp (isEq_iff.mp z))]; exact beq_eq_false_iff_ne.mpr h
  | .tup xs, .tup ys, h => by
    simp only [D.py, PyData.eqv, cmpD]
    exact cp_eqvL xs ys (by rw [cpD] at h; exact h)
theorem cp_eqvL : ∀ (ds es : List D), cpL ds es = true → PyData.eqvAll (D.pys ds) (D.pys es) = isEq (cmpL ds es)
  | [], [], _ => by simp [D.pys, PyData.eqvAll, cmpL, isEq]
  | [], _ :: _, _ => by simp [D.pys, PyData.eqvAll, cmpL, isEq]
  | _ :: _, [], _ => by simp [D.pys, PyData.eqvAll, cmpL, isEq]
  | d :: ds, e :: es, h => by
    rw [cpL] at h
    obtain ⟨h1, h2⟩ := Bool.and_eq_true_iff.mp h
    have q := cp_eqv d e h1
    simp only [D.pys, PyData.eqvAll, cmpL, q]
    cases hc : cmpD d e with
    | eq =>
      rw [hc] at h2
      rw [isEq, Bool.true_and]
      exact cp_eqvL ds es h2
    | lt => rfl
    | gt => rfl
end
end
/-! ### comparisons of data -/
def cmOp : Cm → CmpOp
  | .lt => .Lt | .le => .LtE | .gt => .Gt | .ge => .GtE | _ => .Lt
def sizeB : Cm → Nat → Nat → Bool
  | .lt, n, m => decide (n < m)
  | .le, n, m => decide (n ≤ m)
  | .gt, n, m => decide (n > m)
  | .ge, n, m => decide (n ≥ m)
  | _, _, _ => false
def isOrd : Cm → Bool
  | .lt => true | .le => true | .gt => true | .ge => true | _ => false
theorem sizeB_succ (o : Cm) (n m : Nat) : sizeB o (n + 1) (m + 1) = sizeB o n m := by
  cases o <;> simp [sizeB]
section
variable {X : Cx} {pins : List (Addr × Obj)} {σ : L2.St} {H : Hp} {s : Shared} {β : List Addr}
theorem eq_den (I : Inv X pins σ H s) {A : Around} {d e : D} {v w : V} {u u' : Value} {n : Nat} (hd : Den X.K β H d v) (he : Den X.K β H e w) (kd : okd n d = true) (ke : okd n e = true) (ru : RelV v u) (ru' : RelV w u') (hu : A.units + n < cLine) :
    EqAt A s u u' (PyData.eqv d.py e.py) := by
  obtain ⟨as, r1⟩ := Dp.reads I d.py v u (hd.dp kd) ru
  obtain ⟨bs, r2⟩ := Dp.reads I e.py w u' (he.dp ke) ru'
  obtain ⟨h1, h2⟩ := okd_py d n kd
  obtain ⟨h3, h4⟩ := okd_py e n ke
  exact fun prog w E Q q => eqBoolOverData prog w A E s u u' d.py e.py as bs Q r1 r2 h1 h3 (by omega) q
theorem in1_units (A : Around) : A.in1.units = A.units + 1 := rfl
theorem ord_int {o : Cm} {i j : Int} {b : Bool} (h : ordB o (intOrd i j) = some b) {A : Around} {t t' : Tok} : Ob.RcOp (cmOp o) A s (.int i t) (.int j t') b := by
  unfold intOrd at h
  cases o with
  | lt =>
    have : b = decide (i < j) := by
      by_cases h1 : i < j
      · rw [if_pos h1] at h; cases h; exact (decide_eq_true h1).symm
      · rw [if_neg h1] at h; split at h <;> cases h <;> exact (decide_eq_false h1).symm
    subst this
    exact Ob.RcOp.lt_int i j t t'
  | le =>
    have : b = decide (i ≤ j) := by
      by_cases h1 : i < j
      · rw [if_pos h1] at h; cases h; exact (decide_eq_true (by omega)).symm
      · rw [if_neg h1] at h
        by_cases h2 : i = j
        · rw [if_pos h2] at h; cases h; exact (decide_eq_true (by omega)).symm
        · rw [if_neg h2] at h; cases h; exact (decide_eq_false (by omega)).symm
    subst this
    exact Ob.RcOp.le_int i j t t'
  | gt =>
    have : b = decide (j < i) := by
      by_cases h1 : i < j
      · rw [if_pos h1] at h; cases h; exact (decide_eq_false (by omega)).symm
      · rw [if_neg h1] at h
        by_cases h2 : i = j
        · rw [if_pos h2] at h; cases h; exact (decide_eq_false (by omega)).symm
        · rw [if_neg h2] at h; cases h; exact (decide_eq_true (by omega)).symm
    subst this
    exact Ob.RcOp.gt_int i j t t'
  | ge =>
    have : b = decide (j ≤ i) := by
      by_cases h1 : i < j
      · rw [if_pos h1] at h; cases h; exact (decide_eq_false (by omega)).symm
      · rw [if_neg h1] at h
        by_cases h2 : i = j
        · rw [if_pos h2] at h; cases h; exact (decide_eq_true (by omega)).symm
        · rw [if_neg h2] at h; cases h; exact (decide_eq_true (by omega)).symm
    subst this
    exact Ob.RcOp.ge_int i j t t'
  | _ => simp [ordB] at h
theorem str_gt {x y : Str} (h : ¬ x.cps.toList < y.cps.toList) (h2 : x ≠ y) : y.cps.toList < x.cps.toList :=
  Std.lt_of_le_of_ne (List.not_lt.mp h) fun e => h2 (by cases x; cases y; simpa using e.symm)
theorem ord_str {o : Cm} {x y : Str} {b : Bool} (h : ordB o (strOrd x y) = some b) {A : Around} {t t' : Tok} : Ob.RcOp (cmOp o) A s (.str x t) (.str y t') b := by
  intro prog w E Q q
  unfold strOrd at h
  cases o with
  | lt =>
    have : b = decide (x.cps.toList < y.cps.toList) := by
      by_cases h1 : x.cps.toList < y.cps.toList
      · rw [if_pos h1] at h; cases h; exact (decide_eq_true h1).symm
      · rw [if_neg h1] at h; split at h <;> cases h <;> exact (decide_eq_false h1).symm
    subst this
    exact PySem.P.lt_str q
  | le =>
    have : b = !decide (y.cps.toList < x.cps.toList) := by
      by_cases h1 : x.cps.toList < y.cps.toList
      · rw [if_pos h1] at h; cases h; rw [decide_eq_false fun z => absurd (Std.lt_trans h1 z) (List.lt_irrefl _)]; rfl
      · rw [if_neg h1] at h
        by_cases h2 : x = y
        · rw [if_pos h2] at h; cases h; subst h2; rw [decide_eq_false (List.lt_irrefl _)]; rfl
        · rw [if_neg h2] at h; cases h; rw [decide_eq_true (str_gt h1 h2)]; rfl
    subst this
    exact PySem.P.le_str q
  | gt =>
    have : b = decide (y.cps.toList < x.cps.toList) := by
      by_cases h1 : x.cps.toList < y.cps.toList
      · rw [if_pos h1] at h; cases h; rw [decide_eq_false fun z => absurd (Std.lt_trans h1 z) (List.lt_irrefl _)]
      · rw [if_neg h1] at h
        by_cases h2 : x = y
        · rw [if_pos h2] at h; cases h; subst h2; rw [decide_eq_false (List.lt_irrefl _)]
        · rw [if_neg h2] at h; cases h; rw [decide_eq_true (str_gt h1 h2)]
    subst this
    exact PySem.P.gt_str q
  | ge =>
    have : b = !decide (x.cps.toList < y.cps.toList) := by
      by_cases h1 : x.cps.toList < y.cps.toList
      · rw [if_pos h1] at h; cases h; rw [decide_eq_true h1]; rfl
      · rw [if_neg h1] at h
        rw [decide_eq_false h1]
        split at h <;> cases h <;> rfl
    subst this
    exact PySem.P.ge_str q
  | _ => simp [ordB] at h
theorem ord_size {o : Cm} (ho : isOrd o = true) : ∀ {n m : Nat} {r : Ordering}, ((n = 0 ∧ m = 0 ∧ r = .eq) ∨ (n = 0 ∧ 0 < m ∧ r = .lt) ∨ (0 < n ∧ m = 0 ∧ r = .gt)) → ordB o r = some (sizeB o n m) := by
  intro n m r h
  rcases h with ⟨rfl, rfl, rfl⟩ | ⟨rfl, h, rfl⟩ | ⟨h, rfl, rfl⟩ <;> cases o <;> simp [ordB, sizeB, isOrd] at * <;> omega
theorem lex_lt {o : Cm} (ho : isOrd o = true) {A : Around} {n : Nat} {b : Bool} (h : ordB o .lt = some b) : Lex (cmOp o) A s (sizeB o 0 (n + 1)) [] b := by
  rw [ord_size ho (n := 0) (m := n + 1) (r := .lt) (.inr (.inl ⟨rfl, Nat.succ_pos _, rfl⟩))] at h
  cases h
  exact .nil
theorem lex_gt {o : Cm} (ho : isOrd o = true) {A : Around} {n : Nat} {b : Bool} (h : ordB o .gt = some b) : Lex (cmOp o) A s (sizeB o (n + 1) 0) [] b := by
  rw [ord_size ho (n := n + 1) (m := 0) (r := .gt) (.inr (.inr ⟨Nat.succ_pos _, rfl, rfl⟩))] at h
  cases h
  exact .nil
theorem zip_nil_r {α β : Type} (l : List α) : l.zip ([] : List β) = [] := by cases l <;> rfl
theorem rc_denL (I : Inv X pins σ H s) {o : Cm} (ho : isOrd o = true) {n : Nat} {A : Around} (hu : A.units + n < cLine)
    (ih : ∀ (d e : D) (v w : V) (u u' : Value) (b : Bool), Den X.K β H d v → Den X.K β H e w → okd n d = true → okd n e = true → cpD d e = true → RelV v u → RelV w u' → ordB o (cmpD d e) = some b → Ob.RcOp (cmOp o) A s u u' b) :
    ∀ (ds es : List D) (vs ws : List V) (us us' : List Value) (b : Bool), DenL X.K β H ds vs → DenL X.K β H es ws → (∀ d ∈ ds, okd n d = true) → (∀ e ∈ es, okd n e = true) → cpL ds es = true → Vals vs us → Vals ws us' →
    ordB o (cmpL ds es) = some b → Lex (cmOp o) A s (sizeB o us.length us'.length) (us.zip us') b := by
  intro ds
  induction ds with
  | nil =>
    intro es vs ws us us' b lv lw _ _ _ rv rw' h
    cases lv
    cases rv
    cases lw with
    | nil =>
      cases rw'
      rw [cmpL, ord_size ho (n := 0) (m := 0) (r := .eq) (.inl ⟨rfl, rfl, rfl⟩)] at h
      cases h
      exact .nil
    | cons _ lw =>
      cases rw' with
      | cons _ r =>
        rw [cmpL] at h
        exact lex_lt ho h
  | cons d ds ihl =>
    intro es vs ws us us' b lv lw kd ke hc rv rw' h
    cases lv with
    | cons hd ld =>
      cases rv with
      | cons rd lrd =>
        cases lw with
        | nil =>
          cases rw'
          rw [cmpL] at h
          exact lex_gt ho h
        | cons he le =>
          rename_i e w es ws'
          cases rw' with
          | cons re lre =>
            rw [cpL] at hc
            obtain ⟨h1, h2⟩ := Bool.and_eq_true_iff.mp hc
            have q := eq_den I hd he (kd _ List.mem_cons_self) (ke _ List.mem_cons_self) rd re hu
            rw [cp_eqv d e h1] at q
            rw [List.zip_cons_cons, List.length_cons, List.length_cons, sizeB_succ]
            rw [cmpL] at h
            cases hx : cmpD d e with
            | eq =>
              rw [hx] at h h2 q
              exact .next q (ihl es _ _ _ _ b ld le (fun x hx => kd x (List.mem_cons_of_mem _ hx)) (fun x hx => ke x (List.mem_cons_of_mem _ hx)) h2 lrd lre h)
            | lt =>
              rw [hx] at h q
              exact .stop q (ih d e _ _ _ _ b hd he (kd _ List.mem_cons_self) (ke _ List.mem_cons_self) h1 rd re (by rw [hx]; exact h))
            | gt =>
              rw [hx] at h q
              exact .stop q (ih d e _ _ _ _ b hd he (kd _ List.mem_cons_self) (ke _ List.mem_cons_self) h1 rd re (by rw [hx]; exact h))
/-- comparing data is comparing what stands for them -/
theorem rc_den (I : Inv X pins σ H s) {o : Cm} (ho : isOrd o = true) : ∀ (n : Nat) (A : Around), A.units + n < cLine → ∀ (d e : D) (v w : V) (u u' : Value) (b : Bool), Den X.K β H d v → Den X.K β H e w → okd n d = true → okd n e = true → cpD d e = true → RelV v u → RelV w u' →
    ordB o (cmpD d e) = some b → Ob.RcOp (cmOp o) A s u u' b := by
  intro n
  induction n with
  | zero =>
    intro A hu d e v w u u' b hd he kd ke hc ru ru' h
    cases hd with
    | int i =>
      cases he with
      | int j =>
        obtain ⟨t, rfl⟩ := ru
        obtain ⟨t', rfl⟩ := ru'
        exact ord_int (by rw [cmpD] at h; exact h)
      | _ => simp [cpD] at hc
    | str x =>
      cases he with
      | str y =>
        obtain ⟨t, rfl⟩ := ru
        obtain ⟨t', rfl⟩ := ru'
        exact ord_str (by rw [cmpD] at h; exact h)
      | _ => simp [cpD] at hc
    | tup _ _ => simp [okd] at kd
    | _ => simp [cpD] at hc
  | succ n ih =>
    intro A hu d e v w u u' b hd he kd ke hc ru ru' h
    cases hd with
    | int i =>
      cases he with
      | int j =>
        obtain ⟨t, rfl⟩ := ru
        obtain ⟨t', rfl⟩ := ru'
        exact ord_int (by rw [cmpD] at h; exact h)
      | _ => simp [cpD] at hc
    | str x =>
      cases he with
      | str y =>
        obtain ⟨t, rfl⟩ := ru
        obtain ⟨t', rfl⟩ := ru'
        exact ord_str (by rw [cmpD] at h; exact h)
      | _ => simp [cpD] at hc
    | tup hv lv =>
      rename_i a vs ds
      cases he with
      | tup hw lw =>
        rename_i a' ws es
        cases ru
        cases ru'
        obtain ⟨m, e1, qd⟩ := okd_tup kd
        cases e1
        obtain ⟨m', e1, qe⟩ := okd_tup ke
        cases e1
        obtain ⟨its, r1, t1, _⟩ := I.tuple hv
        obtain ⟨its2, r2, t2, _⟩ := I.tuple hw
        have L := rc_denL I ho (A := A.in1) (n := n) (by rw [in1_units]; omega) (ih A.in1 (by rw [in1_units]; omega)) ds es vs ws its its2 b lv lw qd qe (by rw [cpD] at hc; exact hc) r1 r2 (by rw [cmpD] at h; exact h)
        have hu' : A.units < cLine := by omega
        cases o with
        | lt => exact rc_lt t1 t2 hu' L
        | le => exact rc_le t1 t2 hu' L
        | gt => exact rc_gt t1 t2 hu' L
        | ge => exact rc_ge t1 t2 hu' L
        | _ => cases ho
      | _ => simp [cpD] at hc
    | _ => simp [cpD] at hc
end
end Ev
set_option Elab.async false
set_option linter.all false
set_option maxRecDepth 100000
set_option maxHeartbeats 1000000
/-! EvVal: operators and comparisons, by values. -/
namespace Ev
open PySem PySem.Spec PyProof.Rows L2
section
variable {K : PySem.W.Frag} {β : List Addr} {mh : MH} {H0 H : Hp} {v : V}
theorem DenR.int {i : Int} (h : DenR K H0 β H (.v (.int i)) v) : v = .int i := by
  have h' : Den K β H (.int i) v := h
  cases h'; rfl
theorem DenR.str {x : Str} (h : DenR K H0 β H (.v (.str x)) v) : v = .str x := by
  have h' : Den K β H (.str x) v := h
  cases h'; rfl
theorem DenR.bl {b : Bool} (h : DenR K H0 β H (.v (.bl b)) v) : v = .bl b := by
  have h' : Den K β H (.bl b) v := h
  cases h'; rfl
theorem DenR.non (h : DenR K H0 β H (.v .non) v) : v = .non := by
  have h' : Den K β H .non v := h
  cases h'; rfl
theorem DenR.tup {ds : List D} (h : DenR K H0 β H (.v (.tup ds)) v) : ∃ a vs, v = .ref a ∧ SqT K H a vs ∧ DenL K β H ds vs := by
  have h' : Den K β H (.tup ds) v := h
  cases h' with
  | tup t l => exact ⟨_, _, rfl, t, l⟩
theorem DenR.fz {ds : List D} (h : DenR K H0 β H (.v (.fz ds)) v) : ∃ a vs, v = .ref a ∧ FzL K H a vs ∧ DenL K β H ds vs := by
  have h' : Den K β H (.fz ds) v := h
  cases h' with
  | fz t l => exact ⟨_, _, rfl, t, l⟩
theorem DenR.ref (hr : HRel K β mh H) {n : Nat} {ds : List D} (e : lstOf mh n = some ds) (h : DenR K H0 β H (.v (.ref n)) v) : ∃ a vs, v = .ref a ∧ β[n]? = some a ∧ mh[n]? = some (.lst ds) ∧ H a = some (.lst vs) ∧ DenL K β H ds vs := by
  have h' : Den K β H (.ref n) v := h
  cases h' with
  | ref eb =>
    unfold lstOf at e
    split at e
    · rename_i xs em
      cases e
      obtain ⟨vs, ea, l⟩ := hr.at_ _ _ _ em eb
      exact ⟨_, vs, rfl, eb, em, ea, l⟩
    · cases e
theorem own_den (hr : HRel K β mh H) {x : R} {xs : List D} (e : ownOf mh x = some xs) (h : DenR K H0 β H x v) : ∃ a vs, v = .ref a ∧ H a = some (.lst vs) ∧ DenL K β H xs vs := by
  cases x with
  | l ds =>
    cases e
    obtain ⟨a, vs, h1, _, _, h2, h3⟩ := h
    exact ⟨a, vs, h1, h2, h3⟩
  | v d =>
    cases d with
    | ref n =>
      obtain ⟨a, vs, h1, _, _, h2, h3⟩ := DenR.ref hr (show lstOf mh n = some xs from e) h
      exact ⟨a, vs, h1, h2, h3⟩
    | _ => cases e
theorem seq_den (hr : HRel K β mh H) {x : R} {xs : List D} (e : seqOf mh x = some xs) (h : DenR K H0 β H x v) : ∃ a vs, v = .ref a ∧ (SqL K H a vs ∨ SqT K H a vs) ∧ DenL K β H xs vs := by
  cases x with
  | l ds =>
    cases e
    obtain ⟨a, vs, h1, _, _, h2, h3⟩ := h
    exact ⟨a, vs, h1, .inl (SqL.of h2), h3⟩
  | v d =>
    cases d with
    | ref n =>
      obtain ⟨a, vs, h1, _, _, h2, h3⟩ := DenR.ref hr (show lstOf mh n = some xs from e) h
      exact ⟨a, vs, h1, .inl (SqL.of h2), h3⟩
    | tup ds =>
      cases e
      obtain ⟨a, vs, h1, h2, h3⟩ := h.tup
      exact ⟨a, vs, h1, .inr h2, h3⟩
    | fz ds =>
      cases e
      obtain ⟨a, vs, h1, h2, h3⟩ := h.fz
      exact ⟨a, vs, h1, .inl h2.1, h3⟩
    | _ => cases e
theorem all_okd {n : Nat} {ds : List D} (h : ds.all (okd n) = true) : ∀ d ∈ ds, okd n d = true := List.all_eq_true.mp h
theorem shaped_okd {d : D} (h : okd deep d = true) : SeqAt.shaped d.py = true := by
  obtain ⟨h1, h2⟩ := okd_py d deep h
  exact Bool.and_eq_true_iff.mpr ⟨h1, decide_eq_true (Nat.le_trans h2 (by decide))⟩
theorem shaped_okds {ds : List D} (h : ds.all (okd deep) = true) : SeqAt.shaped (.list (D.pys ds)) = true := by
  obtain ⟨h1, h2⟩ := okd_pys ds deep (all_okd h)
  refine Bool.and_eq_true_iff.mpr ⟨by simpa [PyData.canLay0] using h1, decide_eq_true ?_⟩
  simp only [PyData.depth]
  have : deep = 60 := rfl
  omega
theorem shaped_okdt {ds : List D} (h : ds.all (okd deep) = true) : SeqAt.shaped (.tuple (D.pys ds)) = true := by
  obtain ⟨h1, h2⟩ := okd_pys ds deep (all_okd h)
  refine Bool.and_eq_true_iff.mpr ⟨by simpa [PyData.canLay0] using h1, decide_eq_true ?_⟩
  simp only [PyData.depth]
  have : deep = 60 := rfl
  omega
theorem pyR_den (hr : HRel K β mh H) {x : R} {p : PyData} (e : pyR mh x = some p) (h : DenR K H0 β H x v) : Dp K H v p ∧ SeqAt.shaped p = true := by
  have plain : ∀ {d : D}, (if okd deep d = true then some d.py else none) = some p → Den K β H d v → Dp K H v p ∧ SeqAt.shaped p = true := fun {d} e h => by
    by_cases k : okd deep d = true
    · rw [if_pos k] at e; cases e; exact ⟨h.dp k, shaped_okd k⟩
    · rw [if_neg k] at e; cases e
  cases x with
  | l ds =>
    rw [pyR] at e
    by_cases k : ds.all (okd deep) = true
    · rw [if_pos k] at e
      cases e
      obtain ⟨a, vs, rfl, _, _, h2, h3⟩ := h
      exact ⟨.lst (SqL.of h2) (h3.dp (all_okd k)), shaped_okds k⟩
    · rw [if_neg k] at e; cases e
  | v d =>
    cases d with
    | ref n =>
      rw [pyR] at e
      cases q : lstOf mh n with
      | none => rw [q] at e; cases e
      | some ds =>
        rw [q] at e
        by_cases k : ds.all (okd deep) = true
        · simp only [k, if_true] at e
          cases e
          obtain ⟨a, vs, rfl, _, _, h2, h3⟩ := DenR.ref hr q h
          exact ⟨.lst (SqL.of h2) (h3.dp (all_okd k)), shaped_okds k⟩
        · simp only [k] at e; cases e
    | fz ds =>
      rw [pyR] at e
      by_cases k : ds.all (okd deep) = true
      · rw [if_pos k] at e
        cases e
        obtain ⟨a, vs, rfl, h2, h3⟩ := h.fz
        exact ⟨.lst h2.1 (h3.dp (all_okd k)), shaped_okds k⟩
      · rw [if_neg k] at e; cases e
    | non => exact plain (d := .non) e h
    | bl b => exact plain (d := .bl b) e h
    | int i => exact plain (d := .int i) e h
    | str x => exact plain (d := .str x) e h
    | tup ds => exact plain (d := .tup ds) e h
/-- the result, where nothing is laid -/
theorem Po.same (hr : HRel K β mh H) : Po K β H β H mh := Po.refl hr
end
/-! ### operators -/
section
variable {K : PySem.W.Frag}
def rAdds : R2 := fun x y H Q => ∃ i j, x = .str i ∧ y = .str j ∧ i.length + j.length ≤ sizeLine ∧ Q (.str (i ++ j)) H
def rAddAll (K : PySem.W.Frag) : R2 := fun x y H Q => rI0 (fun i j => .int (i + j)) x y H Q ∨ (rAdds x y H Q ∨ (rCatA K x y H Q ∨ rCat x y H Q))
theorem op_addAll {X : Cx} : OpR X (binaryOp .Add) (rAddAll X.K) := op_add.or (OpR.or op_add_str (op_catA.or op_cat))
theorem ov_add : OpVal K (fun mh => opR mh .add) (rAddAll K) := by
  intro H0 β mh H x y z v u Q hr dx dy e q
  dsimp only at e
  unfold opR at e
  split at e <;> first | contradiction | skip
  · rename_i i j _
    cases e
    exact .inl ⟨i, j, dx.int, dy.int, q _ _ (Po.refl hr) (Den.int _)⟩
  · rename_i i j _
    split at e
    · rename_i hz
      cases e
      exact .inr (.inl ⟨i, j, dx.str, dy.str, many_line hz, q _ _ (Po.refl hr) (Den.str _)⟩)
    · cases e
  · rename_i xs ys _
    split at e
    · rename_i hz
      cases e
      obtain ⟨a, vs, rfl, t1, l1⟩ := dx.tup
      obtain ⟨b, ws, rfl, t2, l2⟩ := dy.tup
      refine .inr (.inr (.inl ⟨a, b, vs, ws, rfl, rfl, t1, t2, by rw [← l1.len, ← l2.len]; exact many_line hz, fun e => ?_, fun _ e => ?_, fun _ _ p hp => ?_⟩))
      · subst e
        cases l1
        exact q _ _ (Po.refl hr) (Den.tup t2 l2)
      · subst e
        cases l2
        exact q _ _ (Po.refl hr) (by rw [List.append_nil]; exact Den.tup t1 l1)
      · exact q _ _ (Po.laid hr hp) (den_new hr hp (l1.app l2))
    · cases e
  · unfold catR at e
    split at e
    · rename_i xs ys e1 e2
      split at e
      · rename_i hz
        cases e
        obtain ⟨a, vs, rfl, t1, l1⟩ := own_den hr e1 dx
        obtain ⟨b, ws, rfl, t2, l2⟩ := own_den hr e2 dy
        exact .inr (.inr (.inr ⟨a, b, vs, ws, rfl, rfl, t1, t2, by rw [← l1.len, ← l2.len]; exact many_line hz, fun p hp => q _ _ (Po.laid hr hp) (den_newl hr hp (l1.app l2))⟩))
      · cases e
    · cases e
theorem ov_sub : OpVal K (fun mh => opR mh .sub) (rI0 fun i j => .int (i - j)) := by
  intro H0 β mh H x y z v u Q hr dx dy e q
  dsimp only at e
  unfold opR at e
  split at e <;> first | contradiction | skip
  rename_i i j _
  cases e
  exact ⟨i, j, dx.int, dy.int, q _ _ (Po.refl hr) (Den.int _)⟩
def rMulAll (K : PySem.W.Frag) : R2 := fun x y H Q => (rI CMulW (fun i j => .int (i * j)) x y H Q ∨ rI CMul (fun i j => .int (i * j)) x y H Q) ∨ rRepAll K x y H Q
theorem op_mulAll {X : Cx} : OpR X (binaryOp .Mult) (rMulAll X.K) := OpR.or (op_mulW.or op_mul) op_repAll
theorem small_of {i : Int} (h : Nat.blt i.natAbs 18446744073709551616 = true) : -(2 ^ 64) < i ∧ i < 2 ^ 64 := by
  have : i.natAbs + 1 ≤ 18446744073709551616 := Nat.ble_eq.mp h
  omega
theorem ov_mul : OpVal K (fun mh => opR mh .mul) (rMulAll K) := by
  intro H0 β mh H x y z v u Q hr dx dy e q
  dsimp only at e
  unfold opR at e
  split at e <;> first | contradiction | skip
  · rename_i i j _
    split at e
    · rename_i hz
      cases e
      rw [Bool.or_eq_true_iff, Bool.or_eq_true_iff] at hz
      rcases hz with (hz | hz) | hz
      · exact .inl (.inr ⟨i, j, dx.int, dy.int, .inl (small_of hz), q _ _ (Po.refl hr) (Den.int _)⟩)
      · exact .inl (.inr ⟨i, j, dx.int, dy.int, .inr (small_of hz), q _ _ (Po.refl hr) (Den.int _)⟩)
      · exact .inl (.inl ⟨i, j, dx.int, dy.int, by have : i.natAbs.log2 + j.natAbs.log2 + 1 ≤ 1000000 := Nat.ble_eq.mp hz; show i.natAbs.log2 + j.natAbs.log2 < 1000000; omega, q _ _ (Po.refl hr) (Den.int _)⟩)
    · cases e
  · rename_i xs k _
    unfold repT at e
    split at e
    · rename_i hz
      cases e
      obtain ⟨a, vs, rfl, t1, l1⟩ := dx.tup
      refine .inr ⟨a, k, vs, rfl, dy.int, t1, by omega, hz.2.1, by rw [← l1.len]; exact hz.2.2, fun e => ?_, fun _ _ p hp => q _ _ (Po.laid hr hp) (den_new hr hp (l1.rep _))⟩
      refine q _ _ (Po.refl hr) ?_
      rcases e with e | e
      · subst e
        cases l1
        have z : (List.replicate k.toNat ([] : List D)).flatten = [] := by simp
        rw [z]
        exact Den.tup t1 .nil
      · subst e
        have z : (List.replicate (1 : Int).toNat xs).flatten = xs := by simp
        rw [z]
        exact Den.tup t1 l1
    · cases e
theorem ov_fdiv : OpVal K (fun mh => opR mh .fdiv) (rI CDivW fun i j => .int (i / j)) := by
  intro H0 β mh H x y z v u Q hr dx dy e q
  dsimp only at e
  unfold opR at e
  split at e <;> first | contradiction | skip
  rename_i i j _
  split at e
  · rename_i hz
    cases e
    exact ⟨i, j, dx.int, dy.int, hz, q _ _ (Po.refl hr) (Den.int _)⟩
  · cases e
theorem ov_mod : OpVal K (fun mh => opR mh .mod) (rI (fun _ j => 0 < j) fun i j => .int (i % j)) := by
  intro H0 β mh H x y z v u Q hr dx dy e q
  dsimp only at e
  unfold opR at e
  split at e <;> first | contradiction | skip
  rename_i i j _
  split at e
  · rename_i hz
    cases e
    exact ⟨i, j, dx.int, dy.int, hz, q _ _ (Po.refl hr) (Den.int _)⟩
  · cases e
theorem ov_pow : OpVal K (fun mh => opR mh .pow) (rI CPow fun i j => .int (i ^ j.toNat)) := by
  intro H0 β mh H x y z v u Q hr dx dy e q
  dsimp only at e
  unfold opR at e
  split at e <;> first | contradiction | skip
  rename_i i j _
  split at e
  · rename_i hz
    cases e
    exact ⟨i, j, dx.int, dy.int, ⟨hz.1, by omega, hz.2.2⟩, q _ _ (Po.refl hr) (Den.int _)⟩
  · cases e
end
/-! ### comparisons -/
section
variable {K : PySem.W.Frag}
/-- a comparison: nothing is laid -/
def CmVal (K : PySem.W.Frag) (g : MH → R → R → Option Bool) (r : R2) : Prop :=
  ∀ (H0 : Hp) (β : List Addr) (mh : MH) (H : Hp) (x y : R) (b : Bool) (v u : V) (Q : VK), HRel K β mh H → DenR K H0 β H x v → DenR K H0 β H y u → g mh x y = some b → Q (.bl b) H → r v u H Q
theorem CmVal.op {g : MH → R → R → Option Bool} {r : R2} (h : CmVal K g r) : OpVal K (fun mh x y => (g mh x y).map fun b => .v (.bl b)) r := by
  intro H0 β mh H x y z v u Q hr dx dy e q
  dsimp only at e
  cases e1 : g mh x y with
  | none => rw [e1] at e; cases e
  | some b =>
    rw [e1] at e
    cases e
    exact h H0 β mh H x y b v u Q hr dx dy e1 (q _ _ (Po.refl hr) (Den.bl b))
theorem cv_eq : CmVal K eqR (rEqD K) := by
  intro H0 β mh H x y b v u Q hr dx dy e q
  unfold eqR at e
  split at e
  · rename_i p p' e1 e2
    cases e
    obtain ⟨h1, h2⟩ := pyR_den hr e1 dx
    obtain ⟨h3, h4⟩ := pyR_den hr e2 dy
    exact ⟨p, p', h1, h3, h2, h4, q⟩
  · cases e
theorem cv_ne : CmVal K (fun mh x y => (eqR mh x y).map (!·)) (rNeD K) := by
  intro H0 β mh H x y b v u Q hr dx dy e q
  dsimp only at e
  unfold eqR at e
  split at e
  · rename_i p p' e1 e2
    cases e
    obtain ⟨h1, h2⟩ := pyR_den hr e1 dx
    obtain ⟨h3, h4⟩ := pyR_den hr e2 dy
    exact ⟨p, p', h1, h3, h2, h4, q⟩
  · cases e
def rIsAll : R2 := fun x y H Q => (y = .non ∧ Q (.bl (decide (x = .non))) H) ∨ rIsB x y H Q
def rIsNotAll : R2 := fun x y H Q => (y = .non ∧ Q (.bl (!decide (x = .non))) H) ∨ rNotB x y H Q
theorem op_isAll {X : Cx} : OpR X (compareOp .Is) rIsAll := op_isN.or op_isBl
theorem op_isNotAll {X : Cx} : OpR X (compareOp .IsNot) rIsNotAll := op_notN.or op_notBl
theorem isNon_den {β : List Addr} {H0 H : Hp} {x : R} {v : V} (h : DenR K H0 β H x v) : isNon x = decide (v = .non) := by
  cases x with
  | l ds =>
    obtain ⟨a, vs, rfl, _⟩ := h
    rfl
  | v d =>
    have h' : Den K β H d v := h
    cases h' <;> rfl
theorem beq_dec (a b : Bool) : (a == b) = decide (a = b) := by cases a <;> cases b <;> rfl
theorem cv_is : CmVal K (fun _ => isR) rIsAll := by
  intro H0 β mh H x y b v u Q hr dx dy e q
  dsimp only at e
  unfold isR at e
  split at e
  · cases e
    exact .inl ⟨dy.non, by rw [← isNon_den dx]; exact q⟩
  · rename_i i j
    cases e
    exact .inr ⟨i, j, dx.bl, dy.bl, by rw [← beq_dec]; exact q⟩
  · cases e
theorem cv_isnot : CmVal K (fun _ x y => (isR x y).map (!·)) rIsNotAll := by
  intro H0 β mh H x y b v u Q hr dx dy e q
  dsimp only at e
  unfold isR at e
  split at e
  · cases e
    exact .inl ⟨dy.non, by rw [← isNon_den dx]; exact q⟩
  · rename_i i j
    cases e
    exact .inr ⟨i, j, dx.bl, dy.bl, by rw [← beq_dec]; exact q⟩
  · cases e
/-- the order of data -/
def rOrd (K : PySem.W.Frag) (o : Cm) : R2 := fun x y H Q => ∃ β d e b, Den K β H d x ∧ Den K β H e y ∧ okd deep d = true ∧ okd deep e = true ∧ cpD d e = true ∧ ordB o (cmpD d e) = some b ∧ Q (.bl b) H
theorem op_ordAll {X : Cx} {o : Cm} (ho : isOrd o = true) (hu : X.A.units + 64 < cLine) : OpR X (compareOp (cmOp o)) (rOrd X.K o) := by
  intro pins s σ H x y v u Q I rx ry h
  obtain ⟨β, d, e, b, hd, he, kd, ke, hc, hb, q⟩ := h
  have r := rc_den I ho deep X.A (by have : deep = 60 := rfl; omega) d e x y v u b hd he kd ke hc rx ry hb
  have z := r X.prog X.w X.xe (EP X pins σ Q) ⟨.bl b, H, I, rfl, q⟩
  cases o with
  | lt => exact z
  | le => exact z
  | gt => exact z
  | ge => exact z
  | _ => cases ho
theorem cv_ord {o : Cm} : CmVal K (fun _ => ordR o) (rOrd K o) := by
  intro H0 β mh H x y b v u Q hr dx dy e q
  dsimp only at e
  unfold ordR at e
  split at e
  · rename_i d d'
    split at e
    · rename_i k
      obtain ⟨k1, k2⟩ := Bool.and_eq_true_iff.mp k
      obtain ⟨k3, k4⟩ := Bool.and_eq_true_iff.mp k2
      exact ⟨β, d, d', b, dx, dy, k1, k3, k4, e, q⟩
    · cases e
  · cases e
end
end Ev
set_option Elab.async false
set_option linter.all false
set_option maxRecDepth 100000
set_option maxHeartbeats 1000000
/-! EvRev: a tuple turned round, t[::-1]. -/
namespace Ev
open PySem PySem.Spec PyProof.Rows L2
section
variable {prog : Program} {w : World} {A : Around} {E : Value → Shared → Prop} {s : Shared}
theorem rev_adjust (n : Nat) : Builtin.Slice.sliceAdjust none none (-1) (n : Int) = ((n : Int) - 1, -1) := rfl
theorem rev_places (n : Nat) : Builtin.Slice.slicePlaces ((n : Int) - 1) (-1) (-1) = n := by
  unfold Builtin.Slice.slicePlaces
  rw [if_neg (by decide)]
  by_cases h : (n : Int) - 1 > -1
  · rw [if_pos h, show (- -1 : Int) = 1 by decide, Int.ediv_one]
    omega
  · rw [if_neg h]
    omega
theorem rev_applied {sl : Addr} {vl vu vs : Value} {n : Nat} {Q : Int × Int × Nat → Shared → Prop} (hs : s.heap.IsSliceOf sl vl vu vs) (pl : IsPart vl none) (pu : IsPart vu none) (ps : IsPart vs (some (-1)))
    (h : Q ((n : Int) - 1, -1, n) s) : wpAny (model prog w) A (Builtin.Slice.sliceApplied (.ref sl) (pure (n : Int))) Q E s := by
  obtain ⟨os, hos, hcs, hds⟩ := id hs
  unfold Builtin.Slice.sliceApplied Builtin.Slice.sliceFields
  refine wpAny_bind (wpAny_bind (wpAny_field hos hds (x := vl) rfl (wpAny_bind (wpAny_field hos hds (x := vu) rfl (wpAny_bind (wpAny_field hos hds (x := vs) rfl (wpAny_pure ?_)))))))
  refine wpAny_bind (HT.slicePart_ ps ?_)
  show wpAny _ _ (if ((-1 : Int) == 0) = true then _ else _) _ _ s
  rw [if_neg (by decide)]
  refine wpAny_bind (HT.slicePart_ pl (wpAny_bind (HT.slicePart_ pu (wpAny_bind (wpAny_pure ?_)))))
  show wpAny _ _ (match Builtin.Slice.sliceAdjust none none (-1) (n : Int) with | (lo, hi) => pure (lo, (-1 : Int), Builtin.Slice.slicePlaces lo hi (-1))) _ _ s
  rw [rev_adjust n]
  show wpAny _ _ (pure ((n : Int) - 1, (-1 : Int), Builtin.Slice.slicePlaces ((n : Int) - 1) (-1) (-1))) _ _ s
  rw [rev_places]
  exact wpAny_pure h
theorem rev_pick (xs : Array Value) : ((List.range xs.size).filterMap fun (k : Nat) => xs[(((xs.size : Int) - 1) + (k : Int) * -1).toNat]?).toArray = xs.toList.reverse.toArray := by
  have e : (List.range xs.size).filterMap (fun (k : Nat) => xs[(((xs.size : Int) - 1) + (k : Int) * -1).toNat]?) = ((List.range xs.size).map fun k => xs.size - 1 - k).filterMap (xs[·]?) := by
    rw [List.filterMap_map]
    have g : ∀ l : List Nat, (∀ k ∈ l, k < xs.size) → l.filterMap (fun (k : Nat) => xs[(((xs.size : Int) - 1) + (k : Int) * -1).toNat]?) = l.filterMap ((fun x => xs[x]?) ∘ fun k => xs.size - 1 - k) := fun l => by
      induction l with
      | nil => intro _; rfl
      | cons k l ih =>
        intro hl
        have hk := hl k List.mem_cons_self
        have e1 : xs[(((xs.size : Int) - 1) + (k : Int) * -1).toNat]? = ((fun x => xs[x]?) ∘ fun k => xs.size - 1 - k) k := by
          show _ = xs[xs.size - 1 - k]?
          rw [show (((xs.size : Int) - 1) + (k : Int) * -1).toNat = xs.size - 1 - k by omega]
        rw [List.filterMap_cons, List.filterMap_cons, e1, ih fun j hj => hl j (List.mem_cons_of_mem _ hj)]
    exact g _ fun k hk => List.mem_range.mp hk
  rw [e, PySem.W.krv_range, List.filterMap_reverse, PySem.W.krv_all]
theorem getItem_tuple_rev {t sl : Addr} {xs : Array Value} {vl vu vs : Value} {Q : Value → Shared → Prop} (ht : IsTup s.heap t xs) (hs : s.heap.IsSliceOf sl vl vu vs) (pl : IsPart vl none) (pu : IsPart vu none) (ps : IsPart vs (some (-1)))
    (h : Q (.ref s.heap.objs.size) { s with heap := s.heap.push { cls := .type "tuple", data := .seq xs.toList.reverse.toArray } }) (hz : xs.size ≤ sizeLine) : wpAny (model prog w) A (getItem (.ref t) (.ref sl)) Q E s := by
  have hok : sizeOk (.seq xs.toList.reverse.toArray) := by
    show xs.toList.reverse.toArray.size ≤ sizeLine
    rw [List.size_toArray, List.length_reverse, Array.length_toList]
    exact hz
  obtain ⟨os, hos, hcs, hds⟩ := id hs
  have hT : s.TypeIs (.ref sl) "slice" := ⟨os, hos, hcs⟩
  unfold getItem
  try with_reducible refine wpAny_holding ?_
  first | refine wpAny_bind (wpAny_pure ?_) | skip
  refine wpAny_bind (wpAny_sequenceKey ht.typeIs (by decide) ?_)
  refine wpAny_bind (wpAny_callSpecial?_slot (name := Str.ofString "__getitem__") ht.typeIs PyProof.Rows.slot_tuple_getitem
    (wpAny_call_entry PyProof.Rows.slot_tuple_getitem ht.typeIs entry_tuple_getitem ?_ (args_tuple_getitem _ _)))
  show wpAny _ _ (Builtin.Tuple.tupleItemsOf (.ref t) >>= _) _ _ s
  refine wpAny_bind (tupleItemsOf_ ht ?_)
  refine wpAny_bind (wpAny_typeOf hT ?_)
  rw [if_pos (by decide)]
  refine wpAny_bind (rev_applied hs pl pu ps ?_)
  have hno : ¬ ((((xs.size : Int) - 1) == 0 && (-1 : Int) == 1 && xs.size == xs.size) = true) := by
    intro q
    rw [Bool.and_eq_true, Bool.and_eq_true] at q
    exact absurd (eq_of_beq q.1.2) (by decide)
  show wpAny _ _ (if (((xs.size : Int) - 1) == 0 && (-1 : Int) == 1 && xs.size == xs.size) = true then _ else _) _ _ s
  rw [if_neg hno, rev_pick]
  first
    | exact wpAny_bind (m := Builtin.Tuple.tupleExact _) (wpAny_newObj_type (wpAny_pure ⟨_, rfl, wpAny_pure h⟩) hok)
    | exact wpAny_bind (m := Builtin.Tuple.tupleExact _) (wpAny_newObj_type (wpAny_bind (wpAny_pure (wpAny_pure ⟨_, rfl, wpAny_pure h⟩))) hok)
    | exact wpAny_bind (wpAny_bind (m := Builtin.Tuple.tupleExact _) (wpAny_newObj_type (wpAny_pure (wpAny_pure ⟨_, rfl, wpAny_pure h⟩)) hok))
    | exact wpAny_bind (wpAny_bind (m := Builtin.Tuple.tupleExact _) (wpAny_newObj_type (wpAny_pure ⟨_, rfl, wpAny_pure h⟩) hok))
end
/-- t[::-1], a tuple's or a list's -/
def tRevA (K : PySem.W.Frag) (te : TE) : TE := fun σ H Q => te σ H fun x H1 => ∃ a xs, x = .ref a ∧ ((SqL K H1 a xs ∧ ∀ p, H1 p = none → Q (.ref p) (upd H1 p (.lst xs.reverse))) ∨ (SqT K H1 a xs ∧ ∀ p, H1 p = none → Q (.ref p) (upd H1 p (.tup xs.reverse))))
theorem pe_revA {X : Cx} {e : Expr} {te : TE} {k : Nat} {p1 p2 p3 pos : Pos} (he : PE X e te) : PE X (.Subscript e (.Slice none none (some (.UnaryOp .USub (.Constant (.int 1) k p1) p2)) p3) pos) (tRevA X.K te) := by
  refine ⟨fun pins s σ H Q I h => ?_⟩
  refine Subscript_ (thn (he.run pins s σ H _ I h) fun v s1 ⟨x, H1, I1, r1, q1⟩ => ?_)
  obtain ⟨a, xs, ex, q⟩ := q1
  subst ex
  cases r1
  have hp : PO X (some (.UnaryOp .USub (.Constant (.int 1) k p1) p2)) (tPart (tUn (rU fun i => .int (-i)) (tC (.int 1)))) := po_some (pe_un un_neg pe_int)
  refine wpAny_Slice (thn (po_none.run pins s1 σ H1 (fun o H2 => o = none ∧ H2 = H1) I1 ⟨rfl, rfl⟩) fun vl s2 ⟨l, H2, I2, pl, el, e2⟩ => ?_)
  subst el e2
  refine thn (po_none.run pins s2 σ H2 (fun o H3 => o = none ∧ H3 = H2) I2 ⟨rfl, rfl⟩) fun vu s3 ⟨u, H3, I3, pu, eu, e3⟩ => ?_
  subst eu e3
  refine thn (hp.run pins s3 σ H3 (fun o H4 => o = some (-1) ∧ H4 = H3) I3 ⟨1, rfl, -1, rfl, rfl, rfl⟩) fun vs s4 ⟨o, H4, I4, ps, eo, e4⟩ => ?_
  subst eo e4
  have I5 : Inv X pins σ H4 { s4 with heap := s4.heap.push { cls := .type "slice", data := .fields #[vl, vu, vs] } } := I4.kept (t' := s4.toks) fun b ob q => Heap.get?_push_of_some _ q
  show wpAny (model X.prog X.w) X.A (subscriptTail e (.Slice none none (some (.UnaryOp .USub (.Constant (.int 1) k p1) p2)) p3) (.ref a) (.ref s4.heap.objs.size)) (EP X pins σ Q) X.xe { s4 with heap := s4.heap.push { cls := .type "slice", data := .fields #[vl, vu, vs] } }
  rcases q with ⟨hx, q⟩ | ⟨hx, q⟩
  · obtain ⟨its, r, ht, hz⟩ := I5.list hx
    have hl := r.length
    refine tail_any (ops := [.ref a, .ref s4.heap.objs.size]) ht.isList.typeIs (PySem.slot_list_getitem.lookup) ?_ (by with_unfolding_all rfl)
    refine wpAny_getItem_list_slice ht.isList (Heap.IsSliceOf.new _ vl vu vs) pl pu ps (by decide) ?_ (by rw [List.size_toArray]; omega)
    rw [PySem.W.krv_pick]
    refine ⟨.ref _, _, I5.laid (t' := s4.toks) (o := .lst xs.reverse) (fun b ob q => Heap.get?_push_of_some _ q) (Nat.le_refl _) ?_, rfl, q _ (I5.hok.fresh (Nat.le_refl _))⟩
    exact ⟨by rw [List.length_reverse]; exact hz, _, 0, r.reverse, Heap.get?_push_size _ rfl⟩
  · obtain ⟨its, r, ht, hz⟩ := I5.tuple hx
    have hl := r.length
    refine tail_any (ops := [.ref a, .ref s4.heap.objs.size]) ht.typeIs PyProof.Rows.slot_tuple_getitem.lookup ?_ (by with_unfolding_all rfl)
    refine getItem_tuple_rev ht (Heap.IsSliceOf.new _ vl vu vs) pl pu ps ?_ (by rw [List.size_toArray]; omega)
    refine ⟨.ref _, _, I5.laid (t' := s4.toks) (o := .tup xs.reverse) (fun b ob q => Heap.get?_push_of_some _ q) (Nat.le_refl _) ?_, rfl, q _ (I5.hok.fresh (Nat.le_refl _))⟩
    exact ⟨by rw [List.length_reverse]; exact hz, _, r.reverse, IsTup.new _ _⟩
end Ev
set_option Elab.async false
set_option linter.all false
set_option maxRecDepth 100000
set_option maxHeartbeats 1000000
/-! EvRule2: comparisons, truth, tests, items and slices, calls. -/
namespace Ev
open PySem PySem.Spec PyProof.Rows L2
section
variable {K : PySem.W.Frag} {β : List Addr} {mh : MH} {H0 H : Hp} {v : V}
theorem emp_den {ds : List D} {vs : List V} (h : DenL K β H ds vs) : (!ds.isEmpty) = !vs.isEmpty := by cases h <;> rfl
theorem truth_den (hr : HRel K β mh H) {x : R} {b : Bool} (e : truth mh x = some b) (h : DenR K H0 β H x v) : TruV K v H b := by
  cases x with
  | l ds =>
    cases e
    obtain ⟨a, vs, rfl, _, _, h2, h3⟩ := h
    exact .inl ⟨vs, SqL.of h2, emp_den h3⟩
  | v d =>
    cases d with
    | non =>
      cases e
      obtain rfl := h.non
      exact rfl
    | bl c =>
      cases e
      obtain rfl := h.bl
      exact rfl
    | int i =>
      cases e
      obtain rfl := h.int
      exact rfl
    | str x =>
      obtain rfl := h.str
      rw [truth] at e
      split at e
      · rename_i hz
        cases e
        exact ⟨many_line hz, rfl⟩
      · cases e
    | tup ds =>
      cases e
      obtain ⟨a, vs, rfl, t, l⟩ := h.tup
      exact .inr (.inl ⟨vs, t, emp_den l⟩)
    | fz ds =>
      cases e
      obtain ⟨a, vs, rfl, t, l⟩ := h.fz
      exact .inl ⟨vs, t.1, emp_den l⟩
    | ref n =>
      rw [truth] at e
      cases q : lstOf mh n with
      | none => rw [q] at e; cases e
      | some ds =>
        rw [q] at e
        cases e
        obtain ⟨a, vs, rfl, _, _, h2, h3⟩ := DenR.ref hr q h
        exact .inl ⟨vs, SqL.of h2, emp_den h3⟩
end
section
variable {X : Cx}
/-! ### comparisons -/
theorem x_cmp {a b : Expr} {pos : Pos} {op : CmpOp} {r : R2} {g : MH → R → R → Option Bool} {fa fb : Run} (ho : OpR X (compareOp op) r) (hv : CmVal X.K g r) (ha : PX X a fa) (hb : PX X b fb) (hm : behindInMarks op b = false) :
    PX X (.Compare a [op] [b] pos) (fun env mh => match fa env mh with
      | some (x, mh) => match fb env mh with
        | some (y, mh) => (g mh x y).map fun r => (.v (.bl r), mh)
        | none => none
      | none => none) := by
  refine PE_imp (pe_cmpR ho ha hb hm) fun σ H Q h => ?_
  obtain ⟨β, env, mh, z, mh', hr, he, hf, q⟩ := h
  dsimp only at hf
  have hf2 : (match fa env mh with
      | some (x, mh) => match fb env mh with
        | some (y, mh) => ((g mh x y).map fun r => R.v (.bl r)).map fun r => (r, mh)
        | none => none
      | none => none) = some (z, mh') := by
    rw [← hf]
    cases fa env mh with
    | none => rfl
    | some p =>
      obtain ⟨x, mh1⟩ := p
      dsimp only
      cases fb env mh1 with
      | none => rfl
      | some p =>
        obtain ⟨y, mh2⟩ := p
        dsimp only
        cases g mh2 x y <;> rfl
  obtain ⟨x, mh1, y, e1, e2, e3⟩ := two_run (g := fun mh x y => (g mh x y).map fun r => R.v (.bl r)) hf2
  exact two_of hr he e1 e2 fun β2 v u H2 p2 d1 d2 => hv.op H β2 mh' H2 x y z v u Q p2.rel d1 d2 e3 fun w H' p3 d3 => q β2 w H' (p2.trans p3) (d3.back p2 p3.pre)
/-- a comparison of two comparisons -/
theorem x_chain {a b c : Expr} {pos : Pos} {op op' : CmpOp} {r r' : R2} {g g' : MH → R → R → Option Bool} {fa fb fc : Run} (ho : OpR X (compareOp op) r) (ho' : OpR X (compareOp op') r') (hv : CmVal X.K g r) (hv' : CmVal X.K g' r')
    (ha : PX X a fa) (hb : PX X b fb) (hc : PX X c fc) (hm : lastMarks [op, op'] [b, c] = false) :
    PX X (.Compare a [op, op'] [b, c] pos) (fun env mh => match fa env mh with
      | some (x, mh) => match fb env mh with
        | some (y, mh) => match g mh x y with
          | some true => match fc env mh with
            | some (z, mh) => (g' mh y z).map fun r => (.v (.bl r), mh)
            | none => none
          | some false => some (.v (.bl false), mh)
          | none => none
        | none => none
      | none => none) := by
  refine PE_imp (pe_chain ho ho' ha hb hc hm) fun σ H Q h => ?_
  obtain ⟨β, env, mh, z, mh', hr, he, hf, q⟩ := h
  dsimp only at hf
  cases e1 : fa env mh with
  | none => rw [e1] at hf; cases hf
  | some p =>
    obtain ⟨x, mh1⟩ := p
    simp only [e1] at hf
    cases e2 : fb env mh1 with
    | none => rw [e2] at hf; cases hf
    | some p =>
      obtain ⟨y, mh2⟩ := p
      simp only [e2] at hf
      refine two_of hr he e1 e2 fun β2 v u H2 p2 d1 d2 => ?_
      cases e3 : g mh2 x y with
      | none => rw [e3] at hf; cases hf
      | some k =>
        refine hv H β2 mh2 H2 x y k v u _ p2.rel d1 d2 e3 ⟨k, rfl, ?_⟩
        cases k with
        | false =>
          simp only [e3] at hf
          cases hf
          exact q β2 (.bl false) H2 p2 (Den.bl false)
        | true =>
          simp only [e3] at hf
          rw [if_pos rfl]
          cases e4 : fc env mh2 with
          | none => rw [e4] at hf; cases hf
          | some p =>
            obtain ⟨t, mh3⟩ := p
            simp only [e4] at hf
            cases e5 : g' mh3 y t with
            | none => rw [e5] at hf; cases hf
            | some k' =>
              rw [e5] at hf
              cases hf
              refine one_of p2.rel (he.mono p2 hr) e4 fun β3 w H3 p3 d3 => ?_
              exact hv' H β3 _ H3 y t k' u w Q p3.rel (d2.later p3 p2.rel) (d3.back p2 p3.pre) e5 (q β3 (.bl k') H3 (p2.trans p3) (Den.bl k'))
/-! ### and, or, not, if-else -/
theorem x_and {a b : Expr} {rest : List Expr} {pos : Pos} {fa fb : Run} (ha : PX X a fa) (hb : PX X (.BoolOp .And (b :: rest) pos) fb) : PX X (.BoolOp .And (a :: b :: rest) pos) (fun env mh => match fa env mh with
      | some (x, mh) => match truth mh x with
        | some true => fb env mh
        | some false => some (x, mh)
        | none => none
      | none => none) := by
  refine PE_imp (pe_andT ha hb) fun σ H Q h => ?_
  obtain ⟨β, env, mh, z, mh', hr, he, hf, q⟩ := h
  dsimp only at hf
  cases e1 : fa env mh with
  | none => rw [e1] at hf; cases hf
  | some p =>
    obtain ⟨x, mh1⟩ := p
    simp only [e1] at hf
    refine one_of hr he e1 fun β1 v H1 p1 d1 => ?_
    cases e2 : truth mh1 x with
    | none => rw [e2] at hf; cases hf
    | some k =>
      simp only [e2] at hf
      refine ⟨k, truth_den p1.rel e2 d1, ?_⟩
      cases k with
      | true =>
        rw [if_pos rfl]
        exact ⟨β1, env, mh1, z, mh', p1.rel, he.mono p1 hr, hf, fun β2 w H2 p2 d2 => q β2 w H2 (p1.trans p2) (d2.back p1 p2.pre)⟩
      | false =>
        rw [if_neg (by decide)]
        cases hf
        exact q β1 v H1 p1 d1
theorem x_or {a b : Expr} {rest : List Expr} {pos : Pos} {fa fb : Run} (ha : PX X a fa) (hb : PX X (.BoolOp .Or (b :: rest) pos) fb) : PX X (.BoolOp .Or (a :: b :: rest) pos) (fun env mh => match fa env mh with
      | some (x, mh) => match truth mh x with
        | some true => some (x, mh)
        | some false => fb env mh
        | none => none
      | none => none) := by
  refine PE_imp (pe_orT ha hb) fun σ H Q h => ?_
  obtain ⟨β, env, mh, z, mh', hr, he, hf, q⟩ := h
  dsimp only at hf
  cases e1 : fa env mh with
  | none => rw [e1] at hf; cases hf
  | some p =>
    obtain ⟨x, mh1⟩ := p
    simp only [e1] at hf
    refine one_of hr he e1 fun β1 v H1 p1 d1 => ?_
    cases e2 : truth mh1 x with
    | none => rw [e2] at hf; cases hf
    | some k =>
      simp only [e2] at hf
      refine ⟨k, truth_den p1.rel e2 d1, ?_⟩
      cases k with
      | false =>
        rw [if_neg (by decide)]
        exact ⟨β1, env, mh1, z, mh', p1.rel, he.mono p1 hr, hf, fun β2 w H2 p2 d2 => q β2 w H2 (p1.trans p2) (d2.back p1 p2.pre)⟩
      | true =>
        rw [if_pos rfl]
        cases hf
        exact q β1 v H1 p1 d1
theorem x_not {a : Expr} {pos : Pos} {fa : Run} (ha : PX X a fa) : PX X (.UnaryOp .Not a pos) (fun env mh => match fa env mh with
      | some (x, mh) => (truth mh x).map fun b => (.v (.bl (!b)), mh)
      | none => none) := by
  refine PE_imp (pe_notT ha) fun σ H Q h => ?_
  obtain ⟨β, env, mh, z, mh', hr, he, hf, q⟩ := h
  dsimp only at hf
  cases e1 : fa env mh with
  | none => rw [e1] at hf; cases hf
  | some p =>
    obtain ⟨x, mh1⟩ := p
    simp only [e1] at hf
    refine one_of hr he e1 fun β1 v H1 p1 d1 => ?_
    cases e2 : truth mh1 x with
    | none => rw [e2] at hf; cases hf
    | some k =>
      rw [e2] at hf
      cases hf
      exact ⟨k, truth_den p1.rel e2 d1, q β1 _ H1 p1 (Den.bl (!k))⟩
/-! ### tests -/
/-- the truth of what an expression gives -/
def tst (f : Run) : Env → MH → Option (Bool × MH) := fun env mh => match f env mh with
  | some (x, mh) => (truth mh x).map fun b => (b, mh)
  | none => none
abbrev PTX (X : Cx) (e : Expr) (f : Run) : Prop := PT X e (tTs X.K (tst f))
abbrev PWX (X : Cx) (e : Expr) (f : Run) : Prop := PW X e (tTs X.K (tst f))
theorem tst_some {f : Run} {env : Env} {mh mh' : MH} {b : Bool} (h : tst f env mh = some (b, mh')) : ∃ x, f env mh = some (x, mh') ∧ truth mh' x = some b := by
  unfold tst at h
  cases e : f env mh with
  | none => rw [e] at h; cases h
  | some p =>
    obtain ⟨x, mh1⟩ := p
    simp only [e] at h
    cases e2 : truth mh1 x with
    | none => rw [e2] at h; cases h
    | some k => rw [e2] at h; cases h; exact ⟨x, rfl, e2⟩
theorem t_plain {e : Expr} {f : Run} (h : PX X e f) (he : ∀ whole, isTrue e X.env whole = (do let v ← whole; standAt e.pos; holding [v] (truthy v))) : PTX X e f := by
  refine PT_imp (pt_truth h he) fun σ H Q h => ?_
  obtain ⟨β, env, mh, b, mh', hr, hE, hf, q⟩ := h
  obtain ⟨x, e1, e2⟩ := tst_some hf
  exact one_of hr hE e1 fun β1 v H1 p1 d1 => ⟨b, truth_den p1.rel e2 d1, q β1 H1 p1⟩
/-- a rule for a test whose value is a truth -/
theorem tTs_test {f : Run} {t : TE} (hb : ∀ env mh z mh', f env mh = some (z, mh') → ∃ b, z = .v (.bl b)) (h : ∀ σ H Q, tEx X.K f σ H Q → t σ H Q) : ∀ σ H Q, tTs X.K (tst f) σ H Q → tTest t σ H Q := fun σ H Q q => by
  obtain ⟨β, env, mh, b, mh', hr, hE, hf, q⟩ := q
  obtain ⟨x, e1, e2⟩ := tst_some hf
  obtain ⟨c, rfl⟩ := hb _ _ _ _ e1
  cases e2
  refine h σ H _ ⟨β, env, mh, _, mh', hr, hE, e1, fun β1 v H1 p1 d1 => ?_⟩
  obtain rfl := d1.bl
  exact ⟨_, rfl, q β1 H1 p1⟩
theorem t_cmp {a b : Expr} {pos : Pos} {op : CmpOp} {r : R2} {g : MH → R → R → Option Bool} {fa fb : Run} (ho : OpR X (compareOp op) r) (hv : CmVal X.K g r) (ha : PX X a fa) (hb : PX X b fb) (hm : behindInMarks op b = false) :
    PTX X (.Compare a [op] [b] pos) (fun env mh => match fa env mh with
      | some (x, mh) => match fb env mh with
        | some (y, mh) => (g mh x y).map fun r => (.v (.bl r), mh)
        | none => none
      | none => none) := by
  refine PT_imp (pt_cmpR ho ha hb hm) (tTs_test (fun env mh z mh' e => ?_) fun σ H Q h => ?_)
  · cases e1 : fa env mh with
    | none => rw [e1] at e; cases e
    | some p =>
      obtain ⟨x, mh1⟩ := p
      simp only [e1] at e
      cases e2 : fb env mh1 with
      | none => rw [e2] at e; cases e
      | some p =>
        obtain ⟨y, mh2⟩ := p
        simp only [e2] at e
        cases e3 : g mh2 x y with
        | none => rw [e3] at e; cases e
        | some k => rw [e3] at e; cases e; exact ⟨k, rfl⟩
  · obtain ⟨β, env, mh, z, mh', hr, he, hf, q⟩ := h
    dsimp only at hf
    cases e1 : fa env mh with
    | none => rw [e1] at hf; cases hf
    | some p =>
      obtain ⟨x, mh1⟩ := p
      simp only [e1] at hf
      cases e2 : fb env mh1 with
      | none => rw [e2] at hf; cases hf
      | some p =>
        obtain ⟨y, mh2⟩ := p
        simp only [e2] at hf
        cases e3 : g mh2 x y with
        | none => rw [e3] at hf; cases hf
        | some k =>
          rw [e3] at hf
          cases hf
          exact two_of hr he e1 e2 fun β2 v u H2 p2 d1 d2 => hv H β2 _ H2 x y k v u Q p2.rel d1 d2 e3 (q β2 (.bl k) H2 p2 (Den.bl k))
theorem t_chain {a b c : Expr} {pos : Pos} {op op' : CmpOp} {r r' : R2} {g g' : MH → R → R → Option Bool} {fa fb fc : Run} (ho : OpR X (compareOp op) r) (ho' : OpR X (compareOp op') r') (hv : CmVal X.K g r) (hv' : CmVal X.K g' r')
    (ha : PX X a fa) (hb : PX X b fb) (hc : PX X c fc) (hm : lastMarks [op, op'] [b, c] = false) :
    PTX X (.Compare a [op, op'] [b, c] pos) (fun env mh => match fa env mh with
      | some (x, mh) => match fb env mh with
        | some (y, mh) => match g mh x y with
          | some true => match fc env mh with
            | some (z, mh) => (g' mh y z).map fun r => (.v (.bl r), mh)
            | none => none
          | some false => some (.v (.bl false), mh)
          | none => none
        | none => none
      | none => none) := by
  refine PT_imp (pt_chain ho ho' ha hb hc hm) (tTs_test (fun env mh z mh' e => ?_) fun σ H Q h => ?_)
  · split at e
    · split at e
      · split at e
        · split at e
          · obtain ⟨k, _, e4⟩ := Option.map_eq_some_iff.mp e
            cases e4
            exact ⟨k, rfl⟩
          · cases e
        · cases e; exact ⟨false, rfl⟩
        · cases e
      · cases e
    · cases e
  · obtain ⟨β, env, mh, z, mh', hr, he, hf, q⟩ := h
    dsimp only at hf
    cases e1 : fa env mh with
    | none => rw [e1] at hf; cases hf
    | some p =>
      obtain ⟨x, mh1⟩ := p
      simp only [e1] at hf
      cases e2 : fb env mh1 with
      | none => rw [e2] at hf; cases hf
      | some p =>
        obtain ⟨y, mh2⟩ := p
        simp only [e2] at hf
        refine two_of hr he e1 e2 fun β2 v u H2 p2 d1 d2 => ?_
        cases e3 : g mh2 x y with
        | none => rw [e3] at hf; cases hf
        | some k =>
          refine hv H β2 mh2 H2 x y k v u _ p2.rel d1 d2 e3 ⟨k, rfl, ?_⟩
          cases k with
          | false =>
            simp only [e3] at hf
            cases hf
            exact q β2 (.bl false) H2 p2 (Den.bl false)
          | true =>
            simp only [e3] at hf
            rw [if_pos rfl]
            cases e4 : fc env mh2 with
            | none => rw [e4] at hf; cases hf
            | some p =>
              obtain ⟨t, mh3⟩ := p
              simp only [e4] at hf
              cases e5 : g' mh3 y t with
              | none => rw [e5] at hf; cases hf
              | some k' =>
                rw [e5] at hf
                cases hf
                refine one_of p2.rel (he.mono p2 hr) e4 fun β3 w H3 p3 d3 => ?_
                exact hv' H β3 _ H3 y t k' u w Q p3.rel (d2.later p3 p2.rel) (d3.back p2 p3.pre) e5 (q β3 (.bl k') H3 (p2.trans p3) (Den.bl k'))
theorem t_not {a : Expr} {pos : Pos} {fa : Run} (ha : PTX X a fa) : PTX X (.UnaryOp .Not a pos) (fun env mh => match fa env mh with
      | some (x, mh) => (truth mh x).map fun b => (.v (.bl (!b)), mh)
      | none => none) := by
  refine PT_imp (pt_not ha) fun σ H Q h => ?_
  obtain ⟨β, env, mh, b, mh', hr, hE, hf, q⟩ := h
  obtain ⟨x, e1, e2⟩ := tst_some hf
  cases e3 : fa env mh with
  | none => rw [e3] at e1; cases e1
  | some p =>
    obtain ⟨y, mh1⟩ := p
    simp only [e3] at e1
    cases e4 : truth mh1 y with
    | none => rw [e4] at e1; cases e1
    | some k =>
      rw [e4] at e1
      cases e1
      cases e2
      exact ⟨β, env, mh, k, mh', hr, hE, by unfold tst; simp only [e3, e4]; rfl, fun β1 H1 p1 => q β1 H1 p1⟩
theorem t_and1 {a : Expr} {pos : Pos} {f : Run} (ha : PTX X a f) : PWX X (.BoolOp .And [a] pos) f := pw_and1 ha
theorem t_or1 {a : Expr} {pos : Pos} {f : Run} (ha : PTX X a f) : PWX X (.BoolOp .Or [a] pos) f := pw_or1 ha
theorem PW_imp {e : Expr} {t t' : TT} (h : PW X e t) (i : ∀ σ H Q, t' σ H Q → t σ H Q) : PW X e t' := ⟨fun wh pins s σ H Q I q => h.run wh pins s σ H Q I (i σ H Q q)⟩
theorem tst_of {f : Run} {env : Env} {mh mh' : MH} {x : R} {b : Bool} (h : f env mh = some (x, mh')) (h2 : truth mh' x = some b) : tst f env mh = some (b, mh') := by
  unfold tst
  simp only [h, h2]
  rfl
theorem t_and {a b : Expr} {rest : List Expr} {pos : Pos} {fa fb : Run} (ha : PTX X a fa) (hb : PWX X (.BoolOp .And (b :: rest) pos) fb) : PWX X (.BoolOp .And (a :: b :: rest) pos) (fun env mh => match fa env mh with
      | some (x, mh) => match truth mh x with
        | some true => fb env mh
        | some false => some (x, mh)
        | none => none
      | none => none) := by
  refine PW_imp (pw_and ha hb) fun σ H Q h => ?_
  obtain ⟨β, env, mh, b, mh', hr, hE, hf, q⟩ := h
  obtain ⟨x, e1, e2⟩ := tst_some hf
  cases e3 : fa env mh with
  | none => rw [e3] at e1; cases e1
  | some p =>
    obtain ⟨y, mh1⟩ := p
    simp only [e3] at e1
    cases e4 : truth mh1 y with
    | none => rw [e4] at e1; cases e1
    | some k =>
      refine ⟨β, env, mh, k, mh1, hr, hE, tst_of e3 e4, fun β1 H1 p1 => ?_⟩
      simp only [e4] at e1
      cases k with
      | true =>
        rw [if_pos rfl]
        exact ⟨β1, env, mh1, b, mh', p1.rel, hE.mono p1 hr, tst_of e1 e2, fun β2 H2 p2 => q β2 H2 (p1.trans p2)⟩
      | false =>
        rw [if_neg (by decide)]
        cases e1
        rw [e4] at e2
        cases e2
        exact q β1 H1 p1
theorem t_or {a b : Expr} {rest : List Expr} {pos : Pos} {fa fb : Run} (ha : PTX X a fa) (hb : PWX X (.BoolOp .Or (b :: rest) pos) fb) : PWX X (.BoolOp .Or (a :: b :: rest) pos) (fun env mh => match fa env mh with
      | some (x, mh) => match truth mh x with
        | some true => some (x, mh)
        | some false => fb env mh
        | none => none
      | none => none) := by
  refine PW_imp (pw_or ha hb) fun σ H Q h => ?_
  obtain ⟨β, env, mh, b, mh', hr, hE, hf, q⟩ := h
  obtain ⟨x, e1, e2⟩ := tst_some hf
  cases e3 : fa env mh with
  | none => rw [e3] at e1; cases e1
  | some p =>
    obtain ⟨y, mh1⟩ := p
    simp only [e3] at e1
    cases e4 : truth mh1 y with
    | none => rw [e4] at e1; cases e1
    | some k =>
      refine ⟨β, env, mh, k, mh1, hr, hE, tst_of e3 e4, fun β1 H1 p1 => ?_⟩
      simp only [e4] at e1
      cases k with
      | false =>
        rw [if_neg (by decide)]
        exact ⟨β1, env, mh1, b, mh', p1.rel, hE.mono p1 hr, tst_of e1 e2, fun β2 H2 p2 => q β2 H2 (p1.trans p2)⟩
      | true =>
        rw [if_pos rfl]
        cases e1
        rw [e4] at e2
        cases e2
        exact q β1 H1 p1
theorem x_ite {c a b : Expr} {pos : Pos} {fc fa fb : Run} (hc : PTX X c fc) (ha : PX X a fa) (hb : PX X b fb) : PX X (.IfExp c a b pos) (fun env mh => match fc env mh with
      | some (x, mh) => match truth mh x with
        | some true => fa env mh
        | some false => fb env mh
        | none => none
      | none => none) := by
  refine PE_imp (pe_ifExp hc ha hb) fun σ H Q h => ?_
  obtain ⟨β, env, mh, z, mh', hr, he, hf, q⟩ := h
  dsimp only at hf
  cases e1 : fc env mh with
  | none => rw [e1] at hf; cases hf
  | some p =>
    obtain ⟨x, mh1⟩ := p
    simp only [e1] at hf
    cases e2 : truth mh1 x with
    | none => rw [e2] at hf; cases hf
    | some k =>
      simp only [e2] at hf
      refine ⟨β, env, mh, k, mh1, hr, he, tst_of e1 e2, fun β1 H1 p1 => ?_⟩
      cases k with
      | true =>
        rw [if_pos rfl]
        exact ⟨β1, env, mh1, z, mh', p1.rel, he.mono p1 hr, hf, fun β2 w H2 p2 d2 => q β2 w H2 (p1.trans p2) (d2.back p1 p2.pre)⟩
      | false =>
        rw [if_neg (by decide)]
        exact ⟨β1, env, mh1, z, mh', p1.rel, he.mono p1 hr, hf, fun β2 w H2 p2 d2 => q β2 w H2 (p1.trans p2) (d2.back p1 p2.pre)⟩
end
end Ev
set_option Elab.async false
set_option linter.all false
set_option maxRecDepth 100000
set_option maxHeartbeats 1000000
/-! EvRule3: in, items, slices. -/
namespace Ev
open PySem PySem.Spec PyProof.Rows L2
/-! ### in, not in -/
def rInD (K : PySem.W.Frag) (neg : Bool) : R2 := fun x y H Q => ∃ β p vs ds d, y = .ref p ∧ (SqL K H p vs ∨ SqT K H p vs) ∧ DenL K β H ds vs ∧ ds.all (okd deep) = true ∧ Dp K H x d ∧ SeqAt.shaped d = true ∧
  Q (.bl (if neg then !((D.pys ds).any fun y => PyData.eqv y d) else (D.pys ds).any fun y => PyData.eqv y d)) H
theorem in_units {X : Cx} (hu : X.A.units + 64 < cLine) {ds : List D} (k : ds.all (okd deep) = true) (n : Nat) : X.A.units + 1 + min (PyData.depthAll (D.pys ds)) n < cLine := by
  have h2 := (okd_pys ds deep (all_okd k)).2
  have h3 : min (PyData.depthAll (D.pys ds)) n ≤ PyData.depthAll (D.pys ds) := Nat.min_le_left _ _
  have : deep = 60 := rfl
  omega
theorem op_inD {X : Cx} (hu : X.A.units + 64 < cLine) : OpR X (compareOp .In) (rInD X.K false) := by
  intro pins s σ H x y v u Q I rx ry h
  obtain ⟨β, p, vs, ds, d, rfl, hq, dl, k, hd, sd, q⟩ := h
  obtain ⟨bs, r2⟩ := Dp.reads I d x v hd rx
  have kk := okd_pys ds deep (all_okd k)
  rcases hq with hq | hq
  · obtain ⟨as, r1⟩ := Dp.reads I (.list (D.pys ds)) _ u (.lst hq (dl.dp (all_okd k))) ry
    exact SeqAt.in_list_reads r1 r2 kk.1 (SeqAt.canLay_of_shaped sd) (in_units hu k _) ⟨.bl _, H, I, rfl, q⟩
  · obtain ⟨as, r1⟩ := Dp.reads I (.tuple (D.pys ds)) _ u (.tup hq (dl.dp (all_okd k))) ry
    exact SeqAt.in_tuple_reads r1 r2 kk.1 (SeqAt.canLay_of_shaped sd) (in_units hu k _) ⟨.bl _, H, I, rfl, q⟩
theorem op_notinD {X : Cx} (hu : X.A.units + 64 < cLine) : OpR X (compareOp .NotIn) (rInD X.K true) := by
  intro pins s σ H x y v u Q I rx ry h
  obtain ⟨β, p, vs, ds, d, rfl, hq, dl, k, hd, sd, q⟩ := h
  obtain ⟨bs, r2⟩ := Dp.reads I d x v hd rx
  have kk := okd_pys ds deep (all_okd k)
  rcases hq with hq | hq
  · obtain ⟨as, r1⟩ := Dp.reads I (.list (D.pys ds)) _ u (.lst hq (dl.dp (all_okd k))) ry
    exact SeqAt.notIn_list_reads r1 r2 kk.1 (SeqAt.canLay_of_shaped sd) (in_units hu k _) ⟨.bl _, H, I, rfl, q⟩
  · obtain ⟨as, r1⟩ := Dp.reads I (.tuple (D.pys ds)) _ u (.tup hq (dl.dp (all_okd k))) ry
    exact SeqAt.notIn_tuple_reads r1 r2 kk.1 (SeqAt.canLay_of_shaped sd) (in_units hu k _) ⟨.bl _, H, I, rfl, q⟩
section
variable {K : PySem.W.Frag}
theorem cv_in : CmVal K inR (rInD K false) := by
  intro H0 β mh H x y b v u Q hr dx dy e q
  unfold inR at e
  split at e
  · rename_i d ds e1 e2
    split at e
    · rename_i k
      cases e
      obtain ⟨h1, h2⟩ := pyR_den hr e1 dx
      obtain ⟨a, vs, rfl, h3, h4⟩ := seq_den hr e2 dy
      exact ⟨β, a, vs, ds, d, rfl, h3, h4, k, h1, h2, q⟩
    · cases e
  · cases e
theorem cv_notin : CmVal K (fun mh x y => (inR mh x y).map (!·)) (rInD K true) := by
  intro H0 β mh H x y b v u Q hr dx dy e q
  dsimp only at e
  unfold inR at e
  split at e
  · rename_i d ds e1 e2
    split at e
    · rename_i k
      cases e
      obtain ⟨h1, h2⟩ := pyR_den hr e1 dx
      obtain ⟨a, vs, rfl, h3, h4⟩ := seq_den hr e2 dy
      exact ⟨β, a, vs, ds, d, rfl, h3, h4, k, h1, h2, q⟩
    · cases e
  · cases e
end
/-! ### all comparisons -/
/-- the library's sign of a comparison -/
def cmName : Cm → CmpOp
  | .eq => .Eq | .ne => .NotEq | .lt => .Lt | .le => .LtE | .gt => .Gt | .ge => .GtE | .is_ => .Is | .isnot => .IsNot | .in_ => .In | .notin => .NotIn
def rCm (K : PySem.W.Frag) : Cm → R2
  | .eq => rEqD K | .ne => rNeD K | .is_ => rIsAll | .isnot => rIsNotAll | .in_ => rInD K false | .notin => rInD K true
  | o => rOrd K o
theorem op_cm {X : Cx} (hu : X.A.units + 64 < cLine) (o : Cm) : OpR X (compareOp (cmName o)) (rCm X.K o) := by
  cases o with
  | eq => exact op_eqD hu
  | ne => exact op_neD hu
  | is_ => exact op_isAll
  | isnot => exact op_isNotAll
  | in_ => exact op_inD hu
  | notin => exact op_notinD hu
  | lt => exact op_ordAll rfl hu
  | le => exact op_ordAll rfl hu
  | gt => exact op_ordAll rfl hu
  | ge => exact op_ordAll rfl hu
theorem cv_cm {K : PySem.W.Frag} (o : Cm) : CmVal K (fun mh => cmR mh o) (rCm K o) := by
  cases o with
  | eq => exact cv_eq
  | ne => exact cv_ne
  | is_ => exact cv_is
  | isnot => exact cv_isnot
  | in_ => exact cv_in
  | notin => exact cv_notin
  | lt => exact cv_ord
  | le => exact cv_ord
  | gt => exact cv_ord
  | ge => exact cv_ord
/-! ### all operators -/
def opName : Op → Operator
  | .add => .Add | .sub => .Sub | .mul => .Mult | .fdiv => .FloorDiv | .mod => .Mod | .pow => .Pow
def rOp (K : PySem.W.Frag) : Op → R2
  | .add => rAddAll K | .sub => rI0 fun i j => .int (i - j) | .mul => rMulAll K | .fdiv => rI CDivW fun i j => .int (i / j) | .mod => rI (fun _ j => 0 < j) fun i j => .int (i % j) | .pow => rI CPow fun i j => .int (i ^ j.toNat)
theorem op_op {X : Cx} (o : Op) : OpR X (binaryOp (opName o)) (rOp X.K o) := by
  cases o with
  | add => exact op_addAll
  | sub => exact op_sub
  | mul => exact op_mulAll
  | fdiv => exact op_fdivW
  | mod => exact op_mod
  | pow => exact op_pow
theorem ov_op {K : PySem.W.Frag} (o : Op) : OpVal K (fun mh => opR mh o) (rOp K o) := by
  cases o with
  | add => exact ov_add
  | sub => exact ov_sub
  | mul => exact ov_mul
  | fdiv => exact ov_fdiv
  | mod => exact ov_mod
  | pow => exact ov_pow
/-! ### items -/
section
variable {K : PySem.W.Frag} {β : List Addr} {mh : MH} {H0 H : Hp} {v u : V}
theorem atI_get' {α : Type} {xs : List α} {i : Int} {x : α} (h : atI xs i = some x) : ∃ j, ixN xs.length i = some j ∧ xs[j]? = some x := by
  unfold atI at h
  cases e : ixN xs.length i with
  | none => rw [e] at h; cases h
  | some j => rw [e] at h; exact ⟨j, rfl, h⟩
theorem atI_den {ds : List D} {vs : List V} {i : Int} {d : D} (l : DenL K β H ds vs) (h : atI ds i = some d) : ∃ v, atI vs i = some v ∧ Den K β H d v := by
  obtain ⟨j, e1, e2⟩ := atI_get' h
  obtain ⟨v, e3, e4⟩ := l.get e2
  refine ⟨v, ?_, e4⟩
  unfold atI
  rw [← l.len, e1]
  exact e3
theorem ov_idx : OpVal K (fun mh x y => (idxR mh x y).map R.v) (rIx K) := by
  intro H0 β mh H x y z v u Q hr dx dy e q
  dsimp only at e
  unfold idxR at e
  split at e
  · rename_i s i
    split at e
    · rename_i hz
      cases e1 : atI s.cps.toList i with
      | none => rw [e1] at e; cases e
      | some c =>
        rw [e1] at e
        cases e
        exact .inr (.inr ⟨s, i, c, dx.str, dy.int, many_line hz, e1, q _ _ (Po.refl hr) (Den.str _)⟩)
    · cases e
  · rename_i i _
    split at e
    · rename_i xs e1
      cases e2 : atI xs i with
      | none => rw [e2] at e; cases e
      | some d =>
        rw [e2] at e
        cases e
        obtain ⟨a, vs, rfl, h3, h4⟩ := seq_den hr e1 dx
        obtain ⟨w, e5, d5⟩ := atI_den h4 e2
        rcases h3 with h3 | h3
        · exact .inl ⟨a, vs, i, w, rfl, dy.int, h3, e5, q _ _ (Po.refl hr) d5⟩
        · exact .inr (.inl ⟨a, vs, i, w, rfl, dy.int, h3, e5, q _ _ (Po.refl hr) d5⟩)
    · cases e
  · cases e
end
section
variable {X : Cx}
theorem x_idx {a b : Expr} {pos : Pos} {fa fb : Run} (ha : PX X a fa) (hb : PX X b fb) (hs : PlainIx b) :
    PX X (.Subscript a b pos) (fun env mh => match fa env mh with
      | some (x, mh) => match fb env mh with
        | some (y, mh) => (idxR mh x y).map fun d => (.v d, mh)
        | none => none
      | none => none) := by
  refine PE_imp (pe_ix ix_seq ha hb hs) fun σ H Q h => ?_
  obtain ⟨β, env, mh, z, mh', hr, he, hf, q⟩ := h
  dsimp only at hf
  cases e1 : fa env mh with
  | none => rw [e1] at hf; cases hf
  | some p =>
    obtain ⟨x, mh1⟩ := p
    simp only [e1] at hf
    cases e2 : fb env mh1 with
    | none => rw [e2] at hf; cases hf
    | some p =>
      obtain ⟨y, mh2⟩ := p
      simp only [e2] at hf
      cases e3 : idxR mh2 x y with
      | none => rw [e3] at hf; cases hf
      | some d =>
        rw [e3] at hf
        cases hf
        exact two_of hr he e1 e2 fun β2 v u H2 p2 d1 d2 => ov_idx H β2 _ H2 x y (.v d) v u Q p2.rel d1 d2 (by show (idxR _ x y).map R.v = _; rw [e3]; rfl) fun w H' p3 d3 => q β2 w H' (p2.trans p3) (d3.back p2 p3.pre)
/-! ### slices -/
def tOs (K : PySem.W.Frag) (f : Env → MH → Option (Option Int × MH)) : TO := fun σ H Q => ∃ β env mh b mh', HRel K β mh H ∧ EnvRel K β H env σ ∧ f env mh = some (b, mh') ∧
  ∀ β' H', Po K β H β' H' mh' → Q b H'
theorem PO_imp {e : Option Expr} {t t' : TO} (h : PO X e t) (i : ∀ σ H Q, t' σ H Q → t σ H Q) : PO X e t' := ⟨fun pins s σ H Q I q => h.run pins s σ H Q I (i σ H Q q)⟩
theorem o_none : PO X none (tOs X.K fun _ mh => some (none, mh)) := PO_imp po_none fun σ H Q h => by
  obtain ⟨β, env, mh, z, mh', hr, he, hf, q⟩ := h
  cases hf
  exact q β H (Po.refl hr)
theorem o_some {e : Expr} {f : Run} (h : PX X e f) : PO X (some e) (tOs X.K fun env mh => match f env mh with
    | some (.v (.int i), mh) => some (some i, mh)
    | _ => none) := by
  refine PO_imp (po_some h) fun σ H Q h => ?_
  obtain ⟨β, env, mh, z, mh', hr, he, hf, q⟩ := h
  dsimp only at hf
  split at hf
  · rename_i i mh1 e1
    cases hf
    exact one_of hr he e1 fun β1 v H1 p1 d1 => ⟨i, d1.int, q β1 H1 p1⟩
  · cases hf
def rSl (K : PySem.W.Frag) : V → Option Int → Option Int → Hp → VK → Prop := fun x lo hi H Q => rSlA K x lo hi H Q ∨ (rSlL K x lo hi H Q ∨ rSlS x lo hi H Q)
theorem sl_all : SlR X (rSl X.K) := SlR.or sl_tupA (SlR.or sl_list sl_str)
theorem cut_den {K : PySem.W.Frag} {β : List Addr} {H : Hp} {ds : List D} {vs : List V} (l : DenL K β H ds vs) (lo hi : Option Int) : DenL K β H (cutD ds lo hi) (cutV vs lo hi) := by
  unfold cutD cutV
  rw [l.len]
  exact (l.drop _).take _
theorem cut_whole {ds : List D} {lo hi : Option Int} (h : HT.sIx ds.length 0 lo = 0 ∧ HT.sIx ds.length ds.length hi = ds.length) : cutD ds lo hi = ds := by
  unfold cutD
  rw [h.1, h.2]
  simp
theorem cut_val {K : PySem.W.Frag} {β : List Addr} {mh : MH} {H0 H : Hp} {x z : R} {v : V} {lo hi : Option Int} {Q : VK} (hr : HRel K β mh H) (dx : DenR K H0 β H x v) (e : cutR mh x lo hi = some z)
    (q : ∀ w H', Po K β H β H' mh → DenR K H β H' z w → Q w H') : rSl K v lo hi H Q := by
  have lst : ∀ {a : Addr} {vs : List V} {ds : List D}, v = .ref a → SqL K H a vs → DenL K β H ds vs → z = .l (cutD ds lo hi) → rSl K v lo hi H Q := fun {a vs ds} ev hl l ez => by
    subst ez
    exact .inr (.inl ⟨a, vs, ev, hl, fun p hp => q _ _ (Po.laid hr hp) (den_newl hr hp (cut_den l lo hi))⟩)
  unfold cutR at e
  split at e
  · rename_i xs
    cases e
    obtain ⟨a, vs, rfl, t1, l1⟩ := dx.tup
    refine .inl ⟨a, vs, rfl, t1, fun hw => ?_, fun _ p hp => q _ _ (Po.laid hr hp) (den_new hr hp (cut_den l1 lo hi))⟩
    refine q _ _ (Po.refl hr) ?_
    rw [cut_whole (by rw [l1.len]; exact hw)]
    exact Den.tup t1 l1
  · rename_i s
    split at e
    · rename_i hz
      cases e
      exact .inr (.inr ⟨s, dx.str, many_line hz, q _ _ (Po.refl hr) (Den.str _)⟩)
    · cases e
  · rename_i hn1 hn2
    cases e1 : seqOf mh x with
    | none => rw [e1] at e; cases e
    | some xs =>
      rw [e1] at e
      cases e
      cases x with
      | l ds =>
        cases e1
        obtain ⟨a, vs, rfl, _, _, h2, h3⟩ := dx
        exact lst rfl (SqL.of h2) h3 rfl
      | v d =>
        cases d with
        | ref n =>
          obtain ⟨a, vs, rfl, _, _, h2, h3⟩ := DenR.ref hr (show lstOf mh n = some xs from e1) dx
          exact lst rfl (SqL.of h2) h3 rfl
        | fz ds =>
          cases e1
          obtain ⟨a, vs, rfl, h2, h3⟩ := dx.fz
          exact lst rfl h2.1 h3 rfl
        | tup ds => exact absurd rfl (hn1 ds)
        | _ => cases e1
theorem x_slc {a : Expr} {lo hi : Option Expr} {p2 pos : Pos} {fa : Run} {fl fh : Env → MH → Option (Option Int × MH)} (ha : PX X a fa) (hl : PO X lo (tOs X.K fl)) (hh : PO X hi (tOs X.K fh)) :
    PX X (.Subscript a (.Slice lo hi none p2) pos) (fun env mh => match fa env mh with
      | some (x, mh) => match fl env mh with
        | some (l, mh) => match fh env mh with
          | some (h, mh) => (cutR mh x l h).map fun r => (r, mh)
          | none => none
        | none => none
      | none => none) := by
  refine PE_imp (pe_slice sl_all ha hl hh) fun σ H Q h => ?_
  obtain ⟨β, env, mh, z, mh', hr, he, hf, q⟩ := h
  dsimp only at hf
  cases e1 : fa env mh with
  | none => rw [e1] at hf; cases hf
  | some p =>
    obtain ⟨x, mh1⟩ := p
    simp only [e1] at hf
    cases e2 : fl env mh1 with
    | none => rw [e2] at hf; cases hf
    | some p =>
      obtain ⟨l, mh2⟩ := p
      simp only [e2] at hf
      cases e3 : fh env mh2 with
      | none => rw [e3] at hf; cases hf
      | some p =>
        obtain ⟨h, mh3⟩ := p
        simp only [e3] at hf
        cases e4 : cutR mh3 x l h with
        | none => rw [e4] at hf; cases hf
        | some r =>
          rw [e4] at hf
          cases hf
          refine one_of hr he e1 fun β1 v H1 p1 d1 => ?_
          refine ⟨β1, env, mh1, l, mh2, p1.rel, he.mono p1 hr, e2, fun β2 H2 p2 => ?_⟩
          refine ⟨β2, env, mh2, h, _, p2.rel, (he.mono p1 hr).mono p2 p1.rel, e3, fun β3 H3 p3 => ?_⟩
          have p13 := p2.trans p3
          have p03 := p1.trans p13
          exact cut_val p3.rel (d1.later p13 p1.rel) e4 fun w H' p4 d4 => q β3 w H' (p03.trans p4) (d4.back p03 p4.pre)
end
end Ev
set_option Elab.async false
set_option linter.all false
set_option maxRecDepth 100000
set_option maxHeartbeats 1000000
/-! EvRule4: calls of defs, built-ins. -/
namespace Ev
open PySem PySem.Spec PyProof.Rows L2
/-! ### e[::-1] -/
section
variable {X : Cx}
theorem x_rev {e : Expr} {f : Run} {k : Nat} {p1 p2 p3 pos : Pos} (he : PX X e f) : PX X (.Subscript e (.Slice none none (some (.UnaryOp .USub (.Constant (.int 1) k p1) p2)) p3) pos) (fun env mh => match f env mh with
    | some (x, mh) => (revR mh x).map fun r => (r, mh)
    | none => none) := by
  refine PE_imp (pe_revA he) fun σ H Q h => ?_
  obtain ⟨β, env, mh, z, mh', hr, hE, hf, q⟩ := h
  dsimp only at hf
  cases e1 : f env mh with
  | none => rw [e1] at hf; cases hf
  | some p =>
    obtain ⟨x, mh1⟩ := p
    simp only [e1] at hf
    cases e2 : revR mh1 x with
    | none => rw [e2] at hf; cases hf
    | some r =>
      rw [e2] at hf
      cases hf
      refine one_of hr hE e1 fun β1 v H1 p1 d1 => ?_
      have lst : ∀ {a : Addr} {vs : List V} {ds : List D}, v = .ref a → SqL X.K H1 a vs → DenL X.K β1 H1 ds vs → z = .l ds.reverse →
          ∃ a xs, v = .ref a ∧ ((SqL X.K H1 a xs ∧ ∀ p, H1 p = none → Q (.ref p) (upd H1 p (.lst xs.reverse))) ∨ (SqT X.K H1 a xs ∧ ∀ p, H1 p = none → Q (.ref p) (upd H1 p (.tup xs.reverse)))) := fun {a vs ds} ev hl l ez => by
        subst ez
        exact ⟨a, vs, ev, .inl ⟨hl, fun p hp => q β1 _ _ (p1.trans (Po.laid p1.rel hp)) ((den_newl p1.rel hp l.rev).back p1 fun _ _ e => e)⟩⟩
      unfold revR at e2
      split at e2
      · rename_i xs
        cases e2
        obtain ⟨a, vs, rfl, t1, l1⟩ := d1.tup
        exact ⟨a, vs, rfl, .inr ⟨t1, fun p hp => q β1 _ _ (p1.trans (Po.laid p1.rel hp)) ((den_new p1.rel hp l1.rev).back p1 fun _ _ e => e)⟩⟩
      · cases e2
      · rename_i hn1 hn2
        cases e3 : seqOf mh' x with
        | none => rw [e3] at e2; cases e2
        | some xs =>
          rw [e3] at e2
          cases e2
          cases x with
          | l ds =>
            cases e3
            obtain ⟨a, vs, rfl, _, _, h2, h3⟩ := d1
            exact lst rfl (SqL.of h2) h3 rfl
          | v d =>
            cases d with
            | ref n =>
              obtain ⟨a, vs, rfl, _, _, h2, h3⟩ := DenR.ref p1.rel (show lstOf mh' n = some xs from e3) d1
              exact lst rfl (SqL.of h2) h3 rfl
            | fz ds =>
              cases e3
              obtain ⟨a, vs, rfl, h2, h3⟩ := d1.fz
              exact lst rfl h2.1 h3 rfl
            | tup ds => exact absurd rfl (hn1 ds)
            | _ => cases e3
/-! ### calls of defs -/
/-- what a def promises: n values -/
def SpC (K : PySem.W.Frag) (C : CallF) (i n : Nat) : Sp := fun vs H Q _ => vs.length = n ∧ ∃ β mh ds r mh', HRel K β mh H ∧ DenL K β H ds vs ∧ C i ds mh = some (r, mh') ∧
  ∀ β' v H', Po K β H β' H' mh' → DenR K H β' H' r v → Q v H'
/-- a def that is called by a name -/
structure Cal (X : Cx) (C : CallF) (i n : Nat) (x : Str) : Prop where
  gl : Gl X x
  ex : ∃ (k : Nat) (f : Addr) (fd : FuncData) (ps : List Str), FnOk X.prog X.w X.K X.mg X.base CX0 k f fd ps (SpC X.K C i n) ∧ Room k X.A ∧ X.mg x = some (.ref f) ∧ PySem.W.keepIn X.K (.ref f) = true ∧ Binds X.K fd ps [] ∧ ps.length = n
theorem call_of {C : CallF} {i n : Nat} {g : Env → MH → Option (List D × MH)} {σ : L2.St} {H : Hp} {Q : VK}
    (h : tEx X.K (fun env mh => match g env mh with
      | some (ds, mh) => if Nat.beq ds.length n then C i ds mh else none
      | none => none) σ H Q) : tCall (SpC X.K C i n) [] E0 (tAs X.K g) σ H Q := by
  obtain ⟨β, env, mh, z, mh', hr, hE, hf, q⟩ := h
  dsimp only at hf
  cases e1 : g env mh with
  | none => rw [e1] at hf; cases hf
  | some p =>
    obtain ⟨ds, mh1⟩ := p
    simp only [e1] at hf
    by_cases hn : Nat.beq ds.length n = true
    · rw [if_pos hn] at hf
      refine ⟨β, env, mh, ds, mh1, hr, hE, e1, fun β1 vs H1 p1 d1 => ?_⟩
      refine ⟨by rw [List.append_nil, ← d1.len]; exact Nat.eq_of_beq_eq_true hn, β1, mh1, ds, z, mh', p1.rel, by rw [List.append_nil]; exact d1, hf, fun β2 v H2 p2 d2 => ?_⟩
      exact q β2 v H2 (p1.trans p2) (d2.back p1 p2.pre)
    · rw [if_neg hn] at hf; cases hf
theorem x_call {C : CallF} {i n : Nat} {x : Str} {p pos : Pos} {e : Expr} {es : List Expr} {g : Env → MH → Option (List D × MH)} (c : Cal X C i n x) (hdb : (x == ("__debug__" : Str)) = false)
    (ha : PA X (e :: es) (tAs X.K g)) (he : starEach (e :: es) X.env = (false, eval e X.env) :: starEach es X.env) (hpl : (backTo pos (starEach es X.env)).any (·.1) = false) :
    PX X (.Call (.Name x p) (e :: es) [] pos) (fun env mh => match g env mh with
      | some (ds, mh) => if Nat.beq ds.length n then C i ds mh else none
      | none => none) := by
  obtain ⟨k, f, fd, ps, F, hr, hm, hk, hb, hl⟩ := c.ex
  exact PE_imp (pe_call F hr c.gl hm hk hb .nil pass0 ha hdb he hpl) fun σ H Q h => call_of h
theorem x_call0 {C : CallF} {i n : Nat} {x : Str} {p pos : Pos} (c : Cal X C i n x) (hdb : (x == ("__debug__" : Str)) = false) :
    PX X (.Call (.Name x p) [] [] pos) (fun env mh => if Nat.beq 0 n then C i [] mh else none) := by
  obtain ⟨k, f, fd, ps, F, hr, hm, hk, hb, hl⟩ := c.ex
  refine PE_imp (pe_call0 F hr c.gl hm hk hb .nil pass0 hdb) fun σ H Q h => ?_
  obtain ⟨β, env, mh, z, mh', hr, hE, hf, q⟩ := h
  dsimp only at hf
  by_cases hn : Nat.beq 0 n = true
  · rw [if_pos hn] at hf
    exact ⟨Nat.eq_of_beq_eq_true hn, β, mh, [], z, mh', hr, .nil, hf, q⟩
  · rw [if_neg hn] at hf; cases hf
/-! ### built-ins -/
def BlV (K : PySem.W.Frag) (b : Bl) (r : List V → Hp → VK → Prop) : Prop :=
  ∀ (H0 : Hp) (β : List Addr) (mh : MH) (H : Hp) (rs : List R) (z : R) (vs : List V) (Q : VK), HRel K β mh H → DenRs K H0 β H rs vs → bltR mh b rs = some z →
    (∀ w H', Po K β H β H' mh → DenR K H β H' z w → Q w H') → r vs H Q
theorem x_blt {e : Expr} {b : Bl} {r : List V → Hp → VK → Prop} {g : Env → MH → Option (List R × MH)} (hp : PE X e (tCB r (tRs X.K g))) (hv : BlV X.K b r) : PX X e (fun env mh => match g env mh with
    | some (rs, mh) => (bltR mh b rs).map fun r => (r, mh)
    | none => none) := by
  refine PE_imp hp fun σ H Q h => ?_
  obtain ⟨β, env, mh, z, mh', hr, hE, hf, q⟩ := h
  dsimp only at hf
  cases e1 : g env mh with
  | none => rw [e1] at hf; cases hf
  | some p =>
    obtain ⟨rs, mh1⟩ := p
    simp only [e1] at hf
    cases e2 : bltR mh1 b rs with
    | none => rw [e2] at hf; cases hf
    | some r =>
      rw [e2] at hf
      cases hf
      exact ⟨β, env, mh, rs, _, hr, hE, e1, fun β1 vs H1 p1 d1 => hv H β1 _ H1 rs z vs Q p1.rel d1 e2 fun w H' p2 d2 => q β1 w H' (p1.trans p2) (d2.back p1 p2.pre)⟩
end
section
variable {K : PySem.W.Frag} {β : List Addr} {mh : MH} {H0 H : Hp}
theorem DenRs.one {r : R} {vs : List V} (h : DenRs K H0 β H [r] vs) : ∃ v, vs = [v] ∧ DenR K H0 β H r v := by
  cases h with
  | cons d l => cases l; exact ⟨_, rfl, d⟩
theorem DenRs.two {r s : R} {vs : List V} (h : DenRs K H0 β H [r, s] vs) : ∃ v u, vs = [v, u] ∧ DenR K H0 β H r v ∧ DenR K H0 β H s u := by
  cases h with
  | cons d l =>
    obtain ⟨u, rfl, d2⟩ := l.one
    exact ⟨_, u, rfl, d, d2⟩
theorem ints_den : ∀ {ds : List D} {ns : List Int} {vs : List V}, intsOf ds = some ns → DenL K β H ds vs → vs = ns.map V.int
  | [], _, _, e, l => by cases e; cases l; rfl
  | d :: ds, ns, _, e, .cons h l => by
    cases d with
    | int i =>
      cases h
      rw [intsOf] at e
      cases e1 : intsOf ds with
      | none => rw [e1] at e; cases e
      | some ms =>
        rw [e1] at e
        cases e
        rw [ints_den e1 l]
        rfl
    | _ => cases e
theorem lis_den {v : V} (hr : HRel K β mh H) {x : R} {xs : List D} (e : lisOf mh x = some xs) (h : DenR K H0 β H x v) : ∃ a vs, v = .ref a ∧ SqL K H a vs ∧ DenL K β H xs vs := by
  cases x with
  | l ds =>
    cases e
    obtain ⟨a, vs, h1, _, _, h2, h3⟩ := h
    exact ⟨a, vs, h1, SqL.of h2, h3⟩
  | v d =>
    cases d with
    | ref n =>
      obtain ⟨a, vs, h1, _, _, h2, h3⟩ := DenR.ref hr (show lstOf mh n = some xs from e) h
      exact ⟨a, vs, h1, SqL.of h2, h3⟩
    | fz ds =>
      cases e
      obtain ⟨a, vs, h1, h2, h3⟩ := h.fz
      exact ⟨a, vs, h1, h2.1, h3⟩
    | _ => cases e
theorem bv_len : BlV K .len (fun xs H Q => ∃ x n, xs = [x] ∧ LenV K x H n ∧ Q (.int n) H) := by
  intro H0 β mh H rs z vs Q hr d e q
  rw [bltR.eq_def] at e
  split at e <;> first | contradiction | skip
  · rename_i x heq
    obtain ⟨v, rfl, d1⟩ := d.one
    split at e
    · rename_i hz
      cases e
      obtain rfl := d1.str
      exact ⟨_, x.length, rfl, ⟨many_line hz, rfl⟩, q _ _ (Po.refl hr) (Den.int _)⟩
    · cases e
  · rename_i r hn heq
    obtain ⟨v, rfl, d1⟩ := d.one
    cases e1 : seqOf mh r with
    | none => rw [e1] at e; cases e
    | some xs =>
      rw [e1] at e
      cases e
      obtain ⟨a, ws, rfl, hs, l⟩ := seq_den hr e1 d1
      refine ⟨_, ws.length, rfl, ?_, ?_⟩
      · exact hs.imp (fun h => ⟨ws, h, rfl⟩) fun h => ⟨ws, h, rfl⟩
      · rw [← l.len]
        exact q _ _ (Po.refl hr) (Den.int _)
theorem bv_abs : BlV K .abs (fun xs H Q => ∃ i, xs = [.int i] ∧ Q (.int (if i < 0 then -i else i)) H) := by
  intro H0 β mh H rs z vs Q hr d e q
  rw [bltR.eq_def] at e
  split at e <;> first | contradiction | skip
  rename_i i heq
  cases e
  obtain ⟨v, rfl, d1⟩ := d.one
  obtain rfl := d1.int
  exact ⟨i, rfl, q _ _ (Po.refl hr) (Den.int _)⟩
theorem bv_max2 : BlV K .max2 (fun xs H Q => ∃ i j, xs = [.int i, .int j] ∧ Q (.int (if j > i then j else i)) H) := by
  intro H0 β mh H rs z vs Q hr d e q
  rw [bltR.eq_def] at e
  split at e <;> first | contradiction | skip
  rename_i i j heq
  cases e
  obtain ⟨v, u, rfl, d1, d2⟩ := d.two
  obtain rfl := d1.int
  obtain rfl := d2.int
  exact ⟨i, j, rfl, q _ _ (Po.refl hr) (Den.int _)⟩
theorem bv_min2 : BlV K .min2 (fun xs H Q => ∃ i j, xs = [.int i, .int j] ∧ Q (.int (if j < i then j else i)) H) := by
  intro H0 β mh H rs z vs Q hr d e q
  rw [bltR.eq_def] at e
  split at e <;> first | contradiction | skip
  rename_i i j heq
  cases e
  obtain ⟨v, u, rfl, d1, d2⟩ := d.two
  obtain rfl := d1.int
  obtain rfl := d2.int
  exact ⟨i, j, rfl, q _ _ (Po.refl hr) (Den.int _)⟩
theorem bv_int : BlV K .int (fun xs H Q => (∃ i, xs = [.int i] ∧ Q (.int i) H) ∨ ∃ k, xs = [.bl k] ∧ Q (.int (if k then 1 else 0)) H) := by
  intro H0 β mh H rs z vs Q hr d e q
  rw [bltR.eq_def] at e
  split at e <;> first | contradiction | skip
  · rename_i i heq
    cases e
    obtain ⟨v, rfl, d1⟩ := d.one
    obtain rfl := d1.int
    exact .inl ⟨i, rfl, q _ _ (Po.refl hr) (Den.int _)⟩
  · rename_i b heq
    cases e
    obtain ⟨v, rfl, d1⟩ := d.one
    obtain rfl := d1.bl
    exact .inr ⟨b, rfl, q _ _ (Po.refl hr) (Den.int _)⟩
theorem bv_tuple : BlV K .tuple (fun xs H Q => ∃ p ys, xs = [.ref p] ∧ ((SqL K H p ys ∧ ∀ l, H l = none → Q (.ref l) (upd H l (.tup ys))) ∨ (SqT K H p ys ∧ Q (.ref p) H))) := by
  intro H0 β mh H rs z vs Q hr d e q
  rw [bltR.eq_def] at e
  split at e <;> first | contradiction | skip
  rename_i r heq
  obtain ⟨v, rfl, d1⟩ := d.one
  cases e1 : seqOf mh r with
  | none => rw [e1] at e; cases e
  | some xs =>
    rw [e1] at e
    cases e
    obtain ⟨a, ws, rfl, hs, l⟩ := seq_den hr e1 d1
    refine ⟨a, ws, rfl, hs.imp (fun h => ⟨h, fun p hp => ?_⟩) fun h => ⟨h, ?_⟩⟩
    · exact q _ _ (Po.laid hr hp) (den_new hr hp l)
    · exact q _ _ (Po.refl hr) (Den.tup h l)
theorem bv_list : BlV K .list (fun xs H Q => ∃ p ys, xs = [.ref p] ∧ (SqL K H p ys ∨ SqT K H p ys) ∧ ∀ l, H l = none → Q (.ref l) (upd H l (.lst ys))) := by
  intro H0 β mh H rs z vs Q hr d e q
  rw [bltR.eq_def] at e
  split at e <;> first | contradiction | skip
  rename_i r heq
  obtain ⟨v, rfl, d1⟩ := d.one
  cases e1 : seqOf mh r with
  | none => rw [e1] at e; cases e
  | some xs =>
    rw [e1] at e
    cases e
    obtain ⟨a, ws, rfl, hs, l⟩ := seq_den hr e1 d1
    exact ⟨a, ws, rfl, hs, fun p hp => q _ _ (Po.laid hr hp) (den_newl hr hp l)⟩
end
/-! all, any, max, min of lists and tuples -/
def rTru (K : PySem.W.Frag) (al : Bool) : List V → Hp → VK → Prop := fun vs H Q => ∃ β a ws ds bs, vs = [.ref a] ∧ (SqL K H a ws ∨ SqT K H a ws) ∧ DenL K β H ds ws ∧ truthsOf ds = some bs ∧ Q (.bl (if al then bs.all id else bs.any id)) H
def rBest (K : PySem.W.Frag) (mx : Bool) : List V → Hp → VK → Prop := fun vs H Q => ∃ a i is, vs = [.ref a] ∧ (SqL K H a ((i :: is).map V.int) ∨ SqT K H a ((i :: is).map V.int)) ∧ Q (.int (if mx then maxI i is else minI i is)) H
theorem truths_py : ∀ {ds : List D} {bs : List Bool}, truthsOf ds = some bs → (D.pys ds).all PyData.truthy = bs.all id ∧ (D.pys ds).any PyData.truthy = bs.any id ∧ PyData.plainAll (D.pys ds) = true ∧ (∀ x ∈ D.pys ds, PyData.fits63 x) ∧ ∀ d ∈ ds, okd deep d = true
  | [], _, e => by cases e; exact ⟨rfl, rfl, rfl, (fun x h => nomatch h), (fun x h => nomatch h)⟩
  | d :: ds, bs, e => by
    cases d with
    | int i =>
      rw [truthsOf] at e
      cases e1 : truthsOf ds with
      | none => rw [e1] at e; cases e
      | some cs =>
        rw [e1] at e
        cases e
        obtain ⟨h1, h2, h3, h4, h5⟩ := truths_py e1
        refine ⟨by rw [D.pys, List.all_cons, List.all_cons, h1]; rfl, by rw [D.pys, List.any_cons, List.any_cons, h2]; rfl, h3, fun x hx => ?_, fun x hx => ?_⟩
        · rcases List.mem_cons.mp hx with rfl | hx
          · exact True.intro
          · exact h4 x hx
        · rcases List.mem_cons.mp hx with rfl | hx
          · rfl
          · exact h5 x hx
    | bl b =>
      rw [truthsOf] at e
      cases e1 : truthsOf ds with
      | none => rw [e1] at e; cases e
      | some cs =>
        rw [e1] at e
        cases e
        obtain ⟨h1, h2, h3, h4, h5⟩ := truths_py e1
        refine ⟨by rw [D.pys, List.all_cons, List.all_cons, h1]; rfl, by rw [D.pys, List.any_cons, List.any_cons, h2]; rfl, h3, fun x hx => ?_, fun x hx => ?_⟩
        · rcases List.mem_cons.mp hx with rfl | hx
          · exact True.intro
          · exact h4 x hx
        · rcases List.mem_cons.mp hx with rfl | hx
          · rfl
          · exact h5 x hx
    | _ => cases e
section
variable {X : Cx}
theorem cr_tru (hc : X.calm = true) (al : Bool) : CallR X (.builtin (if al then "all" else "any")) (rTru X.K al) := by
  intro pins s σ H vs us Q I r h
  obtain ⟨β, a, ws, ds, bs, rfl, hs, l, e, q⟩ := h
  obtain ⟨t1, t2, t3, t4, t5⟩ := truths_py e
  rw [Vals.ref1 r]
  have fin : ∀ (h' : Heap) (tk : Nat), (∀ b o, s.heap.get? b = some o → h'.get? b = some o) → EP X pins σ Q (.bool (if al then bs.all id else bs.any id)) { s with heap := h', toks := tk } := fun h' tk hk => ⟨.bl _, H, I.kept hk, rfl, q⟩
  rcases hs with hs | hs
  · obtain ⟨its, rv, hl, _⟩ := I.list hs
    obtain ⟨as, ra⟩ := Dp.readsAll I (D.pys ds) ws its (l.dp t5) rv
    cases al with
    | true => exact PySem.W.all_list_data (I.ok.hd hc) hl.isList ra t3 t4 fun h' tk hk => by rw [t1]; exact fin h' tk hk
    | false => exact PySem.W.any_list_data (I.ok.hd hc) hl.isList ra t3 t4 fun h' tk hk => by rw [t2]; exact fin h' tk hk
  · obtain ⟨its, rv, hl, _⟩ := I.tuple hs
    obtain ⟨as, ra⟩ := Dp.readsAll I (D.pys ds) ws its (l.dp t5) rv
    cases al with
    | true => exact PySem.W.all_tuple_data (I.ok.hd hc) hl ra t3 t4 fun h' tk hk => by rw [t1]; exact fin h' tk hk
    | false => exact PySem.W.any_tuple_data (I.ok.hd hc) hl ra t3 t4 fun h' tk hk => by rw [t2]; exact fin h' tk hk
end
theorem bv_all {K : PySem.W.Frag} : BlV K .all (rTru K true) := by
  intro H0 β mh H rs z vs Q hr d e q
  rw [bltR.eq_def] at e
  split at e <;> first | contradiction | skip
  rename_i r heq
  obtain ⟨v, rfl, d1⟩ := d.one
  cases e1 : seqOf mh r with
  | none => rw [e1] at e; cases e
  | some xs =>
    rw [e1] at e
    have e : (truthsOf xs).map (fun bs => R.v (.bl (bs.all id))) = some z := e
    cases e2 : truthsOf xs with
    | none => rw [e2] at e; cases e
    | some bs =>
      rw [e2] at e
      cases e
      obtain ⟨a, ws, rfl, hs, l⟩ := seq_den hr e1 d1
      exact ⟨β, a, ws, xs, bs, rfl, hs, l, e2, q _ _ (Po.refl hr) (Den.bl _)⟩
theorem bv_any {K : PySem.W.Frag} : BlV K .any (rTru K false) := by
  intro H0 β mh H rs z vs Q hr d e q
  rw [bltR.eq_def] at e
  split at e <;> first | contradiction | skip
  rename_i r heq
  obtain ⟨v, rfl, d1⟩ := d.one
  cases e1 : seqOf mh r with
  | none => rw [e1] at e; cases e
  | some xs =>
    rw [e1] at e
    have e : (truthsOf xs).map (fun bs => R.v (.bl (bs.any id))) = some z := e
    cases e2 : truthsOf xs with
    | none => rw [e2] at e; cases e
    | some bs =>
      rw [e2] at e
      cases e
      obtain ⟨a, ws, rfl, hs, l⟩ := seq_den hr e1 d1
      exact ⟨β, a, ws, xs, bs, rfl, hs, l, e2, q _ _ (Po.refl hr) (Den.bl _)⟩
theorem bv_sum {K : PySem.W.Frag} : BlV K .sum (rSum K) := by
  intro H0 β mh H rs z vs Q hr d e q
  rw [bltR.eq_def] at e
  split at e <;> first | contradiction | skip
  rename_i r heq
  obtain ⟨v, rfl, d1⟩ := d.one
  cases e1 : lisOf mh r with
  | none => rw [e1] at e; cases e
  | some xs =>
    rw [e1] at e
    have e : (intsOf xs).map (fun is => R.v (.int is.sum)) = some z := e
    cases e2 : intsOf xs with
    | none => rw [e2] at e; cases e
    | some bs =>
      rw [e2] at e
      cases e
      obtain ⟨a, ws, rfl, hs, l⟩ := lis_den hr e1 d1
      rw [ints_den e2 l] at hs
      exact ⟨a, bs, rfl, hs, q _ _ (Po.refl hr) (Den.int _)⟩
theorem reads_den {X : Cx} {pins : List (Addr × Obj)} {σ : L2.St} {H : Hp} {s : Shared} {β : List Addr} {ds : List D} {ws : List V} {us : List Value} (I : Inv X pins σ H s) (l : DenL X.K β H ds ws) (k : ∀ d ∈ ds, okd deep d = true) (r : Vals ws us) : ∃ as, ReadsAll s.heap us (D.pys ds) as := Dp.readsAll I (D.pys ds) ws us (l.dp k) r
end Ev
set_option Elab.async false
set_option linter.all false
set_option maxRecDepth 100000
set_option maxHeartbeats 1000000
/-! EvRule5: max, min; isinstance; methods. -/
namespace Ev
open PySem PySem.Spec PyProof.Rows L2
/-! ### max, min of a list or tuple -/
theorem maxI_fold : ∀ (is : List Int) (i : Int), is.foldl max i = maxI i is
  | [], _ => rfl
  | j :: is, i => by
    rw [List.foldl_cons, maxI, maxI_fold is, show max i j = if j > i then j else i by rw [Int.max_def]; split <;> split <;> omega]
theorem minI_fold : ∀ (is : List Int) (i : Int), is.foldl min i = minI i is
  | [], _ => rfl
  | j :: is, i => by
    rw [List.foldl_cons, minI, minI_fold is, show min i j = if j < i then j else i by rw [Int.min_def]; split <;> split <;> omega]
theorem ints_alike (ns : List Int) : PySem.W.AlikeAll (ns.map PyData.int) := by
  refine ⟨fun x hx y hy => ?_, fun x hx => ?_⟩
  · obtain ⟨i, _, rfl⟩ := List.mem_map.mp hx
    obtain ⟨j, _, rfl⟩ := List.mem_map.mp hy
    rfl
  · obtain ⟨i, _, rfl⟩ := List.mem_map.mp hx
    exact fun h => nomatch h
theorem ints_depth : ∀ ns : List Int, PyData.depthAll (ns.map PyData.int) = 0
  | [] => rfl
  | n :: ns => by
    rw [List.map_cons, PyData.depthAll, ints_depth ns]
    rfl
theorem ints_dp {K : PySem.W.Frag} {H : Hp} : ∀ ns : List Int, DpAll K H (ns.map V.int) (ns.map PyData.int)
  | [] => .nil
  | n :: ns => .cons (.int n) (ints_dp ns)
theorem read_int {h : Heap} {v : Value} {n : Int} {as : List Addr} (r : Reads h v (.int n) as) : RelV (.int n) v := by
  cases r
  exact ⟨_, rfl⟩
section
variable {X : Cx}
theorem cr_best (hc : X.calm = true) (hu : X.A.units + 64 < cLine) (mx : Bool) : CallR X (.builtin (if mx then "max" else "min")) (rBest X.K mx) := by
  intro pins s σ H vs us Q I r h
  obtain ⟨a, i, is, rfl, hs, q⟩ := h
  rw [Vals.ref1 r]
  have hd : PyData.depthAll (PyData.int i :: is.map PyData.int) = 0 := ints_depth (i :: is)
  have hu2 : X.A.units + 1 + PyData.depthAll (PyData.int i :: is.map PyData.int) < cLine := by rw [hd]; omega
  have fin : ∀ (v : Value) (h' : Heap) (tk : Nat) (bs : List Addr), Reads h' v (PyData.int (if mx then maxI i is else minI i is)) bs → (∀ b o, s.heap.get? b = some o → h'.get? b = some o) → EP X pins σ Q v { s with heap := h', toks := tk } :=
    fun v h' tk bs rd hk => ⟨_, H, I.kept hk, read_int rd, q⟩
  rcases hs with hs | hs
  · obtain ⟨its, rv, hl, _⟩ := I.list hs
    obtain ⟨as, ra⟩ := Dp.readsAll I ((i :: is).map PyData.int) _ its (ints_dp (i :: is)) rv
    cases mx with
    | true =>
      exact PySem.W.max_list_data (I.ok.hd hc) hl.isList ra (ints_alike (i :: is)) hu2 fun j v h' tk bs _ rd hk => by
        rw [PySem.W.maxD_ints, maxI_fold] at rd
        exact fin v h' tk bs rd hk
    | false =>
      exact PySem.W.min_list_data (I.ok.hd hc) hl.isList ra (ints_alike (i :: is)) hu2 fun j v h' tk bs _ rd hk => by
        rw [PySem.W.minD_ints, minI_fold] at rd
        exact fin v h' tk bs rd hk
  · obtain ⟨its, rv, hl, _⟩ := I.tuple hs
    obtain ⟨as, ra⟩ := Dp.readsAll I ((i :: is).map PyData.int) _ its (ints_dp (i :: is)) rv
    cases mx with
    | true =>
      exact PySem.W.max_tuple_data (I.ok.hd hc) hl ra (ints_alike (i :: is)) hu2 fun j v h' tk bs _ rd hk => by
        rw [PySem.W.maxD_ints, maxI_fold] at rd
        exact fin v h' tk bs rd hk
    | false =>
      exact PySem.W.min_tuple_data (I.ok.hd hc) hl ra (ints_alike (i :: is)) hu2 fun j v h' tk bs _ rd hk => by
        rw [PySem.W.minD_ints, minI_fold] at rd
        exact fin v h' tk bs rd hk
end
section
variable {K : PySem.W.Frag}
theorem bv_maxs : BlV K .maxs (rBest K true) := by
  intro H0 β mh H rs z vs Q hr d e q
  rw [bltR.eq_def] at e
  split at e <;> first | contradiction | skip
  rename_i r heq
  obtain ⟨v, rfl, d1⟩ := d.one
  split at e
  · rename_i i is e1
    cases e
    cases e2 : seqOf mh r with
    | none => rw [e2] at e1; cases e1
    | some xs =>
      rw [e2] at e1
      have e1 : intsOf xs = some (i :: is) := e1
      obtain ⟨a, ws, rfl, hs, l⟩ := seq_den hr e2 d1
      rw [ints_den e1 l] at hs
      exact ⟨a, i, is, rfl, hs, q _ _ (Po.refl hr) (Den.int _)⟩
  · cases e
theorem bv_mins : BlV K .mins (rBest K false) := by
  intro H0 β mh H rs z vs Q hr d e q
  rw [bltR.eq_def] at e
  split at e <;> first | contradiction | skip
  rename_i r heq
  obtain ⟨v, rfl, d1⟩ := d.one
  split at e
  · rename_i i is e1
    cases e
    cases e2 : seqOf mh r with
    | none => rw [e2] at e1; cases e1
    | some xs =>
      rw [e2] at e1
      have e1 : intsOf xs = some (i :: is) := e1
      obtain ⟨a, ws, rfl, hs, l⟩ := seq_den hr e2 d1
      rw [ints_den e1 l] at hs
      exact ⟨a, i, is, rfl, hs, q _ _ (Po.refl hr) (Den.int _)⟩
  · cases e
end
end Ev
set_option Elab.async false
set_option linter.all false
set_option maxRecDepth 100000
set_option maxHeartbeats 1000000
/-! EvRule6: isinstance, methods. -/
namespace Ev
open PySem PySem.Spec PyProof.Rows L2
def tyName : R → String
  | .l _ => "list"
  | .v .non => "NoneType"
  | .v (.bl _) => "bool"
  | .v (.int _) => "int"
  | .v (.str _) => "str"
  | .v (.tup _) => "tuple"
  | .v (.fz _) => "list"
  | .v (.ref _) => "list"
def tyStr : Ty → String
  | .int => "int" | .bool => "bool" | .str => "str" | .tuple => "tuple" | .list => "list"
theorem kit_all : ∀ a ∈ ["list", "NoneType", "bool", "int", "str", "tuple"], ∀ b ∈ ["int", "bool", "str", "tuple", "list"], kitB a b = some (decide (a = b) || (decide (a = "bool") && decide (b = "int"))) := by decide +kernel
theorem kit_inst {r : R} {t : Ty} {mh : MH} {b : Bool} (e : instD t r mh = some b) : kitB (tyName r) (tyStr t) = some b := by
  have h := kit_all (tyName r) (by cases r with
    | l _ => simp [tyName]
    | v d => cases d <;> simp [tyName]) (tyStr t) (by cases t <;> decide)
  rw [h, ← e]
  cases r with
  | l _ => cases t <;> rfl
  | v d => cases d <;> cases t <;> rfl
section
variable {K : PySem.W.Frag} {β : List Addr} {mh : MH} {H0 H : Hp} {v : V}
theorem sqT_ty {a : Addr} {vs : List V} (h : SqT K H a vs) : TyX K H (.ref a) (.type "tuple") := by
  rcases h with (h | ⟨o, h⟩) | ⟨o, its, n, h1, h2, _⟩
  · exact .base (.tup h)
  · exact .fTuple h
  · exact .kTuple h1 h2
theorem sqL_ty {a : Addr} {vs : List V} (h : SqL K H a vs) : TyX K H (.ref a) (.type "list") := by
  rcases h with (h | ⟨o, h⟩) | ⟨o, its, n, h1, h2, _⟩
  · exact .base (.lst h)
  · exact .base (.frz h)
  · exact .kList h1 h2
theorem ty_den (hr : HRel K β mh H) {x : R} (h : DenR K H0 β H x v) : TyX K H v (.type (tyName x)) := by
  cases x with
  | l ds =>
    obtain ⟨a, vs, rfl, _, _, h2, h3⟩ := h
    exact .base (.lst h2)
  | v d =>
    cases d with
    | non => obtain rfl := h.non; exact .base .non
    | bl b => obtain rfl := h.bl; exact .base (.bl b)
    | int i => obtain rfl := h.int; exact .base (.int i)
    | str s => obtain rfl := h.str; exact .base (.str s)
    | tup ds => obtain ⟨a, vs, rfl, t, _⟩ := h.tup; exact sqT_ty t
    | fz ds => obtain ⟨a, vs, rfl, t, _⟩ := h.fz; exact sqL_ty t.1
    | ref n =>
      have h' : Den K β H (.ref n) v := h
      cases h' with
      | ref eb =>
        obtain ⟨o, e, r⟩ := hr.there eb
        cases o with
        | lst xs =>
          obtain ⟨vs, e1, _⟩ := r
          exact .base (.lst e1)
end
section
variable {X : Cx}
theorem x_inst {a : Expr} {t : Ty} {p p2 pos : Pos} {T : Str} {f : Run} (hg : Gl X "isinstance") (hm : X.mg "isinstance" = none) (hgT : Gl X T) (hmT : X.mg T = none) (hT : bootBuiltins T = some (.type (tyStr t))) (hn : T ≠ "__name__") (hd : (T == ("__debug__" : Str)) = false)
    (ha : PX X a f) (he : starEach [a, .Name T p2] X.env = (false, eval a X.env) :: starEach [.Name T p2] X.env) :
    PX X (.Call (.Name "isinstance" p) [a, .Name T p2] [] pos) (fun env mh => match f env mh with
      | some (x, mh) => (instD t x mh).map fun b => (.v (.bl b), mh)
      | none => none) := by
  refine PE_imp (pe_callB call_isi hg hm (by decide +kernel) (pa_cons ha (pa_cons (pe_bltn (v := .ty (tyStr t)) hgT hmT hT rfl hn hd) pa_nil rfl) he) (by decide) (by decide) he rfl) fun σ H Q h => ?_
  obtain ⟨β, env, mh, z, mh', hr, hE, hf, q⟩ := h
  dsimp only at hf
  cases e1 : f env mh with
  | none => rw [e1] at hf; cases hf
  | some p =>
    obtain ⟨x, mh1⟩ := p
    simp only [e1] at hf
    cases e2 : instD t x mh1 with
    | none => rw [e2] at hf; cases hf
    | some b =>
      rw [e2] at hf
      cases hf
      refine one_of hr hE e1 fun β1 v H1 p1 d1 => ?_
      exact ⟨v, .ty (tyStr t), _, _, b, rfl, .ty _, ty_den p1.rel d1, kit_ty (kit_inst e2), q β1 _ H1 p1 (Den.bl b)⟩
/-! ### methods -/
def MtV (K : PySem.W.Frag) (m : Mt) (r : V → List V → Hp → VK → Prop) : Prop :=
  ∀ (H0 : Hp) (β : List Addr) (mh : MH) (H : Hp) (x : R) (rs : List R) (z : R) (mh' : MH) (v : V) (vs : List V) (Q : VK), HRel K β mh H → DenR K H0 β H x v → DenRs K H0 β H rs vs → mtR m x rs mh = some (z, mh') →
    (∀ w H', Po K β H β H' mh' → DenR K H β H' z w → Q w H') → r v vs H Q
theorem mt_ref {m : Mt} {x : R} {rs : List R} {z : R × MH} {mh : MH} (e : mtR m x rs mh = some z) : ∃ n xs, x = .v (.ref n) ∧ mh[n]? = some (.lst xs) := by
  unfold mtR at e
  split at e <;> first | contradiction | skip
  · split at e
    · rename_i e1; exact ⟨_, _, rfl, e1⟩
    · cases e
  · split at e
    · rename_i e1 _; exact ⟨_, _, rfl, e1⟩
    · cases e
  · split at e
    · rename_i e1; exact ⟨_, _, rfl, e1⟩
    · cases e
theorem ref_den {K : PySem.W.Frag} {β : List Addr} {mh : MH} {H0 H : Hp} {n : Nat} {xs : List D} {v : V} (hr : HRel K β mh H) (e : mh[n]? = some (.lst xs)) (h : DenR K H0 β H (.v (.ref n)) v) : ∃ a vs, v = .ref a ∧ β[n]? = some a ∧ H a = some (.lst vs) ∧ DenL K β H xs vs := by
  obtain ⟨a, vs, h1, h2, _, h4, h5⟩ := DenR.ref hr (show lstOf mh n = some xs by unfold lstOf; rw [e]) h
  exact ⟨a, vs, h1, h2, h4, h5⟩
theorem mv_append {K : PySem.W.Frag} : MtV K .append rAppend := by
  intro H0 β mh H x rs z mh' v vs Q hr dx ds e q
  rw [mtR.eq_def] at e
  split at e <;> first | contradiction | skip
  rename_i n d mh heq
  obtain ⟨u, rfl, d1⟩ := ds.one
  split at e
  · rename_i xs e1
    split at e
    · rename_i hz
      cases e
      obtain ⟨a, ws, rfl, eb, ea, l⟩ := ref_den hr e1 dx
      refine ⟨a, ws, u, rfl, rfl, ea, by rw [← l.len]; exact Nat.lt_of_lt_of_le hz (by decide), ?_⟩
      exact q _ _ (Po.write hr e1 eb (l.app (.cons d1 .nil))) Den.non
    · cases e
  · cases e
theorem mv_extend {K : PySem.W.Frag} : MtV K .extend rExtend := by
  intro H0 β mh H x rs z mh' v vs Q hr dx ds e q
  rw [mtR.eq_def] at e
  split at e <;> first | contradiction | skip
  rename_i n r mh heq
  obtain ⟨u, rfl, d1⟩ := ds.one
  split at e
  · rename_i xs ys e1 e2
    split at e
    · rename_i hz
      cases e
      obtain ⟨a, ws, rfl, eb, ea, l⟩ := ref_den hr e1 dx
      obtain ⟨b, us, rfl, ea2, l2⟩ := own_den hr e2 d1
      refine ⟨a, b, ws, us, rfl, rfl, ea, ea2, by rw [← l.len, ← l2.len]; exact many_line hz, ?_⟩
      exact q _ _ (Po.write hr e1 eb (l.app l2)) Den.non
    · cases e
  · cases e
theorem mv_pop {K : PySem.W.Frag} : MtV K .pop rPop := by
  intro H0 β mh H x rs z mh' v vs Q hr dx ds e q
  rw [mtR.eq_def] at e
  split at e <;> first | contradiction | skip
  rename_i n mh heq
  cases ds
  split at e
  · rename_i xs e1
    split at e
    · rename_i y e2
      cases e
      obtain ⟨a, ws, rfl, eb, ea, l⟩ := ref_den hr e1 dx
      obtain ⟨u, e3, d3⟩ := l.get e2
      have p := Po.write hr e1 eb l.dropLast
      refine ⟨a, ws, u, rfl, rfl, ea, by rw [← l.len]; exact e3, ?_⟩
      exact q _ _ p (p.den hr d3)
    · cases e
  · cases e
theorem x_mt {e o : Expr} {m : Mt} {r : V → List V → Hp → VK → Prop} {f : Run} {g : Env → MH → Option (List R × MH)} (hp : PE X e (tBM X.K "list" r (tEx X.K f) (tRs X.K g))) (hv : MtV X.K m r) : PX X e (fun env mh => match f env mh with
    | some (x, mh) => match g env mh with
      | some (rs, mh) => mtR m x rs mh
      | none => none
    | none => none) := by
  refine PE_imp hp fun σ H Q h => ?_
  obtain ⟨β, env, mh, z, mh', hr, hE, hf, q⟩ := h
  dsimp only at hf
  cases e1 : f env mh with
  | none => rw [e1] at hf; cases hf
  | some p =>
    obtain ⟨x, mh1⟩ := p
    simp only [e1] at hf
    cases e2 : g env mh1 with
    | none => rw [e2] at hf; cases hf
    | some p =>
      obtain ⟨rs, mh2⟩ := p
      simp only [e2] at hf
      refine one_of hr hE e1 fun β1 v H1 p1 d1 => ⟨?_, β1, env, mh1, rs, mh2, p1.rel, hE.mono p1 hr, e2, fun β2 vs H2 p2 d2 => ?_⟩
      · obtain ⟨n, xs, rfl, _⟩ := mt_ref hf
        have d1' : Den X.K β1 H1 (.ref n) v := d1
        cases d1' with
        | ref eb =>
          obtain ⟨oo, e, rr⟩ := p1.rel.there eb
          cases oo with
          | lst xs =>
            obtain ⟨ws, e1, _⟩ := rr
            exact .inl ⟨rfl, ws, SqL.of e1⟩
      · exact hv H β2 mh2 H2 x rs z mh' v vs Q p2.rel (d1.later p2 p1.rel) (d2.back p1 p2.pre) hf fun w H3 p3 d3 => q β2 w H3 ((p1.trans p2).trans p3) (d3.back (p1.trans p2) p3.pre)
theorem x_mt0 {e o : Expr} {m : Mt} {r : V → List V → Hp → VK → Prop} {f : Run} (hp : PE X e (tBM0 X.K "list" r (tEx X.K f))) (hv : MtV X.K m r) : PX X e (fun env mh => match f env mh with
    | some (x, mh) => mtR m x [] mh
    | none => none) := by
  refine PE_imp hp fun σ H Q h => ?_
  obtain ⟨β, env, mh, z, mh', hr, hE, hf, q⟩ := h
  dsimp only at hf
  cases e1 : f env mh with
  | none => rw [e1] at hf; cases hf
  | some p =>
    obtain ⟨x, mh1⟩ := p
    simp only [e1] at hf
    refine one_of hr hE e1 fun β1 v H1 p1 d1 => ⟨?_, ?_⟩
    · obtain ⟨n, xs, rfl, _⟩ := mt_ref hf
      have d1' : Den X.K β1 H1 (.ref n) v := d1
      cases d1' with
      | ref eb =>
        obtain ⟨oo, e, rr⟩ := p1.rel.there eb
        cases oo with
        | lst xs =>
          obtain ⟨ws, e1, _⟩ := rr
          exact .inl ⟨rfl, ws, SqL.of e1⟩
    · exact hv H β1 mh1 H1 x [] z mh' v [] Q p1.rel d1 .nil hf fun w H3 p3 d3 => q β1 w H3 (p1.trans p3) (d3.back p1 p3.pre)
end
end Ev
set_option Elab.async false
set_option linter.all false
set_option maxRecDepth 100000
set_option maxHeartbeats 1000000
/-! EvStmt1: targets, blocks, small statements. -/
namespace Ev
open PySem PySem.Spec PyProof.Rows L2
/-! ### targets -/
theorem EnvRel.set {K : PySem.W.Frag} {β : List Addr} {H : Hp} {env : Env} {σ : L2.St} (h : EnvRel K β H env σ) (i : Nat) {d : D} {v : V} (hd : Den K β H d v) : EnvRel K β H (env.set i (some d)) (σ.set i (some v)) := by
  refine ⟨by rw [List.length_set, List.length_set]; exact h.len, fun j e q => ?_⟩
  by_cases hj : i = j
  · subst hj
    have hl : i < env.length := by
      have := (List.getElem?_eq_some_iff.mp q).1
      rwa [List.length_set] at this
    rw [List.getElem?_set_self hl] at q
    cases q
    exact ⟨v, by rw [List.getElem?_set_self (by rw [← h.len]; exact hl)], hd⟩
  · rw [List.getElem?_set_ne hj] at q
    rw [List.getElem?_set_ne hj]
    exact h.at_ j e q
theorem EnvRel.wipe {K : PySem.W.Frag} {β : List Addr} {H : Hp} {env : Env} {σ : L2.St} (h : EnvRel K β H env σ) : ∀ vs : List Nat, EnvRel K β H (wipeE env vs) (L2.wipe σ vs)
  | [] => h
  | i :: vs => by
    have r := h.wipe vs
    unfold wipeE L2.wipe
    refine ⟨by rw [List.length_set, List.length_set]; exact r.len, fun j e q => ?_⟩
    by_cases hj : i = j
    · subst hj
      have hl : i < (wipeE env vs).length := by
        have := (List.getElem?_eq_some_iff.mp q).1
        rwa [List.length_set] at this
      rw [List.getElem?_set_self hl] at q
      cases q
    · rw [List.getElem?_set_ne hj] at q
      rw [List.getElem?_set_ne hj]
      exact r.at_ j e q
theorem wipe_get {σ : L2.St} : ∀ {vs : List Nat} {j : Nat}, j ∈ vs → j < σ.length → (wipe σ vs)[j]? = some none
  | v :: vs, j, h, hl => by
    unfold wipe
    by_cases hj : v = j
    · subst hj
      rw [List.getElem?_set_self (by rw [wipe_length]; exact hl)]
    · rw [List.getElem?_set_ne hj]
      rcases List.mem_cons.mp h with z | z
      · exact absurd z.symm hj
      · exact wipe_get z hl
/-- a slot of the block's own is written -/
theorem wipe_same {σ : L2.St} {vs : List Nat} {i : Nat} {o : Option V} (h : i ∈ vs) : wipe (σ.set i o) vs = wipe σ vs := by
  refine List.ext_getElem? fun j => ?_
  by_cases hj : j ∈ vs
  · by_cases hl : j < σ.length
    · rw [wipe_get hj (by rw [List.length_set]; exact hl), wipe_get hj hl]
    · rw [List.getElem?_eq_none (by rw [wipe_length, List.length_set]; omega), List.getElem?_eq_none (by rw [wipe_length]; omega)]
  · rw [wipe_out hj, wipe_out hj, List.getElem?_set_ne (fun z => hj (by rw [← z]; exact h))]
theorem wipe_idem {σ : L2.St} {vs : List Nat} : wipe (wipe σ vs) vs = wipe σ vs := by
  refine List.ext_getElem? fun j => ?_
  by_cases hj : j ∈ vs
  · by_cases hl : j < σ.length
    · rw [wipe_get hj (by rw [wipe_length]; exact hl), wipe_get hj hl]
    · rw [List.getElem?_eq_none (by rw [wipe_length, wipe_length]; omega), List.getElem?_eq_none (by rw [wipe_length]; omega)]
  · rw [wipe_out hj]
def tTg (K : PySem.W.Frag) (t : Tg) : TG := fun v σ H Q => ∃ β env d env', EnvRel K β H env σ ∧ Den K β H d v ∧ asgT t d env = some env' ∧
  ∀ σ', EnvRel K β H env' σ' → (∀ vs, (∀ i ∈ tgIx t, i ∈ vs) → wipe σ' vs = wipe σ vs) → Q σ' H
def tTgs (K : PySem.W.Frag) (ts : List Tg) : TGs := fun xs σ H Q => ∃ β env ds env', EnvRel K β H env σ ∧ DenL K β H ds xs ∧ asgTs ts ds env = some env' ∧
  ∀ σ', EnvRel K β H env' σ' → (∀ vs, (∀ i ∈ tgIxs ts, i ∈ vs) → wipe σ' vs = wipe σ vs) → Q σ' H
section
variable {X : Cx}
theorem PG_imp {e : Expr} {t t' : TG} (h : PG X e t) (i : ∀ v σ H Q, t' v σ H Q → t v σ H Q) : PG X e t' := ⟨fun pins s σ H v u Q I r q => h.run pins s σ H v u Q I r (i v σ H Q q)⟩
theorem PGs_imp {e : List Expr} {t t' : TGs} (h : PGs X e t) (i : ∀ v σ H Q, t' v σ H Q → t v σ H Q) : PGs X e t' := ⟨fun pins s σ H v u Q I r q => h.run pins s σ H v u Q I r (i v σ H Q q)⟩
theorem g_name {i : Nat} {x : Str} {pos : Pos} (hN : X.N.Nodup) (hi : X.N[i]? = some x) (hx : Loc X.env.scope x) (hf : X.fn x = true ∨ X.env.scope.names.lookup x = some .local) : PG X (.Name x pos) (tTg X.K (.nm i)) := by
  refine PG_imp (pg_name hN hi hx hf) fun v σ H Q h => ?_
  obtain ⟨β, env, d, env', he, hd, ha, q⟩ := h
  rw [asgT] at ha
  cases ha
  exact q _ (he.set i hd) fun vs hv => wipe_same (hv i (by rw [tgIx]; exact List.mem_singleton.mpr rfl))
theorem gs_nil : PGs X [] (tTgs X.K []) := by
  refine PGs_imp pgs_nil fun v σ H Q h => ?_
  obtain ⟨β, env, ds, env', he, hd, ha, q⟩ := h
  cases hd with
  | nil =>
    rw [asgTs] at ha
    cases ha
    exact ⟨rfl, q σ he fun _ _ => rfl⟩
  | cons h l => rw [asgTs] at ha <;> first | cases ha | (intros; contradiction)
theorem gs_cons {e : Expr} {es : List Expr} {t : Tg} {ts : List Tg} (h1 : PG X e (tTg X.K t)) (h2 : PGs X es (tTgs X.K ts)) (hs : (assignEach (e :: es) X.env).map (·.2) = assign e X.env :: (assignEach es X.env).map (·.2)) : PGs X (e :: es) (tTgs X.K (t :: ts)) := by
  refine PGs_imp (pgs_cons h1 h2 hs) fun v σ H Q h => ?_
  obtain ⟨β, env, ds, env', he, hd, ha, q⟩ := h
  cases hd with
  | nil => rw [asgTs] at ha <;> first | cases ha | (intros; contradiction)
  | @cons d v ds vs h l =>
    rw [asgTs] at ha
    cases e1 : asgT t d env with
    | none => rw [e1] at ha; cases ha
    | some env1 =>
      rw [e1] at ha
      refine ⟨v, vs, rfl, β, env, d, env1, he, h, e1, fun σ1 he1 hw1 => ?_⟩
      refine ⟨β, env1, ds, env', he1, l, ha, fun σ2 he2 hw2 => ?_⟩
      refine q σ2 he2 fun us hu => ?_
      rw [tgIxs] at hu
      rw [hw2 us fun i hi => hu i (List.mem_append_right _ hi), hw1 us fun i hi => hu i (List.mem_append_left _ hi)]
theorem g_tup {es : List Expr} {k : Nat} {pos : Pos} {ts : List Tg} {n : Nat} (hc : X.calm = true) (h : PGs X es (tTgs X.K ts)) (hl : ts.length = n) (hn : (assignEach es X.env).length = n) (hst : (assignEach es X.env).findIdx? (·.1) = none) : PG X (.Tuple es k pos) (tTg X.K (.tup ts)) := by
  refine PG_imp (pg_tup hc h hn hst) fun v σ H Q h => ?_
  obtain ⟨β, env, d, env', he, hd, ha, q⟩ := h
  cases hd with
  | @tup a vs ds t l =>
    rw [asgT] at ha
    have len : ∀ (ts : List Tg) (ds : List D) (env env' : Env), asgTs ts ds env = some env' → ts.length = ds.length := fun ts => by
      induction ts with
      | nil => intro ds env env' h; cases ds with
        | nil => rfl
        | cons d ds => rw [asgTs] at h <;> first | cases h | (intros; contradiction)
      | cons t ts ih => intro ds env env' h; cases ds with
        | nil => rw [asgTs] at h <;> first | cases h | (intros; contradiction)
        | cons d ds =>
          rw [asgTs] at h
          split at h
          · rw [List.length_cons, List.length_cons, ih _ _ _ h]
          · cases h
    refine ⟨a, vs, rfl, t, ?_, β, env, ds, env', he, l, ha, fun σ' he' hw => q σ' he' fun us hu => hw us fun i hi => hu i (by rw [tgIx]; exact hi)⟩
    rw [← l.len, ← len _ _ _ _ ha, hl]
  | _ => rw [asgT] at ha <;> first | cases ha | (intros; contradiction)
end
/-! ### statements -/
abbrev RunS := Env → MH → Option (Fl × Env × MH)
def EndsOk (K : PySem.W.Frag) (H : Hp) (β : List Addr) (D : Ends) (fl : Fl) (env' : Env) (mh' : MH) : Prop := match fl with
  | .nx => ∀ β' σ' H', Po K β H β' H' mh' → EnvRel K β' H' env' σ' → D.nx σ' H'
  | .bk => ∀ β' σ' H', Po K β H β' H' mh' → EnvRel K β' H' env' σ' → D.bk σ' H'
  | .ct => ∀ β' σ' H', Po K β H β' H' mh' → EnvRel K β' H' env' σ' → D.ct σ' H'
  | .rt r => ∀ β' v H', Po K β H β' H' mh' → DenR K H β' H' r v → D.rt v H'
def tSt (K : PySem.W.Frag) (f : RunS) : TS := fun D σ H => ∃ β env mh fl env' mh', HRel K β mh H ∧ EnvRel K β H env σ ∧ f env mh = some (fl, env', mh') ∧ EndsOk K H β D fl env' mh'
theorem EndsOk.later {K : PySem.W.Frag} {H H1 : Hp} {β β1 : List Addr} {D : Ends} {fl : Fl} {env' : Env} {mh1 mh' : MH} (p : Po K β H β1 H1 mh1) (h : EndsOk K H β D fl env' mh') : EndsOk K H1 β1 D fl env' mh' := by
  cases fl with
  | nx => exact fun β' σ' H' p' e => h β' σ' H' (p.trans p') e
  | bk => exact fun β' σ' H' p' e => h β' σ' H' (p.trans p') e
  | ct => exact fun β' σ' H' p' e => h β' σ' H' (p.trans p') e
  | rt r => exact fun β' v H' p' d => h β' v H' (p.trans p') (d.back p p'.pre)
section
variable {X : Cx}
theorem PS_imp {e : Stmt} {t t' : TS} (h : PS X e t) (i : ∀ D σ H, t' D σ H → t D σ H) : PS X e t' := ⟨fun pins s σ H D I q => h.run pins s σ H D I (i D σ H q)⟩
theorem PSs_imp {e : List Stmt} {t t' : TS} (h : PSs X e t) (i : ∀ D σ H, t' D σ H → t D σ H) : PSs X e t' := ⟨fun pins s σ H D I q => h.run pins s σ H D I (i D σ H q)⟩
abbrev PSX (X : Cx) (e : Stmt) (f : RunS) : Prop := PS X e (tSt X.K f)
abbrev PSsX (X : Cx) (e : List Stmt) (f : RunS) : Prop := PSs X e (tSt X.K f)
theorem s_never {e : Stmt} : PSX X e (fun _ _ => none) := PS_imp ps_never fun D σ H h => by
  obtain ⟨β, env, mh, fl, env', mh', hr, he, hf, q⟩ := h
  cases hf
theorem ss_nil : PSsX X [] (fun env mh => some (.nx, env, mh)) := PSs_imp pss_nil fun D σ H h => by
  obtain ⟨β, env, mh, fl, env', mh', hr, he, hf, q⟩ := h
  cases hf
  exact q β σ H (Po.refl hr) he
theorem ss_cons {st : Stmt} {rest : List Stmt} {f g : RunS} (h1 : PSX X st f) (h2 : PSsX X rest g) : PSsX X (st :: rest) (fun env mh => match f env mh with
    | some (.nx, env, mh) => g env mh
    | some (.bk, env, mh) => some (.bk, env, mh)
    | some (.ct, env, mh) => some (.ct, env, mh)
    | some (.rt r, env, mh) => some (.rt r, env, mh)
    | none => none) := by
  refine PSs_imp (pss_cons h1 h2) fun D σ H h => ?_
  obtain ⟨β, env, mh, fl, env', mh', hr, he, hf, q⟩ := h
  dsimp only at hf
  cases e1 : f env mh with
  | none => rw [e1] at hf; cases hf
  | some p =>
    obtain ⟨fl1, env1, mh1⟩ := p
    simp only [e1] at hf
    cases fl1 with
    | nx => exact ⟨β, env, mh, .nx, env1, mh1, hr, he, e1, fun β1 σ1 H1 p1 he1 => ⟨β1, env1, mh1, fl, env', mh', p1.rel, he1, hf, q.later p1⟩⟩
    | bk => cases hf; exact ⟨β, env, mh, .bk, _, _, hr, he, e1, q⟩
    | ct => cases hf; exact ⟨β, env, mh, .ct, _, _, hr, he, e1, q⟩
    | rt r => cases hf; exact ⟨β, env, mh, .rt r, _, _, hr, he, e1, q⟩
theorem s_pass {pos : Pos} : PSX X (.Pass pos) (fun env mh => some (.nx, env, mh)) := PS_imp ps_pass fun D σ H h => by
  obtain ⟨β, env, mh, fl, env', mh', hr, he, hf, q⟩ := h
  cases hf
  exact q β σ H (Po.refl hr) he
theorem s_brk {pos : Pos} : PSX X (.Break pos) (fun env mh => some (.bk, env, mh)) := PS_imp ps_break fun D σ H h => by
  obtain ⟨β, env, mh, fl, env', mh', hr, he, hf, q⟩ := h
  cases hf
  exact q β σ H (Po.refl hr) he
theorem s_cnt {pos : Pos} : PSX X (.Continue pos) (fun env mh => some (.ct, env, mh)) := PS_imp ps_continue fun D σ H h => by
  obtain ⟨β, env, mh, fl, env', mh', hr, he, hf, q⟩ := h
  cases hf
  exact q β σ H (Po.refl hr) he
theorem s_retN {pos : Pos} : PSX X (.Return none pos) (fun env mh => some (.rt (.v .non), env, mh)) := PS_imp ps_retN fun D σ H h => by
  obtain ⟨β, env, mh, fl, env', mh', hr, he, hf, q⟩ := h
  cases hf
  exact q β .non H (Po.refl hr) Den.non
theorem s_ret {e : Expr} {f : Run} {pos : Pos} (h : PX X e f) : PSX X (.Return (some e) pos) (fun env mh => match f env mh with
    | some (r, mh) => some (.rt r, env, mh)
    | none => none) := PS_imp (ps_ret h) fun D σ H h => by
  obtain ⟨β, env, mh, fl, env', mh', hr, he, hf, q⟩ := h
  dsimp only at hf
  cases e1 : f env mh with
  | none => rw [e1] at hf; cases hf
  | some p =>
    obtain ⟨r, mh1⟩ := p
    simp only [e1] at hf
    cases hf
    exact ⟨β, env, mh, r, mh', hr, he, e1, q⟩
theorem s_expr {e : Expr} {f : Run} {pos : Pos} (h : PX X e f) (hs : swapsWith e none pos.line X.env = pure false) : PSX X (.Expr e pos) (fun env mh => match f env mh with
    | some (_, mh) => some (.nx, env, mh)
    | none => none) := PS_imp (ps_expr h hs) fun D σ H h => by
  obtain ⟨β, env, mh, fl, env', mh', hr, he, hf, q⟩ := h
  dsimp only at hf
  cases e1 : f env mh with
  | none => rw [e1] at hf; cases hf
  | some p =>
    obtain ⟨r, mh1⟩ := p
    simp only [e1] at hf
    cases hf
    exact ⟨β, _, mh, r, mh', hr, he, e1, fun β1 v H1 p1 d1 => q β1 σ H1 p1 (he.mono p1 hr)⟩
theorem s_ite {c : Expr} {a b : List Stmt} {pos : Pos} {fc : Run} {fa fb : RunS} (hc : PTX X c fc) (ha : PSsX X a fa) (hb : PSsX X b fb) : PSX X (.If c a b pos) (fun env mh => match fc env mh with
    | some (x, mh) => match truth mh x with
      | some true => fa env mh
      | some false => fb env mh
      | none => none
    | none => none) := by
  refine PS_imp (ps_if hc ha hb) fun D σ H h => ?_
  obtain ⟨β, env, mh, fl, env', mh', hr, he, hf, q⟩ := h
  dsimp only at hf
  cases e1 : fc env mh with
  | none => rw [e1] at hf; cases hf
  | some p =>
    obtain ⟨x, mh1⟩ := p
    simp only [e1] at hf
    cases e2 : truth mh1 x with
    | none => rw [e2] at hf; cases hf
    | some k =>
      simp only [e2] at hf
      refine ⟨β, env, mh, k, mh1, hr, he, tst_of e1 e2, fun β1 H1 p1 => ?_⟩
      cases k with
      | true =>
        rw [if_pos rfl]
        exact ⟨β1, env, mh1, fl, env', mh', p1.rel, he.mono p1 hr, hf, q.later p1⟩
      | false =>
        rw [if_neg (by decide)]
        exact ⟨β1, env, mh1, fl, env', mh', p1.rel, he.mono p1 hr, hf, q.later p1⟩
/-- target = value; the value, where a list, is numbered -/
theorem asg_imp {f : Run} {t : Tg} {te : TE} {D : Ends} {σ : L2.St} {H : Hp} (h : tSt X.K (fun env mh => match f env mh with
    | some (r, mh) => match asgT t (box r mh).1 env with
      | some env => some (.nx, env, (box r mh).2)
      | none => none
    | none => none) D σ H) : tAsg (tEx X.K f) (tTg X.K t) D σ H := by
  obtain ⟨β, env, mh, fl, env', mh', hr, he, hf, q⟩ := h
  dsimp only at hf
  cases e1 : f env mh with
  | none => rw [e1] at hf; cases hf
  | some p =>
    obtain ⟨r, mh1⟩ := p
    simp only [e1] at hf
    cases e2 : asgT t (box r mh1).1 env with
    | none => rw [e2] at hf; cases hf
    | some env1 =>
      simp only [e2] at hf
      cases hf
      refine ⟨β, env, mh, r, mh1, hr, he, e1, fun β1 v H1 p1 d1 => ?_⟩
      obtain ⟨β2, p2, _, _, d2⟩ := p1.box d1
      exact ⟨β2, env, _, _, he.mono p2 hr, d2, e2, fun σ' he' _ => q β2 σ' H1 p2 he'⟩
theorem s_set {i : Nat} {x : Str} {e : Expr} {f : Run} {pos pos' : Pos} (hN : X.N.Nodup) (hi : X.N[i]? = some x) (hx : Loc X.env.scope x) (hf : X.fn x = true ∨ X.env.scope.names.lookup x = some .local) (he : PX X e f) (hs : swapsWith e (some (.Name x pos')) pos.line X.env = pure false) :
    PSX X (.Assign [.Name x pos'] e pos) (fun env mh => match f env mh with
    | some (r, mh) => match asgT (.nm i) (box r mh).1 env with
      | some env => some (.nx, env, (box r mh).2)
      | none => none
    | none => none) := by
  refine PS_imp (ps_set hN hi hx he hs hf) fun D σ H h => ?_
  obtain ⟨β, env, mh, r, mh1, hr, hE, e1, q⟩ := asg_imp (X := X) (f := f) (t := .nm i) (te := tEx X.K f) h
  refine ⟨β, env, mh, r, mh1, hr, hE, e1, fun β1 v H1 p1 d1 => ?_⟩
  obtain ⟨β', env1, d, env', he1, hd, ha, q2⟩ := q β1 v H1 p1 d1
  rw [asgT] at ha
  cases ha
  exact q2 _ (he1.set i hd) fun vs hv => wipe_same (hv i (by rw [tgIx]; exact List.mem_singleton.mpr rfl))
theorem s_asg {tg e : Expr} {t : Tg} {f : Run} {pos : Pos} (he : PX X e f) (hg : PG X tg (tTg X.K t)) (hs : swapsWithSole [tg] e pos.line X.env = pure false) (hw : swappedStores [tg] e X.env = pure none) (h1 : (assignEach [tg] X.env).map (·.2) = [assign tg X.env]) :
    PSX X (.Assign [tg] e pos) (fun env mh => match f env mh with
    | some (r, mh) => match asgT t (box r mh).1 env with
      | some env => some (.nx, env, (box r mh).2)
      | none => none
    | none => none) := PS_imp (ps_asg he hg hs hw h1) fun D σ H h => asg_imp (X := X) (f := f) (t := t) (te := tEx X.K f) h
theorem s_par2 {i j : Nat} {x y : Str} {a b : Expr} {g : Env → MH → Option (List D × MH)} {px py pt pos : Pos} {kt k2 : Nat} {pt2 : Pos} (hc : X.calm = true) (hN : X.N.Nodup) (hi : X.N[i]? = some x) (hj : X.N[j]? = some y) (hij : i ≠ j)
    (hx : X.env.scope.names.lookup x = some .local) (hy : X.env.scope.names.lookup y = some .local) (ha : PA X [a, b] (tAs X.K g))
    (hw : swappedStores [.Tuple [.Name x px, .Name y py] kt pt] (.Tuple [a, b] k2 pt2) X.env = pure (some [x, y]))
    (hs : swapsWithSole [.Tuple [.Name x px, .Name y py] kt pt] (.Tuple [a, b] k2 pt2) pos.line X.env = pure false) :
    PSX X (.Assign [.Tuple [.Name x px, .Name y py] kt pt] (.Tuple [a, b] k2 pt2) pos) (fun env mh => match g env mh with
      | some (ds, mh) => match setAll [i, j] ds env with
        | some env => some (.nx, env, mh)
        | none => none
      | none => none) := by
  refine PS_imp (ps_par hc hN hi hj hij hx hy ha hw hs) fun D σ H h => ?_
  obtain ⟨β, env, mh, fl, env', mh', hr, he, hf, q⟩ := h
  dsimp only at hf
  cases e1 : g env mh with
  | none => rw [e1] at hf; cases hf
  | some p =>
    obtain ⟨ds, mh1⟩ := p
    simp only [e1] at hf
    cases e2 : setAll [i, j] ds env with
    | none => rw [e2] at hf; cases hf
    | some env1 =>
      simp only [e2] at hf
      cases hf
      refine ⟨β, env, mh, ds, _, hr, he, e1, fun β1 vs H1 p1 d1 => ?_⟩
      cases d1 with
      | nil => cases e2
      | cons d1 l1 =>
        cases l1 with
        | nil => cases e2
        | cons d2 l2 =>
          cases l2 with
          | cons d3 l3 => cases e2
          | nil =>
            cases e2
            exact ⟨_, _, rfl, q β1 _ H1 p1 (((he.mono p1 hr).set i d1).set j d2)⟩
theorem s_par3 {i j l : Nat} {x y z : Str} {a b c : Expr} {g : Env → MH → Option (List D × MH)} {px py pz pt pos : Pos} {kt k2 : Nat} {pt2 : Pos} (hc : X.calm = true) (hN : X.N.Nodup) (hi : X.N[i]? = some x) (hj : X.N[j]? = some y) (hl : X.N[l]? = some z) (hij : i ≠ j) (hil : i ≠ l) (hjl : j ≠ l)
    (hx : X.env.scope.names.lookup x = some .local) (hy : X.env.scope.names.lookup y = some .local) (hz : X.env.scope.names.lookup z = some .local) (ha : PA X [a, b, c] (tAs X.K g))
    (hw : swappedStores [.Tuple [.Name x px, .Name y py, .Name z pz] kt pt] (.Tuple [a, b, c] k2 pt2) X.env = pure (some [x, y, z]))
    (hs : swapsWithSole [.Tuple [.Name x px, .Name y py, .Name z pz] kt pt] (.Tuple [a, b, c] k2 pt2) pos.line X.env = pure false) :
    PSX X (.Assign [.Tuple [.Name x px, .Name y py, .Name z pz] kt pt] (.Tuple [a, b, c] k2 pt2) pos) (fun env mh => match g env mh with
      | some (ds, mh) => match setAll [i, j, l] ds env with
        | some env => some (.nx, env, mh)
        | none => none
      | none => none) := by
  refine PS_imp (ps_par3 hc hN hi hj hl hij hil hjl hx hy hz ha hw hs) fun D σ H h => ?_
  obtain ⟨β, env, mh, fl, env', mh', hr, he, hf, q⟩ := h
  dsimp only at hf
  cases e1 : g env mh with
  | none => rw [e1] at hf; cases hf
  | some p =>
    obtain ⟨ds, mh1⟩ := p
    simp only [e1] at hf
    cases e2 : setAll [i, j, l] ds env with
    | none => rw [e2] at hf; cases hf
    | some env1 =>
      simp only [e2] at hf
      cases hf
      refine ⟨β, env, mh, ds, _, hr, he, e1, fun β1 vs H1 p1 d1 => ?_⟩
      cases d1 with
      | nil => cases e2
      | cons d1 l1 =>
        cases l1 with
        | nil => cases e2
        | cons d2 l2 =>
          cases l2 with
          | nil => cases e2
          | cons d3 l3 =>
            cases l3 with
            | cons d4 l4 => cases e2
            | nil =>
              cases e2
              exact ⟨_, _, _, rfl, q β1 _ H1 p1 ((((he.mono p1 hr).set i d1).set j d2).set l d3)⟩
theorem s_aug {i : Nat} {x : Str} {e : Expr} {f : Run} {op : Operator} {r : R2} {o : Op} {pos pos' : Pos} (hN : X.N.Nodup) (hi : X.N[i]? = some x) (hx : Loc X.env.scope x) (hf : X.fn x = true ∨ X.env.scope.names.lookup x = some .local) (he : PX X e f) (ho : OpR X (inplaceOp op) r) (hv : OpVal X.K (fun mh => opA mh o) r) :
    PSX X (.AugAssign (.Name x pos') op e pos) (fun env mh => match env[i]? with
    | some (some d) => match f env mh with
      | some (y, mh) => match opA mh o (.v d) y with
        | some (.v z) => some (.nx, env.set i (some z), mh)
        | _ => none
      | none => none
    | _ => none) := by
  refine PS_imp (ps_aug hN hi hx he (ti := r) (fun pins s σ H x y v u Q I rx ry q => ho pins s σ H x y v u Q I rx ry q) hf) fun D σ H h => ?_
  obtain ⟨β, env, mh, fl, env', mh', hr, hE, hf, q⟩ := h
  dsimp only at hf
  cases e1 : env[i]? with
  | none => rw [e1] at hf; cases hf
  | some od =>
    cases od with
    | none => rw [e1] at hf; cases hf
    | some d =>
      simp only [e1] at hf
      cases e2 : f env mh with
      | none => rw [e2] at hf; cases hf
      | some p =>
        obtain ⟨y, mh1⟩ := p
        simp only [e2] at hf
        split at hf
        · rename_i z e3
          cases hf
          obtain ⟨v, h1, h2⟩ := hE.at_ i d e1
          refine ⟨v, h1, β, env, mh, y, _, hr, hE, e2, fun β1 u H1 p1 d1 => ?_⟩
          refine hv H β1 _ H1 (.v d) y (.v z) v u _ p1.rel (p1.den hr h2) d1 e3 fun w H2 p2 d2 => ?_
          exact q β1 _ H2 (p1.trans p2) (((hE.mono p1 hr).mono p2 p1.rel).set i d2)
        · cases hf
end
end Ev
set_option Elab.async false
set_option linter.all false
set_option maxRecDepth 100000
set_option maxHeartbeats 1000000
/-! EvLoop: stores, walks, loops. -/
namespace Ev
open PySem PySem.Spec PyProof.Rows L2
section
variable {X : Cx}
/-! ### o[i] = e -/
theorem s_seti {o i e : Expr} {fo fi fe : Run} {tpos pos : Pos} (he : PX X e fe) (ho : PX X o fo) (hi : PX X i fi)
    (ha : ∀ v, assign (.Subscript o i tpos) X.env v = (do
      let ov ← holding [v] (eval o X.env)
      let iv ← holding [v, ov] (eval i X.env)
      standAt tpos
      holding [v, ov, iv] (setItem ov iv v)
      release [v, ov, iv] []))
    (hs : swapsWithSole [.Subscript o i tpos] e pos.line X.env = pure false) (hw : swappedStores [.Subscript o i tpos] e X.env = pure none) (h1 : (assignEach [.Subscript o i tpos] X.env).map (·.2) = [assign (.Subscript o i tpos) X.env]) :
    PSX X (.Assign [.Subscript o i tpos] e pos) (fun env mh => match fe env mh with
    | some (r, mh) => match fo env (box r mh).2 with
      | some (.v (.ref n), mh2) => match fi env mh2 with
        | some (.v (.int k), mh3) => match mh3[n]? with
          | some (.lst xs) => match L2.ixN xs.length k with
            | some j => some (.nx, env, mh3.set n (.lst (xs.set j (box r mh).1)))
            | none => none
          | _ => none
        | _ => none
      | _ => none
    | none => none) := by
  refine PS_imp (ps_asg he (pg_sub ho hi set_list ha) hs hw h1) fun D σ H h => ?_
  obtain ⟨β, env, mh, fl, env', mh', hr, hE, hf, q⟩ := h
  dsimp only at hf
  cases e1 : fe env mh with
  | none => rw [e1] at hf; cases hf
  | some p =>
    obtain ⟨r, mh1⟩ := p
    simp only [e1] at hf
    refine one_of hr hE e1 fun β1 v H1 p1 d1 => ?_
    obtain ⟨β2, p2, _, _, d2⟩ := p1.box d1
    split at hf
    · rename_i n mh2 e2
      refine one_of p2.rel (hE.mono p2 hr) e2 fun β3 ov H3 p3 d3 => ?_
      split at hf
      · rename_i k mh3 e3
        have p23 := p2.trans p3
        refine one_of p3.rel ((hE.mono p2 hr).mono p3 p2.rel) e3 fun β4 iv H4 p4 d4 => ?_
        split at hf
        · rename_i xs e4
          split at hf
          · rename_i j e5
            cases hf
            obtain ⟨a, vs, rfl, eb, ea, l⟩ := ref_den p4.rel e4 (d3.later p4 p3.rel)
            obtain rfl := d4.int
            refine ⟨a, vs, k, j, rfl, rfl, ea, by rw [← l.len]; exact e5, ?_⟩
            have pw := Po.write p4.rel e4 eb (l.set (p4.den p3.rel (p3.den p2.rel d2)) j)
            exact q β4 σ _ ((p23.trans p4).trans pw) (((hE.mono p2 hr).mono p3 p2.rel).mono p4 p3.rel |>.mono pw p4.rel)
          · cases hf
        · cases hf
      · cases hf
    · cases hf
/-! ### walks -/
/-- what comes later: A (a list that is being made) may change -/
structure Fut (K : PySem.W.Frag) (A : Option Addr) (β0 : List Addr) (H0 : Hp) (β : List Addr) (H : Hp) (mh : MH) : Prop where
  pre : ∀ (n : Nat) (a : Addr), β0[n]? = some a → β[n]? = some a
  ext : ∀ a o, H0 a = some o → a ∉ β0 → A ≠ some a → H a = some o
  kT : ∀ a vs, SqT K H0 a vs → SqT K H a vs
  kF : ∀ a vs, FzL K H0 a vs → FzL K H a vs
  frs : ∀ a ∈ β, a ∈ β0 ∨ H0 a = none
  stay : ∀ a, A = some a → ∀ o, H0 a = some o → H a ≠ none
  rel : HRel K β mh H
theorem fut_stay {K : PySem.W.Frag} {A : Option Addr} {β β' : List Addr} {H H' : Hp} {mh' : MH} (p : Po K β H β' H' mh') : ∀ a, A = some a → ∀ o, H a = some o → H' a ≠ none := fun a _ o e z => by
  by_cases hb : a ∈ β
  · obtain ⟨n, en⟩ := mem_get hb
    obtain ⟨vs, ev⟩ := p.rel.isl (List.mem_of_getElem? (p.pre n a en))
    rw [ev] at z
    cases z
  · rw [p.ext a o e hb] at z
    cases z
theorem Po.fut {K : PySem.W.Frag} {A : Option Addr} {β β' : List Addr} {H H' : Hp} {mh mh' : MH} (p : Po K β H β' H' mh') (hr : HRel K β mh H) : Fut K A β H β' H' mh' := ⟨p.pre, fun a o e hn _ => p.ext a o e hn, hr.sqT p.ext, hr.fzL p.ext, p.frs, fut_stay p, p.rel⟩
theorem Fut.denL {K : PySem.W.Frag} {A : Option Addr} {β β' : List Addr} {H H' : Hp} {mh' : MH} (p : Fut K A β H β' H' mh') {ds : List D} {vs : List V} (h : DenL K β H ds vs) : DenL K β' H' ds vs := h.mono p.pre p.kT p.kF
/-- the iterator walks the source, from (β0, H0) on -/
def JOk (K : PySem.W.Frag) (A : Option Addr) (J : It) (src : Src) (β0 : List Addr) (H0 : Hp) : Prop := ∀ β mh H, Fut K A β0 H0 β H mh → ∀ i,
  (∀ d, nxt mh src i = some (some d) → J.go i H ∧ ∀ x H', J.yld i H x H' → Po K β H β H' mh ∧ Den K β H' d x) ∧ (nxt mh src i = some none → J.stop i H)
def tIx (K : PySem.W.Frag) (f : Env → MH → Option (Src × MH)) : TI := fun σ H R => ∃ β env mh src mh', HRel K β mh H ∧ EnvRel K β H env σ ∧ f env mh = some (src, mh') ∧
  ∀ β' J H', Po K β H β' H' mh' → (∀ A : Option Addr, (∀ a, A = some a → H a ≠ none) → JOk K A J src β' H') → R J H'
/-- a list that is walked -/
def LOk (K : PySem.W.Frag) (A : Option Addr) (a : Addr) (src : Src) (β0 : List Addr) (H0 : Hp) : Prop := ∀ β mh H, Fut K A β0 H0 β H mh → ∃ vs ds, SqL K H a vs ∧ DenL K β H ds vs ∧ ∀ i, nxt mh src i = some ds[i]?
def TOk (K : PySem.W.Frag) (A : Option Addr) (a : Addr) (src : Src) (β0 : List Addr) (H0 : Hp) : Prop := ∀ β mh H, Fut K A β0 H0 β H mh → ∃ vs ds, SqT K H a vs ∧ DenL K β H ds vs ∧ ∀ i, nxt mh src i = some ds[i]?
section
variable {K : PySem.W.Frag} {A : Option Addr} {β : List Addr} {mh : MH} {H0 H : Hp} {v : V}
theorem lsrc_den (hr : HRel K β mh H) {x : R} {src : Src} (e : lsrc mh x = some src) (h : DenR K H0 β H x v) : ∃ a vs, v = .ref a ∧ SqL K H a vs ∧ ∀ A : Option Addr, (∀ a, A = some a → H0 a ≠ none) → LOk K A a src β H := by
  cases x with
  | l ds =>
    cases e
    obtain ⟨a, vs, h1, h0, h4, h2, h3⟩ := h
    exact ⟨a, vs, h1, SqL.of h2, fun A hA β' mh' H' p => ⟨vs, ds, SqL.of (p.ext a _ h2 h4 fun z => hA a z h0), p.denL h3, fun i => rfl⟩⟩
  | v d =>
    cases d with
    | ref n =>
      rw [lsrc] at e
      cases e1 : lstOf mh n with
      | none => rw [e1] at e; cases e
      | some ds =>
        rw [e1] at e
        cases e
        obtain ⟨a, vs, h1, eb, em, h2, h3⟩ := DenR.ref hr e1 h
        refine ⟨a, vs, h1, SqL.of h2, fun A hA β' mh' H' p => ?_⟩
        have eb' := p.pre n a eb
        obtain ⟨o, eo, r⟩ := p.rel.there eb'
        cases o with
        | lst ys =>
          obtain ⟨ws, ew, dw⟩ := r
          refine ⟨ws, ys, SqL.of ew, dw, fun i => ?_⟩
          show (lstOf mh' n).map (fun xs => xs[i]?) = some ys[i]?
          unfold lstOf
          rw [eo]
          rfl
    | fz ds =>
      cases e
      obtain ⟨a, vs, h1, h2, h3⟩ := h.fz
      exact ⟨a, vs, h1, h2.1, fun A hA β' mh' H' p => ⟨vs, ds, (p.kF a vs h2).1, p.denL h3, fun i => rfl⟩⟩
    | _ => cases e
theorem tup_src {a : Addr} {vs : List V} {ds : List D} (t : SqT K H a vs) (l : DenL K β H ds vs) : TOk K A a (.st ds) β H := fun β' mh' H' p => ⟨vs, ds, p.kT a vs t, p.denL l, fun i => rfl⟩
theorem j_list {a : Addr} {src : Src} (h : LOk K A a src β H) : JOk K A (Itl K a) src β H := fun β' mh' H' p i => by
  obtain ⟨vs, ds, hs, l, hn⟩ := h β' mh' H' p
  refine ⟨fun d e => ?_, fun e => ?_⟩
  · rw [hn i] at e
    obtain ⟨v, e1, d1⟩ := l.get (Option.some.inj e)
    refine ⟨⟨vs, v, hs, e1⟩, fun x H2 hy => ?_⟩
    obtain ⟨rfl, hy2⟩ := hy
    have e2 := hy2 vs hs
    rw [e1] at e2
    cases e2
    exact ⟨Po.refl p.rel, d1⟩
  · rw [hn i] at e
    refine ⟨vs, hs, ?_⟩
    have := List.getElem?_eq_none_iff.mp (l.none_of (Option.some.inj e))
    exact this
theorem j_tup {a : Addr} {src : Src} (h : TOk K A a src β H) : JOk K A (Itt K a) src β H := fun β' mh' H' p i => by
  obtain ⟨vs, ds, hs, l, hn⟩ := h β' mh' H' p
  refine ⟨fun d e => ?_, fun e => ?_⟩
  · rw [hn i] at e
    obtain ⟨v, e1, d1⟩ := l.get (Option.some.inj e)
    refine ⟨⟨vs, v, hs, e1⟩, fun x H2 hy => ?_⟩
    obtain ⟨rfl, hy2⟩ := hy
    have e2 := hy2 vs hs
    rw [e1] at e2
    cases e2
    exact ⟨Po.refl p.rel, d1⟩
  · rw [hn i] at e
    refine ⟨vs, hs, ?_⟩
    exact List.getElem?_eq_none_iff.mp (l.none_of (Option.some.inj e))
theorem j_rng {lo : Int} {n : Nat}  : JOk K A (Itr lo n) (.rng lo n) β H := fun β' mh' H' p i => by
  refine ⟨fun d e => ?_, fun e => ?_⟩
  · rw [nxt] at e
    split at e
    · rename_i hi
      cases e
      refine ⟨hi, fun x H2 hy => ?_⟩
      obtain ⟨rfl, rfl⟩ := hy
      exact ⟨Po.refl p.rel, Den.int _⟩
    · cases e
  · rw [nxt] at e
    split at e
    · cases e
    · rename_i hi
      exact Nat.le_of_not_lt hi
theorem zp_some {mh : MH} {a b : Src} {xs ys : List D} {i : Nat} (h1 : nxt mh a i = some xs[i]?) (h2 : nxt mh b i = some ys[i]?) : (∀ d, nxt mh (.zp a b) i = some (some d) → ∃ x y, xs[i]? = some x ∧ ys[i]? = some y ∧ d = .tup [x, y]) ∧ (nxt mh (.zp a b) i = some none → xs[i]? = none ∨ ys[i]? = none) := by
  rw [nxt, h1, h2]
  cases e1 : xs[i]? with
  | none => exact ⟨fun d e => (by cases e), fun _ => .inl rfl⟩
  | some x =>
    cases e2 : ys[i]? with
    | none => exact ⟨fun d e => (by cases e), fun _ => .inr rfl⟩
    | some y => exact ⟨fun d e => (by cases e; exact ⟨x, y, rfl, rfl, rfl⟩), fun e => (by cases e)⟩
theorem den2 {x y : D} {v u : V} {p : Addr} (hr : HRel K β mh H) (hp : H p = none) (h1 : Den K β H x v) (h2 : Den K β H y u) : Den K β (upd H p (.tup [v, u])) (.tup [x, y]) (.ref p) := den_new hr hp (.cons h1 (.cons h2 .nil))
theorem j_zipL {a b : Addr} {s t : Src} (h1 : LOk K A a s β H) (h2 : LOk K A b t β H) : JOk K A (Itz K a b) (.zp s t) β H := fun β' mh' H' p i => by
  obtain ⟨vs, ds, hs, l, hn⟩ := h1 β' mh' H' p
  obtain ⟨us, es, hs2, l2, hn2⟩ := h2 β' mh' H' p
  obtain ⟨z1, z2⟩ := zp_some (hn i) (hn2 i)
  refine ⟨fun d e => ?_, fun e => ?_⟩
  · obtain ⟨x, y, ex, ey, rfl⟩ := z1 d e
    obtain ⟨v, e1, d1⟩ := l.get ex
    obtain ⟨u, e2, d2⟩ := l2.get ey
    refine ⟨⟨vs, us, v, u, hs, hs2, e1, e2⟩, fun w H2 hy => ?_⟩
    obtain ⟨T, v', u', rfl, hT, rfl, hv, hu⟩ := hy
    have q1 := hv vs hs
    rw [e1] at q1; cases q1
    have q2 := hu us hs2
    rw [e2] at q2; cases q2
    exact ⟨Po.laid p.rel hT, den2 p.rel hT d1 d2⟩
  · exact ⟨vs, us, hs, hs2, (z2 e).imp (fun q => List.getElem?_eq_none_iff.mp (l.none_of q)) fun q => List.getElem?_eq_none_iff.mp (l2.none_of q)⟩
theorem j_zipT {a b : Addr} {s t : Src} (h1 : TOk K A a s β H) (h2 : TOk K A b t β H) : JOk K A (RZ.ItzT K a b) (.zp s t) β H := fun β' mh' H' p i => by
  obtain ⟨vs, ds, hs, l, hn⟩ := h1 β' mh' H' p
  obtain ⟨us, es, hs2, l2, hn2⟩ := h2 β' mh' H' p
  obtain ⟨z1, z2⟩ := zp_some (hn i) (hn2 i)
  refine ⟨fun d e => ?_, fun e => ?_⟩
  · obtain ⟨x, y, ex, ey, rfl⟩ := z1 d e
    obtain ⟨v, e1, d1⟩ := l.get ex
    obtain ⟨u, e2, d2⟩ := l2.get ey
    refine ⟨⟨vs, us, v, u, hs, hs2, e1, e2⟩, fun w H2 hy => ?_⟩
    obtain ⟨T, v', u', rfl, hT, rfl, hv, hu⟩ := hy
    have q1 := hv vs hs
    rw [e1] at q1; cases q1
    have q2 := hu us hs2
    rw [e2] at q2; cases q2
    exact ⟨Po.laid p.rel hT, den2 p.rel hT d1 d2⟩
  · exact ⟨vs, us, hs, hs2, (z2 e).imp (fun q => List.getElem?_eq_none_iff.mp (l.none_of q)) fun q => List.getElem?_eq_none_iff.mp (l2.none_of q)⟩
theorem j_enum {a : Addr} {s : Src} (h1 : LOk K A a s β H) : JOk K A (Ite K a) (.en s) β H := fun β' mh' H' p i => by
  obtain ⟨vs, ds, hs, l, hn⟩ := h1 β' mh' H' p
  refine ⟨fun d e => ?_, fun e => ?_⟩
  · rw [nxt, hn i] at e
    cases ex : ds[i]? with
    | none => rw [ex] at e; cases e
    | some x =>
      rw [ex] at e
      cases e
      obtain ⟨v, e1, d1⟩ := l.get ex
      refine ⟨⟨vs, v, hs, e1⟩, fun w H2 hy => ?_⟩
      obtain ⟨T, v', rfl, hT, rfl, hv⟩ := hy
      have q1 := hv vs hs
      rw [e1] at q1; cases q1
      exact ⟨Po.laid p.rel hT, den2 p.rel hT (Den.int _) d1⟩
  · rw [nxt, hn i] at e
    cases ex : ds[i]? with
    | none => exact ⟨vs, hs, List.getElem?_eq_none_iff.mp (l.none_of ex)⟩
    | some x => rw [ex] at e; cases e
end
theorem PI_imp {tg e : Expr} {t t' : TI} (h : PI X tg e t) (i : ∀ σ H R, t' σ H R → t σ H R) : PI X tg e t' := ⟨fun pins s σ H R I q => h.run pins s σ H R I (i σ H R q)⟩
theorem PI.or {tg e : Expr} {t t' : TI} (h : PI X tg e t) (h' : PI X tg e t') : PI X tg e (fun σ H R => t σ H R ∨ t' σ H R) := ⟨fun pins s σ H R I q => q.elim (fun q => h.run pins s σ H R I q) fun q => h'.run pins s σ H R I q⟩
def srcOf (k : Kd) (g : Env → MH → Option (List R × MH)) : Env → MH → Option (Src × MH) := fun env mh => match g env mh with
  | some (rs, mh) => (srcR mh k rs).map fun s => (s, mh)
  | none => none
theorem srcOf_some {k : Kd} {g : Env → MH → Option (List R × MH)} {env : Env} {mh mh' : MH} {s : Src} (h : srcOf k g env mh = some (s, mh')) : ∃ rs, g env mh = some (rs, mh') ∧ srcR mh' k rs = some s := by
  unfold srcOf at h
  cases e1 : g env mh with
  | none => rw [e1] at h; cases h
  | some p =>
    obtain ⟨rs, mh1⟩ := p
    simp only [e1] at h
    cases e2 : srcR mh1 k rs with
    | none => rw [e2] at h; cases h
    | some s' => rw [e2] at h; cases h; exact ⟨rs, rfl, e2⟩
/-- one expression, as a list of them -/
def oneR (f : Run) : Env → MH → Option (List R × MH) := fun env mh => match f env mh with
  | some (r, mh) => some ([r], mh)
  | none => none
theorem oneR_some {f : Run} {env : Env} {mh mh' : MH} {rs : List R} (h : oneR f env mh = some (rs, mh')) : ∃ r, rs = [r] ∧ f env mh = some (r, mh') := by
  unfold oneR at h
  cases e1 : f env mh with
  | none => rw [e1] at h; cases h
  | some p => obtain ⟨r, mh1⟩ := p; simp only [e1] at h; cases h; exact ⟨r, rfl, rfl⟩
theorem i_seq {tg e : Expr} {f : Run} (h : PX X e f) : PI X tg e (tIx X.K (srcOf .seq (oneR f))) := by
  refine PI_imp (PI.or (pi_list h) (pi_tup h)) fun σ H R q => ?_
  obtain ⟨β, env, mh, src, mh', hr, hE, hf, q⟩ := q
  obtain ⟨rs, e1, e2⟩ := srcOf_some hf
  obtain ⟨r, rfl, e3⟩ := oneR_some e1
  unfold srcR at e2
  split at e2 <;> first | contradiction | skip
  · rename_i xs _ heq
    cases heq
    cases e2
    exact .inr (one_of hr hE e3 fun β1 v H1 p1 d1 => by
      obtain ⟨a, vs, rfl, t, l⟩ := d1.tup
      exact ⟨a, rfl, ⟨vs, t⟩, q β1 _ H1 p1 fun A _ => j_tup (tup_src t l)⟩)
  · rename_i r' _ _ heq
    cases heq
    exact .inl (one_of hr hE e3 fun β1 v H1 p1 d1 => by
      obtain ⟨a, vs, rfl, t, l⟩ := lsrc_den p1.rel e2 d1
      exact ⟨a, rfl, ⟨vs, t⟩, q β1 _ H1 p1 fun A hA => j_list (l A hA)⟩)
theorem s62 {i : Int} (h : small62 i = true) : -(2 ^ 62) ≤ i ∧ i < 2 ^ 62 := by
  unfold small62 at h
  obtain ⟨h1, h2⟩ := Bool.and_eq_true_iff.mp h
  exact ⟨of_decide_eq_true h1, of_decide_eq_true h2⟩
theorem i_rng1 {tg a : Expr} {g : Env → MH → Option (List R × MH)} {p pos : Pos} (hg : Gl X "range") (hm : X.mg "range" = none) (ha : PA X [a] (tRs X.K g)) (hs : starEach [a] X.env = [(false, eval a X.env)]) : PI X tg (.Call (.Name "range" p) [a] [] pos) (tIx X.K (srcOf .range1 g)) := by
  refine PI_imp (pi_range1 hg hm ha hs) fun σ H R q => ?_
  obtain ⟨β, env, mh, src, mh', hr, hE, hf, q⟩ := q
  obtain ⟨rs, e1, e2⟩ := srcOf_some hf
  refine ⟨β, env, mh, rs, mh', hr, hE, e1, fun β1 vs H1 p1 d1 => ?_⟩
  unfold srcR at e2
  split at e2 <;> first | contradiction | skip
  rename_i _ j _
  split at e2
  · rename_i hj
    cases e2
    obtain ⟨v, rfl, dv⟩ := d1.one
    obtain rfl := dv.int
    obtain ⟨h1, h2⟩ := s62 hj
    exact ⟨j, rfl, h1, h2, q β1 _ H1 p1 fun A _ => j_rng⟩
  · cases e2
theorem i_rng2 {tg a b : Expr} {g : Env → MH → Option (List R × MH)} {p pos : Pos} (hg : Gl X "range") (hm : X.mg "range" = none) (ha : PA X [a, b] (tRs X.K g)) (hs : starEach [a, b] X.env = [(false, eval a X.env), (false, eval b X.env)]) (hs2 : starEach [b] X.env = [(false, eval b X.env)]) : PI X tg (.Call (.Name "range" p) [a, b] [] pos) (tIx X.K (srcOf .range2 g)) := by
  refine PI_imp (pi_range2 hg hm ha hs hs2) fun σ H R q => ?_
  obtain ⟨β, env, mh, src, mh', hr, hE, hf, q⟩ := q
  obtain ⟨rs, e1, e2⟩ := srcOf_some hf
  refine ⟨β, env, mh, rs, mh', hr, hE, e1, fun β1 vs H1 p1 d1 => ?_⟩
  unfold srcR at e2
  split at e2 <;> first | contradiction | skip
  rename_i _ i j _
  split at e2
  · rename_i hj
    cases e2
    obtain ⟨v, u, rfl, dv, du⟩ := d1.two
    obtain rfl := dv.int
    obtain rfl := du.int
    obtain ⟨k1, k2⟩ := Bool.and_eq_true_iff.mp hj
    obtain ⟨h1, h2⟩ := s62 k1
    obtain ⟨h3, h4⟩ := s62 k2
    exact ⟨i, j, rfl, ⟨h1, h2, h3, h4⟩, q β1 _ H1 p1 fun A _ => j_rng⟩
  · cases e2
theorem i_zip {a b : Expr} {g : Env → MH → Option (List R × MH)} {p pos tpos : Pos} {elts : List Expr} {kk : Nat} (hg : Gl X "zip") (hm : X.mg "zip" = none) (ha : PA X [a, b] (tRs X.K g)) (hs : starEach [a, b] X.env = (false, eval a X.env) :: starEach [b] X.env) (hpl : (backTo pos (starEach [b] X.env)).any (·.1) = false) :
    PI X (.Tuple elts kk tpos) (.Call (.Name "zip" p) [a, b] [] pos) (tIx X.K (srcOf .zip g)) := by
  refine PI_imp (RZ.pi_zipA hg hm ha hs hpl) fun σ H R q => ?_
  obtain ⟨β, env, mh, src, mh', hr, hE, hf, q⟩ := q
  obtain ⟨rs, e1, e2⟩ := srcOf_some hf
  refine ⟨β, env, mh, rs, mh', hr, hE, e1, fun β1 vs H1 p1 d1 => ?_⟩
  unfold srcR at e2
  split at e2 <;> first | contradiction | skip
  · rename_i xs ys _ heq
    cases e2
    obtain ⟨v, u, rfl, dv, du⟩ := d1.two
    obtain ⟨a, vs, rfl, t, l⟩ := dv.tup
    obtain ⟨b, us, rfl, t2, l2⟩ := du.tup
    exact ⟨a, b, vs, us, rfl, .inr ⟨t, t2, q β1 _ H1 p1 fun A _ => j_zipT (tup_src t l) (tup_src t2 l2)⟩⟩
  · rename_i x y _ _ heq
    split at e2
    · rename_i s t e3 e4
      cases e2
      obtain ⟨v, u, rfl, dv, du⟩ := d1.two
      obtain ⟨a, vs, rfl, t1, l1⟩ := lsrc_den p1.rel e3 dv
      obtain ⟨b, us, rfl, t2, l2⟩ := lsrc_den p1.rel e4 du
      exact ⟨a, b, vs, us, rfl, .inl ⟨t1, t2, q β1 _ H1 p1 fun A hA => j_zipL (l1 A (hA)) (l2 A (hA))⟩⟩
    · cases e2
theorem i_enum {a : Expr} {g : Env → MH → Option (List R × MH)} {p pos tpos : Pos} {elts : List Expr} {kk : Nat} (hg : Gl X "enumerate") (hm : X.mg "enumerate" = none) (ha : PA X [a] (tRs X.K g)) (hs : starEach [a] X.env = [(false, eval a X.env)]) :
    PI X (.Tuple elts kk tpos) (.Call (.Name "enumerate" p) [a] [] pos) (tIx X.K (srcOf .enum g)) := by
  refine PI_imp (pi_enum hg hm ha hs) fun σ H R q => ?_
  obtain ⟨β, env, mh, src, mh', hr, hE, hf, q⟩ := q
  obtain ⟨rs, e1, e2⟩ := srcOf_some hf
  refine ⟨β, env, mh, rs, mh', hr, hE, e1, fun β1 vs H1 p1 d1 => ?_⟩
  unfold srcR at e2
  split at e2 <;> first | contradiction | skip
  rename_i _ x _
  cases e3 : lsrc mh' x with
  | none => rw [e3] at e2; cases e2
  | some s =>
    rw [e3] at e2
    cases e2
    obtain ⟨v, rfl, dv⟩ := d1.one
    obtain ⟨a, vs, rfl, t1, l1⟩ := lsrc_den p1.rel e3 dv
    exact ⟨a, vs, rfl, t1, q β1 _ H1 p1 fun A hA => j_enum (l1 A hA)⟩
/-! ### for -/
theorem s_for {tg iter : Expr} {t : Tg} {body : List Stmt} {fi : Env → MH → Option (Src × MH)} {fb : RunS} {pos : Pos} (hp : PassesOwn (model X.prog X.w) X.A X.env X.xe) (hc : X.calm = true) (hi : PI X tg iter (tIx X.K fi)) (hg : PG X tg (tTg X.K t)) (hb : PSsX X body fb) (hs : ∀ x, foldedSetIterable iter X.env x = pure x) :
    PSX X (.For tg iter body [] pos) (fun env mh => match fi env mh with
      | some (src, mh) => loop (fun x env mh => match asgT t x env with
          | some env => fb env mh
          | none => none) src (turns mh src) 0 env mh
      | none => none) := by
  refine PS_imp (ps_for hp hc hi hg hb hs) fun D σ H h => ?_
  obtain ⟨β, env, mh, fl, env', mh', hr, hE, hf, q⟩ := h
  dsimp only at hf
  cases e1 : fi env mh with
  | none => rw [e1] at hf; cases hf
  | some p =>
    obtain ⟨src, mh1⟩ := p
    simp only [e1] at hf
    refine ⟨β, env, mh, src, mh1, hr, hE, e1, fun β1 J H1 p1 hJ => ?_⟩
    refine ⟨fun i m σ H => ∃ β2 env2 mh2, Po X.K β1 H1 β2 H mh2 ∧ EnvRel X.K β2 H env2 σ ∧ loop (fun x env mh => match asgT t x env with
          | some env => fb env mh
          | none => none) src m i env2 mh2 = some (fl, env', mh'), ⟨turns mh1 src, β1, env, mh1, Po.refl p1.rel, hE.mono p1 hr, hf⟩, fun i m σ2 H2 hw => ?_⟩
    obtain ⟨β2, env2, mh2, p2, hE2, hl⟩ := hw
    have pb := p1.trans p2
    cases m with
    | zero => cases hl
    | succ m =>
      rw [loop] at hl
      obtain ⟨hj1, hj2⟩ := hJ none (fun _ z => nomatch z) β2 mh2 H2 (p2.fut p1.rel) i
      cases e2 : nxt mh2 src i with
      | none => rw [e2] at hl; cases hl
      | some on =>
        cases on with
        | none =>
          simp only [e2] at hl
          cases hl
          exact .inl ⟨hj2 e2, q β2 σ2 H2 pb hE2⟩
        | some d =>
          simp only [e2] at hl
          obtain ⟨hgo, hy⟩ := hj1 d e2
          refine .inr ⟨hgo, fun σ3 H3 => ∃ β3 env3 mh3, Po X.K β1 H1 β3 H3 mh3 ∧ EnvRel X.K β3 H3 env3 σ3 ∧ loop (fun x env mh => match asgT t x env with
          | some env => fb env mh
          | none => none) src m (i + 1) env3 mh3 = some (fl, env', mh'), fun σ3 H3 ⟨β3, env3, mh3, q1, q2, q3⟩ => ⟨m, Nat.lt_succ_self m, β3, env3, mh3, q1, q2, q3⟩, fun x H3 hyl => ?_⟩
          obtain ⟨p3, dx⟩ := hy x H3 hyl
          cases e3 : asgT t d env2 with
          | none => simp only [e3] at hl; cases hl
          | some env3 =>
            simp only [e3] at hl
            refine ⟨β2, env2, d, env3, hE2.mono p3 p2.rel, dx, e3, fun σ4 hE4 _ => ?_⟩
            have p23 := p2.trans p3
            cases e4 : fb env3 mh2 with
            | none => rw [e4] at hl; cases hl
            | some r =>
              obtain ⟨fl4, env4, mh4⟩ := r
              simp only [e4] at hl
              refine ⟨β2, env3, mh2, fl4, env4, mh4, p3.rel, hE4, e4, ?_⟩
              cases fl4 with
              | nx => exact fun β5 σ5 H5 p5 hE5 => ⟨β5, env4, mh4, p23.trans p5, hE5, hl⟩
              | ct => exact fun β5 σ5 H5 p5 hE5 => ⟨β5, env4, mh4, p23.trans p5, hE5, hl⟩
              | bk =>
                cases hl
                exact fun β5 σ5 H5 p5 hE5 => q β5 σ5 H5 ((pb.trans p3).trans p5) hE5
              | rt r =>
                cases hl
                exact fun β5 v H5 p5 d5 => q β5 v H5 ((pb.trans p3).trans p5) (d5.back (pb.trans p3) p5.pre)
/-! ### while -/
theorem s_whl {c : Expr} {body : List Stmt} {fc : Run} {fb : RunS} {pos : Pos} (hp : PassesOwn (model X.prog X.w) X.A X.env X.xe) (hc : PTX X c fc) (hb : PSsX X body fb) :
    PSX X (.While c body [] pos) (fun env mh => wloop (tst fc) fb manyW env mh) := by
  refine PS_imp (ps_while hp hc hb) fun D σ H h => ?_
  obtain ⟨β, env, mh, fl, env', mh', hr, hE, hf, q⟩ := h
  refine ⟨fun m σ2 H2 => ∃ β2 env2 mh2, Po X.K β H β2 H2 mh2 ∧ EnvRel X.K β2 H2 env2 σ2 ∧ wloop (tst fc) fb m env2 mh2 = some (fl, env', mh'), ⟨manyW, β, env, mh, Po.refl hr, hE, hf⟩, fun m σ2 H2 hw => ?_⟩
  obtain ⟨β2, env2, mh2, p2, hE2, hl⟩ := hw
  cases m with
  | zero => cases hl
  | succ m =>
    rw [wloop] at hl
    cases e1 : tst fc env2 mh2 with
    | none => rw [e1] at hl; cases hl
    | some r =>
      obtain ⟨b, mh3⟩ := r
      refine ⟨β2, env2, mh2, b, mh3, p2.rel, hE2, e1, fun β3 H3 p3 => ?_⟩
      have p23 := p2.trans p3
      cases b with
      | false =>
        simp only [e1] at hl
        cases hl
        show if false = true then _ else D.nx σ2 H3
        rw [if_neg (by decide)]
        exact q β3 σ2 H3 p23 (hE2.mono p3 p2.rel)
      | true =>
        simp only [e1] at hl
        refine (if_pos rfl).mpr ?_
        refine ⟨fun σ4 H4 => ∃ β4 env4 mh4, Po X.K β H β4 H4 mh4 ∧ EnvRel X.K β4 H4 env4 σ4 ∧ wloop (tst fc) fb m env4 mh4 = some (fl, env', mh'), fun σ3 H3 ⟨β3, env3, mh3, q1, q2, q3⟩ => ⟨m, Nat.lt_succ_self m, β3, env3, mh3, q1, q2, q3⟩, ?_⟩
        cases e4 : fb env2 mh3 with
        | none => rw [e4] at hl; cases hl
        | some r =>
          obtain ⟨fl4, env4, mh4⟩ := r
          simp only [e4] at hl
          refine ⟨β3, env2, mh3, fl4, env4, mh4, p3.rel, hE2.mono p3 p2.rel, e4, ?_⟩
          cases fl4 with
          | nx => exact fun β5 σ5 H5 p5 hE5 => ⟨β5, env4, mh4, p23.trans p5, hE5, hl⟩
          | ct => exact fun β5 σ5 H5 p5 hE5 => ⟨β5, env4, mh4, p23.trans p5, hE5, hl⟩
          | bk =>
            cases hl
            exact fun β5 σ5 H5 p5 hE5 => q β5 σ5 H5 (p23.trans p5) hE5
          | rt r =>
            cases hl
            exact fun β5 v H5 p5 d5 => q β5 v H5 (p23.trans p5) (d5.back p23 p5.pre)
end
end Ev
set_option Elab.async false
set_option linter.all false
set_option maxRecDepth 100000
set_option maxHeartbeats 1000000
/-! EvComp: list comprehensions. -/
namespace Ev
open PySem PySem.Spec PyProof.Rows L2
section
variable {K : PySem.W.Frag} {β β' : List Addr} {mh mh' : MH} {H H' : Hp} {A : Addr} {ws ws' : List V}
theorem side_T (hD : H A = some (.lst ws)) (a : Addr) (vs : List V) (q : SqT K H a vs) : SqT K (upd H A (.lst ws')) a vs := by
  rcases q with (q | ⟨o, q⟩) | q
  · exact .inl (.inl (by rw [upd_ne (a := A) fun z => by rw [z, hD] at q; cases q]; exact q))
  · exact .inl (.inr ⟨o, by rw [upd_ne (a := A) fun z => by rw [z, hD] at q; cases q]; exact q⟩)
  · exact .inr q
theorem side_F (hD : H A = some (.lst ws)) (a : Addr) (vs : List V) (q : FzL K H a vs) : FzL K (upd H A (.lst ws')) a vs := by
  obtain ⟨q1, q2⟩ := q
  rcases q2 with ⟨o, q2⟩ | q2
  · have e : (upd H A (.lst ws')) a = some (.frz o (.lst vs)) := by rw [upd_ne (a := A) fun z => by rw [z, hD] at q2; cases q2]; exact q2
    exact ⟨.inl (.inr ⟨o, e⟩), .inl ⟨o, e⟩⟩
  · exact ⟨q2 _, .inr q2⟩
theorem side_den (hD : H A = some (.lst ws)) {d : D} {v : V} (h : Den K β H d v) : Den K β (upd H A (.lst ws')) d v := h.mono (fun _ _ e => e) (side_T hD) (side_F hD)
theorem side_denL (hD : H A = some (.lst ws)) {d : List D} {v : List V} (h : DenL K β H d v) : DenL K β (upd H A (.lst ws')) d v := h.mono (fun _ _ e => e) (side_T hD) (side_F hD)
theorem HRel.side (h : HRel K β mh H) (hD : H A = some (.lst ws)) (hn : A ∉ β) : HRel K β mh (upd H A (.lst ws')) where
  len := h.len
  nd := h.nd
  at_ := fun n m a e1 e2 => by
    have ne : a ≠ A := fun z => hn (z ▸ List.mem_of_getElem? e2)
    have r := h.at_ n m a e1 e2
    cases m with
    | lst xs =>
      obtain ⟨vs, e, d⟩ := r
      exact ⟨vs, by rw [upd_ne ne]; exact e, side_denL hD d⟩
theorem Po.side (p : Po K β H β' H' mh') (h0 : H A = none) (hD : H' A = some (.lst ws)) (hn : A ∉ β') : Po K β H β' (upd H' A (.lst ws')) mh' :=
  ⟨p.pre, fun a o e hb => by rw [upd_ne (a := A) fun z => by rw [z, h0] at e; cases e]; exact p.ext a o e hb, p.frs, p.rel.side hD hn⟩
theorem Po.keepA (p : Po K β H β' H' mh') {o : HO} (hD : H A = some o) (hn : A ∉ β) : H' A = some o ∧ A ∉ β' :=
  ⟨p.ext A o hD hn, fun hm => (p.frs A hm).elim hn fun z => by rw [hD] at z; cases z⟩
end
abbrev RunT := Env → MH → Option (Bool × MH)
/-- a turn of a comprehension -/
def turnF (t : Tg) (env : Env) (vs : List Nat) (fc : RunT) (fe : Run) : D → MH → Option (Option D × MH) := fun x mh => match asgT t x (wipeE env vs) with
  | some env => match fc env mh with
    | some (true, mh) => (fe env mh).map fun r => match box r.1 r.2 with | (d, mh) => (some d, mh)
    | some (false, mh) => some (none, mh)
    | none => none
  | none => none
section
variable {X : Cx}
/-- a comprehension: as a value, and as the value of a name on its line -/
def LcOk (X : Cx) (e : Expr) (F : Run) : Prop := ∃ t : TE, PE X e t ∧ (∀ σ H Q, tEx X.K F σ H Q → t σ H Q) ∧ ∀ (i : Nat) (y : Str) (py spos : Pos), X.N[i]? = some y → X.env.scope.names.lookup y = some .local → swapsWith e (some (.Name y py)) spos.line X.env = pure true → PS X (.Assign [.Name y py] e spos) (tAsg t (gName i))
theorem LcOk.px {e : Expr} {F : Run} (h : LcOk X e F) : PX X e F := by
  obtain ⟨t, h1, h2, _⟩ := h
  exact PE_imp h1 h2
theorem LcOk.sub {e : Expr} {F F' : Run} (h : LcOk X e F) (i : ∀ env mh z, F' env mh = some z → F env mh = some z) : LcOk X e F' := by
  obtain ⟨t, h1, h2, h3⟩ := h
  exact ⟨t, h1, fun σ H Q ⟨β, env, mh, r, mh', hr, hE, hf, q⟩ => h2 σ H Q ⟨β, env, mh, r, mh', hr, hE, i _ _ _ hf, q⟩, h3⟩
theorem LcOk.no {e : Expr} {F : Run} (h : ∀ env mh z, F env mh ≠ some z) : LcOk X e F := ⟨fun _ _ _ => False, ⟨fun _ _ _ _ _ _ h => h.elim⟩, fun σ H Q ⟨β, env, mh, r, mh', hr, hE, hf, q⟩ => h _ _ _ hf, fun i y py spos _ _ _ => ⟨fun _ _ _ _ _ _ h => False.elim h⟩⟩
theorem x_comp {elt tg iter : Expr} {ifs : List Expr} {scope : Scope} {own : List (Str × Nat)} {pos : Pos} {t : Tg} {fi : Env → MH → Option (Src × MH)} {fc : RunT} {fe : Run} (hc : X.calm = true) (hN : X.N.Nodup) (hi : PI X tg iter (tIx X.K fi)) (ok : BlkOk X.N X.env.scope scope own)
    (hg : ∀ (s : Shared) (H : Hp) (C : Addr) (cl : List (Str × Addr)) (fp : List Addr), PG (X.blk s H scope (compEnvC scope cl C X.env) fp) tg (tTg X.K t)) (ht : ∀ (s : Shared) (H : Hp) (C : Addr) (cl : List (Str × Addr)) (fp : List Addr), PTs (X.blk s H scope (compEnvC scope cl C X.env) fp) ifs (tTs X.K fc))
    (he : ∀ (s : Shared) (H : Hp) (C : Addr) (cl : List (Str × Addr)) (fp : List Addr), PE (X.blk s H scope (compEnvC scope cl C X.env) fp) elt (tEx X.K fe)) (hs : ∀ x, foldedSetIterable iter X.env x = pure x) (hsub : ∀ i ∈ tgIx t, i ∈ own.map (·.2)) :
    LcOk X (.ListComp elt [⟨tg, iter, ifs, 0⟩] scope pos) (fun env mh => match fi env mh with
      | some (src, mh) => (compGo (turnF t env (own.map (·.2)) fc fe) src (turns mh src) 0 mh []).map fun r => (.l r.1, r.2)
      | none => none) := by
  refine ⟨_, pe_lc hc hN hi ok hg ht he hs, fun σ H Q h => ?_, fun i y py spos hy hyl hsw => ps_setLc hc hN hy hyl hsw hi ok hg ht he hs⟩
  obtain ⟨β, env, mh, z, mh', hr, hE, hf, q⟩ := h
  dsimp only at hf
  cases e1 : fi env mh with
  | none => rw [e1] at hf; cases hf
  | some p =>
    obtain ⟨src, mh1⟩ := p
    simp only [e1] at hf
    cases e2 : compGo (turnF t env (own.map (·.2)) fc fe) src (turns mh1 src) 0 mh1 [] with
    | none => rw [e2] at hf; cases hf
    | some out =>
      obtain ⟨ds, mhE⟩ := out
      rw [e2] at hf
      cases hf
      refine ⟨β, env, mh, src, mh1, hr, hE, e1, fun β1 J H1 p1 hJ => ?_⟩
      intro A hA
      have hA1 : A ∉ β1 := p1.rel.free hA
      refine ⟨fun i m H2 => ∃ β2 mh2 acc vs2, Po X.K β1 H1 β2 H2 mh2 ∧ A ∉ β2 ∧ H2 A = some (.lst vs2) ∧ DenL X.K β2 H2 acc vs2 ∧ compGo (turnF t env (own.map (·.2)) fc fe) src m i mh2 acc = some (ds, mhE),
        ⟨turns mh1 src, β1, mh1, [], [], Po.laid p1.rel hA, hA1, upd_same, .nil, e2⟩, fun i m H2 hw => ?_⟩
      obtain ⟨β2, mh2, acc, vs2, p2, hn2, hD2, l2, hl⟩ := hw
      cases m with
      | zero => cases hl
      | succ m =>
        rw [compGo] at hl
        obtain ⟨hj1, hj2⟩ := hJ none (fun _ z => nomatch z) β2 mh2 H2 (p2.fut p1.rel) i
        cases e3 : nxt mh2 src i with
        | none => rw [e3] at hl; cases hl
        | some on =>
          cases on with
          | none =>
            simp only [e3] at hl
            cases hl
            refine .inl ⟨hj2 e3, q β2 (.ref A) H2 (p1.trans p2) ?_⟩
            exact DenR.back (r := .l ds) p1 p2.pre ⟨A, vs2, rfl, hA, hn2, hD2, l2⟩
          | some d =>
            simp only [e3] at hl
            obtain ⟨hgo, hy⟩ := hj1 d e3
            refine .inr ⟨hgo, fun H3 => ∃ β3 mh3 acc3 vs3, Po X.K β1 H1 β3 H3 mh3 ∧ A ∉ β3 ∧ H3 A = some (.lst vs3) ∧ DenL X.K β3 H3 acc3 vs3 ∧ compGo (turnF t env (own.map (·.2)) fc fe) src m (i + 1) mh3 acc3 = some (ds, mhE),
              fun H3 ⟨β3, mh3, acc3, vs3, r1, r2, r3, r4, r5⟩ => ⟨m, Nat.lt_succ_self m, β3, mh3, acc3, vs3, r1, r2, r3, r4, r5⟩, fun x H3 hyl => ?_⟩
            obtain ⟨p3, dx⟩ := hy x H3 hyl
            have p23 := p2.trans p3
            obtain ⟨hD3, hn3⟩ := p3.keepA hD2 hn2
            have hE3 : EnvRel X.K β2 H3 env σ := (hE.mono p1 hr).mono p23 p1.rel
            cases e4 : turnF t env (own.map (·.2)) fc fe d mh2 with
            | none => rw [e4] at hl; cases hl
            | some tr =>
              obtain ⟨od, mhT⟩ := tr
              simp only [e4] at hl
              unfold turnF at e4
              cases e5 : asgT t d (wipeE env (own.map (·.2))) with
              | none => rw [e5] at e4; cases e4
              | some env4 =>
                simp only [e5] at e4
                refine ⟨β2, wipeE env (own.map (·.2)), d, env4, hE3.wipe _, dx, e5, fun σ4 hE4 hw4 => ⟨?_, ?_⟩⟩
                · rw [hw4 _ hsub, wipe_idem]
                · cases e6 : fc env4 mh2 with
                  | none => rw [e6] at e4; cases e4
                  | some br =>
                    obtain ⟨b, mh5⟩ := br
                    refine ⟨β2, env4, mh2, b, mh5, p3.rel, hE4, e6, fun β5 H5 p5 => ?_⟩
                    have p25 := p23.trans p5
                    obtain ⟨hD5, hn5⟩ := p5.keepA hD3 hn3
                    have l5 : DenL X.K β5 H5 acc vs2 := p5.denL p3.rel (p3.denL p2.rel l2)
                    cases b with
                    | false =>
                      simp only [e6] at e4
                      cases e4
                      refine (if_neg (by decide)).mpr ?_
                      exact ⟨β5, _, acc, vs2, p25, hn5, hD5, l5, hl⟩
                    | true =>
                      simp only [e6] at e4
                      refine (if_pos rfl).mpr ?_
                      cases e7 : fe env4 mh5 with
                      | none => rw [e7] at e4; cases e4
                      | some rr =>
                        obtain ⟨r, mh6⟩ := rr
                        rw [e7] at e4
                        cases e4
                        dsimp only at hl
                        split at hl
                        · rename_i hlen
                          refine one_of p5.rel (hE4.mono p5 p3.rel) e7 fun β6 v H6 p6 d6 => ?_
                          obtain ⟨β7, p7, _, _, d7⟩ := p6.box d6
                          obtain ⟨hD7, hn7⟩ := p7.keepA hD5 hn5
                          have l7 : DenL X.K β7 H6 acc vs2 := p7.denL p5.rel l5
                          refine ⟨vs2, hD7, by rw [← l5.len]; exact Nat.lt_of_lt_of_le hlen (by decide), β7, _, acc ++ [(box r mh6).1], vs2 ++ [v], (p25.trans p7).side hA hD7 hn7, hn7, upd_same, side_denL hD7 (l7.app (.cons d7 .nil)), hl⟩
                        · cases hl
/-! ### two for's -/
theorem Fut.then {K : PySem.W.Frag} {A : Option Addr} {β0 β β' : List Addr} {H0 H H' : Hp} {mh mh' : MH} (f : Fut K A β0 H0 β H mh) (p : Po K β H β' H' mh') : Fut K A β0 H0 β' H' mh' where
  pre := fun n a e => p.pre n a (f.pre n a e)
  ext := fun a o e hn hA => p.ext a o (f.ext a o e hn hA) fun hm => (f.frs a hm).elim hn fun z => by rw [e] at z; cases z
  kT := fun a vs q => f.rel.sqT p.ext a vs (f.kT a vs q)
  kF := fun a vs q => f.rel.fzL p.ext a vs (f.kF a vs q)
  frs := fun a hm => (p.frs a hm).elim (f.frs a) fun z => by
    by_cases hb : a ∈ β0
    · exact .inl hb
    · by_cases hA : A = some a
      · cases e : H0 a with
        | none => exact .inr rfl
        | some o =>
          -- the address of a list that is being made is never free again
          exact absurd z (f.stay a hA o e)
      · cases e : H0 a with
        | none => exact .inr rfl
        | some o => rw [f.ext a o e hb hA] at z; cases z
  stay := fun a hA o e z => f.stay a hA o e (by
    cases q : H a with
    | none => rfl
    | some o' =>
      by_cases hb : a ∈ β
      · exact absurd hb fun hb => by
          obtain ⟨n, en⟩ := mem_get hb
          obtain ⟨vs, ev⟩ := p.rel.isl (List.mem_of_getElem? (p.pre n a en))
          rw [ev] at z; cases z
      · rw [p.ext a o' q hb] at z; cases z)
  rel := p.rel
theorem Fut.side {K : PySem.W.Frag} {A : Addr} {β0 β : List Addr} {H0 H : Hp} {mh : MH} {ws ws' : List V} (f : Fut K (some A) β0 H0 β H mh) (hD : H A = some (.lst ws)) (hn : A ∉ β) : Fut K (some A) β0 H0 β (upd H A (.lst ws')) mh where
  pre := f.pre
  ext := fun a o e hb hA => by rw [upd_ne (a := A) fun z => hA (by rw [z])]; exact f.ext a o e hb hA
  kT := fun a vs q => side_T hD a vs (f.kT a vs q)
  kF := fun a vs q => side_F hD a vs (f.kF a vs q)
  frs := f.frs
  stay := fun a hA o e z => by
    cases hA
    rw [upd_same] at z
    cases z
  rel := f.rel.side hD hn
/-- a turn of the outer for -/
def turnF2 (t : Tg) (env : Env) (vs : List Nat) (fc : RunT) (fi1 : Env → MH → Option (Src × MH)) (t1 : Tg) (vs1 : List Nat) (fc1 : RunT) (fe : Run) : D → MH → List D → Option (List D × MH) := fun x mh acc => match asgT t x (wipeE env vs) with
  | some env => match fc env mh with
    | some (true, mh) => match fi1 env mh with
      | some (src1, mh) => compGo (turnF t1 env vs1 fc1 fe) src1 (turns mh src1) 0 mh acc
      | none => none
    | some (false, mh) => some (acc, mh)
    | none => none
  | none => none
theorem x_comp2 {elt tg iter tg1 iter1 : Expr} {ifs ifs1 : List Expr} {scope : Scope} {own : List (Str × Nat)} {vs1 : List Nat} {pos : Pos} {t t1 : Tg} {fi fi1 : Env → MH → Option (Src × MH)} {fc fc1 : RunT} {fe : Run} (hc : X.calm = true) (hN : X.N.Nodup) (hi : PI X tg iter (tIx X.K fi)) (ok : BlkOk X.N X.env.scope scope own) (hv : ∀ i ∈ vs1, i ∈ own.map (·.2))
    (hg : ∀ (s : Shared) (H : Hp) (C : Addr) (cl : List (Str × Addr)) (fp : List Addr), PG (X.blk s H scope (compEnvC scope cl C X.env) fp) tg (tTg X.K t)) (ht : ∀ (s : Shared) (H : Hp) (C : Addr) (cl : List (Str × Addr)) (fp : List Addr), PTs (X.blk s H scope (compEnvC scope cl C X.env) fp) ifs (tTs X.K fc))
    (hi1 : ∀ (s : Shared) (H : Hp) (C : Addr) (cl : List (Str × Addr)) (fp : List Addr), PI (X.blk s H scope (compEnvC scope cl C X.env) fp) tg1 iter1 (tIx X.K fi1))
    (hg1 : ∀ (s : Shared) (H : Hp) (C : Addr) (cl : List (Str × Addr)) (fp : List Addr), PG (X.blk s H scope (compEnvC scope cl C X.env) fp) tg1 (tTg X.K t1)) (ht1 : ∀ (s : Shared) (H : Hp) (C : Addr) (cl : List (Str × Addr)) (fp : List Addr), PTs (X.blk s H scope (compEnvC scope cl C X.env) fp) ifs1 (tTs X.K fc1))
    (he : ∀ (s : Shared) (H : Hp) (C : Addr) (cl : List (Str × Addr)) (fp : List Addr), PE (X.blk s H scope (compEnvC scope cl C X.env) fp) elt (tEx X.K fe)) (hs : ∀ x, foldedSetIterable iter X.env x = pure x) (hs1 : ∀ env x, foldedSetIterable iter1 env x = pure x) (hsub : ∀ i ∈ tgIx t, i ∈ own.map (·.2)) (hsub1 : ∀ i ∈ tgIx t1, i ∈ vs1) :
    LcOk X (.ListComp elt [⟨tg, iter, ifs, 0⟩, ⟨tg1, iter1, ifs1, 0⟩] scope pos) (fun env mh => match fi env mh with
      | some (src, mh) => (compGo2 (turnF2 t env (own.map (·.2)) fc fi1 t1 vs1 fc1 fe) src (turns mh src) 0 mh []).map fun r => (.l r.1, r.2)
      | none => none) := by
  refine ⟨_, pe_lc2 (vs1 := vs1) hc hN hi ok hv hg ht hi1 hg1 ht1 he hs hs1, fun σ H Q h => ?_, fun i y py spos hy hyl hsw => ps_setLc2 (vs1 := vs1) hc hN hy hyl hsw hi ok hv hg ht hi1 hg1 ht1 he hs hs1⟩
  obtain ⟨β, env, mh, z, mh', hr, hE, hf, q⟩ := h
  dsimp only at hf
  cases e1 : fi env mh with
  | none => rw [e1] at hf; cases hf
  | some p =>
    obtain ⟨src, mh1⟩ := p
    simp only [e1] at hf
    cases e2 : compGo2 (turnF2 t env (own.map (·.2)) fc fi1 t1 vs1 fc1 fe) src (turns mh1 src) 0 mh1 [] with
    | none => rw [e2] at hf; cases hf
    | some out =>
      obtain ⟨ds, mhE⟩ := out
      rw [e2] at hf
      cases hf
      refine ⟨β, env, mh, src, mh1, hr, hE, e1, fun β1 J H1 p1 hJ => ?_⟩
      intro A hA
      have hA1 : A ∉ β1 := p1.rel.free hA
      refine ⟨fun i m H2 => ∃ β2 mh2 acc vs2, Po X.K β1 H1 β2 H2 mh2 ∧ A ∉ β2 ∧ H2 A = some (.lst vs2) ∧ DenL X.K β2 H2 acc vs2 ∧ compGo2 (turnF2 t env (own.map (·.2)) fc fi1 t1 vs1 fc1 fe) src m i mh2 acc = some (ds, mhE),
        ⟨turns mh1 src, β1, mh1, [], [], Po.laid p1.rel hA, hA1, upd_same, .nil, e2⟩, fun i m H2 hw => ?_⟩
      obtain ⟨β2, mh2, acc, vs2, p2, hn2, hD2, l2, hl⟩ := hw
      cases m with
      | zero => cases hl
      | succ m =>
        rw [compGo2] at hl
        obtain ⟨hj1, hj2⟩ := hJ none (fun _ z => nomatch z) β2 mh2 H2 (p2.fut p1.rel) i
        cases e3 : nxt mh2 src i with
        | none => rw [e3] at hl; cases hl
        | some on =>
          cases on with
          | none =>
            simp only [e3] at hl
            cases hl
            refine .inl ⟨hj2 e3, q β2 (.ref A) H2 (p1.trans p2) ?_⟩
            exact DenR.back (r := .l ds) p1 p2.pre ⟨A, vs2, rfl, hA, hn2, hD2, l2⟩
          | some d =>
            simp only [e3] at hl
            obtain ⟨hgo, hy⟩ := hj1 d e3
            refine .inr ⟨hgo, fun H3 => ∃ β3 mh3 acc3 vs3, Po X.K β1 H1 β3 H3 mh3 ∧ A ∉ β3 ∧ H3 A = some (.lst vs3) ∧ DenL X.K β3 H3 acc3 vs3 ∧ compGo2 (turnF2 t env (own.map (·.2)) fc fi1 t1 vs1 fc1 fe) src m (i + 1) mh3 acc3 = some (ds, mhE),
              fun H3 ⟨β3, mh3, acc3, vs3, r1, r2, r3, r4, r5⟩ => ⟨m, Nat.lt_succ_self m, β3, mh3, acc3, vs3, r1, r2, r3, r4, r5⟩, fun x H3 hyl => ?_⟩
            obtain ⟨p3, dx⟩ := hy x H3 hyl
            have p23 := p2.trans p3
            obtain ⟨hD3, hn3⟩ := p3.keepA hD2 hn2
            have hE3 : EnvRel X.K β2 H3 env σ := (hE.mono p1 hr).mono p23 p1.rel
            cases e4 : turnF2 t env (own.map (·.2)) fc fi1 t1 vs1 fc1 fe d mh2 acc with
            | none => rw [e4] at hl; cases hl
            | some tr =>
              obtain ⟨accF, mhF⟩ := tr
              simp only [e4] at hl
              unfold turnF2 at e4
              cases e5 : asgT t d (wipeE env (own.map (·.2))) with
              | none => rw [e5] at e4; cases e4
              | some env4 =>
                simp only [e5] at e4
                refine ⟨β2, wipeE env (own.map (·.2)), d, env4, hE3.wipe _, dx, e5, fun σ4 hE4 hw4 => ⟨?_, ?_⟩⟩
                · rw [hw4 _ hsub, wipe_idem]
                · cases e6 : fc env4 mh2 with
                  | none => rw [e6] at e4; cases e4
                  | some br =>
                    obtain ⟨b, mh5⟩ := br
                    refine ⟨β2, env4, mh2, b, mh5, p3.rel, hE4, e6, fun β5 H5 p5 => ?_⟩
                    have p25 := p23.trans p5
                    obtain ⟨hD5, hn5⟩ := p5.keepA hD3 hn3
                    have l5 : DenL X.K β5 H5 acc vs2 := p5.denL p3.rel (p3.denL p2.rel l2)
                    cases b with
                    | false =>
                      simp only [e6] at e4
                      cases e4
                      refine (if_neg (by decide)).mpr ?_
                      exact ⟨β5, _, _, vs2, p25, hn5, hD5, l5, hl⟩
                    | true =>
                      simp only [e6] at e4
                      refine (if_pos rfl).mpr ?_
                      cases e7 : fi1 env4 mh5 with
                      | none => rw [e7] at e4; cases e4
                      | some rr =>
                        obtain ⟨src1, mh6⟩ := rr
                        simp only [e7] at e4
                        have hE5 := hE4.mono p5 p3.rel
                        refine ⟨β5, env4, mh5, src1, mh6, p5.rel, hE5, e7, fun β6 J1 H6 p6 hJ1 => ?_⟩
                        have p26 := p25.trans p6
                        obtain ⟨hD6, hn6⟩ := p6.keepA hD5 hn5
                        have l6 : DenL X.K β6 H6 acc vs2 := p6.denL p5.rel l5
                        have hE6 := hE5.mono p6 p5.rel
                        have hJA := hJ1 (some A) fun a e => by cases e; rw [hD5]; exact fun z => nomatch z
                        refine ⟨fun j k H7 => ∃ β7 mh7 acc7 vs7, Fut X.K (some A) β6 H6 β7 H7 mh7 ∧ Po X.K β1 H1 β7 H7 mh7 ∧ A ∉ β7 ∧ H7 A = some (.lst vs7) ∧ DenL X.K β7 H7 acc7 vs7 ∧ EnvRel X.K β7 H7 env4 σ4 ∧ compGo (turnF t1 env4 vs1 fc1 fe) src1 k j mh7 acc7 = some (accF, mhF),
                          ⟨turns mh6 src1, β6, mh6, acc, vs2, (Po.refl p6.rel).fut p6.rel, p26, hn6, hD6, l6, hE6, e4⟩, fun j k H7 hw7 => ?_⟩
                        obtain ⟨β7, mh7, acc7, vs7, f7, p7, hn7, hD7, l7, hE7, hl7⟩ := hw7
                        cases k with
                        | zero => cases hl7
                        | succ k =>
                          rw [compGo] at hl7
                          obtain ⟨hk1, hk2⟩ := hJA β7 mh7 H7 f7 j
                          cases e8 : nxt mh7 src1 j with
                          | none => rw [e8] at hl7; cases hl7
                          | some on =>
                            cases on with
                            | none =>
                              simp only [e8] at hl7
                              cases hl7
                              exact .inl ⟨hk2 e8, β7, _, _, vs7, p7, hn7, hD7, l7, hl⟩
                            | some d8 =>
                              simp only [e8] at hl7
                              obtain ⟨hgo8, hy8⟩ := hk1 d8 e8
                              refine .inr ⟨hgo8, fun H8 => ∃ β8 mh8 acc8 vs8, Fut X.K (some A) β6 H6 β8 H8 mh8 ∧ Po X.K β1 H1 β8 H8 mh8 ∧ A ∉ β8 ∧ H8 A = some (.lst vs8) ∧ DenL X.K β8 H8 acc8 vs8 ∧ EnvRel X.K β8 H8 env4 σ4 ∧ compGo (turnF t1 env4 vs1 fc1 fe) src1 k (j + 1) mh8 acc8 = some (accF, mhF),
                                fun H8 ⟨β8, mh8, acc8, vs8, r0, r1, r2, r3, r4, r6, r5⟩ => ⟨k, Nat.lt_succ_self k, β8, mh8, acc8, vs8, r0, r1, r2, r3, r4, r6, r5⟩, fun x8 H8 hyl8 => ?_⟩
                              obtain ⟨p8, dx8⟩ := hy8 x8 H8 hyl8
                              have p78 := p7.trans p8
                              have f78 := f7.then p8
                              obtain ⟨hD8, hn8⟩ := p8.keepA hD7 hn7
                              have hE8 := hE7.mono p8 p7.rel
                              have l8 := p8.denL p7.rel l7
                              cases e9 : turnF t1 env4 vs1 fc1 fe d8 mh7 with
                              | none => rw [e9] at hl7; cases hl7
                              | some tr =>
                                obtain ⟨od, mhT⟩ := tr
                                simp only [e9] at hl7
                                unfold turnF at e9
                                cases e10 : asgT t1 d8 (wipeE env4 vs1) with
                                | none => rw [e10] at e9; cases e9
                                | some env9 =>
                                  simp only [e10] at e9
                                  refine ⟨β7, wipeE env4 vs1, d8, env9, hE8.wipe _, dx8, e10, fun σ9 hE9 hw9 => ⟨?_, ?_⟩⟩
                                  · rw [hw9 _ hsub1, wipe_idem]
                                  · cases e11 : fc1 env9 mh7 with
                                    | none => rw [e11] at e9; cases e9
                                    | some br =>
                                      obtain ⟨b, mh10⟩ := br
                                      refine ⟨β7, env9, mh7, b, mh10, p8.rel, hE9, e11, fun β10 H10 p10 => ?_⟩
                                      have p710 := p78.trans p10
                                      have f710 := f78.then p10
                                      obtain ⟨hD10, hn10⟩ := p10.keepA hD8 hn8
                                      have l10 := p10.denL p8.rel l8
                                      have hE10 := hE8.mono p10 p8.rel
                                      cases b with
                                      | false =>
                                        simp only [e11] at e9
                                        cases e9
                                        refine (if_neg (by decide)).mpr ?_
                                        exact ⟨β10, _, acc7, vs7, f710, p710, hn10, hD10, l10, hE10, hl7⟩
                                      | true =>
                                        simp only [e11] at e9
                                        refine (if_pos rfl).mpr ?_
                                        cases e12 : fe env9 mh10 with
                                        | none => rw [e12] at e9; cases e9
                                        | some rr =>
                                          obtain ⟨r, mh11⟩ := rr
                                          rw [e12] at e9
                                          cases e9
                                          dsimp only at hl7
                                          split at hl7
                                          · rename_i hlen
                                            refine one_of p10.rel (hE9.mono p10 p8.rel) e12 fun β11 v H11 p11 d11 => ?_
                                            obtain ⟨β12, p12, _, _, d12⟩ := p11.box d11
                                            obtain ⟨hD12, hn12⟩ := p12.keepA hD10 hn10
                                            have l12 := p12.denL p10.rel l10
                                            have hE12 := hE10.mono p12 p10.rel
                                            refine ⟨vs7, hD12, by rw [← l7.len]; exact Nat.lt_of_lt_of_le hlen (by decide), β12, _, acc7 ++ [(box r mh11).1], vs7 ++ [v], (f710.then p12).side hD12 hn12, (p710.trans p12).side hA hD12 hn12, hn12, upd_same, side_denL hD12 (l12.app (.cons d12 .nil)), ?_, hl7⟩
                                            refine ⟨hE12.len, fun i d e => ?_⟩
                                            obtain ⟨w, w1, w2⟩ := hE12.at_ i d e
                                            exact ⟨w, w1, side_den hD12 w2⟩
                                          · cases hl7
end
end Ev
set_option Elab.async false
set_option linter.all false
set_option maxRecDepth 100000
set_option maxHeartbeats 1000000
/-! EvSort2: sorted, by values. -/
namespace Ev
open PySem PySem.Spec PyProof.Rows L2
/-! ### one sorted list -/
section
variable {α : Type} {lt lt' : α → α → Bool}
theorem insR_perm (x : α) : ∀ l : List α, (insR lt x l).Perm (x :: l)
  | [] => List.Perm.refl _
  | y :: r => by
    rw [insR]
    split
    · exact ((insR_perm x r).cons y).trans (List.Perm.swap x y r)
    · exact List.Perm.refl _
theorem isort_perm : ∀ l : List α, (isort lt l).Perm l
  | [] => List.Perm.refl _
  | x :: r => by
    rw [isort]
    exact (insR_perm x _).trans ((isort_perm r).cons x)
theorem insR_congr (x : α) : ∀ l : List α, (∀ y ∈ l, lt y x = lt' y x) → insR lt x l = insR lt' x l
  | [], _ => rfl
  | y :: r, h => by
    rw [insR, insR, h y List.mem_cons_self, insR_congr x r fun z hz => h z (List.mem_cons_of_mem _ hz)]
theorem isort_congr : ∀ l : List α, (∀ x ∈ l, ∀ y ∈ l, lt x y = lt' x y) → isort lt l = isort lt' l
  | [], _ => rfl
  | x :: r, h => by
    have ih := isort_congr r fun a ha b hb => h a (List.mem_cons_of_mem _ ha) b (List.mem_cons_of_mem _ hb)
    rw [isort, isort, ih]
    exact insR_congr x _ fun y hy => h y (List.mem_cons_of_mem _ ((isort_perm r).mem_iff.mp hy)) x List.mem_cons_self
theorem insR_sorted (tr : ∀ a b c, lt b a = false → lt c b = false → lt c a = false) (tot : ∀ a b, lt a b = true → lt b a = false) (x : α) : ∀ l : List α, l.Pairwise (fun a b => lt b a = false) → (insR lt x l).Pairwise (fun a b => lt b a = false)
  | [], _ => List.pairwise_singleton _ _
  | y :: r, h => by
    obtain ⟨h1, h2⟩ := List.pairwise_cons.mp h
    rw [insR]
    by_cases q : lt y x = true
    · rw [if_pos q]
      refine List.pairwise_cons.mpr ⟨fun z hz => ?_, insR_sorted tr tot x r h2⟩
      rcases List.mem_cons.mp ((insR_perm x r).mem_iff.mp hz) with rfl | hz
      · exact tot _ _ q
      · exact h1 z hz
    · rw [if_neg q]
      have q' : lt y x = false := Bool.eq_false_iff.mpr q
      refine List.pairwise_cons.mpr ⟨fun z hz => ?_, h⟩
      rcases List.mem_cons.mp hz with rfl | hz
      · exact q'
      · exact tr _ _ _ q' (h1 z hz)
theorem isort_sorted (tr : ∀ a b c, lt b a = false → lt c b = false → lt c a = false) (tot : ∀ a b, lt a b = true → lt b a = false) : ∀ l : List α, (isort lt l).Pairwise (fun a b => lt b a = false)
  | [] => List.Pairwise.nil
  | x :: r => by
    rw [isort]
    exact insR_sorted tr tot x _ (isort_sorted tr tot r)
theorem sorted_one {le : α → α → Prop} : ∀ {l m : List α}, (∀ x ∈ l, ∀ y ∈ l, le x y → le y x → x = y) → l.Perm m → l.Pairwise le → m.Pairwise le → l = m
  | [], m, _, p, _, _ => (List.Perm.eq_nil p.symm).symm
  | x :: l, [], _, p, _, _ => absurd p.length_eq (by simp)
  | x :: l, y :: m, an, p, hl, hm => by
    obtain ⟨l1, l2⟩ := List.pairwise_cons.mp hl
    obtain ⟨m1, m2⟩ := List.pairwise_cons.mp hm
    have e : x = y := by
      rcases List.mem_cons.mp (p.mem_iff.mp List.mem_cons_self) with e | hx
      · exact e
      · rcases List.mem_cons.mp (p.mem_iff.mpr List.mem_cons_self) with e | hy
        · exact e.symm
        · exact an x List.mem_cons_self y (List.mem_cons_of_mem _ hy) (l1 y hy) (m1 x hx)
    subst e
    rw [sorted_one (fun a ha b hb => an a (List.mem_cons_of_mem _ ha) b (List.mem_cons_of_mem _ hb)) p.cons_inv l2 m2]
end
/-! ### data that are alike -/
mutual
theorem al_cp : ∀ (d e : D), alD d e = true → cpD d e = true ∧ PySem.W.alike d.py e.py = true
  | .int _, e, h => by cases e <;> first | exact ⟨rfl, rfl⟩ | cases h
  | .str _, e, h => by cases e <;> first | exact ⟨rfl, rfl⟩ | cases h
  | .tup xs, e, h => by
    cases e with
    | tup ys =>
      rw [alD] at h
      obtain ⟨h1, h2⟩ := al_cpL xs ys h
      exact ⟨by rw [cpD]; exact h1, by rw [D.py, D.py, PySem.W.alike]; exact h2⟩
    | _ => cases h
  | .non, e, h => by cases e <;> cases h
  | .bl _, e, h => by cases e <;> cases h
  | .fz _, e, h => by cases e <;> cases h
  | .ref _, e, h => by cases e <;> cases h
theorem al_cpL : ∀ (ds es : List D), alL ds es = true → cpL ds es = true ∧ PySem.W.alikeAll (D.pys ds) (D.pys es) = true
  | [], es, _ => by cases es <;> exact ⟨by rw [cpL]; intros; contradiction, by simp [D.pys, PySem.W.alikeAll]⟩
  | d :: ds, [], _ => ⟨by rw [cpL]; intros; contradiction, by simp [D.pys, PySem.W.alikeAll]⟩
  | d :: ds, e :: es, h => by
    rw [alL] at h
    obtain ⟨h1, h2⟩ := Bool.and_eq_true_iff.mp h
    obtain ⟨a1, a2⟩ := al_cp d e h1
    obtain ⟨b1, b2⟩ := al_cpL ds es h2
    refine ⟨?_, ?_⟩
    · rw [cpL, a1, b1]
      cases cmpD d e <;> rfl
    · rw [D.pys, D.pys, PySem.W.alikeAll, a2, b2]
      rfl
end
mutual
theorem al_lt : ∀ (d e : D), alD d e = true → PySem.W.dataLt d.py e.py = ltD d e
  | .int i, e, h => by
    cases e with
    | int j =>
      rw [D.py, D.py, PySem.W.dataLt_int, ltD, cmpD]
      unfold intOrd
      by_cases q : i < j
      · rw [if_pos q, decide_eq_true q]
      · rw [if_neg q, decide_eq_false q]
        split
        · rename_i z; split at z <;> cases z
        · rfl
    | _ => cases h
  | .str x, e, h => by
    cases e with
    | str y =>
      rw [D.py, D.py, PySem.W.dataLt_str, ltD, cmpD]
      unfold strOrd
      by_cases q : x.cps.toList < y.cps.toList
      · rw [if_pos q, decide_eq_true q]
      · rw [if_neg q, decide_eq_false q]
        split
        · rename_i z; split at z <;> cases z
        · rfl
    | _ => cases h
  | .tup xs, e, h => by
    cases e with
    | tup ys =>
      rw [alD] at h
      rw [D.py, D.py, PySem.W.dataLt_tuple, ltD, cmpD]
      exact al_ltL xs ys h
    | _ => cases h
  | .non, e, h => by cases e <;> cases h
  | .bl _, e, h => by cases e <;> cases h
  | .fz _, e, h => by cases e <;> cases h
  | .ref _, e, h => by cases e <;> cases h
theorem al_ltL : ∀ (ds es : List D), alL ds es = true → PyProof.Rows.lexLt PyProof.Rows.itemOrd (PySem.W.keyToksAll (D.pys ds)) (PySem.W.keyToksAll (D.pys es)) = (match cmpL ds es with
    | .lt => true
    | _ => false)
  | [], [], _ => by rw [PyProof.Rows.lex_irrefl, cmpL]
  | [], e :: es, _ => by
    rw [show D.pys [] = [] from rfl, D.pys, cmpL, PySem.W.toks_all_cons]
    simp only [PySem.W.keyToksAll]
    rw [PyProof.Rows.lex_diff (O := PyProof.Rows.itemOrd) (by simp)]
    simp [PyProof.Rows.itemLt]
  | d :: ds, [], _ => by
    rw [show D.pys [] = [] from rfl, D.pys, cmpL, PySem.W.toks_all_cons]
    simp only [PySem.W.keyToksAll]
    rw [PyProof.Rows.lex_diff (O := PyProof.Rows.itemOrd) (by simp)]
    simp [PyProof.Rows.itemLt]
  | d :: ds, e :: es, h => by
    rw [alL] at h
    obtain ⟨h1, h2⟩ := Bool.and_eq_true_iff.mp h
    obtain ⟨c1, a1⟩ := al_cp d e h1
    have q := cp_eqv d e c1
    rw [D.pys, D.pys, cmpL]
    cases hc : cmpD d e with
    | eq =>
      rw [hc] at q
      rw [PySem.W.dataLt_all_yes a1 q]
      exact al_ltL ds es h2
    | lt =>
      rw [hc] at q
      rw [PySem.W.dataLt_all_no a1 q, al_lt d e h1, ltD, hc]
    | gt =>
      rw [hc] at q
      rw [PySem.W.dataLt_all_no a1 q, al_lt d e h1, ltD, hc]
end
mutual
theorem al_eq : ∀ (d e : D), alD d e = true → cmpD d e = .eq → d = e
  | .int i, e, h, c => by
    cases e with
    | int j => rw [cmpD] at c; rw [intOrd_eq.mp c]
    | _ => cases h
  | .str x, e, h, c => by
    cases e with
    | str y => rw [cmpD] at c; rw [strOrd_eq.mp c]
    | _ => cases h
  | .tup xs, e, h, c => by
    cases e with
    | tup ys =>
      rw [alD] at h
      rw [cmpD] at c
      rw [al_eqL xs ys h c]
    | _ => cases h
  | .non, e, h, _ => by cases e <;> cases h
  | .bl _, e, h, _ => by cases e <;> cases h
  | .fz _, e, h, _ => by cases e <;> cases h
  | .ref _, e, h, _ => by cases e <;> cases h
theorem al_eqL : ∀ (ds es : List D), alL ds es = true → cmpL ds es = .eq → ds = es
  | [], [], _, _ => rfl
  | [], _ :: _, _, c => by rw [cmpL] at c; cases c
  | _ :: _, [], _, c => by rw [cmpL] at c; cases c
  | d :: ds, e :: es, h, c => by
    rw [alL] at h
    obtain ⟨h1, h2⟩ := Bool.and_eq_true_iff.mp h
    rw [cmpL] at c
    cases hc : cmpD d e with
    | eq =>
      rw [hc] at c
      rw [al_eq d e h1 hc, al_eqL ds es h2 c]
    | lt => rw [hc] at c; cases c
    | gt => rw [hc] at c; cases c
end
mutual
theorem al_sym : ∀ (d e : D), alD d e = true → alD e d = true
  | .int _, e, h => by cases e <;> first | rfl | cases h
  | .str _, e, h => by cases e <;> first | rfl | cases h
  | .tup xs, e, h => by
    cases e with
    | tup ys => rw [alD] at h ⊢; exact al_symL xs ys h
    | _ => cases h
  | .non, e, h => by cases e <;> cases h
  | .bl _, e, h => by cases e <;> cases h
  | .fz _, e, h => by cases e <;> cases h
  | .ref _, e, h => by cases e <;> cases h
theorem al_symL : ∀ (ds es : List D), alL ds es = true → alL es ds = true
  | [], [], _ => rfl
  | [], _ :: _, _ => by rw [alL]; intros; contradiction
  | _ :: _, [], _ => by rw [alL]; intros; contradiction
  | d :: ds, e :: es, h => by
    rw [alL] at h ⊢
    obtain ⟨h1, h2⟩ := Bool.and_eq_true_iff.mp h
    rw [al_sym d e h1, al_symL ds es h2]
    rfl
end
mutual
theorem al_gt : ∀ (d e : D), alD d e = true → cmpD d e = .gt → cmpD e d = .lt
  | .int i, e, h, c => by
    cases e with
    | int j =>
      rw [cmpD] at c ⊢
      unfold intOrd at c ⊢
      split at c
      · cases c
      · split at c
        · cases c
        · rw [if_pos (by omega)]
    | _ => cases h
  | .str x, e, h, c => by
    cases e with
    | str y =>
      rw [cmpD] at c ⊢
      unfold strOrd at c ⊢
      split at c
      · cases c
      · rename_i q1
        split at c
        · cases c
        · rename_i q2
          rw [if_pos (str_gt q1 q2)]
    | _ => cases h
  | .tup xs, e, h, c => by
    cases e with
    | tup ys =>
      rw [alD] at h
      rw [cmpD] at c ⊢
      exact al_gtL xs ys h c
    | _ => cases h
  | .non, e, h, _ => by cases e <;> cases h
  | .bl _, e, h, _ => by cases e <;> cases h
  | .fz _, e, h, _ => by cases e <;> cases h
  | .ref _, e, h, _ => by cases e <;> cases h
theorem al_gtL : ∀ (ds es : List D), alL ds es = true → cmpL ds es = .gt → cmpL es ds = .lt
  | [], [], _, c => by rw [cmpL] at c; cases c
  | [], _ :: _, _, c => by rw [cmpL] at c; cases c
  | _ :: _, [], _, _ => by rw [cmpL]
  | d :: ds, e :: es, h, c => by
    rw [alL] at h
    obtain ⟨h1, h2⟩ := Bool.and_eq_true_iff.mp h
    rw [cmpL] at c ⊢
    cases hc : cmpD d e with
    | eq =>
      rw [hc] at c
      have ed := al_eq d e h1 hc
      subst ed
      rw [hc]
      exact al_gtL ds es h2 c
    | lt => rw [hc] at c; cases c
    | gt => rw [al_gt d e h1 hc]
end
/-- the order of the data, as the library sorts them -/
def ltP (a b : D) : Bool := PySem.W.dataLt a.py b.py
theorem ltP_eq (a b : D) : PySem.W.dataLe false D.py a b = !ltP b a := rfl
theorem ltP_rev (a b : D) : PySem.W.dataLe true D.py a b = !ltP a b := rfl
theorem ltP_tr (a b c : D) (h1 : ltP b a = false) (h2 : ltP c b = false) : ltP c a = false := by
  have t := (PySem.W.sortLe_total (PyProof.Rows.listOrd PyProof.Rows.itemOrd) false fun b : D => PySem.W.keyToks b.py).trans a b c (show (!ltP b a) = true by rw [h1]; rfl) (show (!ltP c b) = true by rw [h2]; rfl)
  have t : (!ltP c a) = true := t
  cases q : ltP c a with
  | false => rfl
  | true => rw [q] at t; cases t
theorem ltP_tot (a b : D) (h : ltP a b = true) : ltP b a = false := by
  have t := (PySem.W.sortLe_total (PyProof.Rows.listOrd PyProof.Rows.itemOrd) false fun b : D => PySem.W.keyToks b.py).total a b
  have t : ((!ltP b a) || (!ltP a b)) = true := Bool.or_eq_true_iff.mpr t
  rw [h] at t
  cases q : ltP b a with
  | false => rfl
  | true => rw [q] at t; cases t
theorem merge_sort {ds : List D} (h : ∀ x ∈ ds, ∀ y ∈ ds, alD x y = true) : ds.mergeSort (PySem.W.dataLe false D.py) = isort ltD ds ∧ ds.mergeSort (PySem.W.dataLe true D.py) = (isort ltD ds).reverse := by
  have cg : isort ltD ds = isort ltP ds := isort_congr ds fun x hx y hy => (al_lt x y (h x hx y hy)).symm
  have anti : ∀ x ∈ ds, ∀ y ∈ ds, ltP x y = false → ltP y x = false → x = y := fun x hx y hy q1 q2 => by
    have q1 : PySem.W.dataLt x.py y.py = false := q1
    have q2 : PySem.W.dataLt y.py x.py = false := q2
    rw [al_lt x y (h x hx y hy)] at q1
    rw [al_lt y x (h y hy x hx)] at q2
    have c := cp_eqv x y (al_cp x y (h x hx y hy)).1
    have c' := cp_eqv y x (al_cp y x (h y hy x hx)).1
    refine al_eq x y (h x hx y hy) ?_
    have s : PyData.eqv y.py x.py = PyData.eqv x.py y.py := PySem.W.eqv_comm _ _
    rw [s, c] at c'
    cases e1 : cmpD x y with
    | eq => rfl
    | lt => unfold ltD at q1; rw [e1] at q1; cases q1
    | gt =>
      rw [e1] at c'
      cases e2 : cmpD y x with
      | eq => rw [e2] at c'; cases c'
      | lt => unfold ltD at q2; rw [e2] at q2; cases q2
      | gt => exact absurd ((al_gt x y (h x hx y hy) e1).symm.trans e2) (fun z => nomatch z)
  have srt := isort_sorted (lt := ltP) ltP_tr ltP_tot ds
  have prm := isort_perm (lt := ltP) ds
  have t1 := PySem.W.sortLe_total (PyProof.Rows.listOrd PyProof.Rows.itemOrd) false fun b : D => PySem.W.keyToks b.py
  have t2 := PySem.W.sortLe_total (PyProof.Rows.listOrd PyProof.Rows.itemOrd) true fun b : D => PySem.W.keyToks b.py
  rw [cg]
  constructor
  · refine sorted_one (le := fun a b => ltP b a = false) (fun x hx y hy q1 q2 => anti x ((List.mergeSort_perm _ _).mem_iff.mp hx) y ((List.mergeSort_perm _ _).mem_iff.mp hy) q2 q1) ((List.mergeSort_perm ds _).trans prm.symm) ?_ srt
    refine (List.pairwise_mergeSort (le := PySem.W.dataLe false D.py) t1.trans (fun a b => Bool.or_eq_true_iff.mpr (t1.total a b)) ds).imp fun {a b} q => ?_
    rw [ltP_eq] at q
    cases z : ltP b a with
    | false => rfl
    | true => rw [z] at q; cases q
  · refine sorted_one (le := fun a b => ltP a b = false) (fun x hx y hy q1 q2 => anti x ((List.mergeSort_perm _ _).mem_iff.mp hx) y ((List.mergeSort_perm _ _).mem_iff.mp hy) q1 q2) ((List.mergeSort_perm ds _).trans (prm.symm.trans (List.reverse_perm _).symm)) ?_ (List.pairwise_reverse.mpr srt)
    refine (List.pairwise_mergeSort (le := PySem.W.dataLe true D.py) t2.trans (fun a b => Bool.or_eq_true_iff.mpr (t2.total a b)) ds).imp fun {a b} q => ?_
    rw [ltP_rev] at q
    cases z : ltP a b with
    | false => rfl
    | true => rw [z] at q; cases q
/-! ### the rules -/
theorem each_den {K : PySem.W.Frag} {β : List Addr} {H : Hp} : ∀ {ds : List D} {vs : List V} {us : List Value}, DenL K β H ds vs → Vals vs us → PySem.W.EachIs (fun u d => ∃ v, RelV v u ∧ Den K β H d v) us ds
  | _, _, _, .nil, .nil => .nil
  | _, _, _, .cons h l, .cons r rs => .cons ⟨_, r, h⟩ (each_den l rs)
theorem den_each {K : PySem.W.Frag} {β : List Addr} {H : Hp} : ∀ {us : List Value} {ds : List D}, PySem.W.EachIs (fun u d => ∃ v, RelV v u ∧ Den K β H d v) us ds → ∃ vs, Vals vs us ∧ DenL K β H ds vs
  | _, _, .nil => ⟨[], .nil, .nil⟩
  | _, _, .cons ⟨v, r, h⟩ t => by
    obtain ⟨vs, r2, l2⟩ := den_each t
    exact ⟨v :: vs, .cons r r2, .cons h l2⟩
theorem each_reads {X : Cx} {pins : List (Addr × Obj)} {σ : L2.St} {H : Hp} {s : Shared} {β : List Addr} (I : Inv X pins σ H s) : ∀ {us : List Value} {ds : List D}, PySem.W.EachIs (fun u d => ∃ v, RelV v u ∧ Den X.K β H d v) us ds → (∀ d ∈ ds, okd deep d = true) → PySem.W.EachIs (fun u d => ∃ as, Reads s.heap u (D.py d) as) us ds
  | _, _, .nil, _ => .nil
  | _, _, .cons ⟨v, r, h⟩ t, k => .cons (Dp.reads I _ v _ (h.dp (k _ List.mem_cons_self)) r) (each_reads I t fun d hd => k d (List.mem_cons_of_mem _ hd))
theorem sortable_of {ds : List D} (h : sortable ds = true) : ds.length ≤ many ∧ (∀ x ∈ ds, okd deep x = true) ∧ ∀ x ∈ ds, ∀ y ∈ ds, alD x y = true := by
  unfold sortable at h
  obtain ⟨h1, h2⟩ := Bool.and_eq_true_iff.mp h
  rw [List.all_eq_true] at h2
  refine ⟨Nat.ble_eq.mp h1, fun x hx => (Bool.and_eq_true_iff.mp (h2 x hx)).1, fun x hx y hy => ?_⟩
  exact List.all_eq_true.mp (Bool.and_eq_true_iff.mp (h2 x hx)).2 y hy
/-- sorted(v) (pl), sorted(v, reverse=True) -/
def rSrt (K : PySem.W.Frag) (pl : Bool) : List V → Hp → VK → Prop := fun vs H Q => ∃ β a ws ds, vs = [.ref a] ∧ (SqL K H a ws ∨ SqT K H a ws) ∧ DenL K β H ds ws ∧ sortable ds = true ∧
  ∀ p ys, H p = none → DenL K β H (if pl = true then isort ltD ds else (isort ltD ds).reverse) ys → Q (.ref p) (upd H p (.lst ys))
theorem run_srt {X : Cx} {pins : List (Addr × Obj)} {s : Shared} {σ : L2.St} {H : Hp} {vs : List V} {us : List Value} {Q : VK} (hu : X.A.units + 64 < cLine) (pl : Bool) (I : Inv X pins σ H s) (r : Vals vs us) (h : rSrt X.K pl vs H Q) :
    wpAny (model X.prog X.w) X.A (PySem.call (.builtin "sorted") us (if pl = true then [] else [(Str.ofString "reverse", .bool true)])) (EP X pins σ Q) X.xe s := by
  obtain ⟨β, a, ws, ds, rfl, hs, l, so, q⟩ := h
  obtain ⟨s1, s2, s3⟩ := sortable_of so
  rw [Vals.ref1 r]
  have hal : PySem.W.AllAlike (ds.map D.py) := fun d hd d' hd' => by
    obtain ⟨x, hx, rfl⟩ := List.mem_map.mp hd
    obtain ⟨y, hy, rfl⟩ := List.mem_map.mp hd'
    exact (al_cp x y (s3 x hx y hy)).2
  have hn : ∀ d ∈ ds.map D.py, d ≠ .none := fun d hd => by
    obtain ⟨x, hx, rfl⟩ := List.mem_map.mp hd
    have := s3 x hx x hx
    cases x <;> first | (cases this; done) | (intro z; cases z)
  have hu2 : ∀ b ∈ ds, X.A.units + 2 + (D.py b).depth < cLine := fun b hb => by
    have := (okd_py b deep (s2 b hb)).2
    have : deep = 60 := rfl
    omega
  have fin : ∀ (its : List Value), Vals ws its → ws.length ≤ sizeLine → ((∃ l, Value.ref a = .ref l ∧ s.heap.IsList l its.toArray) ∨ ∃ t, Value.ref a = .ref t ∧ s.heap.IsTuple t its.toArray) →
      wpAny (model X.prog X.w) X.A (PySem.call (.builtin "sorted") [.ref a] (if pl = true then [] else [(Str.ofString "reverse", .bool true)])) (EP X pins σ Q) X.xe s := fun its rv hz hv => by
    have e := each_den l rv
    refine sorted_dat hv e (each_reads I e s2) hal hn (many_line s1) hu2 pl fun out ho eo => ?_
    have eo2 : PySem.W.EachIs (fun u d => ∃ v, RelV v u ∧ Den X.K β H d v) out (if pl = true then isort ltD ds else (isort ltD ds).reverse) := by
      obtain ⟨m1, m2⟩ := merge_sort s3
      cases pl with
      | true => rw [if_pos rfl] at eo ⊢; rw [← m1]; exact eo
      | false => rw [if_neg (by decide)] at eo ⊢; rw [← m2]; exact eo
    obtain ⟨ys, ry, ly⟩ := den_each eo2
    obtain ⟨ep, he'⟩ := PyProof.Rows.sortedAll_at s.heap its out.toArray
    exact ⟨.ref (s.heap.objs.size + 1), upd H (s.heap.objs.size + 1) (.lst ys), I.laid (t' := s.toks) (fun _ _ => PyProof.Rows.sortedAll_old) (Nat.le_succ _) ⟨by rw [ry.length, ho]; exact many_line s1, _, ep, ry, he'⟩, rfl, q _ ys (I.hok.fresh (Nat.le_succ _)) ly⟩
  rcases hs with hs | hs
  · obtain ⟨its, rv, hl, hz⟩ := I.list hs
    exact fin its rv hz (.inl ⟨a, rfl, hl.isList⟩)
  · obtain ⟨its, rv, hl, hz⟩ := I.tuple hs
    exact fin its rv hz (.inr ⟨a, rfl, hl⟩)
section
variable {X : Cx}
theorem cr_srt (hu : X.A.units + 64 < cLine) : CallR X (.builtin "sorted") (rSrt X.K true) := fun pins s σ H vs us Q I r h => run_srt hu true I r h
theorem cr_srtR (hu : X.A.units + 64 < cLine) : CallRK X (.builtin "sorted") [Str.ofString "reverse"] (fun vs zs H Q => zs = [.bl true] ∧ rSrt X.K false vs H Q) := by
  intro pins s σ H vs zs us ws Q I r rz h
  obtain ⟨rfl, h⟩ := h
  obtain ⟨w1, rfl, e1⟩ := vals1 rz
  obtain rfl : w1 = Value.bool true := e1
  exact run_srt hu false I r h
end
theorem bv_sorted {K : PySem.W.Frag} : BlV K .sorted (rSrt K true) := by
  intro H0 β mh H rs z vs Q hr d e q
  rw [bltR.eq_def] at e
  split at e <;> first | contradiction | skip
  rename_i r heq
  obtain ⟨v, rfl, d1⟩ := d.one
  cases e1 : seqOf mh r with
  | none => rw [e1] at e; cases e
  | some xs =>
    rw [e1] at e
    dsimp only at e
    split at e
    · rename_i so
      cases e
      obtain ⟨a, ws, rfl, hs, l⟩ := seq_den hr e1 d1
      exact ⟨β, a, ws, xs, rfl, hs, l, so, fun p ys hp ly => q _ _ (Po.laid hr hp) (den_newl hr hp ly)⟩
    · cases e
theorem bv_sortedR {K : PySem.W.Frag} : BlV K .sortedR (rSrt K false) := by
  intro H0 β mh H rs z vs Q hr d e q
  rw [bltR.eq_def] at e
  split at e <;> first | contradiction | skip
  rename_i r heq
  obtain ⟨v, rfl, d1⟩ := d.one
  cases e1 : seqOf mh r with
  | none => rw [e1] at e; cases e
  | some xs =>
    rw [e1] at e
    dsimp only at e
    split at e
    · rename_i so
      cases e
      obtain ⟨a, ws, rfl, hs, l⟩ := seq_den hr e1 d1
      exact ⟨β, a, ws, xs, rfl, hs, l, so, fun p ys hp ly => q _ _ (Po.laid hr hp) (den_newl hr hp ly)⟩
    · cases e
end Ev
set_option Elab.async false
set_option linter.all false
set_option maxRecDepth 100000
set_option maxHeartbeats 1000000
/-! EvTr: from the program's text to the small language. -/
namespace Ev
open PySem PySem.Spec PyProof.Rows L2
/-- what a global name is -/
inductive Gk where
  | no
  | fn (i n : Nat)
  | cst (d : D)
  | free
structure Tc where
  N : List Str
  sc : Scope
  fn : Str → Bool
  G : Str → Gk
  kw : Nat → List Str → Option (List Nat)
def noStar : Expr → Bool
  | .Starred .. => false
  | _ => true
def plainT : Expr → Bool
  | .UnaryOp .Not _ _ => false
  | .BoolOp .. => false
  | .IfExp .. => false
  | .Compare .. => false
  | _ => true
def isSlice : Expr → Bool
  | .Slice .. => true
  | _ => false
def isSet : Expr → Bool
  | .Set .. => true
  | _ => false
/-- names that are no plain names -/
def oddName (x : Str) : Bool := (x == ("__debug__" : Str)) || (x == ("__classdict__" : Str)) || (x == ("__name__" : Str))
def isVis (c : Tc) (x : Str) : Bool := match c.sc.names.lookup x with
  | some .local => true
  | some .cell => true
  | some .free => true
  | _ => false
def isGlo (c : Tc) (x : Str) : Bool := match c.sc.names.lookup x with
  | some .globalImplicit => true
  | _ => false
def slotOf : List Str → Str → Option Nat
  | [], _ => none
  | y :: r, x => if y = x then some 0 else (slotOf r x).map (· + 1)
def isFree (c : Tc) (x : Str) : Bool := isGlo c x && (match c.G x with | .free => true | _ => false)
def trName (c : Tc) (x : Str) : Ex := if oddName x then .never else if isVis c x then (match slotOf c.N x with
    | some i => .var i
    | none => .never) else if isGlo c x then (match c.G x with
    | .cst d => .cst d
    | _ => .never) else .never
def trConst : Const → Ex
  | .none => .cst .non
  | .bool b => .cst (.bl b)
  | .int i => .cst (.int i)
  | .str x => .cst (.str x)
  | _ => .never
def opOf : Operator → Option Op
  | .Add => some .add
  | .Sub => some .sub
  | .Mult => some .mul
  | .FloorDiv => some .fdiv
  | .Mod => some .mod
  | .Pow => some .pow
  | _ => none
def cmOf : CmpOp → Cm
  | .Eq => .eq | .NotEq => .ne | .Lt => .lt | .LtE => .le | .Gt => .gt | .GtE => .ge | .Is => .is_ | .IsNot => .isnot | .In => .in_ | .NotIn => .notin
def andAll : List Ex → Ex
  | [] => .never
  | [a] => a
  | a :: b :: r => .and_ a (andAll (b :: r))
def orAll : List Ex → Ex
  | [] => .never
  | [a] => a
  | a :: b :: r => .or_ a (orAll (b :: r))
def trCmp (r : Expr → Ex) (a : Expr) : List CmpOp → List Expr → Ex
  | [o], [b] => if isSet b then .never else .cmp (cmOf o) (r a) (r b)
  | [o, p], [b, d] => if isSet b || isSet d then .never else .chain (cmOf o) (cmOf p) (r a) (r b) (r d)
  | _, _ => .never
/-- the one step that is read: -1 -/
def isRevStep : Expr → Bool
  | .UnaryOp .USub (.Constant (.int i) _ _) _ => i = 1
  | _ => false
def trSub (r : Expr → Ex) (a : Expr) : Expr → Ex
  | .Slice lo hi none _ => .slc (r a) (lo.map r) (hi.map r)
  | .Slice none none (some s) _ => if isRevStep s then .rev (r a) else .never
  | .Slice _ _ _ _ => .never
  | b => .idx (r a) (r b)
def tyOf (T : Str) : Option Ty := if T = ("int" : Str) then some .int else if T = ("bool" : Str) then some .bool else if T = ("str" : Str) then some .str else if T = ("tuple" : Str) then some .tuple else if T = ("list" : Str) then some .list else none
def bl1 (x : Str) : Option Bl := if x = ("len" : Str) then some .len else if x = ("abs" : Str) then some .abs else if x = ("max" : Str) then some .maxs else if x = ("min" : Str) then some .mins else if x = ("int" : Str) then some .int
  else if x = ("tuple" : Str) then some .tuple else if x = ("list" : Str) then some .list else if x = ("all" : Str) then some .all else if x = ("any" : Str) then some .any else if x = ("sum" : Str) then some .sum else if x = ("sorted" : Str) then some .sorted else none
def bl2 (x : Str) : Option Bl := if x = ("max" : Str) then some .max2 else if x = ("min" : Str) then some .min2 else none
def trBlt (c : Tc) (r : Expr → Ex) (x : Str) : List Expr → Ex
  | [a] => match bl1 x with
    | some b => .blt b [r a]
    | none => .never
  | [a, b] => if x = ("isinstance" : Str) then (match b with
      | .Name T _ => match tyOf T with
        | some t => if isFree c T then .inst (r a) t else .never
        | none => .never
      | _ => .never) else match bl2 x with
    | some o => .blt o [r a, r b]
    | none => .never
  | _ => .never
def mtOf (m : Str) : Option Mt := if m = ("append" : Str) then some .append else if m = ("extend" : Str) then some .extend else none
def isCall : Expr → Bool
  | .Call .. => true
  | _ => false
/-- f(k = v, ..), keywords alone -/
def trKw (c : Tc) (r : Expr → Ex) (i : Nat) (args : List Expr) (kws : List Keyword) : Ex := if args.isEmpty && kws.all fun k => k.arg.isSome then (match c.kw i (kws.filterMap (·.arg)) with
  | some perm => if perm.isEmpty then .never else .call i (kws.map fun k => r k.value) perm
  | none => .never) else .never
/-- sorted(e, reverse=True) -/
def trRev (r : Expr → Ex) (args : List Expr) (kws : List Keyword) : Ex := match args, kws with
  | [a], [⟨some k, .Constant (.bool true) _ _, _⟩] => if noStar a && decide (k = ("reverse" : Str)) then .blt .sortedR [r a] else .never
  | _, _ => .never
def trCall (c : Tc) (r : Expr → Ex) (args : List Expr) (kws : List Keyword) (pos : Pos) : Expr → Ex
  | .Name x _ => if kws.isEmpty then (if args.all noStar && !oddName x && isGlo c x then (match c.G x with
      | .fn i _ => .call i (args.map r) []
      | .free => trBlt c r x args
      | _ => .never) else .never) else (if !oddName x && isGlo c x then (match c.G x with
      | .fn i _ => trKw c r i args kws
      | .free => if x = ("sorted" : Str) then trRev r args kws else .never
      | _ => .never) else .never)
  | .Attribute o m apos => if kws.isEmpty && !isCall o && (apos.endLine == pos.line) then (match args with
      | [] => if m = ("pop" : Str) then .mt .pop (r o) [] else .never
      | [a] => if noStar a then (match mtOf m with
          | some t => .mt t (r o) [r a]
          | none => .never) else .never
      | _ => .never) else .never
  | _ => .never
/-- may the name be stored to? -/
def isLoc (c : Tc) (x : Str) : Bool := match c.sc.names.lookup x with
  | some .local => true
  | some .cell => c.fn x
  | _ => false
mutual
def trTg (c : Tc) : Nat → Expr → Option Tg
  | 0, _ => none
  | n + 1, e => match e with
    | .Name x _ => if isLoc c x then (slotOf c.N x).map .nm else none
    | .Tuple es _ _ => (trTgs c n es).map .tup
    | _ => none
def trTgs (c : Tc) : Nat → List Expr → Option (List Tg)
  | 0, _ => none
  | _ + 1, [] => some []
  | n + 1, e :: es => match trTg c n e, trTgs c n es with
    | some t, some ts => some (t :: ts)
    | _, _ => none
end
def isTup : Expr → Bool
  | .Tuple .. => true
  | _ => false
def trIter (c : Tc) (r : Expr → Ex) (tg : Expr) (e : Expr) : Option (Kd × List Ex) := match e with
  | .Call (.Name x _) args [] _ => if isFree c x && args.all noStar && !oddName x then (match args with
      | [a] => if x = ("range" : Str) then some (.range1, [r a]) else if x = ("enumerate" : Str) && isTup tg then some (.enum, [r a]) else some (.seq, [r e])
      | [a, b] => if x = ("range" : Str) then some (.range2, [r a, r b]) else if x = ("zip" : Str) && isTup tg then some (.zip, [r a, r b]) else some (.seq, [r e])
      | _ => none) else some (.seq, [r e])
  | e => if isSet e then none else some (.seq, [r e])
def ownNames (c : Tc) (scope : Scope) : List (Str × Nat) := scope.names.filterMap fun y => match y.2 with
  | .local => (slotOf c.N y.1).map fun i => (y.1, i)
  | .cell => (slotOf c.N y.1).map fun i => (y.1, i)
  | _ => none
def inBlk (c : Tc) (scope : Scope) : Tc := { c with sc := relS scope c.sc, fn := fun x => scope.names.lookup x == some .cell }
def trIfs (r : Expr → Ex) : List Expr → Option (Option Ex)
  | [] => some none
  | [e] => some (some (r e))
  | _ => none
def subl (xs ys : List Nat) : Bool := xs.all fun i => ys.any fun j => Nat.beq i j
def trComp (c : Tc) (r : Tc → Expr → Ex) (elt : Expr) (scope : Scope) : List Comprehension → Ex
  | [⟨tg, iter, ifs, 0⟩] =>
    let own := ownNames c scope
    let cb := inBlk c scope
    if blkC c.N c.sc scope own then (match trIter c (r c) tg iter, trTg cb 9 tg, trIfs (r cb) ifs with
      | some (k, es), some t, some i => if subl (tgIx t) (own.map (·.2)) then .comp (r cb elt) t k es i (own.map (·.2)) else .never
      | _, _, _ => .never) else .never
  | [⟨tg, iter, ifs, 0⟩, ⟨tg1, iter1, ifs1, 0⟩] =>
    let own := ownNames c scope
    let cb := inBlk c scope
    if blkC c.N c.sc scope own then (match trIter c (r c) tg iter, trTg cb 9 tg, trIfs (r cb) ifs, trIter cb (r cb) tg1 iter1, trTg cb 9 tg1, trIfs (r cb) ifs1 with
      | some (k, es), some t, some i, some (k1, es1), some t1, some i1 => if subl (tgIx t) (own.map (·.2)) && subl (tgIx t1) (own.map (·.2)) && !isSet iter1 then .comp2 (r cb elt) t k es i t1 k1 es1 i1 (own.map (·.2)) (tgIx t1) else .never
      | _, _, _, _, _, _ => .never) else .never
  | _ => .never
def trE1 (r : Tc → Expr → Ex) (c : Tc) : Expr → Ex
  | .Name x _ => trName c x
  | .Constant k _ _ => trConst k
  | .Tuple es _ _ => if es.all noStar then .tup (es.map (r c)) else .never
  | .List es _ => if es.all noStar then .lst (es.map (r c)) else .never
  | .BinOp a o b _ => match opOf o with
    | some o => .op o (r c a) (r c b)
    | none => .never
  | .UnaryOp .Not a _ => .not_ (r c a)
  | .UnaryOp .USub a _ => .op .sub (.cst (.int 0)) (r c a)
  | .BoolOp .And vs _ => andAll (vs.map (r c))
  | .BoolOp .Or vs _ => orAll (vs.map (r c))
  | .IfExp t a b _ => .ite (r c t) (r c a) (r c b)
  | .Compare a ops bs _ => trCmp (r c) a ops bs
  | .Subscript a s _ => trSub (r c) a s
  | .Call f args kws pos => trCall c (r c) args kws pos f
  | .ListComp elt gens scope _ => trComp c r elt scope gens
  | _ => .never
def trE : Nat → Tc → Expr → Ex
  | 0, _, _ => .never
  | n + 1, c, e => trE1 (trE n) c e
/-! ### the text's readings -/
def permL {α : Type} (perm : List Nat) (l : List α) : List α := perm.filterMap fun i => l[i]?
/-- how keywords bind: n of them, nothing by position -/
def gK {α : Type} (n : Nat) (perm : List Nat) (us ws : List α) : List α := if us.isEmpty && Nat.beq ws.length n then permL perm ws else []
structure XOk (X : Cx) (C : CallF) (c : Tc) : Prop where
  N : X.N = c.N
  nd : c.N.Nodup
  sc : X.env.scope = c.sc
  fn : X.fn = c.fn
  calm : X.calm = true
  units : X.A.units + 64 < cLine
  ar : ∀ x i n, c.G x = .fn i n → ∀ ds mh z, C i ds mh = some z → ds.length = n
  fns : ∀ x i n, c.G x = .fn i n → ∃ (k : Nat) (f : Addr) (fd : FuncData) (ps : List Str), FnOk X.prog X.w X.K X.mg X.base CX0 k f fd ps (SpC X.K C i n) ∧ Room k X.A ∧ X.mg x = some (.ref f) ∧ PySem.W.keepIn X.K (.ref f) = true ∧ Binds X.K fd ps [] ∧ ps.length = n ∧
    ∀ ks perm, c.kw i ks = some perm → KBinds X.K fd ps ks (fun us ws => gK ks.length perm us ws) (fun vs zs => gK ks.length perm vs zs)
  cst : ∀ x d, c.G x = .cst d → ∃ v u, X.mg x = some u ∧ RelV v u ∧ ∀ β H, Den X.K β H d v
  free : ∀ x, c.G x = .free → X.mg x = none
section
variable {X : Cx}
theorem PX.sub {e : Expr} {f f' : Run} (h : PX X e f) (i : ∀ env mh z, f' env mh = some z → f env mh = some z) : PX X e f' := PE_imp h fun σ H Q ⟨β, env, mh, r, mh', hr, hE, hf, q⟩ => ⟨β, env, mh, r, mh', hr, hE, i _ _ _ hf, q⟩
theorem PTX.sub {e : Expr} {f f' : Run} (h : PTX X e f) (i : ∀ env mh z, f' env mh = some z → f env mh = some z) : PTX X e f' := PT_imp h fun σ H Q ⟨β, env, mh, r, mh', hr, hE, hf, q⟩ => ⟨β, env, mh, r, mh', hr, hE, by
  obtain ⟨x, e1, e2⟩ := tst_some hf
  exact tst_of (i _ _ _ e1) e2, q⟩
theorem star_ne {e : Expr} (h : noStar e = true) (es : List Expr) (env : PySem.Env) : starEach (e :: es) env = (false, eval e env) :: starEach es env := by
  cases e <;> first | rfl | cases h
theorem stars_ne : ∀ {es : List Expr}, es.all noStar = true → ∀ (env : PySem.Env) (pos : Pos), (backTo pos (starEach es env)).any (·.1) = false
  | [], _, _, _ => rfl
  | e :: es, h, env, pos => by
    rw [List.all_cons] at h
    obtain ⟨h1, h2⟩ := Bool.and_eq_true_iff.mp h
    rw [star_ne h1]
    exact stars_ne h2 env pos
theorem plain_true {e : Expr} (h : plainT e = true) (env : PySem.Env) : ∀ whole, isTrue e env whole = (do let v ← whole; standAt e.pos; holding [v] (truthy v)) := by
  intro whole
  cases e <;> first | rfl | cases h | skip
  rename_i op a pos
  cases op <;> first | rfl | cases h
theorem slot_get : ∀ {N : List Str} {x : Str} {i : Nat}, slotOf N x = some i → N[i]? = some x
  | [], _, _, h => by cases h
  | y :: r, x, i, h => by
    rw [slotOf] at h
    split at h
    · rename_i e
      cases h
      rw [e]; rfl
    · cases e : slotOf r x with
      | none => rw [e] at h; cases h
      | some j =>
        rw [e] at h
        cases h
        show r[j]? = some x
        exact slot_get e
variable {C : CallF} {c : Tc}
theorem XOk.glo (o : XOk X C c) {x : Str} (h : isGlo c x = true) : Gl X x := by
  unfold isGlo at h
  show X.env.scope.names.lookup x = some .globalImplicit
  rw [o.sc]
  split at h
  · assumption
  · cases h
theorem XOk.vis (o : XOk X C c) {x : Str} (h : isVis c x = true) : Vis X.env.scope x := by
  unfold isVis at h
  unfold Vis
  rw [o.sc]
  split at h
  · exact .inl (by assumption)
  · exact .inr (.inl (by assumption))
  · exact .inr (.inr (by assumption))
  · cases h
theorem odd_ok {x : Str} (h : oddName x = false) : (x == ("__debug__" : Str)) = false ∧ (x == ("__classdict__" : Str)) = false ∧ x ≠ "__name__" := by
  unfold oddName at h
  rw [Bool.or_eq_false_iff, Bool.or_eq_false_iff] at h
  exact ⟨h.1.1, h.1.2, fun z => by rw [z] at h; exact absurd h.2 (by decide)⟩
theorem XOk.nd' (o : XOk X C c) : X.N.Nodup := by rw [o.N]; exact o.nd
theorem sound_name (o : XOk X C c) (x : Str) (pos : Pos) : PX X (.Name x pos) (ex C (trName c x)) := by
  unfold trName
  by_cases h0 : oddName x = true
  · rw [if_pos h0]
    exact x_never.sub fun env mh z h => by rw [ex] at h; cases h
  · rw [if_neg h0]
    obtain ⟨n1, n2, n3⟩ := odd_ok (Bool.eq_false_iff.mpr h0)
    by_cases h1 : isVis c x = true
    · rw [if_pos h1]
      cases e : slotOf c.N x with
      | none => exact x_never.sub fun env mh z h => by rw [ex] at h; cases h
      | some i => exact (x_var (i := i) (by rw [o.N]; exact slot_get e) (o.vis h1) n1 n2).sub fun env mh z h => by rw [ex] at h; exact h
    · rw [if_neg h1]
      by_cases h2 : isGlo c x = true
      · rw [if_pos h2]
        cases e : c.G x with
        | cst d =>
          obtain ⟨v, u, e1, e2, e3⟩ := o.cst x d e
          exact (x_cst (pe_glob (o.glo h2) e1 e2 n1) e3).sub fun env mh z h => by rw [ex] at h; exact h
        | _ => exact x_never.sub fun env mh z h => by rw [ex] at h; cases h
      · rw [if_neg h2]
        exact x_never.sub fun env mh z h => by rw [ex] at h; cases h
theorem sound_never (e : Expr) : PX X e (ex C .never) := x_never.sub fun env mh z h => by rw [ex] at h; cases h
theorem sound_const (k : Const) (j : Nat) (pos : Pos) : PX X (.Constant k j pos) (ex C (trConst k)) := by
  cases k with
  | none => exact (x_cst pe_non fun β H => Den.non).sub fun env mh z h => by rw [trConst, ex] at h; exact h
  | bool b => exact (x_cst pe_bl fun β H => Den.bl b).sub fun env mh z h => by rw [trConst, ex] at h; exact h
  | int i => exact (x_cst pe_int fun β H => Den.int i).sub fun env mh z h => by rw [trConst, ex] at h; exact h
  | str x => exact (x_cst pe_str fun β H => Den.str x).sub fun env mh z h => by rw [trConst, ex] at h; exact h
  | _ => exact sound_never _
section
variable {r : Expr → Ex} (ih : ∀ e, PX X e (ex C (r e)) ∧ PTX X e (ex C (r e)))
include ih
theorem sound_es : ∀ {es : List Expr}, es.all noStar = true → PA X es (tAs X.K (exs C (es.map r)))
  | [], _ => PA_imp x_nil fun σ H Q ⟨β, env, mh, ds, mh', hr, hE, hf, q⟩ => ⟨β, env, mh, ds, mh', hr, hE, by rw [List.map_nil, exs] at hf; exact hf, q⟩
  | e :: es, h => by
    rw [List.all_cons] at h
    obtain ⟨h1, h2⟩ := Bool.and_eq_true_iff.mp h
    refine PA_imp (x_cons (ih e).1 (sound_es h2) (star_ne h1 es X.env)) fun σ H Q ⟨β, env, mh, ds, mh', hr, hE, hf, q⟩ => ⟨β, env, mh, ds, mh', hr, hE, ?_, q⟩
    rw [List.map_cons, exs] at hf
    exact hf
theorem sound_rs : ∀ {es : List Expr}, es.all noStar = true → PA X es (tRs X.K (exr C (es.map r)))
  | [], _ => PA_imp r_nil fun σ H Q ⟨β, env, mh, ds, mh', hr, hE, hf, q⟩ => ⟨β, env, mh, ds, mh', hr, hE, by rw [List.map_nil, exr] at hf; exact hf, q⟩
  | e :: es, h => by
    rw [List.all_cons] at h
    obtain ⟨h1, h2⟩ := Bool.and_eq_true_iff.mp h
    refine PA_imp (r_cons (ih e).1 (sound_rs h2) (star_ne h1 es X.env)) fun σ H Q ⟨β, env, mh, ds, mh', hr, hE, hf, q⟩ => ⟨β, env, mh, ds, mh', hr, hE, ?_, q⟩
    rw [List.map_cons, exr] at hf
    exact hf
theorem sound_and (pos : Pos) : ∀ es : List Expr, es ≠ [] → PX X (.BoolOp .And es pos) (ex C (andAll (es.map r))) ∧ PWX X (.BoolOp .And es pos) (ex C (andAll (es.map r)))
  | [], h => absurd rfl h
  | [a], _ => ⟨pe_one (ih a).1, t_and1 (ih a).2⟩
  | a :: b :: es, _ => by
    obtain ⟨h1, h2⟩ := sound_and pos (b :: es) (by simp)
    refine ⟨(x_and (ih a).1 h1).sub fun env mh z h => ?_, ?_⟩
    · rw [List.map_cons, List.map_cons, andAll, ex] at h
      exact h
    · refine PW_imp (t_and (ih a).2 h2) fun σ H Q ⟨β, env, mh, x, mh', hr, hE, hf, q⟩ => ⟨β, env, mh, x, mh', hr, hE, ?_, q⟩
      obtain ⟨x, e1, e2⟩ := tst_some hf
      rw [List.map_cons, List.map_cons, andAll, ex] at e1
      exact tst_of e1 e2
theorem sound_or (pos : Pos) : ∀ es : List Expr, es ≠ [] → PX X (.BoolOp .Or es pos) (ex C (orAll (es.map r))) ∧ PWX X (.BoolOp .Or es pos) (ex C (orAll (es.map r)))
  | [], h => absurd rfl h
  | [a], _ => ⟨pe_one (ih a).1, t_or1 (ih a).2⟩
  | a :: b :: es, _ => by
    obtain ⟨h1, h2⟩ := sound_or pos (b :: es) (by simp)
    refine ⟨(x_or (ih a).1 h1).sub fun env mh z h => ?_, ?_⟩
    · rw [List.map_cons, List.map_cons, orAll, ex] at h
      exact h
    · refine PW_imp (t_or (ih a).2 h2) fun σ H Q ⟨β, env, mh, x, mh', hr, hE, hf, q⟩ => ⟨β, env, mh, x, mh', hr, hE, ?_, q⟩
      obtain ⟨x, e1, e2⟩ := tst_some hf
      rw [List.map_cons, List.map_cons, orAll, ex] at e1
      exact tst_of e1 e2
end
theorem mark_no {b : Expr} (h : isSet b = false) (o : CmpOp) : behindInMarks o b = false := by
  cases b <;> first | rfl | cases h
theorem cm_name (o : CmpOp) : cmName (cmOf o) = o := by cases o <;> rfl
theorem t_never (e : Expr) : PTX X e (ex C .never) := ⟨fun pins s σ H Q I h => by
  obtain ⟨β, env, mh, x, mh', hr, hE, hf, q⟩ := h
  obtain ⟨x, e1, e2⟩ := tst_some hf
  rw [ex] at e1
  cases e1⟩
end
end Ev
set_option Elab.async false
set_option linter.all false
set_option maxRecDepth 100000
set_option maxHeartbeats 1000000
/-! EvTr2: the translation is sound. -/
namespace Ev
open PySem PySem.Spec PyProof.Rows L2
section
variable {X : Cx} {C : CallF} {c : Tc}
/-- a test that is no comparison, no word -/
theorem both {e : Expr} {f : Run} (hp : plainT e = true) (h : PX X e f) : PX X e f ∧ PTX X e f := ⟨h, t_plain h (plain_true hp X.env)⟩
theorem both_never (e : Expr) : PX X e (ex C .never) ∧ PTX X e (ex C .never) := ⟨sound_never e, t_never e⟩
section
variable {r : Expr → Ex} (o : XOk X C c) (ih : ∀ e, PX X e (ex C (r e)) ∧ PTX X e (ex C (r e)))
include o ih
theorem sound_cmp (a : Expr) (ops : List CmpOp) (bs : List Expr) (pos : Pos) : PX X (.Compare a ops bs pos) (ex C (trCmp r a ops bs)) ∧ PTX X (.Compare a ops bs pos) (ex C (trCmp r a ops bs)) := by
  unfold trCmp
  split
  · rename_i op b
    by_cases hb : isSet b = true
    · rw [if_pos hb]; exact both_never _
    · rw [if_neg hb]
      have m := mark_no (Bool.eq_false_iff.mpr hb) op
      have oo := op_cm o.units (cmOf op)
      rw [cm_name] at oo
      exact ⟨(x_cmp oo (cv_cm _) (ih a).1 (ih b).1 m).sub fun env mh z h => by rw [ex] at h; exact h, (t_cmp oo (cv_cm _) (ih a).1 (ih b).1 m).sub fun env mh z h => by rw [ex] at h; exact h⟩
  · rename_i op op' b d
    by_cases hb : (isSet b || isSet d) = true
    · rw [if_pos hb]; exact both_never _
    · rw [if_neg hb]
      have hb2 := Bool.eq_false_iff.mpr hb
      rw [Bool.or_eq_false_iff] at hb2
      have m : lastMarks [op, op'] [b, d] = false := mark_no hb2.2 op'
      have o1 := op_cm o.units (cmOf op)
      have o2 := op_cm o.units (cmOf op')
      rw [cm_name] at o1 o2
      exact ⟨(x_chain o1 o2 (cv_cm _) (cv_cm _) (ih a).1 (ih b).1 (ih d).1 m).sub fun env mh z h => by rw [ex] at h; exact h, (t_chain o1 o2 (cv_cm _) (cv_cm _) (ih a).1 (ih b).1 (ih d).1 m).sub fun env mh z h => by rw [ex] at h; exact h⟩
  · exact both_never _
theorem sound_part (e : Option Expr) : PO X e (tOs X.K (exo C (e.map r))) := by
  cases e with
  | none => exact PO_imp o_none fun σ H Q ⟨β, env, mh, x, mh', hr, hE, hf, q⟩ => ⟨β, env, mh, x, mh', hr, hE, by rw [Option.map_none, exo] at hf; exact hf, q⟩
  | some e => exact PO_imp (o_some (ih e).1) fun σ H Q ⟨β, env, mh, x, mh', hr, hE, hf, q⟩ => ⟨β, env, mh, x, mh', hr, hE, by rw [Option.map_some, exo] at hf; exact hf, q⟩
theorem plain_ix {b : Expr} (h : isSlice b = false) : PlainIx b := by
  intro o i
  cases b <;> first | rfl | cases h
theorem sound_sub (a s : Expr) (pos : Pos) : PX X (.Subscript a s pos) (ex C (trSub r a s)) := by
  unfold trSub
  split
  · exact (x_slc (ih a).1 (sound_part o ih _) (sound_part o ih _)).sub fun env mh z h => by rw [ex] at h; exact h
  · rename_i st p
    by_cases h1 : isRevStep st = true
    · rw [if_pos h1]
      unfold isRevStep at h1
      split at h1
      · rename_i i k p1 p2
        have e : i = 1 := of_decide_eq_true h1
        subst e
        exact (x_rev (ih a).1).sub fun env mh z h => by rw [ex] at h; exact h
      · cases h1
    · rw [if_neg h1]; exact sound_never _
  · exact sound_never _
  · rename_i h1 h2 h3
    exact (x_idx (ih a).1 (ih s).1 (plain_ix o ih (by
      cases s <;> first | rfl | (exfalso; exact h3 _ _ _ _ rfl)))).sub fun env mh z h => by rw [ex] at h; exact h
theorem ty_of {T : Str} {t : Ty} (h : tyOf T = some t) : bootBuiltins T = some (.type (tyStr t)) := by
  unfold tyOf at h
  repeat' split at h
  all_goals first | cases h | skip
  all_goals (rename_i e; subst e; decide +kernel)
theorem free_ok {x : Str} (h : isFree c x = true) : Gl X x ∧ X.mg x = none := by
  unfold isFree at h
  obtain ⟨h1, h2⟩ := Bool.and_eq_true_iff.mp h
  refine ⟨o.glo h1, o.free x ?_⟩
  split at h2
  · assumption
  · cases h2
end
theorem blt_sub {e : Expr} {b : Bl} {es : List Ex} {f : List V → Hp → VK → Prop} (hp : PE X e (tCB f (tRs X.K (exr C es)))) (hv : BlV X.K b f) : PX X e (ex C (.blt b es)) := (x_blt hp hv).sub fun env mh z h => by rw [ex] at h; exact h
section
variable {r : Expr → Ex} (o : XOk X C c) (ih : ∀ e, PX X e (ex C (r e)) ∧ PTX X e (ex C (r e)))
include o ih
theorem sound_bl1 {x : Str} {b : Bl} (hb : bl1 x = some b) (hg : Gl X x) (hm : X.mg x = none) (ho : oddName x = false) {a : Expr} (ha : noStar a = true) (p pos : Pos) : PX X (.Call (.Name x p) [a] [] pos) (ex C (.blt b [r a])) := by
  obtain ⟨n1, n2, n3⟩ := odd_ok ho
  have pa : PA X [a] (tRs X.K (exr C [r a])) := sound_rs ih (es := [a]) (by rw [List.all_cons, ha]; rfl)
  have st := star_ne ha [] X.env
  unfold bl1 at hb
  repeat' split at hb
  all_goals first | cases hb | skip
  all_goals (rename_i e; subst e)
  · exact blt_sub (pe_callB call_len hg hm (by decide +kernel) pa n3 n1 st rfl) bv_len
  · exact blt_sub (pe_callB call_abs hg hm (by decide +kernel) pa n3 n1 st rfl) bv_abs
  · exact blt_sub (pe_callB (cr_best o.calm o.units true) hg hm (by decide +kernel) pa n3 n1 st rfl) bv_maxs
  · exact blt_sub (pe_callB (cr_best o.calm o.units false) hg hm (by decide +kernel) pa n3 n1 st rfl) bv_mins
  · exact blt_sub (pe_callTy call_int1 hg hm (by decide +kernel) pa n3 n1 st rfl) bv_int
  · exact blt_sub (pe_callTy call_tuple_of hg hm (by decide +kernel) pa n3 n1 st rfl) bv_tuple
  · exact blt_sub (pe_callTy call_list_of hg hm (by decide +kernel) pa n3 n1 st rfl) bv_list
  · exact blt_sub (pe_callB (cr_tru o.calm true) hg hm (by decide +kernel) pa n3 n1 st rfl) bv_all
  · exact blt_sub (pe_callB (cr_tru o.calm false) hg hm (by decide +kernel) pa n3 n1 st rfl) bv_any
  · exact blt_sub (pe_callB (cr_sum o.calm) hg hm (by decide +kernel) pa n3 n1 st rfl) bv_sum
  · exact blt_sub (pe_callB (cr_srt o.units) hg hm (by decide +kernel) pa n3 n1 st rfl) bv_sorted
theorem sound_bl2 {x : Str} {b : Bl} (hb : bl2 x = some b) (hg : Gl X x) (hm : X.mg x = none) (ho : oddName x = false) {a a2 : Expr} (ha : noStar a = true) (ha2 : noStar a2 = true) (p pos : Pos) : PX X (.Call (.Name x p) [a, a2] [] pos) (ex C (.blt b [r a, r a2])) := by
  obtain ⟨n1, n2, n3⟩ := odd_ok ho
  have hs : [a2].all noStar = true := by rw [List.all_cons, ha2]; rfl
  have pa : PA X [a, a2] (tRs X.K (exr C [r a, r a2])) := sound_rs ih (es := [a, a2]) (by rw [List.all_cons, ha]; exact hs)
  have st := star_ne ha [a2] X.env
  have hpl := stars_ne hs X.env pos
  unfold bl2 at hb
  repeat' split at hb
  all_goals first | cases hb | skip
  all_goals (rename_i e; subst e)
  · exact blt_sub (pe_callB (call_max2 o.calm) hg hm (by decide +kernel) pa n3 n1 st hpl) bv_max2
  · exact blt_sub (pe_callB (call_min2 o.calm) hg hm (by decide +kernel) pa n3 n1 st hpl) bv_min2
theorem sound_blt {x : Str} (hf : isFree c x = true) (ho : oddName x = false) (args : List Expr) (hs : args.all noStar = true) (p pos : Pos) : PX X (.Call (.Name x p) args [] pos) (ex C (trBlt c r x args)) := by
  obtain ⟨hg, hm⟩ := free_ok o ih hf
  unfold trBlt
  split
  · rename_i a
    rw [List.all_cons] at hs
    obtain ⟨h1, h2⟩ := Bool.and_eq_true_iff.mp hs
    cases e : bl1 x with
    | none => exact sound_never _
    | some b => exact sound_bl1 o ih e hg hm ho h1 p pos
  · rename_i a b
    rw [List.all_cons, List.all_cons] at hs
    obtain ⟨h1, h2⟩ := Bool.and_eq_true_iff.mp hs
    obtain ⟨h2, h3⟩ := Bool.and_eq_true_iff.mp h2
    by_cases hx : x = ("isinstance" : Str)
    · rw [if_pos hx]
      subst hx
      split
      · rename_i T p2 _
        cases e : tyOf T with
        | none => exact sound_never _
        | some t =>
          by_cases hT : isFree c T = true
          · have z : (if isFree c T = true then Ex.inst (r a) t else .never) = Ex.inst (r a) t := if_pos hT
            show PX X _ (ex C (if isFree c T = true then Ex.inst (r a) t else .never))
            rw [z]
            obtain ⟨g1, g2⟩ := free_ok o ih hT
            have eo : oddName T = false := by
              unfold tyOf at e
              repeat' split at e
              all_goals first | cases e | skip
              all_goals (rename_i e; subst e; decide)
            obtain ⟨n1, n2, n3⟩ := odd_ok eo
            exact (x_inst hg hm g1 g2 (ty_of o ih e) n3 n1 (ih a).1 (star_ne h1 _ X.env)).sub fun env mh z h => by rw [ex] at h; exact h
          · have z : (if isFree c T = true then Ex.inst (r a) t else .never) = Ex.never := if_neg hT
            show PX X _ (ex C (if isFree c T = true then Ex.inst (r a) t else .never))
            rw [z]
            exact sound_never _
      · exact sound_never _
    · rw [if_neg hx]
      cases e : bl2 x with
      | none => exact sound_never _
      | some b' => exact sound_bl2 o ih e hg hm ho h1 h2 p pos
  · exact sound_never _
theorem base_ok {ob : Expr} (h : isCall ob = false) (m : Str) : attributeBase ob m X.env (eval ob X.env) = eval ob X.env := by
  cases ob <;> first | rfl | cases h
theorem PK_imp {kws : List Keyword} {t t' : TA} (h : PK X kws t) (i : ∀ σ H Q, t' σ H Q → t σ H Q) : PK X kws t' := ⟨fun pos pins s σ H Q I q => h.run pos pins s σ H Q I (i σ H Q q)⟩
theorem sound_pk : ∀ kws : List Keyword, PK X kws (tAs X.K (exs C (kws.map fun k => r k.value)))
  | [] => PK_imp o ih pk_nil fun σ H Q ⟨β, env, mh, ds, mh', hr, hE, hf, q⟩ => by
    rw [List.map_nil, exs] at hf
    cases hf
    exact q β [] H (Po.refl hr) .nil
  | ⟨nm, e, kp⟩ :: kws => PK_imp o ih (pk_cons (ih e).1 (sound_pk kws)) fun σ H Q ⟨β, env, mh, ds, mh', hr, hE, hf, q⟩ => by
    rw [List.map_cons, exs] at hf
    dsimp only at hf
    cases e1 : ex C (r e) env mh with
    | none => rw [e1] at hf; cases hf
    | some z =>
      obtain ⟨r1, mh1⟩ := z
      rw [e1] at hf
      dsimp only at hf
      cases e2 : exs C (kws.map fun k => r k.value) env (box r1 mh1).2 with
      | none => rw [e2] at hf; cases hf
      | some z =>
        obtain ⟨ds2, mh2⟩ := z
        rw [e2] at hf
        cases hf
        refine one_of hr hE e1 fun β1 v H1 p1 d1 => ?_
        obtain ⟨β2, p2, hp, _, d2⟩ := p1.box d1
        exact ⟨β2, env, _, ds2, _, p2.rel, hE.mono p2 hr, e2, fun β3 vs H3 p3 d3 => q β3 (v :: vs) H3 (p2.trans p3) (.cons (p3.den p2.rel d2) d3)⟩
theorem kw_names : ∀ (kws : List Keyword) (pos : Pos) (env : PySem.Env), (backToKw pos (keywordEach kws env)).map (·.1) = kws.map (·.arg)
  | [], _, _ => rfl
  | ⟨nm, e, kp⟩ :: kws, pos, env => by
    have := kw_names kws pos env
    show nm :: (backToKw pos (keywordEach kws env)).map (·.1) = nm :: kws.map (·.arg)
    rw [this]
theorem perm_den {K : PySem.W.Frag} {β : List Addr} {H : Hp} {ds : List D} {vs : List V} (l : DenL K β H ds vs) : ∀ (perm : List Nat) (es : List D), perm.mapM (fun i => ds[i]?) = some es → DenL K β H es (permL perm vs)
  | [], es, h => by
    rw [List.mapM_nil] at h
    cases h
    exact .nil
  | i :: perm, es, h => by
    rw [List.mapM_cons] at h
    cases e1 : ds[i]? with
    | none => rw [e1] at h; cases h
    | some d =>
      rw [e1] at h
      cases e2 : perm.mapM (fun i => ds[i]?) with
      | none =>
        have h : ((perm.mapM fun i => ds[i]?).bind fun bs => some (d :: bs)) = some es := h
        rw [e2] at h
        cases h
      | some es' =>
        have h : ((perm.mapM fun i => ds[i]?).bind fun bs => some (d :: bs)) = some es := h
        rw [e2] at h
        cases h
        obtain ⟨v, e3, d3⟩ := l.get e1
        unfold permL
        rw [List.filterMap_cons, e3]
        exact .cons d3 (perm_den l perm es' e2)
theorem exs_len : ∀ (es : List Ex) (env : Env) (mh : MH) (ds : List D) (mh' : MH), exs C es env mh = some (ds, mh') → ds.length = es.length
  | [], env, mh, ds, mh', h => by rw [exs] at h; cases h; rfl
  | e :: es, env, mh, ds, mh', h => by
    rw [exs] at h
    cases e1 : ex C e env mh with
    | none => rw [e1] at h; cases h
    | some z =>
      obtain ⟨r1, mh1⟩ := z
      rw [e1] at h
      dsimp only at h
      cases e2 : exs C es env (box r1 mh1).2 with
      | none => rw [e2] at h; cases h
      | some z =>
        obtain ⟨ds2, mh2⟩ := z
        rw [e2] at h
        cases h
        rw [List.length_cons, List.length_cons, exs_len es env _ ds2 _ e2]
theorem sound_kw {x : Str} {i n : Nat} (hg : isGlo c x = true) (ho : oddName x = false) (e : c.G x = .fn i n) (args : List Expr) (kws : List Keyword) (p pos : Pos) : PX X (.Call (.Name x p) args kws pos) (ex C (trKw c r i args kws)) := by
  unfold trKw
  by_cases h : (args.isEmpty && kws.all fun k => k.arg.isSome) = true
  · rw [if_pos h]
    obtain ⟨h1, h2⟩ := Bool.and_eq_true_iff.mp h
    have h1 : args = [] := List.isEmpty_iff.mp h1
    subst h1
    obtain ⟨n1, n2, n3⟩ := odd_ok ho
    cases e1 : c.kw i (kws.filterMap (·.arg)) with
    | none => exact sound_never _
    | some perm =>
      by_cases hp : perm.isEmpty = true
      · show PX X _ (ex C (if perm.isEmpty = true then Ex.never else .call i (kws.map fun k => r k.value) perm))
        rw [if_pos hp]
        exact sound_never _
      · show PX X _ (ex C (if perm.isEmpty = true then Ex.never else .call i (kws.map fun k => r k.value) perm))
        rw [if_neg hp]
        obtain ⟨k, f, fd, ps, F, hr, hm, hk, hb, hl, hkw⟩ := o.fns x i n e
        have kb := hkw _ _ e1
        have names := kw_names o ih kws pos X.env
        have hall : (backToKw pos (keywordEach kws X.env)).all (·.1.isSome) = true := by
          have z : (backToKw pos (keywordEach kws X.env)).all (·.1.isSome) = ((backToKw pos (keywordEach kws X.env)).map (·.1)).all (·.isSome) := by rw [List.all_map]; rfl
          rw [z, names, List.all_map]
          exact h2
        have hks : (backToKw pos (keywordEach kws X.env)).filterMap (·.1) = kws.filterMap (·.arg) := by
          have z : (backToKw pos (keywordEach kws X.env)).filterMap (·.1) = ((backToKw pos (keywordEach kws X.env)).map (·.1)).filterMap id := by rw [List.filterMap_map]; rfl
          rw [z, names, List.filterMap_map]
          rfl
        have hpl : ((backTo pos (starEach [] X.env)).any (·.1) || (backToKw pos (keywordEach kws X.env)).any (·.1.isNone)) = false := by
          rw [Bool.or_eq_false_iff]
          refine ⟨rfl, ?_⟩
          rw [List.any_eq_false]
          intro q hq
          have := List.all_eq_true.mp hall q hq
          cases z : q.1 with
          | none => rw [z] at this; cases this
          | some y => simp
        have base : PE X (.Call (.Name x p) [] kws pos) (fun σ H Q => tAs X.K (exs C (kws.map fun k => r k.value)) σ H fun zs H2 => SpC X.K C i n (gK (kws.filterMap (·.arg)).length perm [] zs) H2 Q E0) := by
          refine ⟨fun pins s σ H Q I h => ?_⟩
          refine wpAny_Call_Name_kw (ld_glob I (o.glo hg) hm ?_ n1)
          refine PySem.W.callWith_KW0 (h₀ := X.base) I.ok.mod.kin hk hall (thn ((sound_pk o ih kws).run pos pins s σ H _ I h) fun ws s2 ⟨zs, H2, I2, rz, q2⟩ => ⟨I2.kIn, ?_⟩) hpl
          rw [hks]
          exact run_fnk (us := []) (vs := []) F hr kb pass0 I2 .nil rz q2
        refine PE_imp base fun σ H Q hq => ?_
        obtain ⟨β, env, mh, z, mh', hr', hE, hf, q⟩ := hq
        rw [ex] at hf
        cases e2 : exs C (kws.map fun k => r k.value) env mh with
        | none => rw [e2] at hf; cases hf
        | some w =>
          obtain ⟨ds, mh1⟩ := w
          rw [e2] at hf
          dsimp only at hf
          unfold permute at hf
          rw [if_neg hp] at hf
          cases e3 : perm.mapM (fun i => ds[i]?) with
          | none => rw [e3] at hf; cases hf
          | some es =>
            rw [e3] at hf
            have hf : C i es mh1 = some (z, mh') := hf
            refine ⟨β, env, mh, ds, mh1, hr', hE, e2, fun β1 vs H1 p1 d1 => ?_⟩
            have dl := perm_den o ih d1 perm es e3
            have le : ds.length = (kws.filterMap (·.arg)).length := by
              rw [exs_len o ih _ _ _ _ _ e2, List.length_map]
              have : ∀ ks : List Keyword, (ks.all fun k => k.arg.isSome) = true → ks.length = (ks.filterMap (·.arg)).length := fun ks => by
                induction ks with
                | nil => intro _; rfl
                | cons k ks ihk =>
                  intro h
                  rw [List.all_cons] at h
                  obtain ⟨g1, g2⟩ := Bool.and_eq_true_iff.mp h
                  rw [List.filterMap_cons]
                  cases z : k.arg with
                  | none => rw [z] at g1; cases g1
                  | some y => simp only [List.length_cons]; rw [ihk g2]
              exact this kws h2
            have ge : gK (kws.filterMap (·.arg)).length perm [] vs = permL perm vs := by
              unfold gK
              rw [if_pos]
              rw [← d1.len, le]
              simp
            refine ⟨?_, β1, mh1, es, z, mh', p1.rel, by rw [ge]; exact dl, hf, fun β2 v H2 p2 d2 => q β2 v H2 (p1.trans p2) (d2.back p1 p2.pre)⟩
            rw [ge, ← dl.len]
            exact o.ar x i n e es mh1 _ hf
  · rw [if_neg h]; exact sound_never _
theorem sound_srtR (hf : isFree c ("sorted" : Str) = true) (args : List Expr) (kws : List Keyword) (p pos : Pos) : PX X (.Call (.Name ("sorted" : Str) p) args kws pos) (ex C (trRev r args kws)) := by
  obtain ⟨hg, hm⟩ := free_ok o ih hf
  unfold trRev
  split
  · rename_i a k j cp kp
    by_cases h : (noStar a && decide (k = ("reverse" : Str))) = true
    · rw [if_pos h]
      obtain ⟨h1, h2⟩ := Bool.and_eq_true_iff.mp h
      have h2 := of_decide_eq_true h2
      subst h2
      have pa : PA X [a] (tRs X.K (exr C [r a])) := sound_rs ih (es := [a]) (by rw [List.all_cons, h1]; rfl)
      have st := star_ne h1 [] X.env
      have pk : PK X [⟨some ("reverse" : Str), .Constant (.bool true) j cp, kp⟩] (tCons (tC (.bl true)) tNil) := pk_cons pe_bl pk_nil
      refine PE_imp (pe_callBK (cr_srtR o.units) hg hm (by decide +kernel) pa pk (by decide) (by decide) (by rw [st]; rfl) (by rw [st]; rfl) (by rfl) (by rfl) (by rfl)) fun σ H Q hq => ?_
      obtain ⟨β, env, mh, z, mh', hr', hE, hf', q⟩ := hq
      rw [ex] at hf'
      cases e1 : exr C [r a] env mh with
      | none => rw [e1] at hf'; cases hf'
      | some w =>
        obtain ⟨rs, mh1⟩ := w
        rw [e1] at hf'
        dsimp only at hf'
        cases e2 : bltR mh1 .sortedR rs with
        | none => rw [e2] at hf'; cases hf'
        | some y =>
          rw [e2] at hf'
          cases hf'
          exact ⟨β, env, mh, rs, _, hr', hE, e1, fun β1 vs H1 p1 d1 => ⟨rfl, bv_sortedR H β1 _ H1 rs z vs Q p1.rel d1 e2 fun w H' p2 d2 => q β1 w H' (p1.trans p2) (d2.back p1 p2.pre)⟩⟩
    · rw [if_neg h]; exact sound_never _
  · exact sound_never _
theorem sound_call (f : Expr) (args : List Expr) (kws : List Keyword) (pos : Pos) : PX X (.Call f args kws pos) (ex C (trCall c r args kws pos f)) := by
  unfold trCall
  split
  · rename_i x p
    by_cases h1 : kws.isEmpty = true
    · rw [if_pos h1]
      have h1 : kws = [] := List.isEmpty_iff.mp h1
      subst h1
      by_cases hn : ¬ (args.all noStar && !oddName x && isGlo c x) = true
      · rw [if_neg hn]; exact sound_never _
      have h := Classical.not_not.mp hn
      rw [if_pos h]
      rw [Bool.and_eq_true_iff, Bool.and_eq_true_iff] at h
      obtain ⟨⟨h2, h3⟩, h4⟩ := h
      have ho : oddName x = false := by simpa using h3
      obtain ⟨n1, n2, n3⟩ := odd_ok ho
      cases e : c.G x with
      | fn i n =>
        obtain ⟨k, g, fd, ps, F, hr, hm, hk, hb, hl, _⟩ := o.fns x i n e
        have cal : Ev.Cal X C i n x := ⟨o.glo h4, k, g, fd, ps, F, hr, hm, hk, hb, hl⟩
        cases args with
        | nil =>
          refine (x_call0 cal n1).sub fun env mh z h => ?_
          rw [ex, List.map_nil, exs] at h
          have h : C i [] mh = some z := h
          have hn := o.ar x i n e [] mh z h
          rw [if_pos (by rw [← hn]; rfl)]
          exact h
        | cons a as =>
          rw [List.all_cons] at h2
          obtain ⟨h21, h22⟩ := Bool.and_eq_true_iff.mp h2
          have pa := sound_es ih (es := a :: as) (by rw [List.all_cons, h21, h22]; rfl)
          refine (x_call cal n1 pa (star_ne h21 as X.env) (stars_ne h22 X.env pos)).sub fun env mh z h => ?_
          rw [ex] at h
          cases e1 : exs C ((a :: as).map r) env mh with
          | none => rw [e1] at h; cases h
          | some q =>
            obtain ⟨ds, mh1⟩ := q
            rw [e1] at h
            have h : C i ds mh1 = some z := h
            have hn := o.ar x i n e ds mh1 z h
            show (if Nat.beq ds.length n = true then C i ds mh1 else none) = some z
            rw [if_pos (by rw [hn]; exact Nat.beq_refl n)]
            exact h
      | free =>
        exact sound_blt o ih (by unfold isFree; rw [h4, e]; rfl) ho args h2 p pos
      | _ => exact sound_never _
    · rw [if_neg h1]
      by_cases h : (!oddName x && isGlo c x) = true
      · rw [if_pos h]
        obtain ⟨h3, h4⟩ := Bool.and_eq_true_iff.mp h
        have ho : oddName x = false := by simpa using h3
        cases e : c.G x with
        | fn i n => exact sound_kw o ih h4 ho e args kws p pos
        | free =>
          by_cases hx : x = ("sorted" : Str)
          · show PX X _ (ex C (if x = ("sorted" : Str) then trRev r args kws else .never))
            rw [if_pos hx]
            subst hx
            exact sound_srtR o ih (by unfold isFree; rw [h4, e]; rfl) args kws p pos
          · show PX X _ (ex C (if x = ("sorted" : Str) then trRev r args kws else .never))
            rw [if_neg hx]
            exact sound_never _
        | _ => exact sound_never _
      · rw [if_neg h]; exact sound_never _
  · rename_i ob m apos
    by_cases h : (kws.isEmpty && !isCall ob && (apos.endLine == pos.line)) = true
    · rw [if_pos h]
      rw [Bool.and_eq_true_iff, Bool.and_eq_true_iff] at h
      obtain ⟨⟨h1, h2⟩, h3⟩ := h
      have h1 : kws = [] := List.isEmpty_iff.mp h1
      subst h1
      have hb := base_ok o ih (ob := ob) (by simpa using h2) m
      split
      · by_cases hm : m = ("pop" : Str)
        · rw [if_pos hm]
          subst hm
          exact (x_mt0 (o := ob) (pe_bm0 PySem.F.plainAttrs_list PySem.F.slot_list_pop PySem.F.type_list_pop mt_pop (ih ob).1 hb h3) mv_pop).sub fun env mh z h => by
            rw [ex] at h
            simp only [exr] at h
            exact h
        · rw [if_neg hm]; exact sound_never _
      · rename_i a
        by_cases ha : noStar a = true
        · rw [if_pos ha]
          have pa : PA X [a] (tRs X.K (exr C [r a])) := sound_rs ih (es := [a]) (by rw [List.all_cons, ha]; rfl)
          have st := star_ne ha [] X.env
          have few : ((backTo pos (starEach [a] X.env)).all (fun x => !x.1) && (backToKw pos (keywordEach [] X.env)).all (fun x => x.1.isSome)
      && decide (([a] : List Expr).length + ([] : List Keyword).length + (if ([] : List Keyword).isEmpty then 0 else 1) < 30)) = true := by rw [st]; rfl
          cases e : mtOf m with
          | none => exact sound_never _
          | some t =>
            unfold mtOf at e
            split at e
            · rename_i em
              cases e
              subst em
              exact (x_mt (o := ob) (pe_bm PySem.F.plainAttrs_list PySem.F.slot_list_append PySem.F.type_list_append mt_append (ih ob).1 pa hb few h3 st rfl) mv_append).sub fun env mh z h => by rw [ex] at h; exact h
            · split at e
              · rename_i em
                cases e
                subst em
                exact (x_mt (o := ob) (pe_bm PySem.F.plainAttrs_list PySem.F.slot_list_extend PySem.F.type_list_extend mt_extend (ih ob).1 pa hb few h3 st rfl) mv_extend).sub fun env mh z h => by rw [ex] at h; exact h
              · cases e
        · rw [if_neg ha]; exact sound_never _
      · exact sound_never _
    · rw [if_neg h]; exact sound_never _
  · exact sound_never _
end
end
end Ev
set_option Elab.async false
set_option linter.all false
set_option maxRecDepth 100000
set_option maxHeartbeats 1000000
/-! EvTr3: the translation is sound: targets, walks, comprehensions. -/
namespace Ev
open PySem PySem.Spec PyProof.Rows L2
section
variable {X : Cx} {C : CallF} {c : Tc}
theorem XOk.loc (o : XOk X C c) {x : Str} (h : isLoc c x = true) : L2.Loc X.env.scope x ∧ (X.fn x = true ∨ X.env.scope.names.lookup x = some .local) := by
  unfold isLoc at h
  unfold L2.Loc
  rw [o.sc, o.fn]
  split at h
  · rename_i e; exact ⟨.inl e, .inr e⟩
  · rename_i e; exact ⟨.inr e, .inl h⟩
  · cases h
/-- a name or a tuple -/
def tgForm : Expr → Bool
  | .Name .. => true
  | .Tuple .. => true
  | _ => false
theorem tg_form {n : Nat} {e : Expr} {t : Tg} (h : trTg c n e = some t) : tgForm e = true := by
  cases n with
  | zero => rw [trTg] at h; cases h
  | succ n => cases e <;> first | rfl | (simp [trTg] at h)
theorem form_assign {e : Expr} (h : tgForm e = true) (es : List Expr) (env : PySem.Env) : assignEach (e :: es) env = (false, assign e env) :: assignEach es env := by
  cases e <;> first | rfl | cases h
mutual
theorem sound_tg (o : XOk X C c) : ∀ (n : Nat) (e : Expr) (t : Tg), trTg c n e = some t → PG X e (tTg X.K t)
  | 0, e, t, h => by rw [trTg] at h; cases h
  | n + 1, e, t, h => by
    cases e with
    | Name x pos =>
      rw [trTg] at h
      by_cases h1 : isLoc c x = true
      · rw [if_pos h1] at h
        cases e : slotOf c.N x with
        | none => rw [e] at h; cases h
        | some i =>
          rw [e] at h
          cases h
          obtain ⟨l1, l2⟩ := o.loc h1
          exact g_name o.nd' (by rw [o.N]; exact slot_get e) l1 l2
      · rw [if_neg h1] at h; cases h
    | Tuple es k pos =>
      rw [trTg] at h
      cases e : trTgs c n es with
      | none => rw [e] at h; cases h
      | some ts =>
        rw [e] at h
        cases h
        obtain ⟨p, q1, q2, q3⟩ := sound_tgs o n es ts e
        exact g_tup o.calm p q3.symm q1 q2
    | _ => simp [trTg] at h
theorem sound_tgs (o : XOk X C c) : ∀ (n : Nat) (es : List Expr) (ts : List Tg), trTgs c n es = some ts → PGs X es (tTgs X.K ts) ∧ (assignEach es X.env).length = es.length ∧ (assignEach es X.env).findIdx? (·.1) = none ∧ es.length = ts.length
  | 0, es, ts, h => by rw [trTgs] at h; cases h
  | n + 1, [], ts, h => by rw [trTgs] at h; cases h; exact ⟨gs_nil, rfl, rfl, rfl⟩
  | n + 1, e :: es, ts, h => by
    rw [trTgs] at h
    split at h
    · rename_i t ts' e1 e2
      cases h
      have p1 := sound_tg o n e t e1
      obtain ⟨p2, q1, q2, q3⟩ := sound_tgs o n es ts' e2
      have f := form_assign (tg_form e1) es X.env
      refine ⟨gs_cons p1 p2 (by rw [f]; rfl), by rw [f, List.length_cons, List.length_cons, q1], ?_, by rw [List.length_cons, List.length_cons, q3]⟩
      rw [f, List.findIdx?_cons]
      simp [q2]
    · cases h
end
/-! ### walks -/
theorem fold_ok {e : Expr} (h : isSet e = false) (env : PySem.Env) : ∀ x, foldedSetIterable e env x = pure x := by
  intro x
  cases e <;> first | rfl | cases h
theorem PI_sub {tg e : Expr} {f f' : Env → MH → Option (Src × MH)} (h : PI X tg e (tIx X.K f)) (i : ∀ env mh z, f' env mh = some z → f env mh = some z) : PI X tg e (tIx X.K f') := PI_imp h fun σ H Q ⟨β, env, mh, r, mh', hr, hE, hf, q⟩ => ⟨β, env, mh, r, mh', hr, hE, i _ _ _ hf, q⟩
theorem rs_one (e : Ex) (env : Env) (mh : MH) : exr C [e] env mh = oneR (ex C e) env mh := by
  rw [exr]
  unfold oneR
  cases ex C e env mh with
  | none => rfl
  | some p => obtain ⟨x, mh1⟩ := p; simp only [exr]
theorem i_one {tg e : Expr} {x : Ex} (h : PX X e (ex C x)) : PI X tg e (tIx X.K (srcOf .seq (exr C [x]))) := PI_sub (i_seq h) fun env mh z h => by
  unfold srcOf at h ⊢
  rw [rs_one] at h
  exact h
theorem tup_form {tg : Expr} (h : isTup tg = true) : ∃ es k pos, tg = .Tuple es k pos := by
  cases tg <;> first | exact ⟨_, _, _, rfl⟩ | cases h
section
variable {r : Expr → Ex} (o : XOk X C c) (ih : ∀ e, PX X e (ex C (r e)) ∧ PTX X e (ex C (r e)))
include o ih
theorem sound_iter (tg e : Expr) (k : Kd) (es : List Ex) (h : trIter c r tg e = some (k, es)) : PI X tg e (tIx X.K (srcOf k (exr C es))) ∧ isSet e = false := by
  unfold trIter at h
  split at h
  · rename_i x p args pos
    refine ⟨?_, rfl⟩
    by_cases h1 : (isFree c x && args.all noStar && !oddName x) = true
    · rw [if_pos h1] at h
      rw [Bool.and_eq_true_iff, Bool.and_eq_true_iff] at h1
      obtain ⟨⟨f1, f2⟩, f3⟩ := h1
      obtain ⟨hg, hm⟩ := free_ok o ih f1
      split at h
      · rename_i a
        have pa : PA X [a] (tRs X.K (exr C [r a])) := sound_rs ih (es := [a]) f2
        have na : noStar a = true := by rw [List.all_cons] at f2; exact (Bool.and_eq_true_iff.mp f2).1
        have st : starEach [a] X.env = [(false, eval a X.env)] := star_ne na [] X.env
        by_cases hx : x = ("range" : Str)
        · rw [if_pos hx] at h
          cases h
          subst hx
          exact i_rng1 hg hm pa st
        · rw [if_neg hx] at h
          by_cases hy : (decide (x = ("enumerate" : Str)) && isTup tg) = true
          · rw [if_pos hy] at h
            cases h
            obtain ⟨e1, e2⟩ := Bool.and_eq_true_iff.mp hy
            obtain ⟨es, kk, tp, rfl⟩ := tup_form e2
            have e1 := of_decide_eq_true e1
            subst e1
            exact i_enum hg hm pa st
          · rw [if_neg hy] at h
            cases h
            exact i_one (ih _).1
      · rename_i a b
        have pa : PA X [a, b] (tRs X.K (exr C [r a, r b])) := sound_rs ih (es := [a, b]) f2
        rw [List.all_cons] at f2
        obtain ⟨na, nb⟩ := Bool.and_eq_true_iff.mp f2
        have nb' : noStar b = true := by rw [List.all_cons] at nb; exact (Bool.and_eq_true_iff.mp nb).1
        have sb : starEach [b] X.env = [(false, eval b X.env)] := star_ne nb' [] X.env
        have st := star_ne na [b] X.env
        by_cases hx : x = ("range" : Str)
        · rw [if_pos hx] at h
          cases h
          subst hx
          exact i_rng2 hg hm pa (by rw [st, sb]) sb
        · rw [if_neg hx] at h
          by_cases hy : (decide (x = ("zip" : Str)) && isTup tg) = true
          · rw [if_pos hy] at h
            cases h
            obtain ⟨e1, e2⟩ := Bool.and_eq_true_iff.mp hy
            obtain ⟨es, kk, tp, rfl⟩ := tup_form e2
            have e1 := of_decide_eq_true e1
            subst e1
            exact i_zip hg hm pa st (stars_ne nb X.env pos)
          · rw [if_neg hy] at h
            cases h
            exact i_one (ih _).1
      · cases h
    · rw [if_neg h1] at h
      cases h
      exact i_one (ih _).1
  · by_cases hs : isSet e = true
    · rw [if_pos hs] at h; cases h
    · rw [if_neg hs] at h
      cases h
      exact ⟨i_one (ih _).1, Bool.eq_false_iff.mpr hs⟩
theorem sound_ifs (ifs : List Expr) (i : Option Ex) (h : trIfs r ifs = some i) : PTs X ifs (tTs X.K (exc C i)) := by
  unfold trIfs at h
  split at h
  · cases h
    refine ⟨fun pins s σ H Q I q => pts_nil.run pins s σ H Q I ?_⟩
    obtain ⟨β, env, mh, b, mh', hr, hE, hf, q⟩ := q
    rw [exc] at hf
    cases hf
    exact q β H (Po.refl hr)
  · cases h
    rename_i e
    refine ⟨fun pins s σ H Q I q => (pts_one (ih e).2).run pins s σ H Q I ?_⟩
    obtain ⟨β, env, mh, b, mh', hr, hE, hf, q⟩ := q
    rw [exc] at hf
    refine ⟨β, env, mh, b, mh', hr, hE, ?_, q⟩
    unfold tst
    exact hf
  · cases h
end
theorem own_mem {N : List Str} {scope : Scope} : True := trivial
theorem subl_mem {xs ys : List Nat} (h : subl xs ys = true) : ∀ i ∈ xs, i ∈ ys := fun i hi => by
  unfold subl at h
  obtain ⟨j, hj, e⟩ := List.any_eq_true.mp (List.all_eq_true.mp h i hi)
  rw [Nat.eq_of_beq_eq_true e]
  exact hj
theorem XOk.blk (o : XOk X C c) (s : Shared) (H : Hp) (scope : Scope) (Cc : Addr) (cl : List (Str × Addr)) (fp : List Addr) : XOk (X.blk s H scope (compEnvC scope cl Cc X.env) fp) C (inBlk c scope) where
  N := o.N
  nd := o.nd
  sc := by
    show relabel scope X.env = relS scope c.sc
    rw [← o.sc]
    rfl
  fn := rfl
  calm := o.calm
  units := o.units
  ar := o.ar
  fns := o.fns
  cst := o.cst
  free := o.free
theorem lc_never (e : Expr) : LcOk X e (ex C .never) := LcOk.no fun env mh z h => by rw [ex] at h; cases h
theorem sound_lc {r : Tc → Expr → Ex} (o : XOk X C c) (ih : ∀ (c : Tc) (X : Cx), XOk X C c → ∀ e, PX X e (ex C (r c e)) ∧ PTX X e (ex C (r c e))) (elt : Expr) (gens : List Comprehension) (scope : Scope) (pos : Pos) : LcOk X (.ListComp elt gens scope pos) (ex C (trComp c r elt scope gens)) := by
  unfold trComp
  split
  · rename_i tg iter ifs
    dsimp only
    by_cases hb : blkC c.N c.sc scope (ownNames c scope) = true
    · rw [if_pos hb]
      split
      · rename_i k es t i e1 e2 e3
        by_cases hs : subl (tgIx t) ((ownNames c scope).map (·.2)) = true
        · rw [if_pos hs]
          obtain ⟨p1, p2⟩ := sound_iter o (ih c X o) tg iter k es e1
          have ok : BlkOk X.N X.env.scope scope (ownNames c scope) := by rw [o.N, o.sc]; exact blkOk_by hb
          refine (x_comp o.calm o.nd' p1 ok (fun s H Cc cl fp => sound_tg (o.blk s H scope Cc cl fp) 9 tg t e2) (fun s H Cc cl fp => sound_ifs (o.blk s H scope Cc cl fp) (ih _ _ (o.blk s H scope Cc cl fp)) ifs i e3) (fun s H Cc cl fp => (ih _ _ (o.blk s H scope Cc cl fp) elt).1) (fold_ok p2 X.env) (subl_mem hs)).sub fun env mh z h => ?_
          rw [ex] at h
          unfold srcOf
          cases q1 : exr C es env mh with
          | none => rw [q1] at h; cases h
          | some q =>
            obtain ⟨rs, mh1⟩ := q
            rw [q1] at h
            have h : (match srcR mh1 k rs with
              | some src => (compGo (fun x mh => match asgT t x (wipeE env ((ownNames c scope).map (·.2))) with
                | some env => match exc C i env mh with
                  | some (true, mh) => (ex C (r (inBlk c scope) elt) env mh).map fun r => match box r.1 r.2 with | (d, mh) => (some d, mh)
                  | some (false, mh) => some (none, mh)
                  | none => none
                | none => none) src (turns mh1 src) 0 mh1 []).map fun r => (Ev.R.l r.1, r.2)
              | none => none) = some z := h
            cases q2 : srcR mh1 k rs with
            | none => rw [q2] at h; cases h
            | some src =>
              rw [q2] at h
              dsimp only
              rw [q2]
              exact h
        · rw [if_neg hs]; exact lc_never _
      · exact lc_never _
    · rw [if_neg hb]; exact lc_never _
  · rename_i tg iter ifs tg1 iter1 ifs1
    dsimp only
    by_cases hb : blkC c.N c.sc scope (ownNames c scope) = true
    · rw [if_pos hb]
      split
      · rename_i k es t i k1 es1 t1 i1 e1 e2 e3 e4 e5 e6
        by_cases hs : (subl (tgIx t) ((ownNames c scope).map (·.2)) && subl (tgIx t1) ((ownNames c scope).map (·.2)) && !isSet iter1) = true
        · rw [if_pos hs]
          rw [Bool.and_eq_true_iff, Bool.and_eq_true_iff] at hs
          obtain ⟨⟨hs1, hs2⟩, hs3⟩ := hs
          obtain ⟨p1, p2⟩ := sound_iter o (ih c X o) tg iter k es e1
          have ok : BlkOk X.N X.env.scope scope (ownNames c scope) := by rw [o.N, o.sc]; exact blkOk_by hb
          refine (x_comp2 o.calm o.nd' p1 ok (subl_mem hs2) (fun s H Cc cl fp => sound_tg (o.blk s H scope Cc cl fp) 9 tg t e2) (fun s H Cc cl fp => sound_ifs (o.blk s H scope Cc cl fp) (ih _ _ (o.blk s H scope Cc cl fp)) ifs i e3)
            (fun s H Cc cl fp => (sound_iter (o.blk s H scope Cc cl fp) (ih _ _ (o.blk s H scope Cc cl fp)) tg1 iter1 k1 es1 e4).1) (fun s H Cc cl fp => sound_tg (o.blk s H scope Cc cl fp) 9 tg1 t1 e5) (fun s H Cc cl fp => sound_ifs (o.blk s H scope Cc cl fp) (ih _ _ (o.blk s H scope Cc cl fp)) ifs1 i1 e6)
            (fun s H Cc cl fp => (ih _ _ (o.blk s H scope Cc cl fp) elt).1) (fold_ok p2 X.env) (fun env => fold_ok (by simpa using hs3) env) (subl_mem hs1) (fun i hi => hi)).sub fun env mh z h => ?_
          rw [ex] at h
          unfold srcOf turnF2
          cases q1 : exr C es env mh with
          | none => rw [q1] at h; cases h
          | some q =>
            obtain ⟨rs, mh1⟩ := q
            rw [q1] at h
            dsimp only at h
            cases q2 : srcR mh1 k rs with
            | none => rw [q2] at h; cases h
            | some src =>
              rw [q2] at h
              dsimp only at h ⊢
              rw [q2]
              dsimp only [Option.map]
              rw [← h]
              congr 2
              funext x mh2 acc
              cases asgT t x (wipeE env ((ownNames c scope).map (·.2))) with
              | none => rfl
              | some env2 =>
                dsimp only
                cases exc C i env2 mh2 with
                | none => rfl
                | some bm =>
                  obtain ⟨b, mh3⟩ := bm
                  cases b with
                  | false => rfl
                  | true =>
                    dsimp only
                    cases exr C es1 env2 mh3 with
                    | none => rfl
                    | some rm =>
                      obtain ⟨rs1, mh4⟩ := rm
                      dsimp only
                      cases srcR mh4 k1 rs1 with
                      | none => rfl
                      | some src1 => rfl
        · rw [if_neg hs]; exact lc_never _
      · exact lc_never _
    · rw [if_neg hb]; exact lc_never _
  · exact lc_never _
theorem sound_comp {r : Tc → Expr → Ex} (o : XOk X C c) (ih : ∀ (c : Tc) (X : Cx), XOk X C c → ∀ e, PX X e (ex C (r c e)) ∧ PTX X e (ex C (r c e))) (elt : Expr) (gens : List Comprehension) (scope : Scope) (pos : Pos) : PX X (.ListComp elt gens scope pos) (ex C (trComp c r elt scope gens)) := (sound_lc o ih elt gens scope pos).px
end
end Ev
set_option Elab.async false
set_option linter.all false
set_option maxRecDepth 100000
set_option maxHeartbeats 1000000
/-! EvTr4: the translation is sound: expressions; statements. -/
namespace Ev
open PySem PySem.Spec PyProof.Rows L2
section
variable {X : Cx} {C : CallF} {c : Tc}
theorem t_ite {t a b : Expr} {pos : Pos} {fc fa fb : Run} (hc : PTX X t fc) (ha : PTX X a fa) (hb : PTX X b fb) : PTX X (.IfExp t a b pos) (fun env mh => match fc env mh with
      | some (x, mh) => match truth mh x with
        | some true => fa env mh
        | some false => fb env mh
        | none => none
      | none => none) := by
  refine ⟨fun pins s σ H Q I h => ?_⟩
  obtain ⟨β, env, mh, b', mh', hr, hE, hf, q⟩ := h
  obtain ⟨x, e1, e2⟩ := tst_some hf
  cases e3 : fc env mh with
  | none => rw [e3] at e1; cases e1
  | some p =>
    obtain ⟨y, mh1⟩ := p
    simp only [e3] at e1
    cases e4 : truth mh1 y with
    | none => rw [e4] at e1; cases e1
    | some k =>
      show wpAny _ _ (isTrue t X.env (eval t X.env) >>= fun r => if r = true then isTrue a X.env (eval a X.env) else isTrue b X.env (eval b X.env)) _ _ s
      refine wpAny_bind (thn (hc.run pins s σ H (fun r H1 => r = k ∧ (if k = true then tTs X.K (tst fa) σ H1 Q else tTs X.K (tst fb) σ H1 Q)) I ⟨β, env, mh, k, mh1, hr, hE, tst_of e3 e4, fun β1 H1 p1 => ⟨rfl, ?_⟩⟩) fun r s1 ⟨H1, I1, er, q1⟩ => ?_)
      · cases k with
        | true =>
          rw [if_pos rfl]
          simp only [e4] at e1
          exact ⟨β1, env, mh1, b', mh', p1.rel, hE.mono p1 hr, tst_of e1 e2, fun β2 H2 p2 => q β2 H2 (p1.trans p2)⟩
        | false =>
          rw [if_neg (by decide)]
          simp only [e4] at e1
          exact ⟨β1, env, mh1, b', mh', p1.rel, hE.mono p1 hr, tst_of e1 e2, fun β2 H2 p2 => q β2 H2 (p1.trans p2)⟩
      · subst er
        cases r with
        | true =>
          rw [if_pos rfl] at q1 ⊢
          exact ha.run pins s1 σ H1 Q I1 q1
        | false =>
          rw [if_neg (by decide)] at q1 ⊢
          exact hb.run pins s1 σ H1 Q I1 q1
theorem x_neg {a : Expr} {pos : Pos} {f : Ex} (ha : PX X a (ex C f)) : PX X (.UnaryOp .USub a pos) (ex C (.op .sub (.cst (.int 0)) f)) := by
  refine PE_imp (pe_un un_neg ha) fun σ H Q h => ?_
  obtain ⟨β, env, mh, z, mh', hr, he, hf, q⟩ := h
  rw [ex, ex] at hf
  dsimp only at hf
  cases e1 : ex C f env mh with
  | none => rw [e1] at hf; cases hf
  | some p =>
    obtain ⟨x, mh1⟩ := p
    simp only [e1] at hf
    refine one_of hr he e1 fun β1 v H1 p1 d1 => ?_
    cases x with
    | l ds => cases hf
    | v d =>
      cases d with
      | int i =>
        cases hf
        refine ⟨i, d1.int, q β1 _ H1 p1 ?_⟩
        show Den X.K β1 H1 (.int (0 - i)) (.int (-i))
        rw [Int.zero_sub]
        exact Den.int _
      | _ => cases hf
theorem sound_E1 {r : Tc → Expr → Ex} (o : XOk X C c) (ih : ∀ (c : Tc) (X : Cx), XOk X C c → ∀ e, PX X e (ex C (r c e)) ∧ PTX X e (ex C (r c e))) (e : Expr) : PX X e (ex C (trE1 r c e)) ∧ PTX X e (ex C (trE1 r c e)) := by
  have i := ih c X o
  cases e with
  | Name x pos => exact both rfl (sound_name o x pos)
  | Constant k j pos => exact both rfl (sound_const k j pos)
  | Tuple es k pos =>
    rw [trE1]
    by_cases h : es.all noStar = true
    · rw [if_pos h]; exact both rfl ((x_tup (sound_es i h)).sub fun env mh z h => by rw [ex] at h; exact h)
    · rw [if_neg h]; exact both_never _
  | List es pos =>
    rw [trE1]
    by_cases h : es.all noStar = true
    · rw [if_pos h]; exact both rfl ((x_lst (sound_es i h)).sub fun env mh z h => by rw [ex] at h; exact h)
    · rw [if_neg h]; exact both_never _
  | BinOp a op b pos =>
    rw [trE1]
    cases e : opOf op with
    | none => exact both_never _
    | some p =>
      have hn : opName p = op := by cases op <;> first | (cases e; rfl) | cases e
      have oo := op_op (X := X) p
      rw [hn] at oo
      exact both rfl ((x_op oo (ov_op p) (i a).1 (i b).1).sub fun env mh z h => by rw [ex] at h; exact h)
  | UnaryOp op a pos =>
    cases op with
    | Not => exact ⟨(x_not (i a).1).sub fun env mh z h => by rw [trE1, ex] at h; exact h, (t_not (i a).2).sub fun env mh z h => by rw [trE1, ex] at h; exact h⟩
    | USub => exact both rfl (x_neg (i a).1)
    | _ => exact both_never _
  | BoolOp op vs pos =>
    cases op with
    | And =>
      cases vs with
      | nil => exact both_never _
      | cons a as =>
        obtain ⟨h1, h2⟩ := sound_and i pos (a :: as) (by simp)
        exact ⟨h1, h2.pt⟩
    | Or =>
      cases vs with
      | nil => exact both_never _
      | cons a as =>
        obtain ⟨h1, h2⟩ := sound_or i pos (a :: as) (by simp)
        exact ⟨h1, h2.pt⟩
  | IfExp t a b pos => exact ⟨(x_ite (i t).2 (i a).1 (i b).1).sub fun env mh z h => by rw [trE1, ex] at h; exact h, (t_ite (i t).2 (i a).2 (i b).2).sub fun env mh z h => by rw [trE1, ex] at h; exact h⟩
  | Compare a ops bs pos => exact sound_cmp o i a ops bs pos
  | Subscript a s pos => exact both rfl (sound_sub o i a s pos)
  | Call f args kws pos => exact both rfl (sound_call o i f args kws pos)
  | ListComp elt gens scope pos => exact both rfl (sound_comp o ih elt gens scope pos)
  | _ => exact both_never _
end
theorem sound_E {C : CallF} : ∀ (n : Nat) (c : Tc) (X : Cx), XOk X C c → ∀ e, PX X e (ex C (trE n c e)) ∧ PTX X e (ex C (trE n c e))
  | 0, c, X, o, e => both_never e
  | n + 1, c, X, o, e => sound_E1 o (sound_E n) e
end Ev
set_option Elab.async false
set_option linter.all false
set_option maxRecDepth 100000
set_option maxHeartbeats 1000000
/-! EvTr5: the translation is sound: statements. -/
namespace Ev
open PySem PySem.Spec PyProof.Rows L2
/-! ### where stores are swapped -/
def isName : Expr → Bool
  | .Name .. => true
  | _ => false
theorem fm_lt {α β : Type} {f : α → Option β} : ∀ {l : List α}, (∃ x ∈ l, f x = none) → (l.filterMap f).length < l.length
  | [], h => by obtain ⟨x, hx, _⟩ := h; cases hx
  | a :: l, h => by
    have le : ∀ l : List α, (l.filterMap f).length ≤ l.length := fun l => List.length_filterMap_le f l
    obtain ⟨x, hx, e⟩ := h
    rcases List.mem_cons.mp hx with rfl | hx
    · rw [List.filterMap_cons, e, List.length_cons]
      exact Nat.lt_succ_of_le (le l)
    · have ih := fm_lt (f := f) (l := l) ⟨x, hx, e⟩
      rw [List.filterMap_cons, List.length_cons]
      cases f a with
      | none => exact Nat.lt_succ_of_lt ih
      | some b => simp only [List.length_cons]; omega
theorem sw_none {ts : List Expr} (h : (ts.any fun t => !isName t) = true) {kt k2 : Nat} {tp p2 : Pos} {vs : List Expr} {env : PySem.Env} : swappedStores [.Tuple ts kt tp] (.Tuple vs k2 p2) env = pure none := by
  unfold swappedStores
  dsimp only
  split
  · rfl
  · split
    · rfl
    · rw [if_pos]
      rw [Bool.or_eq_true]
      refine .inl ?_
      rw [bne_iff_ne]
      refine Nat.ne_of_lt (fm_lt ?_)
      obtain ⟨t, ht, e⟩ := List.any_eq_true.mp h
      refine ⟨t, ht, ?_⟩
      cases t <;> first | rfl | cases e
theorem sw_other {tg e : Expr} (h : isTup tg = false ∨ isTup e = false) (hl : ∀ ts p, tg ≠ .List ts p) {env : PySem.Env} : swappedStores [tg] e env = pure none := by
  unfold swappedStores
  rcases h with h | h
  · cases tg <;> first | rfl | exact absurd rfl (hl _ _) | cases h
  · cases e <;> first | (cases tg <;> rfl) | cases h
theorem sw2 {x y : Str} {px py : Pos} {a b : Expr} {kt k2 : Nat} {tp p2 : Pos} {env : PySem.Env} (hk : env.scope.kind = .function) (hx : env.scope.names.lookup x = some .local) (hy : env.scope.names.lookup y = some .local) (hl : (py.line == px.line) = true) (hne : x ≠ y) (sa : noStar a = true) (sb : noStar b = true)
    (f1 : ([a, b].all (foldedForSure 8)) = false) (f2 : ([a, b].all (constantsAlone 8)) = false) : swappedStores [.Tuple [.Name x px, .Name y py] kt tp] (.Tuple [a, b] k2 p2) env = pure (some [x, y]) := by
  have bk : env.blockKind = .function := by unfold Env.blockKind; rw [hk]; rfl
  have kx : env.kindOf x = some .local := hx
  have ky : env.kindOf y = some .local := hy
  unfold swappedStores
  dsimp only
  rw [if_neg (by simp [bk])]
  split
  · rename_i hh
    exfalso
    obtain ⟨e, he, q⟩ := List.any_eq_true.mp hh
    have ne : noStar e = true := by
      rcases List.mem_cons.mp he with rfl | he
      · exact sa
      · rcases List.mem_cons.mp he with rfl | he
        · exact sb
        · cases he
    cases e <;> first | (cases ne; done) | (cases q; done)
  simp only [List.head?_cons, Option.map_some, Option.getD_some, Expr.pos, List.filterMap_cons, kx, ky, hl, beq_self_eq_true, Bool.and_self, if_true, List.filterMap_nil]
  rw [if_neg (by
    simp only [List.eraseDups_cons, List.filter_cons, List.filter_nil, List.eraseDups_nil, List.length_cons, List.length_nil]
    simp [hne, Ne.symm hne, List.eraseDups_cons]), f1, if_neg (by decide), f2, if_neg (by decide)]
theorem sw3 {x y z : Str} {px py pz : Pos} {a b d : Expr} {kt k2 : Nat} {tp p2 : Pos} {env : PySem.Env} (hk : env.scope.kind = .function) (hx : env.scope.names.lookup x = some .local) (hy : env.scope.names.lookup y = some .local) (hz : env.scope.names.lookup z = some .local) (hl : (py.line == px.line) = true) (hl2 : (pz.line == px.line) = true) (hne : x ≠ y) (hne2 : x ≠ z) (hne3 : y ≠ z) (sa : noStar a = true) (sb : noStar b = true) (sd : noStar d = true)
    (f1 : ([a, b, d].all (foldedForSure 8)) = false) (f2 : ([a, b, d].all (constantsAlone 8)) = false) : swappedStores [.Tuple [.Name x px, .Name y py, .Name z pz] kt tp] (.Tuple [a, b, d] k2 p2) env = pure (some [x, y, z]) := by
  have bk : env.blockKind = .function := by unfold Env.blockKind; rw [hk]; rfl
  have kx : env.kindOf x = some .local := hx
  have ky : env.kindOf y = some .local := hy
  have kz : env.kindOf z = some .local := hz
  unfold swappedStores
  dsimp only
  rw [if_neg (by simp [bk])]
  split
  · rename_i hh
    exfalso
    obtain ⟨e, he, q⟩ := List.any_eq_true.mp hh
    have ne : noStar e = true := by
      rcases List.mem_cons.mp he with rfl | he
      · exact sa
      · rcases List.mem_cons.mp he with rfl | he
        · exact sb
        · rcases List.mem_cons.mp he with rfl | he
          · exact sd
          · cases he
    cases e <;> first | (cases ne; done) | (cases q; done)
  simp only [List.head?_cons, Option.map_some, Option.getD_some, Expr.pos, List.filterMap_cons, kx, ky, kz, hl, hl2, beq_self_eq_true, Bool.and_self, if_true, List.filterMap_nil]
  rw [if_neg (by
    simp only [List.eraseDups_cons, List.filter_cons, List.filter_nil, List.eraseDups_nil, List.length_cons, List.length_nil]
    simp [hne, Ne.symm hne, hne2, Ne.symm hne2, hne3, Ne.symm hne3, List.eraseDups_cons]), f1, if_neg (by decide), f2, if_neg (by decide)]
end Ev
set_option Elab.async false
set_option linter.all false
set_option maxRecDepth 100000
set_option maxHeartbeats 1000000
/-! EvTr6: the translation of statements, and that it is sound. -/
namespace Ev
open PySem PySem.Spec PyProof.Rows L2
def isComp : Expr → Bool
  | .ListComp .. => true
  | .SetComp .. => true
  | .DictComp .. => true
  | _ => false
def isLC : Expr → Bool
  | .ListComp .. => true
  | _ => false
/-- does a comprehension's value go to the name at once? -/
def lcSwap (sc : Scope) (x : Str) (line : Nat) (scope : Scope) (line2 : Nat) : Bool := (match sc.kind with | .function => true | _ => false) && (sc.names.lookup x == some .local) && (line == line2) && !(scope.names.any fun (n, k) => n == x && (k == .local || k == .cell))
def isFun (c : Tc) : Bool := match c.sc.kind with
  | .function => true
  | _ => false
def isLocal (c : Tc) (x : Str) : Bool := match c.sc.names.lookup x with
  | some .local => true
  | _ => false
/-- a, b = x, y with plain names -/
def trPar (re : Expr → Ex) (c : Tc) (ts es : List Expr) : St := match ts, es with
        | [.Name x px, .Name y py], [a, b] => if isFun c && isLocal c x && isLocal c y && (py.line == px.line) && decide (x ≠ y) && noStar a && noStar b && !([a, b].all (foldedForSure 8)) && !([a, b].all (constantsAlone 8)) then (match slotOf c.N x, slotOf c.N y with
            | some i, some j => .par [i, j] [re a, re b]
            | _, _ => .never) else .never
        | [.Name x px, .Name y py, .Name z pz], [a, b, d] => if isFun c && isLocal c x && isLocal c y && isLocal c z && (py.line == px.line) && (pz.line == px.line) && decide (x ≠ y) && decide (x ≠ z) && decide (y ≠ z) && noStar a && noStar b && noStar d && !([a, b, d].all (foldedForSure 8)) && !([a, b, d].all (constantsAlone 8)) then (match slotOf c.N x, slotOf c.N y, slotOf c.N z with
            | some i, some j, some l => .par [i, j, l] [re a, re b, re d]
            | _, _, _ => .never) else .never
        | _, _ => .never
def trAsg (re : Expr → Ex) (c : Tc) (e : Expr) : Expr → St
  | .Name x px => if isLoc c x && isFun c then (match slotOf c.N x with
      | some i => (match e with
        | .SetComp .. => .never
        | .DictComp .. => .never
        | _ => .asg (.nm i) (re e))
      | none => .never) else .never
  | .Subscript o i _ => if isSlice i then .never else .seti (re o) (re i) (re e)
  | .Tuple ts _ _ => match e with
    | .Tuple es _ _ => if ts.any fun t => !isName t then (match trTgs c 9 ts with
        | some t => .asg (.tup t) (re e)
        | none => .never) else trPar re c ts es
    | _ => (match trTgs c 9 ts with
        | some t => .asg (.tup t) (re e)
        | none => .never)
  | _ => .never
def trS1 (re : Expr → Ex) (rb : List Stmt → List St) (c : Tc) : Stmt → St
  | .Pass _ => .pass
  | .Break _ => .brk
  | .Continue _ => .cnt
  | .Return none _ => .retN
  | .Return (some e) _ => .ret (re e)
  | .Expr e _ => if isComp e then .never else .expr (re e)
  | .Assign [tg] e _ => trAsg re c e tg
  | .AugAssign (.Name x _) .Add e _ => if isLoc c x then (match slotOf c.N x with | some i => .aug i .add (re e) | none => .never) else .never
  | .AugAssign (.Name x _) .Sub e _ => if isLoc c x then (match slotOf c.N x with | some i => .aug i .sub (re e) | none => .never) else .never
  | .If t a b _ => .ite (re t) (rb a) (rb b)
  | .While t b [] _ => .whl (re t) (rb b)
  | .For tg it b [] _ => (match trIter c re tg it, trTg c 9 tg with
    | some (k, es), some t => .for_ t k es (rb b)
    | _, _ => .never)
  | _ => .never
def trSs : Nat → Nat → Tc → List Stmt → List St
  | 0, _, _, _ => [.never]
  | n + 1, m, c, ss => ss.map (trS1 (trE m c) (trSs n m c) c)
/-! ### it is sound -/
theorem bnot {b : Bool} (h : (!b) = true) : b = false := by cases b with
  | true => cases h
  | false => rfl
theorem slot_inj {N : List Str} {x y : Str} {i j : Nat} (h1 : slotOf N x = some i) (h2 : slotOf N y = some j) (h : x ≠ y) : i ≠ j := fun e => by
  subst e
  have a := slot_get h1
  rw [slot_get h2] at a
  exact h (Option.some.inj a).symm
section
variable {X : Cx} {C : CallF} {c : Tc}
theorem PS_sub {e : Stmt} {f f' : RunS} (h : PSX X e f) (i : ∀ env mh z, f' env mh = some z → f env mh = some z) : PSX X e f' := PS_imp h fun D σ H ⟨β, env, mh, fl, env', mh', hr, hE, hf, q⟩ => ⟨β, env, mh, fl, env', mh', hr, hE, i _ _ _ hf, q⟩
theorem PSs_sub {e : List Stmt} {f f' : RunS} (h : PSsX X e f) (i : ∀ env mh z, f' env mh = some z → f env mh = some z) : PSsX X e f' := PSs_imp h fun D σ H ⟨β, env, mh, fl, env', mh', hr, hE, hf, q⟩ => ⟨β, env, mh, fl, env', mh', hr, hE, i _ _ _ hf, q⟩
theorem st_never (s : Stmt) : PSX X s (st C .never) := PS_sub s_never fun env mh z h => by rw [st] at h; cases h
theorem XOk.local_ (o : XOk X C c) {x : Str} (h : isLocal c x = true) : X.env.scope.names.lookup x = some .local := by
  unfold isLocal at h
  rw [o.sc]
  split at h
  · assumption
  · cases h
theorem XOk.fun_ (o : XOk X C c) (h : isFun c = true) : X.env.scope.kind = .function := by
  unfold isFun at h
  rw [o.sc]
  split at h
  · assumption
  · cases h
theorem comp_sw {e : Expr} (h : isComp e = false) (t : Option Expr) (l : Nat) (env : PySem.Env) : swapsWith e t l env = pure false := by
  cases e <;> first | rfl | cases h
theorem s_setLc {i : Nat} {y : Str} {py spos : Pos} {e : Expr} {F : Run} (hy : X.N[i]? = some y) (hyl : X.env.scope.names.lookup y = some .local) (hsw : swapsWith e (some (.Name y py)) spos.line X.env = pure true) (h : LcOk X e F) :
    PSX X (.Assign [.Name y py] e spos) (fun env mh => match F env mh with
    | some (r, mh) => match asgT (.nm i) (box r mh).1 env with
      | some env => some (.nx, env, (box r mh).2)
      | none => none
    | none => none) := by
  obtain ⟨t, h1, h2, h3⟩ := h
  refine PS_imp (h3 i y py spos hy hyl hsw) fun D σ H h => ?_
  refine h2 σ H _ ?_
  obtain ⟨β, env, mh, r, mh1, hr, hE, e1, q⟩ := asg_imp (X := X) (f := F) (t := .nm i) (te := tEx X.K F) h
  refine ⟨β, env, mh, r, mh1, hr, hE, e1, fun β1 v H1 p1 d1 => ?_⟩
  obtain ⟨β', env1, d, env', he1, hd, ha, q2⟩ := q β1 v H1 p1 d1
  rw [asgT] at ha
  cases ha
  exact q2 _ (he1.set i hd) fun vs hv => wipe_same (hv i (by rw [tgIx]; exact List.mem_singleton.mpr rfl))
theorem iop_addAll : OpR X (inplaceOp .Add) (fun x y H Q => rI0 (fun i j => .int (i + j)) x y H Q ∨ rAdds x y H Q) := iop_add.or iop_add_str
theorem oa_add {K : PySem.W.Frag} : OpVal K (fun mh => opA mh .add) (fun x y H Q => rI0 (fun i j => .int (i + j)) x y H Q ∨ rAdds x y H Q) := by
  intro H0 β mh H x y z v u Q hr dx dy e q
  dsimp only at e
  unfold opA at e
  split at e <;> first | contradiction | skip
  · rename_i i j _
    cases e
    exact .inl ⟨i, j, dx.int, dy.int, q _ _ (Po.refl hr) (Den.int _)⟩
  · rename_i i j _
    split at e
    · rename_i hz
      cases e
      exact .inr ⟨i, j, dx.str, dy.str, many_line hz, q _ _ (Po.refl hr) (Den.str _)⟩
    · cases e
theorem oa_sub {K : PySem.W.Frag} : OpVal K (fun mh => opA mh .sub) (rI0 fun i j => .int (i - j)) := by
  intro H0 β mh H x y z v u Q hr dx dy e q
  dsimp only at e
  unfold opA at e
  split at e <;> first | contradiction | skip
  rename_i i j _
  cases e
  exact ⟨i, j, dx.int, dy.int, q _ _ (Po.refl hr) (Den.int _)⟩
section
variable {re : Expr → Ex} (o : XOk X C c)
include o
theorem sound_setN {m : Nat} {x : Str} {px pos : Pos} {e : Expr} : PSX X (.Assign [.Name x px] e pos) (st C (trAsg (trE m c) c e (.Name x px))) := by
  rw [trAsg]
  by_cases h : (isLoc c x && isFun c) = true
  · rw [if_pos h]
    obtain ⟨h1, h2⟩ := Bool.and_eq_true_iff.mp h
    cases es : slotOf c.N x with
    | none => exact st_never _
    | some i =>
      have hi : X.N[i]? = some x := by rw [o.N]; exact slot_get es
      obtain ⟨l1, l2⟩ := o.loc h1
      have plain : isComp e = false → PSX X (.Assign [.Name x px] e pos) (st C (.asg (.nm i) (trE m c e))) := fun hc => PS_sub (s_set o.nd' hi l1 l2 (sound_E m c X o e).1 (comp_sw hc _ _ _)) fun env mh z h => by rw [st] at h; exact h
      cases e with
      | ListComp elt gens scope p =>
        show PSX X _ (st C (.asg (.nm i) (trE m c (.ListComp elt gens scope p))))
        have kf := o.fun_ h2
        have sw : swapsWith (.ListComp elt gens scope p) (some (.Name x px)) pos.line X.env = pure (X.env.blockKind == .function && X.env.kindOf x == some .local && px.line == p.line
      && !(scope.names.any fun (n, k) => n == x && (k == .local || k == .cell))) := rfl
        cases hb : (X.env.blockKind == .function && X.env.kindOf x == some .local && px.line == p.line && !(scope.names.any fun (n, k) => n == x && (k == .local || k == .cell))) with
        | false =>
          rw [hb] at sw
          exact PS_sub (s_set o.nd' hi l1 l2 (sound_E m c X o _).1 sw) fun env mh z h => by rw [st] at h; exact h
        | true =>
          rw [hb] at sw
          have hl : X.env.scope.names.lookup x = some .local := by
            rw [Bool.and_eq_true_iff, Bool.and_eq_true_iff, Bool.and_eq_true_iff] at hb
            exact eq_of_beq hb.1.1.2
          have lc : LcOk X (.ListComp elt gens scope p) (ex C (trE m c (.ListComp elt gens scope p))) := by
            cases m with
            | zero => exact lc_never _
            | succ m => exact sound_lc o (sound_E m) elt gens scope p
          exact PS_sub (s_setLc hi hl sw lc) fun env mh z h => by rw [st] at h; exact h
      | SetComp _ _ _ _ => exact st_never _
      | DictComp _ _ _ _ _ => exact st_never _
      | _ => exact plain rfl
  · rw [if_neg h]; exact st_never _
theorem sole_tup {ts : List Expr} {k : Nat} {p : Pos} (e : Expr) (l : Nat) : swapsWithSole [.Tuple ts k p] e l X.env = pure false := by
  show swapsWith e (some (.Tuple ts k p)) l X.env = pure false
  cases e <;> rfl
theorem sole_sub {ob i : Expr} {p : Pos} (e : Expr) (l : Nat) : swapsWithSole [.Subscript ob i p] e l X.env = pure false := by
  show swapsWith e (some (.Subscript ob i p)) l X.env = pure false
  cases e <;> rfl
theorem asg_sub {ob i : Expr} (h : isSlice i = false) (p : Pos) : ∀ v, assign (.Subscript ob i p) X.env v = (do
      let ov ← holding [v] (eval ob X.env)
      let iv ← holding [v, ov] (eval i X.env)
      standAt p
      holding [v, ov, iv] (setItem ov iv v)
      release [v, ov, iv] []) := by
  intro v
  cases i <;> first | rfl | cases h
theorem sound_tupA {ts : List Expr} {kt : Nat} {tp pos : Pos} {e : Expr} {m : Nat} (hw : swappedStores [.Tuple ts kt tp] e X.env = pure none) : PSX X (.Assign [.Tuple ts kt tp] e pos) (st C (match trTgs c 9 ts with
        | some t => .asg (.tup t) (trE m c e)
        | none => .never)) := by
  cases e1 : trTgs c 9 ts with
  | none => exact st_never _
  | some t =>
    obtain ⟨p, q1, q2, q3⟩ := sound_tgs o 9 ts t e1
    have g : PG X (.Tuple ts kt tp) (tTg X.K (.tup t)) := g_tup o.calm p q3.symm q1 q2
    exact PS_sub (s_asg (sound_E m c X o e).1 g (sole_tup o e _) hw rfl) fun env mh z h => by rw [st] at h; exact h
theorem es2 {m : Nat} {a b : Expr} (sa : noStar a = true) (sb : noStar b = true) : PA X [a, b] (tAs X.K (exs C [trE m c a, trE m c b])) := sound_es (sound_E m c X o) (es := [a, b]) (by simp [sa, sb])
theorem es3 {m : Nat} {a b d : Expr} (sa : noStar a = true) (sb : noStar b = true) (sd : noStar d = true) : PA X [a, b, d] (tAs X.K (exs C [trE m c a, trE m c b, trE m c d])) := sound_es (sound_E m c X o) (es := [a, b, d]) (by simp [sa, sb, sd])
theorem sound_asg {m : Nat} (tg e : Expr) (pos : Pos) : PSX X (.Assign [tg] e pos) (st C (trAsg (trE m c) c e tg)) := by
  cases tg with
  | Name x px => exact sound_setN o
  | Subscript ob i p =>
    rw [trAsg]
    by_cases h : isSlice i = true
    · rw [if_pos h]; exact st_never _
    · rw [if_neg h]
      exact PS_sub (s_seti (sound_E m c X o e).1 (sound_E m c X o ob).1 (sound_E m c X o i).1 (asg_sub o (Bool.eq_false_iff.mpr h) p) (sole_sub o e _) (sw_other (.inl rfl) (by intro _ _ z; cases z)) rfl) fun env mh z h => by rw [st] at h; exact h
  | Tuple ts kt tp =>
    by_cases ht : isTup e = true
    · obtain ⟨es, k2, p2, rfl⟩ := tup_form ht
      rw [trAsg]
      by_cases hn : (ts.any fun t => !isName t) = true
      · rw [if_pos hn]
        exact sound_tupA o (sw_none hn)
      · rw [if_neg hn]
        unfold trPar
        split
        · rename_i x px y py a b
          split
          · rename_i hh
            simp only [Bool.and_eq_true_iff, decide_eq_true_eq] at hh
            obtain ⟨⟨⟨⟨⟨⟨⟨⟨h1, h2⟩, h3⟩, h4⟩, h5⟩, h6⟩, h7⟩, h8⟩, h9⟩ := hh
            split
            · rename_i i j ei ej
              have lx := o.local_ h2
              have ly := o.local_ h3
              exact PS_sub (s_par2 o.calm o.nd' (by rw [o.N]; exact slot_get ei) (by rw [o.N]; exact slot_get ej) (slot_inj ei ej h5) lx ly (es2 o h6 h7) (sw2 (o.fun_ h1) lx ly h4 h5 h6 h7 (bnot h8) (bnot h9)) (sole_tup o _ _)) fun env mh z h => by rw [st] at h; exact h
            · exact st_never _
          · exact st_never _
        · rename_i x px y py z pz a b d
          split
          · rename_i hh
            simp only [Bool.and_eq_true_iff, decide_eq_true_eq] at hh
            obtain ⟨⟨⟨⟨⟨⟨⟨⟨⟨⟨⟨⟨⟨h1, h2⟩, h3⟩, h3z⟩, h4⟩, h4z⟩, h5⟩, h5a⟩, h5b⟩, h6⟩, h7⟩, h7d⟩, h8⟩, h9⟩ := hh
            split
            · rename_i i j l ei ej el
              have lx := o.local_ h2
              have ly := o.local_ h3
              have lz := o.local_ h3z
              exact PS_sub (s_par3 o.calm o.nd' (by rw [o.N]; exact slot_get ei) (by rw [o.N]; exact slot_get ej) (by rw [o.N]; exact slot_get el) (slot_inj ei ej h5) (slot_inj ei el h5a) (slot_inj ej el h5b) lx ly lz (es3 o h6 h7 h7d) (sw3 (o.fun_ h1) lx ly lz h4 h4z h5 h5a h5b h6 h7 h7d (bnot h8) (bnot h9)) (sole_tup o _ _)) fun env mh z h => by rw [st] at h; exact h
            · exact st_never _
          · exact st_never _
        · exact st_never _
    · have hw : swappedStores [.Tuple ts kt tp] e X.env = pure none := sw_other (.inr (Bool.eq_false_iff.mpr ht)) (by intro _ _ z; cases z)
      have z := sound_tupA (m := m) (pos := pos) o hw
      cases e <;> first | exact z | exact absurd rfl ht
  | _ => exact st_never _
end
end
end Ev
set_option Elab.async false
set_option linter.all false
set_option maxRecDepth 100000
set_option maxHeartbeats 1000000
/-! EvFun: blocks of statements; defs keep what the small language says. -/
namespace Ev
open PySem PySem.Spec PyProof.Rows L2
/-! ### letting go -/
section
variable {K : PySem.W.Frag} {β β' : List Addr} {mh mh' : MH} {H H' : Hp}
mutual
theorem low_den (hp : ∀ (n : Nat) (a : Addr), β[n]? = some a → β'[n]? = some a) : ∀ {d : D} {v : V}, Den K β' H' d v → low β.length d = true → Den K β H' d v
  | _, _, .non, _ => .non
  | _, _, .bl b, _ => .bl b
  | _, _, .int i, _ => .int i
  | _, _, .str x, _ => .str x
  | _, _, .tup h l, e => .tup h (low_denL hp l (by rw [low] at e; exact e))
  | _, _, .fz h l, e => .fz h (low_denL hp l (by rw [low] at e; exact e))
  | _, _, .ref (n := n) (a := a) h, e => by
    rw [low] at e
    have hn : n < β.length := by
      have := Nat.ble_eq.mp (show Nat.ble (n + 1) β.length = true from e)
      omega
    have e2 := hp n _ (List.getElem?_eq_getElem hn)
    rw [h] at e2
    refine .ref ?_
    rw [List.getElem?_eq_getElem hn, e2]
theorem low_denL (hp : ∀ (n : Nat) (a : Addr), β[n]? = some a → β'[n]? = some a) : ∀ {ds : List D} {vs : List V}, DenL K β' H' ds vs → lowL β.length ds = true → DenL K β H' ds vs
  | _, _, .nil, _ => .nil
  | _, _, .cons h l, e => by
    rw [lowL] at e
    obtain ⟨e1, e2⟩ := Bool.and_eq_true_iff.mp e
    exact .cons (low_den hp h e1) (low_denL hp l e2)
end
theorem lowM_at {n : Nat} : ∀ {m : MH} {i : Nat} {xs : List D}, lowM n m = true → m[i]? = some (.lst xs) → lowL n xs = true
  | [], _, _, _, e => by simp at e
  | .lst ys :: m, 0, xs, h, e => by
    rw [lowM] at h
    simp at e
    rw [← e]
    exact (Bool.and_eq_true_iff.mp h).1
  | .lst ys :: m, i + 1, xs, h, e => by
    rw [lowM] at h
    exact lowM_at (Bool.and_eq_true_iff.mp h).2 (by simpa using e)
theorem pre_len (hp : ∀ (n : Nat) (a : Addr), β[n]? = some a → β'[n]? = some a) : β.length ≤ β'.length := by
  by_cases h : β.length = 0
  · omega
  · have h1 : β.length - 1 < β.length := by omega
    have := (List.getElem?_eq_some_iff.mp (hp _ _ (List.getElem?_eq_getElem h1))).1
    omega
theorem Po.drop (p : Po K β H β' H' mh') (hr : HRel K β mh H) (hl : lowM mh.length (mh'.take mh.length) = true) : Po K β H β H' (mh'.take mh.length) where
  pre := fun _ _ e => e
  ext := p.ext
  frs := fun _ h => .inl h
  rel := {
    len := by
      have := pre_len p.pre
      have l1 := p.rel.len
      have l2 := hr.len
      rw [List.length_take]
      omega
    nd := hr.nd
    at_ := fun i o a e1 e2 => by
      rw [List.getElem?_take] at e1
      split at e1
      · rename_i hi
        have r := p.rel.at_ i o a e1 (p.pre i a e2)
        cases o with
        | lst xs =>
          obtain ⟨vs, h1, h2⟩ := r
          refine ⟨vs, h1, low_denL p.pre h2 ?_⟩
          rw [hr.len]
          exact lowM_at hl (i := i) (by rw [List.getElem?_take, if_pos hi]; exact e1)
      · cases e1 }
theorem tidy_ok (p : Po K β H β' H' mh') (hr : HRel K β mh H) {r z : R} {v : V} {g : Gc} {mh'' : MH} (d : DenR K H β' H' r v) (e : tidy g mh r mh' = some (z, mh'')) : ∃ β'', Po K β H β'' H' mh'' ∧ DenR K H β'' H' z v := by
  cases g with
  | keep =>
    rw [tidy] at e
    cases e
    exact ⟨β', p, d⟩
  | drop =>
    rw [tidy.eq_def] at e
    dsimp only at e
    split at e
    · rename_i hl
      have q := p.drop hr hl
      have hlen := hr.len
      have made : ∀ {a : Addr} {vs : List V} {ds : List D}, v = .ref a → H a = none → a ∉ β → H' a = some (.lst vs) → DenL K β' H' ds vs → lowL mh.length ds = true → DenR K H β H' (.l ds) v := fun {a vs ds} e1 e2 e3 e4 e5 e6 => ⟨a, vs, e1, e2, e3, e4, low_denL p.pre e5 (by rw [hlen]; exact e6)⟩
      have plain : ∀ {d : D}, Den K β' H' d v → (if low mh.length d = true then some (Ev.R.v d, mh'.take mh.length) else none) = some (z, mh'') → ∃ β'', Po K β H β'' H' mh'' ∧ DenR K H β'' H' z v := fun {d} hd e => by
        split at e
        · rename_i hz
          cases e
          exact ⟨β, q, low_den p.pre hd (by rw [hlen]; exact hz)⟩
        · cases e
      cases r with
      | l ds =>
        dsimp only at e
        split at e
        · rename_i hz
          cases e
          obtain ⟨a, vs, h1, h2, h3, h4, h5⟩ := d
          exact ⟨β, q, made h1 h2 (fun hm => by
            obtain ⟨i, ei⟩ := mem_get hm
            exact h3 (List.mem_of_getElem? (p.pre _ _ ei))) h4 h5 hz⟩
        · cases e
      | v d' =>
        have d0 : Den K β' H' d' v := d
        cases d' with
        | ref n =>
          dsimp only at e
          cases d0 with
          | @ref n a hn =>
            split at e
            · rename_i hz
              cases e
              exact ⟨β, q, low_den p.pre (Den.ref hn) (by rw [hlen, low]; exact hz)⟩
            · rename_i hz
              split at e
              · rename_i ds em
                split at e
                · rename_i hz2
                  cases e
                  have hn0 : β.length ≤ n := by
                    have : ¬ Nat.ble (n + 1) mh.length = true := hz
                    rw [Nat.ble_eq] at this
                    omega
                  have hnb : a ∉ β := fun hm => by
                    obtain ⟨i, ei⟩ := mem_get hm
                    have ei' := p.pre _ _ ei
                    obtain ⟨l1, q1⟩ := List.getElem?_eq_some_iff.mp ei'
                    obtain ⟨l2, q2⟩ := List.getElem?_eq_some_iff.mp hn
                    have hi := (List.getElem?_eq_some_iff.mp ei).1
                    have := (List.getElem_inj p.rel.nd).mp (q1.trans q2.symm)
                    omega
                  obtain ⟨vs, e1, e2⟩ := p.rel.at_ n _ a em hn
                  have hH : H a = none := (p.frs a (List.mem_of_getElem? hn)).resolve_left hnb
                  exact ⟨β, q, made rfl hH hnb e1 e2 hz2⟩
                · cases e
              · cases e
        | non => exact plain d0 e
        | bl b => exact plain d0 e
        | int i => exact plain d0 e
        | str x => exact plain d0 e
        | tup ds => exact plain d0 e
        | fz ds => exact plain d0 e
    · cases e
end
/-! ### statements -/
section
variable {X : Cx} {C : CallF} {c : Tc}
theorem sound_S1 {m : Nat} {rb : List Stmt → List St} (o : XOk X C c) (hp : PassesOwn (model X.prog X.w) X.A X.env X.xe) (ib : ∀ ss, PSsX X ss (sts C (rb ss))) (s : Stmt) : PSX X s (st C (trS1 (trE m c) rb c s)) := by
  have ie := sound_E (C := C) m c X o
  unfold trS1
  split
  · exact PS_sub s_pass fun env mh z h => by rw [st] at h; exact h
  · exact PS_sub s_brk fun env mh z h => by rw [st] at h; exact h
  · exact PS_sub s_cnt fun env mh z h => by rw [st] at h; exact h
  · exact PS_sub s_retN fun env mh z h => by rw [st] at h; exact h
  · exact PS_sub (s_ret (ie _).1) fun env mh z h => by rw [st] at h; exact h
  · rename_i e pos
    by_cases h : isComp e = true
    · rw [if_pos h]; exact st_never _
    · rw [if_neg h]
      exact PS_sub (s_expr (ie _).1 (comp_sw (Bool.eq_false_iff.mpr h) _ _ _)) fun env mh z h => by rw [st] at h; exact h
  · exact sound_asg o _ _ _
  · rename_i x px e pos
    by_cases h : isLoc c x = true
    · rw [if_pos h]
      cases es : slotOf c.N x with
      | none => exact st_never _
      | some i =>
        obtain ⟨l1, l2⟩ := o.loc h
        exact PS_sub (s_aug (o := .add) o.nd' (by rw [o.N]; exact slot_get es) l1 l2 (ie _).1 iop_addAll oa_add) fun env mh z h => by rw [st] at h; exact h
    · rw [if_neg h]; exact st_never _
  · rename_i x px e pos
    by_cases h : isLoc c x = true
    · rw [if_pos h]
      cases es : slotOf c.N x with
      | none => exact st_never _
      | some i =>
        obtain ⟨l1, l2⟩ := o.loc h
        exact PS_sub (s_aug (o := .sub) o.nd' (by rw [o.N]; exact slot_get es) l1 l2 (ie _).1 iop_sub oa_sub) fun env mh z h => by rw [st] at h; exact h
    · rw [if_neg h]; exact st_never _
  · exact PS_sub (s_ite (ie _).2 (ib _) (ib _)) fun env mh z h => by rw [st] at h; exact h
  · exact PS_sub (s_whl hp (ie _).2 (ib _)) fun env mh z h => by rw [st] at h; exact h
  · rename_i tg it b pos
    split
    · rename_i k es t e1 e2
      obtain ⟨p1, p2⟩ := sound_iter o ie tg it k es e1
      refine PS_sub (s_for hp o.calm p1 (sound_tg o 9 tg t e2) (ib b) (fold_ok p2 X.env)) fun env mh z h => ?_
      rw [st] at h
      unfold srcOf
      cases q1 : exr C es env mh with
      | none => rw [q1] at h; cases h
      | some q =>
        obtain ⟨rs, mh1⟩ := q
        rw [q1] at h
        dsimp only at h ⊢
        cases q2 : srcR mh1 k rs with
        | none => rw [q2] at h; cases h
        | some src => rw [q2] at h; exact h
    · exact st_never _
  · exact st_never _
theorem sound_Sl {f : Stmt → St} (h : ∀ s, PSX X s (st C (f s))) : ∀ ss : List Stmt, PSsX X ss (sts C (ss.map f))
  | [] => PSs_sub ss_nil fun env mh z h => by rw [List.map_nil, sts] at h; exact h
  | s :: ss => PSs_sub (ss_cons (h s) (sound_Sl h ss)) fun env mh z h => by rw [List.map_cons, sts] at h; exact h
theorem sound_Ss (o : XOk X C c) (hp : PassesOwn (model X.prog X.w) X.A X.env X.xe) : ∀ (n m : Nat) (ss : List Stmt), PSsX X ss (sts C (trSs n m c ss))
  | 0, m, ss => PSs_imp pss_never fun D σ H ⟨β, env, mh, fl, env', mh', hr, hE, hf, q⟩ => by
    rw [trSs, sts, st] at hf
    cases hf
  | n + 1, m, ss => by
    rw [trSs]
    exact sound_Sl (sound_S1 o hp (sound_Ss o hp n m)) ss
end
/-! ### defs -/
abbrev Kws := Nat → List Str → Option (List Nat)
def Row.tc (G : Str → Gk) (kw : Kws) (r : Row) : Tc := ⟨r.N, r.scope, fun _ => true, G, kw⟩
/-- it in the small language -/
def Row.fd (G : Str → Gk) (kw : Kws) (r : Row) : FD := ⟨r.ps.length, r.N.length, r.gc, trSs 12 30 (r.tc G kw) r.body⟩
/-- what must hold of each def, whatever the run -/
structure RowOk (r : Row) : Prop where
  sc : FnScope r.N r.ps r.scope
  bind : ∀ (kV doc pm : Value) (an : Option Addr) (cdv ct : Value) (us : List Value), us.length = r.ps.length → bindArgs (PySem.W.fnOf r.name r.name r.args r.body r.scope .none kV doc pm an cdv ct) ⟨us, []⟩ = pure (r.ps.zip us)
  kbind : ∀ p ∈ r.kw, r.ps ≠ [] ∧ ∀ (kV doc pm : Value) (an : Option Addr) (cdv ct : Value) (ws : List Value), ws.length = p.1.length → bindArgs (PySem.W.fnOf r.name r.name r.args r.body r.scope .none kV doc pm an cdv ct) ⟨[], p.1.zip ws⟩ = pure (r.ps.zip (permL p.2 ws))
/-- what must hold in the run -/
structure World1 (K : PySem.W.Frag) (mg : Str → Option Value) (G : Str → Gk) (kw : Kws) (rows : List Row) : Prop where
  defs : ∀ (i : Nat) (r : Row), rows[i]? = some r → RowOk r ∧ ∃ f fd, FunD K r.name r.name r.args r.body r.scope [] [] f fd ∧ mg r.at_ = some (.ref f)
  fn : ∀ (x : Str) (i n : Nat), G x = .fn i n → ∃ r : Row, rows[i]? = some r ∧ r.at_ = x ∧ r.ps.length = n
  kws : ∀ (i : Nat) (r : Row) (ks : List Str) (perm : List Nat), rows[i]? = some r → kw i ks = some perm → (ks, perm) ∈ r.kw
  cst : ∀ x d, G x = .cst d → ∃ v u, mg x = some u ∧ RelV v u ∧ ∀ β H, Den K β H d v
  free : ∀ x, G x = .free → mg x = none
theorem call_len' {T : Nat → Option FD} {k i : Nat} {ds : List D} {mh : MH} {z : R × MH} {fd : FD} (hT : T i = some fd) (h : call T k i ds mh = some z) : ds.length = fd.np := by
  cases k with
  | zero => rw [call] at h; cases h
  | succ k =>
    rw [call, hT] at h
    dsimp only at h
    split at h
    · rename_i e
      exact Nat.eq_of_beq_eq_true e
    · cases h
theorem env_start {K : PySem.W.Frag} {β : List Addr} {H : Hp} {ds : List D} {vs : List V} {N : List Str} {np : Nat} (l : DenL K β H ds vs) (hn : ds.length = np) : EnvRel K β H (ds.map some ++ List.replicate (N.length - np) none) (L2.start N vs) := by
  unfold L2.start
  refine ⟨by simp [hn, l.len.symm], fun i d e => ?_⟩
  by_cases hi : i < ds.length
  · rw [List.getElem?_append_left (by rw [List.length_map]; exact hi), List.getElem?_map] at e
    cases e1 : ds[i]? with
    | none => rw [e1] at e; cases e
    | some d' =>
      rw [e1] at e
      cases e
      obtain ⟨v, e2, e3⟩ := l.get e1
      refine ⟨v, ?_, e3⟩
      rw [List.getElem?_append_left (by rw [List.length_map, ← l.len]; exact hi), List.getElem?_map, e2]
      rfl
  · rw [List.getElem?_append_right (by rw [List.length_map]; omega), List.getElem?_replicate] at e
    split at e <;> cases e
theorem vals_perm {vs : List V} {us : List Value} (h : Vals vs us) : ∀ perm : List Nat, Vals (permL perm vs) (permL perm us)
  | [] => .nil
  | i :: perm => by
    unfold permL
    rw [List.filterMap_cons, List.filterMap_cons]
    cases e : vs[i]? with
    | none =>
      have e2 : us[i]? = none := by
        have := List.getElem?_eq_none_iff.mp e
        exact List.getElem?_eq_none_iff.mpr (by rw [← h.length]; exact this)
      rw [e2]
      exact vals_perm h perm
    | some v =>
      obtain ⟨u, e2, r⟩ := h.get e
      rw [e2]
      exact .cons r (vals_perm h perm)
theorem kb_of {K : PySem.W.Frag} {r : Row} {f : Addr} {fd : FuncData} {ks : List Str} {perm : List Nat} (F : FunD K r.name r.name r.args r.body r.scope [] [] f fd) (ro : RowOk r) (h : (ks, perm) ∈ r.kw) : KBinds K fd r.ps ks (fun us ws => gK ks.length perm us ws) (fun vs zs => gK ks.length perm vs zs) := by
  obtain ⟨h0, hb⟩ := ro.kbind _ h
  obtain ⟨oc, od, dV, kV, doc, pm, an, cdv, ct, osl, rfl, lk, hcd, hD, hK⟩ := F.ex
  refine ⟨fun s us ws X hl => ?_, fun {vs us zs ws} r1 r2 => ?_⟩
  · unfold gK at hl ⊢
    by_cases c : (us.isEmpty && Nat.beq ws.length ks.length) = true
    · rw [if_pos c] at hl ⊢
      obtain ⟨c1, c2⟩ := Bool.and_eq_true_iff.mp c
      have c1 : us = [] := List.isEmpty_iff.mp c1
      subst c1
      rcases hD with ⟨_, rfl⟩ | ⟨e, _⟩
      · exact .of_eq (hb kV doc pm an cdv ct ws (Nat.eq_of_beq_eq_true c2))
      · exact absurd rfl e
    · rw [if_neg c] at hl
      exact absurd (List.eq_nil_of_length_eq_zero hl.symm) h0
  · unfold gK
    have e1 : us.isEmpty = vs.isEmpty := by cases r1 <;> rfl
    have e2 : Nat.beq ws.length ks.length = Nat.beq zs.length ks.length := by rw [r2.length]
    rw [e1, e2]
    by_cases c : (vs.isEmpty && Nat.beq zs.length ks.length) = true
    · rw [if_pos c, if_pos c]
      exact vals_perm r2 perm
    · rw [if_neg c, if_neg c]
      exact .nil
theorem all_ok {P : Program} {w : World} {K : PySem.W.Frag} {mg : Str → Option Value} {base : Heap} {G : Str → Gk} {kw : Kws} {rows : List Row} {T : Nat → Option FD} (W : World1 K mg G kw rows) (hT : ∀ (i : Nat) (r : Row), rows[i]? = some r → T i = some (r.fd G kw)) : ∀ (k i : Nat) (r : Row), rows[i]? = some r → ∀ f fd, FunD K r.name r.name r.args r.body r.scope [] [] f fd →
    FnOk P w K mg base CX0 k f fd r.ps (SpC K (call T k) i r.ps.length)
  | 0, i, r, hi, f, fd, F => by
    refine ⟨fun vs H Q E h => h.1, fun A outer s H args us vs Q E hr e0 hb rv h => ?_⟩
    obtain ⟨_, β, mh, ds, z, mh', _, _, hc, _⟩ := h
    rw [call] at hc
    cases hc
  | k + 1, i, r, hi, f, fd, F => by
    obtain ⟨ro, f0, fd0, F0, m0⟩ := W.defs i r hi
    refine F.ok ro.sc (fun vs H Q E h => h.1) fun cdv A outer s H vs Q E hr h => ?_
    let X : Cx := cxOf CX0 P w K mg base r.N r.name r.scope f cdv A outer s H E
    have o : XOk X.nox (call T k) (r.tc G kw) := {
      N := rfl
      nd := ro.sc.nd
      sc := rfl
      fn := rfl
      calm := rfl
      units := hr.units
      ar := fun x j n e ds mh z hz => by
        obtain ⟨r2, h1, h2, h3⟩ := W.fn x j n e
        rw [call_len' (hT j r2 h1) hz, ← h3]
        rfl
      fns := fun x j n e => by
        obtain ⟨r2, h1, h2, h3⟩ := W.fn x j n e
        obtain ⟨ro2, f2, fd2, F2, m2⟩ := W.defs j r2 h1
        refine ⟨k, f2, fd2, r2.ps, ?_, hr, by rw [← h2]; exact m2, F2.kp, FunD.bindsN F2 ro2.bind, h3, fun ks perm e2 => kb_of F2 ro2 (W.kws j r2 ks perm h1 e2)⟩
        rw [← h3]
        exact all_ok W hT k j r2 h1 f2 fd2 F2
      cst := W.cst
      free := W.free }
    refine ⟨tSt K (sts (call T k) (trSs 12 30 (r.tc G kw) r.body)), PSs.nox (sound_Ss o PassesOwn.never 12 30 r.body), ?_⟩
    obtain ⟨hlen, β, mh, ds, z, mh', hrel, hd, hc, q⟩ := h
    rw [call, hT i r hi] at hc
    dsimp only at hc
    split at hc
    · rename_i hn
      have hn : ds.length = r.ps.length := Nat.eq_of_beq_eq_true hn
      have he : EnvRel K β H (ds.map some ++ List.replicate ((r.fd G kw).n - (r.fd G kw).np) none) (L2.start r.N vs) := env_start hd hn
      split at hc
      · rename_i r0 env' mh1 e1
        refine ⟨β, _, mh, .rt r0, env', mh1, hrel, he, e1, fun β1 v H1 p1 d1 => ?_⟩
        obtain ⟨β2, p2, d2⟩ := tidy_ok p1 hrel d1 hc
        exact q β2 v H1 p2 d2
      · rename_i env' mh1 e1
        refine ⟨β, _, mh, .nx, env', mh1, hrel, he, e1, fun β1 σ1 H1 p1 hE1 => ?_⟩
        obtain ⟨β2, p2, d2⟩ := tidy_ok (r := .v .non) (v := .non) p1 hrel Den.non hc
        exact q β2 .non H1 p2 d2
      · cases hc
    · cases hc
end Ev
set_option Elab.async false
set_option linter.all false
set_option maxRecDepth 100000
set_option maxHeartbeats 1000000
/-! EvHead: from what the head tells to the world of the small language. -/
namespace Ev
open PySem PySem.Spec PyProof.Rows L2
/-! ### constants -/
mutual
theorem dat_ok {K : PySem.W.Frag} : ∀ (d : D) (u : Value), datB K d u = true → ∃ v, RelV v u ∧ ∀ β H, Den K β H d v
  | .non, u, h => by cases u <;> first | exact ⟨.non, rfl, fun _ _ => .non⟩ | (simp [datB] at h)
  | .bl b, u, h => by
    cases u with
    | bool c =>
      rw [datB] at h
      obtain rfl := eq_of_beq h
      exact ⟨.bl b, rfl, fun _ _ => .bl b⟩
    | _ => simp [datB] at h
  | .int i, u, h => by
    cases u with
    | int j t =>
      rw [datB] at h
      obtain rfl := of_decide_eq_true h
      exact ⟨.int i, ⟨t, rfl⟩, fun _ _ => .int i⟩
    | _ => simp [datB] at h
  | .str x, u, h => by
    cases u with
    | str y t =>
      rw [datB] at h
      obtain rfl := of_decide_eq_true h
      exact ⟨.str x, ⟨t, rfl⟩, fun _ _ => .str x⟩
    | _ => simp [datB] at h
  | .tup ds, u, h => by
    cases u with
    | ref a =>
      rw [datB] at h
      cases e : K.lookup a with
      | none => rw [e] at h; cases h
      | some o =>
        rw [e] at h
        dsimp only at h
        obtain ⟨h1, h2⟩ := Bool.and_eq_true_iff.mp h
        cases e2 : o.data with
        | seq its n =>
          rw [e2] at h2
          dsimp only at h2
          obtain ⟨h3, h4⟩ := Bool.and_eq_true_iff.mp h2
          obtain ⟨vs, r, l⟩ := dats_ok ds its.toList h4
          exact ⟨.ref a, rfl, fun β H => .tup (.inr ⟨o, its, n, e, eq_of_beq h1, e2, Nat.ble_eq.mp h3, r⟩) (l β H)⟩
        | _ => rw [e2] at h2; cases h2
    | _ => simp [datB] at h
  | .fz _, u, h => by cases u <;> simp [datB] at h
  | .ref _, u, h => by cases u <;> simp [datB] at h
theorem dats_ok {K : PySem.W.Frag} : ∀ (ds : List D) (us : List Value), datBs K ds us = true → ∃ vs, Vals vs us ∧ ∀ β H, DenL K β H ds vs
  | [], us, h => by
    cases us with
    | nil => exact ⟨[], .nil, fun _ _ => .nil⟩
    | cons => simp [datBs] at h
  | d :: ds, us, h => by
    cases us with
    | nil => simp [datBs] at h
    | cons u us =>
      rw [datBs] at h
      obtain ⟨h1, h2⟩ := Bool.and_eq_true_iff.mp h
      obtain ⟨v, r, l⟩ := dat_ok d u h1
      obtain ⟨vs, rs, ls⟩ := dats_ok ds us h2
      exact ⟨v :: vs, .cons r rs, fun β H => .cons (l β H) (ls β H)⟩
end
/-! ### a law's defs -/
def ixOf : List Row → Str → Nat → Option (Nat × Nat)
  | [], _, _ => none
  | r :: rs, x, i => if r.at_ = x then some (i, r.ps.length) else ixOf rs x (i + 1)
def packG (rows : List Row) (cs : List (Str × D)) (fr : List Str) (x : Str) : Gk := match ixOf rows x 0 with
  | some (i, n) => .fn i n
  | none => match cs.find? fun p => decide (p.1 = x) with
    | some p => .cst p.2
    | none => if fr.any fun y => decide (y = x) then .free else .no
def packK (rows : List Row) : Kws := fun i ks => match rows[i]? with
  | some r => (r.kw.find? fun p => decide (p.1 = ks)).map (·.2)
  | none => none
theorem ix_of : ∀ (rows : List Row) (x : Str) (k i n : Nat), ixOf rows x k = some (i, n) → ∃ j r, i = k + j ∧ rows[j]? = some r ∧ r.at_ = x ∧ r.ps.length = n
  | [], x, k, i, n, h => by cases h
  | r :: rs, x, k, i, n, h => by
    rw [ixOf] at h
    split at h
    · rename_i e
      cases h
      exact ⟨0, r, rfl, rfl, e, rfl⟩
    · obtain ⟨j, r', h1, h2, h3, h4⟩ := ix_of rs x (k + 1) i n h
      exact ⟨j + 1, r', by omega, h2, h3, h4⟩
theorem world_of {rows : List Row} {cs : List (Str × D)} {fr : List Str} {w : World} {h : Heap} {K : PySem.W.Frag} {mg : Str → Option Value} (KX : K.In h) (N : h.Ns mainGlobals mg) (c : He.SaysX (packFa rows fr) (packFn rows) [] [] (csB cs) w h K) (ok : ∀ r ∈ rows, RowOk r) :
    World1 K mg (packG rows cs fr) (packK rows) rows where
  defs := fun i r e => by
    have hm := List.mem_of_getElem? e
    refine ⟨ok r hm, ?_⟩
    obtain ⟨fd, F⟩ := c.t.d.defs (d := ⟨(r.at_, none), r.name, r.name, r.args, r.body, r.scope, [], []⟩) (List.mem_map.mpr ⟨r, hm, rfl⟩)
    exact ⟨_, fd, F, He.glo_ok KX N (c.t.d.facts (f := .glo r.at_) (List.mem_append_left _ (List.mem_map.mpr ⟨r, hm, rfl⟩)))⟩
  fn := fun x i n e => by
    unfold packG at e
    split at e
    · rename_i i' n' e1
      cases e
      obtain ⟨j, r, h1, h2, h3, h4⟩ := ix_of rows x 0 i n e1
      exact ⟨r, by rw [h1, Nat.zero_add]; exact h2, h3, h4⟩
    · split at e
      · cases e
      · split at e <;> cases e
  kws := fun i r ks perm e1 e2 => by
    unfold packK at e2
    rw [e1] at e2
    obtain ⟨p, h1, h2⟩ := Option.map_eq_some_iff.mp e2
    have h3 : p.1 = ks := by have := List.find?_some h1; exact of_decide_eq_true this
    have h4 := List.mem_of_find?_eq_some h1
    rw [← h2, ← h3]
    exact h4
  cst := fun x d e => by
    unfold packG at e
    split at e
    · cases e
    · split at e
      · rename_i p h1
        cases e
        have h3 : p.1 = x := by have := List.find?_some h1; exact of_decide_eq_true this
        have h4 := List.mem_of_find?_eq_some h1
        have h5 := List.all_eq_true.mp c.more p h4
        split at h5
        · rename_i u e1
          obtain ⟨v, r, l⟩ := dat_ok p.2 u h5
          exact ⟨v, u, by rw [← h3]; exact PySem.W.mg_of KX N e1, r, l⟩
        · cases h5
      · split at e <;> cases e
  free := fun x e => by
    unfold packG at e
    split at e
    · cases e
    · split at e
      · cases e
      · split at e
        · rename_i h1
          obtain ⟨y, h2, h3⟩ := List.any_eq_true.mp h1
          have h3 : y = x := of_decide_eq_true h3
          subst h3
          exact He.free_ok KX N (c.t.d.facts (f := .free y) (List.mem_append_right _ (List.mem_map.mpr ⟨y, h2, rfl⟩)))
        · cases e
/-- the law's promise, from its run in the small language -/
theorem law_of {P : Program} {w : World} {K : PySem.W.Frag} {mg : Str → Option Value} {G : Str → Gk} {kw : Kws} {rows : List Row} {T : Nat → Option FD} (W : World1 K mg G kw rows) (hT : ∀ (i : Nat) (r : Row), rows[i]? = some r → T i = some (r.fd G kw)) {i k : Nat} {r : Row} (hi : rows[i]? = some r) (hps : r.ps = [("script" : Str)]) {fa : Addr} (hfa : mg r.at_ = some (.ref fa))
    (run : ∀ ns : List Int, ns.length ≤ 63 → ∃ mh, call T k i [.fz (ns.map D.int)] [] = some (.v (.bl true), mh)) :
    ∃ fd : FuncData, (∀ (s : Shared) (u : Value), BindsTo s fd ⟨[u], []⟩ [(("script" : Str), u)]) ∧ (∀ (H : Hp) (a : Addr) (ns : List Int), ns.length ≤ 63 → Only H → SqL K H a (ns.map V.int) → SpC K (call T k) i r.ps.length [.ref a] H (fun v _ => v = .bl true) fun _ _ _ => False) ∧
      ∀ base : Heap, FnOk P w K mg base CX0 k fa fd [("script" : Str)] (SpC K (call T k) i r.ps.length) := by
  obtain ⟨ro, f, fd, F, hf⟩ := W.defs i r hi
  rw [hfa] at hf
  cases hf
  refine ⟨fd, fun s u => ?_, fun H a ns hl hO hS => ⟨by rw [hps]; rfl, ?_⟩, fun base => ?_⟩
  · have b := FunD.bindsA F ro.bind s [u] (by rw [hps]; rfl)
    rw [hps] at b
    exact b
  · obtain ⟨mh, e⟩ := run ns hl
    have fz : FzL K H a (ns.map V.int) := by
      refine ⟨hS, ?_⟩
      rcases hS with (q | ⟨o, q⟩) | q
      · rcases hO a with z | ⟨o, xs, z⟩
        · rw [z] at q; cases q
        · rw [z] at q; cases q
      · exact .inl ⟨o, q⟩
      · exact .inr fun H' => .inr q
    have dints : ∀ ns : List Int, DenL K [] H (ns.map D.int) (ns.map V.int) := fun ns => by
      induction ns with
      | nil => exact .nil
      | cons n ns ih => exact .cons (.int n) ih
    refine ⟨[], [], [.fz (ns.map D.int)], _, mh, ⟨rfl, List.nodup_nil, fun n o a e => by simp at e⟩, .cons (.fz fz (dints ns)) .nil, e, fun β' v H' p d => ?_⟩
    exact d.bl
  · have z := all_ok (P := P) (w := w) (base := base) W hT k i r hi fa fd F
    rw [hps] at z ⊢
    exact z
end Ev
set_option Elab.async false
set_option linter.all false
set_option maxRecDepth 100000
set_option maxHeartbeats 1000000
/-! EvRun: loops as recursion on lists; calls. -/
namespace Ev
/-- the source gives these items, whatever the heap -/
def Stat (src : Src) (xs : List D) : Prop := ∀ mh i, nxt mh src i = some xs[i]?
theorem stat_st (xs : List D) : Stat (.st xs) xs := fun _ _ => rfl
theorem stat_rng (lo : Int) (n : Nat) : Stat (.rng lo n) ((List.range n).map fun i => .int (lo + (i : Nat))) := fun mh i => by
  rw [nxt, List.getElem?_map]
  by_cases h : i < n
  · rw [if_pos h, List.getElem?_range h]
    rfl
  · rw [if_neg h, List.getElem?_eq_none (by rw [List.length_range]; omega)]
    rfl
def loopL (body : D → Env → MH → Option (Fl × Env × MH)) : List D → Env → MH → Option (Fl × Env × MH)
  | [], env, mh => some (.nx, env, mh)
  | x :: xs, env, mh => match body x env mh with
    | some (.nx, env, mh) => loopL body xs env mh
    | some (.ct, env, mh) => loopL body xs env mh
    | some (.bk, env, mh) => some (.nx, env, mh)
    | some (.rt r, env, mh) => some (.rt r, env, mh)
    | none => none
def compL (f : D → MH → Option (Option D × MH)) : List D → MH → List D → Option (List D × MH)
  | [], mh, acc => some (acc, mh)
  | x :: xs, mh, acc => match f x mh with
    | some (some y, mh') => if acc.length < many then compL f xs mh' (acc ++ [y]) else none
    | some (none, mh') => compL f xs mh' acc
    | none => none
def compL2 (f : D → MH → List D → Option (List D × MH)) : List D → MH → List D → Option (List D × MH)
  | [], mh, acc => some (acc, mh)
  | x :: xs, mh, acc => match f x mh acc with
    | some (acc', mh') => compL2 f xs mh' acc'
    | none => none
theorem loop_stat {body : D → Env → MH → Option (Fl × Env × MH)} {src : Src} {xs : List D} (h : Stat src xs) : ∀ (ys : List D) (i F : Nat) (env : Env) (mh : MH), xs.drop i = ys → ys.length < F → loop body src F i env mh = loopL body ys env mh
  | [], i, F + 1, env, mh, e, _ => by
    have hi : xs[i]? = none := by
      rw [List.getElem?_eq_none_iff]
      have := congrArg List.length e
      rw [List.length_drop, List.length_nil] at this
      omega
    rw [loop, h mh i, hi, loopL]
  | y :: ys, i, F + 1, env, mh, e, hF => by
    have hi : xs[i]? = some y := by
      have := congrArg (fun l : List D => l[0]?) e
      simpa using this
    have e' : xs.drop (i + 1) = ys := by
      have := congrArg List.tail e
      simpa using this
    have hF' : ys.length < F := by
      rw [List.length_cons] at hF
      omega
    rw [loop, h mh i, hi, loopL]
    dsimp only
    cases body y env mh with
    | none => rfl
    | some r =>
      obtain ⟨fl, env', mh'⟩ := r
      cases fl with
      | nx => exact loop_stat h ys (i + 1) F env' mh' e' hF'
      | ct => exact loop_stat h ys (i + 1) F env' mh' e' hF'
      | bk => rfl
      | rt r => rfl
  | _, _, 0, _, _, _, hF => absurd hF (Nat.not_lt_zero _)
theorem comp_stat {f : D → MH → Option (Option D × MH)} {src : Src} {xs : List D} (h : Stat src xs) : ∀ (ys : List D) (i F : Nat) (mh : MH) (acc : List D), xs.drop i = ys → ys.length < F → compGo f src F i mh acc = compL f ys mh acc
  | [], i, F + 1, mh, acc, e, _ => by
    have hi : xs[i]? = none := by
      rw [List.getElem?_eq_none_iff]
      have := congrArg List.length e
      rw [List.length_drop, List.length_nil] at this
      omega
    rw [compGo, h mh i, hi, compL]
  | y :: ys, i, F + 1, mh, acc, e, hF => by
    have hi : xs[i]? = some y := by
      have := congrArg (fun l : List D => l[0]?) e
      simpa using this
    have e' : xs.drop (i + 1) = ys := by
      have := congrArg List.tail e
      simpa using this
    have hF' : ys.length < F := by
      rw [List.length_cons] at hF
      omega
    rw [compGo, h mh i, hi, compL]
    dsimp only
    cases f y mh with
    | none => rfl
    | some r =>
      obtain ⟨o, mh'⟩ := r
      cases o with
      | none => exact comp_stat h ys (i + 1) F mh' acc e' hF'
      | some z =>
        dsimp only
        rw [comp_stat h ys (i + 1) F mh' _ e' hF']
  | _, _, 0, _, _, _, hF => absurd hF (Nat.not_lt_zero _)
theorem comp2_stat {f : D → MH → List D → Option (List D × MH)} {src : Src} {xs : List D} (h : Stat src xs) : ∀ (ys : List D) (i F : Nat) (mh : MH) (acc : List D), xs.drop i = ys → ys.length < F → compGo2 f src F i mh acc = compL2 f ys mh acc
  | [], i, F + 1, mh, acc, e, _ => by
    have hi : xs[i]? = none := by
      rw [List.getElem?_eq_none_iff]
      have := congrArg List.length e
      rw [List.length_drop, List.length_nil] at this
      omega
    rw [compGo2, h mh i, hi, compL2]
  | y :: ys, i, F + 1, mh, acc, e, hF => by
    have hi : xs[i]? = some y := by
      have := congrArg (fun l : List D => l[0]?) e
      simpa using this
    have e' : xs.drop (i + 1) = ys := by
      have := congrArg List.tail e
      simpa using this
    have hF' : ys.length < F := by
      rw [List.length_cons] at hF
      omega
    rw [compGo2, h mh i, hi, compL2]
    dsimp only
    cases f y mh acc with
    | none => rfl
    | some r =>
      obtain ⟨acc', mh'⟩ := r
      exact comp2_stat h ys (i + 1) F mh' acc' e' hF'
  | _, _, 0, _, _, _, hF => absurd hF (Nat.not_lt_zero _)
/-- a comprehension whose turns leave the heap alone -/
theorem compL_map {f : D → MH → Option (Option D × MH)} {mh : MH} {o : D → Option D} : ∀ (xs acc : List D), (∀ x ∈ xs, f x mh = some (o x, mh)) → acc.length + xs.length ≤ many → compL f xs mh acc = some (acc ++ xs.filterMap o, mh)
  | [], acc, _, _ => by rw [compL, List.filterMap_nil, List.append_nil]
  | x :: xs, acc, h, hl => by
    rw [List.length_cons] at hl
    rw [compL, h x List.mem_cons_self, List.filterMap_cons]
    cases o x with
    | none => exact compL_map xs acc (fun y hy => h y (List.mem_cons_of_mem _ hy)) (by omega)
    | some y =>
      dsimp only
      rw [if_pos (by omega), compL_map xs (acc ++ [y]) (fun y hy => h y (List.mem_cons_of_mem _ hy)) (by rw [List.length_append, List.length_singleton]; omega), List.append_assoc]
      rfl
/-! ### calls -/
mutual
theorem low_mono {n m : Nat} (h : n ≤ m) : ∀ (d : D), low n d = true → low m d = true
  | .non, _ => rfl
  | .bl _, _ => rfl
  | .int _, _ => rfl
  | .str _, _ => rfl
  | .tup ds, e => by rw [low] at e ⊢; exact lowL_mono h ds e
  | .fz ds, e => by rw [low] at e ⊢; exact lowL_mono h ds e
  | .ref k, e => by
    rw [low] at e ⊢
    have : k + 1 ≤ n := Nat.ble_eq.mp e
    exact Nat.ble_eq.mpr (by omega)
theorem lowL_mono {n m : Nat} (h : n ≤ m) : ∀ (ds : List D), lowL n ds = true → lowL m ds = true
  | [], _ => rfl
  | d :: ds, e => by
    rw [lowL] at e ⊢
    obtain ⟨e1, e2⟩ := Bool.and_eq_true_iff.mp e
    rw [low_mono h d e1, lowL_mono h ds e2]
    rfl
end
/-- all references of the heap lie within -/
def Closed (mh : MH) : Prop := lowM mh.length mh = true
theorem closed_nil : Closed [] := rfl
/-- how a body ends, and the heap behind -/
def out : Option (Fl × Env × MH) → Option (Fl × MH)
  | some (f, _, mh) => some (f, mh)
  | none => none
theorem out_some {o : Option (Fl × Env × MH)} {f : Fl} {mh : MH} (h : out o = some (f, mh)) : ∃ env, o = some (f, env, mh) := by
  cases o with
  | none => cases h
  | some p =>
    obtain ⟨f', e, mh'⟩ := p
    cases h
    exact ⟨e, rfl⟩
/-- a call whose def gives data: the lists made within are let go -/
theorem call_data {T : Nat → Option FD} {k f : Nat} {fd : FD} {ds : List D} {mh : MH} {d : D} (hT : T f = some fd) (hn : ds.length = fd.np) (hg : fd.gc = .drop) (hm : Closed mh) (hd : low 0 d = true)
    (new : MH) (run : out (sts (call T k) fd.body (ds.map some ++ List.replicate (fd.n - fd.np) none) mh) = some (.rt (.v d), mh ++ new)) : call T (k + 1) f ds mh = some (.v d, mh) := by
  obtain ⟨env, e⟩ := out_some run
  rw [call, hT]
  dsimp only
  rw [if_pos (by rw [hn]; exact Nat.beq_refl _), e]
  dsimp only
  rw [hg, tidy.eq_def]
  dsimp only
  have t : (mh ++ new).take mh.length = mh := List.take_left
  rw [t, if_pos (show lowM mh.length mh = true from hm)]
  have hl := low_mono (Nat.zero_le mh.length) d hd
  cases d with
  | ref n => rw [low] at hd; cases hd
  | non => rfl
  | bl b => rfl
  | int i => rfl
  | str x => rfl
  | tup ds => dsimp only; rw [if_pos hl]
  | fz ds => dsimp only; rw [if_pos hl]
theorem call_non {T : Nat → Option FD} {k f : Nat} {fd : FD} {ds : List D} {mh : MH} (hT : T f = some fd) (hn : ds.length = fd.np) (hg : fd.gc = .drop) (hm : Closed mh)
    (new : MH) (run : out (sts (call T k) fd.body (ds.map some ++ List.replicate (fd.n - fd.np) none) mh) = some (.nx, mh ++ new)) : call T (k + 1) f ds mh = some (.v .non, mh) := by
  obtain ⟨env, e⟩ := out_some run
  rw [call, hT]
  dsimp only
  rw [if_pos (by rw [hn]; exact Nat.beq_refl _), e]
  dsimp only
  rw [hg, tidy.eq_def]
  dsimp only
  have t : (mh ++ new).take mh.length = mh := List.take_left
  rw [t, if_pos (show lowM mh.length mh = true from hm)]
  rfl
/-- .. a list -/
theorem call_list {T : Nat → Option FD} {k f : Nat} {fd : FD} {ds : List D} {mh : MH} {xs : List D} (hT : T f = some fd) (hn : ds.length = fd.np) (hg : fd.gc = .drop) (hm : Closed mh) (hd : lowL 0 xs = true)
    (new : MH) (r : R) (h : r = .l xs ∨ ∃ n, r = .v (.ref n) ∧ mh.length ≤ n ∧ (mh ++ new)[n]? = some (.lst xs)) (run : out (sts (call T k) fd.body (ds.map some ++ List.replicate (fd.n - fd.np) none) mh) = some (.rt r, mh ++ new)) : call T (k + 1) f ds mh = some (.l xs, mh) := by
  obtain ⟨env, e⟩ := out_some run
  rw [call, hT]
  dsimp only
  rw [if_pos (by rw [hn]; exact Nat.beq_refl _), e]
  dsimp only
  rw [hg, tidy.eq_def]
  dsimp only
  have t : (mh ++ new).take mh.length = mh := List.take_left
  have hl := lowL_mono (Nat.zero_le mh.length) xs hd
  rw [t, if_pos (show lowM mh.length mh = true from hm)]
  rcases h with rfl | ⟨n, rfl, h1, h2⟩
  · dsimp only
    rw [if_pos hl]
  · dsimp only
    rw [if_neg (fun z => by have : n + 1 ≤ mh.length := Nat.ble_eq.mp z; omega), h2]
    dsimp only
    rw [if_pos hl]
/-- a comprehension over what stays, whose turns leave the heap alone -/
theorem comp_pure {f : D → MH → Option (Option D × MH)} {src : Src} {xs : List D} {mh : MH} (o : D → Option D) (hs : Stat src xs) (ht : turns mh src = xs.length + 1) (hl : xs.length ≤ many) (h : ∀ x ∈ xs, f x mh = some (o x, mh)) :
    compGo f src (turns mh src) 0 mh [] = some (xs.filterMap o, mh) := by
  rw [comp_stat hs xs 0 _ mh [] rfl (by rw [ht]; exact Nat.lt_succ_self _), compL_map xs [] h (by rw [List.length_nil, Nat.zero_add]; exact hl), List.nil_append]
theorem loop_run {body : D → Env → MH → Option (Fl × Env × MH)} {src : Src} {xs : List D} {env : Env} {mh : MH} (hs : Stat src xs) (ht : turns mh src = xs.length + 1) : loop body src (turns mh src) 0 env mh = loopL body xs env mh := loop_stat hs xs 0 _ env mh rfl (by rw [ht]; exact Nat.lt_succ_self _)
end Ev
set_option Elab.async false
set_option linter.all false
set_option maxRecDepth 100000
set_option maxHeartbeats 1000000
/-! EvRun2: comprehensions by rules (all parts open). -/
namespace Ev
/-- a turn of a comprehension -/
def cturn (C : CallF) (elt : Ex) (t : Tg) (c : Option Ex) (own : List Nat) (env : Env) : D → MH → Option (Option D × MH) := fun x mh => match asgT t x (wipeE env own) with
  | some env => match exc C c env mh with
    | some (true, mh) => (ex C elt env mh).map fun r => match box r.1 r.2 with | (d, mh) => (some d, mh)
    | some (false, mh) => some (none, mh)
    | none => none
  | none => none
theorem ex_comp {C : CallF} {elt : Ex} {t : Tg} {k : Kd} {es : List Ex} {c : Option Ex} {own : List Nat} {env : Env} {mh mh1 mh2 : MH} {rs : List R} {src : Src} {o : List D}
    (h1 : exr C es env mh = some (rs, mh1)) (h2 : srcR mh1 k rs = some src) (h3 : compGo (cturn C elt t c own env) src (turns mh1 src) 0 mh1 [] = some (o, mh2)) : ex C (.comp elt t k es c own) env mh = some (.l o, mh2) := by
  rw [ex, h1]
  show (match srcR mh1 k rs with
    | some src => (compGo (cturn C elt t c own env) src (turns mh1 src) 0 mh1 []).map fun r : List D × MH => (R.l r.1, r.2)
    | none => none) = _
  rw [h2]
  show (compGo (cturn C elt t c own env) src (turns mh1 src) 0 mh1 []).map (fun r : List D × MH => (R.l r.1, r.2)) = _
  rw [h3]
  rfl
theorem cturn_some {C : CallF} {elt : Ex} {t : Tg} {c : Option Ex} {own : List Nat} {env env' : Env} {x : D} {mh mh1 mh2 : MH} {r : R} (h1 : asgT t x (wipeE env own) = some env') (h2 : exc C c env' mh = some (true, mh1)) (h3 : ex C elt env' mh1 = some (r, mh2)) :
    cturn C elt t c own env x mh = some (some (box r mh2).1, (box r mh2).2) := by
  unfold cturn
  rw [h1]
  dsimp only
  rw [h2]
  dsimp only
  rw [h3]
  rfl
theorem cturn_none {C : CallF} {elt : Ex} {t : Tg} {c : Option Ex} {own : List Nat} {env env' : Env} {x : D} {mh mh1 : MH} (h1 : asgT t x (wipeE env own) = some env') (h2 : exc C c env' mh = some (false, mh1)) :
    cturn C elt t c own env x mh = some (none, mh1) := by
  unfold cturn
  rw [h1]
  dsimp only
  rw [h2]
def cturn2 (C : CallF) (elt : Ex) (t : Tg) (c : Option Ex) (t1 : Tg) (k1 : Kd) (es1 : List Ex) (c1 : Option Ex) (own own1 : List Nat) (env : Env) : D → MH → List D → Option (List D × MH) := fun x mh acc => match asgT t x (wipeE env own) with
  | some env => match exc C c env mh with
    | some (true, mh) => match exr C es1 env mh with
      | some (rs, mh) => match srcR mh k1 rs with
        | some src1 => compGo (cturn C elt t1 c1 own1 env) src1 (turns mh src1) 0 mh acc
        | none => none
      | none => none
    | some (false, mh) => some (acc, mh)
    | none => none
  | none => none
theorem ex_comp2 {C : CallF} {elt : Ex} {t t1 : Tg} {k k1 : Kd} {es es1 : List Ex} {c c1 : Option Ex} {own own1 : List Nat} {env : Env} {mh mh1 mh2 : MH} {rs : List R} {src : Src} {o : List D}
    (h1 : exr C es env mh = some (rs, mh1)) (h2 : srcR mh1 k rs = some src) (h3 : compGo2 (cturn2 C elt t c t1 k1 es1 c1 own own1 env) src (turns mh1 src) 0 mh1 [] = some (o, mh2)) : ex C (.comp2 elt t k es c t1 k1 es1 c1 own own1) env mh = some (.l o, mh2) := by
  rw [ex, h1]
  show (match srcR mh1 k rs with
    | some src => (compGo2 (cturn2 C elt t c t1 k1 es1 c1 own own1 env) src (turns mh1 src) 0 mh1 []).map fun r : List D × MH => (R.l r.1, r.2)
    | none => none) = _
  rw [h2]
  show (compGo2 (cturn2 C elt t c t1 k1 es1 c1 own own1 env) src (turns mh1 src) 0 mh1 []).map (fun r : List D × MH => (R.l r.1, r.2)) = _
  rw [h3]
  rfl
theorem cturn2_go {C : CallF} {elt : Ex} {t t1 : Tg} {k1 : Kd} {es1 : List Ex} {c c1 : Option Ex} {own own1 : List Nat} {env env' : Env} {x : D} {acc o : List D} {mh mh1 mh2 mh3 : MH} {rs : List R} {src : Src} (h1 : asgT t x (wipeE env own) = some env') (h2 : exc C c env' mh = some (true, mh1)) (h3 : exr C es1 env' mh1 = some (rs, mh2)) (h4 : srcR mh2 k1 rs = some src) (h5 : compGo (cturn C elt t1 c1 own1 env') src (turns mh2 src) 0 mh2 acc = some (o, mh3)) :
    cturn2 C elt t c t1 k1 es1 c1 own own1 env x mh acc = some (o, mh3) := by
  unfold cturn2
  rw [h1]
  dsimp only
  rw [h2]
  dsimp only
  rw [h3]
  dsimp only
  rw [h4]
  exact h5
/-- an assignment -/
theorem st_asg {C : CallF} {i : Nat} {e : Ex} {env : Env} {mh mh1 : MH} {r : R} (h : ex C e env mh = some (r, mh1)) : st C (.asg (.nm i) e) env mh = some (.nx, env.set i (some (box r mh1).1), (box r mh1).2) := by
  rw [st, h]
  rfl
theorem st_ret {C : CallF} {e : Ex} {env : Env} {mh mh1 : MH} {r : R} (h : ex C e env mh = some (r, mh1)) : st C (.ret e) env mh = some (.rt r, env, mh1) := by
  rw [st, h]
theorem st_expr {C : CallF} {e : Ex} {env : Env} {mh mh1 : MH} {r : R} (h : ex C e env mh = some (r, mh1)) : st C (.expr e) env mh = some (.nx, env, mh1) := by
  rw [st, h]
theorem st_if {C : CallF} {c : Ex} {a b : List St} {env : Env} {mh mh1 : MH} {x : R} {t : Bool} (h : ex C c env mh = some (x, mh1)) (h2 : truth mh1 x = some t) : st C (.ite c a b) env mh = if t then sts C a env mh1 else sts C b env mh1 := by
  rw [st, h]
  dsimp only
  rw [h2]
  cases t <;> rfl
theorem st_ifB {C : CallF} {c : Ex} {a b : List St} {env : Env} {mh mh1 : MH} {t : Bool} (h : ex C c env mh = some (.v (.bl t), mh1)) : st C (.ite c a b) env mh = if t then sts C a env mh1 else sts C b env mh1 := st_if h rfl
theorem sts_nx {C : CallF} {s : St} {b : List St} {env env' : Env} {mh mh' : MH} (h : st C s env mh = some (.nx, env', mh')) : sts C (s :: b) env mh = sts C b env' mh' := by
  rw [sts, h]
theorem sts_rt {C : CallF} {s : St} {b : List St} {env env' : Env} {mh mh' : MH} {r : R} (h : st C s env mh = some (.rt r, env', mh')) : sts C (s :: b) env mh = some (.rt r, env', mh') := by
  rw [sts, h]
theorem sts_nil {C : CallF} {env : Env} {mh : MH} : sts C [] env mh = some (.nx, env, mh) := by rw [sts]
theorem out_rt {f : Fl} {env : Env} {mh : MH} : out (some (f, env, mh)) = some (f, mh) := rfl
theorem ex_call {C : CallF} {f : Nat} {es : List Ex} {env : Env} {mh mh1 mh2 : MH} {ds : List D} {r : R} (h : exs C es env mh = some (ds, mh1)) (h2 : C f ds mh1 = some (r, mh2)) : ex C (.call f es []) env mh = some (r, mh2) := by
  rw [ex, h]
  exact h2
theorem ex_callp {C : CallF} {f : Nat} {es : List Ex} {perm : List Nat} {env : Env} {mh mh1 mh2 : MH} {ds ds' : List D} {r : R} (h : exs C es env mh = some (ds, mh1)) (hp : permute perm ds = some ds') (h2 : C f ds' mh1 = some (r, mh2)) : ex C (.call f es perm) env mh = some (r, mh2) := by
  rw [ex, h]
  dsimp only
  rw [hp]
  exact h2
theorem ex_cmp {C : CallF} {o : Cm} {a b : Ex} {env : Env} {mh mh1 mh2 : MH} {x y : R} {t : Bool} (h : ex C a env mh = some (x, mh1)) (h2 : ex C b env mh1 = some (y, mh2)) (h3 : cmR mh2 o x y = some t) : ex C (.cmp o a b) env mh = some (.v (.bl t), mh2) := by
  rw [ex, h]
  dsimp only
  rw [h2]
  dsimp only
  rw [h3]
  rfl
theorem ex_op {C : CallF} {o : Op} {a b : Ex} {env : Env} {mh mh1 mh2 : MH} {x y r : R} (h : ex C a env mh = some (x, mh1)) (h2 : ex C b env mh1 = some (y, mh2)) (h3 : opR mh2 o x y = some r) : ex C (.op o a b) env mh = some (r, mh2) := by
  rw [ex, h]
  dsimp only
  rw [h2]
  dsimp only
  rw [h3]
  rfl
theorem ex_and {C : CallF} {a b : Ex} {env : Env} {mh mh1 : MH} {x : R} {t : Bool} (h : ex C a env mh = some (x, mh1)) (h2 : truth mh1 x = some t) : ex C (.and_ a b) env mh = if t then ex C b env mh1 else some (x, mh1) := by
  rw [ex, h]
  dsimp only
  rw [h2]
  cases t <;> rfl
theorem ex_or {C : CallF} {a b : Ex} {env : Env} {mh mh1 : MH} {x : R} {t : Bool} (h : ex C a env mh = some (x, mh1)) (h2 : truth mh1 x = some t) : ex C (.or_ a b) env mh = if t then some (x, mh1) else ex C b env mh1 := by
  rw [ex, h]
  dsimp only
  rw [h2]
  cases t <;> rfl
theorem ex_not {C : CallF} {a : Ex} {env : Env} {mh mh1 : MH} {x : R} {t : Bool} (h : ex C a env mh = some (x, mh1)) (h2 : truth mh1 x = some t) : ex C (.not_ a) env mh = some (.v (.bl (!t)), mh1) := by
  rw [ex, h]
  dsimp only
  rw [h2]
  rfl
theorem ex_ite {C : CallF} {c a b : Ex} {env : Env} {mh mh1 : MH} {x : R} {t : Bool} (h : ex C c env mh = some (x, mh1)) (h2 : truth mh1 x = some t) : ex C (.ite c a b) env mh = if t then ex C a env mh1 else ex C b env mh1 := by
  rw [ex, h]
  dsimp only
  rw [h2]
  cases t <;> rfl
theorem ex_blt {C : CallF} {b : Bl} {es : List Ex} {env : Env} {mh mh1 : MH} {rs : List R} {r : R} (h : exr C es env mh = some (rs, mh1)) (h2 : bltR mh1 b rs = some r) : ex C (.blt b es) env mh = some (r, mh1) := by
  rw [ex, h]
  dsimp only
  rw [h2]
  rfl
theorem ex_var {C : CallF} {i : Nat} {env : Env} {mh : MH} {d : D} (h : env[i]? = some (some d)) : ex C (.var i) env mh = some (.v d, mh) := by
  rw [ex, h]
theorem ex_cst {C : CallF} {d : D} {env : Env} {mh : MH} : ex C (.cst d) env mh = some (.v d, mh) := by rw [ex]
theorem exs_nil {C : CallF} {env : Env} {mh : MH} : exs C [] env mh = some ([], mh) := by rw [exs]
theorem exs_v {C : CallF} {e : Ex} {es : List Ex} {env : Env} {mh mh1 mh2 : MH} {d : D} {ds : List D} (h : ex C e env mh = some (.v d, mh1)) (h2 : exs C es env mh1 = some (ds, mh2)) : exs C (e :: es) env mh = some (d :: ds, mh2) := by
  rw [exs, h]
  dsimp only [box]
  rw [h2]
theorem exr_nil {C : CallF} {env : Env} {mh : MH} : exr C [] env mh = some ([], mh) := by rw [exr]
theorem exr_v {C : CallF} {e : Ex} {es : List Ex} {env : Env} {mh mh1 mh2 : MH} {d : R} {ds : List R} (h : ex C e env mh = some (d, mh1)) (h2 : exr C es env mh1 = some (ds, mh2)) : exr C (e :: es) env mh = some (d :: ds, mh2) := by
  rw [exr, h]
  dsimp only
  rw [h2]
end Ev
set_option Elab.async false
set_option linter.all false
set_option maxRecDepth 100000
/-! PlO: ordinals as trees: order, sums. -/
namespace Pl
/-- z: (); c h t: (h,) + t -/
inductive O where
  | z
  | c (h t : O)
  deriving DecidableEq
namespace O
def cmp : O → O → Ordering
  | z, z => .eq
  | z, c _ _ => .lt
  | c _ _, z => .gt
  | c h t, c h' t' => match cmp h h' with
    | .eq => cmp t t'
    | r => r
instance : LT O := ⟨fun a b => cmp a b = .lt⟩
instance : LE O := ⟨fun a b => ¬ cmp b a = .lt⟩
theorem lt_def {a b : O} : (a < b) = (cmp a b = .lt) := rfl
theorem le_def {a b : O} : (a ≤ b) = ¬ (b < a) := rfl
instance (a b : O) : Decidable (a < b) := inferInstanceAs (Decidable (cmp a b = .lt))
instance (a b : O) : Decidable (a ≤ b) := inferInstanceAs (Decidable (¬ cmp b a = .lt))
theorem cmp_self : ∀ a : O, cmp a a = .eq
  | z => rfl
  | c h t => by rw [cmp, cmp_self h]; exact cmp_self t
theorem cmp_eq : ∀ {a b : O}, cmp a b = .eq → a = b
  | z, z, _ => rfl
  | z, c _ _, e => by cases e
  | c _ _, z, e => by cases e
  | c h t, c h' t', e => by
    rw [cmp] at e
    cases q : cmp h h' with
    | eq => rw [q] at e; rw [cmp_eq q, cmp_eq e]
    | lt => rw [q] at e; cases e
    | gt => rw [q] at e; cases e
theorem cmp_swap : ∀ a b : O, cmp b a = (cmp a b).swap
  | z, z => rfl
  | z, c _ _ => rfl
  | c _ _, z => rfl
  | c h t, c h' t' => by
    rw [cmp, cmp, cmp_swap h h']
    cases cmp h h' with
    | eq => exact cmp_swap t t'
    | lt => rfl
    | gt => rfl
theorem lt_irrefl (a : O) : ¬ a < a := fun h => by rw [lt_def, cmp_self] at h; cases h
theorem lt_asymm {a b : O} (h : a < b) : ¬ b < a := fun k => by
  rw [lt_def] at h k
  rw [cmp_swap a b, h] at k
  cases k
theorem tri (a b : O) : a < b ∨ a = b ∨ b < a := by
  cases q : cmp a b with
  | lt => exact .inl q
  | eq => exact .inr (.inl (cmp_eq q))
  | gt => exact .inr (.inr (by rw [lt_def, cmp_swap a b, q]; rfl))
theorem lt_cc {h t h' t' : O} : c h t < c h' t' ↔ h < h' ∨ (h = h' ∧ t < t') := by
  rw [lt_def, lt_def, lt_def, cmp]
  cases q : cmp h h' with
  | lt => exact ⟨fun _ => .inl rfl, fun _ => rfl⟩
  | eq =>
    obtain rfl := cmp_eq q
    exact ⟨fun e => .inr ⟨rfl, e⟩, fun e => by
      rcases e with e | e
      · cases e
      · exact e.2⟩
  | gt =>
    refine ⟨fun e => (by cases e), fun e => ?_⟩
    rcases e with e | ⟨rfl, _⟩
    · cases e
    · rw [cmp_self] at q; cases q
theorem z_lt (h t : O) : z < c h t := rfl
theorem not_lt_z (a : O) : ¬ a < z := fun e => by cases a <;> cases e
theorem lt_trans : ∀ {a b d : O}, a < b → b < d → a < d
  | z, c _ _, c _ _, _, _ => rfl
  | z, c _ _, z, _, k => absurd k (not_lt_z _)
  | _, z, _, h, _ => absurd h (not_lt_z _)
  | c _ _, c _ _, z, _, k => absurd k (not_lt_z _)
  | c h t, c h' t', c h2 t2, e, k => by
    rw [lt_cc] at e k ⊢
    rcases e with e | ⟨rfl, e⟩
    · rcases k with k | ⟨rfl, k⟩
      · exact .inl (lt_trans e k)
      · exact .inl e
    · rcases k with k | ⟨rfl, k⟩
      · exact .inl k
      · exact .inr ⟨rfl, lt_trans e k⟩
theorem le_refl (a : O) : a ≤ a := lt_irrefl a
theorem le_of_lt {a b : O} (h : a < b) : a ≤ b := lt_asymm h
theorem not_lt {a b : O} : ¬ a < b ↔ b ≤ a := Iff.rfl
theorem le_iff {a b : O} : a ≤ b ↔ a < b ∨ a = b := by
  constructor
  · intro h
    rcases tri a b with e | e | e
    · exact .inl e
    · exact .inr e
    · exact absurd e h
  · rintro (h | rfl)
    · exact le_of_lt h
    · exact le_refl a
theorem lt_of_lt_of_le {a b d : O} (h : a < b) (k : b ≤ d) : a < d := by
  rcases le_iff.mp k with k | rfl
  · exact lt_trans h k
  · exact h
theorem lt_of_le_of_lt {a b d : O} (h : a ≤ b) (k : b < d) : a < d := by
  rcases le_iff.mp h with h | rfl
  · exact lt_trans h k
  · exact k
theorem le_trans {a b d : O} (h : a ≤ b) (k : b ≤ d) : a ≤ d := by
  rcases le_iff.mp h with h | rfl
  · exact le_of_lt (lt_of_lt_of_le h k)
  · exact k
theorem le_antisymm {a b : O} (h : a ≤ b) (k : b ≤ a) : a = b := by
  rcases tri a b with e | e | e
  · exact absurd e k
  · exact e
  · exact absurd e h
theorem z_le (a : O) : z ≤ a := not_lt_z a
/-! ### lists of items -/
def els : O → List O
  | z => []
  | c h t => h :: els t
def app : O → O → O
  | z, y => y
  | c h t, y => c h (app t y)
theorem app_z : ∀ x : O, app x z = x
  | z => rfl
  | c h t => by rw [app, app_z t]
theorem app_assoc : ∀ x y w : O, app (app x y) w = app x (app y w)
  | z, _, _ => rfl
  | c h t, y, w => by rw [app, app, app, app_assoc t]
theorem els_app : ∀ x y : O, els (app x y) = els x ++ els y
  | z, _ => rfl
  | c h t, y => by rw [app, els, els, els_app t y]; rfl
theorem els_inj : ∀ {x y : O}, els x = els y → x = y
  | z, z, _ => rfl
  | z, c _ _, e => by cases e
  | c _ _, z, e => by cases e
  | c h t, c h' t', e => by
    rw [els, els] at e
    injection e with e1 e2
    rw [e1, els_inj e2]
theorem app_lt : ∀ (p : O) {a b : O}, app p a < app p b ↔ a < b
  | z, _, _ => Iff.rfl
  | c h t, a, b => by
    rw [app, app, lt_cc]
    constructor
    · rintro (e | ⟨_, e⟩)
      · exact absurd e (lt_irrefl h)
      · exact (app_lt t).mp e
    · exact fun e => .inr ⟨rfl, (app_lt t).mpr e⟩
/-- the items that are not below b -/
def filt (b : O) : O → O
  | z => z
  | c h t => if h < b then filt b t else c h (filt b t)
theorem filt_app (b : O) : ∀ x y : O, filt b (app x y) = app (filt b x) (filt b y)
  | z, _ => rfl
  | c h t, y => by
    rw [app, filt, filt, filt_app b t y]
    split <;> rfl
theorem mem_filt {b e : O} : ∀ {x : O}, e ∈ els (filt b x) ↔ e ∈ els x ∧ b ≤ e
  | z => by simp [filt, els]
  | c h t => by
    rw [filt]
    split
    · rename_i q
      rw [mem_filt, els, List.mem_cons]
      constructor
      · exact fun ⟨h1, h2⟩ => ⟨.inr h1, h2⟩
      · rintro ⟨rfl | h1, h2⟩
        · exact absurd q h2
        · exact ⟨h1, h2⟩
    · rename_i q
      rw [els, els, List.mem_cons, List.mem_cons, mem_filt]
      constructor
      · rintro (rfl | ⟨h1, h2⟩)
        · exact ⟨.inl rfl, q⟩
        · exact ⟨.inr h1, h2⟩
      · rintro ⟨rfl | h1, h2⟩
        · exact .inl rfl
        · exact .inr ⟨h1, h2⟩
theorem filt_none {b : O} : ∀ {x : O}, (∀ e ∈ els x, e < b) → filt b x = z
  | z, _ => rfl
  | c h t, k => by
    rw [filt, if_pos (k h (by rw [els]; exact List.mem_cons_self))]
    exact filt_none fun e he => k e (by rw [els]; exact List.mem_cons_of_mem _ he)
theorem filt_all {b : O} : ∀ {x : O}, (∀ e ∈ els x, b ≤ e) → filt b x = x
  | z, _ => rfl
  | c h t, k => by
    rw [filt, if_neg (show ¬ h < b from k h (by rw [els]; exact List.mem_cons_self)), filt_all fun e he => k e (by rw [els]; exact List.mem_cons_of_mem _ he)]
theorem filt_filt {b d : O} (h : b ≤ d) : ∀ x : O, filt d (filt b x) = filt d x
  | z => rfl
  | c e t => by
    rw [filt]
    by_cases q : e < b
    · rw [if_pos q, filt_filt h t, filt, if_pos (lt_of_lt_of_le q h)]
    · rw [if_neg q, filt, filt, filt_filt h t]
/-- items from the greatest down -/
def Desc (x : O) : Prop := (els x).Pairwise fun a b => b ≤ a
theorem desc_z : Desc z := List.Pairwise.nil
theorem desc_c {h t : O} : Desc (c h t) ↔ (∀ e ∈ els t, e ≤ h) ∧ Desc t := List.pairwise_cons
theorem desc_filt {b : O} : ∀ {x : O}, Desc x → Desc (filt b x)
  | z, _ => desc_z
  | c h t, k => by
    obtain ⟨k1, k2⟩ := desc_c.mp k
    rw [filt]
    split
    · exact desc_filt k2
    · exact desc_c.mpr ⟨fun e he => k1 e (mem_filt.mp he).1, desc_filt k2⟩
theorem desc_app {x y : O} : Desc (app x y) ↔ Desc x ∧ Desc y ∧ ∀ a ∈ els x, ∀ b ∈ els y, b ≤ a := by
  unfold Desc
  rw [els_app, List.pairwise_append]
/-- the rest behind the items that are not below b -/
theorem filt_split {b : O} : ∀ {x : O}, Desc x → ∃ r, x = app (filt b x) r ∧ (∀ e ∈ els r, e < b) ∧ Desc r
  | z, _ => ⟨z, rfl, (fun e he => by cases he), desc_z⟩
  | c h t, k => by
    obtain ⟨k1, k2⟩ := desc_c.mp k
    rw [filt]
    by_cases q : h < b
    · rw [if_pos q]
      have all : ∀ e ∈ els t, e < b := fun e he => lt_of_le_of_lt (k1 e he) q
      rw [filt_none all]
      exact ⟨c h t, rfl, (fun e he => by
        rw [els] at he
        rcases List.mem_cons.mp he with rfl | he
        · exact q
        · exact all e he), k⟩
    · rw [if_neg q]
      obtain ⟨r, e1, e2, e3⟩ := filt_split (b := b) k2
      exact ⟨r, by rw [app, ← e1], e2, e3⟩
/-! ### sums -/
def plus (x : O) : O → O
  | z => x
  | c b t => app (filt b x) (c b t)
theorem plus_z (x : O) : plus x z = x := rfl
theorem z_plus : ∀ y : O, plus z y = y
  | z => rfl
  | c b t => rfl
theorem plus_assoc {x y w : O} (hy : Desc y) : plus (plus x y) w = plus x (plus y w) := by
  cases w with
  | z => rfl
  | c d wt =>
    cases y with
    | z => rw [z_plus]; rfl
    | c b yt =>
      obtain ⟨k1, k2⟩ := desc_c.mp hy
      show app (filt d (app (filt b x) (c b yt))) (c d wt) = plus x (app (filt d (c b yt)) (c d wt))
      rw [filt_app]
      by_cases q : b < d
      · have : filt d (c b yt) = z := filt_none fun e he => by
          rw [els] at he
          rcases List.mem_cons.mp he with rfl | he
          · exact q
          · exact lt_of_le_of_lt (k1 e he) q
        rw [this, app_z, filt_filt (le_of_lt q)]
        rfl
      · have e1 : filt d (c b yt) = c b (filt d yt) := by rw [filt, if_neg q]
        have e2 : filt d (filt b x) = filt b x := filt_all fun e he => le_trans (not_lt.mp q) (mem_filt.mp he).2
        rw [e1, e2, app_assoc]
        rfl
theorem desc_plus {x y : O} (hx : Desc x) (hy : Desc y) : Desc (plus x y) := by
  cases y with
  | z => exact hx
  | c b t =>
    refine desc_app.mpr ⟨desc_filt hx, hy, fun a ha e he => ?_⟩
    have h1 := (mem_filt.mp ha).2
    rw [els] at he
    rcases List.mem_cons.mp he with rfl | he
    · exact h1
    · exact le_trans ((desc_c.mp hy).1 e he) h1
theorem mem_plus {x y e : O} (h : e ∈ els (plus x y)) : e ∈ els x ∨ e ∈ els y := by
  cases y with
  | z => exact .inl h
  | c b t =>
    have h : e ∈ els (app (filt b x) (c b t)) := h
    rw [els_app] at h
    rcases List.mem_append.mp h with h | h
    · exact .inl (mem_filt.mp h).1
    · exact .inr h
theorem below_lt {r : O} {d wt : O} (h : ∀ e ∈ els r, e < d) : r < c d wt := by
  cases r with
  | z => exact z_lt _ _
  | c e t => exact lt_cc.mpr (.inl (h e (by rw [els]; exact List.mem_cons_self)))
/-- sums grow on the right -/
theorem plus_lt {x y w : O} (hx : Desc x) (h : y < w) : plus x y < plus x w := by
  cases w with
  | z => exact absurd h (not_lt_z _)
  | c d wt =>
    cases y with
    | z =>
      obtain ⟨r, e1, e2, _⟩ := filt_split (b := d) hx
      show x < app (filt d x) (c d wt)
      rw [e1, filt_app, filt_none e2, app_z, filt_filt (le_refl d)]
      exact (app_lt _).mpr (below_lt e2)
    | c b yt =>
      show app (filt b x) (c b yt) < app (filt d x) (c d wt)
      rcases lt_cc.mp h with q | ⟨rfl, q⟩
      · obtain ⟨r, e1, e2, _⟩ := filt_split (b := d) (desc_filt (b := b) hx)
        rw [filt_filt (le_of_lt q)] at e1
        rw [e1, app_assoc]
        refine (app_lt _).mpr ?_
        cases r with
        | z => exact h
        | c e t => exact lt_cc.mpr (.inl (e2 e (by rw [els]; exact List.mem_cons_self)))
      · exact (app_lt _).mpr h
theorem plus_lt_iff {x y w : O} (hx : Desc x) : plus x y < plus x w ↔ y < w := by
  refine ⟨fun h => ?_, plus_lt hx⟩
  rcases tri y w with q | rfl | q
  · exact q
  · exact absurd h (lt_irrefl _)
  · exact absurd (plus_lt hx q) (lt_asymm h)
end O
end Pl
set_option Elab.async false
set_option linter.all false
set_option maxRecDepth 100000
/-! PlO2: products, differences, sums of all items, counts. -/
namespace Pl
namespace O
/-! ### products -/
/-- what an item of the right one gives -/
def term (x : O) : O → O
  | z => x
  | c h t => match x with
    | z => z
    | c x0 _ => c (plus x0 (c h t)) z
def timF (x : O) : O → O → O
  | acc, z => acc
  | acc, c h t => timF x (plus acc (term x h)) t
def times (x y : O) : O := match x with
  | z => z
  | c _ _ => timF x z y
theorem timF_app (x : O) : ∀ (p q acc : O), timF x acc (app p q) = timF x (timF x acc p) q
  | z, _, _ => rfl
  | c h t, q, acc => by rw [app, timF, timF, timF_app x t q]
theorem desc_term {x : O} (hx : Desc x) : ∀ h : O, Desc (term x h)
  | z => hx
  | c h t => by
    cases x with
    | z => exact desc_z
    | c x0 xt => exact desc_c.mpr ⟨(fun e he => by cases he), desc_z⟩
theorem desc_timF {x : O} (hx : Desc x) : ∀ (y acc : O), Desc acc → Desc (timF x acc y)
  | z, _, k => k
  | c h t, acc, k => desc_timF hx t _ (desc_plus k (desc_term hx h))
theorem timF_acc {x : O} (hx : Desc x) : ∀ (y acc : O), timF x acc y = plus acc (timF x z y)
  | z, acc => rfl
  | c h t, acc => by
    rw [timF, timF, timF_acc hx t (plus acc _), timF_acc hx t (plus z _), z_plus, plus_assoc (desc_term hx h)]
theorem lt_plus {x0 d : O} (hx0 : Desc x0) (hd : d ≠ z) : x0 < plus x0 d := by
  have h : z < d := by
    cases d with
    | z => exact absurd rfl hd
    | c h t => exact z_lt h t
  exact plus_lt hx0 h
/-- x is not z: an item below d is absorbed -/
theorem term_absorb {x0 xt e d : O} (hx : Desc (c x0 xt)) (hx0 : Desc x0) (h : e < d) : plus (term (c x0 xt) e) (term (c x0 xt) d) = term (c x0 xt) d := by
  have hd : d ≠ z := fun q => by subst q; exact not_lt_z _ h
  obtain ⟨d1, d2, rfl⟩ : ∃ d1 d2, d = c d1 d2 := by
    cases d with
    | z => exact absurd rfl hd
    | c h1 h2 => exact ⟨h1, h2, rfl⟩
  have lt0 : x0 < plus x0 (c d1 d2) := lt_plus hx0 hd
  show app (filt (plus x0 (c d1 d2)) (term (c x0 xt) e)) (c (plus x0 (c d1 d2)) z) = c (plus x0 (c d1 d2)) z
  have none : filt (plus x0 (c d1 d2)) (term (c x0 xt) e) = z := by
    refine filt_none fun a ha => ?_
    cases e with
    | z =>
      have ha : a ∈ els (c x0 xt) := ha
      rw [els] at ha
      rcases List.mem_cons.mp ha with rfl | ha
      · exact lt0
      · exact lt_of_le_of_lt ((desc_c.mp hx).1 a ha) lt0
    | c e1 e2 =>
      have ha : a ∈ els (c (plus x0 (c e1 e2)) z) := ha
      rw [els, els] at ha
      rcases List.mem_cons.mp ha with rfl | ha
      · exact plus_lt hx0 h
      · cases ha
  rw [none]
  rfl
theorem timF_absorb {x0 xt d : O} (hx : Desc (c x0 xt)) (hx0 : Desc x0) : ∀ r : O, (∀ e ∈ els r, e < d) → plus (timF (c x0 xt) z r) (term (c x0 xt) d) = term (c x0 xt) d
  | z, _ => z_plus _
  | c e r, k => by
    have k1 : e < d := k e (by rw [els]; exact List.mem_cons_self)
    have k2 : ∀ a ∈ els r, a < d := fun a ha => k a (by rw [els]; exact List.mem_cons_of_mem _ ha)
    rw [timF, timF_acc hx, z_plus, plus_assoc (desc_timF hx r z desc_z), timF_absorb hx hx0 r k2, term_absorb hx hx0 k1]
theorem times_plus {x y w : O} (hx : Desc x) (hx0 : ∀ h t, x = c h t → Desc h) (hy : Desc y) : times x (plus y w) = plus (times x y) (times x w) := by
  cases x with
  | z => rfl
  | c x0 xt =>
    have hx0 := hx0 x0 xt rfl
    show timF (c x0 xt) z (plus y w) = plus (timF (c x0 xt) z y) (timF (c x0 xt) z w)
    cases w with
    | z => rfl
    | c d wt =>
      obtain ⟨r, e1, e2, e3⟩ := filt_split (b := d) hy
      show timF (c x0 xt) z (app (filt d y) (c d wt)) = _
      have ey : timF (c x0 xt) z y = plus (timF (c x0 xt) z (filt d y)) (timF (c x0 xt) z r) := by
        have : timF (c x0 xt) z y = timF (c x0 xt) z (app (filt d y) r) := by rw [← e1]
        rw [this, timF_app, timF_acc hx r]
      rw [ey, timF_app, timF_acc hx (c d wt), plus_assoc (desc_timF hx r z desc_z)]
      congr 1
      rw [timF, z_plus, timF_acc hx wt (term _ d), ← plus_assoc (desc_term hx d), timF_absorb hx hx0 r e2]
def one : O := c z z
theorem times_one {x : O} : times x one = x := by
  cases x with
  | z => rfl
  | c h t => rfl
theorem one_times {x : O} (hx : Desc x) : times one x = x := by
  have key : ∀ (y acc : O), (∀ a ∈ els acc, ∀ b ∈ els y, b ≤ a) → Desc y → timF one acc y = app acc y := by
    intro y
    induction y with
    | z => intro acc _ _; rw [timF, app_z]
    | c h t _ ih =>
      intro acc k kd
      have th : term one h = c h z := by
        cases h with
        | z => rfl
        | c h1 h2 => show c (plus z (c h1 h2)) z = _; rw [z_plus]
      have hp : plus acc (term one h) = app acc (c h z) := by
        rw [th]
        show app (filt h acc) (c h z) = _
        rw [filt_all fun a ha => k a ha h (by rw [els]; exact List.mem_cons_self)]
      rw [timF, hp, ih, app_assoc]
      · rfl
      · intro a ha b hb
        rw [els_app] at ha
        rcases List.mem_append.mp ha with ha | ha
        · exact k a ha b (by rw [els]; exact List.mem_cons_of_mem _ hb)
        · rw [els, els] at ha
          rcases List.mem_cons.mp ha with rfl | ha
          · exact (desc_c.mp kd).1 b hb
          · cases ha
      · exact (desc_c.mp kd).2
  exact key x z (fun a ha => by cases ha) hx
/-! ### differences -/
/-- what is left of x behind its common part with y -/
def left : O → O → O
  | c h t, c h' t' => if h = h' then left t t' else c h t
  | x, _ => x
def minus (x y : O) : Option O := if x < y then none else some (left x y)
theorem left_app : ∀ (p a b : O), left (app p a) (app p b) = left a b
  | z, _, _ => rfl
  | c h t, a, b => by rw [app, app, left, if_pos rfl, left_app t]
theorem left_z (x : O) : left x z = x := by cases x <;> rfl
theorem minus_plus {x y : O} (hx : Desc x) : minus (plus x y) x = some y := by
  have h : ¬ plus x y < x := fun q => by
    cases y with
    | z => exact lt_irrefl _ q
    | c b t =>
      have := plus_lt (x := x) (y := z) (w := c b t) hx (z_lt _ _)
      exact lt_asymm this q
  rw [minus, if_neg h]
  congr 1
  cases y with
  | z =>
    show left x x = z
    have : left (app x z) (app x z) = left z z := left_app x z z
    rw [app_z] at this
    exact this
  | c b t =>
    obtain ⟨r, e1, e2, _⟩ := filt_split (b := b) hx
    show left (app (filt b x) (c b t)) x = c b t
    have : left (app (filt b x) (c b t)) (app (filt b x) r) = left (c b t) r := left_app _ _ _
    rw [← e1] at this
    rw [this]
    cases r with
    | z => rfl
    | c e s =>
      have q : e < b := e2 e (by rw [els]; exact List.mem_cons_self)
      rw [left, if_neg]
      rintro rfl
      exact lt_irrefl _ q
theorem plus_left : ∀ {x y : O}, Desc x → Desc y → ¬ x < y → plus y (left x y) = x
  | z, z, _, _, _ => rfl
  | z, c _ _, _, _, h => absurd (z_lt _ _) h
  | c h t, z, _, _, _ => z_plus _
  | c h t, c h' t', hx, hy, k => by
    obtain ⟨x1, x2⟩ := desc_c.mp hx
    obtain ⟨y1, y2⟩ := desc_c.mp hy
    rw [left]
    by_cases q : h = h'
    · subst q
      rw [if_pos rfl]
      have k' : ¬ t < t' := fun z => k (lt_cc.mpr (.inr ⟨rfl, z⟩))
      have ih := plus_left x2 y2 k'
      cases e : left t t' with
      | z => rw [e, plus_z] at ih; rw [plus_z, ih]
      | c b s =>
        rw [e] at ih
        have ih : app (filt b t') (c b s) = t := ih
        show app (filt b (c h t')) (c b s) = c h t
        have hb : b ∈ els t := by
          rw [← ih, els_app]
          exact List.mem_append_right _ (by rw [els]; exact List.mem_cons_self)
        rw [filt, if_neg (show ¬ h < b from x1 b hb), app, ih]
    · rw [if_neg q]
      have hh : h' < h := by
        rcases tri h h' with z | z | z
        · exact absurd (lt_cc.mpr (.inl z)) k
        · exact absurd z q
        · exact z
      show app (filt h (c h' t')) (c h t) = c h t
      rw [filt_none fun e he => by
        rw [els] at he
        rcases List.mem_cons.mp he with rfl | he
        · exact hh
        · exact lt_of_le_of_lt (y1 e he) hh]
      rfl
/-! ### all items sorted -/
def insD (a : O) : O → O
  | z => c a z
  | c h t => if h < a then c a (c h t) else c h (insD a t)
/-- the items, from the greatest down -/
def srt : List O → O
  | [] => z
  | a :: r => insD a (srt r)
def nat (x y : O) : O := srt (els x ++ els y)
theorem ins_perm (a : O) : ∀ x : O, (els (insD a x)).Perm (a :: els x)
  | z => List.Perm.refl _
  | c h t => by
    rw [insD]
    split
    · exact List.Perm.refl _
    · rw [els, els]
      exact ((ins_perm a t).cons h).trans (List.Perm.swap a h _)
theorem srt_perm : ∀ l : List O, (els (srt l)).Perm l
  | [] => List.Perm.refl _
  | a :: r => by
    rw [srt]
    exact (ins_perm a _).trans ((srt_perm r).cons a)
theorem ins_desc {a : O} : ∀ {x : O}, Desc x → Desc (insD a x)
  | z, _ => desc_c.mpr ⟨(fun e he => by cases he), desc_z⟩
  | c h t, k => by
    obtain ⟨k1, k2⟩ := desc_c.mp k
    rw [insD]
    split
    · rename_i q
      refine desc_c.mpr ⟨fun e he => ?_, k⟩
      rw [els] at he
      rcases List.mem_cons.mp he with rfl | he
      · exact le_of_lt q
      · exact le_trans (k1 e he) (le_of_lt q)
    · rename_i q
      refine desc_c.mpr ⟨fun e he => ?_, ins_desc k2⟩
      rcases List.mem_cons.mp ((ins_perm a t).mem_iff.mp he) with rfl | he
      · exact q
      · exact k1 e he
theorem srt_desc : ∀ l : List O, Desc (srt l)
  | [] => desc_z
  | a :: r => ins_desc (srt_desc r)
theorem desc_one : ∀ {x y : O}, Desc x → Desc y → (els x).Perm (els y) → x = y
  | z, z, _, _, _ => rfl
  | z, c _ _, _, _, p => absurd p.length_eq (by simp [els])
  | c _ _, z, _, _, p => absurd p.length_eq (by simp [els])
  | c h t, c h' t', hx, hy, p => by
    obtain ⟨x1, x2⟩ := desc_c.mp hx
    obtain ⟨y1, y2⟩ := desc_c.mp hy
    rw [els, els] at p
    have e : h = h' := by
      rcases List.mem_cons.mp (p.mem_iff.mp List.mem_cons_self) with e | m
      · exact e
      · rcases List.mem_cons.mp (p.mem_iff.mpr List.mem_cons_self) with e | m'
        · exact e.symm
        · exact le_antisymm (y1 h m) (x1 h' m')
    subst e
    rw [desc_one x2 y2 p.cons_inv]
theorem nat_comm (x y : O) : nat x y = nat y x := desc_one (srt_desc _) (srt_desc _) ((srt_perm _).trans (List.perm_append_comm.trans (srt_perm _).symm))
theorem nat_perm (x y : O) : (els (nat x y)).Perm (els x ++ els y) := srt_perm _
theorem nat_assoc (x y w : O) : nat x (nat y w) = nat (nat x y) w := by
  refine desc_one (srt_desc _) (srt_desc _) ((nat_perm _ _).trans (List.Perm.trans ?_ (nat_perm _ _).symm))
  refine ((nat_perm y w).append_left (els x)).trans ?_
  rw [← List.append_assoc]
  exact ((nat_perm x y).symm).append_right _
theorem le_ins {a : O} : ∀ {x : O}, x ≤ insD a x
  | z => z_le _
  | c h t => by
    rw [insD]
    split
    · rename_i q; exact le_of_lt (lt_cc.mpr (.inl q))
    · rcases le_iff.mp (le_ins (a := a) (x := t)) with e | e
      · exact le_of_lt (lt_cc.mpr (.inr ⟨rfl, e⟩))
      · rw [← e]; exact le_refl _
theorem le_insl (x : O) : ∀ l : List O, x ≤ l.foldr insD x
  | [] => le_refl _
  | a :: l => le_trans (le_insl x l) le_ins
theorem insl_perm (x : O) : ∀ l : List O, (els (l.foldr insD x)).Perm (l ++ els x)
  | [] => List.Perm.refl _
  | a :: l => (ins_perm a _).trans ((insl_perm x l).cons a)
theorem insl_desc {x : O} (hx : Desc x) : ∀ l : List O, Desc (l.foldr insD x)
  | [] => hx
  | a :: l => ins_desc (insl_desc hx l)
theorem plus_le_nat {x y : O} (hx : Desc x) (hy : Desc y) : plus x y ≤ nat x y := by
  cases y with
  | z =>
    have : nat x z = x := desc_one (srt_desc _) hx ((srt_perm _).trans (by rw [els, List.append_nil]))
    rw [this]
    exact le_refl _
  | c b t =>
    obtain ⟨r, e1, _, _⟩ := filt_split (b := b) hx
    have : nat x (c b t) = (els r).foldr insD (plus x (c b t)) := by
      refine desc_one (srt_desc _) (insl_desc (desc_plus hx hy) _) ((nat_perm _ _).trans (List.Perm.trans ?_ (insl_perm _ _).symm))
      have e2 : els (plus x (c b t)) = els (filt b x) ++ els (c b t) := els_app _ _
      have e3 : els x = els (filt b x) ++ els r := by
        have := congrArg els e1
        rw [els_app] at this
        exact this
      rw [e2, e3, List.append_assoc]
      exact List.perm_append_comm_assoc _ _ _
    rw [this]
    exact le_insl _ _
/-- products of all items -/
def prods (x y : O) : List O := (els x).flatMap fun a => (els y).map fun b => nat a b
def nprod (x y : O) : O := srt (prods x y)
theorem flatMap_swap {α β γ : Type} (f : α → β → γ) : ∀ (l : List α) (m : List β), (l.flatMap fun a => m.map (f a)).Perm (m.flatMap fun b => l.map fun a => f a b)
  | [], m => by
    have : (m.flatMap fun b => ([] : List α).map fun a => f a b) = [] := by induction m <;> simp_all
    rw [this]
    exact List.Perm.refl _
  | a :: l, m => by
    rw [List.flatMap_cons]
    refine ((flatMap_swap f l m).append_left _).trans ?_
    clear flatMap_swap
    induction m with
    | nil => exact List.Perm.refl _
    | cons b m ih =>
      rw [List.map_cons, List.flatMap_cons, List.flatMap_cons, List.map_cons]
      refine List.Perm.cons (f a b) ?_
      show (m.map (f a) ++ (l.map (fun a => f a b) ++ m.flatMap fun b => l.map fun a => f a b)).Perm (l.map (fun a => f a b) ++ m.flatMap fun b => (a :: l).map fun a => f a b)
      exact (List.perm_append_comm_assoc _ _ _).trans (ih.append_left _)
theorem nprod_comm (x y : O) : nprod x y = nprod y x := by
  refine desc_one (srt_desc _) (srt_desc _) ((srt_perm _).trans (List.Perm.trans ?_ (srt_perm _).symm))
  unfold prods
  refine (flatMap_swap nat (els x) (els y)).trans ?_
  have : (fun b => (els x).map fun a => nat a b) = fun b => (els x).map fun a => nat b a := by
    funext b
    exact List.map_congr_left fun a _ => nat_comm a b
  rw [this]
theorem nprod_nat (x y w : O) : nprod x (nat y w) = nat (nprod x y) (nprod x w) := by
  refine desc_one (srt_desc _) (srt_desc _) ((srt_perm _).trans (List.Perm.trans ?_ (nat_perm _ _).symm))
  refine List.Perm.trans ?_ (List.Perm.append (srt_perm (prods x y)).symm (srt_perm (prods x w)).symm)
  unfold prods
  have key : ∀ l : List O, (l.flatMap fun a => (els (nat y w)).map fun b => nat a b).Perm ((l.flatMap fun a => (els y).map fun b => nat a b) ++ (l.flatMap fun a => (els w).map fun b => nat a b)) := fun l => by
    induction l with
    | nil => exact List.Perm.refl _
    | cons a l ih =>
      rw [List.flatMap_cons, List.flatMap_cons, List.flatMap_cons]
      have h1 : ((els (nat y w)).map fun b => nat a b).Perm (((els y).map fun b => nat a b) ++ (els w).map fun b => nat a b) := by
        rw [← List.map_append]
        exact (nat_perm y w).map _
      refine (h1.append ih).trans ?_
      rw [List.append_assoc, List.append_assoc]
      refine List.Perm.append_left _ ?_
      rw [← List.append_assoc, ← List.append_assoc]
      exact List.perm_append_comm.append_right _
  exact key (els x)
end O
end Pl
set_option Elab.async false
set_option linter.all false
set_option maxRecDepth 100000
/-! PlO3: counts, well-formed ordinals, the rows toward limits. -/
namespace Pl
namespace O
def cnt : O → Nat
  | z => 1
  | c h t => cnt h + cnt t
def len : O → Nat
  | z => 0
  | c _ t => len t + 1
/-- items down, everywhere -/
def W : O → Prop
  | z => True
  | c h t => W h ∧ W t ∧ ∀ e ∈ els t, e ≤ h
theorem cnt_pos : ∀ x : O, 1 ≤ cnt x
  | z => Nat.le_refl _
  | c h t => by rw [cnt]; have := cnt_pos h; omega
theorem len_els : ∀ x : O, (els x).length = len x
  | z => rfl
  | c h t => by rw [els, List.length_cons, len_els t, len]
theorem W.desc : ∀ {x : O}, W x → Desc x
  | z, _ => desc_z
  | c h t, ⟨_, k, m⟩ => desc_c.mpr ⟨m, k.desc⟩
theorem W.mem : ∀ {x e : O}, W x → e ∈ els x → W e
  | z, e, _, h => by cases h
  | c h t, e, ⟨k1, k2, _⟩, m => by
    rw [els] at m
    rcases List.mem_cons.mp m with rfl | m
    · exact k1
    · exact k2.mem m
theorem W_of : ∀ {x : O}, Desc x → (∀ e ∈ els x, W e) → W x
  | z, _, _ => True.intro
  | c h t, d, k => by
    obtain ⟨d1, d2⟩ := desc_c.mp d
    exact ⟨k h (by rw [els]; exact List.mem_cons_self), W_of d2 fun e he => k e (by rw [els]; exact List.mem_cons_of_mem _ he), d1⟩
theorem cnt_app : ∀ x y : O, cnt (app x y) + 1 = cnt x + cnt y
  | z, y => by rw [app, cnt]; omega
  | c h t, y => by have := cnt_app t y; rw [app, cnt, cnt]; omega
theorem len_app : ∀ x y : O, len (app x y) = len x + len y
  | z, y => by rw [app, len]; omega
  | c h t, y => by have := len_app t y; rw [app, len, len]; omega
theorem cnt_filt (b : O) : ∀ x : O, cnt (filt b x) ≤ cnt x ∧ len (filt b x) ≤ len x
  | z => ⟨Nat.le_refl _, Nat.le_refl _⟩
  | c h t => by
    obtain ⟨h1, h2⟩ := cnt_filt b t
    have := cnt_pos h
    rw [filt]
    split
    · rw [cnt, len]; exact ⟨by omega, by omega⟩
    · rw [cnt, cnt, len, len]; exact ⟨by omega, by omega⟩
theorem cnt_plus (x y : O) : cnt (plus x y) + 1 ≤ cnt x + cnt y ∧ len (plus x y) ≤ len x + len y := by
  cases y with
  | z => exact ⟨Nat.le_refl _, Nat.le_refl _⟩
  | c b t =>
    show cnt (app (filt b x) (c b t)) + 1 ≤ _ ∧ len (app (filt b x) (c b t)) ≤ _
    have h1 := cnt_app (filt b x) (c b t)
    have h2 := len_app (filt b x) (c b t)
    obtain ⟨h3, h4⟩ := cnt_filt b x
    exact ⟨by omega, by omega⟩
theorem W_plus {x y : O} (hx : W x) (hy : W y) : W (plus x y) := W_of (desc_plus hx.desc hy.desc) fun e he => (mem_plus he).elim hx.mem hy.mem
theorem W_term {x : O} (hx : W x) {h : O} (hh : W h) : W (term x h) := by
  cases h with
  | z => exact hx
  | c a b =>
    cases x with
    | z => exact True.intro
    | c x0 xt => exact ⟨W_plus hx.1 hh, True.intro, fun e he => by cases he⟩
theorem cnt_term (x h : O) : cnt (term x h) ≤ cnt x + cnt h := by
  cases h with
  | z => show cnt x ≤ _; omega
  | c a b =>
    cases x with
    | z => show 1 ≤ _; have := cnt_pos (c a b); omega
    | c x0 xt =>
      show cnt (plus x0 (c a b)) + 1 ≤ cnt x0 + cnt xt + cnt (c a b)
      have := (cnt_plus x0 (c a b)).1
      omega
theorem W_timF {x : O} (hx : W x) : ∀ (y acc : O), W acc → W y → W (timF x acc y)
  | z, _, k, _ => k
  | c h t, acc, k, ⟨h1, h2, _⟩ => W_timF hx t _ (W_plus k (W_term hx h1)) h2
theorem W_times {x y : O} (hx : W x) (hy : W y) : W (times x y) := by
  cases x with
  | z => exact True.intro
  | c a b => exact W_timF hx y z True.intro hy
theorem cnt_timF (x : O) : ∀ (y acc : O), cnt (timF x acc y) ≤ cnt acc + len y * cnt x + cnt y
  | z, acc => by rw [timF, len]; omega
  | c h t, acc => by
    have h1 := cnt_timF x t (plus acc (term x h))
    have h2 := (cnt_plus acc (term x h)).1
    have h3 := cnt_term x h
    rw [timF, len, cnt, Nat.add_mul]
    omega
theorem cnt_times (x y : O) : cnt (times x y) ≤ 1 + len y * cnt x + cnt y := by
  cases x with
  | z => show 1 ≤ _; omega
  | c a b => exact cnt_timF (c a b) y z
theorem left_suffix : ∀ x y : O, ∃ p, x = app p (left x y)
  | z, z => ⟨z, rfl⟩
  | z, c _ _ => ⟨z, rfl⟩
  | c _ _, z => ⟨z, rfl⟩
  | c h t, c h' t' => by
    rw [left]
    split
    · obtain ⟨p, e⟩ := left_suffix t t'
      exact ⟨c h p, by rw [app, ← e]⟩
    · exact ⟨z, rfl⟩
theorem W_left {x : O} (hx : W x) (y : O) : W (left x y) ∧ cnt (left x y) ≤ cnt x := by
  obtain ⟨p, e⟩ := left_suffix x y
  have h1 := cnt_app p (left x y)
  rw [← e] at h1
  have h2 := cnt_pos p
  refine ⟨W_of ?_ fun a ha => hx.mem (by rw [e, els_app]; exact List.mem_append_right _ ha), by omega⟩
  have := hx.desc
  rw [e] at this
  exact (desc_app.mp this).2.1
def cnts : List O → Nat
  | [] => 0
  | a :: l => cnt a + cnts l
theorem cnt_els : ∀ x : O, cnt x = 1 + cnts (els x)
  | z => rfl
  | c h t => by rw [cnt, els, cnts, cnt_els t]; omega
theorem cnts_append : ∀ l m : List O, cnts (l ++ m) = cnts l + cnts m
  | [], m => by rw [List.nil_append, cnts]; omega
  | a :: l, m => by rw [List.cons_append, cnts, cnts, cnts_append l m]; omega
theorem cnts_perm {l m : List O} (p : l.Perm m) : cnts l = cnts m := by
  induction p with
  | nil => rfl
  | cons a _ ih => rw [cnts, cnts, ih]
  | swap a b l => rw [cnts, cnts, cnts, cnts]; omega
  | trans _ _ h1 h2 => exact h1.trans h2
theorem cnt_srt (l : List O) : cnt (srt l) = 1 + cnts l := by rw [cnt_els, cnts_perm (srt_perm l)]
theorem cnt_nat (x y : O) : cnt (nat x y) + 1 = cnt x + cnt y := by
  unfold nat
  rw [cnt_srt, cnts_append, cnt_els x, cnt_els y]
  omega
theorem len_nat (x y : O) : len (nat x y) = len x + len y := by
  rw [← len_els, ← len_els, ← len_els, (nat_perm x y).length_eq, List.length_append]
theorem W_srt {l : List O} (h : ∀ e ∈ l, W e) : W (srt l) := W_of (srt_desc l) fun e he => h e ((srt_perm l).mem_iff.mp he)
theorem W_nat {x y : O} (hx : W x) (hy : W y) : W (nat x y) := W_srt fun e he => (List.mem_append.mp he).elim hx.mem hy.mem
theorem W_nprod {x y : O} (hx : W x) (hy : W y) : W (nprod x y) := W_srt fun e he => by
  obtain ⟨a, ha, he⟩ := List.mem_flatMap.mp he
  obtain ⟨b, hb, rfl⟩ := List.mem_map.mp he
  exact W_nat (hx.mem ha) (hy.mem hb)
theorem cnts_row (a : O) : ∀ m : List O, cnts (m.map fun b => nat a b) ≤ m.length * cnt a + cnts m
  | [] => by simp [cnts]
  | b :: m => by
    have h1 := cnts_row a m
    have h2 := cnt_nat a b
    rw [List.map_cons, cnts, cnts, List.length_cons, Nat.add_mul]
    omega
theorem cnts_prod (y : O) : ∀ l : List O, cnts (l.flatMap fun a => (els y).map fun b => nat a b) ≤ len y * cnts l + l.length * cnts (els y)
  | [] => by simp [cnts]
  | a :: l => by
    have h1 := cnts_prod y l
    have h2 := cnts_row a (els y)
    rw [len_els] at h2
    rw [List.flatMap_cons, cnts_append, cnts, List.length_cons, Nat.add_mul, Nat.mul_add]
    omega
theorem cnt_nprod (x y : O) : cnt (nprod x y) ≤ 1 + len y * cnt x + len x * cnt y := by
  unfold nprod prods
  rw [cnt_srt]
  have h := cnts_prod y (els x)
  rw [len_els] at h
  have h1 := cnt_els x
  have h2 := cnt_els y
  have h3 : len y * cnts (els x) ≤ len y * cnt x := Nat.mul_le_mul_left _ (by omega)
  have h4 : len x * cnts (els y) ≤ len x * cnt y := Nat.mul_le_mul_left _ (by omega)
  omega
/-! ### toward -/
def init : O → O
  | z => z
  | c _ z => z
  | c h (c a b) => c h (init (c a b))
/-- the last item is not z -/
def lim : O → Bool
  | z => false
  | c z z => false
  | c (c _ _) z => true
  | c _ (c a b) => lim (c a b)
def rep (x : O) : Nat → O
  | 0 => z
  | n + 1 => c x (rep x n)
def tow (n : Nat) : O → O
  | z => z
  | c z z => z
  | c (c a b) z => if lim (c a b) = true then c (tow n (c a b)) z else rep (init (c a b)) n
  | c h (c a b) => c h (tow n (c a b))
theorem rep_lt (x : O) : ∀ n : Nat, rep x n < rep x (n + 1)
  | 0 => z_lt _ _
  | n + 1 => lt_cc.mpr (.inr ⟨rfl, rep_lt x n⟩)
theorem init_lt : ∀ {x : O}, x ≠ z → init x < x
  | z, h => absurd rfl h
  | c _ z, _ => z_lt _ _
  | c h (c a b), _ => lt_cc.mpr (.inr ⟨rfl, init_lt (fun e => by cases e)⟩)
theorem tow_init (n : Nat) : ∀ {x : O}, lim x = false → tow n x = init x
  | z, _ => rfl
  | c z z, _ => rfl
  | c (c _ _) z, h => by cases h
  | c h (c a b), k => by
    have k : lim (c a b) = false := by
      cases h with
      | z => exact k
      | c _ _ => exact k
    have e : tow n (c h (c a b)) = c h (tow n (c a b)) := by cases h <;> rfl
    rw [e, tow_init n k]
    rfl
theorem tow_lt (n : Nat) : ∀ {x : O}, lim x = true → tow n x < tow (n + 1) x ∧ tow n x < x
  | z, h => by cases h
  | c z z, h => by cases h
  | c (c a b) z, _ => by
    rw [tow, tow]
    by_cases q : lim (c a b) = true
    · rw [if_pos q, if_pos q]
      obtain ⟨h1, h2⟩ := tow_lt n q
      exact ⟨lt_cc.mpr (.inl h1), lt_cc.mpr (.inl h2)⟩
    · rw [if_neg q, if_neg q]
      refine ⟨rep_lt _ n, ?_⟩
      cases n with
      | zero => exact z_lt _ _
      | succ n => exact lt_cc.mpr (.inl (init_lt (fun e => by cases e)))
  | c h (c a b), k => by
    have k : lim (c a b) = true := by
      cases h with
      | z => exact k
      | c _ _ => exact k
    have e : ∀ n, tow n (c h (c a b)) = c h (tow n (c a b)) := fun n => by cases h <;> rfl
    rw [e, e]
    obtain ⟨h1, h2⟩ := tow_lt n k
    exact ⟨lt_cc.mpr (.inr ⟨rfl, h1⟩), lt_cc.mpr (.inr ⟨rfl, h2⟩)⟩
theorem tow_le {x : O} (h : lim x = true) (n : Nat) : ∀ k : Nat, tow n x ≤ tow (n + k) x
  | 0 => le_refl _
  | k + 1 => le_of_lt (lt_of_le_of_lt (tow_le h n k) (tow_lt (n + k) h).1)
/-! ### what is drawn -/
def Dr : Nat → O → Prop
  | 0, x => W x ∧ len x ≤ 3 ∧ ∀ e ∈ els x, e = z
  | d + 1, x => W x ∧ len x ≤ 3 ∧ ∀ e ∈ els x, Dr d e
theorem Dr.w {d : Nat} {x : O} (h : Dr d x) : W x ∧ len x ≤ 3 := by
  cases d with
  | zero => exact ⟨h.1, h.2.1⟩
  | succ d => exact ⟨h.1, h.2.1⟩
theorem cnts_le {b : Nat} : ∀ {l : List O}, (∀ e ∈ l, cnt e ≤ b) → cnts l ≤ l.length * b
  | [], _ => by simp [cnts]
  | a :: l, h => by
    have h1 := h a List.mem_cons_self
    have h2 := cnts_le fun e he => h e (List.mem_cons_of_mem _ he)
    rw [cnts, List.length_cons, Nat.add_mul]
    omega
theorem cnt_all {x : O} {b : Nat} (hl : len x ≤ 3) (h : ∀ e ∈ els x, cnt e ≤ b) : cnt x ≤ 1 + 3 * b := by
  have h1 := cnts_le h
  rw [len_els] at h1
  have h2 := cnt_els x
  have h3 : len x * b ≤ 3 * b := Nat.mul_le_mul_right _ hl
  omega
theorem Dr.c0 {x : O} (h : Dr 0 x) : cnt x ≤ 4 := cnt_all h.2.1 fun e he => by rw [h.2.2 e he]; exact Nat.le_refl _
theorem Dr.c1 {x : O} (h : Dr 1 x) : cnt x ≤ 13 := cnt_all h.2.1 fun e he => (h.2.2 e he).c0
theorem Dr.c2 {x : O} (h : Dr 2 x) : cnt x ≤ 40 := cnt_all h.2.1 fun e he => (h.2.2 e he).c1
end O
end Pl
set_option Elab.async false
set_option linter.all false
set_option maxRecDepth 100000
/-! PlW: worms as lists of naturals; what the program's functions on them tell. -/
namespace Pl
open O
def isnum : O → Bool
  | z => true
  | c z _ => true
  | c (c _ _) _ => false
/-- the pieces between letters 0 -/
def pcs : List Nat → List Nat → List (List Nat)
  | cur, [] => [cur]
  | cur, 0 :: r => cur :: pcs [] r
  | cur, (n + 1) :: r => pcs (cur ++ [n + 1]) r
def allz : List Nat → Bool
  | [] => true
  | 0 :: r => allz r
  | (_ + 1) :: _ => false
def down (w : List Nat) : List Nat := w.map fun n => n - 1
def up (w : List Nat) : List Nat := w.map fun n => n + 1
def ordF : Nat → List Nat → O
  | 0, w => if allz w then rep z w.length else z
  | f + 1, w => if allz w then rep z w.length else (pcs [] w).reverse.foldl (fun acc p => plus acc (c (ordF f (down p)) z)) z
def ord (w : List Nat) : O := ordF 7 w
def wj : O → List Nat
  | z => []
  | c h z => up (if isnum h then List.replicate (len h) 0 else wj h)
  | c h (c a b) => wj (c a b) ++ 0 :: up (if isnum h then List.replicate (len h) 0 else wj h)
def worm (x : O) : List Nat := if isnum x then List.replicate (len x) 0 else wj x
def form (w : List Nat) : List Nat := worm (ord w)
def hd (n : Nat) (w : List Nat) : List Nat := w.takeWhile fun a => Nat.ble n a
def tl (n : Nat) (w : List Nat) : List Nat := w.dropWhile fun a => Nat.ble n a
def nextIn : List Nat → Nat → List Nat
  | [], _ => []
  | 0 :: r, _ => r
  | (n + 1) :: r, t => (List.replicate (t + 1) (n :: hd (n + 1) r)).flatten ++ tl (n + 1) r
/-- behind turns from t on, so many at most -/
def lastB : Nat → Nat → List Nat → List Nat × Nat
  | 0, t, w => (w, t - 1)
  | k + 1, t, w => match w with
    | [] => ([], t - 1)
    | a :: r => lastB k (t + 1) (nextIn (a :: r) t)
def behs : Nat → Nat → List Nat → List (List Nat)
  | 0, _, w => [w]
  | k + 1, t, w => match w with
    | [] => [[]]
    | a :: r => (a :: r) :: behs k (t + 1) (nextIn (a :: r) t)
/-- each worm on the way is short -/
def wayOk : Nat → Nat → List Nat → Bool
  | 0, _, _ => true
  | k + 1, t, w => match w with
    | [] => true
    | a :: r => Nat.ble t 900 && (Nat.ble r.length 900 && wayOk k (t + 1) (nextIn (a :: r) t))
def maxEnd : Nat := 1000000000000000000
def isAbove (a : Nat) : Bool := Nat.blt maxEnd a
def rgo (g : Nat → Option (Option Nat)) : Nat → Nat → Option (Option Nat)
  | 0, t => some (some t)
  | k + 1, t => match g (t + 1) with
    | none => none
    | some none => some none
    | some (some e) => if isAbove e then some none else rgo g k e
def wgo (g : List Nat → Nat → Option (Option Nat)) : List Nat → List Nat → Nat → Option (Option Nat)
  | cur, [], t => match g cur t with
    | none => none
    | some none => some none
    | some (some e) => if isAbove e then some none else some (some e)
  | cur, 0 :: r, t => match g cur t with
    | none => none
    | some none => some none
    | some (some e) => if isAbove e then some none else wgo g [] r (e + 1)
  | cur, (n + 1) :: r, t => wgo g (cur ++ [n + 1]) r t
/-- none: no fuel; some none: beyond the greatest -/
def pend : Nat → List Nat → Nat → Option (Option Nat)
  | 0, _, _ => none
  | f + 1, p, t => match p with
    | [] => some (some t)
    | _ :: _ :: _ :: _ => some none
    | 0 :: _ => none
    | 1 :: r => match r with
      | [] => some (some (2 * t + 2))
      | b :: s => rgo (pend f (b :: s)) (t + 1) (t + 1)
    | (n + 2) :: r => if Nat.blt 60 t then some none else wgo (pend f) [] ((List.replicate (t + 1) ((n + 1) :: hd (n + 2) r)).flatten ++ tl (n + 2) r) (t + 1)
def wend (f : Nat) (w : List Nat) (t : Nat) : Option (Option Nat) := wgo (pend f) [] w t
end Pl
set_option Elab.async false
set_option linter.all false
set_option maxRecDepth 100000
set_option maxHeartbeats 0
/-! PlF: finite facts about short worms. -/
namespace Pl
open O
/-- words of so many letters to m -/
def wds (m : Nat) : Nat → List (List Nat)
  | 0 => [[]]
  | n + 1 => (List.range (m + 1)).flatMap fun a => (wds m n).map fun w => a :: w
theorem mem_wds {m : Nat} : ∀ (w : List Nat), (∀ a ∈ w, a ≤ m) → w ∈ wds m w.length
  | [], _ => List.mem_singleton.mpr rfl
  | a :: w, h => by
    rw [List.length_cons, wds]
    refine List.mem_flatMap.mpr ⟨a, List.mem_range.mpr (by have := h a List.mem_cons_self; omega), List.mem_map.mpr ⟨w, mem_wds w fun b hb => h b (List.mem_cons_of_mem _ hb), rfl⟩⟩
/-- so of all words of at most n letters to m -/
def allW (m n : Nat) (P : List Nat → Bool) : Bool := (List.range (n + 1)).all fun i => (wds m i).all P
theorem allW_of {m n : Nat} {P : List Nat → Bool} (h : allW m n P = true) {w : List Nat} (h1 : w.length ≤ n) (h2 : ∀ a ∈ w, a ≤ m) : P w = true := by
  unfold allW at h
  rw [List.all_eq_true] at h
  have h3 := h w.length (List.mem_range.mpr (by omega))
  rw [List.all_eq_true] at h3
  exact h3 w (mem_wds w h2)
def ltb (a b : O) : Bool := match cmp a b with
  | .lt => true
  | _ => false
theorem ltb_iff {a b : O} : ltb a b = true ↔ a < b := by
  unfold ltb
  rw [lt_def]
  cases cmp a b <;> simp
def falls : List O → Bool
  | a :: b :: r => ltb b a && falls (b :: r)
  | _ => true
def letters (n m : Nat) (w : List Nat) : Bool := Nat.ble w.length n && w.all fun a => Nat.ble a m
theorem letters_iff {n m : Nat} {w : List Nat} : letters n m w = true ↔ w.length ≤ n ∧ ∀ a ∈ w, a ≤ m := by
  unfold letters
  rw [Bool.and_eq_true_iff, List.all_eq_true]
  exact ⟨fun h => ⟨Nat.ble_eq.mp h.1, fun a ha => Nat.ble_eq.mp (h.2 a ha)⟩, fun h => ⟨Nat.ble_eq.mpr h.1, fun a ha => Nat.ble_eq.mpr (h.2 a ha)⟩⟩
def beh1 (w : List Nat) : Bool := falls ((behs 3 1 w).map ord) && (wayOk 3 1 w && (behs 3 1 w).all (letters 400 6))
theorem beh1_ok : allW 3 5 beh1 = true := by decide +kernel
/-- pieces -/
def eqO : Option (Option Nat) → Option (Option Nat) → Bool
  | some none, some none => true
  | some (some a), some (some b) => Nat.beq a b
  | _, _ => false
theorem eqO_iff {a b : Option (Option Nat)} (h : eqO a b = true) : a = b ∧ ∃ r, a = some r := by
  cases a with
  | none => cases h
  | some a => cases b with
    | none => cases a <;> cases h
    | some b => cases a with
      | none => cases b with
        | none => exact ⟨rfl, _, rfl⟩
        | some b => cases h
      | some a => cases b with
        | none => cases h
        | some b => exact ⟨by rw [Nat.eq_of_beq_eq_true h], _, rfl⟩
def noz : List Nat → Bool
  | [] => true
  | 0 :: _ => false
  | (_ + 1) :: r => noz r
def step1 (w : List Nat) : Bool := match w with
  | [] => true
  | _ => !noz w || (List.range 30).all fun t => eqO (wend 7 w (t + 1)) (wend 7 (nextIn w (t + 1)) (t + 2))
theorem step1_ok : allW 3 5 step1 = true := by decide +kernel
def tot1 : Bool := (List.range 61).all fun t => (pend 6 [2] t).isSome && ((pend 6 [3] t).isSome && [[2], [3], [2, 1], [2, 2], [2, 3], [3, 1], [3, 2], [3, 3]].all fun p => (pend 7 p t).isSome)
theorem tot1_ok : tot1 = true := by decide +kernel
def ends1 (w : List Nat) : Bool := match wend 7 w 1 with
  | some (some e) => if Nat.blt e 700 then wayOk 3000 1 w && (match lastB 3000 1 w with
    | ([], n) => Nat.beq (n + 1) e
    | _ => false) else true
  | some none => true
  | none => false
theorem ends1_ok : allW 3 5 ends1 = true := by decide +kernel
def one1 (w : List Nat) : Bool := decide (ord (form (0 :: w)) = plus (ord w) (c z z)) && (decide (form (form (0 :: w)) = form (0 :: w)) && (Nat.ble (form w).length 5 && (ltb (ord w) (plus (ord w) (c z z)) && letters 5 6 (form (0 :: w)))))
theorem one1_ok : allW 2 3 one1 = true := by decide +kernel
def items : List O := [z, rep z 1, rep z 2, rep z 3]
/-- drawn ordinals -/
def D1 : List O := z :: items.flatMap fun a => c a z :: items.flatMap fun b => c a (c b z) :: items.map fun d => c a (c b (c d z))
def dsc : O → Bool
  | c a (c b t) => !ltb a b && dsc (c b t)
  | _ => true
def findT (w : List Nat) (x : O) : Nat → Nat → Bool
  | 0, _ => false
  | k + 1, t => ltb x (ord (nextIn w t)) || findT w x k (t + 1)
def short1 (w : List Nat) : Bool := D1.all fun x => !dsc x || ((!ltb x (ord (1 :: w)) || findT (1 :: w) x 30 1) && (!ltb (plus x (c z z)) (ord (1 :: w)) || findT (1 :: w) (plus x (c z z)) 30 1))
theorem short1_ok : allW 2 3 short1 = true := by decide +kernel
end Pl
set_option Elab.async false
set_option linter.all false
set_option maxRecDepth 100000
set_option maxHeartbeats 400000
/-! PlG: what the finite facts give. -/
namespace Pl
open O
/-! ### ends -/
theorem noz_app {u v : List Nat} (h : noz u = true) (k : noz v = true) : noz (u ++ v) = true := by
  induction u with
  | nil => exact k
  | cons a u ih =>
    cases a with
    | zero => cases h
    | succ n => exact ih h
theorem wgo_split (g : List Nat → Nat → Option (Option Nat)) (r : List Nat) : ∀ (u cur : List Nat) (t : Nat), wgo g cur (u ++ 0 :: r) t = match wgo g cur u t with
    | none => none
    | some none => some none
    | some (some e) => wgo g [] r (e + 1)
  | [], cur, t => by
    rw [List.nil_append, wgo, wgo]
    cases g cur t with
    | none => rfl
    | some q => cases q with
      | none => rfl
      | some e =>
        dsimp only
        cases isAbove e <;> rfl
  | 0 :: u, cur, t => by
    rw [List.cons_append, wgo, wgo]
    cases g cur t with
    | none => rfl
    | some q => cases q with
      | none => rfl
      | some e =>
        dsimp only
        cases isAbove e with
        | true => rfl
        | false => exact wgo_split g r u [] (e + 1)
  | (n + 1) :: u, cur, t => by
    rw [List.cons_append, wgo, wgo]
    exact wgo_split g r u (cur ++ [n + 1]) t
theorem wgo_total {g : List Nat → Nat → Option (Option Nat)} {P : Nat → Prop} (hg : ∀ p t, noz p = true → (∀ a ∈ p, P a) → ∃ r, g p t = some r) : ∀ (u cur : List Nat) (t : Nat), noz cur = true → (∀ a ∈ cur, P a) → (∀ a ∈ u, P a) → ∃ r, wgo g cur u t = some r
  | [], cur, t, h1, h2, _ => by
    obtain ⟨r, q⟩ := hg cur t h1 h2
    rw [wgo, q]
    cases r with
    | none => exact ⟨_, rfl⟩
    | some e =>
      dsimp only
      split
      · exact ⟨_, rfl⟩
      · exact ⟨_, rfl⟩
  | 0 :: u, cur, t, h1, h2, h3 => by
    obtain ⟨r, q⟩ := hg cur t h1 h2
    rw [wgo, q]
    cases r with
    | none => exact ⟨_, rfl⟩
    | some e =>
      dsimp only
      split
      · exact ⟨_, rfl⟩
      · exact wgo_total hg u [] (e + 1) rfl (fun a h => by cases h) (fun a h => h3 a (List.mem_cons_of_mem _ h))
  | (n + 1) :: u, cur, t, h1, h2, h3 => by
    rw [wgo]
    exact wgo_total hg u (cur ++ [n + 1]) t (noz_app h1 rfl) (fun a ha => by
      rcases List.mem_append.mp ha with ha | ha
      · exact h2 a ha
      · rw [List.mem_singleton] at ha
        subst ha
        exact h3 _ List.mem_cons_self) (fun a h => h3 a (List.mem_cons_of_mem _ h))
theorem tot_at {t : Nat} (ht : t ≤ 60) : (pend 6 [2] t).isSome = true ∧ (pend 6 [3] t).isSome = true ∧ ∀ p ∈ [[2], [3], [2, 1], [2, 2], [2, 3], [3, 1], [3, 2], [3, 3]], (pend 7 p t).isSome = true := by
  have h := tot1_ok
  unfold tot1 at h
  rw [List.all_eq_true] at h
  have h := h t (List.mem_range.mpr (by omega))
  rw [Bool.and_eq_true_iff, Bool.and_eq_true_iff, List.all_eq_true] at h
  exact h
theorem rgo_total {g : Nat → Option (Option Nat)} (hg : ∀ t, ∃ r, g t = some r) : ∀ (k t : Nat), ∃ r, rgo g k t = some r
  | 0, t => ⟨_, rfl⟩
  | k + 1, t => by
    obtain ⟨r, q⟩ := hg (t + 1)
    rw [rgo, q]
    cases r with
    | none => exact ⟨_, rfl⟩
    | some e =>
      dsimp only
      split
      · exact ⟨_, rfl⟩
      · exact rgo_total hg k e
theorem late {f n t : Nat} {r : List Nat} (hr : r.length ≤ 1) (ht : 60 < t) : pend (f + 1) ((n + 2) :: r) t = some none := by
  have b : Nat.blt 60 t = true := Nat.ble_eq.mpr ht
  have e : pend (f + 1) ((n + 2) :: r) t = if Nat.blt 60 t then some none else wgo (pend f) [] ((List.replicate (t + 1) ((n + 1) :: hd (n + 2) r)).flatten ++ tl (n + 2) r) (t + 1) := by
    match r, hr with
    | [], _ => rfl
    | [_], _ => rfl
  rw [e, b]
  rfl
theorem pend_total {p : List Nat} (h0 : noz p = true) (h3 : ∀ a ∈ p, a ≤ 3) (t : Nat) : ∃ r, pend 7 p t = some r := by
  have get : ∀ {q : Option (Option Nat)}, q.isSome = true → ∃ r, q = some r := fun {q} h => Option.isSome_iff_exists.mp h
  have six : ∀ b, 1 ≤ b → b ≤ 3 → ∀ s, ∃ r, pend 6 [b] s = some r := fun b h1 h2 s => by
    have : b = 1 ∨ b = 2 ∨ b = 3 := by omega
    rcases this with rfl | rfl | rfl
    · exact ⟨_, rfl⟩
    · by_cases q : 60 < s
      · exact ⟨_, late (f := 5) (n := 0) (r := []) (by decide) q⟩
      · exact get (tot_at (by omega)).1
    · by_cases q : 60 < s
      · exact ⟨_, late (f := 5) (n := 1) (r := []) (by decide) q⟩
      · exact get (tot_at (by omega)).2.1
  match p, h0, h3 with
  | [], _, _ => exact ⟨_, rfl⟩
  | _ :: _ :: _ :: _, _, _ => exact ⟨_, rfl⟩
  | [a], h0, h3 =>
    have a3 := h3 a List.mem_cons_self
    have a1 : 1 ≤ a := by cases a with
      | zero => cases h0
      | succ n => omega
    have : a = 1 ∨ a = 2 ∨ a = 3 := by omega
    rcases this with rfl | rfl | rfl
    · exact ⟨_, rfl⟩
    · by_cases q : 60 < t
      · exact ⟨_, late (f := 6) (n := 0) (r := []) (by decide) q⟩
      · exact get ((tot_at (by omega)).2.2 [2] (by decide))
    · by_cases q : 60 < t
      · exact ⟨_, late (f := 6) (n := 1) (r := []) (by decide) q⟩
      · exact get ((tot_at (by omega)).2.2 [3] (by decide))
  | [a, b], h0, h3 =>
    have a3 := h3 a List.mem_cons_self
    have b3 := h3 b (List.mem_cons_of_mem _ List.mem_cons_self)
    have a1 : 1 ≤ a := by cases a with
      | zero => cases h0
      | succ n => omega
    have b1 : 1 ≤ b := by cases a with
      | zero => cases h0
      | succ n => cases b with
        | zero => cases h0
        | succ m => omega
    have : a = 1 ∨ a = 2 ∨ a = 3 := by omega
    rcases this with rfl | rfl | rfl
    · have e : pend 7 [1, b] t = rgo (pend 6 [b]) (t + 1) (t + 1) := rfl
      rw [e]
      exact rgo_total (six b b1 b3) (t + 1) (t + 1)
    · by_cases q : 60 < t
      · exact ⟨_, late (f := 6) (n := 0) (r := [b]) (by simp) q⟩
      · refine get ((tot_at (by omega)).2.2 [2, b] ?_)
        have : b = 1 ∨ b = 2 ∨ b = 3 := by omega
        rcases this with rfl | rfl | rfl <;> decide
    · by_cases q : 60 < t
      · exact ⟨_, late (f := 6) (n := 1) (r := [b]) (by simp) q⟩
      · refine get ((tot_at (by omega)).2.2 [3, b] ?_)
        have : b = 1 ∨ b = 2 ∨ b = 3 := by omega
        rcases this with rfl | rfl | rfl <;> decide
theorem wend_total {w : List Nat} (h : ∀ a ∈ w, a ≤ 3) (t : Nat) : ∃ r, wend 7 w t = some r := wgo_total (P := fun a => a ≤ 3) (fun p t h0 h3 => pend_total h0 h3 t) w [] t rfl (fun a h => by cases h) h
/-- the first piece -/
theorem cut0 : ∀ w : List Nat, noz w = true ∨ ∃ u r, w = u ++ 0 :: r ∧ noz u = true
  | [] => .inl rfl
  | 0 :: r => .inr ⟨[], r, rfl, rfl⟩
  | (n + 1) :: r => by
    rcases cut0 r with h | ⟨u, s, rfl, h⟩
    · exact .inl h
    · exact .inr ⟨(n + 1) :: u, s, rfl, h⟩
theorem hd_tl0 (n : Nat) (r : List Nat) : ∀ u : List Nat, hd (n + 1) (u ++ 0 :: r) = hd (n + 1) u ∧ tl (n + 1) (u ++ 0 :: r) = tl (n + 1) u ++ 0 :: r
  | [] => ⟨rfl, rfl⟩
  | a :: u => by
    obtain ⟨h1, h2⟩ := hd_tl0 n r u
    unfold hd tl at *
    rw [List.cons_append, List.takeWhile_cons, List.dropWhile_cons, List.takeWhile_cons, List.dropWhile_cons]
    cases Nat.ble (n + 1) a with
    | true => exact ⟨by rw [if_pos rfl, if_pos rfl, h1], by rw [if_pos rfl, if_pos rfl, h2]⟩
    | false => exact ⟨rfl, rfl⟩
theorem next_app (n : Nat) (u r : List Nat) (t : Nat) : nextIn ((n + 1) :: u ++ 0 :: r) t = nextIn ((n + 1) :: u) t ++ 0 :: r := by
  obtain ⟨h1, h2⟩ := hd_tl0 n r u
  rw [List.cons_append, nextIn, nextIn, h1, h2, List.append_assoc]
theorem wend_next {w : List Nat} (hw : w ≠ []) (hl : w.length ≤ 5) (h3 : ∀ a ∈ w, a ≤ 3) {t : Nat} (h1 : 1 ≤ t) (h30 : t ≤ 30) : wend 7 (nextIn w t) (t + 1) = wend 7 w t := by
  have piece : ∀ n u, noz ((n + 1) :: u) = true → ((n + 1) :: u).length ≤ 5 → (∀ a ∈ (n + 1) :: u, a ≤ 3) → wend 7 ((n + 1) :: u) t = wend 7 (nextIn ((n + 1) :: u) t) (t + 1) := fun n u h0 hl h3 => by
    have h := allW_of step1_ok hl h3
    have h : (!noz ((n + 1) :: u) || (List.range 30).all fun t => eqO (wend 7 ((n + 1) :: u) (t + 1)) (wend 7 (nextIn ((n + 1) :: u) (t + 1)) (t + 2))) = true := h
    rw [h0, Bool.not_true, Bool.false_or, List.all_eq_true] at h
    have h := h (t - 1) (List.mem_range.mpr (by omega))
    rw [show t - 1 + 1 = t by omega, show t - 1 + 2 = t + 1 by omega] at h
    exact (eqO_iff h).1
  rcases cut0 w with h0 | ⟨u, r, rfl, h0⟩
  · match w, hw, h0 with
    | (n + 1) :: u, _, h0 => exact (piece n u h0 hl h3).symm
  · match u, h0 with
    | [], _ =>
      have lt : ¬ (isAbove t = true) := fun q => by
        have : maxEnd < t := Nat.ble_eq.mp q
        unfold maxEnd at this
        omega
      show wgo (pend 7) [] r (t + 1) = wgo (pend 7) [] (0 :: r) t
      rw [wgo]
      show _ = if isAbove t then some none else wgo (pend 7) [] r (t + 1)
      rw [if_neg lt]
    | (n + 1) :: u, h0 =>
      have p := piece n u h0 (by
        have := hl
        rw [List.length_append] at this
        omega) (fun a ha => h3 a (List.mem_append_left _ ha))
      rw [next_app]
      unfold wend at p ⊢
      rw [wgo_split, wgo_split, p]
/-! ### battles -/
theorem behs_at : ∀ (k t : Nat) (w : List Nat) (n : Nat), n < (behs k t w).length → (behs k t w)[n]? = some (lastB n t w).1
  | 0, t, w, n, h => by
    have : n = 0 := by
      rw [behs, List.length_singleton] at h
      omega
    subst this
    rfl
  | k + 1, t, [], n, h => by
    have : n = 0 := by
      rw [behs, List.length_singleton] at h
      omega
    subst this
    rfl
  | k + 1, t, a :: r, 0, h => rfl
  | k + 1, t, a :: r, n + 1, h => by
    rw [behs, List.length_cons] at h
    rw [behs, List.getElem?_cons_succ, behs_at k (t + 1) _ n (by omega), lastB]
theorem wayOk_le : ∀ {k n t : Nat} {w : List Nat}, n ≤ k → wayOk k t w = true → wayOk n t w = true
  | k, 0, t, w, _, _ => rfl
  | k + 1, n + 1, t, [], _, _ => rfl
  | k + 1, n + 1, t, a :: r, h, q => by
    have q : (Nat.ble t 900 && (Nat.ble r.length 900 && wayOk k (t + 1) (nextIn (a :: r) t))) = true := q
    rw [Bool.and_eq_true_iff, Bool.and_eq_true_iff] at q
    show (Nat.ble t 900 && (Nat.ble r.length 900 && wayOk n (t + 1) (nextIn (a :: r) t))) = true
    rw [q.1, q.2.1, wayOk_le (by omega) q.2.2]
    rfl
/-! ### drawn ordinals below -/
theorem mem_items {x : O} (h : Dr 0 x) : x ∈ items := by
  obtain ⟨_, h2, h3⟩ := h
  have e : ∀ y : O, (∀ e ∈ els y, e = z) → y = rep z (len y) := fun y => by
    induction y with
    | z => intro _; rfl
    | c a t _ ih =>
      intro h
      have ha := h a (by rw [els]; exact List.mem_cons_self)
      subst ha
      rw [len, rep, ← ih fun e he => h e (by rw [els]; exact List.mem_cons_of_mem _ he)]
  rw [e x h3]
  have : len x = 0 ∨ len x = 1 ∨ len x = 2 ∨ len x = 3 := by omega
  unfold items
  rcases this with q | q | q | q <;> rw [q] <;> simp [rep]
theorem dsc_W : ∀ {x : O}, W x → dsc x = true
  | z, _ => rfl
  | c a z, _ => rfl
  | c a (c b t), h => by
    have h1 : b ≤ a := h.2.2 b (by rw [els]; exact List.mem_cons_self)
    have h2 : ltb a b = false := by
      cases q : ltb a b with
      | false => rfl
      | true => exact absurd (ltb_iff.mp q) h1
    rw [dsc, h2, dsc_W h.2.1]
    rfl
theorem mem_D1 {x : O} (h : Dr 1 x) : x ∈ D1 := by
  obtain ⟨_, h2, h3⟩ := h
  unfold D1
  match x, h2, h3 with
  | z, _, _ => exact List.mem_cons_self
  | c a z, _, h3 =>
    refine List.mem_cons_of_mem _ (List.mem_flatMap.mpr ⟨a, mem_items (h3 a (by rw [els]; exact List.mem_cons_self)), ?_⟩)
    exact List.mem_cons_self
  | c a (c b z), _, h3 =>
    refine List.mem_cons_of_mem _ (List.mem_flatMap.mpr ⟨a, mem_items (h3 a (by simp [els])), ?_⟩)
    refine List.mem_cons_of_mem _ (List.mem_flatMap.mpr ⟨b, mem_items (h3 b (by simp [els])), ?_⟩)
    exact List.mem_cons_self
  | c a (c b (c d z)), _, h3 =>
    refine List.mem_cons_of_mem _ (List.mem_flatMap.mpr ⟨a, mem_items (h3 a (by simp [els])), ?_⟩)
    refine List.mem_cons_of_mem _ (List.mem_flatMap.mpr ⟨b, mem_items (h3 b (by simp [els])), ?_⟩)
    exact List.mem_cons_of_mem _ (List.mem_map.mpr ⟨d, mem_items (h3 d (by simp [els])), rfl⟩)
  | c a (c b (c d (c e t))), h2, _ =>
    simp only [len] at h2
    omega
theorem findT_of {w : List Nat} {x : O} : ∀ {k t : Nat}, findT w x k t = true → ∃ e, t ≤ e ∧ e < t + k ∧ x < ord (nextIn w e) ∧ ∀ s, t ≤ s → s < e → ord (nextIn w s) ≤ x
  | 0, t, h => by cases h
  | k + 1, t, h => by
    rw [findT] at h
    cases q : ltb x (ord (nextIn w t)) with
    | true => exact ⟨t, Nat.le_refl _, by omega, ltb_iff.mp q, fun s h1 h2 => absurd h1 (by omega)⟩
    | false =>
      rw [q, Bool.false_or] at h
      obtain ⟨e, h1, h2, h3, h4⟩ := findT_of h
      refine ⟨e, by omega, by omega, h3, fun s h5 h6 => ?_⟩
      by_cases st : s = t
      · subst st
        intro z
        rw [ltb_iff.mpr z] at q
        cases q
      · exact h4 s (by omega) h6
theorem turns_there {u : List Nat} (hl : u.length ≤ 3) (h2 : ∀ a ∈ u, a ≤ 2) {x : O} (hx : Dr 1 x) : (x < ord (1 :: u) → ∃ e, 1 ≤ e ∧ e < 31 ∧ x < ord (nextIn (1 :: u) e) ∧ ∀ s, 1 ≤ s → s < e → ord (nextIn (1 :: u) s) ≤ x) ∧ (plus x (c z z) < ord (1 :: u) → ∃ e, 1 ≤ e ∧ e < 31 ∧ plus x (c z z) < ord (nextIn (1 :: u) e) ∧ ∀ s, 1 ≤ s → s < e → ord (nextIn (1 :: u) s) ≤ plus x (c z z)) := by
  have h := allW_of short1_ok hl h2
  unfold short1 at h
  rw [List.all_eq_true] at h
  have h := h x (mem_D1 hx)
  rw [dsc_W hx.w.1, Bool.not_true, Bool.false_or, Bool.and_eq_true_iff] at h
  refine ⟨fun q => ?_, fun q => ?_⟩
  · have h := h.1
    rw [ltb_iff.mpr q, Bool.not_true, Bool.false_or] at h
    exact findT_of h
  · have h := h.2
    rw [ltb_iff.mpr q, Bool.not_true, Bool.false_or] at h
    exact findT_of h
end Pl
set_option Elab.async false
set_option linter.all false
set_option maxRecDepth 100000
/-! PlD: ordinals as data. -/
namespace Pl
open Ev PySem
namespace O
def toL : O → List D
  | z => []
  | c h t => .tup (toL h) :: toL t
def toD (x : O) : D := .tup (toL x)
theorem toL_els : ∀ x : O, toL x = (els x).map toD
  | z => rfl
  | c h t => by rw [toL, els, List.map_cons, toL_els t]; rfl
theorem toL_app : ∀ x y : O, toL (app x y) = toL x ++ toL y
  | z, _ => rfl
  | c h t, y => by rw [app, toL, toL, toL_app t y]; rfl
theorem toL_len (x : O) : (toL x).length = len x := by rw [toL_els, List.length_map, len_els]
theorem cmp_toL : ∀ a b : O, cmpL (toL a) (toL b) = cmp a b
  | z, z => by rw [toL, cmpL, cmp]
  | z, c _ _ => by rw [toL, toL, cmpL, cmp]
  | c _ _, z => by rw [toL, toL, cmpL, cmp]
  | c h t, c h' t' => by
    rw [toL, toL, cmpL, cmp, cmpD, cmp_toL h h']
    cases cmp h h' with
    | eq => exact cmp_toL t t'
    | lt => rfl
    | gt => rfl
theorem cmp_toD (a b : O) : cmpD (toD a) (toD b) = cmp a b := by unfold toD; rw [cmpD, cmp_toL]
theorem al_toL : ∀ a b : O, alL (toL a) (toL b) = true
  | z, z => rfl
  | z, c _ _ => rfl
  | c _ _, z => rfl
  | c h t, c h' t' => by rw [toL, toL, alL, alD, al_toL h h', al_toL t t']; rfl
theorem al_toD (a b : O) : alD (toD a) (toD b) = true := by unfold toD; rw [alD, al_toL]
theorem cp_toD (a b : O) : cpD (toD a) (toD b) = true := (al_cp _ _ (al_toD a b)).1
def dep : O → Nat
  | z => 0
  | c h t => max (dep h + 1) (dep t)
theorem okd_toL : ∀ (x : O) (n : Nat), dep x ≤ n → (toL x).all (okd n) = true
  | z, _, _ => rfl
  | c h t, n, k => by
    rw [dep] at k
    have k1 : dep h + 1 ≤ n := Nat.le_trans (Nat.le_max_left _ _) k
    have k2 : dep t ≤ n := Nat.le_trans (Nat.le_max_right _ _) k
    rw [toL, List.all_cons, okd_toL t n k2, Bool.and_true]
    cases n with
    | zero => omega
    | succ n =>
      rw [okd]
      exact okd_toL h n (by omega)
theorem okd_toD {x : O} {n : Nat} (h : dep x + 1 ≤ n) : okd n (toD x) = true := by
  cases n with
  | zero => omega
  | succ n =>
    unfold toD
    rw [okd]
    exact okd_toL x n (by omega)
theorem low_toL (n : Nat) : ∀ x : O, lowL n (toL x) = true
  | z => rfl
  | c h t => by rw [toL, lowL, low, low_toL n h, low_toL n t]; rfl
theorem low_toD (n : Nat) (x : O) : low n (toD x) = true := by unfold toD; rw [low, low_toL]
theorem toL_inj : ∀ {a b : O}, toL a = toL b → a = b := fun {a b} e => by
  have h := cmp_toL a b
  rw [e, cmp_toL b b, cmp_self] at h
  exact cmp_eq h.symm
theorem eqv_toD (a b : O) : PyData.eqv (toD a).py (toD b).py = decide (a = b) := by
  rw [cp_eqv _ _ (cp_toD a b), cmp_toD]
  by_cases e : a = b
  · subst e
    rw [cmp_self, decide_eq_true rfl]
    rfl
  · rw [decide_eq_false e]
    cases q : cmp a b with
    | eq => exact absurd (cmp_eq q) e
    | lt => rfl
    | gt => rfl
theorem ltD_toD (a b : O) : ltD (toD a) (toD b) = decide (a < b) := by
  unfold ltD
  rw [cmp_toD]
  show _ = decide (cmp a b = .lt)
  cases cmp a b <;> rfl
def ltO (a b : O) : Bool := decide (a < b)
theorem insR_map (a : O) : ∀ l : List O, insR ltD (toD a) (l.map toD) = (insR ltO a l).map toD
  | [] => rfl
  | b :: l => by
    rw [List.map_cons, insR, insR, ltD_toD]
    show (if ltO b a = true then _ else _) = _
    split
    · rw [List.map_cons, insR_map a l]
    · rfl
theorem isort_map : ∀ l : List O, isort ltD (l.map toD) = (isort ltO l).map toD
  | [] => rfl
  | a :: l => by rw [List.map_cons, isort, isort, isort_map l, insR_map]
theorem sorted_toD (l : List O) : (isort ltD (l.map toD)).reverse = toL (srt l) := by
  rw [isort_map, toL_els, ← List.map_reverse]
  congr 1
  refine sorted_one (le := fun a b => b ≤ a) (fun x _ y _ h1 h2 => le_antisymm h2 h1) ((List.reverse_perm _).trans ((isort_perm l).trans (srt_perm l).symm)) ?_ (srt_desc l)
  rw [List.pairwise_reverse]
  refine (isort_sorted (lt := ltO) (fun a b d h1 h2 => ?_) (fun a b h => ?_) l).imp fun {a b} h => ?_
  · exact decide_eq_false (le_trans (of_decide_eq_false h1) (of_decide_eq_false h2))
  · exact decide_eq_false (lt_asymm (of_decide_eq_true h))
  · exact of_decide_eq_false h
/-! depths -/
theorem dep_mem : ∀ {x e : O}, e ∈ els x → dep e + 1 ≤ dep x
  | z, _, h => by cases h
  | c h t, e, m => by
    rw [els] at m
    rw [dep]
    rcases List.mem_cons.mp m with rfl | m
    · exact Nat.le_max_left _ _
    · exact Nat.le_trans (dep_mem m) (Nat.le_max_right _ _)
theorem dep_le : ∀ {x : O} {n : Nat}, (∀ e ∈ els x, dep e + 1 ≤ n) → dep x ≤ n
  | z, n, _ => Nat.zero_le n
  | c h t, n, k => by
    rw [dep]
    exact Nat.max_le.mpr ⟨k h (by rw [els]; exact List.mem_cons_self), dep_le fun e he => k e (by rw [els]; exact List.mem_cons_of_mem _ he)⟩
theorem dep_plus {x y : O} {n : Nat} (hx : dep x ≤ n) (hy : dep y ≤ n) : dep (plus x y) ≤ n := dep_le fun e he => (mem_plus he).elim (fun h => Nat.le_trans (dep_mem h) hx) fun h => Nat.le_trans (dep_mem h) hy
theorem dep_term {x h : O} {n : Nat} (hx : dep x ≤ n) (hh : dep h + 1 ≤ n) : dep (term x h) ≤ n := by
  cases h with
  | z => exact hx
  | c a b =>
    cases x with
    | z => exact Nat.zero_le n
    | c x0 xt =>
      have h0 : dep x0 + 1 ≤ n := Nat.le_trans (dep_mem (x := c x0 xt) (by rw [els]; exact List.mem_cons_self)) hx
      show max (dep (plus x0 (c a b)) + 1) 0 ≤ n
      cases n with
      | zero => omega
      | succ n =>
        have := dep_plus (x := x0) (y := c a b) (n := n) (by omega) (by omega)
        omega
theorem dep_timF {x : O} {n : Nat} (hx : dep x ≤ n) : ∀ (y acc : O), dep acc ≤ n → dep y ≤ n → dep (timF x acc y) ≤ n
  | z, _, k, _ => k
  | c h t, acc, k, m => by
    rw [dep] at m
    exact dep_timF hx t _ (dep_plus k (dep_term hx (Nat.le_trans (Nat.le_max_left _ _) m))) (Nat.le_trans (Nat.le_max_right _ _) m)
theorem dep_times {x y : O} {n : Nat} (hx : dep x ≤ n) (hy : dep y ≤ n) : dep (times x y) ≤ n := by
  cases x with
  | z => exact Nat.zero_le n
  | c a b => exact dep_timF hx y z (Nat.zero_le n) hy
theorem dep_srt {l : List O} {n : Nat} (h : ∀ e ∈ l, dep e + 1 ≤ n) : dep (srt l) ≤ n := dep_le fun e he => h e ((srt_perm l).mem_iff.mp he)
theorem dep_nat {x y : O} {n : Nat} (hx : dep x ≤ n) (hy : dep y ≤ n) : dep (nat x y) ≤ n := dep_srt fun e he => (List.mem_append.mp he).elim (fun h => Nat.le_trans (dep_mem h) hx) fun h => Nat.le_trans (dep_mem h) hy
theorem dep_nprod {x y : O} {n : Nat} (hx : dep x ≤ n) (hy : dep y ≤ n) : dep (nprod x y) ≤ n := dep_srt fun e he => by
  obtain ⟨a, ha, he⟩ := List.mem_flatMap.mp he
  obtain ⟨b, hb, rfl⟩ := List.mem_map.mp he
  have h1 := Nat.le_trans (dep_mem ha) hx
  have h2 := Nat.le_trans (dep_mem hb) hy
  cases n with
  | zero => omega
  | succ n => exact Nat.succ_le_succ (dep_nat (by omega) (by omega))
theorem dep_left {x : O} {n : Nat} (hx : dep x ≤ n) (y : O) : dep (left x y) ≤ n := by
  obtain ⟨p, e⟩ := left_suffix x y
  exact dep_le fun a ha => Nat.le_trans (dep_mem (x := x) (by rw [e, els_app]; exact List.mem_append_right _ ha)) hx
theorem dep_init : ∀ {x : O} {n : Nat}, dep x ≤ n → dep (init x) ≤ n
  | z, _, h => h
  | c _ z, n, _ => Nat.zero_le n
  | c h (c a b), n, k => by
    rw [dep] at k
    show max (dep h + 1) (dep (init (c a b))) ≤ n
    exact Nat.max_le.mpr ⟨Nat.le_trans (Nat.le_max_left _ _) k, dep_init (Nat.le_trans (Nat.le_max_right _ _) k)⟩
theorem dep_rep {x : O} {n : Nat} (h : dep x + 1 ≤ n) : ∀ k, dep (rep x k) ≤ n
  | 0 => Nat.zero_le n
  | k + 1 => by
    show max (dep x + 1) (dep (rep x k)) ≤ n
    exact Nat.max_le.mpr ⟨h, dep_rep h k⟩
theorem Dr.dep : ∀ {d : Nat} {x : O}, Dr d x → O.dep x ≤ d + 1
  | 0, x, h => dep_le fun e he => by rw [h.2.2 e he]; exact Nat.le_refl _
  | d + 1, x, h => dep_le fun e he => Nat.succ_le_succ (Dr.dep (h.2.2 e he))
end O
end Pl
set_option Elab.async false
set_option linter.all false
set_option maxRecDepth 100000
set_option maxHeartbeats 0
namespace K67
open PySem PySem.Spec PyProof.Rows L2 Ev
def fd0 : FD := ⟨1, 1, .drop, [(.ret (.and_ (.inst (.var 0) .int) (.not_ (.inst (.var 0) .bool))))]⟩
def fd1 : FD := ⟨3, 3, .drop, [(.ret (.and_ (.call 0 [(.var 0)] []) (.chain .le .le (.var 1) (.var 0) (.var 2))))]⟩
def fd2 : FD := ⟨3, 3, .drop, [(.ret (.and_ (.inst (.var 0) .tuple) (.and_ (.cmp .ge (.blt .len [(.var 0)]) (.var 1)) (.or_ (.cmp .is_ (.var 2) (.cst .non)) (.cmp .le (.blt .len [(.var 0)]) (.var 2))))))]⟩
def fd3 : FD := ⟨3, 3, .drop, [(.ite (.or_ (.cmp .lt (.var 0) (.var 1)) (.and_ (.cmp .isnot (.var 2) (.cst .non)) (.cmp .gt (.var 0) (.var 2)))) [.never] [])]⟩
def fd4 : FD := ⟨1, 2, .drop, [(.ite (.inst (.var 0) .list) [(.ret (.comp (.call 4 [(.var 1)] []) (.nm 1) .seq [(.var 0)] none [1]))] []), (.ite (.inst (.var 0) .tuple) [(.ret (.blt .tuple [(.comp (.call 4 [(.var 1)] []) (.nm 1) .seq [(.var 0)] none [1])]))] []), (.ret (.var 0))]⟩
def fd5 : FD := ⟨1, 6, .drop, [(.ite (.not_ (.inst (.var 0) .tuple)) [(.ret (.cst (.int 0)))] []), (.asg (.nm 1) (.cst (.int 1))), (.for_ (.nm 2) .seq [(.var 0)] [(.asg (.nm 3) (.call 5 [(.var 2)] [])), (.ite (.cmp .eq (.var 3) (.cst (.int 0))) [(.ret (.cst (.int 0)))] []), (.aug 1 .add (.var 3))]), (.ret (.ite (.blt .all [(.comp (.cmp .ge (.var 4) (.var 5)) (.tup [(.nm 4), (.nm 5)]) .zip [(.var 0), (.slc (.var 0) (some (.cst (.int 1))) none)] none [4, 5])]) (.var 1) (.cst (.int 0))))]⟩
def fd6 : FD := ⟨1, 1, .drop, [(.ret (.chain .lt .le (.cst (.int 0)) (.call 5 [(.var 0)] []) (.cst (.int 400))))]⟩
def fd7 : FD := ⟨1, 1, .drop, [(.ret (.op .mul (.tup [(.cst (.tup []))]) (.var 0)))]⟩
def fd8 : FD := ⟨1, 1, .drop, [(.ret (.ite (.cmp .ne (.var 0) (.cst (.tup []))) (.idx (.var 0) (.op .sub (.cst (.int 0)) (.cst (.int 1)))) (.cst (.tup []))))]⟩
def fd9 : FD := ⟨1, 1, .drop, [(.ret (.or_ (.cmp .eq (.var 0) (.cst (.tup []))) (.cmp .eq (.idx (.var 0) (.cst (.int 0))) (.cst (.tup [])))))]⟩
def fd10 : FD := ⟨2, 3, .drop, [(.ite (.cmp .eq (.var 1) (.cst (.tup []))) [(.ret (.var 0))] []), (.ret (.op .add (.blt .tuple [(.comp (.var 2) (.nm 2) .seq [(.var 0)] (some (.cmp .ge (.var 2) (.idx (.var 1) (.cst (.int 0))))) [2])]) (.var 1)))]⟩
def fd11 : FD := ⟨2, 2, .drop, [(.ret (.blt .tuple [(.blt .sortedR [(.op .add (.var 0) (.var 1))])]))]⟩
def fd12 : FD := ⟨2, 3, .drop, [(.ite (.cmp .gt (.var 1) (.var 0)) [(.ret (.cst .non))] []), (.asg (.nm 2) (.cst (.int 0))), (.whl (.and_ (.cmp .lt (.var 2) (.blt .len [(.var 1)])) (.cmp .eq (.idx (.var 1) (.var 2)) (.idx (.var 0) (.var 2)))) [(.aug 2 .add (.cst (.int 1)))]), (.ret (.slc (.var 0) (some (.var 2)) none))]⟩
def fd13 : FD := ⟨2, 4, .drop, [(.asg (.nm 2) (.cst (.tup []))), (.ite (.cmp .eq (.var 0) (.cst (.tup []))) [(.ret (.var 2))] []), (.for_ (.nm 3) .seq [(.var 1)] [(.asg (.nm 2) (.call 10 [(.var 2), (.ite (.cmp .eq (.var 3) (.cst (.tup []))) (.var 0) (.tup [(.call 10 [(.idx (.var 0) (.cst (.int 0))), (.var 3)] [])]))] []))]), (.ret (.var 2))]⟩
def fd14 : FD := ⟨2, 5, .drop, [(.asg (.nm 2) (.lst [])), (.for_ (.nm 3) .seq [(.var 0)] [(.expr (.mt .extend (.var 2) [(.comp (.call 11 [(.var 3), (.var 4)] []) (.nm 4) .seq [(.var 1)] none [4])]))]), (.ret (.blt .tuple [(.blt .sortedR [(.var 2)])]))]⟩
def fd15 : FD := ⟨2, 3, .drop, [(.ite (.or_ (.cmp .eq (.var 0) (.cst (.tup []))) (.cmp .eq (.idx (.var 0) (.op .sub (.cst (.int 0)) (.cst (.int 1)))) (.cst (.tup [])))) [(.ret (.slc (.var 0) none (some (.op .sub (.cst (.int 0)) (.cst (.int 1))))))] []), (.asg (.nm 2) (.idx (.var 0) (.op .sub (.cst (.int 0)) (.cst (.int 1))))), (.ite (.cmp .eq (.idx (.var 2) (.op .sub (.cst (.int 0)) (.cst (.int 1)))) (.cst (.tup []))) [(.ret (.op .add (.slc (.var 0) none (some (.op .sub (.cst (.int 0)) (.cst (.int 1))))) (.op .mul (.tup [(.slc (.var 2) none (some (.op .sub (.cst (.int 0)) (.cst (.int 1)))))]) (.var 1))))] []), (.ret (.op .add (.slc (.var 0) none (some (.op .sub (.cst (.int 0)) (.cst (.int 1))))) (.tup [(.call 15 [(.var 2), (.var 1)] [])])))]⟩
def fd16 : FD := ⟨1, 2, .drop, [(.ret (.and_ (.call 2 [(.var 0), (.cst (.int 0)), (.cst (.int 400))] []) (.blt .all [(.comp (.call 1 [(.var 1), (.cst (.int 0)), (.cst (.int 6))] []) (.nm 1) .seq [(.var 0)] none [1])])))]⟩
def fd17 : FD := ⟨2, 3, .drop, [(.ret (.blt .tuple [(.comp (.op .add (.var 2) (.var 1)) (.nm 2) .seq [(.var 0)] none [2])]))]⟩
def fd18 : FD := ⟨2, 3, .drop, [(.ret (.blt .tuple [(.comp (.op .sub (.var 2) (.var 1)) (.nm 2) .seq [(.var 0)] none [2])]))]⟩
def fd19 : FD := ⟨1, 4, .drop, [(.par [1, 2] [(.lst []), (.lst [])]), (.for_ (.nm 3) .seq [(.var 0)] [(.ite (.cmp .eq (.var 3) (.cst (.int 0))) [(.expr (.mt .append (.var 1) [(.blt .tuple [(.var 2)])])), (.asg (.nm 2) (.lst []))] [(.expr (.mt .append (.var 2) [(.var 3)]))])]), (.ret (.op .add (.var 1) (.lst [(.blt .tuple [(.var 2)])])))]⟩
def fd20 : FD := ⟨1, 3, .drop, [(.ite (.not_ (.blt .any [(.var 0)])) [(.ret (.call 7 [(.blt .len [(.var 0)])] []))] []), (.asg (.nm 1) (.cst (.tup []))), (.for_ (.nm 2) .seq [(.rev (.call 19 [(.var 0)] []))] [(.asg (.nm 1) (.call 10 [(.var 1), (.tup [(.call 20 [(.call 18 [(.var 2), (.cst (.int 1))] [])] [])])] []))]), (.ret (.var 1))]⟩
def fd21 : FD := ⟨1, 3, .drop, [(.ite (.call 9 [(.var 0)] []) [(.ret (.op .mul (.tup [(.cst (.int 0))]) (.blt .len [(.var 0)])))] []), (.asg (.nm 1) (.call 17 [(.call 21 [(.idx (.var 0) (.op .sub (.cst (.int 0)) (.cst (.int 1))))] []), (.cst (.int 1))] [])), (.for_ (.nm 2) .seq [(.rev (.slc (.var 0) none (some (.op .sub (.cst (.int 0)) (.cst (.int 1))))))] [(.asg (.nm 1) (.op .add (.op .add (.var 1) (.tup [(.cst (.int 0))])) (.call 17 [(.call 21 [(.var 2)] []), (.cst (.int 1))] [])))]), (.ret (.var 1))]⟩
def fd22 : FD := ⟨1, 1, .drop, [(.ret (.call 21 [(.call 20 [(.var 0)] [])] []))]⟩
def fd23 : FD := ⟨2, 3, .drop, [(.asg (.nm 2) (.cst (.int 0))), (.whl (.and_ (.cmp .lt (.var 2) (.blt .len [(.var 1)])) (.cmp .ge (.idx (.var 1) (.var 2)) (.var 0))) [(.aug 2 .add (.cst (.int 1)))]), (.ret (.tup [(.slc (.var 1) none (some (.var 2))), (.slc (.var 1) (some (.var 2)) none)]))]⟩
def fd24 : FD := ⟨2, 5, .drop, [(.ite (.cmp .eq (.idx (.var 0) (.cst (.int 0))) (.cst (.int 0))) [(.ret (.slc (.var 0) (some (.cst (.int 1))) none))] []), (.asg (.nm 2) (.op .sub (.idx (.var 0) (.cst (.int 0))) (.cst (.int 1)))), (.asg (.tup [(.nm 3), (.nm 4)]) (.call 23 [(.op .add (.var 2) (.cst (.int 1))), (.slc (.var 0) (some (.cst (.int 1))) none)] [])), (.ret (.op .add (.op .mul (.op .add (.tup [(.var 2)]) (.var 3)) (.op .add (.var 1) (.cst (.int 1)))) (.var 4)))]⟩
def fd25 : FD := ⟨2, 4, .drop, [(.asg (.nm 2) (.lst [(.var 0)])), (.for_ (.nm 3) .range2 [(.cst (.int 1)), (.op .add (.var 1) (.cst (.int 1)))] [(.ite (.cmp .eq (.idx (.var 2) (.op .sub (.cst (.int 0)) (.cst (.int 1)))) (.tup [])) [(.ret (.var 2))] []), (.expr (.mt .append (.var 2) [(.call 24 [(.idx (.var 2) (.op .sub (.cst (.int 0)) (.cst (.int 1)))), (.var 3)] [])]))]), (.ret (.var 2))]⟩
def fd26 : FD := ⟨2, 3, .drop, [(.for_ (.nm 2) .range2 [(.cst (.int 1)), (.op .add (.var 1) (.cst (.int 1)))] [(.ite (.cmp .eq (.var 0) (.tup [])) [(.ret (.tup [(.tup []), (.op .sub (.var 2) (.cst (.int 1)))]))] []), (.asg (.nm 0) (.call 24 [(.var 0), (.var 2)] []))]), (.ret (.tup [(.var 0), (.var 1)]))]⟩
def fd27 : FD := ⟨2, 6, .drop, [(.asg (.nm 2) (.lst [(.tup [])])), (.for_ (.nm 3) .range1 [(.var 0)] [(.asg (.nm 2) (.comp2 (.op .add (.var 4) (.tup [(.var 5)])) (.nm 4) .seq [(.var 2)] none (.nm 5) .range1 [(.op .add (.var 1) (.cst (.int 1)))] none [4, 5] [5]))]), (.ret (.var 2))]⟩
def fd28 : FD := ⟨2, 3, .drop, [(.asg (.nm 2) (.cst (.int 1))), (.whl (.cmp .le (.call 20 [(.call 24 [(.var 0), (.var 2)] [])] []) (.var 1)) [(.aug 2 .add (.cst (.int 1)))]), (.ret (.var 2))]⟩
def fd29 : FD := ⟨2, 6, .drop, [(.par [2, 3] [(.call 20 [(.var 0)] []), (.call 20 [(.var 1)] [])]), (.ite (.cmp .le (.var 3) (.op .add (.var 2) (.tup [(.tup [])]))) [(.ret (.cst .non))] []), (.for_ (.nm 4) .range1 [(.op .add (.blt .len [(.call 22 [(.var 0)] [])]) (.cst (.int 2)))] [(.for_ (.nm 5) .seq [(.call 27 [(.var 4), (.cst (.int 6))] [])] [(.ite (.and_ (.cmp .eq (.call 22 [(.var 5)] []) (.var 5)) (.chain .lt .lt (.var 2) (.call 20 [(.var 5)] []) (.var 3))) [(.ret (.var 5))] [])])]), (.ret (.call 22 [(.op .add (.tup [(.cst (.int 0))]) (.var 0))] []))]⟩
def fd30 : FD := ⟨1, 1, .drop, [(.ite (.not_ (.call 6 [(.var 0)] [])) [.never] [])]⟩
def fd31 : FD := ⟨2, 2, .drop, [(.expr (.call 30 [(.var 0)] [])), (.expr (.call 30 [(.var 1)] []))]⟩
def fd32 : FD := ⟨1, 1, .drop, [(.expr (.call 3 [(.var 0), (.cst (.int 0)), (.cst (.int 399))] [])), (.ret (.call 7 [(.var 0)] []))]⟩
def fd33 : FD := ⟨1, 1, .drop, [(.expr (.call 30 [(.var 0)] [])), (.ret (.call 8 [(.var 0)] []))]⟩
def fd34 : FD := ⟨2, 2, .drop, [(.expr (.call 31 [(.var 0), (.var 1)] [])), (.ret (.call 10 [(.var 0), (.var 1)] []))]⟩
def fd35 : FD := ⟨2, 2, .drop, [(.expr (.call 31 [(.var 0), (.var 1)] [])), (.ret (.call 11 [(.var 0), (.var 1)] []))]⟩
def fd36 : FD := ⟨2, 2, .drop, [(.expr (.call 31 [(.var 0), (.var 1)] [])), (.ret (.call 12 [(.var 0), (.var 1)] []))]⟩
def fd37 : FD := ⟨2, 2, .drop, [(.expr (.call 31 [(.var 0), (.var 1)] [])), (.ret (.call 13 [(.var 0), (.var 1)] []))]⟩
def fd38 : FD := ⟨2, 2, .drop, [(.expr (.call 31 [(.var 0), (.var 1)] [])), (.ret (.call 14 [(.var 0), (.var 1)] []))]⟩
def fd39 : FD := ⟨1, 1, .drop, [(.expr (.call 30 [(.var 0)] [])), (.ite (.cmp .eq (.var 0) (.tup [])) [(.ret (.cst (.str ⟨#[122, 101, 114, 111]⟩)))] []), (.ret (.ite (.cmp .eq (.idx (.var 0) (.op .sub (.cst (.int 0)) (.cst (.int 1)))) (.tup [])) (.cst (.str ⟨#[115, 117, 99, 99, 101, 115, 115, 111, 114]⟩)) (.cst (.str ⟨#[108, 105, 109, 105, 116]⟩))))]⟩
def fd40 : FD := ⟨2, 2, .drop, [(.expr (.call 30 [(.var 0)] [])), (.expr (.call 3 [(.var 1), (.cst (.int 0)), (.cst (.int 20))] [])), (.ret (.call 15 [(.var 0), (.var 1)] []))]⟩
def fd41 : FD := ⟨1, 1, .drop, [(.ite (.not_ (.call 16 [(.var 0)] [])) [.never] [])]⟩
def fd42 : FD := ⟨1, 1, .drop, [(.expr (.call 41 [(.var 0)] [])), (.ret (.call 20 [(.var 0)] []))]⟩
def fd43 : FD := ⟨1, 2, .drop, [(.expr (.call 30 [(.var 0)] [])), (.asg (.nm 1) (.call 21 [(.var 0)] [])), (.ite (.not_ (.call 16 [(.var 1)] [])) [.never] []), (.ret (.var 1))]⟩
def fd44 : FD := ⟨1, 1, .drop, [(.expr (.call 41 [(.var 0)] [])), (.ret (.call 22 [(.var 0)] []))]⟩
def fd45 : FD := ⟨2, 2, .drop, [(.expr (.call 41 [(.var 0)] [])), (.expr (.call 41 [(.var 1)] []))]⟩
def fd46 : FD := ⟨2, 2, .drop, [(.expr (.call 41 [(.var 0)] [])), (.ite (.or_ (.cmp .eq (.var 0) (.tup [])) (.cmp .eq (.idx (.var 0) (.cst (.int 0))) (.cst (.int 0)))) [.never] []), (.expr (.call 30 [(.var 1)] [])), (.ite (.cmp .ge (.var 1) (.call 20 [(.var 0)] [])) [.never] []), (.ret (.call 28 [(.var 0), (.var 1)] []))]⟩
def fd47 : FD := ⟨2, 2, .drop, [(.expr (.call 45 [(.var 0), (.var 1)] [])), (.ret (.call 29 [(.var 0), (.var 1)] []))]⟩
def fd48 : FD := ⟨2, 2, .drop, [(.expr (.call 41 [(.var 0)] [])), (.ite (.cmp .eq (.var 0) (.tup [])) [.never] []), (.expr (.call 3 [(.var 1), (.cst (.int 1)), (.cst (.int 10000))] [])), (.ret (.call 24 [(.var 0), (.var 1)] []))]⟩
def fd49 : FD := ⟨2, 2, .drop, [(.expr (.call 41 [(.var 0)] [])), (.expr (.call 3 [(.var 1), (.cst (.int 0)), (.cst (.int 10000))] [])), (.ret (.idx (.call 26 [(.var 0), (.var 1)] []) (.cst (.int 0))))]⟩
def fd50 : FD := ⟨2, 4, .drop, [(.expr (.call 41 [(.var 0)] [])), (.expr (.call 3 [(.var 1), (.cst (.int 0)), (.cst (.int 10000))] [])), (.asg (.tup [(.nm 2), (.nm 3)]) (.call 26 [(.var 0), (.var 1)] [])), (.ret (.ite (.cmp .eq (.var 2) (.tup [])) (.var 3) (.cst .non)))]⟩
def fd51 : FD := ⟨2, 3, .drop, [(.expr (.call 41 [(.var 0)] [])), (.expr (.call 3 [(.var 1), (.cst (.int 0)), (.cst (.int 100))] [])), (.ret (.blt .tuple [(.comp (.call 20 [(.var 2)] []) (.nm 2) .seq [(.call 25 [(.var 0), (.var 1)] [])] none [2])]))]⟩
def fd52 : FD := ⟨1, 1, .drop, [(.expr (.call 41 [(.var 0)] [])), (.ret (.cmp .eq (.call 22 [(.var 0)] []) (.var 0)))]⟩
def fd53 : FD := ⟨2, 3, .drop, [(.asg (.nm 2) (.cst (.int 0))), (.whl (.and_ (.cmp .lt (.var 2) (.blt .len [(.var 0)])) (.cmp .gt (.idx (.var 0) (.var 2)) (.var 1))) [(.aug 2 .add (.cst (.int 1)))]), (.ret (.slc (.var 0) none (some (.var 2))))]⟩
def fd54 : FD := ⟨2, 4, .drop, [(.ite (.cmp .eq (.var 0) (.tup [])) [(.ret (.var 1))] []), (.ite (.cmp .gt (.blt .len [(.var 0)]) (.cst (.int 2))) [(.ret (.cst .non))] []), (.ite (.cmp .eq (.idx (.var 0) (.cst (.int 0))) (.cst (.int 1))) [(.ret (.call 55 [(.slc (.var 0) (some (.cst (.int 1))) none), (.var 1)] []))] []), (.asg (.nm 2) (.op .sub (.idx (.var 0) (.cst (.int 0))) (.cst (.int 1)))), (.asg (.nm 3) (.call 53 [(.slc (.var 0) (some (.cst (.int 1))) none), (.var 2)] [])), (.ite (.cmp .gt (.var 1) (.cst (.int 60))) [(.ret (.cst .non))] []), (.ret (.call 56 [(.op .add (.op .mul (.op .add (.tup [(.var 2)]) (.var 3)) (.op .add (.var 1) (.cst (.int 1)))) (.slc (.var 0) (some (.op .add (.cst (.int 1)) (.blt .len [(.var 3)]))) none)), (.op .add (.var 1) (.cst (.int 1)))] []))]⟩
def fd55 : FD := ⟨2, 4, .drop, [(.ite (.cmp .eq (.var 0) (.tup [])) [(.ret (.op .add (.op .mul (.cst (.int 2)) (.var 1)) (.cst (.int 2))))] []), (.asg (.nm 2) (.op .add (.var 1) (.cst (.int 1)))), (.for_ (.nm 3) .range1 [(.op .add (.var 1) (.cst (.int 1)))] [(.asg (.nm 2) (.call 54 [(.var 0), (.op .add (.var 2) (.cst (.int 1)))] [])), (.ite (.or_ (.cmp .is_ (.var 2) (.cst .non)) (.cmp .gt (.var 2) (.cst (.int 1000000000000000000)))) [(.ret (.cst .non))] [])]), (.ret (.var 2))]⟩
def fd56 : FD := ⟨2, 5, .drop, [(.par [2, 3] [(.var 1), (.cst (.int 0))]), (.for_ (.nm 4) .range1 [(.op .add (.blt .len [(.var 0)]) (.cst (.int 1)))] [(.ite (.or_ (.cmp .eq (.var 4) (.blt .len [(.var 0)])) (.cmp .eq (.idx (.var 0) (.var 4)) (.cst (.int 0)))) [(.asg (.nm 2) (.call 54 [(.slc (.var 0) (some (.var 3)) (some (.var 4))), (.var 2)] [])), (.ite (.or_ (.cmp .is_ (.var 2) (.cst .non)) (.cmp .gt (.var 2) (.cst (.int 1000000000000000000)))) [(.ret (.cst .non))] []), (.par [2, 3] [(.op .add (.var 2) (.blt .int [(.cmp .lt (.var 4) (.blt .len [(.var 0)]))])), (.op .add (.var 4) (.cst (.int 1)))])] [])]), (.ret (.ite (.cmp .le (.var 2) (.cst (.int 1000000000000000000))) (.var 2) (.cst .non)))]⟩
def fd57 : FD := ⟨2, 2, .drop, [(.expr (.call 41 [(.var 0)] [])), (.expr (.call 3 [(.var 1), (.cst (.int 1)), (.cst (.int 1000000))] [])), (.ret (.call 56 [(.var 0), (.var 1)] []))]⟩
def fd58 : FD := ⟨2, 7, .drop, [(.asg (.nm 2) (.ite (.cmp .lt (.var 1) (.blt .len [(.var 0)])) (.blt .int [(.idx (.var 0) (.var 1))]) (.op .add (.op .mul (.cst (.int 41)) (.var 1)) (.cst (.int 5))))), (.asg (.nm 3) (.op .add (.cst (.int 17)) (.op .mul (.cst (.int 3)) (.blt .len [(.var 0)])))), (.for_ (.tup [(.nm 4), (.nm 5)]) .enum [(.var 0)] [(.asg (.nm 3) (.op .mod (.blt .int [(.op .add (.op .mul (.var 3) (.cst (.int 1000003))) (.op .mul (.blt .int [(.var 5)]) (.op .add (.op .mul (.cst (.int 2)) (.var 4)) (.cst (.int 3)))))]) (.op .add (.op .pow (.cst (.int 10)) (.cst (.int 21))) (.cst (.int 117)))))]), (.asg (.nm 6) (.op .mod (.blt .int [(.op .add (.op .add (.op .add (.op .mul (.blt .abs [(.var 2)]) (.cst (.int 7351))) (.op .mul (.cst (.int 3)) (.blt .int [(.cmp .lt (.var 2) (.cst (.int 0)))]))) (.op .mul (.var 3) (.cst (.int 131)))) (.op .mul (.cst (.int 1009)) (.var 1)))]) (.op .add (.op .pow (.cst (.int 10)) (.cst (.int 24))) (.cst (.int 7))))), (.ret (.lst [(.blt .max2 [(.cst (.int 0)), (.op .sub (.blt .abs [(.var 2)]) (.op .pow (.cst (.int 10)) (.cst (.int 18))))]), (.var 6), (.cst (.int 1))]))]⟩
def fd59 : FD := ⟨2, 5, .drop, [(.ite (.cmp .gt (.idx (.var 0) (.cst (.int 0))) (.cst (.int 0))) [(.asg (.nm 4) (.op .mod (.blt .int [(.idx (.var 0) (.cst (.int 0)))]) (.var 1))), (.seti (.var 0) (.cst (.int 0)) (.op .fdiv (.idx (.var 0) (.cst (.int 0))) (.var 1))), (.ret (.var 4))] []), (.seti (.var 0) (.cst (.int 2)) (.op .add (.idx (.var 0) (.cst (.int 2))) (.cst (.int 1)))), (.asg (.nm 2) (.idx (.var 0) (.cst (.int 2)))), (.asg (.nm 3) (.op .mod (.blt .int [(.op .add (.op .add (.op .mul (.op .mul (.op .add (.idx (.var 0) (.cst (.int 1))) (.cst (.int 61))) (.op .add (.op .mul (.cst (.int 2)) (.var 2)) (.cst (.int 5)))) (.cst (.int 736338717))) (.op .mul (.op .mul (.var 2) (.var 2)) (.cst (.int 90001)))) (.cst (.int 29)))]) (.op .add (.op .pow (.cst (.int 10)) (.cst (.int 25))) (.cst (.int 13))))), (.asg (.nm 3) (.op .mod (.blt .int [(.op .add (.op .add (.op .mul (.var 3) (.var 3)) (.op .mul (.cst (.int 777)) (.var 2))) (.idx (.var 0) (.cst (.int 1))))]) (.op .add (.op .pow (.cst (.int 10)) (.cst (.int 27))) (.cst (.int 103))))), (.asg (.nm 3) (.op .mod (.blt .int [(.op .add (.op .add (.op .mul (.op .mul (.var 3) (.var 3)) (.cst (.int 3))) (.op .mul (.cst (.int 5)) (.var 3))) (.var 2))]) (.op .add (.op .pow (.cst (.int 10)) (.cst (.int 29))) (.cst (.int 319))))), (.ret (.op .mod (.blt .int [(.op .fdiv (.var 3) (.cst (.int 100003)))]) (.var 1)))]⟩
def fd60 : FD := ⟨2, 3, .drop, [(.ret (.ite (.cmp .eq (.var 1) (.tup [])) (.var 0) (.op .add (.blt .tuple [(.comp (.var 2) (.nm 2) .seq [(.var 0)] (some (.cmp .ge (.var 2) (.idx (.var 1) (.cst (.int 0))))) [2])]) (.var 1))))]⟩
def fd61 : FD := ⟨1, 7, .drop, [(.ite (.cmp .eq (.comp (.var 3) (.nm 3) .seq [(.var 0)] (some (.cmp .gt (.var 3) (.cst (.int 0)))) [3]) (.lst [])) [(.ret (.op .mul (.tup [(.tup [])]) (.blt .len [(.var 0)])))] []), (.par [1, 2] [(.lst []), (.lst [])]), (.for_ (.nm 3) .seq [(.op .add (.var 0) (.tup [(.cst (.int 0))]))] [(.ite (.cmp .eq (.var 3) (.cst (.int 0))) [(.expr (.mt .append (.var 1) [(.blt .tuple [(.comp (.op .sub (.var 6) (.cst (.int 1))) (.nm 6) .seq [(.var 2)] none [6])])])), (.asg (.nm 2) (.lst []))] [(.expr (.mt .append (.var 2) [(.var 3)]))])]), (.asg (.nm 4) (.tup [])), (.for_ (.nm 5) .seq [(.rev (.var 1))] [(.asg (.nm 4) (.call 60 [(.var 4), (.tup [(.call 61 [(.var 5)] [])])] []))]), (.ret (.var 4))]⟩
def fd62 : FD := ⟨1, 5, .drop, [(.asg (.nm 1) (.lst [])), (.for_ (.nm 2) .range1 [(.cst (.int 8))] [(.asg (.nm 3) (.lst [])), (.for_ (.nm 4) .seq [(.var 0)] [(.ite (.cmp .lt (.var 4) (.var 2)) [.brk] []), (.expr (.mt .append (.var 3) [(.op .sub (.var 4) (.var 2))]))]), (.expr (.mt .append (.var 1) [(.call 61 [(.blt .tuple [(.var 3)])] [])]))]), (.ret (.var 1))]⟩
def fd63 : FD := ⟨2, 4, .drop, [(.ret (.cmp .eq (.comp (.cst (.int 1)) (.tup [(.nm 2), (.nm 3)]) .zip [(.call 62 [(.var 0)] []), (.call 62 [(.var 1)] [])] (some (.cmp .lt (.var 2) (.var 3))) [2, 3]) (.lst [])))]⟩
def fd64 : FD := ⟨3, 5, .drop, [(.asg (.nm 3) (.lst [])), (.for_ (.nm 4) .range1 [(.call 59 [(.var 0), (.op .add (.var 1) (.cst (.int 1)))] [])] [(.expr (.mt .append (.var 3) [(.call 59 [(.var 0), (.op .add (.var 2) (.cst (.int 1)))] [])]))]), (.ret (.blt .tuple [(.var 3)]))]⟩
def fd65 : FD := ⟨1, 3, .drop, [(.asg (.nm 1) (.tup [(.cst (.str ⟨#[116, 111, 112]⟩))])), (.for_ (.nm 2) .seq [(.rev (.var 0))] [(.asg (.nm 1) (.tup [(.cst (.str ⟨#[115, 111, 109, 101]⟩)), (.var 2), (.var 1)]))]), (.ret (.var 1))]⟩
def fd66 : FD := ⟨2, 4, .drop, [(.asg (.nm 2) (.lst [])), (.for_ (.nm 3) .range1 [(.call 59 [(.var 0), (.cst (.int 4))] [])] [(.expr (.mt .append (.var 2) [(.ite (.cmp .gt (.var 1) (.cst (.int 0))) (.call 66 [(.var 0), (.op .sub (.var 1) (.cst (.int 1)))] []) (.tup []))]))]), (.ret (.blt .tuple [(.blt .sortedR [(.var 2)])]))]⟩
def fd67 : FD := ⟨2, 4, .drop, [(.asg (.nm 2) (.tup [])), (.for_ (.nm 3) .seq [(.ite (.cmp .ne (.var 0) (.tup [])) (.var 1) (.tup []))] [(.asg (.nm 2) (.call 60 [(.var 2), (.ite (.cmp .eq (.var 3) (.tup [])) (.var 0) (.tup [(.call 60 [(.idx (.var 0) (.cst (.int 0))), (.var 3)] [])]))] []))]), (.ret (.var 2))]⟩
def fd68 : FD := ⟨3, 4, .drop, [(.ite (.or_ (.cmp .ne (.call 34 [(.var 0), (.var 1)] []) (.call 60 [(.var 0), (.var 1)] [])) (.or_ (.cmp .ne (.call 37 [(.var 0), (.var 1)] []) (.call 67 [(.var 0), (.var 1)] [])) (.or_ (.cmp .ne (.call 34 [(.call 34 [(.var 0), (.var 1)] []), (.var 2)] []) (.call 34 [(.var 0), (.call 34 [(.var 1), (.var 2)] [])] [])) (.cmp .ne (.call 37 [(.var 0), (.call 34 [(.var 1), (.var 2)] [])] []) (.call 34 [(.call 37 [(.var 0), (.var 1)] []), (.call 37 [(.var 0), (.var 2)] [])] []))))) [(.ret (.cst (.bl false)))] []), (.ite (.or_ (.cmp .ne (.call 35 [(.var 0), (.var 1)] []) (.blt .tuple [(.blt .sortedR [(.op .add (.var 0) (.var 1))])])) (.or_ (.cmp .ne (.call 35 [(.var 0), (.call 35 [(.var 1), (.var 2)] [])] []) (.call 35 [(.call 35 [(.var 0), (.var 1)] []), (.var 2)] [])) (.cmp .gt (.call 34 [(.var 0), (.var 1)] []) (.call 35 [(.var 0), (.var 1)] [])))) [(.ret (.cst (.bl false)))] []), (.ite (.or_ (.cmp .ne (.call 38 [(.var 0), (.var 1)] []) (.call 38 [(.var 1), (.var 0)] [])) (.cmp .ne (.call 38 [(.var 0), (.call 35 [(.var 1), (.var 2)] [])] []) (.call 35 [(.call 38 [(.var 0), (.var 1)] []), (.call 38 [(.var 0), (.var 2)] [])] []))) [(.ret (.cst (.bl false)))] []), (.asg (.nm 3) (.call 36 [(.call 34 [(.var 0), (.var 1)] []), (.var 0)] [])), (.ite (.or_ (.cmp .ne (.var 3) (.var 1)) (.or_ (.cmp .ne (.cmp .is_ (.call 36 [(.var 0), (.var 1)] []) (.cst .non)) (.cmp .lt (.var 0) (.var 1))) (.and_ (.cmp .isnot (.call 36 [(.var 0), (.var 1)] []) (.cst .non)) (.cmp .ne (.call 34 [(.var 1), (.call 36 [(.var 0), (.var 1)] [])] []) (.var 0))))) [(.ret (.cst (.bl false)))] []), (.ret (.and_ (.cmp .eq (.cmp .lt (.call 34 [(.var 0), (.var 1)] []) (.call 34 [(.var 0), (.var 2)] [])) (.cmp .lt (.var 1) (.var 2))) (.and_ (.cmp .eq (.call 37 [(.var 0), (.call 32 [(.cst (.int 1))] [])] []) (.var 0)) (.and_ (.cmp .eq (.call 37 [(.call 32 [(.cst (.int 1))] []), (.var 0)] []) (.var 0)) (.and_ (.cmp .eq (.call 34 [(.var 0), (.tup [])] []) (.var 0)) (.cmp .eq (.call 34 [(.tup []), (.var 0)] []) (.var 0)))))))]⟩
def fd69 : FD := ⟨2, 7, .drop, [(.asg (.nm 2) (.ite (.cmp .eq (.var 0) (.tup [])) (.cst (.str ⟨#[122, 101, 114, 111]⟩)) (.ite (.cmp .eq (.idx (.var 0) (.op .sub (.cst (.int 0)) (.cst (.int 1)))) (.tup [])) (.cst (.str ⟨#[115, 117, 99, 99, 101, 115, 115, 111, 114]⟩)) (.cst (.str ⟨#[108, 105, 109, 105, 116]⟩))))), (.ite (.or_ (.cmp .ne (.call 39 [(.var 0)] []) (.var 2)) (.cmp .ne (.call 33 [(.var 0)] []) (.ite (.cmp .ne (.var 0) (.tup [])) (.idx (.var 0) (.op .sub (.cst (.int 0)) (.cst (.int 1)))) (.tup [])))) [(.ret (.cst (.bl false)))] []), (.ite (.cmp .ne (.var 2) (.cst (.str ⟨#[108, 105, 109, 105, 116]⟩))) [(.ret (.cmp .eq (.call 40 [(.var 0), (.cst (.int 3))] []) (.slc (.var 0) none (some (.op .sub (.cst (.int 0)) (.cst (.int 1)))))))] []), (.asg (.nm 3) (.comp (.call 40 [(.var 0), (.var 4)] []) (.nm 4) .range1 [(.cst (.int 8))] none [4])), (.ite (.or_ (.cmp .ne (.comp (.cst (.int 1)) (.tup [(.nm 5), (.nm 6)]) .zip [(.var 3), (.slc (.var 3) (some (.cst (.int 1))) none)] (some (.not_ (.cmp .lt (.var 5) (.var 6)))) [5, 6]) (.lst [])) (.not_ (.cmp .lt (.idx (.var 3) (.op .sub (.cst (.int 0)) (.cst (.int 1)))) (.var 0)))) [(.ret (.cst (.bl false)))] []), (.ret (.and_ (.cmp .eq (.call 40 [(.cst (.int 2)), (.var 0)] [1, 0]) (.idx (.var 3) (.cst (.int 2)))) (.or_ (.not_ (.cmp .lt (.var 1) (.call 40 [(.var 0), (.cst (.int 0))] []))) (.cmp .lt (.var 1) (.idx (.var 3) (.cst (.int 5)))))))]⟩
def fd70 : FD := ⟨1, 19, .drop, [(.for_ (.nm 1) .range1 [(.blt .max2 [(.cst (.int 1)), (.blt .min2 [(.cst (.int 2)), (.blt .len [(.var 0)])])])] [(.asg (.nm 2) (.call 58 [(.var 0), (.var 1)] [])), (.for_ (.nm 3) .range1 [(.cst (.int 4))] [(.par [11, 12, 13] [(.call 66 [(.var 2), (.cst (.int 2))] []), (.call 66 [(.var 2), (.cst (.int 2))] []), (.call 66 [(.var 2), (.cst (.int 1))] [])]), (.ite (.or_ (.not_ (.call 68 [(.var 11), (.var 12), (.var 13)] [])) (.not_ (.call 69 [(.var 11), (.var 12)] []))) [(.ret (.cst (.bl false)))] [])]), (.asg (.nm 4) (.call 64 [(.var 2), (.cst (.int 5)), (.cst (.int 3))] [])), (.asg (.nm 5) (.call 51 [(.var 4), (.cst (.int 3))] [])), (.ite (.or_ (.cmp .ne (.idx (.var 5) (.cst (.int 0))) (.call 61 [(.var 4)] [])) (.or_ (.cmp .ne (.comp (.cst (.int 1)) (.tup [(.nm 8), (.nm 9)]) .zip [(.var 5), (.slc (.var 5) (some (.cst (.int 1))) none)] (some (.not_ (.cmp .lt (.var 9) (.var 8)))) [8, 9]) (.lst [])) (.cmp .ne (.slc (.var 5) (some (.cst (.int 1))) none) (.blt .tuple [(.comp (.call 42 [(.call 49 [(.var 4), (.var 18)] [])] []) (.nm 18) .range2 [(.cst (.int 1)), (.blt .len [(.var 5)])] none [18])])))) [(.ret (.cst (.bl false)))] []), (.ite (.cmp .ne (.var 4) (.tup [])) [(.asg (.nm 3) (.op .add (.cst (.int 1)) (.call 59 [(.var 2), (.cst (.int 30))] []))), (.asg (.nm 14) (.call 57 [(.var 4), (.var 3)] [])), (.asg (.nm 15) (.call 48 [(.var 4), (.var 3)] [])), (.ite (.and_ (.cmp .lt (.blt .len [(.var 15)]) (.cst (.int 300))) (.cmp .ne (.call 57 [(.var 15), (.op .add (.var 3) (.cst (.int 1)))] []) (.var 14))) [(.ret (.cst (.bl false)))] []), (.ite (.and_ (.cmp .isnot (.var 14) (.cst .non)) (.and_ (.cmp .eq (.var 3) (.cst (.int 1))) (.and_ (.cmp .lt (.var 14) (.cst (.int 700))) (.cmp .ne (.call 50 [(.var 4), (.cst (.int 3000))] []) (.op .sub (.var 14) (.cst (.int 1))))))) [(.ret (.cst (.bl false)))] [])] []), (.asg (.nm 6) (.blt .tuple [(.op .add (.lst [(.cst (.int 1))]) (.comp (.var 17) (.nm 17) .seq [(.call 64 [(.var 2), (.cst (.int 3)), (.cst (.int 2))] [])] none [17]))])), (.asg (.nm 7) (.call 61 [(.var 6)] [])), (.for_ (.nm 3) .range1 [(.cst (.int 4))] [(.asg (.nm 16) (.call 66 [(.var 2), (.cst (.int 1))] [])), (.ite (.cmp .lt (.var 16) (.var 7)) [(.asg (.nm 10) (.call 46 [(.var 6), (.var 16)] [])), (.ite (.or_ (.cmp .ne (.call 46 [(.var 16), (.var 6)] [1, 0]) (.var 10)) (.or_ (.not_ (.cmp .lt (.var 16) (.call 42 [(.call 48 [(.var 6), (.var 10)] [])] []))) (.and_ (.cmp .gt (.var 10) (.cst (.int 1))) (.cmp .lt (.var 16) (.call 42 [(.call 48 [(.var 6), (.op .sub (.var 10) (.cst (.int 1)))] [])] []))))) [(.ret (.cst (.bl false)))] []), (.ite (.and_ (.cmp .lt (.call 34 [(.var 16), (.call 32 [(.cst (.int 1))] [])] []) (.var 7)) (.cmp .lt (.call 46 [(.var 6), (.call 34 [(.var 16), (.call 32 [(.cst (.int 1))] [])] [])] []) (.var 10))) [(.ret (.cst (.bl false)))] [])] [])]), (.par [8, 9] [(.call 64 [(.var 2), (.cst (.int 3)), (.cst (.int 2))] []), (.call 64 [(.var 2), (.cst (.int 3)), (.cst (.int 2))] [])]), (.asg (.nm 10) (.call 47 [(.var 8), (.var 9)] [])), (.ite (.or_ (.cmp .ne (.cmp .isnot (.var 10) (.cst .non)) (.cmp .lt (.call 34 [(.call 61 [(.var 8)] []), (.call 32 [(.cst (.int 1))] [])] []) (.call 61 [(.var 9)] []))) (.cmp .ne (.call 47 [(.var 9), (.var 8)] [1, 0]) (.var 10))) [(.ret (.cst (.bl false)))] []), (.ite (.and_ (.cmp .isnot (.var 10) (.cst .non)) (.or_ (.cmp .isnot (.call 52 [(.var 10)] []) (.cst (.bl true))) (.or_ (.not_ (.chain .lt .lt (.call 61 [(.var 8)] []) (.call 42 [(.var 10)] []) (.call 61 [(.var 9)] []))) (.or_ (.cmp .ne (.call 44 [(.var 10)] []) (.var 10)) (.cmp .ne (.call 43 [(.call 42 [(.var 10)] [])] []) (.var 10)))))) [(.ret (.cst (.bl false)))] [])]), (.ret (.cst (.bl true)))]⟩
def fds : List FD := [fd0, fd1, fd2, fd3, fd4, fd5, fd6, fd7, fd8, fd9, fd10, fd11, fd12, fd13, fd14, fd15, fd16, fd17, fd18, fd19, fd20, fd21, fd22, fd23, fd24, fd25, fd26, fd27, fd28, fd29, fd30, fd31, fd32, fd33, fd34, fd35, fd36, fd37, fd38, fd39, fd40, fd41, fd42, fd43, fd44, fd45, fd46, fd47, fd48, fd49, fd50, fd51, fd52, fd53, fd54, fd55, fd56, fd57, fd58, fd59, fd60, fd61, fd62, fd63, fd64, fd65, fd66, fd67, fd68, fd69, fd70]
def T (i : Nat) : Option FD := fds[i]?
theorem fds_eq : rows.map (Row.fd (packG rows cs fr) (packK rows)) = fds := by kernel_rfl
theorem hT (i : Nat) (r : Ev.Row) (h : rows[i]? = some r) : T i = some (r.fd (packG rows cs fr) (packK rows)) := by
  unfold T
  rw [← fds_eq, List.getElem?_map, h]
  rfl
theorem ok0 : RowOk row0 := ⟨⟨rfl, rfl, rfl, by decide +kernel, rfl, by decide +kernel, by decide +kernel⟩, fun kV doc pm an cdv ct us hl => match us, hl with | [_], _ => rfl, (fun p hp => nomatch hp)⟩
theorem ok1 : RowOk row1 := ⟨⟨rfl, rfl, rfl, by decide +kernel, rfl, by decide +kernel, by decide +kernel⟩, fun kV doc pm an cdv ct us hl => match us, hl with | [_, _, _], _ => rfl, (fun p hp => nomatch hp)⟩
theorem ok2 : RowOk row2 := ⟨⟨rfl, rfl, rfl, by decide +kernel, rfl, by decide +kernel, by decide +kernel⟩, fun kV doc pm an cdv ct us hl => match us, hl with | [_, _, _], _ => rfl, (fun p hp => nomatch hp)⟩
theorem ok3 : RowOk row3 := ⟨⟨rfl, rfl, rfl, by decide +kernel, rfl, by decide +kernel, by decide +kernel⟩, fun kV doc pm an cdv ct us hl => match us, hl with | [_, _, _], _ => rfl, (fun p hp => nomatch hp)⟩
theorem ok4 : RowOk row4 := ⟨⟨rfl, rfl, rfl, by decide +kernel, rfl, by decide +kernel, by decide +kernel⟩, fun kV doc pm an cdv ct us hl => match us, hl with | [_], _ => rfl, (fun p hp => nomatch hp)⟩
theorem ok5 : RowOk row5 := ⟨⟨rfl, rfl, rfl, by decide +kernel, rfl, by decide +kernel, by decide +kernel⟩, fun kV doc pm an cdv ct us hl => match us, hl with | [_], _ => rfl, (fun p hp => nomatch hp)⟩
theorem ok6 : RowOk row6 := ⟨⟨rfl, rfl, rfl, by decide +kernel, rfl, by decide +kernel, by decide +kernel⟩, fun kV doc pm an cdv ct us hl => match us, hl with | [_], _ => rfl, (fun p hp => nomatch hp)⟩
theorem ok7 : RowOk row7 := ⟨⟨rfl, rfl, rfl, by decide +kernel, rfl, by decide +kernel, by decide +kernel⟩, fun kV doc pm an cdv ct us hl => match us, hl with | [_], _ => rfl, (fun p hp => nomatch hp)⟩
theorem ok8 : RowOk row8 := ⟨⟨rfl, rfl, rfl, by decide +kernel, rfl, by decide +kernel, by decide +kernel⟩, fun kV doc pm an cdv ct us hl => match us, hl with | [_], _ => rfl, (fun p hp => nomatch hp)⟩
theorem ok9 : RowOk row9 := ⟨⟨rfl, rfl, rfl, by decide +kernel, rfl, by decide +kernel, by decide +kernel⟩, fun kV doc pm an cdv ct us hl => match us, hl with | [_], _ => rfl, (fun p hp => nomatch hp)⟩
theorem ok10 : RowOk row10 := ⟨⟨rfl, rfl, rfl, by decide +kernel, rfl, by decide +kernel, by decide +kernel⟩, fun kV doc pm an cdv ct us hl => match us, hl with | [_, _], _ => rfl, (fun p hp => nomatch hp)⟩
theorem ok11 : RowOk row11 := ⟨⟨rfl, rfl, rfl, by decide +kernel, rfl, by decide +kernel, by decide +kernel⟩, fun kV doc pm an cdv ct us hl => match us, hl with | [_, _], _ => rfl, (fun p hp => nomatch hp)⟩
theorem ok12 : RowOk row12 := ⟨⟨rfl, rfl, rfl, by decide +kernel, rfl, by decide +kernel, by decide +kernel⟩, fun kV doc pm an cdv ct us hl => match us, hl with | [_, _], _ => rfl, (fun p hp => nomatch hp)⟩
theorem ok13 : RowOk row13 := ⟨⟨rfl, rfl, rfl, by decide +kernel, rfl, by decide +kernel, by decide +kernel⟩, fun kV doc pm an cdv ct us hl => match us, hl with | [_, _], _ => rfl, (fun p hp => nomatch hp)⟩
theorem ok14 : RowOk row14 := ⟨⟨rfl, rfl, rfl, by decide +kernel, rfl, by decide +kernel, by decide +kernel⟩, fun kV doc pm an cdv ct us hl => match us, hl with | [_, _], _ => rfl, (fun p hp => nomatch hp)⟩
theorem ok15 : RowOk row15 := ⟨⟨rfl, rfl, rfl, by decide +kernel, rfl, by decide +kernel, by decide +kernel⟩, fun kV doc pm an cdv ct us hl => match us, hl with | [_, _], _ => rfl, (fun p hp => nomatch hp)⟩
theorem ok16 : RowOk row16 := ⟨⟨rfl, rfl, rfl, by decide +kernel, rfl, by decide +kernel, by decide +kernel⟩, fun kV doc pm an cdv ct us hl => match us, hl with | [_], _ => rfl, (fun p hp => nomatch hp)⟩
theorem ok17 : RowOk row17 := ⟨⟨rfl, rfl, rfl, by decide +kernel, rfl, by decide +kernel, by decide +kernel⟩, fun kV doc pm an cdv ct us hl => match us, hl with | [_, _], _ => rfl, (fun p hp => nomatch hp)⟩
theorem ok18 : RowOk row18 := ⟨⟨rfl, rfl, rfl, by decide +kernel, rfl, by decide +kernel, by decide +kernel⟩, fun kV doc pm an cdv ct us hl => match us, hl with | [_, _], _ => rfl, (fun p hp => nomatch hp)⟩
theorem ok19 : RowOk row19 := ⟨⟨rfl, rfl, rfl, by decide +kernel, rfl, by decide +kernel, by decide +kernel⟩, fun kV doc pm an cdv ct us hl => match us, hl with | [_], _ => rfl, (fun p hp => nomatch hp)⟩
theorem ok20 : RowOk row20 := ⟨⟨rfl, rfl, rfl, by decide +kernel, rfl, by decide +kernel, by decide +kernel⟩, fun kV doc pm an cdv ct us hl => match us, hl with | [_], _ => rfl, (fun p hp => nomatch hp)⟩
theorem ok21 : RowOk row21 := ⟨⟨rfl, rfl, rfl, by decide +kernel, rfl, by decide +kernel, by decide +kernel⟩, fun kV doc pm an cdv ct us hl => match us, hl with | [_], _ => rfl, (fun p hp => nomatch hp)⟩
theorem ok22 : RowOk row22 := ⟨⟨rfl, rfl, rfl, by decide +kernel, rfl, by decide +kernel, by decide +kernel⟩, fun kV doc pm an cdv ct us hl => match us, hl with | [_], _ => rfl, (fun p hp => nomatch hp)⟩
theorem ok23 : RowOk row23 := ⟨⟨rfl, rfl, rfl, by decide +kernel, rfl, by decide +kernel, by decide +kernel⟩, fun kV doc pm an cdv ct us hl => match us, hl with | [_, _], _ => rfl, (fun p hp => nomatch hp)⟩
theorem ok24 : RowOk row24 := ⟨⟨rfl, rfl, rfl, by decide +kernel, rfl, by decide +kernel, by decide +kernel⟩, fun kV doc pm an cdv ct us hl => match us, hl with | [_, _], _ => rfl, (fun p hp => nomatch hp)⟩
theorem ok25 : RowOk row25 := ⟨⟨rfl, rfl, rfl, by decide +kernel, rfl, by decide +kernel, by decide +kernel⟩, fun kV doc pm an cdv ct us hl => match us, hl with | [_, _], _ => rfl, (fun p hp => nomatch hp)⟩
theorem ok26 : RowOk row26 := ⟨⟨rfl, rfl, rfl, by decide +kernel, rfl, by decide +kernel, by decide +kernel⟩, fun kV doc pm an cdv ct us hl => match us, hl with | [_, _], _ => rfl, (fun p hp => nomatch hp)⟩
theorem ok27 : RowOk row27 := ⟨⟨rfl, rfl, rfl, by decide +kernel, rfl, by decide +kernel, by decide +kernel⟩, fun kV doc pm an cdv ct us hl => match us, hl with | [_, _], _ => rfl, (fun p hp => nomatch hp)⟩
theorem ok28 : RowOk row28 := ⟨⟨rfl, rfl, rfl, by decide +kernel, rfl, by decide +kernel, by decide +kernel⟩, fun kV doc pm an cdv ct us hl => match us, hl with | [_, _], _ => rfl, (fun p hp => nomatch hp)⟩
theorem ok29 : RowOk row29 := ⟨⟨rfl, rfl, rfl, by decide +kernel, rfl, by decide +kernel, by decide +kernel⟩, fun kV doc pm an cdv ct us hl => match us, hl with | [_, _], _ => rfl, (fun p hp => nomatch hp)⟩
theorem ok30 : RowOk row30 := ⟨⟨rfl, rfl, rfl, by decide +kernel, rfl, by decide +kernel, by decide +kernel⟩, fun kV doc pm an cdv ct us hl => match us, hl with | [_], _ => rfl, (fun p hp => nomatch hp)⟩
theorem ok31 : RowOk row31 := ⟨⟨rfl, rfl, rfl, by decide +kernel, rfl, by decide +kernel, by decide +kernel⟩, fun kV doc pm an cdv ct us hl => match us, hl with | [_, _], _ => rfl, (fun p hp => nomatch hp)⟩
theorem ok32 : RowOk row32 := ⟨⟨rfl, rfl, rfl, by decide +kernel, rfl, by decide +kernel, by decide +kernel⟩, fun kV doc pm an cdv ct us hl => match us, hl with | [_], _ => rfl, (fun p hp => nomatch hp)⟩
theorem ok33 : RowOk row33 := ⟨⟨rfl, rfl, rfl, by decide +kernel, rfl, by decide +kernel, by decide +kernel⟩, fun kV doc pm an cdv ct us hl => match us, hl with | [_], _ => rfl, (fun p hp => nomatch hp)⟩
theorem ok34 : RowOk row34 := ⟨⟨rfl, rfl, rfl, by decide +kernel, rfl, by decide +kernel, by decide +kernel⟩, fun kV doc pm an cdv ct us hl => match us, hl with | [_, _], _ => rfl, (fun p hp => nomatch hp)⟩
theorem ok35 : RowOk row35 := ⟨⟨rfl, rfl, rfl, by decide +kernel, rfl, by decide +kernel, by decide +kernel⟩, fun kV doc pm an cdv ct us hl => match us, hl with | [_, _], _ => rfl, (fun p hp => nomatch hp)⟩
theorem ok36 : RowOk row36 := ⟨⟨rfl, rfl, rfl, by decide +kernel, rfl, by decide +kernel, by decide +kernel⟩, fun kV doc pm an cdv ct us hl => match us, hl with | [_, _], _ => rfl, (fun p hp => nomatch hp)⟩
theorem ok37 : RowOk row37 := ⟨⟨rfl, rfl, rfl, by decide +kernel, rfl, by decide +kernel, by decide +kernel⟩, fun kV doc pm an cdv ct us hl => match us, hl with | [_, _], _ => rfl, (fun p hp => nomatch hp)⟩
theorem ok38 : RowOk row38 := ⟨⟨rfl, rfl, rfl, by decide +kernel, rfl, by decide +kernel, by decide +kernel⟩, fun kV doc pm an cdv ct us hl => match us, hl with | [_, _], _ => rfl, (fun p hp => nomatch hp)⟩
theorem ok39 : RowOk row39 := ⟨⟨rfl, rfl, rfl, by decide +kernel, rfl, by decide +kernel, by decide +kernel⟩, fun kV doc pm an cdv ct us hl => match us, hl with | [_], _ => rfl, (fun p hp => nomatch hp)⟩
theorem ok40 : RowOk row40 := ⟨⟨rfl, rfl, rfl, by decide +kernel, rfl, by decide +kernel, by decide +kernel⟩, fun kV doc pm an cdv ct us hl => match us, hl with | [_, _], _ => rfl, fun p hp => by
    simp only [row40, rw_, List.mem_cons, List.not_mem_nil, or_false] at hp
    subst hp
    exact ⟨(fun z => nomatch z), fun kV doc pm an cdv ct ws hl => match ws, hl with | [_, _], _ => rfl⟩⟩
theorem ok41 : RowOk row41 := ⟨⟨rfl, rfl, rfl, by decide +kernel, rfl, by decide +kernel, by decide +kernel⟩, fun kV doc pm an cdv ct us hl => match us, hl with | [_], _ => rfl, (fun p hp => nomatch hp)⟩
theorem ok42 : RowOk row42 := ⟨⟨rfl, rfl, rfl, by decide +kernel, rfl, by decide +kernel, by decide +kernel⟩, fun kV doc pm an cdv ct us hl => match us, hl with | [_], _ => rfl, (fun p hp => nomatch hp)⟩
theorem ok43 : RowOk row43 := ⟨⟨rfl, rfl, rfl, by decide +kernel, rfl, by decide +kernel, by decide +kernel⟩, fun kV doc pm an cdv ct us hl => match us, hl with | [_], _ => rfl, (fun p hp => nomatch hp)⟩
theorem ok44 : RowOk row44 := ⟨⟨rfl, rfl, rfl, by decide +kernel, rfl, by decide +kernel, by decide +kernel⟩, fun kV doc pm an cdv ct us hl => match us, hl with | [_], _ => rfl, (fun p hp => nomatch hp)⟩
theorem ok45 : RowOk row45 := ⟨⟨rfl, rfl, rfl, by decide +kernel, rfl, by decide +kernel, by decide +kernel⟩, fun kV doc pm an cdv ct us hl => match us, hl with | [_, _], _ => rfl, (fun p hp => nomatch hp)⟩
theorem ok46 : RowOk row46 := ⟨⟨rfl, rfl, rfl, by decide +kernel, rfl, by decide +kernel, by decide +kernel⟩, fun kV doc pm an cdv ct us hl => match us, hl with | [_, _], _ => rfl, fun p hp => by
    simp only [row46, rw_, List.mem_cons, List.not_mem_nil, or_false] at hp
    subst hp
    exact ⟨(fun z => nomatch z), fun kV doc pm an cdv ct ws hl => match ws, hl with | [_, _], _ => rfl⟩⟩
theorem ok47 : RowOk row47 := ⟨⟨rfl, rfl, rfl, by decide +kernel, rfl, by decide +kernel, by decide +kernel⟩, fun kV doc pm an cdv ct us hl => match us, hl with | [_, _], _ => rfl, fun p hp => by
    simp only [row47, rw_, List.mem_cons, List.not_mem_nil, or_false] at hp
    subst hp
    exact ⟨(fun z => nomatch z), fun kV doc pm an cdv ct ws hl => match ws, hl with | [_, _], _ => rfl⟩⟩
theorem ok48 : RowOk row48 := ⟨⟨rfl, rfl, rfl, by decide +kernel, rfl, by decide +kernel, by decide +kernel⟩, fun kV doc pm an cdv ct us hl => match us, hl with | [_, _], _ => rfl, (fun p hp => nomatch hp)⟩
theorem ok49 : RowOk row49 := ⟨⟨rfl, rfl, rfl, by decide +kernel, rfl, by decide +kernel, by decide +kernel⟩, fun kV doc pm an cdv ct us hl => match us, hl with | [_, _], _ => rfl, (fun p hp => nomatch hp)⟩
theorem ok50 : RowOk row50 := ⟨⟨rfl, rfl, rfl, by decide +kernel, rfl, by decide +kernel, by decide +kernel⟩, fun kV doc pm an cdv ct us hl => match us, hl with | [_, _], _ => rfl, (fun p hp => nomatch hp)⟩
theorem ok51 : RowOk row51 := ⟨⟨rfl, rfl, rfl, by decide +kernel, rfl, by decide +kernel, by decide +kernel⟩, fun kV doc pm an cdv ct us hl => match us, hl with | [_, _], _ => rfl, (fun p hp => nomatch hp)⟩
theorem ok52 : RowOk row52 := ⟨⟨rfl, rfl, rfl, by decide +kernel, rfl, by decide +kernel, by decide +kernel⟩, fun kV doc pm an cdv ct us hl => match us, hl with | [_], _ => rfl, (fun p hp => nomatch hp)⟩
theorem ok53 : RowOk row53 := ⟨⟨rfl, rfl, rfl, by decide +kernel, rfl, by decide +kernel, by decide +kernel⟩, fun kV doc pm an cdv ct us hl => match us, hl with | [_, _], _ => rfl, (fun p hp => nomatch hp)⟩
theorem ok54 : RowOk row54 := ⟨⟨rfl, rfl, rfl, by decide +kernel, rfl, by decide +kernel, by decide +kernel⟩, fun kV doc pm an cdv ct us hl => match us, hl with | [_, _], _ => rfl, (fun p hp => nomatch hp)⟩
theorem ok55 : RowOk row55 := ⟨⟨rfl, rfl, rfl, by decide +kernel, rfl, by decide +kernel, by decide +kernel⟩, fun kV doc pm an cdv ct us hl => match us, hl with | [_, _], _ => rfl, (fun p hp => nomatch hp)⟩
theorem ok56 : RowOk row56 := ⟨⟨rfl, rfl, rfl, by decide +kernel, rfl, by decide +kernel, by decide +kernel⟩, fun kV doc pm an cdv ct us hl => match us, hl with | [_, _], _ => rfl, (fun p hp => nomatch hp)⟩
theorem ok57 : RowOk row57 := ⟨⟨rfl, rfl, rfl, by decide +kernel, rfl, by decide +kernel, by decide +kernel⟩, fun kV doc pm an cdv ct us hl => match us, hl with | [_, _], _ => rfl, (fun p hp => nomatch hp)⟩
theorem ok58 : RowOk row58 := ⟨⟨rfl, rfl, rfl, by decide +kernel, rfl, by decide +kernel, by decide +kernel⟩, fun kV doc pm an cdv ct us hl => match us, hl with | [_, _], _ => rfl, (fun p hp => nomatch hp)⟩
theorem ok59 : RowOk row59 := ⟨⟨rfl, rfl, rfl, by decide +kernel, rfl, by decide +kernel, by decide +kernel⟩, fun kV doc pm an cdv ct us hl => match us, hl with | [_, _], _ => rfl, (fun p hp => nomatch hp)⟩
theorem ok60 : RowOk row60 := ⟨⟨rfl, rfl, rfl, by decide +kernel, rfl, by decide +kernel, by decide +kernel⟩, fun kV doc pm an cdv ct us hl => match us, hl with | [_, _], _ => rfl, (fun p hp => nomatch hp)⟩
theorem ok61 : RowOk row61 := ⟨⟨rfl, rfl, rfl, by decide +kernel, rfl, by decide +kernel, by decide +kernel⟩, fun kV doc pm an cdv ct us hl => match us, hl with | [_], _ => rfl, (fun p hp => nomatch hp)⟩
theorem ok62 : RowOk row62 := ⟨⟨rfl, rfl, rfl, by decide +kernel, rfl, by decide +kernel, by decide +kernel⟩, fun kV doc pm an cdv ct us hl => match us, hl with | [_], _ => rfl, (fun p hp => nomatch hp)⟩
theorem ok63 : RowOk row63 := ⟨⟨rfl, rfl, rfl, by decide +kernel, rfl, by decide +kernel, by decide +kernel⟩, fun kV doc pm an cdv ct us hl => match us, hl with | [_, _], _ => rfl, (fun p hp => nomatch hp)⟩
theorem ok64 : RowOk row64 := ⟨⟨rfl, rfl, rfl, by decide +kernel, rfl, by decide +kernel, by decide +kernel⟩, fun kV doc pm an cdv ct us hl => match us, hl with | [_, _, _], _ => rfl, (fun p hp => nomatch hp)⟩
theorem ok65 : RowOk row65 := ⟨⟨rfl, rfl, rfl, by decide +kernel, rfl, by decide +kernel, by decide +kernel⟩, fun kV doc pm an cdv ct us hl => match us, hl with | [_], _ => rfl, (fun p hp => nomatch hp)⟩
theorem ok66 : RowOk row66 := ⟨⟨rfl, rfl, rfl, by decide +kernel, rfl, by decide +kernel, by decide +kernel⟩, fun kV doc pm an cdv ct us hl => match us, hl with | [_, _], _ => rfl, (fun p hp => nomatch hp)⟩
theorem ok67 : RowOk row67 := ⟨⟨rfl, rfl, rfl, by decide +kernel, rfl, by decide +kernel, by decide +kernel⟩, fun kV doc pm an cdv ct us hl => match us, hl with | [_, _], _ => rfl, (fun p hp => nomatch hp)⟩
theorem ok68 : RowOk row68 := ⟨⟨rfl, rfl, rfl, by decide +kernel, rfl, by decide +kernel, by decide +kernel⟩, fun kV doc pm an cdv ct us hl => match us, hl with | [_, _, _], _ => rfl, (fun p hp => nomatch hp)⟩
theorem ok69 : RowOk row69 := ⟨⟨rfl, rfl, rfl, by decide +kernel, rfl, by decide +kernel, by decide +kernel⟩, fun kV doc pm an cdv ct us hl => match us, hl with | [_, _], _ => rfl, (fun p hp => nomatch hp)⟩
theorem ok70 : RowOk row70 := ⟨⟨rfl, rfl, rfl, by decide +kernel, rfl, by decide +kernel, by decide +kernel⟩, fun kV doc pm an cdv ct us hl => match us, hl with | [_], _ => rfl, (fun p hp => nomatch hp)⟩
theorem rows_ok : ∀ r ∈ rows, RowOk r := List.forall_mem_cons.mpr ⟨ok0, List.forall_mem_cons.mpr ⟨ok1, List.forall_mem_cons.mpr ⟨ok2, List.forall_mem_cons.mpr ⟨ok3, List.forall_mem_cons.mpr ⟨ok4, List.forall_mem_cons.mpr ⟨ok5, List.forall_mem_cons.mpr ⟨ok6, List.forall_mem_cons.mpr ⟨ok7, List.forall_mem_cons.mpr ⟨ok8, List.forall_mem_cons.mpr ⟨ok9, List.forall_mem_cons.mpr ⟨ok10, List.forall_mem_cons.mpr ⟨ok11, List.forall_mem_cons.mpr ⟨ok12, List.forall_mem_cons.mpr ⟨ok13, List.forall_mem_cons.mpr ⟨ok14, List.forall_mem_cons.mpr ⟨ok15, List.forall_mem_cons.mpr ⟨ok16, List.forall_mem_cons.mpr ⟨ok17, List.forall_mem_cons.mpr ⟨ok18, List.forall_mem_cons.mpr ⟨ok19, List.forall_mem_cons.mpr ⟨ok20, List.forall_mem_cons.mpr ⟨ok21, List.forall_mem_cons.mpr ⟨ok22, List.forall_mem_cons.mpr ⟨ok23, List.forall_mem_cons.mpr ⟨ok24, List.forall_mem_cons.mpr ⟨ok25, List.forall_mem_cons.mpr ⟨ok26, List.forall_mem_cons.mpr ⟨ok27, List.forall_mem_cons.mpr ⟨ok28, List.forall_mem_cons.mpr ⟨ok29, List.forall_mem_cons.mpr ⟨ok30, List.forall_mem_cons.mpr ⟨ok31, List.forall_mem_cons.mpr ⟨ok32, List.forall_mem_cons.mpr ⟨ok33, List.forall_mem_cons.mpr ⟨ok34, List.forall_mem_cons.mpr ⟨ok35, List.forall_mem_cons.mpr ⟨ok36, List.forall_mem_cons.mpr ⟨ok37, List.forall_mem_cons.mpr ⟨ok38, List.forall_mem_cons.mpr ⟨ok39, List.forall_mem_cons.mpr ⟨ok40, List.forall_mem_cons.mpr ⟨ok41, List.forall_mem_cons.mpr ⟨ok42, List.forall_mem_cons.mpr ⟨ok43, List.forall_mem_cons.mpr ⟨ok44, List.forall_mem_cons.mpr ⟨ok45, List.forall_mem_cons.mpr ⟨ok46, List.forall_mem_cons.mpr ⟨ok47, List.forall_mem_cons.mpr ⟨ok48, List.forall_mem_cons.mpr ⟨ok49, List.forall_mem_cons.mpr ⟨ok50, List.forall_mem_cons.mpr ⟨ok51, List.forall_mem_cons.mpr ⟨ok52, List.forall_mem_cons.mpr ⟨ok53, List.forall_mem_cons.mpr ⟨ok54, List.forall_mem_cons.mpr ⟨ok55, List.forall_mem_cons.mpr ⟨ok56, List.forall_mem_cons.mpr ⟨ok57, List.forall_mem_cons.mpr ⟨ok58, List.forall_mem_cons.mpr ⟨ok59, List.forall_mem_cons.mpr ⟨ok60, List.forall_mem_cons.mpr ⟨ok61, List.forall_mem_cons.mpr ⟨ok62, List.forall_mem_cons.mpr ⟨ok63, List.forall_mem_cons.mpr ⟨ok64, List.forall_mem_cons.mpr ⟨ok65, List.forall_mem_cons.mpr ⟨ok66, List.forall_mem_cons.mpr ⟨ok67, List.forall_mem_cons.mpr ⟨ok68, List.forall_mem_cons.mpr ⟨ok69, List.forall_mem_cons.mpr ⟨ok70, (fun r h => nomatch h)⟩⟩⟩⟩⟩⟩⟩⟩⟩⟩⟩⟩⟩⟩⟩⟩⟩⟩⟩⟩⟩⟩⟩⟩⟩⟩⟩⟩⟩⟩⟩⟩⟩⟩⟩⟩⟩⟩⟩⟩⟩⟩⟩⟩⟩⟩⟩⟩⟩⟩⟩⟩⟩⟩⟩⟩⟩⟩⟩⟩⟩⟩⟩⟩⟩⟩⟩⟩⟩⟩⟩
end K67
set_option Elab.async false
set_option linter.all false
set_option maxRecDepth 100000
set_option maxHeartbeats 400000
namespace K67
open Ev Pl Pl.O
theorem eqR_toD {mh : MH} {a b : O} (ha : dep a ≤ 50) (hb : dep b ≤ 50) : eqR mh (.v (toD a)) (.v (toD b)) = some (decide (a = b)) := by
  have h1 : okd deep (toD a) = true := okd_toD (show dep a + 1 ≤ 60 by omega)
  have h2 : okd deep (toD b) = true := okd_toD (show dep b + 1 ≤ 60 by omega)
  have e : ∀ x : O, okd deep (toD x) = true → pyR mh (.v (toD x)) = some (toD x).py := fun x h => by
    unfold toD at h ⊢
    rw [pyR]
    · rw [if_pos h]
    all_goals (intros; contradiction)
  unfold eqR
  rw [e a h1, e b h2]
  dsimp only
  rw [eqv_toD]
theorem ordR_toD {o : Cm} {a b : O} (ha : dep a ≤ 50) (hb : dep b ≤ 50) : ordR o (.v (toD a)) (.v (toD b)) = ordB o (cmp a b) := by
  have h1 : okd deep (toD a) = true := okd_toD (show dep a + 1 ≤ 60 by omega)
  have h2 : okd deep (toD b) = true := okd_toD (show dep b + 1 ≤ 60 by omega)
  unfold ordR
  dsimp only
  rw [h1, h2, cp_toD, cmp_toD]
  rfl
theorem z_toD : D.tup [] = toD z := rfl
theorem src_toD {mh : MH} (x : O) : srcR mh .seq [.v (toD x)] = some (.st (toL x)) := rfl
theorem mem_toL {x : O} {d : D} (h : d ∈ toL x) : ∃ e, e ∈ els x ∧ d = toD e := by
  rw [toL_els] at h
  obtain ⟨e, h1, h2⟩ := List.mem_map.mp h
  exact ⟨e, h1, h2.symm⟩
theorem idx0_toD {mh : MH} {b t : O} : idxR mh (.v (toD (c b t))) (.v (.int 0)) = some (toD b) := by
  unfold toD
  rw [toL]
  show L2.atI (toD b :: toL t) 0 = some (toD b)
  unfold L2.atI L2.ixN
  simp
theorem filt_toL (b : O) : ∀ x : O, (toL x).filterMap (fun d => if cmpD d (toD b) = .lt then none else some d) = toL (filt b x)
  | z => rfl
  | c h t => by
    rw [toL, List.filterMap_cons, filt]
    have e : cmpD (.tup (toL h)) (toD b) = cmp h b := cmp_toD h b
    rw [e]
    by_cases q : h < b
    · have q' : cmp h b = .lt := q
      rw [if_pos q', if_pos q]
      exact filt_toL b t
    · have q' : ¬ cmp h b = .lt := q
      rw [if_neg q', if_neg q]
      dsimp only
      rw [toL, filt_toL b t]
theorem plus_in_ok {k : Nat} {mh : MH} (hm : Closed mh) {x y : O} (hx : dep x ≤ 50) (hy : dep y ≤ 50) (hl : len x + len y ≤ many) : call T (k + 1) 10 [toD x, toD y] mh = some (.v (toD (plus x y)), mh) := by
  refine call_data (T := T) (fd := fd10) rfl rfl rfl hm (low_toD 0 _) [] ?_
  by_cases q : y = z
  · subst q
    simp [fd10, sts, st, ex, cmR, z_toD, eqR_toD hx hy, eqR_toD hy hy, truth, plus, out]
  · cases y with
    | z => exact absurd rfl q
    | c b t =>
      have hb : dep b ≤ 50 := Nat.le_trans (Nat.le_trans (Nat.le_succ _) (dep_mem (x := c b t) (by rw [els]; exact List.mem_cons_self))) hy
      have q' : ¬ (c b t = z) := fun h => by cases h
      have e1 : eqR mh (.v (toD (c b t))) (.v (toD z)) = some false := by rw [eqR_toD hy (show dep z ≤ 50 by decide), decide_eq_false q']
      simp [fd10, sts, st, ex, exr, cmR, z_toD, e1, truth, src_toD]
      rw [comp_pure (fun d => if cmpD d (toD b) = .lt then none else some d) (stat_st _) rfl (by rw [toL_len]; omega) (fun d hd => by
        obtain ⟨e, he, rfl⟩ := mem_toL hd
        have de : dep e ≤ 50 := Nat.le_trans (Nat.le_trans (Nat.le_succ _) (dep_mem he)) hx
        simp only [asgT, wipeE, exc, ex, cmR, List.getElem?_cons_zero, List.getElem?_cons_succ, List.set, idx0_toD, ordR_toD de hb, cmp_toD, truth, box, Option.map]
        cases cmp e b <;> rfl)]
      rw [filt_toL]
      have few : (toL (filt b x)).length + (toL (c b t)).length ≤ many := by
        rw [toL_len, toL_len]
        have := (cnt_filt b x).2
        omega
      simp [bltR, seqOf, opR, toD, few, out, plus, toL_app]
end K67
set_option Elab.async false
set_option linter.all false
set_option maxRecDepth 100000
set_option maxHeartbeats 400000
namespace K67
open Ev Pl Pl.O
theorem sortable_map {l : List O} (h : ∀ e ∈ l, dep e ≤ 50) (hl : l.length ≤ many) : sortable (l.map toD) = true := by
  unfold sortable
  rw [Bool.and_eq_true_iff]
  refine ⟨Nat.ble_eq.mpr (by rw [List.length_map]; exact hl), ?_⟩
  rw [List.all_eq_true]
  intro d hd
  obtain ⟨e, he, rfl⟩ := List.mem_map.mp hd
  rw [Bool.and_eq_true_iff]
  refine ⟨okd_toD (show dep e + 1 ≤ 60 by have := h e he; omega), ?_⟩
  rw [List.all_eq_true]
  intro d' hd'
  obtain ⟨e', _, rfl⟩ := List.mem_map.mp hd'
  exact al_toD e e'
theorem sortedR_l {mh : MH} {l : List O} (h : ∀ e ∈ l, dep e ≤ 50) (hl : l.length ≤ many) : bltR mh .sortedR [.l (l.map toD)] = some (.l (toL (srt l))) := by
  have s := sortable_map h hl
  simp [bltR, seqOf, s, sorted_toD]
theorem sortedR_t {mh : MH} {l : List O} (h : ∀ e ∈ l, dep e ≤ 50) (hl : l.length ≤ many) : bltR mh .sortedR [.v (.tup (l.map toD))] = some (.l (toL (srt l))) := by
  have s := sortable_map h hl
  simp [bltR, seqOf, s, sorted_toD]
theorem tuple_l {mh : MH} (xs : List D) : bltR mh .tuple [.l xs] = some (.v (.tup xs)) := rfl
theorem add_toD {mh : MH} {x y : O} (hl : len x + len y ≤ many) : opR mh .add (.v (toD x)) (.v (toD y)) = some (.v (.tup ((els x ++ els y).map toD))) := by
  have few : (toL x).length + (toL y).length ≤ many := by rw [toL_len, toL_len]; exact hl
  rw [List.map_append, ← toL_els, ← toL_els]
  simp [toD, opR, few]
theorem dep_els {x e : O} {n : Nat} (h : e ∈ els x) (hx : dep x ≤ n) : dep e ≤ n := Nat.le_trans (Nat.le_trans (Nat.le_succ _) (dep_mem h)) hx
theorem natural_in_ok {k : Nat} {mh : MH} (hm : Closed mh) {x y : O} (hx : dep x ≤ 50) (hy : dep y ≤ 50) (hl : len x + len y ≤ many) : call T (k + 1) 11 [toD x, toD y] mh = some (.v (toD (nat x y)), mh) := by
  refine call_data (T := T) (fd := fd11) rfl rfl rfl hm (low_toD 0 _) [] ?_
  have s := sortedR_t (mh := mh) (l := els x ++ els y) (fun e he => (List.mem_append.mp he).elim (fun h => dep_els h hx) (fun h => dep_els h hy)) (by rw [List.length_append, len_els, len_els]; exact hl)
  have a := add_toD (mh := mh) hl
  rw [List.map_append] at s a
  simp [fd11, sts, st, ex, exr, a, s, tuple_l, out, nat]
  rfl
end K67
set_option Elab.async false
set_option linter.all false
set_option maxRecDepth 100000
set_option maxHeartbeats 400000
namespace K67
open Ev Pl Pl.O
theorem sts_nx {C : CallF} {s : St} {b : List St} {env env' : Env} {mh mh' : MH} (h : st C s env mh = some (.nx, env', mh')) : sts C (s :: b) env mh = sts C b env' mh' := by
  rw [sts, h]
theorem st_for {C : CallF} {t : Tg} {kd : Kd} {es : List Ex} {b : List St} {env : Env} {mh : MH} {rs : List R} {xs : List D} (h : exr C es env mh = some (rs, mh)) (h2 : srcR mh kd rs = some (.st xs)) :
    st C (.for_ t kd es b) env mh = loopL (fun x env mh => match asgT t x env with
          | some env => sts C b env mh
          | none => none) xs env mh := by
  rw [st, h]
  dsimp only
  rw [h2]
  dsimp only
  rw [loop_run (stat_st xs) rfl]
  all_goals rfl
theorem eqz {mh : MH} {x : O} (hx : dep x ≤ 50) : eqR mh (.v (toD x)) (.v (toD z)) = some (decide (x = z)) := eqR_toD (b := z) hx (by decide)
def tbody : List St := [(.asg (.nm 2) (.call 10 [(.var 2), (.ite (.cmp .eq (.var 3) (.cst (.tup []))) (.var 0) (.tup [(.call 10 [(.idx (.var 0) (.cst (.int 0))), (.var 3)] [])]))] []))]
theorem times_step {k : Nat} {mh : MH} (hm : Closed mh) {x0 xt acc h : O} {Y v : Option D} (hx : dep (c x0 xt) ≤ 50) (hh : dep h ≤ 49) (ha : dep acc ≤ 50) (hl : len acc + len (c x0 xt) ≤ many) (hl2 : len acc + 1 ≤ many) (hl0 : len x0 + len h ≤ many) :
    sts (call T (k + 1)) tbody [some (toD (c x0 xt)), Y, some (toD acc), some (toD h)] mh = some (.nx, [some (toD (c x0 xt)), Y, some (toD (plus acc (term (c x0 xt) h))), some (toD h)], mh) := by
  have hd0 : dep x0 ≤ 50 := dep_els (x := c x0 xt) (by rw [els]; exact List.mem_cons_self) hx
  cases h with
  | z =>
    have e1 : eqR mh (.v (toD z)) (.v (toD z)) = some true := eqz (x := z) (by decide)
    have p := plus_in_ok (k := k) (mh := mh) hm (x := acc) (y := c x0 xt) ha hx hl
    simp [tbody, sts, st, ex, exs, permute, cmR, truth, asgT, box, z_toD, e1, p, term]
  | c h1 h2 =>
    have e1 : eqR mh (.v (toD (c h1 h2))) (.v (toD z)) = some false := eqz (x := c h1 h2) (by omega)
    have p0 := plus_in_ok (k := k) (mh := mh) hm (x := x0) (y := c h1 h2) hd0 (by omega) hl0
    have p := plus_in_ok (k := k) (mh := mh) hm (x := acc) (y := c (plus x0 (c h1 h2)) z) ha (dep_term (x := c x0 xt) (h := c h1 h2) hx (by omega)) (by exact hl2)
    have q : D.tup [toD (plus x0 (c h1 h2))] = toD (c (plus x0 (c h1 h2)) z) := rfl
    simp [tbody, sts, st, ex, exs, permute, cmR, truth, asgT, box, z_toD, e1, idx0_toD, p0, q, p, term, (show 1 ≤ many by decide)]
theorem len_term (x0 xt h : O) : len (term (c x0 xt) h) ≤ len (c x0 xt) := by
  cases h with
  | z => exact Nat.le_refl _
  | c h1 h2 =>
    rw [term, len, len, len]
    omega
theorem len_plus (x y : O) : len (plus x y) ≤ len x + len y := by
  cases y with
  | z => exact Nat.le_refl _
  | c b t =>
    show len (app (filt b x) (c b t)) ≤ _
    have := (cnt_filt b x).2
    rw [← len_els, els_app, List.length_append, len_els, len_els]
    omega
theorem times_loop {k : Nat} {mh : MH} (hm : Closed mh) {x0 xt : O} {Y : Option D} (hx : dep (c x0 xt) ≤ 50) : ∀ (w acc : O) (v : Option D), dep w ≤ 50 → dep acc ≤ 50 → len acc + len w * len (c x0 xt) + 1 ≤ many → (∀ h ∈ els w, len x0 + len h ≤ many) →
    ∃ v', loopL (fun x env mh => match asgT (.nm 3) x env with
          | some env => sts (call T (k + 1)) tbody env mh
          | none => none) (toL w) [some (toD (c x0 xt)), Y, some (toD acc), v] mh = some (.nx, [some (toD (c x0 xt)), Y, some (toD (timF (c x0 xt) acc w)), v'], mh)
  | z, acc, v, _, _, _, _ => ⟨v, rfl⟩
  | c h t, acc, v, hw, ha, hl, he => by
    have hh : dep h + 1 ≤ 50 := Nat.le_trans (dep_mem (x := c h t) (by rw [els]; exact List.mem_cons_self)) hw
    have ht : dep t ≤ 50 := Nat.le_trans (by rw [dep]; exact Nat.le_max_right _ _) hw
    have lw : len (c h t) = len t + 1 := rfl
    rw [lw, Nat.add_mul, Nat.one_mul] at hl
    have m : 1 ≤ len (c x0 xt) := Nat.succ_le_succ (Nat.zero_le _)
    have s := times_step (k := k) (Y := Y) (v := v) hm hx (acc := acc) (h := h) (by omega) ha (by omega) (by omega) (he h (by rw [els]; exact List.mem_cons_self))
    have l1 := len_plus acc (term (c x0 xt) h)
    have l2 := len_term x0 xt h
    obtain ⟨v', r⟩ := times_loop hm (k := k) (Y := Y) hx t (plus acc (term (c x0 xt) h)) (some (toD h)) ht (dep_plus ha (dep_term hx hh)) (by omega) (fun a ha => he a (by rw [els]; exact List.mem_cons_of_mem _ ha))
    refine ⟨v', ?_⟩
    rw [toL, loopL]
    have a : asgT (.nm 3) (D.tup (toL h)) [some (toD (c x0 xt)), Y, some (toD acc), v] = some [some (toD (c x0 xt)), Y, some (toD acc), some (toD h)] := rfl
    rw [a]
    dsimp only
    rw [s]
    exact r
theorem times_in_ok {k : Nat} {mh : MH} (hm : Closed mh) {x y : O} (hx : dep x ≤ 50) (hy : dep y ≤ 50) (hl : len y * len x + 1 ≤ many) (he : ∀ h ∈ els y, ∀ x0 xt, x = c x0 xt → len x0 + len h ≤ many) : call T (k + 2) 13 [toD x, toD y] mh = some (.v (toD (times x y)), mh) := by
  refine call_data (T := T) (fd := fd13) rfl rfl rfl hm (low_toD 0 _) [] ?_
  cases x with
  | z =>
    have e1 : eqR mh (.v (toD z)) (.v (toD z)) = some true := eqz (x := z) (by decide)
    simp [fd13, sts, st, ex, exr, cmR, z_toD, e1, truth, times, out, asgT, box]
  | c x0 xt =>
    have e1 : eqR mh (.v (toD (c x0 xt))) (.v (toD z)) = some false := by rw [eqz hx]; rfl
    show out (sts (call T (k + 1)) fd13.body [some (toD (c x0 xt)), some (toD y), none, none] mh) = _
    unfold fd13
    rw [sts_nx (env' := [some (toD (c x0 xt)), some (toD y), some (toD z), none]) (mh' := mh) (by simp [st, ex, asgT, box, z_toD])]
    rw [sts_nx (env' := [some (toD (c x0 xt)), some (toD y), some (toD z), none]) (mh' := mh) (by simp [sts, st, ex, cmR, z_toD, e1, truth])]
    obtain ⟨v', r⟩ := times_loop (k := k) hm (Y := some (toD y)) hx y z none hy (by decide) (by rw [show len z = 0 from rfl]; omega) (fun h hh => he h hh x0 xt rfl)
    rw [sts_nx ((st_for (rs := [.v (toD y)]) (xs := toL y) rfl rfl).trans r)]
    simp [sts, st, ex, out, times]
end K67
set_option Elab.async false
set_option linter.all false
set_option maxRecDepth 100000
set_option maxHeartbeats 400000
namespace K67
open Ev Pl Pl.O
theorem is_integer_int {k : Nat} {mh : MH} (hm : Closed mh) (i : Int) : call T (k + 1) 0 [.int i] mh = some (.v (.bl true), mh) := by
  refine call_data (T := T) (fd := fd0) rfl rfl rfl hm rfl [] ?_
  simp [fd0, sts, st, ex, truth, out, instD]
theorem is_number_in_ok {k : Nat} {mh : MH} (hm : Closed mh) {x : O} (hx : dep x ≤ 50) : call T (k + 1) 9 [toD x] mh = some (.v (.bl (match x with | z => true | c h _ => decide (h = z))), mh) := by
  refine call_data (T := T) (fd := fd9) rfl rfl rfl hm rfl [] ?_
  have e := eqz (mh := mh) hx
  cases x with
  | z => simp [fd9, sts, st, ex, exr, cmR, z_toD, e, truth, out]
  | c h t =>
    have e2 := eqz (mh := mh) (x := h) (dep_els (x := c h t) (by rw [els]; exact List.mem_cons_self) hx)
    simp [fd9, sts, st, ex, exr, cmR, z_toD, e, e2, idx0_toD, truth, out]
theorem flat_rep (n : Nat) : (List.replicate n [D.tup []]).flatten = toL (rep z n) := by
  induction n with
  | zero => rfl
  | succ n ih => rw [List.replicate_succ, List.flatten_cons, ih]; rfl
theorem number_in_ok {k : Nat} {mh : MH} (hm : Closed mh) (n : Nat) (hn : n ≤ 1000) : call T (k + 1) 7 [.int n] mh = some (.v (toD (rep z n)), mh) := by
  have e : repT [.tup []] (n : Int) = some (toL (rep z n)) := by
    unfold repT
    rw [if_pos ⟨by omega, by omega, by decide⟩, ← flat_rep, Int.toNat_natCast]
  refine call_data (T := T) (fd := fd7) rfl rfl rfl hm (low_toD 0 _) [] ?_
  simp [fd7, sts, st, ex, exs, opR, box, e, out, toD, (show 1 ≤ many by decide)]
end K67
set_option Elab.async false
set_option linter.all false
set_option maxRecDepth 100000
set_option maxHeartbeats 400000
namespace K67
open Ev Pl Pl.O
theorem eqR_int {mh : MH} (i j : Int) : eqR mh (.v (.int i)) (.v (.int j)) = some (decide (i = j)) := by
  show some (PySem.PyData.eqv (D.int i).py (D.int j).py) = _
  congr 1
def cbody : List St := [(.asg (.nm 3) (.call 5 [(.var 2)] [])), (.ite (.cmp .eq (.var 3) (.cst (.int 0))) [(.ret (.cst (.int 0)))] []), (.aug 1 .add (.var 3))]
theorem counted_step {k : Nat} {mh : MH} {X v3 v4 v5 : Option D} {m n : Nat} {e : D} (hn : n ≠ 0) (h : call T k 5 [e] mh = some (.v (.int n), mh)) :
    sts (call T k) cbody [X, some (.int m), some e, v3, v4, v5] mh = some (.nx, [X, some (.int (m + n : Nat)), some e, some (.int n), v4, v5], mh) := by
  have e1 : eqR mh (.v (.int (n : Int))) (.v (.int 0)) = some false := by rw [eqR_int]; congr 1; exact decide_eq_false (by omega)
  simp [cbody, sts, st, ex, exs, permute, cmR, e1, truth, asgT, box, h, opR, opA]
theorem stat_zip (xs ys : List D) : Stat (.zp (.st xs) (.st ys)) ((xs.zip ys).map fun p => .tup [p.1, p.2]) := fun mh i => by
  rw [nxt, stat_st xs mh i, stat_st ys mh i, List.getElem?_map, List.zip, List.getElem?_zipWith]
  cases xs[i]? with
  | none => rfl
  | some a => cases ys[i]? with
    | none => rfl
    | some b => rfl
theorem comp_pure2 {f : D → MH → Option (Option D × MH)} {src : Src} {xs : List D} {mh : MH} (o : D → Option D) (hs : Stat src xs) (ht : xs.length < turns mh src) (hl : xs.length ≤ many) (h : ∀ x ∈ xs, f x mh = some (o x, mh)) :
    compGo f src (turns mh src) 0 mh [] = some (xs.filterMap o, mh) := by
  rw [comp_stat hs xs 0 _ mh [] rfl ht, compL_map xs [] h (by rw [List.length_nil, Nat.zero_add]; exact hl), List.nil_append]
theorem W_els {x e : O} (hx : W x) (h : e ∈ els x) : W e := by
  induction x with
  | z => cases h
  | c a t _ ih =>
    rw [els] at h
    rcases List.mem_cons.mp h with rfl | h
    · exact hx.1
    · exact ih hx.2.1 h
theorem counted_loop {k : Nat} {mh : MH} {X v4 v5 : Option D} : ∀ (w : O) (m : Nat) (v2 v3 : Option D), (∀ e ∈ els w, call T k 5 [toD e] mh = some (.v (.int (cnt e)), mh)) →
    ∃ v2' v3', loopL (fun x env mh => match asgT (.nm 2) x env with
          | some env => sts (call T k) cbody env mh
          | none => none) (toL w) [X, some (.int m), v2, v3, v4, v5] mh = some (.nx, [X, some (.int (m + cnts (els w) : Nat)), v2', v3', v4, v5], mh)
  | z, m, v2, v3, _ => ⟨v2, v3, rfl⟩
  | c a t, m, v2, v3, h => by
    have p := cnt_pos a
    have s := counted_step (k := k) (X := X) (v3 := v3) (v4 := v4) (v5 := v5) (m := m) (n := cnt a) (e := toD a) (by omega) (h a (by rw [els]; exact List.mem_cons_self))
    obtain ⟨v2', v3', r⟩ := counted_loop (k := k) (mh := mh) (X := X) (v4 := v4) (v5 := v5) t (m + cnt a) (some (toD a)) (some (.int (cnt a))) (fun e he => h e (by rw [els]; exact List.mem_cons_of_mem _ he))
    refine ⟨v2', v3', ?_⟩
    rw [toL, loopL]
    have q : asgT (.nm 2) (D.tup (toL a)) [X, some (.int m), v2, v3, v4, v5] = some [X, some (.int m), some (toD a), v3, v4, v5] := rfl
    rw [q]
    dsimp only
    rw [s]
    dsimp only
    rw [r, els, cnts, Nat.add_assoc]
/-- neighbours of a falling row -/
theorem zip_falls : ∀ {x : O}, W x → ∀ p ∈ (els x).zip ((els x).drop 1), p.2 ≤ p.1
  | z, _, p, h => by cases h
  | c a z, _, p, h => by
    rw [els, els] at h
    cases h
  | c a (c b t), hw, p, h => by
    rw [els, els] at h
    rcases List.mem_cons.mp h with rfl | h
    · exact hw.2.2 b (by rw [els]; exact List.mem_cons_self)
    · refine zip_falls (x := c b t) hw.2.1 p ?_
      rw [els]
      exact h
end K67
set_option Elab.async false
set_option linter.all false
set_option maxRecDepth 100000
set_option maxHeartbeats 400000
namespace K67
open Ev Pl Pl.O
theorem truths_true : ∀ xs : List D, (∀ x ∈ xs, x = .bl true) → truthsOf xs = some (List.replicate xs.length true)
  | [], _ => rfl
  | x :: xs, h => by
    have e := h x List.mem_cons_self
    subst e
    rw [truthsOf, truths_true xs (fun y hy => h y (List.mem_cons_of_mem _ hy))]
    rfl
theorem all_true {mh : MH} (xs : List D) (h : ∀ x ∈ xs, x = .bl true) : bltR mh .all [.l xs] = some (.v (.bl true)) := by
  have e := truths_true xs h
  simp [bltR, seqOf, e]
theorem cut1 {mh : MH} (xs : List D) : cutR mh (.v (.tup xs)) (some 1) none = some (.v (.tup (xs.drop 1))) := by
  cases xs with
  | nil => rfl
  | cons a t =>
    have e : min 1 (t.length + 1) = 1 := by omega
    simp [cutR, cutD, HT.sIx, e]
theorem cut1_toD {mh : MH} (x : O) : cutR mh (.v (toD x)) (some 1) none = some (.v (.tup ((toL x).drop 1))) := cut1 _
theorem src_zip {mh : MH} (x : O) (ys : List D) : srcR mh .zip [.v (toD x), .v (.tup ys)] = some (.zp (.st (toL x)) (.st ys)) := rfl
theorem ge_of {a b : O} (h : b ≤ a) : ordB .ge (cmp a b) = some true := by
  have h : ¬ cmp a b = .lt := h
  cases q : cmp a b with
  | lt => exact absurd q h
  | eq => rfl
  | gt => rfl
theorem zip_mem {x : O} (hw : W x) (hd : dep x ≤ 50) {d : D} (h : d ∈ ((toL x).zip ((toL x).drop 1)).map fun p => D.tup [p.1, p.2]) : ∃ a b, d = .tup [toD a, toD b] ∧ b ≤ a ∧ dep a ≤ 50 ∧ dep b ≤ 50 := by
  obtain ⟨⟨p, q⟩, h1, rfl⟩ := List.mem_map.mp h
  rw [toL_els, ← List.map_drop, List.zip_map] at h1
  obtain ⟨⟨a, b⟩, h2, h3⟩ := List.mem_map.mp h1
  cases h3
  have m := List.of_mem_zip h2
  exact ⟨a, b, rfl, zip_falls hw _ h2, dep_els m.1 hd, dep_els (List.mem_of_mem_drop m.2) hd⟩
theorem counted_body {k : Nat} {mh : MH} (hm : Closed mh) {x : O} (hd : dep x ≤ 50) (hw : W x) (hl : len x ≤ many) (h : ∀ e ∈ els x, call T k 5 [toD e] mh = some (.v (.int (cnt e)), mh)) : call T (k + 1) 5 [toD x] mh = some (.v (.int (cnt x)), mh) := by
  refine call_data (T := T) (fd := fd5) rfl rfl rfl hm rfl [] ?_
  show out (sts (call T k) fd5.body [some (toD x), none, none, none, none, none] mh) = _
  unfold fd5
  rw [sts_nx (env' := [some (toD x), none, none, none, none, none]) (mh' := mh) (by simp [sts, st, ex, instD, toD, truth])]
  rw [sts_nx (env' := [some (toD x), some (.int (1 : Nat)), none, none, none, none]) (mh' := mh) (by simp [sts, st, ex, asgT, box])]
  obtain ⟨v2, v3, r⟩ := counted_loop (k := k) (mh := mh) (X := some (toD x)) (v4 := none) (v5 := none) x 1 none none h
  rw [sts_nx ((st_for (rs := [.v (toD x)]) (xs := toL x) rfl rfl).trans r)]
  rw [← cnt_els]
  simp [sts, st, ex, exr, exo, truth, cmR, cut1_toD, src_zip, -List.drop_one]
  rw [comp_pure2 (fun _ => some (D.bl true)) (stat_zip _ _) (by
      rw [List.length_map, List.length_zip]
      show _ < (toL x).length + 1
      omega) (by
      rw [List.length_map, List.length_zip, toL_len]
      omega) (fun d hz => by
      obtain ⟨a, b, rfl, ab, da, db⟩ := zip_mem hw hd hz
      have o := ordR_toD (o := .ge) da db
      rw [ge_of ab] at o
      simp [asgT, asgTs, wipeE, exc, o, box])]
  generalize e : List.filterMap (fun _ => some (D.bl true)) _ = q
  have hq : ∀ y ∈ q, y = D.bl true := fun y hy => by
    subst e
    obtain ⟨_, _, h2⟩ := List.mem_filterMap.mp hy
    cases h2
    rfl
  simp [all_true q hq, out]
theorem len_cnt : ∀ x : O, len x + 1 ≤ cnt x
  | z => Nat.le_refl _
  | c h t => by
    have := len_cnt t
    have := cnt_pos h
    rw [len, cnt]
    omega
theorem cnt_of_mem {x e : O} (h : e ∈ els x) : cnt e ≤ cnt x := by
  induction x with
  | z => cases h
  | c a t _ ih =>
    rw [els] at h
    rw [cnt]
    rcases List.mem_cons.mp h with rfl | h
    · omega
    · have := ih h
      omega
theorem counted_ok {mh : MH} (hm : Closed mh) (k : Nat) : ∀ (d : Nat) (x : O), dep x ≤ d → d ≤ 50 → W x → cnt x ≤ many → call T (k + d + 1) 5 [toD x] mh = some (.v (.int (cnt x)), mh) := by
  intro d
  induction d with
  | zero =>
    intro x hx hd hw hc
    refine counted_body hm (by omega) hw (by have := len_cnt x; omega) fun e he => ?_
    have := dep_mem he
    omega
  | succ d ih =>
    intro x hx hd hw hc
    refine counted_body hm (by omega) hw (by have := len_cnt x; omega) fun e he => ?_
    have := dep_mem he
    exact ih e (by omega) (by omega) (W_els hw he) (by have := cnt_of_mem he; omega)
end K67
set_option Elab.async false
set_option linter.all false
set_option maxRecDepth 100000
set_option maxHeartbeats 400000
namespace K67
open Ev Pl Pl.O
theorem ordR_int {o : Cm} (i j : Int) : ordR o (.v (.int i)) (.v (.int j)) = ordB o (intOrd i j) := rfl
theorem ltR_int {i j : Int} : ordR .lt (.v (.int i)) (.v (.int j)) = some (decide (i < j)) := by
  rw [ordR_int]
  unfold intOrd
  by_cases h : i < j
  · simp [h, ordB]
  · by_cases h2 : i = j
    · simp [h2, ordB]
    · simp [h, h2, ordB]
theorem leR_int {i j : Int} : ordR .le (.v (.int i)) (.v (.int j)) = some (decide (i ≤ j)) := by
  rw [ordR_int]
  unfold intOrd
  by_cases h : i < j
  · simp [h, ordB]
    omega
  · by_cases h2 : i = j
    · simp [h2, ordB]
    · simp [h, h2, ordB]
      omega
theorem is_ordinal_in_ok {k d : Nat} {mh : MH} (hm : Closed mh) {x : O} (hx : dep x ≤ d) (hd : d ≤ 50) (hw : W x) (hc : cnt x ≤ 400) : call T (k + d + 2) 6 [toD x] mh = some (.v (.bl true), mh) := by
  refine call_data (T := T) (fd := fd6) rfl rfl rfl hm rfl [] ?_
  have h := counted_ok hm k d x hx hd hw (Nat.le_trans hc (by decide))
  have p := cnt_pos x
  have e1 : ordR .lt (.v (.int 0)) (.v (.int (cnt x))) = some true := by rw [ltR_int, decide_eq_true (by omega)]
  have e2 : ordR .le (.v (.int (cnt x))) (.v (.int 400)) = some true := by rw [leR_int, decide_eq_true (by omega)]
  simp [fd6, sts, st, ex, exs, permute, box, h, cmR, e1, e2, out]
end K67
set_option Elab.async false
set_option linter.all false
set_option maxRecDepth 100000
set_option maxHeartbeats 400000
namespace K67
open Ev Pl Pl.O
theorem compL_O {f : D → MH → Option (Option D × MH)} {mh : MH} (g : O → D) : ∀ (y : O) (acc : List D), (∀ b ∈ els y, f (toD b) mh = some (some (g b), mh)) → acc.length + len y ≤ many → compL f (toL y) mh acc = some (acc ++ (els y).map g, mh)
  | z, acc, _, _ => by rw [toL, compL, els, List.map_nil, List.append_nil]
  | c b t, acc, h, hl => by
    have hl : acc.length + (len t + 1) ≤ many := hl
    have e := h b (by rw [els]; exact List.mem_cons_self)
    unfold toD at e
    rw [toL, compL, e]
    dsimp only
    rw [if_pos (by omega), compL_O g t (acc ++ [g b]) (fun a ha => h a (by rw [els]; exact List.mem_cons_of_mem _ ha)) (by rw [List.length_append, List.length_singleton]; omega), els, List.map_cons, List.append_assoc]
    rfl
theorem comp_O {f : D → MH → Option (Option D × MH)} {mh : MH} (g : O → D) (y : O) (h : ∀ b ∈ els y, f (toD b) mh = some (some (g b), mh)) (hl : len y ≤ many) :
    compGo f (.st (toL y)) (turns mh (.st (toL y))) 0 mh [] = some ((els y).map g, mh) := by
  rw [comp_stat (stat_st _) (toL y) 0 (turns mh (.st (toL y))) mh [] rfl (Nat.lt_succ_self _), compL_O g y [] h (by rw [List.length_nil, Nat.zero_add]; exact hl), List.nil_append]
def pbody : List St := [(.expr (.mt .extend (.var 2) [(.comp (.call 11 [(.var 3), (.var 4)] []) (.nm 4) .seq [(.var 1)] none [4])]))]
theorem prod_step {k : Nat} {mh : MH} {X : Option D} {a y : O} {acc : List O} {v4 : Option D} (hm : Closed (mh ++ [.lst (acc.map toD)])) (ha : dep a ≤ 50) (hy : dep y ≤ 50) (hl : ∀ b ∈ els y, len a + len b ≤ many) (hs : acc.length + len y ≤ many) :
    sts (call T (k + 1)) pbody [X, some (toD y), some (.ref mh.length), some (toD a), v4] (mh ++ [.lst (acc.map toD)]) = some (.nx, [X, some (toD y), some (.ref mh.length), some (toD a), v4], mh ++ [.lst ((acc ++ (els y).map (nat a)).map toD)]) := by
  simp [pbody, sts, st, ex, exr, exs, permute, src_toD]
  rw [comp_O (fun b => toD (nat a b)) y (fun b hb => by
    have n := natural_in_ok (k := k) hm ha (dep_els hb hy) (hl b hb)
    simp [asgT, wipeE, exc, box, n]) (by omega)]
  have few : acc.length + (els y).length ≤ many := by rw [len_els]; exact hs
  have e1 : (fun b => toD (nat a b)) = toD ∘ nat a := rfl
  rw [e1]
  simp [mtR, ownOf, few]
theorem lowM_mono {n m : Nat} (h : n ≤ m) : ∀ mh : MH, lowM n mh = true → lowM m mh = true
  | [], _ => rfl
  | .lst xs :: r, e => by
    rw [lowM] at e ⊢
    obtain ⟨e1, e2⟩ := Bool.and_eq_true_iff.mp e
    rw [lowL_mono h xs e1, lowM_mono h r e2]
    rfl
theorem lowM_app {n : Nat} : ∀ (a b : MH), lowM n a = true → lowM n b = true → lowM n (a ++ b) = true
  | [], b, _, h => h
  | .lst xs :: r, b, e, h => by
    rw [lowM] at e
    obtain ⟨e1, e2⟩ := Bool.and_eq_true_iff.mp e
    rw [List.cons_append, lowM, e1, lowM_app r b e2 h]
    rfl
theorem lowL_map (n : Nat) : ∀ l : List O, lowL n (l.map toD) = true
  | [] => rfl
  | a :: l => by rw [List.map_cons, lowL, low_toD, lowL_map n l]; rfl
theorem closed_app {mh : MH} (hm : Closed mh) (l : List O) : Closed (mh ++ [.lst (l.map toD)]) := by
  refine lowM_app _ _ (lowM_mono (by rw [List.length_append]; omega) _ hm) ?_
  rw [lowM, lowL_map]
  rfl
theorem prod_loop {k : Nat} {mh : MH} {X : Option D} {y : O} (hm : Closed mh) (hy : dep y ≤ 50) : ∀ (w : O) (acc : List O) (v3 v4 : Option D), dep w ≤ 50 → (∀ a ∈ els w, ∀ b ∈ els y, len a + len b ≤ many) → acc.length + len w * len y ≤ many →
    ∃ v3' v4', loopL (fun x env mh => match asgT (.nm 3) x env with
          | some env => sts (call T (k + 1)) pbody env mh
          | none => none) (toL w) [X, some (toD y), some (.ref mh.length), v3, v4] (mh ++ [.lst (acc.map toD)]) = some (.nx, [X, some (toD y), some (.ref mh.length), v3', v4'], mh ++ [.lst ((acc ++ (els w).flatMap fun a => (els y).map fun b => nat a b).map toD)])
  | z, acc, v3, v4, _, _, _ => ⟨v3, v4, by simp [toL, loopL, els]⟩
  | c a t, acc, v3, v4, hw, h, hl => by
    have lw : len (c a t) = len t + 1 := rfl
    rw [lw, Nat.add_mul, Nat.one_mul] at hl
    have ha : dep a ≤ 50 := dep_els (x := c a t) (by rw [els]; exact List.mem_cons_self) hw
    have ht : dep t ≤ 50 := Nat.le_trans (by rw [dep]; exact Nat.le_max_right _ _) hw
    have s := prod_step (k := k) (X := X) (v4 := v4) (closed_app hm acc) ha hy (h a (by rw [els]; exact List.mem_cons_self)) (by omega)
    obtain ⟨v3', v4', r⟩ := prod_loop (k := k) (X := X) hm hy t (acc ++ (els y).map (nat a)) (some (toD a)) v4 ht (fun e he => h e (by rw [els]; exact List.mem_cons_of_mem _ he)) (by rw [List.length_append, List.length_map, len_els]; omega)
    refine ⟨v3', v4', ?_⟩
    rw [toL, loopL]
    have q : asgT (.nm 3) (D.tup (toL a)) [X, some (toD y), some (.ref mh.length), v3, v4] = some [X, some (toD y), some (.ref mh.length), some (toD a), v4] := rfl
    rw [q]
    dsimp only
    rw [s]
    dsimp only
    rw [r, els, List.flatMap_cons, List.append_assoc]
end K67
set_option Elab.async false
set_option linter.all false
set_option maxRecDepth 100000
set_option maxHeartbeats 400000
namespace K67
open Ev Pl Pl.O
theorem len_prods (x y : O) : (prods x y).length = len x * len y := by
  unfold prods
  rw [← len_els x]
  induction els x with
  | nil => rw [List.flatMap_nil, List.length_nil, Nat.zero_mul]
  | cons a l ih => rw [List.flatMap_cons, List.length_append, List.length_map, ih, len_els, List.length_cons, Nat.add_mul, Nat.one_mul, Nat.add_comm]
theorem natural_product_in_ok {k : Nat} {mh : MH} (hm : Closed mh) {x y : O} (hx : dep x ≤ 50) (hy : dep y ≤ 50) (h : ∀ a ∈ els x, ∀ b ∈ els y, len a + len b ≤ many) (hl : len x * len y ≤ many) : call T (k + 2) 14 [toD x, toD y] mh = some (.v (toD (nprod x y)), mh) := by
  refine call_data (T := T) (fd := fd14) rfl rfl rfl hm (low_toD 0 _) [.lst ((prods x y).map toD)] ?_
  show out (sts (call T (k + 1)) fd14.body [some (toD x), some (toD y), none, none, none] mh) = _
  unfold fd14
  rw [sts_nx (env' := [some (toD x), some (toD y), some (.ref mh.length), none, none]) (mh' := mh ++ [.lst []]) (by simp [st, ex, exs, asgT, box])]
  obtain ⟨v3, v4, r⟩ := prod_loop (k := k) (X := some (toD x)) hm hy x [] none none hx h (by rw [List.length_nil, Nat.zero_add]; exact hl)
  rw [List.map_nil, List.nil_append] at r
  rw [sts_nx ((st_for (rs := [.v (toD x)]) (xs := toL x) rfl rfl).trans r)]
  have s : bltR (mh ++ [.lst ((prods x y).map toD)]) .sortedR [.v (.ref mh.length)] = some (.l (toL (srt (prods x y)))) := by
    have so := sortable_map (l := prods x y) (fun e he => by
      unfold prods at he
      obtain ⟨a, ha, hb⟩ := List.mem_flatMap.mp he
      obtain ⟨b, hc, rfl⟩ := List.mem_map.mp hb
      exact dep_nat (dep_els ha hx) (dep_els hc hy)) (by rw [len_prods]; exact hl)
    simp [bltR, seqOf, lstOf, so, sorted_toD]
  have e : ((els x).flatMap fun a => (els y).map fun b => nat a b) = prods x y := rfl
  rw [e]
  simp [sts, st, ex, exr, s, tuple_l, out]
  rfl
end K67
set_option Elab.async false
set_option linter.all false
set_option maxRecDepth 100000
set_option maxHeartbeats 400000
namespace K67
open Ev Pl Pl.O
theorem gtR_toD {a b : O} (ha : dep a ≤ 50) (hb : dep b ≤ 50) : ordR .gt (.v (toD a)) (.v (toD b)) = some (decide (b < a)) := by
  rw [ordR_toD ha hb]
  show _ = some (decide (cmp b a = .lt))
  rw [cmp_swap a b]
  cases cmp a b <;> rfl
theorem minus_none {k : Nat} {mh : MH} (hm : Closed mh) {x y : O} (hx : dep x ≤ 50) (hy : dep y ≤ 50) (h : x < y) : call T (k + 1) 12 [toD x, toD y] mh = some (.v .non, mh) := by
  refine call_data (T := T) (fd := fd12) rfl rfl rfl hm rfl [] ?_
  have e := gtR_toD hy hx
  rw [decide_eq_true h] at e
  simp [fd12, sts, st, ex, cmR, e, truth, out]
end K67
set_option Elab.async false
set_option linter.all false
set_option maxRecDepth 100000
set_option maxHeartbeats 400000
namespace K67
open Ev Pl Pl.O
theorem idx_app {mh : MH} (p b t : O) : idxR mh (.v (toD (app p (c b t)))) (.v (.int (len p : Nat))) = some (toD b) := by
  have e : toD (app p (c b t)) = .tup (toL p ++ toD b :: toL t) := by unfold toD; rw [toL_app]; rfl
  rw [e]
  show L2.atI (toL p ++ toD b :: toL t) (len p : Nat) = some (toD b)
  unfold L2.atI L2.ixN
  rw [← toL_len p]
  have lt : ((toL p).length : Int) < (toL p).length + ((toL t).length + 1) := by omega
  simp
  rw [if_pos lt]
  simp
theorem cut_app {mh : MH} (p q : O) : cutR mh (.v (toD (app p q))) (some (len p : Nat)) none = some (.v (toD q)) := by
  have e : toD (app p q) = .tup (toL p ++ toL q) := by unfold toD; rw [toL_app]
  rw [e]
  show some (R.v (.tup (cutD (toL p ++ toL q) (some (len p : Nat)) none))) = _
  unfold cutD
  rw [HT.sIx_nat, HT.sIx_none, ← toL_len p, List.length_append, Nat.min_eq_left (by omega), List.drop_left, Nat.add_sub_cancel_left, List.take_length]
  rfl
def mcond : Ex := (.and_ (.cmp .lt (.var 2) (.blt .len [(.var 1)])) (.cmp .eq (.idx (.var 1) (.var 2)) (.idx (.var 0) (.var 2))))
theorem len_R {mh : MH} (x : O) : bltR mh .len [.v (toD x)] = some (.v (.int (len x : Nat))) := by
  rw [← toL_len x]
  rfl
theorem mcond_end {C : CallF} {mh : MH} {X : Option D} {y : O} : ex C mcond [X, some (toD y), some (.int (len y : Nat))] mh = some (.v (.bl false), mh) := by
  have e : ordR .lt (.v (.int (len y : Nat))) (.v (.int (len y : Nat))) = some false := by rw [ltR_int, decide_eq_false (by omega)]
  simp [mcond, ex, exr, len_R, cmR, e, truth]
theorem mcond_go {C : CallF} {mh : MH} {p a b s t : O} (ha : dep a ≤ 50) (hb : dep b ≤ 50) : ex C mcond [some (toD (app p (c a s))), some (toD (app p (c b t))), some (.int (len p : Nat))] mh = some (.v (.bl (decide (b = a))), mh) := by
  have e : ordR .lt (.v (.int (len p : Nat))) (.v (.int (len (app p (c b t)) : Nat))) = some true := by rw [ltR_int, decide_eq_true (by rw [len_app]; show _ < (((len p + (len t + 1)) : Nat) : Int); omega)]
  have q := eqR_toD (mh := mh) hb ha
  simp [mcond, ex, exr, len_R, cmR, e, truth, idx_app, q]
end K67
set_option Elab.async false
set_option linter.all false
set_option maxRecDepth 100000
set_option maxHeartbeats 400000
namespace K67
open Ev Pl Pl.O
def mbody : List St := [(.aug 2 .add (.cst (.int 1)))]
theorem mbody_ok {C : CallF} {mh : MH} {X Y : Option D} {n : Nat} : sts C mbody [X, Y, some (.int n)] mh = some (.nx, [X, Y, some (.int (n + 1 : Nat))], mh) := by
  simp [mbody, sts, st, ex, opA, opR]
theorem minus_loop {C : CallF} {mh : MH} : ∀ (y' x' p : O) (F : Nat), len y' < F → dep (app p x') ≤ 50 → dep (app p y') ≤ 50 → ¬ x' < y' →
    ∃ p', app p x' = app p' (left x' y') ∧ wloop (fun env mh => match ex C mcond env mh with
      | some (x, mh) => (truth mh x).map fun t => (t, mh)
      | none => none) (fun env mh => sts C mbody env mh) F [some (toD (app p x')), some (toD (app p y')), some (.int (len p : Nat))] mh = some (.nx, [some (toD (app p x')), some (toD (app p y')), some (.int (len p' : Nat))], mh)
  | z, x', p, F + 1, _, _, _, _ => by
    refine ⟨p, by rw [left_z], ?_⟩
    rw [app_z p, wloop, mcond_end]
    rfl
  | c b t, z, p, F + 1, _, _, _, h => absurd (z_lt b t) h
  | c b t, c a s, p, F + 1, hF, hx, hy, h => by
    have da : dep a ≤ 50 := dep_els (by rw [els_app, els]; exact List.mem_append_right _ List.mem_cons_self) hx
    have db : dep b ≤ 50 := dep_els (by rw [els_app, els]; exact List.mem_append_right _ List.mem_cons_self) hy
    rw [wloop, mcond_go da db]
    by_cases q : b = a
    · subst q
      rw [decide_eq_true rfl]
      dsimp only [truth, Option.map]
      rw [mbody_ok]
      have e : ∀ w, app p (c b w) = app (app p (c b z)) w := fun w => by rw [app_assoc]; rfl
      have hF : len t + 1 < F + 1 := hF
      have h' : ¬ s < t := fun k => h (by
        show cmp (c b s) (c b t) = .lt
        rw [cmp, cmp_self]
        exact k)
      obtain ⟨p', r1, r2⟩ := minus_loop (C := C) (mh := mh) t s (app p (c b z)) F (by omega) (by rw [← e]; exact hx) (by rw [← e]; exact hy) h'
      refine ⟨p', ?_, ?_⟩
      · rw [e, r1, left, if_pos rfl]
      · have l : len (app p (c b z)) = len p + 1 := by rw [len_app]; rfl
        rw [l] at r2
        rw [e s, e t]
        exact r2
    · rw [decide_eq_false q]
      refine ⟨p, ?_, rfl⟩
      rw [left, if_neg (fun k => q k.symm)]
end K67
set_option Elab.async false
set_option linter.all false
set_option maxRecDepth 100000
set_option maxHeartbeats 400000
namespace K67
open Ev Pl Pl.O
theorem minus_some {k : Nat} {mh : MH} (hm : Closed mh) {x y : O} (hx : dep x ≤ 50) (hy : dep y ≤ 50) (hl : len y < manyW) (h : ¬ x < y) : call T (k + 1) 12 [toD x, toD y] mh = some (.v (toD (left x y)), mh) := by
  refine call_data (T := T) (fd := fd12) rfl rfl rfl hm (low_toD 0 _) [] ?_
  show out (sts (call T k) fd12.body [some (toD x), some (toD y), none] mh) = _
  unfold fd12
  have e := gtR_toD hy hx
  rw [decide_eq_false h] at e
  rw [sts_nx (env' := [some (toD x), some (toD y), none]) (mh' := mh) (by simp [sts, st, ex, cmR, e, truth])]
  rw [sts_nx (env' := [some (toD x), some (toD y), some (.int (0 : Nat))]) (mh' := mh) (by simp [st, ex, asgT, box])]
  obtain ⟨p', r1, r2⟩ := minus_loop (C := call T k) (mh := mh) y x z manyW hl hx hy h
  have r1 : x = app p' (left x y) := r1
  rw [sts_nx (by rw [st]; exact r2)]
  have c := cut_app (mh := mh) p' (left x y)
  rw [← r1] at c
  show out (sts _ _ [some (toD x), some (toD y), some (.int (len p' : Nat))] mh) = _
  simp [sts, st, ex, exo, c, out]
theorem minus_in_ok {k : Nat} {mh : MH} (hm : Closed mh) {x y : O} (hx : dep x ≤ 50) (hy : dep y ≤ 50) (hl : len y < manyW) : call T (k + 1) 12 [toD x, toD y] mh = some (.v (match minus x y with | none => .non | some w => toD w), mh) := by
  unfold minus
  by_cases h : x < y
  · rw [if_pos h]
    exact minus_none hm hx hy h
  · rw [if_neg h]
    exact minus_some hm hx hy hl h
end K67
set_option Elab.async false
set_option linter.all false
set_option maxRecDepth 100000
set_option maxHeartbeats 400000
namespace K67
open Ev Pl Pl.O
/-- the last item -/
def lst : O → O
  | z => z
  | c h z => h
  | c _ (c a b) => lst (c a b)
theorem toL_last : ∀ (h t : O), toL (c h t) = toL (init (c h t)) ++ [toD (lst (c h t))]
  | h, z => rfl
  | h, c a b => by
    rw [init, lst, toL, toL_last a b, toL]
    rfl
theorem idx_last {mh : MH} (h t : O) : idxR mh (.v (toD (c h t))) (.v (.int (-1))) = some (toD (lst (c h t))) := by
  have e : toD (c h t) = .tup (toL (init (c h t)) ++ [toD (lst (c h t))]) := by rw [← toL_last]; rfl
  rw [e]
  show L2.atI (toL (init (c h t)) ++ [toD (lst (c h t))]) (-1) = _
  unfold L2.atI L2.ixN
  have lt : (1 : Int) ≤ ((toL (init (c h t))).length : Int) + 1 := by omega
  have n : (-1 + (((toL (init (c h t))).length : Int) + 1)).toNat = (toL (init (c h t))).length := by omega
  simp
  rw [if_pos lt, n]
  simp
theorem last_in_ok {k : Nat} {mh : MH} (hm : Closed mh) {x : O} (hx : dep x ≤ 50) : call T (k + 1) 8 [toD x] mh = some (.v (toD (lst x)), mh) := by
  refine call_data (T := T) (fd := fd8) rfl rfl rfl hm (low_toD 0 _) [] ?_
  cases x with
  | z => simp [fd8, sts, st, ex, cmR, z_toD, eqz hx, truth, out, lst]
  | c h t =>
    have e : eqR mh (.v (toD (c h t))) (.v (toD z)) = some false := eqz (x := c h t) hx
    simp [fd8, sts, st, ex, cmR, z_toD, e, truth, out, opR, idx_last]
end K67
set_option Elab.async false
set_option linter.all false
set_option maxRecDepth 100000
set_option maxHeartbeats 400000
namespace K67
open Ev Pl Pl.O
theorem cut_init {mh : MH} (h t : O) : cutR mh (.v (toD (c h t))) none (some (-1)) = some (.v (toD (init (c h t)))) := by
  have e : toD (c h t) = .tup (toL (init (c h t)) ++ [toD (lst (c h t))]) := by rw [← toL_last]; rfl
  rw [e]
  show some (R.v (.tup (cutD (toL (init (c h t)) ++ [toD (lst (c h t))]) none (some (-1))))) = _
  have n : (-1 + (((toL (init (c h t))).length : Int) + 1)).toNat = (toL (init (c h t))).length := by omega
  simp [cutD, HT.sIx, n]
  rfl
theorem lim_lst : ∀ a b : O, lim (c a b) = decide (lst (c a b) ≠ z)
  | z, z => rfl
  | c _ _, z => rfl
  | a, c a' b' => by
    have e : lim (c a (c a' b')) = lim (c a' b') := by cases a <;> rfl
    rw [e, lim_lst a' b', lst]
theorem tow_z (n : Nat) : ∀ h t : O, lst (c h t) = z → tow n (c h t) = init (c h t)
  | h, z, e => by
    have e : h = z := e
    subst e
    rfl
  | h, c a b, e => by
    have r := tow_z n a b e
    have q : tow n (c h (c a b)) = c h (tow n (c a b)) := by cases h <;> rfl
    rw [q, r, init]
theorem tow_s (n : Nat) : ∀ h t a b : O, lst (c h t) = c a b → tow n (c h t) = app (init (c h t)) (if lst (c a b) = z then rep (init (c a b)) n else c (tow n (c a b)) z)
  | h, z, a, b, e => by
    have e : h = c a b := e
    subst e
    rw [tow, lim_lst]
    by_cases q : lst (c a b) = z
    · rw [if_pos q, if_neg (by simp [q])]
      rfl
    · rw [if_neg q, if_pos (by simp [q])]
      rfl
  | h, c h' t', a, b, e => by
    have r := tow_s n h' t' a b e
    have q : tow n (c h (c h' t')) = c h (tow n (c h' t')) := by cases h <;> rfl
    rw [q, r, init]
    rfl
end K67
set_option Elab.async false
set_option linter.all false
set_option maxRecDepth 100000
set_option maxHeartbeats 400000
namespace K67
open Ev Pl Pl.O
theorem lst_mem : ∀ h t : O, lst (c h t) ∈ els (c h t)
  | h, z => by rw [els]; exact List.mem_cons_self
  | h, c a b => by rw [lst, els]; exact List.mem_cons_of_mem _ (lst_mem a b)
theorem rep_flat (x : O) (n : Nat) : (List.replicate n [toD x]).flatten = toL (rep x n) := by
  induction n with
  | zero => rfl
  | succ n ih => rw [List.replicate_succ, List.flatten_cons, ih]; rfl
theorem repT_one (x : O) (n : Nat) (hn : n ≤ 1000) : repT [toD x] (n : Int) = some (toL (rep x n)) := by
  unfold repT
  rw [if_pos ⟨by omega, by omega, by simp⟩, ← rep_flat, Int.toNat_natCast]
theorem add_app {mh : MH} {x y : O} (hl : len x + len y ≤ many) : opR mh .add (.v (toD x)) (.v (toD y)) = some (.v (toD (app x y))) := by
  have few : (toL x).length + (toL y).length ≤ many := by rw [toL_len, toL_len]; exact hl
  simp [toD, opR, few, toL_app]
theorem len_init : ∀ h t : O, len (init (c h t)) ≤ len (c h t)
  | h, z => Nat.zero_le _
  | h, c a b => by
    have := len_init a b
    rw [init]
    show len (init (c a b)) + 1 ≤ len (c a b) + 1
    omega
theorem len_rep (x : O) : ∀ n, len (rep x n) = n
  | 0 => rfl
  | n + 1 => by rw [rep, len, len_rep x n]
theorem toward_z {k : Nat} {mh : MH} (hm : Closed mh) (n : Nat) : call T (k + 1) 15 [toD z, .int n] mh = some (.v (toD z), mh) := by
  refine call_data (T := T) (fd := fd15) rfl rfl rfl hm (low_toD 0 _) [] ?_
  have e0 : eqR mh (.v (toD z)) (.v (toD z)) = some true := eqz (x := z) (by decide)
  have c0 : cutR mh (.v (toD z)) none (some (-1)) = some (.v (toD z)) := rfl
  simp [fd15, sts, st, ex, exo, cmR, z_toD, e0, truth, out, opR, c0]
theorem toward_in_ok {mh : MH} (hm : Closed mh) (k n : Nat) (hn : n ≤ 1000) : ∀ (d : Nat) (x : O), dep x ≤ d → d ≤ 50 → cnt x ≤ 400 → call T (k + d + 1) 15 [toD x, .int n] mh = some (.v (toD (tow n x)), mh) := by
  intro d
  induction d with
  | zero =>
    intro x hx hd hc
    cases x with
    | z => exact toward_z hm n
    | c h t => rw [dep] at hx; have := Nat.le_max_left (dep h + 1) (dep t); omega
  | succ d ih =>
    intro x hx hd hc
    cases x with
    | z => exact toward_z hm n
    | c h t =>
      have hx50 : dep (c h t) ≤ 50 := by omega
      have e0 : eqR mh (.v (toD (c h t))) (.v (toD z)) = some false := eqz (x := c h t) hx50
      have dl : dep (lst (c h t)) ≤ 50 := dep_els (lst_mem h t) hx50
      have e1 := eqz (mh := mh) (x := lst (c h t)) dl
      refine call_data (T := T) (fd := fd15) rfl rfl rfl hm (low_toD 0 _) [] ?_
      cases q : lst (c h t) with
      | z =>
        rw [q] at e1
        rw [tow_z n h t q]
        simp [fd15, sts, st, ex, exo, cmR, z_toD, e0, e1, truth, out, opR, idx_last, q, cut_init]
      | c a b =>
        rw [q] at e1 dl
        have e1 : eqR mh (.v (toD (c a b))) (.v (toD z)) = some false := e1
        have mm := lst_mem h t
        rw [q] at mm
        have dd := dep_mem mm
        have cm := cnt_of_mem mm
        have dl2 := dep_els (lst_mem a b) dl
        have e2 := eqz (mh := mh) (x := lst (c a b)) dl2
        have li : len (init (c h t)) ≤ 400 := by have := len_init h t; have := len_cnt (c h t); omega
        rw [tow_s n h t a b q]
        by_cases w : lst (c a b) = z
        · rw [if_pos w]
          rw [decide_eq_true w] at e2
          have a2 := add_app (mh := mh) (x := init (c h t)) (y := rep (init (c a b)) n) (by rw [len_rep]; unfold many; omega)
          have r1 := repT_one (init (c a b)) n hn
          have r2 : opR mh .mul (.v (.tup [toD (init (c a b))])) (.v (.int n)) = some (.v (toD (rep (init (c a b)) n))) := by
            show (repT [toD (init (c a b))] (n : Int)).map (fun ys => R.v (.tup ys)) = _
            rw [r1]
            rfl
          have s1 : opR mh .sub (.v (.int 0)) (.v (.int 1)) = some (.v (.int (-1))) := rfl
          have m1 : 1 ≤ many := by decide
          simp [fd15, sts, st, ex, exo, exs, box, asgT, cmR, z_toD, e0, e1, e2, truth, out, s1, idx_last, q, cut_init, m1, r2, a2]
        · rw [if_neg w]
          rw [decide_eq_false w] at e2
          have a2 := add_app (mh := mh) (x := init (c h t)) (y := c (tow n (c a b)) z) (by show _ + 1 ≤ 1000000; omega)
          have rc : call T (k + (d + 1)) 15 [toD (c a b), .int n] mh = some (.v (toD (tow n (c a b))), mh) := ih (c a b) (by omega) (by omega) (by omega)
          have s1 : opR mh .sub (.v (.int 0)) (.v (.int 1)) = some (.v (.int (-1))) := rfl
          have m1 : 1 ≤ many := by decide
          have t1 : D.tup [toD (tow n (c a b))] = toD (c (tow n (c a b)) z) := rfl
          simp [fd15, sts, st, ex, exo, exs, permute, box, asgT, cmR, z_toD, e0, e1, e2, truth, out, s1, idx_last, q, cut_init, m1, rc, t1, a2]
end K67
set_option Elab.async false
set_option linter.all false
set_option maxRecDepth 100000
set_option maxHeartbeats 400000
/-! K67W1: worms as data; is_between, is_tuple, is_worm_in, raised_in, lowered_in. -/
namespace K67
open Ev Pl Pl.O
def lD (w : List Nat) : List D := w.map fun n : Nat => .int (n : Int)
def wD (w : List Nat) : D := .tup (lD w)
theorem lD_len (w : List Nat) : (lD w).length = w.length := List.length_map _
theorem lD_app (a b : List Nat) : lD (a ++ b) = lD a ++ lD b := List.map_append
theorem lD_nil : lD [] = [] := rfl
theorem lD_cons (a : Nat) (b : List Nat) : lD (a :: b) = .int (a : Int) :: lD b := rfl
theorem low_lD (n : Nat) : ∀ w : List Nat, lowL n (lD w) = true
  | [] => rfl
  | a :: w => by rw [lD_cons, lowL, low_lD n w]; rfl
theorem low_wD (n : Nat) (w : List Nat) : low n (wD w) = true := by unfold wD; rw [low, low_lD]
theorem low_ws (n : Nat) : ∀ l : List (List Nat), lowL n (l.map wD) = true
  | [] => rfl
  | a :: w => by rw [List.map_cons, lowL, low_wD, low_ws n w]; rfl
theorem okd_lD (n : Nat) : ∀ w : List Nat, (lD w).all (okd n) = true
  | [] => rfl
  | a :: w => by rw [lD_cons, List.all_cons, okd_lD n w]; cases n <;> rfl
theorem okd_wD (w : List Nat) : okd deep (wD w) = true := okd_lD 59 w
theorem intOrd_eq {i j : Int} (h : intOrd i j = .eq) : i = j := by
  unfold intOrd at h
  by_cases a : i < j
  · rw [if_pos a] at h; cases h
  · rw [if_neg a] at h
    by_cases b : i = j
    · exact b
    · rw [if_neg b] at h; cases h
theorem intOrd_self (i : Int) : intOrd i i = .eq := by
  unfold intOrd
  rw [if_neg (Int.lt_irrefl i), if_pos rfl]
theorem cmp_lD_self : ∀ a : List Nat, cmpL (lD a) (lD a) = .eq
  | [] => by rw [lD, List.map_nil, cmpL]
  | x :: a => by rw [lD_cons, cmpL, cmpD, intOrd_self]; exact cmp_lD_self a
theorem cmp_lD_eq : ∀ {a b : List Nat}, cmpL (lD a) (lD b) = .eq → a = b
  | [], [], _ => rfl
  | [], y :: b, h => by rw [lD_cons, lD_nil, cmpL] at h; cases h
  | x :: a, [], h => by rw [lD_cons, lD_nil, cmpL] at h; cases h
  | x :: a, y :: b, h => by
    rw [lD_cons, lD_cons, cmpL, cmpD] at h
    cases q : intOrd (x : Int) (y : Int) with
    | eq =>
      rw [q] at h
      have e := intOrd_eq q
      rw [cmp_lD_eq h]
      congr 1
      omega
    | lt => rw [q] at h; cases h
    | gt => rw [q] at h; cases h
theorem cp_lD : ∀ a b : List Nat, cpL (lD a) (lD b) = true
  | [], b => by rw [lD, List.map_nil, cpL]; intros; contradiction
  | x :: a, [] => by rw [lD_cons, lD_nil, cpL]; intros; contradiction
  | x :: a, y :: b => by
    rw [lD_cons, lD_cons, cpL, cpD, cmpD, cp_lD a b]
    cases intOrd (x : Int) (y : Int) <;> rfl
theorem cp_wD (a b : List Nat) : cpD (wD a) (wD b) = true := by unfold wD; rw [cpD, cp_lD]
theorem eqv_wD (a b : List Nat) : PySem.PyData.eqv (wD a).py (wD b).py = decide (a = b) := by
  rw [cp_eqv _ _ (cp_wD a b)]
  have e : cmpD (wD a) (wD b) = cmpL (lD a) (lD b) := by unfold wD; rw [cmpD]
  rw [e]
  by_cases h : a = b
  · subst h
    rw [cmp_lD_self, decide_eq_true rfl]
    rfl
  · rw [decide_eq_false h]
    cases q : cmpL (lD a) (lD b) with
    | eq => exact absurd (cmp_lD_eq q) h
    | lt => rfl
    | gt => rfl
theorem pyR_wD {mh : MH} (w : List Nat) : pyR mh (.v (wD w)) = some (wD w).py := by
  have h := okd_wD w
  unfold wD at h ⊢
  rw [pyR]
  · rw [if_pos h]
  all_goals (intros; contradiction)
theorem eqR_wD {mh : MH} (a b : List Nat) : eqR mh (.v (wD a)) (.v (wD b)) = some (decide (a = b)) := by
  unfold eqR
  rw [pyR_wD, pyR_wD]
  dsimp only
  rw [eqv_wD]
theorem src_wD {mh : MH} (w : List Nat) : srcR mh .seq [.v (wD w)] = some (.st (lD w)) := rfl
theorem len_wD {mh : MH} (w : List Nat) : bltR mh .len [.v (wD w)] = some (.v (.int (w.length : Nat))) := by
  rw [← lD_len w]
  rfl
theorem compL_N {f : D → MH → Option (Option D × MH)} {mh : MH} (g : Nat → D) : ∀ (y : List Nat) (acc : List D), (∀ b ∈ y, f (.int (b : Int)) mh = some (some (g b), mh)) → acc.length + y.length ≤ many → compL f (lD y) mh acc = some (acc ++ y.map g, mh)
  | [], acc, _, _ => by rw [lD, List.map_nil, compL, List.map_nil, List.append_nil]
  | b :: t, acc, h, hl => by
    rw [List.length_cons] at hl
    rw [lD_cons, compL, h b List.mem_cons_self]
    dsimp only
    rw [if_pos (by omega), compL_N g t (acc ++ [g b]) (fun a ha => h a (List.mem_cons_of_mem _ ha)) (by rw [List.length_append, List.length_singleton]; omega), List.map_cons, List.append_assoc]
    rfl
theorem comp_N {f : D → MH → Option (Option D × MH)} {mh : MH} (g : Nat → D) (y : List Nat) (h : ∀ b ∈ y, f (.int (b : Int)) mh = some (some (g b), mh)) (hl : y.length ≤ many) :
    compGo f (.st (lD y)) (turns mh (.st (lD y))) 0 mh [] = some (y.map g, mh) := by
  rw [comp_stat (xs := lD y) (stat_st (lD y)) (lD y) 0 (turns mh (.st (lD y))) mh [] rfl (Nat.lt_succ_self _), compL_N g y [] h (by rw [List.length_nil, Nat.zero_add]; exact hl), List.nil_append]
theorem is_between_ok {k : Nat} {mh : MH} (hm : Closed mh) (i lo hi : Int) (h1 : lo ≤ i) (h2 : i ≤ hi) : call T (k + 2) 1 [.int i, .int lo, .int hi] mh = some (.v (.bl true), mh) := by
  refine call_data (T := T) (fd := fd1) rfl rfl rfl hm rfl [] ?_
  have c0 := is_integer_int (k := k) hm i
  have e1 : ordR .le (.v (.int lo)) (.v (.int i)) = some true := by rw [leR_int, decide_eq_true h1]
  have e2 : ordR .le (.v (.int i)) (.v (.int hi)) = some true := by rw [leR_int, decide_eq_true h2]
  simp [fd1, sts, st, ex, exs, permute, box, c0, truth, cmR, e1, e2, out]
theorem geR_int {i j : Int} : ordR .ge (.v (.int i)) (.v (.int j)) = some (decide (j ≤ i)) := by
  rw [ordR_int]
  unfold intOrd
  by_cases h : i < j
  · simp [h, ordB]
  · by_cases h2 : i = j
    · simp [h2, ordB]
    · simp [h, h2, ordB]
      omega
theorem gtR_int {i j : Int} : ordR .gt (.v (.int i)) (.v (.int j)) = some (decide (j < i)) := by
  rw [ordR_int]
  unfold intOrd
  by_cases h : i < j
  · simp [h, ordB]
    omega
  · by_cases h2 : i = j
    · simp [h2, ordB]
    · simp [h, h2, ordB]
      omega
theorem is_tuple_ok {k : Nat} {mh : MH} (hm : Closed mh) (w : List Nat) (h : w.length ≤ 400) : call T (k + 1) 2 [wD w, .int 0, .int 400] mh = some (.v (.bl true), mh) := by
  refine call_data (T := T) (fd := fd2) rfl rfl rfl hm rfl [] ?_
  have e1 : ordR .ge (.v (.int (w.length : Nat))) (.v (.int 0)) = some true := by rw [geR_int, decide_eq_true (by omega)]
  have e2 : ordR .le (.v (.int (w.length : Nat))) (.v (.int 400)) = some true := by rw [leR_int, decide_eq_true (by omega)]
  have e3 : instD .tuple (.v (wD w)) mh = some true := rfl
  have e4 : isR (.v (.int 400)) (.v .non) = some false := rfl
  simp [fd2, sts, st, ex, exr, e3, len_wD, truth, cmR, e1, e2, e4, out]
theorem is_worm_in_ok {k : Nat} {mh : MH} (hm : Closed mh) (w : List Nat) (h : w.length ≤ 400) (h6 : ∀ a ∈ w, a ≤ 6) : call T (k + 3) 16 [wD w] mh = some (.v (.bl true), mh) := by
  refine call_data (T := T) (fd := fd16) rfl rfl rfl hm rfl [] ?_
  have c2 := is_tuple_ok (k := k + 1) hm w h
  simp [fd16, sts, st, ex, exs, exr, permute, box, c2, truth, src_wD]
  rw [comp_N (fun _ => .bl true) w (fun b hb => by
    have c1 := is_between_ok (k := k) hm (b : Int) 0 6 (by omega) (by have := h6 b hb; omega)
    simp [asgT, wipeE, exc, c1, box]) (Nat.le_trans h (by decide))]
  have a := all_true (mh := mh) (w.map fun _ => D.bl true) (fun x hx => by
    obtain ⟨_, _, rfl⟩ := List.mem_map.mp hx
    rfl)
  simp [a, out]
theorem raised_in_ok {k : Nat} {mh : MH} (hm : Closed mh) (w : List Nat) (h : w.length ≤ many) : call T (k + 1) 17 [wD w, .int 1] mh = some (.v (wD (up w)), mh) := by
  refine call_data (T := T) (fd := fd17) rfl rfl rfl hm (low_wD 0 _) [] ?_
  simp [fd17, sts, st, ex, exr, src_wD]
  rw [comp_N (fun a => .int ((a + 1 : Nat) : Int)) w (fun b hb => by
    simp [asgT, wipeE, exc, ex, opR, box]) h]
  simp [tuple_l, out, wD, lD, up]
theorem lowered_in_ok {k : Nat} {mh : MH} (hm : Closed mh) (w : List Nat) (h : w.length ≤ many) (h1 : ∀ a ∈ w, 1 ≤ a) : call T (k + 1) 18 [wD w, .int 1] mh = some (.v (wD (down w)), mh) := by
  refine call_data (T := T) (fd := fd18) rfl rfl rfl hm (low_wD 0 _) [] ?_
  simp [fd18, sts, st, ex, exr, src_wD]
  rw [comp_N (fun a => .int ((a - 1 : Nat) : Int)) w (fun b hb => by
    have := h1 b hb
    have e : (b : Int) - 1 = ((b - 1 : Nat) : Int) := by omega
    simp [asgT, wipeE, exc, ex, opR, box, e]) h]
  simp [tuple_l, out, wD, lD, down]
end K67
set_option Elab.async false
set_option linter.all false
set_option maxRecDepth 100000
set_option maxHeartbeats 400000
/-! K67W2: pieces_of, order_in. -/
namespace K67
open Ev Pl Pl.O
/-- pieces done, the piece under way -/
def pA : List (List Nat) → List Nat → List Nat → List (List Nat) × List Nat
  | d, cur, [] => (d, cur)
  | d, cur, 0 :: r => pA (d ++ [cur]) [] r
  | d, cur, (n + 1) :: r => pA d (cur ++ [n + 1]) r
theorem pA_pcs : ∀ (r cur : List Nat) (d : List (List Nat)), (pA d cur r).1 ++ [(pA d cur r).2] = d ++ pcs cur r
  | [], cur, d => rfl
  | 0 :: r, cur, d => by rw [pA, pcs, pA_pcs r [] (d ++ [cur]), List.append_assoc]; rfl
  | (n + 1) :: r, cur, d => by rw [pA, pcs, pA_pcs r (cur ++ [n + 1]) d]
def gbody : List St := [(.ite (.cmp .eq (.var 3) (.cst (.int 0))) [(.expr (.mt .append (.var 1) [(.blt .tuple [(.var 2)])])), (.asg (.nm 2) (.lst []))] [(.expr (.mt .append (.var 2) [(.var 3)]))])]
/-- the heap in the loop: what is found, letters gone, the piece under way -/
def gh (mh : MH) (d : List (List Nat)) (g : MH) (cur : List Nat) : MH := mh ++ .lst (d.map wD) :: (g ++ [.lst (lD cur)])
theorem gh_len (mh : MH) (d : List (List Nat)) (g : MH) (cur : List Nat) : (gh mh d g cur).length = mh.length + 1 + g.length + 1 := by
  unfold gh
  simp
  omega
theorem gh_found (mh : MH) (d : List (List Nat)) (g : MH) (cur : List Nat) : (gh mh d g cur)[mh.length]? = some (.lst (d.map wD)) := by
  unfold gh
  simp
theorem gh_here (mh : MH) (d : List (List Nat)) (g : MH) (cur : List Nat) : (gh mh d g cur)[mh.length + 1 + g.length]? = some (.lst (lD cur)) := by
  unfold gh
  rw [List.getElem?_append_right (by omega)]
  have e : mh.length + 1 + g.length - mh.length = g.length + 1 := by omega
  rw [e, List.getElem?_cons_succ]
  simp
theorem gh_setf (mh : MH) (d : List (List Nat)) (g : MH) (cur : List Nat) (p : List Nat) : (gh mh d g cur).set mh.length (.lst (d.map wD ++ [wD p])) = gh mh (d ++ [p]) g cur := by
  unfold gh
  simp
theorem gh_seth (mh : MH) (d : List (List Nat)) (g : MH) (cur : List Nat) (a : Nat) : (gh mh d g cur).set (mh.length + 1 + g.length) (.lst (lD cur ++ [.int (a : Int)])) = gh mh d g (cur ++ [a]) := by
  unfold gh
  rw [List.set_append_right _ _ (by omega)]
  have e : mh.length + 1 + g.length - mh.length = g.length + 1 := by omega
  rw [e, List.set_cons_succ, List.set_append_right _ _ (by omega), Nat.sub_self, List.set_cons_zero, lD_app]
  rfl
theorem gstep0 {C : CallF} {mh : MH} {d : List (List Nat)} {g : MH} {cur : List Nat} {W : Option D} (hl : d.length < many) :
    sts C gbody [W, some (.ref mh.length), some (.ref (mh.length + 1 + g.length)), some (.int (0 : Nat))] (gh mh d g cur) = some (.nx, [W, some (.ref mh.length), some (.ref (mh.length + 1 + (g ++ [MO.lst (lD cur)]).length)), some (.int (0 : Nat))], gh mh (d ++ [cur]) (g ++ [.lst (lD cur)]) []) := by
  have e : eqR (gh mh d g cur) (.v (.int 0)) (.v (.int 0)) = some true := by rw [eqR_int]; rfl
  have s : bltR (gh mh d g cur) .tuple [.v (.ref (mh.length + 1 + g.length))] = some (.v (wD cur)) := by
    simp [bltR, seqOf, lstOf, gh_here, wD]
  have l : (gh mh (d ++ [cur]) g cur).length = mh.length + 1 + (g.length + 1) := by rw [gh_len]; omega
  have f : (d.map wD).length < many := by rw [List.length_map]; exact hl
  simp [gbody, sts, st, ex, exs, exr, cmR, e, truth, s, mtR, gh_found, hl, gh_setf, asgT, box, l]
  simp [gh, lD]
theorem gstep1 {C : CallF} {mh : MH} {d : List (List Nat)} {g : MH} {cur : List Nat} {W : Option D} {n : Nat} (hl : cur.length < many) :
    sts C gbody [W, some (.ref mh.length), some (.ref (mh.length + 1 + g.length)), some (.int ((n + 1 : Nat) : Int))] (gh mh d g cur) = some (.nx, [W, some (.ref mh.length), some (.ref (mh.length + 1 + g.length)), some (.int ((n + 1 : Nat) : Int))], gh mh d g (cur ++ [n + 1])) := by
  have e : eqR (gh mh d g cur) (.v (.int ((n + 1 : Nat) : Int))) (.v (.int 0)) = some false := by rw [eqR_int, decide_eq_false (by omega)]
  have f : (lD cur).length < many := by rw [lD_len]; exact hl
  have st2 := gh_seth mh d g cur (n + 1)
  rw [gbody, sts, st, ex]
  simp only [ex, List.getElem?_cons_succ, List.getElem?_cons_zero, cmR, e, Option.map, truth]
  simp only [sts, st, ex, exr, List.getElem?_cons_succ, List.getElem?_cons_zero, mtR, gh_here, f, if_true, st2]
theorem gloop {C : CallF} {mh : MH} {W : Option D} : ∀ (r cur : List Nat) (d : List (List Nat)) (g : MH) (v : Option D), lowM 0 g = true → cur.length + r.length < many → d.length + r.length < many →
    ∃ g' v', lowM 0 g' = true ∧ loopL (fun x env mh => match asgT (.nm 3) x env with
          | some env => sts C gbody env mh
          | none => none) (lD r) [W, some (.ref mh.length), some (.ref (mh.length + 1 + g.length)), v] (gh mh d g cur) = some (.nx, [W, some (.ref mh.length), some (.ref (mh.length + 1 + g'.length)), v'], gh mh (pA d cur r).1 g' (pA d cur r).2)
  | [], cur, d, g, v, hg, _, _ => ⟨g, v, hg, rfl⟩
  | 0 :: r, cur, d, g, v, hg, h1, h2 => by
    rw [List.length_cons] at h1 h2
    obtain ⟨g', v', q1, q2⟩ := gloop (C := C) (W := W) (mh := mh) r [] (d ++ [cur]) (g ++ [.lst (lD cur)]) (some (.int (0 : Nat))) (lowM_app _ _ hg (by rw [lowM, low_lD]; rfl)) (by rw [List.length_nil]; omega) (by rw [List.length_append, List.length_singleton]; omega)
    refine ⟨g', v', q1, ?_⟩
    rw [lD_cons, loopL]
    have a : asgT (.nm 3) (D.int ((0 : Nat) : Int)) [W, some (.ref mh.length), some (.ref (mh.length + 1 + g.length)), v] = some [W, some (.ref mh.length), some (.ref (mh.length + 1 + g.length)), some (.int (0 : Nat))] := rfl
    rw [a]
    dsimp only
    rw [gstep0 (by omega)]
    exact q2
  | (n + 1) :: r, cur, d, g, v, hg, h1, h2 => by
    rw [List.length_cons] at h1 h2
    obtain ⟨g', v', q1, q2⟩ := gloop (C := C) (W := W) (mh := mh) r (cur ++ [n + 1]) d g (some (.int ((n + 1 : Nat) : Int))) hg (by rw [List.length_append, List.length_singleton]; omega) (by omega)
    refine ⟨g', v', q1, ?_⟩
    rw [lD_cons, loopL]
    have a : asgT (.nm 3) (D.int ((n + 1 : Nat) : Int)) [W, some (.ref mh.length), some (.ref (mh.length + 1 + g.length)), v] = some [W, some (.ref mh.length), some (.ref (mh.length + 1 + g.length)), some (.int ((n + 1 : Nat) : Int))] := rfl
    rw [a]
    dsimp only
    rw [gstep1 (by omega)]
    exact q2
theorem pieces_of_ok {k : Nat} {mh : MH} (hm : Closed mh) (w : List Nat) (h : w.length < many) : call T (k + 1) 19 [wD w] mh = some (.l ((pcs [] w).map wD), mh) := by
  obtain ⟨g', v', q1, q2⟩ := gloop (C := call T k) (W := some (wD w)) (mh := mh) w [] [] [] none rfl (by rw [List.length_nil]; omega) (by rw [List.length_nil]; omega)
  have p := pA_pcs w [] []
  rw [List.nil_append] at p
  refine call_list (T := T) (fd := fd19) rfl rfl rfl hm (low_ws 0 _) (.lst (((pA [] [] w).1).map wD) :: (g' ++ [.lst (lD (pA [] [] w).2)])) _ (.inl rfl) ?_
  show out (sts (call T k) fd19.body [some (wD w), none, none, none] mh) = _
  unfold fd19
  rw [sts_nx (env' := [some (wD w), some (.ref mh.length), some (.ref (mh.length + 1)), none]) (mh' := gh mh [] [] []) (by simp [st, exs, ex, box, setAll, gh, lD])]
  rw [sts_nx ((st_for (rs := [.v (wD w)]) (xs := lD w) rfl rfl).trans q2)]
  have s : bltR (gh mh (pA [] [] w).1 g' (pA [] [] w).2) .tuple [.v (.ref (mh.length + 1 + g'.length))] = some (.v (wD (pA [] [] w).2)) := by
    simp [bltR, seqOf, lstOf, gh_here, wD]
  have o : ownOf (gh mh (pA [] [] w).1 g' (pA [] [] w).2) (.v (.ref mh.length)) = some ((pA [] [] w).1.map wD) := by
    simp [ownOf, lstOf, gh_found]
  have cl : (pA [] [] w).1.length + 1 ≤ many := by
    have e := congrArg List.length p
    rw [List.length_append, List.length_singleton] at e
    have pl : ∀ (r cur : List Nat), (pcs cur r).length ≤ r.length + 1 := fun r => by
      induction r with
      | nil => intro cur; exact Nat.le_refl _
      | cons a r ih =>
        intro cur
        cases a with
        | zero => rw [pcs, List.length_cons, List.length_cons]; have := ih []; omega
        | succ n => rw [pcs, List.length_cons]; have := ih (cur ++ [n + 1]); omega
    have := pl w []
    omega
  have f : ((pA [] [] w).1.map wD).length + [wD (pA [] [] w).2].length ≤ many := by rw [List.length_map]; exact cl
  have one : 1 ≤ many := by decide
  rw [← p, List.map_append]
  simp [sts, st, ex, exs, exr, s, box, opR, catR, o, cl, one, out]
  simp [ownOf, cl, gh]
end K67
set_option Elab.async false
set_option linter.all false
set_option maxRecDepth 100000
set_option maxHeartbeats 400000
/-! K67W3: order_in. -/
namespace K67
open Ev Pl Pl.O
theorem allz_iff : ∀ {w : List Nat}, allz w = true ↔ ∀ a ∈ w, a = 0
  | [] => ⟨fun _ a h => (by cases h), fun _ => rfl⟩
  | 0 :: r => by rw [allz, allz_iff]; simp
  | (n + 1) :: r => by rw [allz]; simp
theorem pcs_mem {P : Nat → Prop} : ∀ (r cur : List Nat), (∀ a ∈ cur, P a) → (∀ a ∈ r, a ≠ 0 → P a) → ∀ p ∈ pcs cur r, ∀ a ∈ p, P a
  | [], cur, h1, _, p, hp, a, ha => by
    rw [pcs, List.mem_singleton] at hp
    subst hp
    exact h1 a ha
  | 0 :: r, cur, h1, h2, p, hp, a, ha => by
    rw [pcs] at hp
    rcases List.mem_cons.mp hp with rfl | hp
    · exact h1 a ha
    · exact pcs_mem r [] (fun a h => by cases h) (fun a h => h2 a (List.mem_cons_of_mem _ h)) p hp a ha
  | (n + 1) :: r, cur, h1, h2, p, hp, a, ha => by
    rw [pcs] at hp
    refine pcs_mem r (cur ++ [n + 1]) (fun a h => ?_) (fun a h => h2 a (List.mem_cons_of_mem _ h)) p hp a ha
    rcases List.mem_append.mp h with h | h
    · exact h1 a h
    · rw [List.mem_singleton] at h
      subst h
      exact h2 _ List.mem_cons_self (by omega)
def lens : List (List Nat) → Nat
  | [] => 0
  | p :: ps => p.length + 1 + lens ps
theorem pcs_lens : ∀ (r cur : List Nat), lens (pcs cur r) = cur.length + r.length + 1
  | [], cur => by rw [pcs, lens, lens, List.length_nil]
  | 0 :: r, cur => by rw [pcs, lens, pcs_lens r [], List.length_cons, List.length_nil]; omega
  | (n + 1) :: r, cur => by rw [pcs, pcs_lens r (cur ++ [n + 1]), List.length_append, List.length_singleton, List.length_cons]; omega
theorem lens_len : ∀ ps : List (List Nat), ps.length ≤ lens ps
  | [] => Nat.le_refl _
  | p :: ps => by have := lens_len ps; rw [lens, List.length_cons]; omega
theorem lens_mem : ∀ {ps : List (List Nat)} {p : List Nat}, p ∈ ps → p.length + 1 ≤ lens ps
  | q :: ps, p, h => by
    rw [lens]
    rcases List.mem_cons.mp h with rfl | h
    · omega
    · have := lens_mem h
      omega
theorem lens_app : ∀ a b : List (List Nat), lens (a ++ b) = lens a + lens b
  | [], b => by rw [List.nil_append, lens]; omega
  | p :: a, b => by rw [List.cons_append, lens, lens, lens_app a b]; omega
theorem lens_rev : ∀ a : List (List Nat), lens a.reverse = lens a
  | [] => rfl
  | p :: a => by rw [List.reverse_cons, lens_app, lens_rev a, lens, lens, lens]; omega
/-- one piece more -/
def ostep (f : Nat) (acc : O) (p : List Nat) : O := plus acc (c (ordF f (down p)) z)
theorem ordF_s (f : Nat) (w : List Nat) (h : allz w = false) : ordF (f + 1) w = (pcs [] w).reverse.foldl (ostep f) z := by
  rw [ordF, h]
  rfl
theorem ordF_z (f : Nat) (w : List Nat) (h : allz w = true) : ordF f w = rep z w.length := by
  cases f with
  | zero => rw [ordF, h]; rfl
  | succ f => rw [ordF, h]; rfl
theorem dep_rz (n : Nat) : dep (rep z n) ≤ 1 := dep_rep (x := z) (by decide) n
theorem len_down (w : List Nat) : (down w).length = w.length := List.length_map _
theorem dep_c1 {o : O} {n : Nat} (h : dep o + 1 ≤ n) : dep (c o z) ≤ n := by
  rw [dep]
  exact Nat.max_le.mpr ⟨h, Nat.zero_le n⟩
theorem W_c1 {o : O} (h : W o) : W (c o z) := ⟨h, True.intro, fun e he => by cases he⟩
theorem ofold_dep {f n : Nat} (h : ∀ p, dep (ordF f p) + 1 ≤ n) : ∀ (ps : List (List Nat)) (acc : O), dep acc ≤ n → dep (ps.foldl (ostep f) acc) ≤ n
  | [], acc, ha => ha
  | p :: ps, acc, ha => ofold_dep h ps _ (dep_plus ha (dep_c1 (h _)))
theorem dep_ordF : ∀ (f : Nat) (w : List Nat), dep (ordF f w) ≤ f + 1
  | 0, w => by
    rw [ordF]
    split
    · exact dep_rz _
    · exact Nat.zero_le _
  | f + 1, w => by
    cases h : allz w with
    | true => rw [ordF_z _ _ h]; exact Nat.le_trans (dep_rz _) (by omega)
    | false => rw [ordF_s _ _ h]; exact ofold_dep (fun p => Nat.succ_le_succ (dep_ordF f p)) _ _ (Nat.zero_le _)
theorem ofold_W {f : Nat} (h : ∀ p, W (ordF f p)) : ∀ (ps : List (List Nat)) (acc : O), W acc → W (ps.foldl (ostep f) acc)
  | [], acc, ha => ha
  | p :: ps, acc, ha => ofold_W h ps _ (W_plus ha (W_c1 (h _)))
theorem W_rz : ∀ n, W (rep z n)
  | 0 => True.intro
  | n + 1 => ⟨True.intro, W_rz n, fun e _ => by
    have hz : ∀ n, ∀ e ∈ els (rep z n), e = z := fun n => by
      induction n with
      | zero => intro e h; cases h
      | succ n ih => intro e h; rw [rep, els] at h; exact (List.mem_cons.mp h).elim id (ih e)
    rw [hz n e ‹_›]
    exact le_refl z⟩
theorem W_ordF : ∀ (f : Nat) (w : List Nat), W (ordF f w)
  | 0, w => by
    rw [ordF]
    split
    · exact W_rz _
    · exact True.intro
  | f + 1, w => by
    cases h : allz w with
    | true => rw [ordF_z _ _ h]; exact W_rz _
    | false => rw [ordF_s _ _ h]; exact ofold_W (W_ordF f) _ _ True.intro
theorem cnt_rz : ∀ n, cnt (rep z n) = n + 1
  | 0 => rfl
  | n + 1 => by rw [rep, cnt, cnt_rz n, cnt]; omega
theorem ofold_cnt {f : Nat} (h : ∀ p, cnt (ordF f p) ≤ 1 + (f + 1) * (p.length + 1)) : ∀ (ps : List (List Nat)) (acc : O), cnt (ps.foldl (ostep f) acc) ≤ cnt acc + ps.length + (f + 1) * lens ps
  | [], acc => by simp [lens]
  | p :: ps, acc => by
    have h1 := ofold_cnt h ps (ostep f acc p)
    have h2 := (cnt_plus acc (c (ordF f (down p)) z)).1
    have h3 := h (down p)
    rw [len_down] at h3
    have h4 : cnt (c (ordF f (down p)) z) = cnt (ordF f (down p)) + 1 := rfl
    rw [List.foldl_cons, lens, List.length_cons, Nat.mul_add]
    have h5 : cnt (ostep f acc p) + 1 ≤ cnt acc + cnt (c (ordF f (down p)) z) := h2
    omega
theorem cnt_ordF : ∀ (f : Nat) (w : List Nat), cnt (ordF f w) ≤ 1 + (f + 1) * (w.length + 1)
  | 0, w => by
    rw [ordF]
    split
    · rw [cnt_rz]; omega
    · rw [cnt]; omega
  | f + 1, w => by
    have e : (f + 1 + 1) * (w.length + 1) = (f + 1) * (w.length + 1) + (w.length + 1) := Nat.succ_mul _ _
    cases h : allz w with
    | true =>
      rw [ordF_z _ _ h, cnt_rz]
      omega
    | false =>
      rw [ordF_s _ _ h]
      have h1 := ofold_cnt (cnt_ordF f) (pcs [] w).reverse z
      rw [lens_rev, pcs_lens, List.length_nil, Nat.zero_add, List.length_reverse] at h1
      have h2 := lens_len (pcs [] w)
      rw [pcs_lens, List.length_nil, Nat.zero_add] at h2
      have h3 : cnt z = 1 := rfl
      omega
theorem truths_N : ∀ w : List Nat, truthsOf (lD w) = some (w.map fun a : Nat => (a : Int) != 0)
  | [] => rfl
  | a :: w => by rw [lD_cons, truthsOf, truths_N w]; rfl
theorem any_wD {mh : MH} (w : List Nat) : bltR mh .any [.v (wD w)] = some (.v (.bl (!allz w))) := by
  have e : (w.map fun a : Nat => (a : Int) != 0).any id = !allz w := by
    induction w with
    | nil => rfl
    | cons a w ih =>
      rw [List.map_cons, List.any_cons, ih]
      cases a with
      | zero => rfl
      | succ n =>
        have : (((n + 1 : Nat) : Int) != 0) = true := by simp; omega
        rw [this]
        rfl
  show ((some (lD w)).bind truthsOf).map (fun bs => R.v (.bl (bs.any id))) = _
  rw [Option.bind_some, truths_N, Option.map_some, e]
def obody : List St := [(.asg (.nm 1) (.call 10 [(.var 1), (.tup [(.call 20 [(.call 18 [(.var 2), (.cst (.int 1))] [])] [])])] []))]
theorem order_loop {k f : Nat} {mh : MH} (hm : Closed mh) {W : Option D} (hf : f ≤ 40) : ∀ (ps : List (List Nat)) (acc : O) (v : Option D), (∀ p ∈ ps, call T (k + 1) 20 [wD (down p)] mh = some (.v (toD (ordF f (down p))), mh) ∧ (∀ a ∈ p, 1 ≤ a) ∧ p.length ≤ many) → dep acc ≤ f + 2 → len acc + ps.length ≤ many →
    ∃ v', loopL (fun x env mh => match asgT (.nm 2) x env with
          | some env => sts (call T (k + 1)) obody env mh
          | none => none) (ps.map wD) [W, some (toD acc), v] mh = some (.nx, [W, some (toD (ps.foldl (ostep f) acc)), v'], mh)
  | [], acc, v, _, _, _ => ⟨v, rfl⟩
  | p :: ps, acc, v, h, ha, hl => by
    rw [List.length_cons] at hl
    obtain ⟨h1, h2, h3⟩ := h p List.mem_cons_self
    have dp := dep_ordF f (down p)
    have lo := lowered_in_ok (k := k) hm p h3 h2
    have pl := plus_in_ok (k := k) (mh := mh) hm (x := acc) (y := c (ordF f (down p)) z) (by omega) (dep_c1 (by omega)) (by show len acc + 1 ≤ many; omega)
    have l1 := len_plus acc (c (ordF f (down p)) z)
    obtain ⟨v', r⟩ := order_loop hm (k := k) (W := W) hf ps (ostep f acc p) (some (wD p)) (fun q hq => h q (List.mem_cons_of_mem _ hq)) (dep_plus ha (dep_c1 (by omega))) (by
      have l2 : len (ostep f acc p) ≤ len acc + 1 := l1
      omega)
    refine ⟨v', ?_⟩
    rw [List.map_cons, loopL]
    have a : asgT (.nm 2) (wD p) [W, some (toD acc), v] = some [W, some (toD acc), some (wD p)] := rfl
    rw [a]
    dsimp only
    have t1 : D.tup [toD (ordF f (down p))] = toD (c (ordF f (down p)) z) := rfl
    have m1 : 1 ≤ many := by decide
    have s : sts (call T (k + 1)) obody [W, some (toD acc), some (wD p)] mh = some (.nx, [W, some (toD (ostep f acc p)), some (wD p)], mh) := by
      simp [obody, sts, st, ex, exs, permute, box, lo, h1, m1, t1, pl, asgT, ostep]
    rw [s]
    exact r
theorem order_in_ok {mh : MH} (hm : Closed mh) (k : Nat) : ∀ (f : Nat) (w : List Nat), (∀ a ∈ w, a ≤ f) → f ≤ 40 → w.length ≤ 1000 → call T (k + f + 2) 20 [wD w] mh = some (.v (toD (ordF f w)), mh) := by
  have zc : ∀ (j f : Nat) (w : List Nat), allz w = true → w.length ≤ 1000 → call T (j + 2) 20 [wD w] mh = some (.v (toD (ordF f w)), mh) := fun j f w h hl => by
    rw [ordF_z _ _ h]
    refine call_data (T := T) (fd := fd20) rfl rfl rfl hm (low_toD 0 _) [] ?_
    have a := any_wD (mh := mh) w
    rw [h] at a
    have n := number_in_ok (k := j) hm w.length hl
    simp [fd20, sts, st, ex, exr, exs, permute, box, a, truth, len_wD, n, out]
  intro f
  induction f with
  | zero =>
    intro w hw hf hl
    exact zc k 0 w (allz_iff.mpr fun a ha => Nat.le_zero.mp (hw a ha)) hl
  | succ f ih =>
    intro w hw hf hl
    cases h : allz w with
    | true => exact zc (k + (f + 1)) (f + 1) w h hl
    | false =>
      rw [ordF_s _ _ h]
      refine call_data (T := T) (fd := fd20) rfl rfl rfl hm (low_toD 0 _) [] ?_
      have a := any_wD (mh := mh) w
      rw [h] at a
      have p := pieces_of_ok (k := k + f + 1) hm w (Nat.lt_of_le_of_lt hl (by decide))
      show out (sts (call T (k + f + 2)) fd20.body [some (wD w), none, none] mh) = _
      unfold fd20
      rw [sts_nx (env' := [some (wD w), none, none]) (mh' := mh) (by simp [sts, st, ex, exr, a, truth])]
      rw [sts_nx (env' := [some (wD w), some (toD z), none]) (mh' := mh) (by simp [st, ex, asgT, box, z_toD])]
      have hlen := pcs_lens w []
      rw [List.length_nil, Nat.zero_add] at hlen
      obtain ⟨v', r⟩ := order_loop (k := k + f + 1) (f := f) hm (W := some (wD w)) (by omega) (pcs [] w).reverse z none (fun q hq => by
        have hq := List.mem_reverse.mp hq
        have m := lens_mem hq
        have g := pcs_mem (P := fun a => 1 ≤ a ∧ a ≤ f + 1) w [] (fun a h => by cases h) (fun a ha h0 => ⟨by omega, hw a ha⟩) q hq
        refine ⟨?_, fun a ha => (g a ha).1, by have : (1000 : Nat) ≤ many := by decide
                                               omega⟩
        refine ih (down q) (fun a ha => ?_) (by omega) (by rw [len_down]; omega)
        obtain ⟨b, hb, rfl⟩ := List.mem_map.mp ha
        have := (g b hb).2
        omega) (Nat.zero_le _) (by
          have := lens_len (pcs [] w)
          rw [List.length_reverse, show len z = 0 from rfl]
          have : (1001 : Nat) ≤ many := by decide
          omega)
      have rv : revR mh (.l ((pcs [] w).map wD)) = some (.l ((pcs [] w).reverse.map wD)) := by
        rw [List.map_reverse]
        rfl
      rw [sts_nx ((st_for (rs := [.l ((pcs [] w).reverse.map wD)]) (xs := (pcs [] w).reverse.map wD) (by simp [exr, ex, exs, permute, box, p, rv]) rfl).trans r)]
      simp [sts, st, ex, out]
end K67
set_option Elab.async false
set_option linter.all false
set_option maxRecDepth 100000
set_option maxHeartbeats 400000
/-! K67W4: worm_in, form_in. -/
namespace K67
open Ev Pl Pl.O
theorem isnum_cases (x : O) : (match x with | z => true | c h _ => decide (h = z)) = isnum x := by
  cases x with
  | z => rfl
  | c h t => cases h <;> rfl
theorem is_number_in_ok2 {k : Nat} {mh : MH} (hm : Closed mh) {x : O} (hx : dep x ≤ 50) : call T (k + 1) 9 [toD x] mh = some (.v (.bl (isnum x)), mh) := by
  have h := is_number_in_ok (k := k) hm hx
  cases x with
  | z => exact h
  | c a t => cases a <;> exact h
theorem worm_len : ∀ x : O, (wj x).length + 1 ≤ cnt x ∧ (worm x).length + 1 ≤ cnt x
  | z => ⟨Nat.le_refl _, Nat.le_refl _⟩
  | c h z => by
    have g := (worm_len h).2
    have e : wj (c h z) = up (worm h) := rfl
    have w : (wj (c h z)).length + 1 ≤ cnt (c h z) := by
      rw [e, up, List.length_map, cnt, cnt]
      omega
    refine ⟨w, ?_⟩
    rw [worm]
    split
    · rw [List.length_replicate]; exact len_cnt _
    · exact w
  | c h (c a b) => by
    have g := (worm_len h).2
    have g2 := (worm_len (c a b)).1
    have e : wj (c h (c a b)) = wj (c a b) ++ 0 :: up (worm h) := rfl
    have w : (wj (c h (c a b))).length + 1 ≤ cnt (c h (c a b)) := by
      rw [e, List.length_append, List.length_cons, up, List.length_map, cnt]
      omega
    refine ⟨w, ?_⟩
    rw [worm]
    split
    · rw [List.length_replicate]; exact len_cnt _
    · exact w
def wstep (acc : List Nat) (e : O) : List Nat := acc ++ 0 :: up (worm e)
theorem wj_fold : ∀ h t : O, wj (c h t) = (els (init (c h t))).reverse.foldl wstep (up (worm (lst (c h t))))
  | h, z => rfl
  | h, c a b => by
    have e : wj (c h (c a b)) = wj (c a b) ++ 0 :: up (worm h) := rfl
    rw [e, init, els, List.reverse_cons, List.foldl_append, lst, ← wj_fold a b]
    rfl
theorem addN {mh : MH} (a b : List Nat) (h : a.length + b.length ≤ many) : opR mh .add (.v (wD a)) (.v (wD b)) = some (.v (wD (a ++ b))) := by
  have f : (lD a).length + (lD b).length ≤ many := by rw [lD_len, lD_len]; exact h
  simp [wD, opR, f, lD_app]
theorem rep0 (n : Nat) (hn : n ≤ 1000) : repT [.int 0] (n : Int) = some (lD (List.replicate n 0)) := by
  unfold repT
  rw [if_pos ⟨by omega, by omega, by simp⟩, Int.toNat_natCast]
  congr 1
  induction n with
  | zero => rfl
  | succ n ih => rw [List.replicate_succ, List.flatten_cons, ih (by omega)]; rfl
def wbody : List St := [(.asg (.nm 1) (.op .add (.op .add (.var 1) (.tup [(.cst (.int 0))])) (.call 17 [(.call 21 [(.var 2)] []), (.cst (.int 1))] [])))]
theorem worm_loop {k : Nat} {mh : MH} (hm : Closed mh) {W : Option D} : ∀ (l : List O) (acc : List Nat) (v : Option D), (∀ e ∈ l, call T (k + 1) 21 [toD e] mh = some (.v (wD (worm e)), mh)) → acc.length + cnts l ≤ 1000 →
    ∃ v', loopL (fun x env mh => match asgT (.nm 2) x env with
          | some env => sts (call T (k + 1)) wbody env mh
          | none => none) (l.map toD) [W, some (wD acc), v] mh = some (.nx, [W, some (wD (l.foldl wstep acc)), v'], mh)
  | [], acc, v, _, _ => ⟨v, rfl⟩
  | e :: l, acc, v, h, hl => by
    rw [cnts] at hl
    have g := (worm_len e).2
    have m : (1000 : Nat) ≤ many := by decide
    have h1 := h e List.mem_cons_self
    have ra := raised_in_ok (k := k) hm (worm e) (by omega)
    have lu : (up (worm e)).length = (worm e).length := List.length_map _
    have a1 := addN (mh := mh) acc [0] (by rw [List.length_singleton]; omega)
    have a2 := addN (mh := mh) (acc ++ [0]) (up (worm e)) (by rw [List.length_append, List.length_singleton]; omega)
    obtain ⟨v', r⟩ := worm_loop hm (k := k) (W := W) l (wstep acc e) (some (toD e)) (fun q hq => h q (List.mem_cons_of_mem _ hq)) (by
      rw [wstep, List.length_append, List.length_cons]
      omega)
    refine ⟨v', ?_⟩
    rw [List.map_cons, loopL]
    have a : asgT (.nm 2) (toD e) [W, some (wD acc), v] = some [W, some (wD acc), some (toD e)] := rfl
    rw [a]
    dsimp only
    have m1 : 1 ≤ many := by decide
    have t0 : D.tup [.int 0] = wD [0] := rfl
    have s : sts (call T (k + 1)) wbody [W, some (wD acc), some (toD e)] mh = some (.nx, [W, some (wD (wstep acc e)), some (toD e)], mh) := by
      simp [wbody, sts, st, ex, exs, permute, box, m1, t0, a1, h1, ra, a2, asgT, wstep]
    rw [s]
    exact r
theorem init_mem : ∀ {h t e : O}, e ∈ els (init (c h t)) → e ∈ els (c h t)
  | h, z, e, m => by cases m
  | h, c a b, e, m => by
    rw [init, els] at m
    rw [els]
    rcases List.mem_cons.mp m with rfl | m
    · exact List.mem_cons_self
    · exact List.mem_cons_of_mem _ (init_mem m)
theorem els_last : ∀ h t : O, els (c h t) = els (init (c h t)) ++ [lst (c h t)]
  | h, z => rfl
  | h, c a b => by rw [init, lst, els, els_last a b, els]; rfl
theorem cnts_rev : ∀ l : List O, cnts l.reverse = cnts l := fun l => cnts_perm (List.reverse_perm l)
theorem worm_in_ok {mh : MH} (hm : Closed mh) (k : Nat) : ∀ (d : Nat) (x : O), dep x ≤ d → d ≤ 50 → cnt x ≤ 1000 → call T (k + d + 2) 21 [toD x] mh = some (.v (wD (worm x)), mh) := by
  have zc : ∀ (j : Nat) (x : O), isnum x = true → dep x ≤ 50 → cnt x ≤ 1000 → call T (j + 2) 21 [toD x] mh = some (.v (wD (worm x)), mh) := fun j x h hx hc => by
    have e : worm x = List.replicate (len x) 0 := by rw [worm, h]; rfl
    rw [e]
    refine call_data (T := T) (fd := fd21) rfl rfl rfl hm (low_wD 0 _) [] ?_
    have n := is_number_in_ok2 (k := j) hm hx
    rw [h] at n
    have l := len_cnt x
    have r : opR mh .mul (.v (.tup [.int 0])) (.v (.int (len x : Nat))) = some (.v (wD (List.replicate (len x) 0))) := by
      show (repT [.int 0] (len x : Nat)).map (fun ys => R.v (.tup ys)) = _
      rw [rep0 _ (by omega)]
      rfl
    have m1 : 1 ≤ many := by decide
    simp [fd21, sts, st, ex, exs, exr, permute, box, n, truth, len_R, m1, r, out]
  intro d
  induction d with
  | zero =>
    intro x hx hd hc
    refine zc k x ?_ (by omega) hc
    cases x with
    | z => rfl
    | c h t => rw [dep] at hx; have := Nat.le_max_left (dep h + 1) (dep t); omega
  | succ d ih =>
    intro x hx hd hc
    cases h : isnum x with
    | true => exact zc (k + (d + 1)) x h (by omega) hc
    | false =>
      have e : worm x = wj x := by rw [worm, h]; rfl
      rw [e]
      cases x with
      | z => cases h
      | c a t =>
        have hx50 : dep (c a t) ≤ 50 := by omega
        have n := is_number_in_ok2 (k := k + d + 1) (mh := mh) hm hx50
        rw [h] at n
        have ml := lst_mem a t
        have dl := dep_mem ml
        have cl := cnt_of_mem ml
        have lw := ih (lst (c a t)) (by omega) (by omega) (by omega)
        have wl := (worm_len (lst (c a t))).2
        have m : (1000 : Nat) ≤ many := by decide
        have ra := raised_in_ok (k := k + d + 1) hm (worm (lst (c a t))) (by omega)
        rw [wj_fold]
        refine call_data (T := T) (fd := fd21) rfl rfl rfl hm (low_wD 0 _) [] ?_
        show out (sts (call T (k + d + 2)) fd21.body [some (toD (c a t)), none, none] mh) = _
        unfold fd21
        have s1 : opR mh .sub (.v (.int 0)) (.v (.int 1)) = some (.v (.int (-1))) := rfl
        rw [sts_nx (env' := [some (toD (c a t)), none, none]) (mh' := mh) (by simp [sts, st, ex, exs, permute, box, n, truth])]
        rw [sts_nx (env' := [some (toD (c a t)), some (wD (up (worm (lst (c a t))))), none]) (mh' := mh) (by simp [st, ex, exs, permute, box, s1, idx_last, lw, ra, asgT])]
        have ce : cnt (c a t) = 1 + (cnts (els (init (c a t))) + cnt (lst (c a t))) := by
          rw [cnt_els, els_last, cnts_append]
          simp [cnts]
        have lu : (up (worm (lst (c a t)))).length = (worm (lst (c a t))).length := List.length_map _
        obtain ⟨v', r⟩ := worm_loop (k := k + d + 1) hm (W := some (toD (c a t))) (els (init (c a t))).reverse (up (worm (lst (c a t)))) none (fun q hq => by
          have hq := init_mem (List.mem_reverse.mp hq)
          have := dep_mem hq
          have := cnt_of_mem hq
          exact ih q (by omega) (by omega) (by omega)) (by rw [cnts_rev]; omega)
        have rv : revR mh (.v (toD (init (c a t)))) = some (.v (.tup ((els (init (c a t))).reverse.map toD))) := by
          show some (R.v (.tup (toL (init (c a t))).reverse)) = _
          rw [toL_els, List.map_reverse]
        rw [sts_nx ((st_for (rs := [.v (.tup ((els (init (c a t))).reverse.map toD))]) (xs := (els (init (c a t))).reverse.map toD) (by simp [exr, ex, exo, s1, cut_init, rv]) rfl).trans r)]
        simp [sts, st, ex, out]
theorem form_in_ok {mh : MH} (hm : Closed mh) (k : Nat) (w : List Nat) (hw : ∀ a ∈ w, a ≤ 7) (hl : w.length ≤ 100) : call T (k + 11) 22 [wD w] mh = some (.v (wD (form w)), mh) := by
  refine call_data (T := T) (fd := fd22) rfl rfl rfl hm (low_wD 0 _) [] ?_
  have o := order_in_ok hm (k + 1) 7 w hw (by decide) (by omega)
  have d := dep_ordF 7 w
  have c := cnt_ordF 7 w
  have l := worm_in_ok hm k 8 (ordF 7 w) d (by decide) (by omega)
  simp [fd22, sts, st, ex, exs, permute, box, o, l, out, form, ord]
end K67
set_option Elab.async false
set_option linter.all false
set_option maxRecDepth 100000
set_option maxHeartbeats 400000
/-! K67W5: head_at, next_in. -/
namespace K67
open Ev Pl Pl.O
theorem idxN {mh : MH} (p : List Nat) (a : Nat) (t : List Nat) : idxR mh (.v (wD (p ++ a :: t))) (.v (.int (p.length : Nat))) = some (.int (a : Int)) := by
  have e : wD (p ++ a :: t) = .tup (lD p ++ .int (a : Int) :: lD t) := by unfold wD; rw [lD_app]; rfl
  rw [e]
  show L2.atI (lD p ++ .int (a : Int) :: lD t) (p.length : Nat) = some (.int (a : Int))
  unfold L2.atI L2.ixN
  rw [← lD_len p]
  have lt : ((lD p).length : Int) < (lD p).length + ((lD t).length + 1) := by omega
  simp
  rw [if_pos lt]
  simp
theorem idxN0 {mh : MH} (a : Nat) (t : List Nat) : idxR mh (.v (wD (a :: t))) (.v (.int 0)) = some (.int (a : Int)) := idxN [] a t
theorem cutN {mh : MH} (p q : List Nat) : cutR mh (.v (wD (p ++ q))) (some (p.length : Nat)) none = some (.v (wD q)) := by
  have e : wD (p ++ q) = .tup (lD p ++ lD q) := by unfold wD; rw [lD_app]
  rw [e]
  show some (R.v (.tup (cutD (lD p ++ lD q) (some (p.length : Nat)) none))) = _
  unfold cutD
  rw [HT.sIx_nat, HT.sIx_none, ← lD_len p, List.length_append, Nat.min_eq_left (by omega), List.drop_left, Nat.add_sub_cancel_left, List.take_length]
  rfl
theorem cutN1 {mh : MH} (a : Nat) (q : List Nat) : cutR mh (.v (wD (a :: q))) (some 1) none = some (.v (wD q)) := cutN [a] q
theorem cutNto {mh : MH} (p q : List Nat) : cutR mh (.v (wD (p ++ q))) none (some (p.length : Nat)) = some (.v (wD p)) := by
  have e : wD (p ++ q) = .tup (lD p ++ lD q) := by unfold wD; rw [lD_app]
  rw [e]
  show some (R.v (.tup (cutD (lD p ++ lD q) none (some (p.length : Nat))))) = _
  unfold cutD
  rw [HT.sIx_nat, HT.sIx_none, ← lD_len p, List.length_append, Nat.min_eq_left (by omega), List.drop_zero, Nat.sub_zero, List.take_left]
  rfl
theorem wl_end {C : CallF} {c : Ex} {b : List St} {F : Nat} {env : Env} {mh : MH} (h : ex C c env mh = some (.v (.bl false), mh)) :
    wloop (fun env mh => match ex C c env mh with
      | some (x, mh) => (truth mh x).map fun t => (t, mh)
      | none => none) (fun env mh => sts C b env mh) (F + 1) env mh = some (.nx, env, mh) := by
  rw [wloop, h]
  rfl
theorem wl_go {C : CallF} {c : Ex} {b : List St} {F : Nat} {env env' : Env} {mh mh' : MH} (h : ex C c env mh = some (.v (.bl true), mh)) (hb : sts C b env mh = some (.nx, env', mh')) :
    wloop (fun env mh => match ex C c env mh with
      | some (x, mh) => (truth mh x).map fun t => (t, mh)
      | none => none) (fun env mh => sts C b env mh) (F + 1) env mh = wloop (fun env mh => match ex C c env mh with
      | some (x, mh) => (truth mh x).map fun t => (t, mh)
      | none => none) (fun env mh => sts C b env mh) F env' mh' := by
  rw [wloop, h]
  dsimp only [truth, Option.map_some]
  rw [hb]
def hcond (o : Cm) (wv iv nv : Nat) : Ex := (.and_ (.cmp .lt (.var iv) (.blt .len [(.var wv)])) (.cmp o (.idx (.var wv) (.var iv)) (.var nv)))
def hbody (iv : Nat) : List St := [(.aug iv .add (.cst (.int 1)))]
theorem hd_tl (n : Nat) (w : List Nat) : hd n w ++ tl n w = w := List.takeWhile_append_dropWhile
theorem head_loop {C : CallF} {mh : MH} {n : Nat} : ∀ (r p : List Nat) (F : Nat), r.length < F →
    wloop (fun env mh => match ex C (hcond .ge 1 2 0) env mh with
      | some (x, mh) => (truth mh x).map fun t => (t, mh)
      | none => none) (fun env mh => sts C (hbody 2) env mh) F [some (.int (n : Nat)), some (wD (p ++ r)), some (.int (p.length : Nat))] mh = some (.nx, [some (.int (n : Nat)), some (wD (p ++ r)), some (.int ((p ++ hd n r).length : Nat))], mh)
  | [], p, F + 1, _ => by
    have e : ordR .lt (.v (.int (p.length : Nat))) (.v (.int ((p ++ []).length : Nat))) = some false := by rw [ltR_int, List.append_nil, decide_eq_false (by omega)]
    have c : ex C (hcond .ge 1 2 0) [some (.int (n : Nat)), some (wD (p ++ [])), some (.int (p.length : Nat))] mh = some (.v (.bl false), mh) := by
      simp only [hcond, ex, exr, List.getElem?_cons_zero, List.getElem?_cons_succ, len_wD, Option.map, cmR, e, truth]
    rw [wl_end c]
    simp [hd]
  | a :: r, p, F + 1, hF => by
    rw [List.length_cons] at hF
    have e : ordR .lt (.v (.int (p.length : Nat))) (.v (.int ((p ++ a :: r).length : Nat))) = some true := by rw [ltR_int, decide_eq_true (by rw [List.length_append, List.length_cons]; omega)]
    have e2 : ordR .ge (.v (.int (a : Int))) (.v (.int (n : Nat))) = some (decide (n ≤ a)) := by rw [geR_int]; congr 1; exact decide_eq_decide.mpr (by omega)
    have c : ex C (hcond .ge 1 2 0) [some (.int (n : Nat)), some (wD (p ++ a :: r)), some (.int (p.length : Nat))] mh = some (.v (.bl (decide (n ≤ a))), mh) := by
      simp only [hcond, ex, exr, List.getElem?_cons_zero, List.getElem?_cons_succ, len_wD, Option.map, cmR, e, truth, idxN, e2]
    by_cases q : n ≤ a
    · rw [decide_eq_true q] at c
      have b : sts C (hbody 2) [some (.int (n : Nat)), some (wD (p ++ a :: r)), some (.int (p.length : Nat))] mh = some (.nx, [some (.int (n : Nat)), some (wD (p ++ a :: r)), some (.int ((p ++ [a]).length : Nat))], mh) := by
        simp [hbody, sts, st, ex, opA, opR]
      rw [wl_go c b]
      have x : p ++ a :: r = (p ++ [a]) ++ r := by rw [List.append_assoc]; rfl
      have h : hd n (a :: r) = a :: hd n r := by unfold hd; rw [List.takeWhile_cons, if_pos (Nat.ble_eq.mpr q)]
      rw [x, head_loop r (p ++ [a]) F (by omega), h, List.append_assoc p [a] (hd n r)]
      rfl
    · rw [decide_eq_false q] at c
      have h : hd n (a :: r) = [] := by unfold hd; rw [List.takeWhile_cons, if_neg (fun k => q (Nat.ble_eq.mp k))]
      rw [wl_end c, h, List.append_nil]
theorem head_at_ok {k : Nat} {mh : MH} (hm : Closed mh) (n : Nat) (w : List Nat) (hl : w.length < manyW) : call T (k + 1) 23 [.int (n : Nat), wD w] mh = some (.v (.tup [wD (hd n w), wD (tl n w)]), mh) := by
  refine call_data (T := T) (fd := fd23) rfl rfl rfl hm (by rw [low, lowL, low_wD, lowL, low_wD]; rfl) [] ?_
  show out (sts (call T k) fd23.body [some (.int (n : Nat)), some (wD w), none] mh) = _
  unfold fd23
  rw [sts_nx (env' := [some (.int (n : Nat)), some (wD w), some (.int (0 : Nat))]) (mh' := mh) (by simp [st, ex, asgT, box])]
  have l := head_loop (C := call T k) (mh := mh) (n := n) w [] manyW hl
  rw [List.nil_append, List.nil_append] at l
  rw [sts_nx (by rw [st]; exact l)]
  have c1 := cutNto (mh := mh) (hd n w) (tl n w)
  have c2 := cutN (mh := mh) (hd n w) (tl n w)
  rw [hd_tl] at c1 c2
  have m2 : 2 ≤ many := by decide
  simp [sts, st, ex, exs, exo, box, c1, c2, out, m2]
theorem repN (a : List Nat) (n : Nat) (hn : n ≤ 1000) (ha : a.length ≤ 1000) : repT (lD a) (n : Int) = some (lD (List.replicate n a).flatten) := by
  unfold repT
  rw [if_pos ⟨by omega, by omega, by rw [lD_len]; exact ha⟩, Int.toNat_natCast]
  congr 1
  induction n with
  | zero => rfl
  | succ n ih => rw [List.replicate_succ, List.flatten_cons, ih (by omega), List.replicate_succ, List.flatten_cons, lD_app]
theorem len_rep_flat (a : List Nat) (n : Nat) : (List.replicate n a).flatten.length = n * a.length := by
  induction n with
  | zero => simp
  | succ n ih => rw [List.replicate_succ, List.flatten_cons, List.length_append, ih, Nat.succ_mul]; omega
theorem len_hd_tl (n : Nat) (w : List Nat) : (hd n w).length + (tl n w).length = w.length := by
  have := congrArg List.length (hd_tl n w)
  rw [List.length_append] at this
  exact this
theorem next_in_ok {k : Nat} {mh : MH} (hm : Closed mh) (a : Nat) (r : List Nat) (t : Nat) (ht : t ≤ 900) (hl : r.length ≤ 900) : call T (k + 2) 24 [wD (a :: r), .int (t : Nat)] mh = some (.v (wD (nextIn (a :: r) t)), mh) := by
  refine call_data (T := T) (fd := fd24) rfl rfl rfl hm (low_wD 0 _) [] ?_
  cases a with
  | zero =>
    have e : eqR mh (.v (.int ((0 : Nat) : Int))) (.v (.int 0)) = some true := by rw [eqR_int]; rfl
    have i0 := idxN0 (mh := mh) 0 r
    have c1 := cutN1 (mh := mh) 0 r
    rw [nextIn]
    show out (sts (call T (k + 1)) fd24.body [some (wD (0 :: r)), some (.int (t : Nat)), none, none, none] mh) = _
    simp only [fd24, sts, st, ex, exo, List.getElem?_cons_zero, i0, Option.map, cmR, e, truth, c1, out, List.append_nil]
  | succ n =>
    have e : eqR mh (.v (.int ((n + 1 : Nat) : Int))) (.v (.int 0)) = some false := by rw [eqR_int, decide_eq_false (by omega)]
    have i0 := idxN0 (mh := mh) (n + 1) r
    have c1 := cutN1 (mh := mh) (n + 1) r
    have s1 : opR mh .sub (.v (.int ((n + 1 : Nat) : Int))) (.v (.int 1)) = some (.v (.int (n : Int))) := by
      show some (R.v (.int (((n + 1 : Nat) : Int) - 1))) = _
      congr 3
      omega
    have s2 : opR mh .add (.v (.int (n : Int))) (.v (.int 1)) = some (.v (.int ((n + 1 : Nat) : Int))) := rfl
    have s3 : opR mh .add (.v (.int (t : Int))) (.v (.int 1)) = some (.v (.int ((t + 1 : Nat) : Int))) := rfl
    have h := head_at_ok (k := k) hm (n + 1) r (Nat.lt_of_le_of_lt hl (by decide))
    have ll := len_hd_tl (n + 1) r
    have a1 := addN (mh := mh) [n] (hd (n + 1) r) (by rw [List.length_singleton]; have : (1000 : Nat) ≤ many := by decide
                                                      omega)
    have rp : opR mh .mul (.v (wD (n :: hd (n + 1) r))) (.v (.int ((t + 1 : Nat) : Int))) = some (.v (wD (List.replicate (t + 1) (n :: hd (n + 1) r)).flatten)) := by
      show (repT (lD (n :: hd (n + 1) r)) ((t + 1 : Nat) : Int)).map (fun ys => R.v (.tup ys)) = _
      rw [repN _ _ (by omega) (by rw [List.length_cons]; omega)]
      rfl
    have a2 := addN (mh := mh) (List.replicate (t + 1) (n :: hd (n + 1) r)).flatten (tl (n + 1) r) (by
      rw [len_rep_flat, List.length_cons]
      have : (t + 1) * ((hd (n + 1) r).length + 1) ≤ 901 * 901 := Nat.mul_le_mul (by omega) (by omega)
      have : (901 * 901 + 900 : Nat) ≤ many := by decide
      omega)
    have m1 : 1 ≤ many := by decide
    have m2 : 2 ≤ many := by decide
    have t1 : D.tup [.int (n : Int)] = wD [n] := rfl
    rw [nextIn]
    show out (sts (call T (k + 1)) fd24.body [some (wD ((n + 1) :: r)), some (.int (t : Nat)), none, none, none] mh) = _
    unfold fd24
    rw [sts_nx (env' := [some (wD ((n + 1) :: r)), some (.int (t : Nat)), none, none, none]) (mh' := mh) (by simp only [sts, st, ex, List.getElem?_cons_zero, i0, Option.map, cmR, e, truth])]
    rw [sts_nx (env' := [some (wD ((n + 1) :: r)), some (.int (t : Nat)), some (.int (n : Int)), none, none]) (mh' := mh) (by simp only [st, ex, List.getElem?_cons_zero, i0, Option.map, s1, asgT, box, List.set])]
    rw [sts_nx (env' := [some (wD ((n + 1) :: r)), some (.int (t : Nat)), some (.int (n : Int)), some (wD (hd (n + 1) r)), some (wD (tl (n + 1) r))]) (mh' := mh) (by
      simp only [st, ex, exs, exo, List.getElem?_cons_zero, List.getElem?_cons_succ, Option.map, s2, c1, box, permute, List.isEmpty_nil, if_true, h, asgT, asgTs, List.set])]
    simp only [sts, st, ex, exs, List.getElem?_cons_zero, List.getElem?_cons_succ, box, List.length_singleton, m1, if_true, t1, a1, Option.map, s3, List.singleton_append, rp, a2, out, List.append_nil]
end K67
set_option Elab.async false
set_option linter.all false
set_option maxRecDepth 100000
set_option maxHeartbeats 400000
/-! K67W6: ranges; behind_in, last_behind. -/
namespace K67
open Ev Pl Pl.O
/-- so many integers from lo on -/
def rngD : Nat → Nat → List D
  | _, 0 => []
  | lo, n + 1 => .int (lo : Int) :: rngD (lo + 1) n
theorem rngD_len : ∀ (n lo : Nat), (rngD lo n).length = n
  | 0, _ => rfl
  | n + 1, lo => by rw [rngD, List.length_cons, rngD_len n]
theorem range_rngD : ∀ (n lo : Nat), ((List.range n).map fun i => D.int ((lo : Int) + (i : Nat))) = rngD lo n
  | 0, _ => rfl
  | n + 1, lo => by
    have e0 : (lo : Int) + ((0 : Nat) : Int) = lo := by omega
    rw [List.range_succ_eq_map, List.map_cons, List.map_map, rngD, ← range_rngD n (lo + 1), e0]
    congr 1
    refine List.map_congr_left fun i _ => ?_
    show D.int ((lo : Int) + ((i + 1 : Nat) : Int)) = D.int (((lo + 1 : Nat) : Int) + (i : Int))
    congr 1
    omega
theorem stat_rngD (lo n : Nat) : Stat (.rng (lo : Int) n) (rngD lo n) := by
  rw [← range_rngD]
  exact stat_rng _ n
theorem st_forR {C : CallF} {t : Tg} {kd : Kd} {es : List Ex} {b : List St} {env : Env} {mh : MH} {rs : List R} {lo n : Nat} (h : exr C es env mh = some (rs, mh)) (h2 : srcR mh kd rs = some (.rng (lo : Int) n)) :
    st C (.for_ t kd es b) env mh = loopL (fun x env mh => match asgT t x env with
          | some env => sts C b env mh
          | none => none) (rngD lo n) env mh := by
  rw [st, h]
  dsimp only
  rw [h2]
  dsimp only
  rw [loop_run (stat_rngD lo n) (by rw [rngD_len]; rfl)]
  all_goals rfl
theorem small62_nat (n : Nat) (h : n < 2 ^ 61) : small62 (n : Int) = true := by
  unfold small62
  rw [Bool.and_eq_true_iff]
  exact ⟨decide_eq_true (by omega), decide_eq_true (by omega)⟩
theorem src_r1 {mh : MH} (n : Nat) (h : n < 2 ^ 61) : srcR mh .range1 [.v (.int (n : Int))] = some (.rng ((0 : Nat) : Int) n) := by
  show (if small62 (n : Int) = true then some (Src.rng 0 (n : Int).toNat) else none) = _
  rw [if_pos (small62_nat n h), Int.toNat_natCast]
  rfl
theorem src_r2 {mh : MH} (lo n : Nat) (h : lo + n < 2 ^ 61) : srcR mh .range2 [.v (.int (lo : Int)), .v (.int ((lo + n : Nat) : Int))] = some (.rng (lo : Int) n) := by
  show (if (small62 (lo : Int) && small62 ((lo + n : Nat) : Int)) = true then some (Src.rng (lo : Int) (((lo + n : Nat) : Int) - (lo : Int)).toNat) else none) = _
  rw [if_pos (by rw [small62_nat lo (by omega), small62_nat _ h]; rfl)]
  congr 2
  omega
theorem loopL_nx {body : D → Env → MH → Option (Fl × Env × MH)} {x : D} {xs : List D} {env env' : Env} {mh mh' : MH} (h : body x env mh = some (.nx, env', mh')) : loopL body (x :: xs) env mh = loopL body xs env' mh' := by
  rw [loopL, h]
theorem loopL_rt {body : D → Env → MH → Option (Fl × Env × MH)} {x : D} {xs : List D} {env env' : Env} {mh mh' : MH} {r : R} (h : body x env mh = some (.rt r, env', mh')) : loopL body (x :: xs) env mh = some (.rt r, env', mh') := by
  rw [loopL, h]
theorem sts_rt {C : CallF} {s : St} {b : List St} {env env' : Env} {mh mh' : MH} {r : R} (h : st C s env mh = some (.rt r, env', mh')) : sts C (s :: b) env mh = some (.rt r, env', mh') := by
  rw [sts, h]
def lbody : List St := [(.ite (.cmp .eq (.var 0) (.tup [])) [(.ret (.tup [(.tup []), (.op .sub (.var 2) (.cst (.int 1)))]))] []), (.asg (.nm 0) (.call 24 [(.var 0), (.var 2)] []))]
theorem last_loop {j : Nat} {mh : MH} (hm : Closed mh) {N : Option D} : ∀ (k t : Nat) (w : List Nat) (v : Option D), 1 ≤ t → wayOk k t w = true →
    (∃ v' w', loopL (fun x env mh => match asgT (.nm 2) x env with
          | some env => sts (call T (j + 2)) lbody env mh
          | none => none) (rngD t k) [some (wD w), N, v] mh = some (.nx, [some (wD w'), N, v'], mh) ∧ lastB k t w = (w', t - 1 + k)) ∨
    (∃ env' n, loopL (fun x env mh => match asgT (.nm 2) x env with
          | some env => sts (call T (j + 2)) lbody env mh
          | none => none) (rngD t k) [some (wD w), N, v] mh = some (.rt (.v (.tup [wD [], .int (n : Nat)])), env', mh) ∧ lastB k t w = ([], n))
  | 0, t, w, v, _, _ => .inl ⟨v, w, rfl, rfl⟩
  | k + 1, t, [], v, ht, _ => by
    refine .inr ⟨[some (wD []), N, some (.int (t : Int))], t - 1, ?_, rfl⟩
    rw [rngD]
    refine loopL_rt ?_
    have e : eqR mh (.v (wD [])) (.v (.tup [])) = some true := eqR_wD [] []
    have s : opR mh .sub (.v (.int (t : Int))) (.v (.int 1)) = some (.v (.int ((t - 1 : Nat) : Int))) := by
      show some (R.v (.int ((t : Int) - 1))) = _
      congr 3
      omega
    have m2 : 2 ≤ many := by decide
    simp [asgT, lbody, sts, st, ex, exs, cmR, e, truth, box, s, m2]
    rfl
  | k + 1, t, a :: r, v, ht, hw => by
    have hw : (Nat.ble t 900 && (Nat.ble r.length 900 && wayOk k (t + 1) (nextIn (a :: r) t))) = true := hw
    rw [Bool.and_eq_true_iff, Bool.and_eq_true_iff] at hw
    obtain ⟨h1, h2, h3⟩ := hw
    have h1 := Nat.ble_eq.mp h1
    have h2 := Nat.ble_eq.mp h2
    have e : eqR mh (.v (wD (a :: r))) (.v (.tup [])) = some false := eqR_wD (a :: r) []
    have n := next_in_ok (k := j) hm a r t h1 h2
    have s : sts (call T (j + 2)) lbody [some (wD (a :: r)), N, some (.int (t : Int))] mh = some (.nx, [some (wD (nextIn (a :: r) t)), N, some (.int (t : Int))], mh) := by
      simp [lbody, sts, st, ex, exs, cmR, e, truth, box, permute, n, asgT]
    have q : loopL (fun x env mh => match asgT (.nm 2) x env with
          | some env => sts (call T (j + 2)) lbody env mh
          | none => none) (rngD t (k + 1)) [some (wD (a :: r)), N, v] mh = loopL (fun x env mh => match asgT (.nm 2) x env with
          | some env => sts (call T (j + 2)) lbody env mh
          | none => none) (rngD (t + 1) k) [some (wD (nextIn (a :: r) t)), N, some (.int (t : Int))] mh := by
      rw [rngD]
      exact loopL_nx s
    rw [q]
    rcases last_loop hm (j := j) (N := N) k (t + 1) (nextIn (a :: r) t) (some (.int (t : Int))) (by omega) h3 with ⟨v', w', r1, r2⟩ | ⟨env', n', r1, r2⟩
    · exact .inl ⟨v', w', r1, by rw [lastB, r2]; congr 1; omega⟩
    · exact .inr ⟨env', n', r1, by rw [lastB, r2]⟩
theorem last_behind_ok {j : Nat} {mh : MH} (hm : Closed mh) (w : List Nat) (k : Nat) (hk : k < 2 ^ 60) (h : wayOk k 1 w = true) : call T (j + 3) 26 [wD w, .int (k : Nat)] mh = some (.v (.tup [wD (lastB k 1 w).1, .int ((lastB k 1 w).2 : Nat)]), mh) := by
  refine call_data (T := T) (fd := fd26) rfl rfl rfl hm (by rw [low, lowL, low_wD]; rfl) [] ?_
  have s2 : opR mh .add (.v (.int (k : Int))) (.v (.int 1)) = some (.v (.int ((1 + k : Nat) : Int))) := by
    show some (R.v (.int ((k : Int) + 1))) = _
    congr 3
    omega
  have f := st_forR (C := call T (j + 2)) (t := .nm 2) (kd := .range2) (es := [(.cst (.int 1)), (.op .add (.var 1) (.cst (.int 1)))]) (b := lbody) (env := [some (wD w), some (.int (k : Nat)), none]) (mh := mh) (rs := [.v (.int ((1 : Nat) : Int)), .v (.int ((1 + k : Nat) : Int))]) (lo := 1) (n := k) (by simp [exr, ex, s2]) (src_r2 1 k (by omega))
  show out (sts (call T (j + 2)) fd26.body [some (wD w), some (.int (k : Nat)), none] mh) = _
  unfold fd26
  rcases last_loop hm (j := j) (N := some (.int (k : Nat))) k 1 w none (by omega) h with ⟨v', w', r1, r2⟩ | ⟨env', n', r1, r2⟩
  · have m2 : 2 ≤ many := by decide
    refine (congrArg out (sts_nx (f.trans r1))).trans ?_
    rw [r2]
    simp [sts, st, ex, exs, box, out, m2]
  · refine (congrArg out (sts_rt (f.trans r1))).trans ?_
    rw [r2]
    simp [out]
def bbody : List St := [(.ite (.cmp .eq (.idx (.var 2) (.op .sub (.cst (.int 0)) (.cst (.int 1)))) (.tup [])) [(.ret (.var 2))] []), (.expr (.mt .append (.var 2) [(.call 24 [(.idx (.var 2) (.op .sub (.cst (.int 0)) (.cst (.int 1)))), (.var 3)] [])]))]
theorem closed_ws {mh : MH} (hm : Closed mh) (l : List (List Nat)) : Closed (mh ++ [.lst (l.map wD)]) := by
  refine lowM_app _ _ (lowM_mono (by rw [List.length_append]; omega) _ hm) ?_
  rw [lowM, low_ws]
  rfl
theorem idx_lastL {xs : List D} (d : D) : L2.atI (xs ++ [d]) (-1) = some d := by
  unfold L2.atI L2.ixN
  have lt : (1 : Int) ≤ (xs.length : Int) + 1 := by omega
  have n : (-1 + ((xs.length : Int) + 1)).toNat = xs.length := by omega
  simp
  rw [if_pos lt, n]
  simp
theorem behs_loop {j : Nat} {mh : MH} (hm : Closed mh) {W N : Option D} : ∀ (k t : Nat) (w : List Nat) (pre : List (List Nat)) (v : Option D), 1 ≤ t → wayOk k t w = true → pre.length + k + 1 < many →
    ∃ fl env', loopL (fun x env mh => match asgT (.nm 3) x env with
          | some env => sts (call T (j + 2)) bbody env mh
          | none => none) (rngD t k) [W, N, some (.ref mh.length), v] (mh ++ [.lst ((pre ++ [w]).map wD)]) = some (fl, env', mh ++ [.lst ((pre ++ behs k t w).map wD)]) ∧
      ((fl = .nx ∧ ∃ v', env' = [W, N, some (.ref mh.length), v']) ∨ fl = .rt (.v (.ref mh.length)))
  | 0, t, w, pre, v, _, _, _ => ⟨.nx, _, rfl, .inl ⟨rfl, v, rfl⟩⟩
  | k + 1, t, w, pre, v, ht, hw, hl => by
    have s1 : ∀ mh, opR mh .sub (.v (.int 0)) (.v (.int 1)) = some (.v (.int (-1))) := fun _ => rfl
    have ix : idxR (mh ++ [.lst ((pre ++ [w]).map wD)]) (.v (.ref mh.length)) (.v (.int (-1))) = some (wD w) := by
      show (match seqOf (mh ++ [.lst ((pre ++ [w]).map wD)]) (.v (.ref mh.length)) with
        | some xs => L2.atI xs (-1)
        | none => none) = _
      simp only [seqOf, lstOf]
      rw [List.getElem?_append_right (Nat.le_refl _), Nat.sub_self]
      show L2.atI ((pre ++ [w]).map wD) (-1) = some (wD w)
      rw [List.map_append]
      exact idx_lastL _
    cases w with
    | nil =>
      refine ⟨_, [W, N, some (.ref mh.length), some (.int (t : Int))], ?_, .inr rfl⟩
      rw [rngD]
      have e : ∀ mh, eqR mh (.v (wD [])) (.v (.tup [])) = some true := fun mh => eqR_wD [] []
      refine loopL_rt ?_
      show sts (call T (j + 2)) bbody [W, N, some (.ref mh.length), some (.int (t : Int))] _ = _
      have m0 : 0 ≤ many := by decide
      simp only [bbody, sts, st, ex, exs, List.getElem?_cons_zero, List.getElem?_cons_succ, s1, Option.map, ix, cmR, e, truth, List.length_nil, m0, if_true, behs]
    | cons a r =>
      have hw : (Nat.ble t 900 && (Nat.ble r.length 900 && wayOk k (t + 1) (nextIn (a :: r) t))) = true := hw
      rw [Bool.and_eq_true_iff, Bool.and_eq_true_iff] at hw
      obtain ⟨h1, h2, h3⟩ := hw
      have h1 := Nat.ble_eq.mp h1
      have h2 := Nat.ble_eq.mp h2
      have e : ∀ mh, eqR mh (.v (wD (a :: r))) (.v (.tup [])) = some false := fun mh => eqR_wD (a :: r) []
      have n := next_in_ok (k := j) (closed_ws hm (pre ++ [a :: r])) a r t h1 h2
      have g : (mh ++ [MO.lst ((pre ++ [a :: r]).map wD)])[mh.length]? = some (.lst ((pre ++ [a :: r]).map wD)) := by
        rw [List.getElem?_append_right (Nat.le_refl _), Nat.sub_self]
        rfl
      have f : ((pre ++ [a :: r]).map wD).length < many := by
        rw [List.length_map, List.length_append, List.length_singleton]
        omega
      have m0 : 0 ≤ many := by decide
      have s : sts (call T (j + 2)) bbody [W, N, some (.ref mh.length), some (.int (t : Int))] (mh ++ [.lst ((pre ++ [a :: r]).map wD)]) = some (.nx, [W, N, some (.ref mh.length), some (.int (t : Int))], mh ++ [.lst (((pre ++ [a :: r]) ++ [nextIn (a :: r) t]).map wD)]) := by
        rw [List.map_append (l₁ := pre ++ [a :: r])]
        simp only [bbody, sts, st, ex, exs, exr, List.getElem?_cons_zero, List.getElem?_cons_succ, s1, Option.map, ix, cmR, e, truth, List.length_nil, m0, if_true, box, permute, List.isEmpty_nil, n, mtR, g, f]
        rw [List.set_append_right _ _ (Nat.le_refl _), Nat.sub_self]
        rfl
      obtain ⟨fl, env', r1, r2⟩ := behs_loop hm (j := j) (W := W) (N := N) k (t + 1) (nextIn (a :: r) t) (pre ++ [a :: r]) (some (.int (t : Int))) (by omega) h3 (by rw [List.length_append, List.length_singleton]; omega)
      refine ⟨fl, env', ?_, r2⟩
      rw [rngD]
      refine (loopL_nx s).trans ?_
      rw [r1, behs, List.append_assoc]
      rfl
theorem behind_in_ok {j : Nat} {mh : MH} (hm : Closed mh) (w : List Nat) (k : Nat) (hk : k < 1000) (h : wayOk k 1 w = true) : call T (j + 3) 25 [wD w, .int (k : Nat)] mh = some (.l ((behs k 1 w).map wD), mh) := by
  refine call_list (T := T) (fd := fd25) rfl rfl rfl hm (low_ws 0 _) [.lst ((behs k 1 w).map wD)] (.v (.ref mh.length)) (.inr ⟨mh.length, rfl, Nat.le_refl _, by
    rw [List.getElem?_append_right (Nat.le_refl _), Nat.sub_self]
    rfl⟩) ?_
  have s2 : ∀ mh, opR mh .add (.v (.int (k : Int))) (.v (.int 1)) = some (.v (.int ((1 + k : Nat) : Int))) := fun mh => by
    show some (R.v (.int ((k : Int) + 1))) = _
    congr 3
    omega
  have f := st_forR (C := call T (j + 2)) (t := .nm 3) (kd := .range2) (es := [(.cst (.int 1)), (.op .add (.var 1) (.cst (.int 1)))]) (b := bbody) (env := [some (wD w), some (.int (k : Nat)), some (.ref mh.length), none]) (mh := mh ++ [.lst (([] ++ [w]).map wD)]) (rs := [.v (.int ((1 : Nat) : Int)), .v (.int ((1 + k : Nat) : Int))]) (lo := 1) (n := k) (by simp [exr, ex, s2]) (src_r2 1 k (by omega))
  show out (sts (call T (j + 2)) fd25.body [some (wD w), some (.int (k : Nat)), none, none] mh) = _
  unfold fd25
  have m1 : 1 ≤ many := by decide
  rw [sts_nx (env' := [some (wD w), some (.int (k : Nat)), some (.ref mh.length), none]) (mh' := mh ++ [.lst (([] ++ [w]).map wD)]) (by simp [st, ex, exs, box, asgT, m1])]
  obtain ⟨fl, env', r1, r2⟩ := behs_loop hm (j := j) (W := some (wD w)) (N := some (.int (k : Nat))) k 1 w [] none (by omega) h (by
    rw [List.length_nil]
    have : (1001 : Nat) < many := by decide
    omega)
  rw [List.nil_append] at r1
  rcases r2 with ⟨rfl, v', rfl⟩ | rfl
  · refine (congrArg out (sts_nx (f.trans r1))).trans ?_
    simp [sts, st, ex, out]
  · refine (congrArg out (sts_rt (f.trans r1))).trans ?_
    simp [out]
end K67
set_option Elab.async false
set_option linter.all false
set_option maxRecDepth 100000
set_option maxHeartbeats 400000
/-! K67W7: worms_of, turn_in, halfway_in. -/
namespace K67
open Ev Pl Pl.O
/-- comprehensions in two over a source that stays, whose turns leave the heap alone -/
theorem comp2_at {f : D → MH → List D → Option (List D × MH)} {src : Src} {xs : List D} {mh : MH} (g : D → List D) (hs : ∀ i, nxt mh src i = some xs[i]?)
    (h : ∀ x ∈ xs, ∀ acc, acc.length + (g x).length ≤ many → f x mh acc = some (acc ++ g x, mh)) : ∀ (ys : List D) (i F : Nat) (acc : List D), xs.drop i = ys → ys.length < F → acc.length + (ys.flatMap g).length ≤ many → compGo2 f src F i mh acc = some (acc ++ ys.flatMap g, mh)
  | [], i, F + 1, acc, e, _, _ => by
    have hi : xs[i]? = none := by
      rw [List.getElem?_eq_none_iff]
      have := congrArg List.length e
      rw [List.length_drop, List.length_nil] at this
      omega
    rw [compGo2, hs i, hi, List.flatMap_nil, List.append_nil]
  | y :: ys, i, F + 1, acc, e, hF, hl => by
    have hi : xs[i]? = some y := by
      have := congrArg (fun l : List D => l[0]?) e
      simpa using this
    have e' : xs.drop (i + 1) = ys := by
      have := congrArg List.tail e
      simpa using this
    have my : y ∈ xs := List.mem_of_getElem? hi
    rw [List.length_cons] at hF
    rw [List.flatMap_cons, List.length_append] at hl
    rw [compGo2, hs i, hi]
    dsimp only
    rw [h y my acc (by omega)]
    dsimp only
    rw [comp2_at g hs h ys (i + 1) F (acc ++ g y) e' (by omega) (by rw [List.length_append]; omega), List.flatMap_cons, List.append_assoc]
  | _, _, 0, _, _, hF, _ => absurd hF (Nat.not_lt_zero _)
theorem compL_rng {f : D → MH → Option (Option D × MH)} {mh : MH} (g : Nat → D) : ∀ (j lo : Nat) (acc : List D), (∀ a, lo ≤ a → a < lo + j → f (.int (a : Int)) mh = some (some (g a), mh)) → acc.length + j ≤ many → compL f (rngD lo j) mh acc = some (acc ++ (List.range j).map (fun a => g (lo + a)), mh)
  | 0, lo, acc, _, _ => by rw [rngD, compL]; simp
  | j + 1, lo, acc, h, hl => by
    rw [rngD, compL, h lo (Nat.le_refl _) (by omega)]
    dsimp only
    rw [if_pos (by omega), compL_rng g j (lo + 1) (acc ++ [g lo]) (fun a h1 h2 => h a (by omega) (by omega)) (by rw [List.length_append, List.length_singleton]; omega), List.range_succ_eq_map, List.map_cons, List.map_map, List.append_assoc]
    congr 3
    refine congrArg (List.cons _) (List.map_congr_left fun a _ => ?_)
    show g (lo + 1 + a) = g (lo + (a + 1))
    congr 1
    omega
def wordsOf (m : Nat) : Nat → List (List Nat)
  | 0 => [[]]
  | n + 1 => (wordsOf m n).flatMap fun w => (List.range (m + 1)).map fun a => w ++ [a]
theorem words_len (m : Nat) : ∀ n, (wordsOf m n).length = (m + 1) ^ n
  | 0 => rfl
  | n + 1 => by
    have h : ∀ l : List (List Nat), (l.flatMap fun w => (List.range (m + 1)).map fun a => w ++ [a]).length = l.length * (m + 1) := fun l => by
      induction l with
      | nil => simp
      | cons w l ih => rw [List.flatMap_cons, List.length_append, ih, List.length_map, List.length_range, List.length_cons, Nat.succ_mul]; omega
    rw [wordsOf, h, words_len m n, Nat.pow_succ]
theorem words_mem {m : Nat} : ∀ {n : Nat} {w : List Nat}, w ∈ wordsOf m n → w.length = n ∧ ∀ a ∈ w, a ≤ m
  | 0, w, h => by
    rw [wordsOf, List.mem_singleton] at h
    subst h
    exact ⟨rfl, fun a h => by cases h⟩
  | n + 1, w, h => by
    rw [wordsOf] at h
    obtain ⟨u, hu, h⟩ := List.mem_flatMap.mp h
    obtain ⟨b, hb, rfl⟩ := List.mem_map.mp h
    obtain ⟨h1, h2⟩ := words_mem hu
    refine ⟨by rw [List.length_append, h1]; rfl, fun a ha => ?_⟩
    rcases List.mem_append.mp ha with ha | ha
    · exact h2 a ha
    · rw [List.mem_singleton] at ha
      subst ha
      have := List.mem_range.mp hb
      omega
def vbody : List St := [(.asg (.nm 2) (.comp2 (.op .add (.var 4) (.tup [(.var 5)])) (.nm 4) .seq [(.var 2)] none (.nm 5) .range1 [(.op .add (.var 1) (.cst (.int 1)))] none [4, 5] [5]))]
theorem vstep {C : CallF} {mh : MH} {L v3 v4 v5 : Option D} {m n : Nat} {ws : List (List Nat)} (hn : mh[n]? = some (.lst (ws.map wD))) (hm : m < 100) (hw : ∀ w ∈ ws, w.length ≤ 100) (hl : ws.length * (m + 1) ≤ many) :
    sts C vbody [L, some (.int (m : Nat)), some (.ref n), v3, v4, v5] mh = some (.nx, [L, some (.int (m : Nat)), some (.ref mh.length), v3, v4, v5], mh ++ [.lst ((ws.flatMap fun w => (List.range (m + 1)).map fun a => w ++ [a]).map wD)]) := by
  have s2 : opR mh .add (.v (.int (m : Int))) (.v (.int 1)) = some (.v (.int ((m + 1 : Nat) : Int))) := rfl
  have r1 := src_r1 (mh := mh) (m + 1) (by omega)
  have sr : srcR mh .seq [.v (.ref n)] = some (.rf n) := by
    show (lstOf mh n).map (fun _ => Src.rf n) = _
    rw [lstOf, hn]
    rfl
  have m1 : 1 ≤ many := by decide
  have tn : turns mh (.rf n) = ws.length + 1 := by
    show (match lstOf mh n with | some xs => xs.length + 1 | none => 0) = _
    rw [lstOf, hn]
    show (ws.map wD).length + 1 = _
    rw [List.length_map]
  let g : D → List D := fun d => (List.range (m + 1)).map fun a => match d with
    | .tup ds => .tup (ds ++ [.int ((a : Nat) : Int)])
    | d => d
  have gw : ∀ w : List Nat, g (wD w) = ((List.range (m + 1)).map fun a => w ++ [a]).map wD := fun w => by
    show (List.range (m + 1)).map _ = _
    rw [List.map_map]
    refine List.map_congr_left fun a _ => ?_
    show D.tup (lD w ++ [.int (a : Int)]) = D.tup (lD (w ++ [a]))
    rw [lD_app]
    rfl
  have gall : ∀ l : List (List Nat), (l.map wD).flatMap g = (l.flatMap fun w => (List.range (m + 1)).map fun a => w ++ [a]).map wD := fun l => by
    induction l with
    | nil => rfl
    | cons w l ih => rw [List.map_cons, List.flatMap_cons, ih, gw, List.flatMap_cons, List.map_append]
  have glen : ∀ l : List (List Nat), ((l.map wD).flatMap g).length = l.length * (m + 1) := fun l => by
    induction l with
    | nil => simp
    | cons w l ih => rw [List.map_cons, List.flatMap_cons, List.length_append, ih, gw, List.length_map, List.length_map, List.length_range, List.length_cons, Nat.succ_mul]; omega
  have key : ex C (.comp2 (.op .add (.var 4) (.tup [(.var 5)])) (.nm 4) .seq [(.var 2)] none (.nm 5) .range1 [(.op .add (.var 1) (.cst (.int 1)))] none [4, 5] [5]) [L, some (.int (m : Nat)), some (.ref n), v3, v4, v5] mh = some (.l ((ws.flatMap fun w => (List.range (m + 1)).map fun a => w ++ [a]).map wD), mh) := by
    refine ex_comp2 (rs := [.v (.ref n)]) (mh1 := mh) (exr_v (ex_var rfl) exr_nil) sr ?_
    have e := comp2_at (f := cturn2 C (.op .add (.var 4) (.tup [(.var 5)])) (.nm 4) none (.nm 5) .range1 [(.op .add (.var 1) (.cst (.int 1)))] none [4, 5] [5] [L, some (.int (m : Nat)), some (.ref n), v3, v4, v5]) (src := .rf n) (xs := ws.map wD) (mh := mh) g (fun i => by
      show (lstOf mh n).map (fun xs => xs[i]?) = _
      rw [lstOf, hn]
      rfl) (fun x hx acc hacc => by
        obtain ⟨w, hw1, rfl⟩ := List.mem_map.mp hx
        refine cturn2_go (env' := [L, some (.int (m : Nat)), some (.ref n), v3, some (wD w), none]) (mh1 := mh) (mh2 := mh) (rs := [.v (.int ((m + 1 : Nat) : Int))]) rfl rfl (exr_v (ex_op (ex_var rfl) ex_cst s2) exr_nil) r1 ?_
        rw [comp_stat (stat_rngD 0 (m + 1)) (rngD 0 (m + 1)) 0 _ mh acc rfl (by rw [rngD_len]; exact Nat.lt_succ_self _)]
        rw [compL_rng (fun a => wD (w ++ [a])) (m + 1) 0 acc (fun a _ _ => by
          have ad := addN (mh := mh) w [a] (by
            have := hw w hw1
            rw [List.length_singleton]
            have : (101 : Nat) ≤ many := by decide
            omega)
          refine cturn_some (r := .v (wD (w ++ [a]))) (mh1 := mh) (mh2 := mh) (env' := [L, some (.int (m : Nat)), some (.ref n), v3, some (wD w), some (.int (a : Int))]) rfl rfl ?_
          refine ex_op (x := .v (wD w)) (y := .v (wD [a])) (mh1 := mh) (ex_var rfl) ?_ ad
          have t1 : D.tup [.int (a : Int)] = wD [a] := rfl
          simp [ex, exs, box, m1, t1]) (by
          rw [gw, List.length_map, List.length_map, List.length_range] at hacc
          exact hacc), gw, List.map_map]
        simp [Function.comp_def]) (ws.map wD) 0 (turns mh (.rf n)) [] rfl (by rw [tn, List.length_map]; exact Nat.lt_succ_self _) (by rw [glen, List.length_nil]; omega)
    rw [e, gall, List.nil_append]
  rw [vbody, sts_nx (st_asg key), sts_nil]
  rfl
theorem vloop {C : CallF} {mh : MH} {L v4 v5 : Option D} {m : Nat} (hm : m < 100) : ∀ (j i lo : Nat) (g : MH) (v3 : Option D), (m + 1) ^ (i + j) ≤ many → i + j ≤ 100 → lowM 0 g = true →
    ∃ g' v3', lowM 0 g' = true ∧ loopL (fun x env mh => match asgT (.nm 3) x env with
          | some env => sts C vbody env mh
          | none => none) (rngD lo j) [L, some (.int (m : Nat)), some (.ref (mh.length + g.length)), v3, v4, v5] (mh ++ (g ++ [.lst ((wordsOf m i).map wD)])) = some (.nx, [L, some (.int (m : Nat)), some (.ref (mh.length + g'.length)), v3', v4, v5], mh ++ (g' ++ [.lst ((wordsOf m (i + j)).map wD)]))
  | 0, i, lo, g, v3, _, _, hg => ⟨g, v3, hg, rfl⟩
  | j + 1, i, lo, g, v3, hp, hi, hg => by
    have pl : (m + 1) ^ i * (m + 1) ≤ many := by
      rw [← Nat.pow_succ]
      exact Nat.le_trans (Nat.pow_le_pow_right (by omega) (by omega)) hp
    have s := vstep (C := C) (mh := mh ++ (g ++ [.lst ((wordsOf m i).map wD)])) (L := L) (v3 := some (.int (lo : Int))) (v4 := v4) (v5 := v5) (m := m) (n := mh.length + g.length) (ws := wordsOf m i) (by
      rw [List.getElem?_append_right (by omega), Nat.add_sub_cancel_left, List.getElem?_append_right (by omega), Nat.sub_self]
      rfl) hm (fun w hw => by rw [(words_mem hw).1]; omega) (by rw [words_len]; exact pl)
    obtain ⟨g', v3', q1, q2⟩ := vloop (C := C) (mh := mh) (L := L) (v4 := v4) (v5 := v5) hm j (i + 1) (lo + 1) (g ++ [.lst ((wordsOf m i).map wD)]) (some (.int (lo : Int))) (by rw [show i + 1 + j = i + (j + 1) by omega]; exact hp) (by omega) (lowM_app _ _ hg (by rw [lowM, low_ws]; rfl))
    refine ⟨g', v3', q1, ?_⟩
    rw [rngD]
    refine (loopL_nx (env' := [L, some (.int (m : Nat)), some (.ref (mh.length + (g ++ [MO.lst ((wordsOf m i).map wD)]).length)), some (.int (lo : Int)), v4, v5]) (mh' := mh ++ ((g ++ [.lst ((wordsOf m i).map wD)]) ++ [.lst ((wordsOf m (i + 1)).map wD)])) ?_).trans ?_
    · show sts C vbody [L, some (.int (m : Nat)), some (.ref (mh.length + g.length)), some (.int (lo : Int)), v4, v5] _ = _
      rw [s]
      simp only [List.length_append, List.append_assoc]
      rfl
    · rw [q2, show i + 1 + j = i + (j + 1) by omega]
theorem worms_of_ok {k : Nat} {mh : MH} (hm : Closed mh) (n m : Nat) (h1 : m < 100) (h2 : n ≤ 100) (h3 : (m + 1) ^ n ≤ many) : call T (k + 1) 27 [.int (n : Nat), .int (m : Nat)] mh = some (.l ((wordsOf m n).map wD), mh) := by
  obtain ⟨g', v3', q1, q2⟩ := vloop (C := call T k) (mh := mh) (L := some (.int (n : Nat))) (v4 := none) (v5 := none) h1 n 0 0 [] none (by rw [Nat.zero_add]; exact h3) (by omega) rfl
  rw [Nat.zero_add] at q2
  refine call_list (T := T) (fd := fd27) rfl rfl rfl hm (low_ws 0 _) (g' ++ [.lst ((wordsOf m n).map wD)]) (.v (.ref (mh.length + g'.length))) (.inr ⟨mh.length + g'.length, rfl, by omega, by
    rw [List.getElem?_append_right (by omega), Nat.add_sub_cancel_left, List.getElem?_append_right (by omega), Nat.sub_self]
    rfl⟩) ?_
  have f := st_forR (C := call T k) (t := .nm 3) (kd := .range1) (es := [(.var 0)]) (b := vbody) (env := [some (.int (n : Nat)), some (.int (m : Nat)), some (.ref mh.length), none, none, none]) (mh := mh ++ [.lst [wD []]]) (rs := [.v (.int (n : Nat))]) (lo := 0) (n := n) (by simp [exr, ex]) (src_r1 n (by omega))
  show out (sts (call T k) fd27.body [some (.int (n : Nat)), some (.int (m : Nat)), none, none, none, none] mh) = _
  unfold fd27
  have m1 : 1 ≤ many := by decide
  rw [sts_nx (env' := [some (.int (n : Nat)), some (.int (m : Nat)), some (.ref mh.length), none, none, none]) (mh' := mh ++ [.lst [wD []]]) (by
    simp [st, ex, exs, box, asgT, m1]
    rfl)]
  refine (congrArg out (sts_nx (f.trans q2))).trans ?_
  simp [sts, st, ex, out]
end K67
set_option Elab.async false
set_option linter.all false
set_option maxRecDepth 100000
set_option maxHeartbeats 400000
/-! K67W8: turn_in, halfway_in. -/
namespace K67
open Ev Pl Pl.O
theorem leR_toD {a b : O} (ha : dep a ≤ 50) (hb : dep b ≤ 50) : ordR .le (.v (toD a)) (.v (toD b)) = some (decide (a ≤ b)) := by
  rw [ordR_toD ha hb]
  show ordB .le (cmp a b) = some (decide (¬ cmp b a = .lt))
  rw [cmp_swap a b]
  cases cmp a b <;> rfl
theorem ltR_toD {a b : O} (ha : dep a ≤ 50) (hb : dep b ≤ 50) : ordR .lt (.v (toD a)) (.v (toD b)) = some (decide (a < b)) := by
  rw [ordR_toD ha hb]
  show ordB .lt (cmp a b) = some (decide (cmp a b = .lt))
  cases cmp a b <;> rfl
theorem geR_toD {a b : O} (ha : dep a ≤ 50) (hb : dep b ≤ 50) : ordR .ge (.v (toD a)) (.v (toD b)) = some (decide (b ≤ a)) := by
  rw [ordR_toD ha hb]
  show ordB .ge (cmp a b) = some (decide (¬ cmp a b = .lt))
  cases cmp a b <;> rfl
/-- letters to 6, not longer than n -/
def Wok (n : Nat) (w : List Nat) : Prop := w.length ≤ n ∧ ∀ a ∈ w, a ≤ 6
theorem ord_ok {mh : MH} (hm : Closed mh) (k : Nat) (w : List Nat) (h : Wok 1000 w) : call T (k + 9) 20 [wD w] mh = some (.v (toD (ord w)), mh) := order_in_ok hm k 7 w (fun a ha => Nat.le_succ_of_le (h.2 a ha)) (by decide) h.1
theorem dep_ord (w : List Nat) : dep (ord w) ≤ 8 := dep_ordF 7 w
theorem mem_next {a : Nat} {r : List Nat} {t n : Nat} (h : ∀ b ∈ a :: r, b ≤ n) : ∀ b ∈ nextIn (a :: r) t, b ≤ n := by
  cases a with
  | zero => exact fun b hb => h b (List.mem_cons_of_mem _ hb)
  | succ m =>
    intro b hb
    rw [nextIn] at hb
    rcases List.mem_append.mp hb with hb | hb
    · obtain ⟨l, hl, hb⟩ := List.mem_flatten.mp hb
      rw [List.eq_of_mem_replicate hl] at hb
      rcases List.mem_cons.mp hb with rfl | hb
      · have := h (b + 1) List.mem_cons_self
        omega
      · exact h b (List.mem_cons_of_mem _ ((List.takeWhile_sublist _).mem hb))
    · exact h b (List.mem_cons_of_mem _ ((List.dropWhile_sublist _).mem hb))
theorem len_next (a : Nat) (r : List Nat) (t : Nat) : (nextIn (a :: r) t).length ≤ (t + 1) * (r.length + 1) := by
  cases a with
  | zero =>
    rw [nextIn]
    have : 1 * (r.length + 1) ≤ (t + 1) * (r.length + 1) := Nat.mul_le_mul_right _ (by omega)
    omega
  | succ m =>
    rw [nextIn, List.length_append, len_rep_flat, List.length_cons]
    have h := len_hd_tl (m + 1) r
    have e : (t + 1) * (r.length + 1) = (t + 1) * ((hd (m + 1) r).length + 1) + (t + 1) * (tl (m + 1) r).length := by rw [← h, ← Nat.mul_add]; congr 1; omega
    have : 1 * (tl (m + 1) r).length ≤ (t + 1) * (tl (m + 1) r).length := Nat.mul_le_mul_right _ (by omega)
    omega
def tcond : Ex := (.cmp .le (.call 20 [(.call 24 [(.var 0), (.var 2)] [])] []) (.var 1))
theorem tcond_ok {k : Nat} {mh : MH} (hm : Closed mh) {a : Nat} {r : List Nat} {x : O} {t : Nat} (h6 : ∀ b ∈ a :: r, b ≤ 6) (hr : r.length ≤ 4) (ht : t ≤ 150) (hx : dep x ≤ 50) : ex (call T (k + 9)) tcond [some (wD (a :: r)), some (toD x), some (.int (t : Nat))] mh = some (.v (.bl (decide (ord (nextIn (a :: r) t) ≤ x))), mh) := by
  have n := next_in_ok (k := k + 7) hm a r t (by omega) (by omega)
  have l := len_next a r t
  have l2 : (t + 1) * (r.length + 1) ≤ 151 * 5 := Nat.mul_le_mul (by omega) (by omega)
  have o := ord_ok hm k (nextIn (a :: r) t) ⟨by omega, mem_next h6⟩
  have d := dep_ord (nextIn (a :: r) t)
  unfold tcond
  refine ex_cmp (ex_call (exs_v (ex_call (exs_v (ex_var rfl) (exs_v (ex_var rfl) exs_nil)) n) exs_nil) o) (ex_var rfl) ?_
  exact leR_toD (by omega) hx
theorem turn_loop {k : Nat} {mh : MH} (hm : Closed mh) {a : Nat} {r : List Nat} {x : O} (h6 : ∀ b ∈ a :: r, b ≤ 6) (hr : r.length ≤ 4) (hx : dep x ≤ 50) {e : Nat} (he : e ≤ 150) (hend : ¬ ord (nextIn (a :: r) e) ≤ x) : ∀ (j t F : Nat), t + j = e → (∀ s, t ≤ s → s < e → ord (nextIn (a :: r) s) ≤ x) → j < F →
    wloop (fun env mh => match ex (call T (k + 9)) tcond env mh with
      | some (x, mh) => (truth mh x).map fun t => (t, mh)
      | none => none) (fun env mh => sts (call T (k + 9)) (hbody 2) env mh) F [some (wD (a :: r)), some (toD x), some (.int (t : Nat))] mh = some (.nx, [some (wD (a :: r)), some (toD x), some (.int (e : Nat))], mh)
  | 0, t, F + 1, ht, _, _ => by
    have ht : t = e := ht
    subst ht
    have c := tcond_ok (k := k) hm h6 hr (t := t) he hx
    rw [decide_eq_false hend] at c
    exact wl_end c
  | j + 1, t, F + 1, ht, h, hF => by
    have c := tcond_ok (k := k) hm h6 hr (t := t) (by omega) hx
    rw [decide_eq_true (h t (Nat.le_refl _) (by omega))] at c
    have b : sts (call T (k + 9)) (hbody 2) [some (wD (a :: r)), some (toD x), some (.int (t : Nat))] mh = some (.nx, [some (wD (a :: r)), some (toD x), some (.int ((t + 1 : Nat) : Int))], mh) := by
      simp [hbody, sts, st, ex, opA]
    refine (wl_go c b).trans ?_
    exact turn_loop hm h6 hr hx he hend j (t + 1) F (by omega) (fun s h1 h2 => h s (by omega) h2) (by omega)
/-- the least turn behind which the worm stands above x is e -/
def Turn (w : List Nat) (x : O) (e : Nat) : Prop := 1 ≤ e ∧ e ≤ 150 ∧ ¬ ord (nextIn w e) ≤ x ∧ ∀ s, 1 ≤ s → s < e → ord (nextIn w s) ≤ x
theorem turn_in_ok {k : Nat} {mh : MH} (hm : Closed mh) {a : Nat} {r : List Nat} {x : O} (h6 : ∀ b ∈ a :: r, b ≤ 6) (hr : r.length ≤ 4) (hx : dep x ≤ 50) {e : Nat} (he : Turn (a :: r) x e) : call T (k + 10) 28 [wD (a :: r), toD x] mh = some (.v (.int (e : Nat)), mh) := by
  refine call_data (T := T) (fd := fd28) rfl rfl rfl hm rfl [] ?_
  obtain ⟨h1, h2, h3, h4⟩ := he
  have l := turn_loop (k := k) hm h6 hr hx h2 h3 (e - 1) 1 manyW (by omega) h4 (Nat.lt_of_le_of_lt (show e - 1 ≤ 150 by omega) (by decide))
  show out (sts (call T (k + 9)) fd28.body [some (wD (a :: r)), some (toD x), none] mh) = _
  unfold fd28
  rw [sts_nx (env' := [some (wD (a :: r)), some (toD x), some (.int (1 : Nat))]) (mh' := mh) (st_asg ex_cst)]
  refine (congrArg out (sts_nx (by rw [st]; exact l))).trans ?_
  rw [sts_rt (st_ret (ex_var rfl)), out_rt, List.append_nil]
/-- the test of a word -/
def htest (low high : O) (w : List Nat) : Bool := decide (form w = w) && (decide (low < ord w) && decide (ord w < high))
def qcond : Ex := (.and_ (.cmp .eq (.call 22 [(.var 5)] []) (.var 5)) (.chain .lt .lt (.var 2) (.call 20 [(.var 5)] []) (.var 3)))
theorem qcond_ok {k : Nat} {mh : MH} (hm : Closed mh) {A B v4 : Option D} {low high : O} {w : List Nat} (hw : Wok 100 w) (h1 : dep low ≤ 50) (h2 : dep high ≤ 50) : ex (call T (k + 11)) qcond [A, B, some (toD low), some (toD high), v4, some (wD w)] mh = some (.v (.bl (htest low high w)), mh) := by
  have f := form_in_ok hm k w (fun a ha => Nat.le_succ_of_le (hw.2 a ha)) hw.1
  have o := ord_ok hm (k + 2) w ⟨by have := hw.1; omega, hw.2⟩
  have d := dep_ord w
  have l1 := ltR_toD h1 (show dep (ord w) ≤ 50 by omega)
  have l2 := ltR_toD (show dep (ord w) ≤ 50 by omega) h2
  have e1 : ex (call T (k + 11)) (.cmp .eq (.call 22 [(.var 5)] []) (.var 5)) [A, B, some (toD low), some (toD high), v4, some (wD w)] mh = some (.v (.bl (decide (form w = w))), mh) := ex_cmp (ex_call (exs_v (ex_var rfl) exs_nil) f) (ex_var rfl) (eqR_wD _ _)
  unfold qcond htest
  rw [ex_and e1 rfl]
  by_cases q : form w = w
  · rw [decide_eq_true q]
    simp only [if_true, Bool.true_and]
    rw [ex, ex_var rfl]
    dsimp only
    rw [ex_call (exs_v (ex_var rfl) exs_nil) o]
    dsimp only
    rw [show cmR mh .lt (.v (toD low)) (.v (toD (ord w))) = some (decide (low < ord w)) from l1]
    by_cases q2 : low < ord w
    · rw [decide_eq_true q2]
      dsimp only
      rw [ex_var rfl]
      dsimp only
      rw [show cmR mh .lt (.v (toD (ord w))) (.v (toD high)) = some (decide (ord w < high)) from l2]
      rfl
    · rw [decide_eq_false q2]
      rfl
  · rw [decide_eq_false q]
    rfl
def qbody : List St := [(.ite (.and_ (.cmp .eq (.call 22 [(.var 5)] []) (.var 5)) (.chain .lt .lt (.var 2) (.call 20 [(.var 5)] []) (.var 3))) [(.ret (.var 5))] [])]
theorem q_loop {k : Nat} {mh : MH} (hm : Closed mh) {A B v4 : Option D} {low high : O} (h1 : dep low ≤ 50) (h2 : dep high ≤ 50) : ∀ (ws : List (List Nat)) (v5 : Option D), (∀ w ∈ ws, Wok 100 w) →
    ∃ v5', loopL (fun x env mh => match asgT (.nm 5) x env with
          | some env => sts (call T (k + 11)) qbody env mh
          | none => none) (ws.map wD) [A, B, some (toD low), some (toD high), v4, v5] mh = match ws.find? (htest low high) with
      | some w => some (.rt (.v (wD w)), [A, B, some (toD low), some (toD high), v4, v5'], mh)
      | none => some (.nx, [A, B, some (toD low), some (toD high), v4, v5'], mh)
  | [], v5, _ => ⟨v5, rfl⟩
  | w :: ws, v5, h => by
    have c := qcond_ok (k := k) hm (A := A) (B := B) (v4 := v4) (h w List.mem_cons_self) h1 h2
    rw [List.map_cons, List.find?_cons]
    cases q : htest low high w with
    | true =>
      rw [q] at c
      refine ⟨some (wD w), ?_⟩
      refine loopL_rt ?_
      show sts (call T (k + 11)) qbody [A, B, some (toD low), some (toD high), v4, some (wD w)] mh = _
      refine sts_rt ((st_ifB c).trans ?_)
      rw [if_pos rfl]
      exact sts_rt (st_ret (ex_var rfl))
    | false =>
      rw [q] at c
      obtain ⟨v5', r⟩ := q_loop hm (k := k) (A := A) (B := B) (v4 := v4) h1 h2 ws (some (wD w)) (fun u hu => h u (List.mem_cons_of_mem _ hu))
      refine ⟨v5', ?_⟩
      refine (loopL_nx (env' := [A, B, some (toD low), some (toD high), v4, some (wD w)]) (mh' := mh) ?_).trans r
      show sts (call T (k + 11)) qbody [A, B, some (toD low), some (toD high), v4, some (wD w)] mh = _
      refine (sts_nx ((st_ifB c).trans ?_)).trans sts_nil
      rw [if_neg (by decide)]
      exact sts_nil
def rbody : List St := [(.for_ (.nm 5) .seq [(.call 27 [(.var 4), (.cst (.int 6))] [])] qbody)]
theorem r_loop {k : Nat} {mh : MH} (hm : Closed mh) {A B : Option D} {low high : O} (h1 : dep low ≤ 50) (h2 : dep high ≤ 50) : ∀ (j t : Nat) (v4 v5 : Option D), t + j ≤ 7 →
    ∃ v4' v5', loopL (fun x env mh => match asgT (.nm 4) x env with
          | some env => sts (call T (k + 11)) rbody env mh
          | none => none) (rngD t j) [A, B, some (toD low), some (toD high), v4, v5] mh = match (List.range j).findSome? (fun i => (wordsOf 6 (t + i)).find? (htest low high)) with
      | some w => some (.rt (.v (wD w)), [A, B, some (toD low), some (toD high), v4', v5'], mh)
      | none => some (.nx, [A, B, some (toD low), some (toD high), v4', v5'], mh)
  | 0, t, v4, v5, _ => ⟨v4, v5, rfl⟩
  | j + 1, t, v4, v5, ht => by
    have w := worms_of_ok (k := k + 10) hm t 6 (by decide) (by omega) (Nat.le_trans (Nat.pow_le_pow_right (by decide) (show t ≤ 6 by omega)) (by decide))
    obtain ⟨v5', q⟩ := q_loop (k := k) hm (A := A) (B := B) (v4 := some (.int (t : Int))) h1 h2 (wordsOf 6 t) v5 (fun u hu => ⟨by rw [(words_mem hu).1]; omega, (words_mem hu).2⟩)
    have f : st (call T (k + 11)) (.for_ (.nm 5) .seq [(.call 27 [(.var 4), (.cst (.int 6))] [])] qbody) [A, B, some (toD low), some (toD high), some (.int (t : Int)), v5] mh = _ := (st_for (rs := [.l ((wordsOf 6 t).map wD)]) (xs := (wordsOf 6 t).map wD) (exr_v (ex_call (exs_v (ex_var rfl) (exs_v ex_cst exs_nil)) w) exr_nil) rfl).trans q
    rw [rngD, List.range_succ_eq_map, List.findSome?_cons, Nat.add_zero]
    cases e : (wordsOf 6 t).find? (htest low high) with
    | some u =>
      rw [e] at f
      refine ⟨some (.int (t : Int)), v5', ?_⟩
      refine loopL_rt ?_
      show sts (call T (k + 11)) rbody [A, B, some (toD low), some (toD high), some (.int (t : Int)), v5] mh = _
      exact sts_rt f
    | none =>
      rw [e] at f
      obtain ⟨v4'', v5'', r⟩ := r_loop hm (k := k) (A := A) (B := B) h1 h2 j (t + 1) (some (.int (t : Int))) v5' (by omega)
      refine ⟨v4'', v5'', ?_⟩
      refine (loopL_nx (env' := [A, B, some (toD low), some (toD high), some (.int (t : Int)), v5']) (mh' := mh) ?_).trans ?_
      · show sts (call T (k + 11)) rbody [A, B, some (toD low), some (toD high), some (.int (t : Int)), v5] mh = _
        exact (sts_nx f).trans sts_nil
      · rw [r, List.findSome?_map]
        have e2 : ((fun i => (wordsOf 6 (t + i)).find? (htest low high)) ∘ Nat.succ) = fun i => (wordsOf 6 (t + 1 + i)).find? (htest low high) := by
          funext i
          show (wordsOf 6 (t + (i + 1))).find? _ = _
          rw [show t + (i + 1) = t + 1 + i by omega]
        rw [e2]
/-- what stands halfway -/
def half (one other : List Nat) : Option (List Nat) := if ord other ≤ app (ord one) (c z z) then none else some (((List.range ((form one).length + 2)).findSome? (fun i => (wordsOf 6 i).find? (htest (ord one) (ord other)))).getD (form (0 :: one)))
def optW : Option (List Nat) → D
  | none => .non
  | some w => wD w
theorem halfway_in_ok {k : Nat} {mh : MH} (hm : Closed mh) {one other : List Nat} (h1 : Wok 90 one) (h2 : Wok 100 other) (hf : (form one).length ≤ 5) : call T (k + 12) 29 [wD one, wD other] mh = some (.v (optW (half one other)), mh) := by
  have o1 := ord_ok hm (k + 2) one ⟨by have := h1.1; omega, h1.2⟩
  have o2 := ord_ok hm (k + 2) other ⟨by have := h2.1; omega, h2.2⟩
  have d1 := dep_ord one
  have d2 := dep_ord other
  refine call_data (T := T) (fd := fd29) rfl rfl rfl hm (by cases half one other with
    | none => rfl
    | some w => exact low_wD 0 w) [] ?_
  show out (sts (call T (k + 11)) fd29.body [some (wD one), some (wD other), none, none, none, none] mh) = _
  unfold fd29
  have p : st (call T (k + 11)) (.par [2, 3] [(.call 20 [(.var 0)] []), (.call 20 [(.var 1)] [])]) [some (wD one), some (wD other), none, none, none, none] mh = some (.nx, [some (wD one), some (wD other), some (toD (ord one)), some (toD (ord other)), none, none], mh) := by
    rw [st, exs_v (ex_call (exs_v (ex_var rfl) exs_nil) o1) (exs_v (ex_call (exs_v (ex_var rfl) exs_nil) o2) exs_nil)]
    rfl
  rw [sts_nx p]
  have lo : len (ord one) + 1 ≤ 1000 := by
    have h3 : cnt (ord one) ≤ 1 + (7 + 1) * (one.length + 1) := cnt_ordF 7 one
    have h4 := len_cnt (ord one)
    have h5 := h1.1
    omega
  have ap := add_app (mh := mh) (x := ord one) (y := c z z) (by
    show _ + 1 ≤ 1000000
    omega)
  have da : dep (app (ord one) (c z z)) ≤ 50 := dep_le fun e he => by
    rw [els_app] at he
    rcases List.mem_append.mp he with he | he
    · have := dep_mem he
      omega
    · rw [els, els, List.mem_singleton] at he
      subst he
      decide
  have cd : ex (call T (k + 11)) (.cmp .le (.var 3) (.op .add (.var 2) (.tup [(.tup [])]))) [some (wD one), some (wD other), some (toD (ord one)), some (toD (ord other)), none, none] mh = some (.v (.bl (decide (ord other ≤ app (ord one) (c z z)))), mh) := by
    refine ex_cmp (ex_var rfl) (ex_op (ex_var rfl) (y := .v (toD (c z z))) (mh2 := mh) ?_ ap) (leR_toD (by omega) da)
    have m0 : 0 ≤ many := by decide
    have m1 : 1 ≤ many := by decide
    simp [ex, exs, box, m0, m1]
    rfl
  by_cases q : ord other ≤ app (ord one) (c z z)
  · rw [decide_eq_true q] at cd
    rw [sts_rt ((st_ifB cd).trans (by rw [if_pos rfl]; exact sts_rt (st_ret ex_cst)))]
    rw [half, if_pos q, out_rt, List.append_nil]
    rfl
  · rw [decide_eq_false q] at cd
    rw [sts_nx ((st_ifB cd).trans (by rw [if_neg (by decide)]; exact sts_nil))]
    have f1 := form_in_ok hm k one (fun a ha => Nat.le_succ_of_le (h1.2 a ha)) (by have := h1.1; omega)
    have sr := src_r1 (mh := mh) ((form one).length + 2) (by omega)
    have ad : opR mh .add (.v (.int ((form one).length : Nat))) (.v (.int 2)) = some (.v (.int (((form one).length + 2 : Nat) : Int))) := rfl
    have e1 : exr (call T (k + 11)) [(.op .add (.blt .len [(.call 22 [(.var 0)] [])]) (.cst (.int 2)))] [some (wD one), some (wD other), some (toD (ord one)), some (toD (ord other)), none, none] mh = some ([.v (.int (((form one).length + 2 : Nat) : Int))], mh) :=
      exr_v (ex_op (ex_blt (exr_v (ex_call (exs_v (ex_var rfl) exs_nil) f1) exr_nil) (len_wD _)) ex_cst ad) exr_nil
    obtain ⟨v4', v5', r⟩ := r_loop (k := k) hm (A := some (wD one)) (B := some (wD other)) (show dep (ord one) ≤ 50 by omega) (show dep (ord other) ≤ 50 by omega) ((form one).length + 2) 0 none none (by omega)
    have f := (st_forR (t := .nm 4) (b := rbody) e1 sr).trans r
    rw [half, if_neg q]
    have e2 : (fun i => (wordsOf 6 (0 + i)).find? (htest (ord one) (ord other))) = fun i => (wordsOf 6 i).find? (htest (ord one) (ord other)) := by
      funext i
      rw [Nat.zero_add]
    rw [e2] at f
    cases e : (List.range ((form one).length + 2)).findSome? (fun i => (wordsOf 6 i).find? (htest (ord one) (ord other))) with
    | some u =>
      rw [e] at f
      refine (congrArg out (sts_rt f)).trans ?_
      rw [out_rt, List.append_nil]
      rfl
    | none =>
      rw [e] at f
      have a1 := addN (mh := mh) [0] one (by
        have := h1.1
        rw [List.length_singleton]
        have : (1000 : Nat) ≤ many := by decide
        omega)
      have f2 := form_in_ok hm k (0 :: one) (fun a ha => by
        rcases List.mem_cons.mp ha with rfl | ha
        · omega
        · exact Nat.le_succ_of_le (h1.2 a ha)) (by rw [List.length_cons]; have := h1.1; omega)
      have t0 : D.tup [.int 0] = wD [0] := rfl
      have m1 : 1 ≤ many := by decide
      refine (congrArg out ((sts_nx f).trans (sts_rt (st_ret (ex_call (exs_v (ex_op (x := .v (wD [0])) (mh1 := mh) ?_ (ex_var rfl) a1) exs_nil) f2))))).trans ?_
      · simp [ex, exs, box, m1, t0]
      · rw [out_rt, List.append_nil]
        rfl
end K67
set_option Elab.async false
set_option linter.all false
set_option maxRecDepth 100000
set_option maxHeartbeats 400000
/-! K67W9: how long battles are. -/
namespace K67
open Ev Pl Pl.O
theorem cm_lt {mh : MH} {a b : R} : cmR mh .lt a b = ordR .lt a b := rfl
theorem cm_gt {mh : MH} {a b : R} : cmR mh .gt a b = ordR .gt a b := rfl
theorem cm_le {mh : MH} {a b : R} : cmR mh .le a b = ordR .le a b := rfl
theorem cm_ge {mh : MH} {a b : R} : cmR mh .ge a b = ordR .ge a b := rfl
theorem above_loop {C : CallF} {mh : MH} {n : Nat} : ∀ (r p : List Nat) (F : Nat), r.length < F →
    wloop (fun env mh => match ex C (hcond .gt 0 2 1) env mh with
      | some (x, mh) => (truth mh x).map fun t => (t, mh)
      | none => none) (fun env mh => sts C (hbody 2) env mh) F [some (wD (p ++ r)), some (.int (n : Nat)), some (.int (p.length : Nat))] mh = some (.nx, [some (wD (p ++ r)), some (.int (n : Nat)), some (.int ((p ++ hd (n + 1) r).length : Nat))], mh)
  | [], p, F + 1, _ => by
    have e : cmR mh .lt (.v (.int (p.length : Nat))) (.v (.int ((p ++ []).length : Nat))) = some false := by
      rw [cm_lt, ltR_int, List.append_nil, decide_eq_false (by omega)]
    have c : ex C (hcond .gt 0 2 1) [some (wD (p ++ [])), some (.int (n : Nat)), some (.int (p.length : Nat))] mh = some (.v (.bl false), mh) := by
      have c1 : ex C (.cmp .lt (.var 2) (.blt .len [(.var 0)])) [some (wD (p ++ [])), some (.int (n : Nat)), some (.int (p.length : Nat))] mh = some (.v (.bl false), mh) := ex_cmp (ex_var rfl) (ex_blt (exr_v (ex_var rfl) exr_nil) (len_wD _)) e
      rw [hcond, ex_and c1 rfl]
      rfl
    refine (wl_end c).trans ?_
    simp [hd]
  | a :: r, p, F + 1, hF => by
    rw [List.length_cons] at hF
    have e : cmR mh .lt (.v (.int (p.length : Nat))) (.v (.int ((p ++ a :: r).length : Nat))) = some true := by
      rw [cm_lt, ltR_int, decide_eq_true (by rw [List.length_append, List.length_cons]; omega)]
    have e2 : cmR mh .gt (.v (.int (a : Int))) (.v (.int (n : Nat))) = some (decide (n + 1 ≤ a)) := by rw [cm_gt, gtR_int]; congr 1; exact decide_eq_decide.mpr (by omega)
    have i1 : ex C (.idx (.var 0) (.var 2)) [some (wD (p ++ a :: r)), some (.int (n : Nat)), some (.int (p.length : Nat))] mh = some (.v (.int (a : Int)), mh) := by
      simp only [ex, List.getElem?_cons_zero, List.getElem?_cons_succ, idxN, Option.map]
    have c : ex C (hcond .gt 0 2 1) [some (wD (p ++ a :: r)), some (.int (n : Nat)), some (.int (p.length : Nat))] mh = some (.v (.bl (decide (n + 1 ≤ a))), mh) := by
      have c1 : ex C (.cmp .lt (.var 2) (.blt .len [(.var 0)])) [some (wD (p ++ a :: r)), some (.int (n : Nat)), some (.int (p.length : Nat))] mh = some (.v (.bl true), mh) := ex_cmp (ex_var rfl) (ex_blt (exr_v (ex_var rfl) exr_nil) (len_wD _)) e
      rw [hcond, ex_and c1 rfl, if_pos rfl]
      exact ex_cmp i1 (ex_var rfl) e2
    by_cases q : n + 1 ≤ a
    · rw [decide_eq_true q] at c
      have b : sts C (hbody 2) [some (wD (p ++ a :: r)), some (.int (n : Nat)), some (.int (p.length : Nat))] mh = some (.nx, [some (wD (p ++ a :: r)), some (.int (n : Nat)), some (.int ((p ++ [a]).length : Nat))], mh) := by
        simp [hbody, sts, st, ex, opA, opR]
      refine (wl_go c b).trans ?_
      have x : p ++ a :: r = (p ++ [a]) ++ r := by rw [List.append_assoc]; rfl
      have h : hd (n + 1) (a :: r) = a :: hd (n + 1) r := by unfold hd; rw [List.takeWhile_cons, if_pos (Nat.ble_eq.mpr q)]
      rw [x]
      refine (above_loop r (p ++ [a]) F (by omega)).trans ?_
      rw [h, List.append_assoc p [a] (hd (n + 1) r)]
      rfl
    · rw [decide_eq_false q] at c
      have h : hd (n + 1) (a :: r) = [] := by unfold hd; rw [List.takeWhile_cons, if_neg (fun k => q (Nat.ble_eq.mp k))]
      refine (wl_end c).trans ?_
      rw [h, List.append_nil]
theorem longest_above_ok {k : Nat} {mh : MH} (hm : Closed mh) (n : Nat) (w : List Nat) (hl : w.length < manyW) : call T (k + 1) 53 [wD w, .int (n : Nat)] mh = some (.v (wD (hd (n + 1) w)), mh) := by
  refine call_data (T := T) (fd := fd53) rfl rfl rfl hm (low_wD 0 _) [] ?_
  show out (sts (call T k) fd53.body [some (wD w), some (.int (n : Nat)), none] mh) = _
  unfold fd53
  rw [sts_nx (env' := [some (wD w), some (.int (n : Nat)), some (.int (0 : Nat))]) (mh' := mh) (st_asg ex_cst)]
  have l := above_loop (C := call T k) (mh := mh) (n := n) w [] manyW hl
  refine (congrArg out (sts_nx (by rw [st]; exact l))).trans ?_
  have c1 := cutNto (mh := mh) (hd (n + 1) w) (tl (n + 1) w)
  rw [hd_tl] at c1
  rw [List.nil_append, List.nil_append]
  rw [sts_rt (st_ret (r := .v (wD (hd (n + 1) w))) (mh1 := mh) ?_), out_rt, List.append_nil]
  simp only [ex, exo, List.getElem?_cons_zero, List.getElem?_cons_succ, c1, Option.map]
def optN : Option Nat → D
  | none => .non
  | some n => .int (n : Int)
theorem above_iff {e : Nat} : isAbove e = decide (maxEnd < e) := by
  unfold isAbove
  cases h : Nat.blt maxEnd e with
  | true => exact (decide_eq_true (Nat.ble_eq.mp h)).symm
  | false =>
    refine (decide_eq_false fun q => ?_).symm
    have : Nat.blt maxEnd e = true := Nat.ble_eq.mpr q
    rw [h] at this
    cases this
def ncond : Ex := (.or_ (.cmp .is_ (.var 2) (.cst .non)) (.cmp .gt (.var 2) (.cst (.int 1000000000000000000))))
theorem ncond_non {C : CallF} {env : Env} {mh : MH} (h : env[2]? = some (some .non)) : ex C ncond env mh = some (.v (.bl true), mh) := by
  rw [ncond, ex_or (ex_cmp (ex_var h) ex_cst (show cmR mh .is_ (.v .non) (.v .non) = some true from rfl)) rfl]
  rfl
theorem ncond_int {C : CallF} {env : Env} {mh : MH} {e : Nat} (h : env[2]? = some (some (.int (e : Int)))) : ex C ncond env mh = some (.v (.bl (isAbove e)), mh) := by
  rw [ncond, ex_or (ex_cmp (ex_var h) ex_cst (show cmR mh .is_ (.v (.int (e : Int))) (.v .non) = some false from rfl)) rfl]
  refine ex_cmp (ex_var h) ex_cst ?_
  rw [cm_gt, gtR_int, above_iff]
  congr 1
  refine decide_eq_decide.mpr ?_
  unfold maxEnd
  omega
def ebody : List St := [(.asg (.nm 2) (.call 54 [(.var 0), (.op .add (.var 2) (.cst (.int 1)))] [])), (.ite ncond [(.ret (.cst .non))] [])]
theorem rep_loop {C : CallF} {mh : MH} {g : Nat → Option (Option Nat)} {P : D} {B : Option D} (M : Nat) (hC : ∀ t r, t ≤ M → g t = some r → C 54 [P, .int (t : Nat)] mh = some (.v (optN r), mh)) (hM : maxEnd + 1 ≤ M) : ∀ (k t lo : Nat) (v : Option D) (r : Option Nat), t + 1 ≤ M → rgo g k t = some r →
    ∃ env', loopL (fun x env mh => match asgT (.nm 3) x env with
          | some env => sts C ebody env mh
          | none => none) (rngD lo k) [some P, B, some (.int (t : Nat)), v] mh = (match r with
      | none => some (.rt (.v .non), env', mh)
      | some e => some (.nx, env', mh)) ∧ (∀ e, r = some e → env'[2]? = some (some (.int (e : Nat))))
  | 0, t, lo, v, r, _, h => by
    rw [rgo] at h
    cases h
    exact ⟨_, rfl, fun e he => by cases he; rfl⟩
  | k + 1, t, lo, v, r, ht, h => by
    rw [rgo] at h
    have cl : ∀ r', g (t + 1) = some r' → ex C (.call 54 [(.var 0), (.op .add (.var 2) (.cst (.int 1)))] []) [some P, B, some (.int (t : Nat)), some (.int (lo : Int))] mh = some (.v (optN r'), mh) := fun r' hr =>
      ex_call (exs_v (ex_var rfl) (exs_v (ex_op (ex_var rfl) ex_cst (r := .v (.int ((t + 1 : Nat) : Int))) rfl) exs_nil)) (hC (t + 1) r' ht hr)
    cases q : g (t + 1) with
    | none => rw [q] at h; cases h
    | some r' =>
      have cl := cl r' q
      rw [q] at h
      have a1 := st_asg (i := 2) cl
      cases r' with
      | none =>
        dsimp only at h
        cases h
        refine ⟨[some P, B, some .non, some (.int (lo : Int))], ?_, fun e he => by cases he⟩
        rw [rngD]
        refine loopL_rt ?_
        show sts C ebody [some P, B, some (.int (t : Nat)), some (.int (lo : Int))] mh = _
        refine (sts_nx a1).trans ?_
        refine sts_rt ((st_ifB (ncond_non rfl)).trans ?_)
        rw [if_pos rfl]
        exact sts_rt (st_ret ex_cst)
      | some e =>
        dsimp only at h
        have nc := ncond_int (C := C) (mh := mh) (env := [some P, B, some (.int (e : Nat)), some (.int (lo : Int))]) (e := e) rfl
        cases ab : isAbove e with
        | true =>
          rw [ab, if_pos rfl] at h
          cases h
          rw [ab] at nc
          refine ⟨[some P, B, some (.int (e : Nat)), some (.int (lo : Int))], ?_, fun e he => by cases he⟩
          rw [rngD]
          refine loopL_rt ?_
          show sts C ebody [some P, B, some (.int (t : Nat)), some (.int (lo : Int))] mh = _
          refine (sts_nx a1).trans ?_
          refine sts_rt ((st_ifB nc).trans ?_)
          rw [if_pos rfl]
          exact sts_rt (st_ret ex_cst)
        | false =>
          rw [ab, if_neg (by decide)] at h
          rw [ab] at nc
          have le : e ≤ maxEnd := by
            rw [above_iff] at ab
            have := of_decide_eq_false ab
            omega
          obtain ⟨env', r1, r2⟩ := rep_loop M hC hM k e (lo + 1) (some (.int (lo : Int))) r (by omega) h
          refine ⟨env', ?_, r2⟩
          rw [rngD]
          refine (loopL_nx (env' := [some P, B, some (.int (e : Nat)), some (.int (lo : Int))]) (mh' := mh) ?_).trans r1
          show sts C ebody [some P, B, some (.int (t : Nat)), some (.int (lo : Int))] mh = _
          refine (sts_nx a1).trans ?_
          refine (sts_nx ((st_ifB nc).trans ?_)).trans sts_nil
          rw [if_neg (by decide)]
          exact sts_nil
theorem repeated_end_nil {k : Nat} {mh : MH} (hm : Closed mh) (t : Nat) : call T (k + 1) 55 [wD [], .int (t : Nat)] mh = some (.v (.int ((2 * t + 2 : Nat) : Int)), mh) := by
  refine call_data (T := T) (fd := fd55) rfl rfl rfl hm rfl [] ?_
  show out (sts (call T k) fd55.body [some (wD []), some (.int (t : Nat)), none, none] mh) = _
  unfold fd55
  have e : cmR mh .eq (.v (wD [])) (.v (wD [])) = some true := eqR_wD (mh := mh) [] []
  have m0 : 0 ≤ many := by decide
  have tn : ex (call T k) (.tup []) [some (wD []), some (.int (t : Nat)), none, none] mh = some (.v (wD []), mh) := by simp [ex, exs, m0, wD, lD]
  have o1 : opR mh .mul (.v (.int 2)) (.v (.int (t : Int))) = some (.v (.int (2 * (t : Int)))) := rfl
  have o2 : opR mh .add (.v (.int (2 * (t : Int)))) (.v (.int 2)) = some (.v (.int ((2 * t + 2 : Nat) : Int))) := by
    show some (R.v (.int (2 * (t : Int) + 2))) = _
    congr 3
  rw [sts_rt ((st_ifB (ex_cmp (ex_var rfl) tn e)).trans (by rw [if_pos rfl]; exact sts_rt (st_ret (ex_op (ex_op ex_cst (ex_var rfl) o1) ex_cst o2)))), out_rt, List.append_nil]
theorem repeated_end_ok {k : Nat} {mh : MH} (hm : Closed mh) {g : Nat → Option (Option Nat)} {b : Nat} {s : List Nat} (M : Nat) (hC : ∀ t r, t ≤ M → g t = some r → call T k 54 [wD (b :: s), .int (t : Nat)] mh = some (.v (optN r), mh)) (hM : maxEnd + 1 ≤ M) (t : Nat) (ht : t + 2 ≤ M) (h61 : t + 1 < 2 ^ 61) (r : Option Nat) (h : rgo g (t + 1) (t + 1) = some r) : call T (k + 1) 55 [wD (b :: s), .int (t : Nat)] mh = some (.v (optN r), mh) := by
  refine call_data (T := T) (fd := fd55) rfl rfl rfl hm (by cases r <;> rfl) [] ?_
  show out (sts (call T k) fd55.body [some (wD (b :: s)), some (.int (t : Nat)), none, none] mh) = _
  unfold fd55
  have e : cmR mh .eq (.v (wD (b :: s))) (.v (wD [])) = some false := eqR_wD (mh := mh) (b :: s) []
  have m0 : 0 ≤ many := by decide
  have tn : ex (call T k) (.tup []) [some (wD (b :: s)), some (.int (t : Nat)), none, none] mh = some (.v (wD []), mh) := by simp [ex, exs, m0, wD, lD]
  rw [sts_nx ((st_ifB (ex_cmp (ex_var rfl) tn e)).trans (by rw [if_neg (by decide)]; exact sts_nil))]
  have o1 : opR mh .add (.v (.int (t : Int))) (.v (.int 1)) = some (.v (.int ((t + 1 : Nat) : Int))) := rfl
  rw [sts_nx (env' := [some (wD (b :: s)), some (.int (t : Nat)), some (.int ((t + 1 : Nat) : Int)), none]) (mh' := mh) (st_asg (ex_op (ex_var rfl) ex_cst o1))]
  obtain ⟨env', r1, r2⟩ := rep_loop (mh := mh) (P := wD (b :: s)) (B := some (.int (t : Nat))) M hC hM (t + 1) (t + 1) 0 none r ht h
  have f := (st_forR (C := call T k) (t := .nm 3) (kd := .range1) (es := [(.op .add (.var 1) (.cst (.int 1)))]) (b := ebody) (env := [some (wD (b :: s)), some (.int (t : Nat)), some (.int ((t + 1 : Nat) : Int)), none]) (mh := mh) (rs := [.v (.int ((t + 1 : Nat) : Int))]) (lo := 0) (n := t + 1) (exr_v (ex_op (ex_var rfl) ex_cst o1) exr_nil) (src_r1 (t + 1) h61)).trans r1
  cases r with
  | none =>
    refine (congrArg out (sts_rt f)).trans ?_
    rw [out_rt, List.append_nil]
    rfl
  | some e =>
    refine (congrArg out ((sts_nx f).trans (sts_rt (st_ret (ex_var (r2 e rfl)))))).trans ?_
    rw [out_rt, List.append_nil]
    rfl
end K67
set_option Elab.async false
set_option linter.all false
set_option maxRecDepth 100000
set_option maxHeartbeats 400000
/-! K67W10: worm_end, piece_end. -/
namespace K67
open Ev Pl Pl.O
theorem cutN2 {mh : MH} (p q r : List Nat) : cutR mh (.v (wD (p ++ q ++ r))) (some (p.length : Nat)) (some ((p.length + q.length : Nat) : Int)) = some (.v (wD q)) := by
  have e : wD (p ++ q ++ r) = .tup (lD p ++ lD q ++ lD r) := by unfold wD; rw [lD_app, lD_app]
  rw [e]
  show some (R.v (.tup (cutD (lD p ++ lD q ++ lD r) (some (p.length : Nat)) (some ((p.length + q.length : Nat) : Int))))) = _
  unfold cutD
  rw [HT.sIx_nat, HT.sIx_nat, ← lD_len p, ← lD_len q, List.length_append, List.length_append, Nat.min_eq_left (by omega), Nat.min_eq_left (by omega), List.append_assoc, List.drop_left, Nat.add_sub_cancel_left, List.take_left]
  rfl
theorem cm_eq {mh : MH} {a b : R} : cmR mh .eq a b = eqR mh a b := rfl
def zcond : Ex := (.or_ (.cmp .eq (.var 4) (.blt .len [(.var 0)])) (.cmp .eq (.idx (.var 0) (.var 4)) (.cst (.int 0))))
def zin : List St := [(.asg (.nm 2) (.call 54 [(.slc (.var 0) (some (.var 3)) (some (.var 4))), (.var 2)] [])), (.ite ncond [(.ret (.cst .non))] []), (.par [2, 3] [(.op .add (.var 2) (.blt .int [(.cmp .lt (.var 4) (.blt .len [(.var 0)]))])), (.op .add (.var 4) (.cst (.int 1)))])]
def zbody : List St := [(.ite zcond zin [])]
theorem zin_non {C : CallF} {mh : MH} {p cur r : List Nat} {B : Option D} {t : Nat} (h : C 54 [wD cur, .int (t : Nat)] mh = some (.v .non, mh)) :
    sts C zin [some (wD (p ++ cur ++ r)), B, some (.int (t : Nat)), some (.int (p.length : Nat)), some (.int ((p.length + cur.length : Nat) : Int))] mh = some (.rt (.v .non), [some (wD (p ++ cur ++ r)), B, some .non, some (.int (p.length : Nat)), some (.int ((p.length + cur.length : Nat) : Int))], mh) := by
  have sl : ex C (.slc (.var 0) (some (.var 3)) (some (.var 4))) [some (wD (p ++ cur ++ r)), B, some (.int (t : Nat)), some (.int (p.length : Nat)), some (.int ((p.length + cur.length : Nat) : Int))] mh = some (.v (wD cur), mh) := by
    simp only [ex, exo, List.getElem?_cons_zero, List.getElem?_cons_succ, cutN2, Option.map]
  refine (sts_nx (st_asg (ex_call (exs_v sl (exs_v (ex_var rfl) exs_nil)) h))).trans ?_
  refine sts_rt ((st_ifB (ncond_non rfl)).trans ?_)
  rw [if_pos rfl]
  exact sts_rt (st_ret ex_cst)
theorem zin_int {C : CallF} {mh : MH} {p cur r : List Nat} {B : Option D} {t e : Nat} (h : C 54 [wD cur, .int (t : Nat)] mh = some (.v (.int (e : Nat)), mh)) :
    sts C zin [some (wD (p ++ cur ++ r)), B, some (.int (t : Nat)), some (.int (p.length : Nat)), some (.int ((p.length + cur.length : Nat) : Int))] mh = if isAbove e then some (.rt (.v .non), [some (wD (p ++ cur ++ r)), B, some (.int (e : Nat)), some (.int (p.length : Nat)), some (.int ((p.length + cur.length : Nat) : Int))], mh) else some (.nx, [some (wD (p ++ cur ++ r)), B, some (.int ((e + (if r = [] then 0 else 1) : Nat) : Int)), some (.int ((p.length + cur.length + 1 : Nat) : Int)), some (.int ((p.length + cur.length : Nat) : Int))], mh) := by
  have sl : ex C (.slc (.var 0) (some (.var 3)) (some (.var 4))) [some (wD (p ++ cur ++ r)), B, some (.int (t : Nat)), some (.int (p.length : Nat)), some (.int ((p.length + cur.length : Nat) : Int))] mh = some (.v (wD cur), mh) := by
    simp only [ex, exo, List.getElem?_cons_zero, List.getElem?_cons_succ, cutN2, Option.map]
  refine (sts_nx (st_asg (ex_call (exs_v sl (exs_v (ex_var rfl) exs_nil)) h))).trans ?_
  have nc := ncond_int (C := C) (mh := mh) (env := [some (wD (p ++ cur ++ r)), B, some (.int (e : Nat)), some (.int (p.length : Nat)), some (.int ((p.length + cur.length : Nat) : Int))]) (e := e) rfl
  cases ab : isAbove e with
  | true =>
    rw [ab] at nc
    rw [if_pos (rfl : true = true)]
    refine sts_rt ((st_ifB nc).trans ?_)
    rw [if_pos rfl]
    exact sts_rt (st_ret ex_cst)
  | false =>
    rw [ab] at nc
    rw [if_neg (by decide)]
    refine (sts_nx ((st_ifB nc).trans (by rw [if_neg (by decide)]; exact sts_nil))).trans ?_
    have lt : cmR mh .lt (.v (.int ((p.length + cur.length : Nat) : Int))) (.v (.int ((p ++ cur ++ r).length : Nat))) = some (decide (r ≠ [])) := by
      rw [cm_lt, ltR_int, List.length_append, List.length_append]
      refine congrArg some (decide_eq_decide.mpr ?_)
      cases r with
      | nil => simp
      | cons a r => simp; omega
    have i1 : bltR mh .int [.v (.bl (decide (r ≠ [])))] = some (.v (.int ((if r = [] then 0 else 1 : Nat) : Int))) := by
      show some (R.v (.int (if decide (r ≠ []) then 1 else 0))) = _
      cases r <;> rfl
    refine (sts_nx (env' := [some (wD (p ++ cur ++ r)), B, some (.int ((e + (if r = [] then 0 else 1) : Nat) : Int)), some (.int ((p.length + cur.length + 1 : Nat) : Int)), some (.int ((p.length + cur.length : Nat) : Int))]) (mh' := mh) ?_).trans sts_nil
    rw [st, exs_v (ex_op (ex_var (i := 2) rfl) (ex_blt (exr_v (ex_cmp (ex_var (i := 4) rfl) (ex_blt (exr_v (ex_var (i := 0) rfl) exr_nil) (len_wD _)) lt) exr_nil) i1) (r := .v (.int ((e + (if r = [] then 0 else 1) : Nat) : Int))) (by rw [Int.natCast_add]; rfl)) (exs_v (ex_op (ex_var (i := 4) rfl) ex_cst (r := .v (.int ((p.length + cur.length + 1 : Nat) : Int))) rfl) exs_nil)]
    rfl
theorem wend_loop {C : CallF} {mh : MH} {g : List Nat → Nat → Option (Option Nat)} {B : Option D} (M : Nat) (hC : ∀ cur t r, t ≤ M → g cur t = some r → C 54 [wD cur, .int (t : Nat)] mh = some (.v (optN r), mh)) (hM : maxEnd + 1 ≤ M) : ∀ (r p cur : List Nat) (t : Nat) (v : Option D) (res : Option Nat), t ≤ M → wgo g cur r t = some res →
    ∃ env', loopL (fun x env mh => match asgT (.nm 4) x env with
          | some env => sts C zbody env mh
          | none => none) (rngD (p.length + cur.length) (r.length + 1)) [some (wD (p ++ cur ++ r)), B, some (.int (t : Nat)), some (.int (p.length : Nat)), v] mh = (match res with
      | none => some (.rt (.v .non), env', mh)
      | some e => some (.nx, env', mh)) ∧ (∀ e, res = some e → env'[2]? = some (some (.int (e : Nat))) ∧ e ≤ maxEnd)
  | [], p, cur, t, v, res, ht, h => by
    rw [wgo] at h
    cases q : g cur t with
    | none => rw [q] at h; cases h
    | some r' =>
      have hc := hC cur t r' ht q
      rw [q] at h
      have e1 : cmR mh .eq (.v (.int ((p.length + cur.length : Nat) : Int))) (.v (.int ((p ++ cur ++ []).length : Nat))) = some true := by
        rw [cm_eq, eqR_int, List.length_append, List.length_append]
        simp
      have c1 : ex C (.cmp .eq (.var 4) (.blt .len [(.var 0)])) [some (wD (p ++ cur ++ [])), B, some (.int (t : Nat)), some (.int (p.length : Nat)), some (.int ((p.length + cur.length : Nat) : Int))] mh = some (.v (.bl true), mh) := ex_cmp (ex_var rfl) (ex_blt (exr_v (ex_var rfl) exr_nil) (len_wD _)) e1
      have c2 : ex C zcond [some (wD (p ++ cur ++ [])), B, some (.int (t : Nat)), some (.int (p.length : Nat)), some (.int ((p.length + cur.length : Nat) : Int))] mh = some (.v (.bl true), mh) := by
        rw [zcond, ex_or c1 rfl, if_pos rfl]
      have go : ∀ x, sts C zin [some (wD (p ++ cur ++ [])), B, some (.int (t : Nat)), some (.int (p.length : Nat)), some (.int ((p.length + cur.length : Nat) : Int))] mh = x → st C (.ite zcond zin []) [some (wD (p ++ cur ++ [])), B, some (.int (t : Nat)), some (.int (p.length : Nat)), some (.int ((p.length + cur.length : Nat) : Int))] mh = x := fun x hx => (st_ifB c2).trans (by rw [if_pos rfl]; exact hx)
      rw [List.length_nil, rngD, rngD]
      cases r' with
      | none =>
        dsimp only at h
        cases h
        exact ⟨_, loopL_rt (sts_rt (go _ (zin_non hc))), fun e he => by cases he⟩
      | some e =>
        dsimp only at h
        have z := zin_int (B := B) (p := p) (r := []) hc
        cases ab : isAbove e with
        | true =>
          rw [ab, if_pos rfl] at h z
          cases h
          exact ⟨_, loopL_rt (sts_rt (go _ z)), fun e he => by cases he⟩
        | false =>
          rw [ab, if_neg (by decide)] at h z
          cases h
          refine ⟨_, (loopL_nx ((sts_nx (go _ z)).trans sts_nil)).trans rfl, fun e' he => ?_⟩
          cases he
          rw [above_iff] at ab
          have := of_decide_eq_false ab
          exact ⟨rfl, by omega⟩
  | 0 :: r, p, cur, t, v, res, ht, h => by
    rw [wgo] at h
    cases q : g cur t with
    | none => rw [q] at h; cases h
    | some r' =>
      have hc := hC cur t r' ht q
      rw [q] at h
      have e1 : cmR mh .eq (.v (.int ((p.length + cur.length : Nat) : Int))) (.v (.int ((p ++ cur ++ 0 :: r).length : Nat))) = some false := by
        rw [cm_eq, eqR_int, List.length_append, List.length_append, List.length_cons, decide_eq_false (by omega)]
      have c1 : ex C (.cmp .eq (.var 4) (.blt .len [(.var 0)])) [some (wD (p ++ cur ++ 0 :: r)), B, some (.int (t : Nat)), some (.int (p.length : Nat)), some (.int ((p.length + cur.length : Nat) : Int))] mh = some (.v (.bl false), mh) := ex_cmp (ex_var rfl) (ex_blt (exr_v (ex_var rfl) exr_nil) (len_wD _)) e1
      have ix := idxN (mh := mh) (p ++ cur) 0 r
      rw [List.length_append] at ix
      have i1 : ex C (.idx (.var 0) (.var 4)) [some (wD (p ++ cur ++ 0 :: r)), B, some (.int (t : Nat)), some (.int (p.length : Nat)), some (.int ((p.length + cur.length : Nat) : Int))] mh = some (.v (.int ((0 : Nat) : Int)), mh) := by
        simp only [ex, List.getElem?_cons_zero, List.getElem?_cons_succ, ix, Option.map]
      have e0 : cmR mh .eq (.v (.int ((0 : Nat) : Int))) (.v (.int 0)) = some true := by
        rw [cm_eq, eqR_int]
        rfl
      have c2 : ex C zcond [some (wD (p ++ cur ++ 0 :: r)), B, some (.int (t : Nat)), some (.int (p.length : Nat)), some (.int ((p.length + cur.length : Nat) : Int))] mh = some (.v (.bl true), mh) := by
        rw [zcond, ex_or c1 rfl, if_neg (by decide)]
        exact ex_cmp i1 ex_cst e0
      have go : ∀ x, sts C zin [some (wD (p ++ cur ++ 0 :: r)), B, some (.int (t : Nat)), some (.int (p.length : Nat)), some (.int ((p.length + cur.length : Nat) : Int))] mh = x → st C (.ite zcond zin []) [some (wD (p ++ cur ++ 0 :: r)), B, some (.int (t : Nat)), some (.int (p.length : Nat)), some (.int ((p.length + cur.length : Nat) : Int))] mh = x := fun x hx => (st_ifB c2).trans (by rw [if_pos rfl]; exact hx)
      rw [rngD]
      cases r' with
      | none =>
        dsimp only at h
        cases h
        exact ⟨_, loopL_rt (sts_rt (go _ (zin_non hc))), fun e he => by cases he⟩
      | some e =>
        dsimp only at h
        have z := zin_int (B := B) (p := p) (r := 0 :: r) hc
        cases ab : isAbove e with
        | true =>
          rw [ab, if_pos rfl] at h z
          cases h
          exact ⟨_, loopL_rt (sts_rt (go _ z)), fun e he => by cases he⟩
        | false =>
          rw [ab, if_neg (by decide)] at h z
          rw [above_iff] at ab
          have := of_decide_eq_false ab
          obtain ⟨env', r1, r2⟩ := wend_loop (B := B) M hC hM r (p ++ cur ++ [0]) [] (e + 1) (some (.int ((p.length + cur.length : Nat) : Int))) res (by omega) h
          refine ⟨env', ?_, r2⟩
          refine (loopL_nx ((sts_nx (go _ z)).trans sts_nil)).trans ?_
          have w1 : p ++ cur ++ [0] ++ [] ++ r = p ++ cur ++ 0 :: r := by simp
          have w2 : (p ++ cur ++ [0]).length = p.length + cur.length + 1 := by simp; omega
          rw [w1, w2] at r1
          exact r1
  | (n + 1) :: r, p, cur, t, v, res, ht, h => by
    rw [wgo] at h
    have e1 : cmR mh .eq (.v (.int ((p.length + cur.length : Nat) : Int))) (.v (.int ((p ++ cur ++ (n + 1) :: r).length : Nat))) = some false := by
      rw [cm_eq, eqR_int, List.length_append, List.length_append, List.length_cons, decide_eq_false (by omega)]
    have c1 : ex C (.cmp .eq (.var 4) (.blt .len [(.var 0)])) [some (wD (p ++ cur ++ (n + 1) :: r)), B, some (.int (t : Nat)), some (.int (p.length : Nat)), some (.int ((p.length + cur.length : Nat) : Int))] mh = some (.v (.bl false), mh) := ex_cmp (ex_var rfl) (ex_blt (exr_v (ex_var rfl) exr_nil) (len_wD _)) e1
    have ix := idxN (mh := mh) (p ++ cur) (n + 1) r
    rw [List.length_append] at ix
    have i1 : ex C (.idx (.var 0) (.var 4)) [some (wD (p ++ cur ++ (n + 1) :: r)), B, some (.int (t : Nat)), some (.int (p.length : Nat)), some (.int ((p.length + cur.length : Nat) : Int))] mh = some (.v (.int ((n + 1 : Nat) : Int)), mh) := by
      simp only [ex, List.getElem?_cons_zero, List.getElem?_cons_succ, ix, Option.map]
    have e0 : cmR mh .eq (.v (.int ((n + 1 : Nat) : Int))) (.v (.int 0)) = some false := by
      rw [cm_eq, eqR_int, decide_eq_false (by omega)]
    have c2 : ex C zcond [some (wD (p ++ cur ++ (n + 1) :: r)), B, some (.int (t : Nat)), some (.int (p.length : Nat)), some (.int ((p.length + cur.length : Nat) : Int))] mh = some (.v (.bl false), mh) := by
      rw [zcond, ex_or c1 rfl, if_neg (by decide)]
      exact ex_cmp i1 ex_cst e0
    obtain ⟨env', r1, r2⟩ := wend_loop (B := B) M hC hM r p (cur ++ [n + 1]) t (some (.int ((p.length + cur.length : Nat) : Int))) res ht h
    refine ⟨env', ?_, r2⟩
    rw [List.length_cons, rngD]
    refine (loopL_nx (env' := [some (wD (p ++ cur ++ (n + 1) :: r)), B, some (.int (t : Nat)), some (.int (p.length : Nat)), some (.int ((p.length + cur.length : Nat) : Int))]) (mh' := mh) ((sts_nx ((st_ifB c2).trans (by rw [if_neg (by decide)]; exact sts_nil))).trans sts_nil)).trans ?_
    have w1 : p ++ (cur ++ [n + 1]) ++ r = p ++ cur ++ (n + 1) :: r := by simp
    have w2 : p.length + (cur ++ [n + 1]).length = p.length + cur.length + 1 := by simp; omega
    rw [w1, w2] at r1
    exact r1
theorem worm_end_ok {k : Nat} {mh : MH} (hm : Closed mh) {g : List Nat → Nat → Option (Option Nat)} (M : Nat) (hC : ∀ cur t r, t ≤ M → g cur t = some r → call T k 54 [wD cur, .int (t : Nat)] mh = some (.v (optN r), mh)) (hM : maxEnd + 1 ≤ M) (w : List Nat) (hw : w.length < 2 ^ 60) (t : Nat) (ht : t ≤ M) (r : Option Nat) (h : wgo g [] w t = some r) : call T (k + 1) 56 [wD w, .int (t : Nat)] mh = some (.v (optN r), mh) := by
  refine call_data (T := T) (fd := fd56) rfl rfl rfl hm (by cases r <;> rfl) [] ?_
  show out (sts (call T k) fd56.body [some (wD w), some (.int (t : Nat)), none, none, none] mh) = _
  unfold fd56
  have p : st (call T k) (.par [2, 3] [(.var 1), (.cst (.int 0))]) [some (wD w), some (.int (t : Nat)), none, none, none] mh = some (.nx, [some (wD w), some (.int (t : Nat)), some (.int (t : Nat)), some (.int ((0 : Nat) : Int)), none], mh) := by
    rw [st, exs_v (ex_var (i := 1) rfl) (exs_v ex_cst exs_nil)]
    rfl
  rw [sts_nx p]
  obtain ⟨env', r1, r2⟩ := wend_loop (mh := mh) (B := some (.int (t : Nat))) M hC hM w [] [] t none r ht h
  have o1 : opR mh .add (.v (.int (w.length : Nat))) (.v (.int 1)) = some (.v (.int ((w.length + 1 : Nat) : Int))) := rfl
  have f := (st_forR (C := call T k) (t := .nm 4) (kd := .range1) (es := [(.op .add (.blt .len [(.var 0)]) (.cst (.int 1)))]) (b := zbody) (env := [some (wD w), some (.int (t : Nat)), some (.int (t : Nat)), some (.int ((0 : Nat) : Int)), none]) (mh := mh) (rs := [.v (.int ((w.length + 1 : Nat) : Int))]) (lo := 0) (n := w.length + 1) (exr_v (ex_op (ex_blt (exr_v (ex_var rfl) exr_nil) (len_wD _)) ex_cst o1) exr_nil) (src_r1 (w.length + 1) (by omega))).trans r1
  cases r with
  | none =>
    refine (congrArg out (sts_rt f)).trans ?_
    rw [out_rt, List.append_nil]
    rfl
  | some e =>
    obtain ⟨r3, r4⟩ := r2 e rfl
    have le : cmR mh .le (.v (.int (e : Nat))) (.v (.int 1000000000000000000)) = some true := by
      rw [cm_le, leR_int, decide_eq_true (by unfold maxEnd at r4; omega)]
    have c1 : ex (call T k) (.ite (.cmp .le (.var 2) (.cst (.int 1000000000000000000))) (.var 2) (.cst .non)) env' mh = some (.v (.int (e : Nat)), mh) := by
      rw [ex_ite (ex_cmp (ex_var r3) ex_cst le) rfl, if_pos rfl]
      exact ex_var r3
    refine (congrArg out ((sts_nx f).trans (sts_rt (st_ret c1)))).trans ?_
    rw [out_rt, List.append_nil]
    rfl
end K67
set_option Elab.async false
set_option linter.all false
set_option maxRecDepth 100000
set_option maxHeartbeats 400000
/-! K67W11: piece_end. -/
namespace K67
open Ev Pl Pl.O
def MM : Nat := 2000000000000000000
theorem emp_tup {C : CallF} {env : Env} {mh : MH} : ex C (.tup []) env mh = some (.v (wD []), mh) := by
  have m0 : 0 ≤ many := by decide
  simp [ex, exs, m0, wD, lD]
theorem tup1 {C : CallF} {env : Env} {mh : MH} {e : Ex} {a : Nat} (h : ex C e env mh = some (.v (.int (a : Nat)), mh)) : ex C (.tup [e]) env mh = some (.v (wD [a]), mh) := by
  have m1 : 1 ≤ many := by decide
  rw [ex, exs_v h exs_nil]
  dsimp only
  rw [if_pos (by exact m1)]
  rfl
def pbody54 : List St := [(.asg (.nm 2) (.op .sub (.idx (.var 0) (.cst (.int 0))) (.cst (.int 1)))), (.asg (.nm 3) (.call 53 [(.slc (.var 0) (some (.cst (.int 1))) none), (.var 2)] [])), (.ite (.cmp .gt (.var 1) (.cst (.int 60))) [(.ret (.cst .non))] []), (.ret (.call 56 [(.op .add (.op .mul (.op .add (.tup [(.var 2)]) (.var 3)) (.op .add (.var 1) (.cst (.int 1)))) (.slc (.var 0) (some (.op .add (.cst (.int 1)) (.blt .len [(.var 3)]))) none)), (.op .add (.var 1) (.cst (.int 1)))] []))]
theorem slc1 {C : CallF} {env : Env} {mh : MH} {a : Nat} {r : List Nat} {i : Nat} (h : env[i]? = some (some (wD (a :: r)))) : ex C (.slc (.var i) (some (.cst (.int 1))) none) env mh = some (.v (wD r), mh) := by
  rw [ex, ex_var h]
  dsimp only
  rw [exo, ex_cst]
  dsimp only
  rw [exo]
  dsimp only
  rw [cutN1]
  rfl
theorem ix0 {C : CallF} {env : Env} {mh : MH} {a : Nat} {r : List Nat} {i : Nat} (h : env[i]? = some (some (wD (a :: r)))) : ex C (.idx (.var i) (.cst (.int 0))) env mh = some (.v (.int (a : Nat)), mh) := by
  rw [ex, ex_var h]
  dsimp only
  rw [ex_cst]
  dsimp only
  rw [idxN0]
  rfl
theorem pbody_ok {k : Nat} {mh : MH} (hm : Closed mh) {n : Nat} {r : List Nat} {t : Nat} (hr : r.length ≤ 1) {q : Option Nat} (h : (if Nat.blt 60 t then some none else some q) = some q)
    (hc : t ≤ 60 → call T (k + 1) 56 [wD ((List.replicate (t + 1) ((n + 1) :: hd (n + 2) r)).flatten ++ tl (n + 2) r), .int ((t + 1 : Nat) : Int)] mh = some (.v (optN q), mh)) :
    out (sts (call T (k + 1)) pbody54 [some (wD ((n + 2) :: r)), some (.int (t : Nat)), none, none] mh) = some (.rt (.v (optN q)), mh) := by
  have s1 : opR mh .sub (.v (.int ((n + 2 : Nat) : Int))) (.v (.int 1)) = some (.v (.int ((n + 1 : Nat) : Int))) := by
    show some (R.v (.int (((n + 2 : Nat) : Int) - 1))) = _
    congr 3
    omega
  refine (congrArg out (sts_nx (st_asg (ex_op (ix0 rfl) ex_cst s1)))).trans ?_
  have la := longest_above_ok (k := k) hm (n + 1) r (Nat.lt_of_le_of_lt hr (by decide))
  refine (congrArg out (sts_nx (st_asg (ex_call (exs_v (slc1 rfl) (exs_v (ex_var (i := 2) rfl) exs_nil)) la)))).trans ?_
  have g : ∀ b, decide (60 < t) = b → cmR mh .gt (.v (.int (t : Nat))) (.v (.int 60)) = some b := fun b hb => by
    rw [cm_gt, gtR_int, ← hb]
    refine congrArg some (decide_eq_decide.mpr ?_)
    omega
  by_cases h60 : 60 < t
  · have g1 := g true (decide_eq_true h60)
    have hb : Nat.blt 60 t = true := Nat.ble_eq.mpr h60
    rw [if_pos hb] at h
    cases h
    refine (congrArg out (sts_rt ((st_ifB (ex_cmp (ex_var rfl) ex_cst g1)).trans (by rw [if_pos rfl]; exact sts_rt (st_ret ex_cst))))).trans ?_
    rw [out_rt]
    rfl
  · have g1 := g false (decide_eq_false h60)
    have hc := hc (by omega)
    refine (congrArg out (sts_nx ((st_ifB (ex_cmp (ex_var rfl) ex_cst g1)).trans (by rw [if_neg (by decide)]; exact sts_nil)))).trans ?_
    have ll := len_hd_tl (n + 2) r
    have a1 := addN (mh := mh) [n + 1] (hd (n + 2) r) (by rw [List.length_singleton]; have : (1000 : Nat) ≤ many := by decide
                                                          omega)
    have rp : opR mh .mul (.v (wD ((n + 1) :: hd (n + 2) r))) (.v (.int ((t + 1 : Nat) : Int))) = some (.v (wD (List.replicate (t + 1) ((n + 1) :: hd (n + 2) r)).flatten)) := by
      show (repT (lD ((n + 1) :: hd (n + 2) r)) ((t + 1 : Nat) : Int)).map (fun ys => R.v (.tup ys)) = _
      rw [repN _ _ (by omega) (by rw [List.length_cons]; omega)]
      rfl
    have a2 := addN (mh := mh) (List.replicate (t + 1) ((n + 1) :: hd (n + 2) r)).flatten (tl (n + 2) r) (by
      rw [len_rep_flat, List.length_cons]
      have : (t + 1) * ((hd (n + 2) r).length + 1) ≤ 61 * 2 := Nat.mul_le_mul (by omega) (by omega)
      have : (61 * 2 + 900 : Nat) ≤ many := by decide
      omega)
    have ct := cutN (mh := mh) ((n + 2) :: hd (n + 2) r) (tl (n + 2) r)
    have w1 : (n + 2) :: hd (n + 2) r ++ tl (n + 2) r = (n + 2) :: r := by rw [List.cons_append, hd_tl]
    rw [w1] at ct
    have sl : ex (call T (k + 1)) (.slc (.var 0) (some (.op .add (.cst (.int 1)) (.blt .len [(.var 3)]))) none) [some (wD ((n + 2) :: r)), some (.int (t : Nat)), some (.int ((n + 1 : Nat) : Int)), some (wD (hd (n + 2) r))] mh = some (.v (wD (tl (n + 2) r)), mh) := by
      have o : opR mh .add (.v (.int 1)) (.v (.int ((hd (n + 2) r).length : Nat))) = some (.v (.int (((n + 2) :: hd (n + 2) r).length : Nat))) := by
        show some (R.v (.int (1 + ((hd (n + 2) r).length : Int)))) = _
        have e : 1 + ((hd (n + 2) r).length : Int) = ((((n + 2) :: hd (n + 2) r).length : Nat) : Int) := by rw [List.length_cons]; omega
        rw [e]
      rw [ex, ex_var rfl]
      dsimp only
      rw [exo, ex_op ex_cst (ex_blt (exr_v (ex_var (i := 3) rfl) exr_nil) (len_wD _)) o]
      dsimp only
      rw [exo]
      dsimp only
      rw [ct]
      rfl
    have o1 : opR mh .add (.v (.int (t : Nat))) (.v (.int 1)) = some (.v (.int ((t + 1 : Nat) : Int))) := rfl
    refine (congrArg out (sts_rt (st_ret (ex_call (exs_v (ex_op (ex_op (ex_op (tup1 (ex_var rfl)) (ex_var rfl) a1) (ex_op (ex_var rfl) ex_cst o1) rp) sl a2) (exs_v (ex_op (ex_var rfl) ex_cst o1) exs_nil)) hc)))).trans ?_
    rw [out_rt]
theorem piece_end_ok {mh : MH} (hm : Closed mh) (k : Nat) : ∀ (f : Nat) (p : List Nat) (t : Nat) (r : Option Nat), f ≤ 100 → t + 2 * f ≤ MM → pend f p t = some r → call T (k + 2 * f + 1) 54 [wD p, .int (t : Nat)] mh = some (.v (optN r), mh) := by
  intro f
  induction f with
  | zero => intro p t r _ _ h; cases h
  | succ f ih =>
    intro p t r hf ht h
    have hM : maxEnd + 1 ≤ MM - 2 * f := by unfold maxEnd MM; omega
    have m400 : 400 ≤ MM := by decide
    refine call_data (T := T) (fd := fd54) rfl rfl rfl hm (by cases r <;> rfl) [] ?_
    rw [List.append_nil]
    show out (sts (call T (k + 2 * f + 1 + 1)) fd54.body [some (wD p), some (.int (t : Nat)), none, none] mh) = _
    unfold fd54
    cases p with
    | nil =>
      have e : cmR mh .eq (.v (wD [])) (.v (wD [])) = some true := eqR_wD (mh := mh) [] []
      have h : some (some t) = some r := h
      cases h
      refine (congrArg out (sts_rt ((st_ifB (ex_cmp (ex_var rfl) emp_tup e)).trans (by rw [if_pos rfl]; exact sts_rt (st_ret (ex_var rfl)))))).trans ?_
      rw [out_rt]
      rfl
    | cons a q =>
      have e : cmR mh .eq (.v (wD (a :: q))) (.v (wD [])) = some false := eqR_wD (mh := mh) (a :: q) []
      refine (congrArg out (sts_nx ((st_ifB (ex_cmp (ex_var rfl) emp_tup e)).trans (by rw [if_neg (by decide)]; exact sts_nil)))).trans ?_
      have g : ∀ b, decide (2 < (a :: q).length) = b → cmR mh .gt (.v (.int ((a :: q).length : Nat))) (.v (.int 2)) = some b := fun b hb => by
        rw [cm_gt, gtR_int, ← hb]
        refine congrArg some (decide_eq_decide.mpr ?_)
        omega
      by_cases h2 : 2 < (a :: q).length
      · have g1 := g true (decide_eq_true h2)
        have h : some none = some r := by
          rw [← h]
          match q, h2 with
          | _ :: _ :: _, _ => rfl
        cases h
        refine (congrArg out (sts_rt ((st_ifB (ex_cmp (ex_blt (exr_v (ex_var rfl) exr_nil) (len_wD _)) ex_cst g1)).trans (by rw [if_pos rfl]; exact sts_rt (st_ret ex_cst))))).trans ?_
        rw [out_rt]
        rfl
      · have g1 := g false (decide_eq_false h2)
        refine (congrArg out (sts_nx ((st_ifB (ex_cmp (ex_blt (exr_v (ex_var rfl) exr_nil) (len_wD _)) ex_cst g1)).trans (by rw [if_neg (by decide)]; exact sts_nil)))).trans ?_
        have hq : q.length ≤ 1 := by rw [List.length_cons] at h2; omega
        match a, e, g, h2, g1, h with
        | 0, _, _, _, _, h =>
          match q, hq, h with
          | [], _, h => cases h
          | [_], _, h => cases h
        | 1, _, _, _, _, h =>
          have e1 : cmR mh .eq (.v (.int ((1 : Nat) : Int))) (.v (.int 1)) = some true := by rw [cm_eq, eqR_int]; rfl
          match q, hq, h with
          | [], _, h =>
            have h : some (some (2 * t + 2)) = some r := h
            cases h
            have rc := repeated_end_nil (k := k + 2 * f + 1) hm t
            refine (congrArg out (sts_rt ((st_ifB (ex_cmp (ix0 rfl) ex_cst e1)).trans (by rw [if_pos rfl]; exact sts_rt (st_ret (ex_call (exs_v (slc1 rfl) (exs_v (ex_var rfl) exs_nil)) rc)))))).trans ?_
            rw [out_rt]
            rfl
          | [b], _, h =>
            have h : rgo (pend f [b]) (t + 1) (t + 1) = some r := h
            have rc := repeated_end_ok (k := k + 2 * f + 1) hm (g := pend f [b]) (b := b) (s := []) (MM - 2 * f) (fun t' r' h1 h2 => ih [b] t' r' (by omega) (by omega) h2) hM t (by omega) (by unfold MM at ht; omega) r h
            refine (congrArg out (sts_rt ((st_ifB (ex_cmp (ix0 rfl) ex_cst e1)).trans (by rw [if_pos rfl]; exact sts_rt (st_ret (ex_call (exs_v (slc1 rfl) (exs_v (ex_var rfl) exs_nil)) rc)))))).trans ?_
            rw [out_rt]
        | n + 2, _, _, _, _, h =>
          have e1 : cmR mh .eq (.v (.int ((n + 2 : Nat) : Int))) (.v (.int 1)) = some false := by rw [cm_eq, eqR_int, decide_eq_false (by omega)]
          refine (congrArg out (sts_nx ((st_ifB (ex_cmp (ix0 rfl) ex_cst e1)).trans (by rw [if_neg (by decide)]; exact sts_nil)))).trans ?_
          have h' : (if Nat.blt 60 t then some none else wgo (pend f) [] ((List.replicate (t + 1) ((n + 1) :: hd (n + 2) q)).flatten ++ tl (n + 2) q) (t + 1)) = some r := by
            rw [← h]
            match q, hq with
            | [], _ => rfl
            | [_], _ => rfl
          refine pbody_ok (k := k + 2 * f + 1) hm hq ?_ fun h60 => ?_
          · split
            · rename_i hb
              rw [if_pos hb] at h'
              exact h'
            · rfl
          · have nb : ¬ (Nat.blt 60 t = true) := fun z => by have : 61 ≤ t := Nat.ble_eq.mp z; omega
            rw [if_neg nb] at h'
            have ll := len_hd_tl (n + 2) q
            refine worm_end_ok (k := k + 2 * f + 1) hm (g := pend f) (MM - 2 * f) (fun cur t' r' h1 h2 => ih cur t' r' (by omega) (by omega) h2) hM _ ?_ (t + 1) (by omega) r h'
            rw [List.length_append, len_rep_flat, List.length_cons]
            have : (t + 1) * ((hd (n + 2) q).length + 1) ≤ 61 * 2 := Nat.mul_le_mul (by omega) (by omega)
            omega
/-- the end of a worm -/
theorem wend_ok {k : Nat} {mh : MH} (hm : Closed mh) (w : List Nat) (hw : w.length ≤ 1000) (t : Nat) (ht : t ≤ 1000001) (r : Option Nat) (h : wend 7 w t = some r) : call T (k + 16) 56 [wD w, .int (t : Nat)] mh = some (.v (optN r), mh) := by
  have m400 : 400 ≤ MM := by decide
  exact worm_end_ok (k := k + 15) hm (g := pend 7) (MM - 14) (fun cur t' r' h1 h2 => piece_end_ok hm k 7 cur t' r' (by decide) (by omega) h2) (by decide) w (by omega) t (by unfold MM; omega) r h
end K67
set_option Elab.async false
set_option linter.all false
set_option maxRecDepth 100000
set_option maxHeartbeats 400000
/-! K67W12: the checked defs. -/
namespace K67
open Ev Pl Pl.O
def lowR : R → Bool
  | .v d => low 0 d
  | .l ds => lowL 0 ds
/-- what is asked of an ordinal that is passed -/
def Ook (x : O) : Prop := W x ∧ cnt x ≤ 400 ∧ dep x ≤ 12
theorem call_d {k f : Nat} {fd : FD} {ds : List D} {mh : MH} {d : D} (hT : T f = some fd) (hn : ds.length = fd.np) (hg : fd.gc = .drop) (hm : Closed mh) (hd : low 0 d = true)
    {env : Env} (run : sts (call T k) fd.body (ds.map some ++ List.replicate (fd.n - fd.np) none) mh = some (.rt (.v d), env, mh)) : call T (k + 1) f ds mh = some (.v d, mh) := call_data hT hn hg hm hd [] (by rw [run, out_rt, List.append_nil])
theorem call_n {k f : Nat} {fd : FD} {ds : List D} {mh : MH} (hT : T f = some fd) (hn : ds.length = fd.np) (hg : fd.gc = .drop) (hm : Closed mh)
    {env : Env} (run : sts (call T k) fd.body (ds.map some ++ List.replicate (fd.n - fd.np) none) mh = some (.nx, env, mh)) : call T (k + 1) f ds mh = some (.v .non, mh) := call_non hT hn hg hm [] (by rw [run, out_rt, List.append_nil])
theorem ite_f {C : CallF} {c : Ex} {a : List St} {env : Env} {mh : MH} (h : ex C c env mh = some (.v (.bl false), mh)) : st C (.ite c a []) env mh = some (.nx, env, mh) := (st_ifB h).trans (by rw [if_neg (by decide)]; exact sts_nil)
theorem ite_t {C : CallF} {c : Ex} {a b : List St} {env : Env} {mh : MH} (h : ex C c env mh = some (.v (.bl true), mh)) : st C (.ite c a b) env mh = sts C a env mh := (st_ifB h).trans (by rw [if_pos rfl])
theorem ite_ff {C : CallF} {c : Ex} {a b : List St} {env : Env} {mh : MH} (h : ex C c env mh = some (.v (.bl false), mh)) : st C (.ite c a b) env mh = sts C b env mh := (st_ifB h).trans (by rw [if_neg (by decide)])
theorem not_t {C : CallF} {c : Ex} {env : Env} {mh : MH} (h : ex C c env mh = some (.v (.bl true), mh)) : ex C (.not_ c) env mh = some (.v (.bl false), mh) := ex_not h rfl
theorem or_ff {C : CallF} {a b : Ex} {env : Env} {mh : MH} {x : R} (h : ex C a env mh = some (.v (.bl false), mh)) (h2 : ex C b env mh = some (x, mh)) : ex C (.or_ a b) env mh = some (x, mh) := by
  rw [ex_or h rfl, if_neg (by decide)]
  exact h2
theorem or_tt {C : CallF} {a b : Ex} {env : Env} {mh : MH} (h : ex C a env mh = some (.v (.bl true), mh)) : ex C (.or_ a b) env mh = some (.v (.bl true), mh) := by
  rw [ex_or h rfl, if_pos rfl]
theorem and_tt {C : CallF} {a b : Ex} {env : Env} {mh : MH} {x : R} (h : ex C a env mh = some (.v (.bl true), mh)) (h2 : ex C b env mh = some (x, mh)) : ex C (.and_ a b) env mh = some (x, mh) := by
  rw [ex_and h rfl, if_pos rfl]
  exact h2
theorem and_ff {C : CallF} {a b : Ex} {env : Env} {mh : MH} (h : ex C a env mh = some (.v (.bl false), mh)) : ex C (.and_ a b) env mh = some (.v (.bl false), mh) := by
  rw [ex_and h rfl, if_neg (by decide)]
theorem need_number_ok {k : Nat} {mh : MH} (hm : Closed mh) (n lo hi : Nat) (h1 : lo ≤ n) (h2 : n ≤ hi) : call T (k + 1) 3 [.int (n : Nat), .int (lo : Nat), .int (hi : Nat)] mh = some (.v .non, mh) := by
  refine call_n (fd := fd3) rfl rfl rfl hm (env := [some (.int (n : Nat)), some (.int (lo : Nat)), some (.int (hi : Nat))]) ?_
  have e1 : cmR mh .lt (.v (.int (n : Nat))) (.v (.int (lo : Nat))) = some false := by rw [cm_lt, ltR_int, decide_eq_false (by omega)]
  have e2 : cmR mh .gt (.v (.int (n : Nat))) (.v (.int (hi : Nat))) = some false := by rw [cm_gt, gtR_int, decide_eq_false (by omega)]
  have e3 : cmR mh .isnot (.v (.int (hi : Nat))) (.v .non) = some true := rfl
  exact (sts_nx (ite_f (or_ff (ex_cmp (ex_var rfl) (ex_var rfl) e1) (and_tt (ex_cmp (ex_var rfl) ex_cst e3) (ex_cmp (ex_var rfl) (ex_var rfl) e2))))).trans sts_nil
theorem need_ordinal_ok {k : Nat} {mh : MH} (hm : Closed mh) {x : O} (h : Ook x) : call T (k + 15) 30 [toD x] mh = some (.v .non, mh) := by
  refine call_n (fd := fd30) rfl rfl rfl hm (env := [some (toD x)]) ?_
  have c := is_ordinal_in_ok (k := k) (d := 12) hm h.2.2 (by decide) h.1 h.2.1
  exact (sts_nx (ite_f (not_t (ex_call (exs_v (ex_var rfl) exs_nil) c)))).trans sts_nil
theorem need_ordinals_ok {k : Nat} {mh : MH} (hm : Closed mh) {x y : O} (h : Ook x) (h2 : Ook y) : call T (k + 16) 31 [toD x, toD y] mh = some (.v .non, mh) := by
  refine call_n (fd := fd31) rfl rfl rfl hm (env := [some (toD x), some (toD y)]) ?_
  exact (sts_nx (st_expr (ex_call (exs_v (ex_var rfl) exs_nil) (need_ordinal_ok (k := k) hm h)))).trans ((sts_nx (st_expr (ex_call (exs_v (ex_var rfl) exs_nil) (need_ordinal_ok (k := k) hm h2)))).trans sts_nil)
theorem number_ok {k : Nat} {mh : MH} (hm : Closed mh) (n : Nat) (h : n ≤ 399) : call T (k + 2) 32 [.int (n : Nat)] mh = some (.v (toD (rep z n)), mh) := by
  refine call_d (fd := fd32) rfl rfl rfl hm (low_toD 0 _) (env := [some (.int (n : Nat))]) ?_
  exact (sts_nx (st_expr (ex_call (exs_v (ex_var rfl) (exs_v ex_cst (exs_v ex_cst exs_nil))) (need_number_ok (k := k) hm n 0 399 (by omega) h)))).trans (sts_rt (st_ret (ex_call (exs_v (ex_var rfl) exs_nil) (number_in_ok hm n (by omega)))))
theorem last_ok {k : Nat} {mh : MH} (hm : Closed mh) {x : O} (h : Ook x) : call T (k + 16) 33 [toD x] mh = some (.v (toD (lst x)), mh) := by
  refine call_d (fd := fd33) rfl rfl rfl hm (low_toD 0 _) (env := [some (toD x)]) ?_
  exact (sts_nx (st_expr (ex_call (exs_v (ex_var rfl) exs_nil) (need_ordinal_ok (k := k) hm h)))).trans (sts_rt (st_ret (ex_call (exs_v (ex_var rfl) exs_nil) (last_in_ok (k := k + 14) hm (Nat.le_trans h.2.2 (by decide))))))
theorem wrap2 {k f X : Nat} {mh : MH} (hm : Closed mh) {x y : O} {d : D} (hT : T f = some ⟨2, 2, .drop, [(.expr (.call 31 [(.var 0), (.var 1)] [])), (.ret (.call X [(.var 0), (.var 1)] []))]⟩) (h : Ook x) (h2 : Ook y) (hd : low 0 d = true) (hX : call T (k + 16) X [toD x, toD y] mh = some (.v d, mh)) : call T (k + 17) f [toD x, toD y] mh = some (.v d, mh) := by
  refine call_d hT rfl rfl hm hd (env := [some (toD x), some (toD y)]) ?_
  exact (sts_nx (st_expr (ex_call (exs_v (ex_var rfl) (exs_v (ex_var rfl) exs_nil)) (need_ordinals_ok (k := k) hm h h2)))).trans (sts_rt (st_ret (ex_call (exs_v (ex_var rfl) (exs_v (ex_var rfl) exs_nil)) hX)))
theorem Ook.l {x : O} (h : Ook x) : len x ≤ 400 := by
  have := len_cnt x
  have := h.2.1
  omega
theorem Ook.d {x : O} (h : Ook x) : dep x ≤ 50 := Nat.le_trans h.2.2 (by decide)
theorem m800 : (1000 : Nat) ≤ many := by decide
theorem plus_ok {k : Nat} {mh : MH} (hm : Closed mh) {x y : O} (h : Ook x) (h2 : Ook y) : call T (k + 17) 34 [toD x, toD y] mh = some (.v (toD (plus x y)), mh) :=
  wrap2 hm rfl h h2 (low_toD 0 _) (plus_in_ok (k := k + 15) hm h.d h2.d (by have := h.l; have := h2.l; have := m800; omega))
theorem natural_sum_ok {k : Nat} {mh : MH} (hm : Closed mh) {x y : O} (h : Ook x) (h2 : Ook y) : call T (k + 17) 35 [toD x, toD y] mh = some (.v (toD (nat x y)), mh) :=
  wrap2 hm rfl h h2 (low_toD 0 _) (natural_in_ok (k := k + 15) hm h.d h2.d (by have := h.l; have := h2.l; have := m800; omega))
theorem minus_ok {k : Nat} {mh : MH} (hm : Closed mh) {x y : O} (h : Ook x) (h2 : Ook y) : call T (k + 17) 36 [toD x, toD y] mh = some (.v (match minus x y with | none => .non | some w => toD w), mh) :=
  wrap2 hm rfl h h2 (by cases minus x y with
    | none => rfl
    | some w => exact low_toD 0 w) (minus_in_ok (k := k + 15) hm h.d h2.d (Nat.lt_of_le_of_lt h2.l (by decide)))
theorem len_els_le {x e : O} (h : e ∈ els x) : len e ≤ cnt x := Nat.le_trans (Nat.le_trans (Nat.le_succ _) (len_cnt e)) (cnt_of_mem h)
theorem times_ok {k : Nat} {mh : MH} (hm : Closed mh) {x y : O} (h : Ook x) (h2 : Ook y) : call T (k + 17) 37 [toD x, toD y] mh = some (.v (toD (times x y)), mh) :=
  wrap2 hm rfl h h2 (low_toD 0 _) (times_in_ok (k := k + 14) hm h.d h2.d (by
      have a := Nat.mul_le_mul h2.l h.l
      have : (400 * 400 + 1 : Nat) ≤ many := by decide
      omega) (fun e he x0 xt hx => by
      have a := len_els_le he
      have b : len x0 ≤ cnt x := by subst hx; exact len_els_le (by rw [els]; exact List.mem_cons_self)
      have := h.2.1
      have := h2.2.1
      have := m800
      omega))
theorem natural_product_ok {k : Nat} {mh : MH} (hm : Closed mh) {x y : O} (h : Ook x) (h2 : Ook y) : call T (k + 17) 38 [toD x, toD y] mh = some (.v (toD (nprod x y)), mh) :=
  wrap2 hm rfl h h2 (low_toD 0 _) (natural_product_in_ok (k := k + 14) hm h.d h2.d (fun a ha b hb => by
      have := len_els_le ha
      have := len_els_le hb
      have := h.2.1
      have := h2.2.1
      have := m800
      omega) (by
      have a := Nat.mul_le_mul h.l h2.l
      have : (400 * 400 + 1 : Nat) ≤ many := by decide
      omega))
def sZero : PySem.Str := ⟨#[122, 101, 114, 111]⟩
def sSucc : PySem.Str := ⟨#[115, 117, 99, 99, 101, 115, 115, 111, 114]⟩
def sLim : PySem.Str := ⟨#[108, 105, 109, 105, 116]⟩
def kindS (x : O) : PySem.Str := match x with
  | z => sZero
  | c h t => if lst (c h t) = z then sSucc else sLim
theorem idxl {C : CallF} {env : Env} {mh : MH} {h t : O} {i : Nat} (e : env[i]? = some (some (toD (c h t)))) : ex C (.idx (.var i) (.op .sub (.cst (.int 0)) (.cst (.int 1)))) env mh = some (.v (toD (lst (c h t))), mh) := by
  rw [ex, ex_var e]
  dsimp only
  rw [ex_op ex_cst ex_cst (show opR mh .sub (.v (.int 0)) (.v (.int 1)) = some (.v (.int (-1))) from rfl)]
  dsimp only
  rw [idx_last]
  rfl
theorem emp_z {C : CallF} {env : Env} {mh : MH} : ex C (.tup []) env mh = some (.v (toD z), mh) := by
  have m0 : 0 ≤ many := by decide
  simp [ex, exs, m0, toD, toL]
theorem kind_of_ok {k : Nat} {mh : MH} (hm : Closed mh) {x : O} (h : Ook x) : call T (k + 16) 39 [toD x] mh = some (.v (.str (kindS x)), mh) := by
  refine call_d (fd := fd39) rfl rfl rfl hm rfl (env := [some (toD x)]) ?_
  refine (sts_nx (st_expr (ex_call (exs_v (ex_var rfl) exs_nil) (need_ordinal_ok (k := k) hm h)))).trans ?_
  have e0 : cmR mh .eq (.v (toD x)) (.v (toD z)) = some (decide (x = z)) := eqz h.d
  have c0 : ex (call T (k + 15)) (.cmp .eq (.var 0) (.tup [])) [some (toD x)] mh = some (.v (.bl (decide (x = z))), mh) := ex_cmp (ex_var rfl) emp_z e0
  cases x with
  | z => exact sts_rt ((ite_t c0).trans (sts_rt (st_ret ex_cst)))
  | c a t =>
    refine (sts_nx (ite_f c0)).trans ?_
    have dl : dep (lst (c a t)) ≤ 50 := dep_els (lst_mem a t) h.d
    have e1 : cmR mh .eq (.v (toD (lst (c a t)))) (.v (toD z)) = some (decide (lst (c a t) = z)) := eqz dl
    have c1 : ex (call T (k + 15)) (.cmp .eq (.idx (.var 0) (.op .sub (.cst (.int 0)) (.cst (.int 1)))) (.tup [])) [some (toD (c a t))] mh = some (.v (.bl (decide (lst (c a t) = z))), mh) := ex_cmp (idxl rfl) emp_z e1
    refine sts_rt (st_ret ?_)
    rw [ex_ite c1 rfl, kindS]
    by_cases q : lst (c a t) = z
    · rw [if_pos (decide_eq_true q), if_pos q]
      exact ex_cst
    · rw [if_neg (by rw [decide_eq_false q]; decide), if_neg q]
      exact ex_cst
theorem toward_ok {k : Nat} {mh : MH} (hm : Closed mh) {x : O} (h : Ook x) (n : Nat) (hn : n ≤ 20) : call T (k + 16) 40 [toD x, .int (n : Nat)] mh = some (.v (toD (tow n x)), mh) := by
  refine call_d (fd := fd40) rfl rfl rfl hm (low_toD 0 _) (env := [some (toD x), some (.int (n : Nat))]) ?_
  exact (sts_nx (st_expr (ex_call (exs_v (ex_var rfl) exs_nil) (need_ordinal_ok (k := k) hm h)))).trans ((sts_nx (st_expr (ex_call (exs_v (ex_var rfl) (exs_v ex_cst (exs_v ex_cst exs_nil))) (need_number_ok (k := k + 14) hm n 0 20 (by omega) hn)))).trans (sts_rt (st_ret (ex_call (exs_v (ex_var rfl) (exs_v (ex_var rfl) exs_nil)) (toward_in_ok hm (k + 2) n (by omega) 12 x h.2.2 (by decide) h.2.1)))))
end K67
set_option Elab.async false
set_option linter.all false
set_option maxRecDepth 100000
set_option maxHeartbeats 400000
/-! K67W13: the checked defs over worms. -/
namespace K67
open Ev Pl Pl.O
theorem Wok.m {n m : Nat} {w : List Nat} (h : Wok n w) (k : n ≤ m) : Wok m w := ⟨Nat.le_trans h.1 k, h.2⟩
theorem need_worm_ok {k : Nat} {mh : MH} (hm : Closed mh) {w : List Nat} (h : Wok 400 w) : call T (k + 4) 41 [wD w] mh = some (.v .non, mh) := by
  refine call_n (fd := fd41) rfl rfl rfl hm (env := [some (wD w)]) ?_
  exact (sts_nx (ite_f (not_t (ex_call (exs_v (ex_var rfl) exs_nil) (is_worm_in_ok (k := k) hm w h.1 h.2))))).trans sts_nil
theorem order_ok {k : Nat} {mh : MH} (hm : Closed mh) {w : List Nat} (h : Wok 400 w) : call T (k + 10) 42 [wD w] mh = some (.v (toD (ord w)), mh) := by
  refine call_d (fd := fd42) rfl rfl rfl hm (low_toD 0 _) (env := [some (wD w)]) ?_
  exact (sts_nx (st_expr (ex_call (exs_v (ex_var rfl) exs_nil) (need_worm_ok (k := k + 5) hm h)))).trans (sts_rt (st_ret (ex_call (exs_v (ex_var rfl) exs_nil) (ord_ok hm k w (h.m (by decide))))))
theorem worm_of_ok {k : Nat} {mh : MH} (hm : Closed mh) {x : O} (h : Ook x) (hw : Wok 400 (worm x)) : call T (k + 16) 43 [toD x] mh = some (.v (wD (worm x)), mh) := by
  refine call_d (fd := fd43) rfl rfl rfl hm (low_wD 0 _) (env := [some (toD x), some (wD (worm x))]) ?_
  refine (sts_nx (st_expr (ex_call (exs_v (ex_var rfl) exs_nil) (need_ordinal_ok (k := k) hm h)))).trans ?_
  refine (sts_nx (st_asg (ex_call (exs_v (ex_var rfl) exs_nil) (worm_in_ok hm (k + 1) 12 x h.2.2 (by decide) (by have := h.2.1; omega))))).trans ?_
  exact (sts_nx (ite_f (not_t (ex_call (exs_v (ex_var rfl) exs_nil) (is_worm_in_ok (k := k + 12) hm (worm x) hw.1 hw.2))))).trans (sts_rt (st_ret (ex_var rfl)))
theorem form_of_ok {k : Nat} {mh : MH} (hm : Closed mh) {w : List Nat} (h : Wok 100 w) : call T (k + 12) 44 [wD w] mh = some (.v (wD (form w)), mh) := by
  refine call_d (fd := fd44) rfl rfl rfl hm (low_wD 0 _) (env := [some (wD w)]) ?_
  exact (sts_nx (st_expr (ex_call (exs_v (ex_var rfl) exs_nil) (need_worm_ok (k := k + 7) hm (h.m (by decide)))))).trans (sts_rt (st_ret (ex_call (exs_v (ex_var rfl) exs_nil) (form_in_ok hm k w (fun a ha => Nat.le_succ_of_le (h.2 a ha)) h.1))))
theorem need_worms_ok {k : Nat} {mh : MH} (hm : Closed mh) {w u : List Nat} (h : Wok 400 w) (h2 : Wok 400 u) : call T (k + 5) 45 [wD w, wD u] mh = some (.v .non, mh) := by
  refine call_n (fd := fd45) rfl rfl rfl hm (env := [some (wD w), some (wD u)]) ?_
  exact (sts_nx (st_expr (ex_call (exs_v (ex_var rfl) exs_nil) (need_worm_ok (k := k) hm h)))).trans ((sts_nx (st_expr (ex_call (exs_v (ex_var rfl) exs_nil) (need_worm_ok (k := k) hm h2)))).trans sts_nil)
theorem turn_above_ok {k : Nat} {mh : MH} (hm : Closed mh) {n : Nat} {r : List Nat} {x : O} (hw : Wok 5 ((n + 1) :: r)) (h : Ook x) (hl : x < ord ((n + 1) :: r)) {e : Nat} (he : Turn ((n + 1) :: r) x e) : call T (k + 16) 46 [wD ((n + 1) :: r), toD x] mh = some (.v (.int (e : Nat)), mh) := by
  refine call_d (fd := fd46) rfl rfl rfl hm rfl (env := [some (wD ((n + 1) :: r)), some (toD x)]) ?_
  refine (sts_nx (st_expr (ex_call (exs_v (ex_var rfl) exs_nil) (need_worm_ok (k := k + 11) hm (hw.m (by decide)))))).trans ?_
  have e1 : cmR mh .eq (.v (wD ((n + 1) :: r))) (.v (wD [])) = some false := eqR_wD (mh := mh) _ _
  have e2 : cmR mh .eq (.v (.int ((n + 1 : Nat) : Int))) (.v (.int 0)) = some false := by rw [cm_eq, eqR_int, decide_eq_false (by omega)]
  refine (sts_nx (ite_f (or_ff (ex_cmp (ex_var rfl) emp_tup e1) (ex_cmp (ix0 rfl) ex_cst e2)))).trans ?_
  refine (sts_nx (st_expr (ex_call (exs_v (ex_var rfl) exs_nil) (need_ordinal_ok (k := k) hm h)))).trans ?_
  have d := dep_ord ((n + 1) :: r)
  have e3 : cmR mh .ge (.v (toD x)) (.v (toD (ord ((n + 1) :: r)))) = some false := by
    rw [cm_ge, geR_toD h.d (by omega), decide_eq_false (by rw [le_def]; exact fun z => z hl)]
  refine (sts_nx (ite_f (ex_cmp (ex_var rfl) (ex_call (exs_v (ex_var rfl) exs_nil) (ord_ok hm (k + 6) _ (hw.m (by decide)))) e3))).trans ?_
  exact sts_rt (st_ret (ex_call (exs_v (ex_var rfl) (exs_v (ex_var rfl) exs_nil)) (turn_in_ok (k := k + 5) hm hw.2 (by have := hw.1; rw [List.length_cons] at this; omega) h.d he)))
theorem halfway_ok {k : Nat} {mh : MH} (hm : Closed mh) {one other : List Nat} (h1 : Wok 90 one) (h2 : Wok 100 other) (hf : (form one).length ≤ 5) : call T (k + 13) 47 [wD one, wD other] mh = some (.v (optW (half one other)), mh) := by
  refine call_d (fd := fd47) rfl rfl rfl hm (by cases half one other with
    | none => rfl
    | some w => exact low_wD 0 w) (env := [some (wD one), some (wD other)]) ?_
  refine (sts_nx (st_expr (ex_call (exs_v (ex_var rfl) (exs_v (ex_var rfl) exs_nil)) (need_worms_ok (k := k + 7) hm (h1.m (by decide)) (h2.m (by decide)))))).trans ?_
  exact sts_rt (st_ret (ex_call (exs_v (ex_var rfl) (exs_v (ex_var rfl) exs_nil)) (halfway_in_ok (k := k) hm h1 h2 hf)))
theorem next_worm_ok {k : Nat} {mh : MH} (hm : Closed mh) {a : Nat} {r : List Nat} (h : Wok 400 (a :: r)) (t : Nat) (h1 : 1 ≤ t) (ht : t ≤ 500) : call T (k + 5) 48 [wD (a :: r), .int (t : Nat)] mh = some (.v (wD (nextIn (a :: r) t)), mh) := by
  refine call_d (fd := fd48) rfl rfl rfl hm (low_wD 0 _) (env := [some (wD (a :: r)), some (.int (t : Nat))]) ?_
  refine (sts_nx (st_expr (ex_call (exs_v (ex_var rfl) exs_nil) (need_worm_ok (k := k) hm h)))).trans ?_
  have e1 : cmR mh .eq (.v (wD (a :: r))) (.v (wD [])) = some false := eqR_wD (mh := mh) _ _
  refine (sts_nx (ite_f (ex_cmp (ex_var rfl) emp_tup e1))).trans ?_
  refine (sts_nx (st_expr (ex_call (exs_v (ex_var rfl) (exs_v ex_cst (exs_v ex_cst exs_nil))) (need_number_ok (k := k + 3) hm t 1 10000 h1 (by omega))))).trans ?_
  have l := h.1
  rw [List.length_cons] at l
  exact sts_rt (st_ret (ex_call (exs_v (ex_var rfl) (exs_v (ex_var rfl) exs_nil)) (next_in_ok (k := k + 2) hm a r t (by omega) (by omega))))
theorem idx_pair {mh : MH} {a b : D} : idxR mh (.v (.tup [a, b])) (.v (.int 0)) = some a := rfl
theorem ex_pair0 {C : CallF} {e : Ex} {env : Env} {mh mh1 : MH} {a b : D} (h : ex C e env mh = some (.v (.tup [a, b]), mh1)) : ex C (.idx e (.cst (.int 0))) env mh = some (.v a, mh1) := by
  rw [ex, h]
  dsimp only
  rw [ex_cst]
  dsimp only
  rw [idx_pair]
  rfl
theorem st_asg2 {C : CallF} {i j : Nat} {e : Ex} {env : Env} {mh mh1 : MH} {a b : D} (h : ex C e env mh = some (.v (.tup [a, b]), mh1)) : st C (.asg (.tup [(.nm i), (.nm j)]) e) env mh = some (.nx, (env.set i (some a)).set j (some b), mh1) := by
  rw [st, h]
  rfl
theorem behind_ok {k : Nat} {mh : MH} (hm : Closed mh) {w : List Nat} (h : Wok 400 w) (t : Nat) (ht : t ≤ 10000) (hw : wayOk t 1 w = true) : call T (k + 5) 49 [wD w, .int (t : Nat)] mh = some (.v (wD (lastB t 1 w).1), mh) := by
  refine call_d (fd := fd49) rfl rfl rfl hm (low_wD 0 _) (env := [some (wD w), some (.int (t : Nat))]) ?_
  refine (sts_nx (st_expr (ex_call (exs_v (ex_var rfl) exs_nil) (need_worm_ok (k := k) hm h)))).trans ?_
  refine (sts_nx (st_expr (ex_call (exs_v (ex_var rfl) (exs_v ex_cst (exs_v ex_cst exs_nil))) (need_number_ok (k := k + 3) hm t 0 10000 (by omega) ht)))).trans ?_
  exact sts_rt (st_ret (ex_pair0 (ex_call (exs_v (ex_var rfl) (exs_v (ex_var rfl) exs_nil)) (last_behind_ok (j := k + 1) hm w t (by omega) hw))))
theorem turns_of_ok {k : Nat} {mh : MH} (hm : Closed mh) {w : List Nat} (h : Wok 400 w) (t : Nat) (ht : t ≤ 10000) (hw : wayOk t 1 w = true) : call T (k + 5) 50 [wD w, .int (t : Nat)] mh = some (.v (if (lastB t 1 w).1 = [] then .int ((lastB t 1 w).2 : Nat) else .non), mh) := by
  refine call_d (fd := fd50) rfl rfl rfl hm (by split <;> rfl) (env := (([some (wD w), some (.int (t : Nat)), none, none] : Env).set 2 (some (wD (lastB t 1 w).1))).set 3 (some (.int ((lastB t 1 w).2 : Nat)))) ?_
  refine (sts_nx (st_expr (ex_call (exs_v (ex_var rfl) exs_nil) (need_worm_ok (k := k) hm h)))).trans ?_
  refine (sts_nx (st_expr (ex_call (exs_v (ex_var rfl) (exs_v ex_cst (exs_v ex_cst exs_nil))) (need_number_ok (k := k + 3) hm t 0 10000 (by omega) ht)))).trans ?_
  refine (sts_nx (st_asg2 (ex_call (exs_v (ex_var rfl) (exs_v (ex_var rfl) exs_nil)) (last_behind_ok (j := k + 1) hm w t (by omega) hw)))).trans ?_
  generalize (lastB t 1 w).1 = u
  generalize (lastB t 1 w).2 = n
  have e1 : cmR mh .eq (.v (wD u)) (.v (wD [])) = some (decide (u = [])) := eqR_wD (mh := mh) _ _
  refine sts_rt (st_ret ?_)
  rw [ex_ite (ex_cmp (ex_var rfl) emp_tup e1) rfl]
  by_cases q : u = []
  · rw [if_pos (decide_eq_true q), if_pos q]
    exact ex_var rfl
  · rw [if_neg (by rw [decide_eq_false q]; decide), if_neg q]
    exact ex_cst
theorem compL_ws {f : D → MH → Option (Option D × MH)} {mh : MH} (g : List Nat → D) : ∀ (y : List (List Nat)) (acc : List D), (∀ b ∈ y, f (wD b) mh = some (some (g b), mh)) → acc.length + y.length ≤ many → compL f (y.map wD) mh acc = some (acc ++ y.map g, mh)
  | [], acc, _, _ => by rw [List.map_nil, compL, List.map_nil, List.append_nil]
  | b :: t, acc, h, hl => by
    rw [List.length_cons] at hl
    rw [List.map_cons, compL, h b List.mem_cons_self]
    dsimp only
    rw [if_pos (by omega), compL_ws g t (acc ++ [g b]) (fun a ha => h a (List.mem_cons_of_mem _ ha)) (by rw [List.length_append, List.length_singleton]; omega), List.map_cons, List.append_assoc]
    rfl
theorem comp_ws {f : D → MH → Option (Option D × MH)} {mh : MH} (g : List Nat → D) (y : List (List Nat)) (h : ∀ b ∈ y, f (wD b) mh = some (some (g b), mh)) (hl : y.length ≤ many) :
    compGo f (.st (y.map wD)) (turns mh (.st (y.map wD))) 0 mh [] = some (y.map g, mh) := by
  rw [comp_stat (xs := y.map wD) (stat_st (y.map wD)) (y.map wD) 0 (turns mh (.st (y.map wD))) mh [] rfl (Nat.lt_succ_self _), compL_ws g y [] h (by rw [List.length_nil, Nat.zero_add]; exact hl), List.nil_append]
theorem low_os (n : Nat) : ∀ l : List (List Nat), lowL n (l.map fun w => toD (ord w)) = true
  | [] => rfl
  | a :: w => by rw [List.map_cons, lowL, low_toD, low_os n w]; rfl
theorem orders_ok {k : Nat} {mh : MH} (hm : Closed mh) {w : List Nat} (h : Wok 400 w) (t : Nat) (ht : t ≤ 100) (hw : wayOk t 1 w = true) (hb : ∀ u ∈ behs t 1 w, Wok 1000 u) (hl : (behs t 1 w).length ≤ 1000) : call T (k + 10) 51 [wD w, .int (t : Nat)] mh = some (.v (.tup ((behs t 1 w).map fun w => toD (ord w))), mh) := by
  refine call_d (fd := fd51) rfl rfl rfl hm (by rw [low, low_os]) (env := [some (wD w), some (.int (t : Nat)), none]) ?_
  refine (sts_nx (st_expr (ex_call (exs_v (ex_var rfl) exs_nil) (need_worm_ok (k := k + 5) hm h)))).trans ?_
  refine (sts_nx (st_expr (ex_call (exs_v (ex_var rfl) (exs_v ex_cst (exs_v ex_cst exs_nil))) (need_number_ok (k := k + 8) hm t 0 100 (by omega) ht)))).trans ?_
  refine sts_rt (st_ret (ex_blt (rs := [.l ((behs t 1 w).map fun w => toD (ord w))]) (exr_v ?_ exr_nil) rfl))
  refine ex_comp (rs := [.l ((behs t 1 w).map wD)]) (mh1 := mh) (exr_v (ex_call (exs_v (ex_var rfl) (exs_v (ex_var rfl) exs_nil)) (behind_in_ok (j := k + 6) hm w t (by omega) hw)) exr_nil) rfl ?_
  refine comp_ws (fun w => toD (ord w)) (behs t 1 w) (fun u hu => ?_) (Nat.le_trans hl m800)
  exact cturn_some (env' := [some (wD w), some (.int (t : Nat)), some (wD u)]) rfl rfl (ex_call (exs_v (ex_var rfl) exs_nil) (ord_ok hm k u (hb u hu)))
theorem is_in_form_ok {k : Nat} {mh : MH} (hm : Closed mh) {w : List Nat} (h : Wok 100 w) : call T (k + 12) 52 [wD w] mh = some (.v (.bl (decide (form w = w))), mh) := by
  refine call_d (fd := fd52) rfl rfl rfl hm rfl (env := [some (wD w)]) ?_
  refine (sts_nx (st_expr (ex_call (exs_v (ex_var rfl) exs_nil) (need_worm_ok (k := k + 7) hm (h.m (by decide)))))).trans ?_
  exact sts_rt (st_ret (ex_cmp (ex_call (exs_v (ex_var rfl) exs_nil) (form_in_ok hm k w (fun a ha => Nat.le_succ_of_le (h.2 a ha)) h.1)) (ex_var rfl) (eqR_wD _ _)))
theorem ends_at_ok {k : Nat} {mh : MH} (hm : Closed mh) {w : List Nat} (h : Wok 400 w) (t : Nat) (h1 : 1 ≤ t) (ht : t ≤ 1000000) (r : Option Nat) (hr : wend 7 w t = some r) : call T (k + 17) 57 [wD w, .int (t : Nat)] mh = some (.v (optN r), mh) := by
  refine call_d (fd := fd57) rfl rfl rfl hm (by cases r <;> rfl) (env := [some (wD w), some (.int (t : Nat))]) ?_
  refine (sts_nx (st_expr (ex_call (exs_v (ex_var rfl) exs_nil) (need_worm_ok (k := k + 12) hm h)))).trans ?_
  refine (sts_nx (st_expr (ex_call (exs_v (ex_var rfl) (exs_v ex_cst (exs_v ex_cst exs_nil))) (need_number_ok (k := k + 15) hm t 1 1000000 h1 ht)))).trans ?_
  exact sts_rt (st_ret (ex_call (exs_v (ex_var rfl) (exs_v (ex_var rfl) exs_nil)) (wend_ok (k := k) hm w (by have := h.1; omega) t (by omega) r hr)))
end K67
set_option Elab.async false
set_option linter.all false
set_option maxRecDepth 100000
set_option maxHeartbeats 400000
/-! K67L1: the law's source and its picks. -/
namespace K67
open Ev Pl Pl.O
def srcO (a b c : Int) : MO := .lst [.int a, .int b, .int c]
/-- a source, drawn from at most c times -/
def Good (c : Nat) (o : MO) : Prop := ∃ a b c' : Int, o = srcO a b c' ∧ 0 ≤ a ∧ 0 ≤ b ∧ b < 10000000000000000000000000 ∧ 0 ≤ c' ∧ c' ≤ (c : Int)
theorem low_good {n c : Nat} {o : MO} (h : Good c o) : lowM n [o] = true := by
  obtain ⟨a, b, c', rfl, _⟩ := h
  rfl
theorem lowM_split {n : Nat} : ∀ (a b : MH), lowM n (a ++ b) = true → lowM n a = true ∧ lowM n b = true
  | [], b, h => ⟨rfl, h⟩
  | .lst xs :: r, b, h => by
    rw [List.cons_append, lowM] at h
    obtain ⟨h1, h2⟩ := Bool.and_eq_true_iff.mp h
    obtain ⟨h3, h4⟩ := lowM_split r b h2
    rw [lowM, h1, h3]
    exact ⟨rfl, h4⟩
theorem closed_swap {H E : MH} {c c' : Nat} {o o' : MO} (g : Good c o) (g' : Good c' o') (hm : Closed (H ++ o :: E)) : Closed (H ++ o' :: E) := by
  have l : (H ++ o' :: E).length = (H ++ o :: E).length := by simp
  unfold Closed at hm ⊢
  rw [l]
  obtain ⟨h1, h2⟩ := lowM_split H (o :: E) hm
  obtain ⟨h3, h4⟩ := lowM_split [o] E h2
  exact lowM_app _ _ h1 (lowM_app [o'] E (low_good g') h4)
theorem mulS {mh : MH} {i j : Int} (h : j.natAbs < 18446744073709551616) : opR mh .mul (.v (.int i)) (.v (.int j)) = some (.v (.int (i * j))) := by
  have b : Nat.blt j.natAbs 18446744073709551616 = true := Nat.ble_eq.mpr h
  show (if ((Nat.blt i.natAbs 18446744073709551616 || Nat.blt j.natAbs 18446744073709551616) || Nat.blt (i.natAbs.log2 + j.natAbs.log2) 1000000) = true then some (R.v (.int (i * j))) else none) = _
  rw [b, Bool.or_true, Bool.true_or, if_pos rfl]
theorem mulS' {mh : MH} {i j : Int} (h : i.natAbs < 18446744073709551616) : opR mh .mul (.v (.int i)) (.v (.int j)) = some (.v (.int (i * j))) := by
  have b : Nat.blt i.natAbs 18446744073709551616 = true := Nat.ble_eq.mpr h
  show (if ((Nat.blt i.natAbs 18446744073709551616 || Nat.blt j.natAbs 18446744073709551616) || Nat.blt (i.natAbs.log2 + j.natAbs.log2) 1000000) = true then some (R.v (.int (i * j))) else none) = _
  rw [b, Bool.true_or, Bool.true_or, if_pos rfl]
theorem log2_le {n k : Nat} (h : n < 2 ^ k) : n.log2 ≤ k := by
  by_cases q : n = 0
  · subst q
    exact Nat.zero_le _
  · have := (Nat.log2_lt q).mpr h
    omega
theorem mulL {mh : MH} {i j : Int} (h1 : i.natAbs < 2 ^ 200) (h2 : j.natAbs < 2 ^ 200) : opR mh .mul (.v (.int i)) (.v (.int j)) = some (.v (.int (i * j))) := by
  have l1 := log2_le h1
  have l2 := log2_le h2
  have b : Nat.blt (i.natAbs.log2 + j.natAbs.log2) 1000000 = true := Nat.ble_eq.mpr (by omega)
  show (if ((Nat.blt i.natAbs 18446744073709551616 || Nat.blt j.natAbs 18446744073709551616) || Nat.blt (i.natAbs.log2 + j.natAbs.log2) 1000000) = true then some (R.v (.int (i * j))) else none) = _
  rw [b, Bool.or_true, if_pos rfl]
theorem modS {mh : MH} {i j : Int} (h : 0 < j) : opR mh .mod (.v (.int i)) (.v (.int j)) = some (.v (.int (i % j))) := if_pos h
theorem fdivS {mh : MH} {i j : Int} (h : 0 < j) (h2 : j.natAbs < 2 ^ 200) : opR mh .fdiv (.v (.int i)) (.v (.int j)) = some (.v (.int (i / j))) := if_pos ⟨h, by have := log2_le h2; omega⟩
theorem addS {mh : MH} {i j : Int} : opR mh .add (.v (.int i)) (.v (.int j)) = some (.v (.int (i + j))) := rfl
theorem subS {mh : MH} {i j : Int} : opR mh .sub (.v (.int i)) (.v (.int j)) = some (.v (.int (i - j))) := rfl
theorem powS {mh : MH} {i : Int} {n : Nat} (h : n ≤ 1000) (h2 : i.natAbs < 2 ^ 64) : opR mh .pow (.v (.int i)) (.v (.int (n : Int))) = some (.v (.int (i ^ n))) := by
  show (if 0 ≤ (n : Int) ∧ (n : Int) ≤ 1000 ∧ i.natAbs < 2 ^ 64 then some (R.v (.int (i ^ (n : Int).toNat))) else none) = _
  rw [if_pos ⟨by omega, by omega, h2⟩, Int.toNat_natCast]
theorem intS {mh : MH} {i : Int} : bltR mh .int [.v (.int i)] = some (.v (.int i)) := rfl
theorem src_at {H E : MH} {a b c : Int} : (H ++ srcO a b c :: E)[H.length]? = some (srcO a b c) := by
  rw [List.getElem?_append_right (Nat.le_refl _), Nat.sub_self]
  rfl
theorem src_set {H E : MH} {o o' : MO} : (H ++ o :: E).set H.length o' = H ++ o' :: E := by
  rw [List.set_append_right _ _ (Nat.le_refl _), Nat.sub_self]
  rfl
theorem ix3 {a b c : D} : L2.atI [a, b, c] 0 = some a ∧ L2.atI [a, b, c] 1 = some b ∧ L2.atI [a, b, c] 2 = some c := ⟨rfl, rfl, rfl⟩
theorem src_ix {C : CallF} {H E : MH} {a b c : Int} {env : Env} {i : Nat} (h : env[0]? = some (some (.ref H.length))) {d : D} (hi : L2.atI [.int a, .int b, .int c] (i : Int) = some d) : ex C (.idx (.var 0) (.cst (.int (i : Int)))) env (H ++ srcO a b c :: E) = some (.v d, H ++ srcO a b c :: E) := by
  rw [ex, ex_var h]
  dsimp only
  rw [ex_cst]
  dsimp only
  have e : idxR (H ++ srcO a b c :: E) (.v (.ref H.length)) (.v (.int (i : Int))) = some d := by
    show (match lstOf (H ++ srcO a b c :: E) H.length with
      | some xs => L2.atI xs (i : Int)
      | none => none) = _
    rw [lstOf, src_at]
    exact hi
  rw [e]
  rfl
theorem st_seti {C : CallF} {o i e : Ex} {env : Env} {mh mh1 mh2 mh3 : MH} {d : D} {n j : Nat} {k : Int} {xs : List D} (h1 : ex C e env mh = some (.v d, mh1)) (h2 : ex C o env mh1 = some (.v (.ref n), mh2)) (h3 : ex C i env mh2 = some (.v (.int k), mh3)) (h4 : mh3[n]? = some (.lst xs)) (h5 : L2.ixN xs.length k = some j) : st C (.seti o i e) env mh = some (.nx, env, mh3.set n (.lst (xs.set j d))) := by
  rw [st, h1]
  dsimp only [box]
  rw [h2]
  dsimp only
  rw [h3]
  dsimp only
  rw [h4]
  dsimp only
  rw [h5]
theorem call_mut {k f : Nat} {fd : FD} {ds : List D} {mh mh2 : MH} {d : D} (hT : T f = some fd) (hn : ds.length = fd.np) (hg : fd.gc = .drop) (hl : mh2.length = mh.length) (hm : Closed mh2) (hd : low 0 d = true)
    {env : Env} (new : MH) (run : sts (call T k) fd.body (ds.map some ++ List.replicate (fd.n - fd.np) none) mh = some (.rt (.v d), env, mh2 ++ new)) : call T (k + 1) f ds mh = some (.v d, mh2) := by
  rw [call, hT]
  dsimp only
  rw [if_pos (by rw [hn]; exact Nat.beq_refl _), run]
  dsimp only
  rw [hg, tidy.eq_def]
  dsimp only
  have t : (mh2 ++ new).take mh.length = mh2 := by rw [← hl]; exact List.take_left
  rw [t, if_pos (show lowM mh.length mh2 = true by rw [← hl]; exact hm)]
  have hl := low_mono (Nat.zero_le mh.length) d hd
  cases d with
  | ref n => rw [low] at hd; cases hd
  | non => rfl
  | bl b => rfl
  | int i => rfl
  | str x => rfl
  | tup ds => dsimp only; rw [if_pos hl]
  | fz ds => dsimp only; rw [if_pos hl]
end K67
set_option Elab.async false
set_option linter.all false
set_option maxRecDepth 100000
set_option maxHeartbeats 400000
/-! K67L2: a pick. -/
namespace K67
open Ev Pl Pl.O
theorem nb {x : Int} (h0 : 0 ≤ x) (h1 : x < 1000000000000000000000000000000) : x.natAbs < 2 ^ 200 := by
  have : x.natAbs < 2 ^ 100 := by omega
  exact Nat.lt_of_lt_of_le this (Nat.pow_le_pow_right (by decide) (by decide))
theorem modB {i j : Int} (h : 0 < j) (h2 : j < 1000000000000000000000000000000) : 0 ≤ i % j ∧ i % j < 1000000000000000000000000000000 := by
  have h3 := Int.emod_nonneg i (show j ≠ 0 by omega)
  have h4 := Int.emod_lt_of_pos i h
  exact ⟨h3, by omega⟩
theorem pick_ok {k : Nat} {H E : MH} {c m : Nat} {o : MO} (hm : Closed (H ++ o :: E)) (g : Good c o) (hc : c ≤ 1000000) (h1 : 1 ≤ m) (h2 : m ≤ 1000) :
    ∃ o' t, Good (c + 1) o' ∧ t < m ∧ call T (k + 1) 59 [.ref H.length, .int (m : Nat)] (H ++ o :: E) = some (.v (.int (t : Nat)), H ++ o' :: E) := by
  have g0 := g
  obtain ⟨a, b, c', rfl, ha, hb, hb2, hc1, hc2⟩ := g
  have mp : (0 : Int) < (m : Int) := by omega
  by_cases ap : 0 < a
  · have t0 := Int.emod_nonneg a (show (m : Int) ≠ 0 by omega)
    have t1 := Int.emod_lt_of_pos a mp
    have q0 : 0 ≤ a / (m : Int) := Int.ediv_nonneg ha (by omega)
    have g' : Good (c + 1) (srcO (a / (m : Int)) b c') := ⟨_, b, c', rfl, q0, hb, hb2, hc1, by omega⟩
    refine ⟨srcO (a / (m : Int)) b c', (a % (m : Int)).toNat, g', by omega, ?_⟩
    have te : (((a % (m : Int)).toNat : Nat) : Int) = a % (m : Int) := Int.toNat_of_nonneg t0
    rw [te]
    refine call_mut (fd := fd59) rfl rfl rfl (by simp) (closed_swap g0 g' hm) rfl [] (env := [some (.ref H.length), some (.int (m : Nat)), none, none, some (.int (a % (m : Int)))]) ?_
    rw [List.append_nil]
    show sts (call T k) fd59.body [some (.ref H.length), some (.int (m : Nat)), none, none, none] _ = _
    have e1 : ∀ mh, cmR mh .gt (.v (.int a)) (.v (.int 0)) = some true := fun mh => by rw [cm_gt, gtR_int, decide_eq_true ap]
    refine sts_rt ((ite_t (ex_cmp (src_ix (i := 0) rfl ix3.1) ex_cst (e1 _))).trans ?_)
    refine (sts_nx (st_asg (ex_op (ex_blt (exr_v (src_ix (i := 0) rfl ix3.1) exr_nil) intS) (ex_var rfl) (modS mp)))).trans ?_
    refine (sts_nx (st_seti (j := 0) (ex_op (src_ix (i := 0) rfl ix3.1) (ex_var rfl) (fdivS mp (by
      have : (m : Int).natAbs < 2 ^ 10 := by omega
      exact Nat.lt_of_lt_of_le this (Nat.pow_le_pow_right (by decide) (by decide))))) (ex_var rfl) ex_cst src_at rfl)).trans ?_
    refine sts_rt ?_
    rw [src_set]
    exact st_ret (ex_var rfl)
  · have g' : Good (c + 1) (srcO a b (c' + 1)) := ⟨a, b, c' + 1, rfl, ha, hb, hb2, by omega, by omega⟩
    have cs : (c' + 1).natAbs < 18446744073709551616 := by omega
    obtain ⟨x1, hx1, x10, x11⟩ : ∃ x : Int, ((b + 61) * (2 * (c' + 1) + 5) * 736338717 + (c' + 1) * (c' + 1) * 90001 + 29) % (10 ^ 25 + 13) = x ∧ 0 ≤ x ∧ x < 1000000000000000000000000000000 := ⟨_, rfl, modB (by decide) (by decide)⟩
    obtain ⟨x2, hx2, x20, x21⟩ : ∃ x : Int, (x1 * x1 + 777 * (c' + 1) + b) % (10 ^ 27 + 103) = x ∧ 0 ≤ x ∧ x < 1000000000000000000000000000000 := ⟨_, rfl, modB (by decide) (by decide)⟩
    obtain ⟨x3, hx3, x30, x31⟩ : ∃ x : Int, (x2 * x2 * 3 + 5 * x2 + (c' + 1)) % (10 ^ 29 + 319) = x ∧ 0 ≤ x ∧ x < 1000000000000000000000000000000 := ⟨_, rfl, modB (by decide) (by decide)⟩
    have t0 := Int.emod_nonneg (x3 / 100003) (show (m : Int) ≠ 0 by omega)
    have t1 := Int.emod_lt_of_pos (x3 / 100003) mp
    refine ⟨srcO a b (c' + 1), ((x3 / 100003) % (m : Int)).toNat, g', by omega, ?_⟩
    have te : ((((x3 / 100003) % (m : Int)).toNat : Nat) : Int) = (x3 / 100003) % (m : Int) := Int.toNat_of_nonneg t0
    rw [te]
    refine call_mut (fd := fd59) rfl rfl rfl (by simp) (closed_swap g0 g' hm) rfl [] (env := [some (.ref H.length), some (.int (m : Nat)), some (.int (c' + 1)), some (.int x3), none]) ?_
    rw [List.append_nil]
    show sts (call T k) fd59.body [some (.ref H.length), some (.int (m : Nat)), none, none, none] _ = _
    have e1 : ∀ mh, cmR mh .gt (.v (.int a)) (.v (.int 0)) = some false := fun mh => by rw [cm_gt, gtR_int, decide_eq_false ap]
    refine (sts_nx (ite_f (ex_cmp (src_ix (i := 0) rfl ix3.1) ex_cst (e1 _)))).trans ?_
    refine (sts_nx (st_seti (j := 2) (ex_op (src_ix (i := 2) rfl ix3.2.2) ex_cst addS) (ex_var rfl) ex_cst src_at rfl)).trans ?_
    rw [src_set]
    show sts (call T k) _ _ (H ++ srcO a b (c' + 1) :: E) = _
    refine (sts_nx (st_asg (src_ix (i := 2) rfl ix3.2.2))).trans ?_
    refine (sts_nx (st_asg (r := .v (.int x1)) (mh1 := H ++ srcO a b (c' + 1) :: E) ?_)).trans ?_
    · refine (ex_op (ex_blt (exr_v (ex_op (ex_op (ex_op (ex_op (ex_op (src_ix (i := 1) rfl ix3.2.1) ex_cst addS) (ex_op (ex_op ex_cst (ex_var rfl) (mulS cs)) ex_cst addS) (mulS (by omega))) ex_cst (mulS (by decide))) (ex_op (ex_op (ex_var rfl) (ex_var rfl) (mulS cs)) ex_cst (mulS (by decide))) addS) ex_cst addS) exr_nil) intS) (ex_op (ex_op ex_cst ex_cst (powS (n := 25) (by decide) (by decide))) ex_cst addS) (modS (by decide))).trans ?_
      rw [hx1]
    refine (sts_nx (st_asg (r := .v (.int x2)) (mh1 := H ++ srcO a b (c' + 1) :: E) ?_)).trans ?_
    · refine (ex_op (ex_blt (exr_v (ex_op (ex_op (ex_op (ex_var rfl) (ex_var rfl) (mulL (nb x10 x11) (nb x10 x11))) (ex_op ex_cst (ex_var rfl) (mulS cs)) addS) (src_ix (i := 1) rfl ix3.2.1) addS) exr_nil) intS) (ex_op (ex_op ex_cst ex_cst (powS (n := 27) (by decide) (by decide))) ex_cst addS) (modS (by decide))).trans ?_
      rw [hx2]
    refine (sts_nx (st_asg (r := .v (.int x3)) (mh1 := H ++ srcO a b (c' + 1) :: E) ?_)).trans ?_
    · refine (ex_op (ex_blt (exr_v (ex_op (ex_op (ex_op (ex_op (ex_var rfl) (ex_var rfl) (mulL (nb x20 x21) (nb x20 x21))) ex_cst (mulS (by decide))) (ex_op ex_cst (ex_var rfl) (mulS' (by decide))) addS) (ex_var rfl) addS) exr_nil) intS) (ex_op (ex_op ex_cst ex_cst (powS (n := 29) (by decide) (by decide))) ex_cst addS) (modS (by decide))).trans ?_
      rw [hx3]
      rfl
    exact sts_rt (st_ret (ex_op (ex_blt (exr_v (ex_op (ex_var rfl) ex_cst (fdivS (by decide) (by decide))) exr_nil) intS) (ex_var rfl) (modS mp)))
end K67
set_option Elab.async false
set_option linter.all false
set_option maxRecDepth 100000
set_option maxHeartbeats 400000
/-! K67L3: drawn worms and ordinals. -/
namespace K67
open Ev Pl Pl.O
theorem st_forR' {C : CallF} {t : Tg} {kd : Kd} {es : List Ex} {b : List St} {env : Env} {mh mh1 : MH} {rs : List R} {lo n : Nat} (h : exr C es env mh = some (rs, mh1)) (h2 : srcR mh1 kd rs = some (.rng (lo : Int) n)) :
    st C (.for_ t kd es b) env mh = loopL (fun x env mh => match asgT t x env with
          | some env => sts C b env mh
          | none => none) (rngD lo n) env mh1 := by
  rw [st, h]
  dsimp only
  rw [h2]
  dsimp only
  rw [loop_run (stat_rngD lo n) (by rw [rngD_len]; rfl)]
  all_goals rfl
theorem ex_append {C : CallF} {a e : Ex} {env : Env} {mh mh1 mh2 : MH} {n : Nat} {d : D} {xs : List D} (h1 : ex C a env mh = some (.v (.ref n), mh1)) (h2 : ex C e env mh1 = some (.v d, mh2)) (h3 : mh2[n]? = some (.lst xs)) (h4 : xs.length < many) : ex C (.mt .append a [e]) env mh = some (.v .non, mh2.set n (.lst (xs ++ [d]))) := by
  rw [ex, h1]
  dsimp only
  rw [exr_v h2 exr_nil]
  dsimp only [mtR]
  rw [h3]
  dsimp only
  rw [if_pos h4]
theorem at_end {A : MH} {o : MO} : (A ++ [o])[A.length]? = some o := by
  rw [List.getElem?_append_right (Nat.le_refl _), Nat.sub_self]
  rfl
theorem set_end {A : MH} {o o' : MO} : (A ++ [o]).set A.length o' = A ++ [o'] := by
  rw [List.set_append_right _ _ (Nat.le_refl _), Nat.sub_self]
  rfl
theorem assoc1 {H E : MH} {o p : MO} : (H ++ o :: E) ++ [p] = H ++ o :: (E ++ [p]) := by rw [List.append_assoc]; rfl
theorem len_swap {H E : MH} {o o' : MO} : (H ++ o' :: E).length = (H ++ o :: E).length := by simp
theorem closed_one {mh : MH} {o : MO} (hm : Closed mh) (h : lowM 0 [o] = true) : Closed (mh ++ [o]) := lowM_app _ _ (lowM_mono (by rw [List.length_append]; omega) _ hm) (lowM_mono (Nat.zero_le _) _ h)
theorem bltR_tuple {mh : MH} {r : R} {xs : List D} (h : seqOf mh r = some xs) : bltR mh .tuple [r] = some (.v (.tup xs)) := by
  show (seqOf mh r).map (fun xs => R.v (.tup xs)) = _
  rw [h]
  rfl
def lwbody : List St := [(.expr (.mt .append (.var 3) [(.call 59 [(.var 0), (.op .add (.var 2) (.cst (.int 1)))] [])]))]
theorem lw_loop {k : Nat} {H E : MH} {L : Option D} {m : Nat} (hmm : m ≤ 100) : ∀ (j lo cc : Nat) (o : MO) (acc : List Nat) (v : Option D), Closed (H ++ o :: E) → Good cc o → cc + j ≤ 1000000 → acc.length + j < 1000 →
    ∃ o' w v', Good (cc + j) o' ∧ Closed (H ++ o' :: E) ∧ w.length = j ∧ (∀ a ∈ w, a ≤ m) ∧ loopL (fun x env mh => match asgT (.nm 4) x env with
          | some env => sts (call T (k + 1)) lwbody env mh
          | none => none) (rngD lo j) [some (.ref H.length), L, some (.int (m : Nat)), some (.ref (H ++ o :: E).length), v] ((H ++ o :: E) ++ [.lst (lD acc)]) = some (.nx, [some (.ref H.length), L, some (.int (m : Nat)), some (.ref (H ++ o' :: E).length), v'], (H ++ o' :: E) ++ [.lst (lD (acc ++ w))])
  | 0, lo, cc, o, acc, v, hm, g, _, _ => ⟨o, [], v, g, hm, rfl, (fun a h => by cases h), by rw [List.append_nil]; rfl⟩
  | j + 1, lo, cc, o, acc, v, hm, g, hc, hl => by
    have cl : Closed ((H ++ o :: E) ++ [.lst (lD acc)]) := closed_one hm (by rw [lowM, low_lD]; rfl)
    rw [assoc1] at cl
    obtain ⟨o1, t, g1, t1, p⟩ := pick_ok (k := k) cl g (by omega) (show 1 ≤ m + 1 by omega) (by omega)
    rw [← assoc1, ← assoc1] at p
    have hm1 : Closed (H ++ o1 :: E) := closed_swap g g1 hm
    obtain ⟨o2, w, v', g2, hm2, w1, w2, r⟩ := lw_loop (L := L) (k := k) hmm j (lo + 1) (cc + 1) o1 (acc ++ [t]) (some (.int (lo : Nat))) hm1 g1 (by omega) (by rw [List.length_append, List.length_singleton]; omega)
    refine ⟨o2, t :: w, v', by rw [show cc + (j + 1) = cc + 1 + j by omega]; exact g2, hm2, by rw [List.length_cons, w1], fun a ha => ?_, ?_⟩
    · rcases List.mem_cons.mp ha with rfl | ha
      · omega
      · exact w2 a ha
    · rw [rngD]
      have r : loopL _ (rngD (lo + 1) j) _ _ = _ := r
      have e : acc ++ t :: w = acc ++ [t] ++ w := by rw [List.append_assoc]; rfl
      rw [e]
      have le : (H ++ o1 :: E).length = (H ++ o :: E).length := len_swap
      rw [le] at r
      refine (loopL_nx (env' := [some (.ref H.length), L, some (.int (m : Nat)), some (.ref (H ++ o :: E).length), some (.int (lo : Nat))]) (mh' := (H ++ o1 :: E) ++ [.lst (lD (acc ++ [t]))]) ?_).trans r
      show sts (call T (k + 1)) lwbody [some (.ref H.length), L, some (.int (m : Nat)), some (.ref (H ++ o :: E).length), some (.int (lo : Nat))] _ = _
      refine (sts_nx (st_expr (ex_append (ex_var rfl) (ex_call (exs_v (ex_var rfl) (exs_v (ex_op (ex_var rfl) ex_cst (r := .v (.int ((m + 1 : Nat) : Int))) rfl) exs_nil)) p) (xs := lD acc) (by rw [← le]; exact at_end) (by rw [lD_len]; have := m800; omega)))).trans ?_
      rw [sts_nil, ← le, set_end, lD_app]
      rfl
theorem law_worm_ok {k : Nat} {H : MH} {o : MO} {c n m : Nat} (hm : Closed (H ++ [o])) (g : Good c o) (hc : c ≤ 900000) (hn : n ≤ 100) (hmm : m ≤ 100) :
    ∃ o' w, Good (c + n + 1) o' ∧ Closed (H ++ [o']) ∧ w.length ≤ n ∧ (∀ a ∈ w, a ≤ m) ∧ call T (k + 2) 64 [.ref H.length, .int (n : Nat), .int (m : Nat)] (H ++ [o]) = some (.v (wD w), H ++ [o']) := by
  have cl : Closed ((H ++ o :: []) ++ [.lst (lD [])]) := closed_one hm rfl
  rw [assoc1] at cl
  obtain ⟨o1, t, g1, t1, p⟩ := pick_ok (k := k) cl g (by omega) (show 1 ≤ n + 1 by omega) (by omega)
  rw [← assoc1, ← assoc1] at p
  have hm1 : Closed (H ++ [o1]) := closed_swap (E := []) g g1 hm
  obtain ⟨o2, w, v', g2, hm2, w1, w2, r⟩ := lw_loop (L := some (.int (n : Nat))) (k := k) hmm t 0 (c + 1) o1 [] none hm1 g1 (by omega) (by rw [List.length_nil]; omega)
  have mono : ∀ {a b : Nat} {x : MO}, Good a x → a ≤ b → Good b x := fun {a b x} ⟨p, q, s, h0, h1, h2, h3, h4, h5⟩ hab => ⟨p, q, s, h0, h1, h2, h3, h4, by omega⟩
  refine ⟨o2, w, mono g2 (by omega), hm2, by omega, w2, ?_⟩
  have le : (H ++ o1 :: []).length = (H ++ o :: []).length := len_swap
  refine call_mut (fd := fd64) rfl rfl rfl (by simp) hm2 (low_wD 0 _) [.lst (lD w)] (env := [some (.ref H.length), some (.int (n : Nat)), some (.int (m : Nat)), some (.ref (H ++ o2 :: []).length), v']) ?_
  show sts (call T (k + 1)) fd64.body [some (.ref H.length), some (.int (n : Nat)), some (.int (m : Nat)), none, none] _ = _
  unfold fd64
  have m0 : 0 ≤ many := by decide
  have ls : ex (call T (k + 1)) (.lst []) [some (.ref H.length), some (.int (n : Nat)), some (.int (m : Nat)), none, none] (H ++ [o]) = some (.l [], H ++ [o]) := by simp [ex, exs, m0]
  refine (sts_nx (st_asg ls)).trans ?_
  rw [le] at r
  rw [List.nil_append] at r
  have f := (st_forR' (C := call T (k + 1)) (t := .nm 4) (kd := .range1) (es := [(.call 59 [(.var 0), (.op .add (.var 1) (.cst (.int 1)))] [])]) (b := lwbody) (env := [some (.ref H.length), some (.int (n : Nat)), some (.int (m : Nat)), some (.ref (H ++ o :: []).length), none]) (mh := (H ++ o :: []) ++ [.lst (lD [])]) (lo := 0) (n := t) (exr_v (ex_call (exs_v (ex_var rfl) (exs_v (ex_op (ex_var rfl) ex_cst (r := .v (.int ((n + 1 : Nat) : Int))) rfl) exs_nil)) p) exr_nil) (src_r1 t (by omega))).trans r
  refine (sts_nx f).trans (sts_rt (st_ret (ex_blt (exr_v (ex_var rfl) exr_nil) ?_)))
  exact bltR_tuple (by rw [seqOf, lstOf, at_end])
theorem Good.mono {a b : Nat} {x : MO} (h : Good a x) (hab : a ≤ b) : Good b x := by
  obtain ⟨p, q, s, h0, h1, h2, h3, h4, h5⟩ := h
  exact ⟨p, q, s, h0, h1, h2, h3, h4, by omega⟩
def lobody : List St := [(.expr (.mt .append (.var 2) [(.ite (.cmp .gt (.var 1) (.cst (.int 0))) (.call 66 [(.var 0), (.op .sub (.var 1) (.cst (.int 1)))] []) (.tup []))]))]
theorem lo_loop {k d N B : Nat} {H : MH} {P : O → Prop} (hs : ∀ (E : MH) (c : Nat) (o : MO), Closed (H ++ o :: E) → Good c o → c ≤ B → ∃ o' x, Good (c + N) o' ∧ Closed (H ++ o' :: E) ∧ P x ∧ ∀ lo, ex (call T k) (.ite (.cmp .gt (.var 1) (.cst (.int 0))) (.call 66 [(.var 0), (.op .sub (.var 1) (.cst (.int 1)))] []) (.tup [])) [some (.ref H.length), some (.int (d : Nat)), some (.ref (H ++ o :: E).length.pred), lo] (H ++ o :: E) = some (.v (toD x), H ++ o' :: E)) {E : MH} : ∀ (j lo cc : Nat) (o : MO) (acc : List O) (v : Option D), Closed (H ++ o :: E) → Good cc o → cc + j * N ≤ B → acc.length + j < 1000 →
    ∃ o' l v', Good (cc + j * N) o' ∧ Closed (H ++ o' :: E) ∧ l.length = j ∧ (∀ a ∈ l, P a) ∧ loopL (fun x env mh => match asgT (.nm 3) x env with
          | some env => sts (call T k) lobody env mh
          | none => none) (rngD lo j) [some (.ref H.length), some (.int (d : Nat)), some (.ref (H ++ o :: E).length), v] ((H ++ o :: E) ++ [.lst (acc.map toD)]) = some (.nx, [some (.ref H.length), some (.int (d : Nat)), some (.ref (H ++ o' :: E).length), v'], (H ++ o' :: E) ++ [.lst ((acc ++ l).map toD)])
  | 0, lo, cc, o, acc, v, hm, g, _, _ => ⟨o, [], v, by rw [Nat.zero_mul]; exact g, hm, rfl, (fun a h => by cases h), by rw [List.append_nil]; rfl⟩
  | j + 1, lo, cc, o, acc, v, hm, g, hc, hl => by
    rw [Nat.succ_mul] at hc
    have cl : Closed ((H ++ o :: E) ++ [.lst (acc.map toD)]) := closed_app hm acc
    rw [assoc1] at cl
    obtain ⟨o1, x, g1, cl1, hx, p⟩ := hs (E ++ [.lst (acc.map toD)]) cc o cl g (by omega)
    rw [← assoc1, ← assoc1] at p
    have hm1 : Closed (H ++ o1 :: E) := closed_swap g g1 hm
    obtain ⟨o2, l, v', g2, hm2, w1, w2, r⟩ := lo_loop (k := k) hs j (lo + 1) (cc + N) o1 (acc ++ [x]) (some (.int (lo : Nat))) hm1 g1 (by omega) (by rw [List.length_append, List.length_singleton]; omega)
    refine ⟨o2, x :: l, v', by rw [Nat.succ_mul, show cc + (j * N + N) = cc + N + j * N by omega]; exact g2, hm2, by rw [List.length_cons, w1], fun a ha => ?_, ?_⟩
    · rcases List.mem_cons.mp ha with rfl | ha
      · exact hx
      · exact w2 a ha
    · rw [rngD]
      have e : acc ++ x :: l = acc ++ [x] ++ l := by rw [List.append_assoc]; rfl
      rw [e]
      have le : (H ++ o1 :: E).length = (H ++ o :: E).length := len_swap
      rw [le] at r
      refine (loopL_nx (env' := [some (.ref H.length), some (.int (d : Nat)), some (.ref (H ++ o :: E).length), some (.int (lo : Nat))]) (mh' := (H ++ o1 :: E) ++ [.lst ((acc ++ [x]).map toD)]) ?_).trans r
      show sts (call T k) lobody [some (.ref H.length), some (.int (d : Nat)), some (.ref (H ++ o :: E).length), some (.int (lo : Nat))] _ = _
      have p2 := p (some (.int (lo : Nat)))
      rw [List.length_append, List.length_singleton, Nat.pred_succ] at p2
      refine (sts_nx (st_expr (ex_append (ex_var rfl) p2 (xs := acc.map toD) (by rw [← le]; exact at_end) (by rw [List.length_map]; have := m800; omega)))).trans ?_
      rw [sts_nil, ← le, set_end, List.map_append]
      rfl
theorem law_ordinal_ok : ∀ (d : Nat), ∃ N, N ≤ 4 ^ (d + 1) ∧ ∀ (k : Nat) (H E : MH) (c : Nat) (o : MO), d ≤ 2 → Closed (H ++ o :: E) → Good c o → c + 1000 * d ≤ 800000 →
    ∃ o' x, Good (c + N) o' ∧ Closed (H ++ o' :: E) ∧ Dr d x ∧ call T (k + d + 2) 66 [.ref H.length, .int (d : Nat)] (H ++ o :: E) = some (.v (toD x), H ++ o' :: E) := by
  -- from what an item is to the whole
  have fin : ∀ (B k d N : Nat) (P : O → Prop) (H : MH), N ≤ 100 → B ≤ 900000 → (∀ x, P x → W x ∧ dep x ≤ 50) → (∀ (E : MH) (c : Nat) (o : MO), Closed (H ++ o :: E) → Good c o → c ≤ B → ∃ o' x, Good (c + N) o' ∧ Closed (H ++ o' :: E) ∧ P x ∧ ∀ lo, ex (call T (k + 1)) (.ite (.cmp .gt (.var 1) (.cst (.int 0))) (.call 66 [(.var 0), (.op .sub (.var 1) (.cst (.int 1)))] []) (.tup [])) [some (.ref H.length), some (.int (d : Nat)), some (.ref (H ++ o :: E).length.pred), lo] (H ++ o :: E) = some (.v (toD x), H ++ o' :: E)) → ∀ (E : MH) (c : Nat) (o : MO), Closed (H ++ o :: E) → Good c o → c + 1000 ≤ B →
      ∃ o' x, Good (c + (1 + 3 * N)) o' ∧ Closed (H ++ o' :: E) ∧ (W x ∧ len x ≤ 3 ∧ ∀ e ∈ els x, P e) ∧ call T (k + 2) 66 [.ref H.length, .int (d : Nat)] (H ++ o :: E) = some (.v (toD x), H ++ o' :: E) := by
    intro B k d N P H hN hB hP hs E c o hm g hc
    have cl : Closed ((H ++ o :: E) ++ [.lst (([] : List O).map toD)]) := closed_app hm []
    rw [assoc1] at cl
    obtain ⟨o1, t, g1, t1, p⟩ := pick_ok (k := k) cl g (by omega) (show 1 ≤ 4 by decide) (by omega)
    rw [← assoc1, ← assoc1] at p
    have hm1 : Closed (H ++ o1 :: E) := closed_swap g g1 hm
    have tN : t * N ≤ 3 * N := Nat.mul_le_mul_right _ (by omega)
    obtain ⟨o2, l, v', g2, hm2, w1, w2, r⟩ := lo_loop (k := k + 1) hs t 0 (c + 1) o1 [] none hm1 g1 (by omega) (by rw [List.length_nil]; omega)
    rw [List.nil_append] at r
    have le : (H ++ o1 :: E).length = (H ++ o :: E).length := len_swap
    rw [le] at r
    refine ⟨o2, srt l, g2.mono (by omega), hm2, ⟨W_srt fun e he => (hP e (w2 e he)).1, by rw [← len_els, (srt_perm l).length_eq, w1]; omega, fun e he => w2 e ((srt_perm l).mem_iff.mp he)⟩, ?_⟩
    refine call_mut (fd := fd66) rfl rfl rfl len_swap hm2 (low_toD 0 _) [.lst (l.map toD)] (env := [some (.ref H.length), some (.int (d : Nat)), some (.ref (H ++ o2 :: E).length), v']) ?_
    show sts (call T (k + 1)) fd66.body [some (.ref H.length), some (.int (d : Nat)), none, none] _ = _
    unfold fd66
    have m0 : 0 ≤ many := by decide
    have ls : ex (call T (k + 1)) (.lst []) [some (.ref H.length), some (.int (d : Nat)), none, none] (H ++ o :: E) = some (.l [], H ++ o :: E) := by simp [ex, exs, m0]
    refine (sts_nx (st_asg ls)).trans ?_
    have f := (st_forR' (C := call T (k + 1)) (t := .nm 3) (kd := .range1) (es := [(.call 59 [(.var 0), (.cst (.int 4))] [])]) (b := lobody) (env := [some (.ref H.length), some (.int (d : Nat)), some (.ref (H ++ o :: E).length), none]) (mh := (H ++ o :: E) ++ [.lst (([] : List O).map toD)]) (lo := 0) (n := t) (exr_v (ex_call (exs_v (ex_var rfl) (exs_v ex_cst exs_nil)) p) exr_nil) (src_r1 t (by omega))).trans r
    refine (sts_nx f).trans (sts_rt (st_ret (ex_blt (exr_v (ex_blt (exr_v (ex_var rfl) exr_nil) (r := .l (toL (srt l))) ?_) exr_nil) (tuple_l _))))
    have so := sortable_map (l := l) (fun e he => (hP e (w2 e he)).2) (by have := m800; omega)
    show (match seqOf ((H ++ o2 :: E) ++ [.lst (l.map toD)]) (.v (.ref (H ++ o2 :: E).length)) with
      | some xs => if sortable xs then some (R.l (isort ltD xs).reverse) else none
      | none => none) = _
    have sq : seqOf ((H ++ o2 :: E) ++ [.lst (l.map toD)]) (.v (.ref (H ++ o2 :: E).length)) = some (l.map toD) := by
      rw [seqOf, lstOf, at_end]
    rw [sq]
    dsimp only
    rw [so, if_pos rfl, sorted_toD]
  intro d
  induction d with
  | zero =>
    refine ⟨1 + 3 * 0, by decide, fun k H E c o _ hm g hc => ?_⟩
    refine fin 900000 k 0 0 (fun x => x = z) H (by decide) (by decide) (fun x h => by subst h; exact ⟨True.intro, by decide⟩) (fun E c o hm g _ => ⟨o, z, g, hm, rfl, fun lo => ?_⟩) E c o hm g (by omega)
    have e1 : cmR (H ++ o :: E) .gt (.v (.int ((0 : Nat) : Int))) (.v (.int 0)) = some false := by rw [cm_gt, gtR_int]; rfl
    rw [ex_ite (ex_cmp (ex_var (i := 1) rfl) ex_cst e1) rfl, if_neg (by decide)]
    exact emp_z
  | succ d ih =>
    obtain ⟨N, hN, ih⟩ := ih
    by_cases h2 : d + 1 ≤ 2
    · have hN2 : 4 ^ (d + 1) ≤ 16 := Nat.pow_le_pow_right (by decide) h2
      refine ⟨1 + 3 * N, by rw [Nat.pow_succ]; have : 1 ≤ 4 ^ (d + 1) := Nat.one_le_pow _ _ (by decide)
                            omega, fun k H E c o _ hm g hc => ?_⟩
      refine fin (800000 - 1000 * d) (k + (d + 1)) (d + 1) N (Dr d) H (by omega) (by omega) (fun x h => ⟨h.w.1, by have := h.dep; omega⟩) (fun E c o hm g hc => ?_) E c o hm g (by omega)
      obtain ⟨o', x, g', cl', hx, p⟩ := ih k H E c o (by omega) hm g (by omega)
      refine ⟨o', x, g', cl', hx, fun lo => ?_⟩
      have e1 : cmR (H ++ o :: E) .gt (.v (.int ((d + 1 : Nat) : Int))) (.v (.int 0)) = some true := by rw [cm_gt, gtR_int, decide_eq_true (by omega)]
      rw [ex_ite (ex_cmp (ex_var (i := 1) rfl) ex_cst e1) rfl, if_pos rfl]
      refine ex_call (exs_v (ex_var rfl) (exs_v (ex_op (ex_var rfl) ex_cst (r := .v (.int (d : Nat))) ?_) exs_nil)) p
      show some (R.v (.int (((d + 1 : Nat) : Int) - 1))) = _
      have e2 : ((d + 1 : Nat) : Int) - 1 = (d : Nat) := by omega
      rw [e2]
    · exact ⟨0, Nat.zero_le _, fun k H E c o h => absurd h h2⟩
end K67
set_option Elab.async false
set_option linter.all false
set_option maxRecDepth 100000
set_option maxHeartbeats 400000
/-! K67L4: the law's own sums and orders. -/
namespace K67
open Ev Pl Pl.O
theorem ite_et {C : CallF} {c a b : Ex} {env : Env} {mh : MH} (h : ex C c env mh = some (.v (.bl true), mh)) : ex C (.ite c a b) env mh = ex C a env mh := (ex_ite h rfl).trans (if_pos rfl)
theorem ite_ef {C : CallF} {c a b : Ex} {env : Env} {mh : MH} (h : ex C c env mh = some (.v (.bl false), mh)) : ex C (.ite c a b) env mh = ex C b env mh := (ex_ite h rfl).trans (if_neg (by decide))
theorem filt_go {C : CallF} {mh : MH} {E1 E2 : Option D} {b : O} {v : Ex} {own : Nat} {env : Env} (x : O) (hx : dep x ≤ 50) (hb : dep b ≤ 50) (hl : len x ≤ many)
    (h : ∀ e ∈ els x, cturn C v (.nm own) (some (.cmp .ge (.var own) (.idx (.var 1) (.cst (.int 0))))) [own] env (toD e) mh = if e < b then some (none, mh) else some (some (toD e), mh)) :
    compGo (cturn C v (.nm own) (some (.cmp .ge (.var own) (.idx (.var 1) (.cst (.int 0))))) [own] env) (.st (toL x)) (turns mh (.st (toL x))) 0 mh [] = some (toL (filt b x), mh) := by
  rw [comp_pure (fun d => if cmpD d (toD b) = .lt then none else some d) (stat_st _) rfl (by rw [toL_len]; exact hl) (fun d hd => by
    obtain ⟨e, he, rfl⟩ := mem_toL hd
    rw [h e he, cmp_toD]
    by_cases q : e < b
    · rw [if_pos q, if_pos (show cmp e b = .lt from q)]
    · rw [if_neg q, if_neg (show ¬ cmp e b = .lt from q)]), filt_toL]
theorem law_plus_ok {k : Nat} {mh : MH} (hm : Closed mh) {x y : O} (hx : dep x ≤ 50) (hy : dep y ≤ 50) (hl : len x + len y ≤ many) : call T (k + 1) 60 [toD x, toD y] mh = some (.v (toD (plus x y)), mh) := by
  refine call_d (fd := fd60) rfl rfl rfl hm (low_toD 0 _) (env := [some (toD x), some (toD y), none]) ?_
  have e0 : cmR mh .eq (.v (toD y)) (.v (toD z)) = some (decide (y = z)) := eqz hy
  have c0 : ex (call T k) (.cmp .eq (.var 1) (.tup [])) [some (toD x), some (toD y), none] mh = some (.v (.bl (decide (y = z))), mh) := ex_cmp (ex_var rfl) emp_z e0
  refine sts_rt (st_ret ?_)
  cases y with
  | z => exact (ite_et c0).trans (ex_var rfl)
  | c b t =>
    refine (ite_ef c0).trans ?_
    have db : dep b ≤ 50 := dep_els (x := c b t) (by rw [els]; exact List.mem_cons_self) hy
    have g := filt_go (C := call T k) (mh := mh) (E1 := none) (E2 := none) (v := .var 2) (own := 2) (b := b) (env := [some (toD x), some (toD (c b t)), none]) x hx db (by omega) (fun e he => by
      have de := dep_els he hx
      have i0 : ex (call T k) (.idx (.var 1) (.cst (.int 0))) [some (toD x), some (toD (c b t)), some (toD e)] mh = some (.v (toD b), mh) := by
        rw [ex, ex_var (i := 1) rfl]
        dsimp only
        rw [ex_cst]
        dsimp only
        rw [idx0_toD]
        rfl
      have cm : cmR mh .ge (.v (toD e)) (.v (toD b)) = some (decide (b ≤ e)) := by rw [cm_ge, geR_toD de db]
      have xc : exc (call T k) (some (.cmp .ge (.var 2) (.idx (.var 1) (.cst (.int 0))))) [some (toD x), some (toD (c b t)), some (toD e)] mh = some (decide (b ≤ e), mh) := by
        rw [exc, ex_cmp (ex_var rfl) i0 cm]
        rfl
      by_cases q : e < b
      · rw [if_pos q]
        rw [decide_eq_false (by rw [le_def]; exact fun z => z q)] at xc
        exact cturn_none rfl xc
      · rw [if_neg q]
        rw [decide_eq_true (show b ≤ e from q)] at xc
        exact cturn_some (r := .v (toD e)) (mh2 := mh) rfl xc (ex_var rfl))
    have ap : opR mh .add (.v (.tup (toL (filt b x)))) (.v (toD (c b t))) = some (.v (toD (plus x (c b t)))) := add_app (x := filt b x) (y := c b t) (by
      have := (cnt_filt b x).2
      omega)
    exact ex_op (ex_blt (exr_v (ex_comp (rs := [.v (toD x)]) (exr_v (ex_var rfl) exr_nil) (src_toD x) g) exr_nil) (tuple_l _)) (ex_var rfl) ap
def txbody : List St := [(.asg (.nm 2) (.call 60 [(.var 2), (.ite (.cmp .eq (.var 3) (.tup [])) (.var 0) (.tup [(.call 60 [(.idx (.var 0) (.cst (.int 0))), (.var 3)] [])]))] []))]
theorem tup1_toD {C : CallF} {env : Env} {mh : MH} {e : Ex} {x : O} (h : ex C e env mh = some (.v (toD x), mh)) : ex C (.tup [e]) env mh = some (.v (toD (c x z)), mh) := by
  have m1 : 1 ≤ many := by decide
  rw [ex, exs_v h exs_nil]
  dsimp only
  rw [if_pos (by exact m1)]
  rfl
theorem idx0_ex {C : CallF} {env : Env} {mh : MH} {b t : O} {i : Nat} (h : env[i]? = some (some (toD (c b t)))) : ex C (.idx (.var i) (.cst (.int 0))) env mh = some (.v (toD b), mh) := by
  rw [ex, ex_var h]
  dsimp only
  rw [ex_cst]
  dsimp only
  rw [idx0_toD]
  rfl
theorem ltimes_loop {k : Nat} {mh : MH} (hm : Closed mh) {x0 xt : O} {Y : Option D} (hx : dep (c x0 xt) ≤ 50) : ∀ (w acc : O) (v : Option D), dep w ≤ 50 → dep acc ≤ 50 → len acc + len w * len (c x0 xt) + 1 ≤ many → (∀ h ∈ els w, len x0 + len h ≤ many) →
    ∃ v', loopL (fun x env mh => match asgT (.nm 3) x env with
          | some env => sts (call T (k + 1)) txbody env mh
          | none => none) (toL w) [some (toD (c x0 xt)), Y, some (toD acc), v] mh = some (.nx, [some (toD (c x0 xt)), Y, some (toD (timF (c x0 xt) acc w)), v'], mh)
  | z, acc, v, _, _, _, _ => ⟨v, rfl⟩
  | c h t, acc, v, hw, ha, hl, he => by
    have hh : dep h + 1 ≤ 50 := Nat.le_trans (dep_mem (x := c h t) (by rw [els]; exact List.mem_cons_self)) hw
    have ht : dep t ≤ 50 := Nat.le_trans (by rw [dep]; exact Nat.le_max_right _ _) hw
    have lw : len (c h t) = len t + 1 := rfl
    rw [lw, Nat.add_mul, Nat.one_mul] at hl
    have m : 1 ≤ len (c x0 xt) := Nat.succ_le_succ (Nat.zero_le _)
    have l1 := len_plus acc (term (c x0 xt) h)
    have l2 := len_term x0 xt h
    have d2 := dep_term (x := c x0 xt) (h := h) hx hh
    have hx0 : dep x0 ≤ 50 := dep_els (x := c x0 xt) (by rw [els]; exact List.mem_cons_self) hx
    obtain ⟨v', r⟩ := ltimes_loop hm (k := k) (Y := Y) hx t (plus acc (term (c x0 xt) h)) (some (toD h)) ht (dep_plus ha d2) (by omega) (fun a ha => he a (by rw [els]; exact List.mem_cons_of_mem _ ha))
    refine ⟨v', ?_⟩
    rw [toL]
    refine (loopL_nx (env' := [some (toD (c x0 xt)), Y, some (toD (plus acc (term (c x0 xt) h))), some (toD h)]) (mh' := mh) ?_).trans r
    show sts (call T (k + 1)) txbody [some (toD (c x0 xt)), Y, some (toD acc), some (toD h)] mh = _
    have e0 : cmR mh .eq (.v (toD h)) (.v (toD z)) = some (decide (h = z)) := eqz (by omega)
    have c0 : ex (call T (k + 1)) (.cmp .eq (.var 3) (.tup [])) [some (toD (c x0 xt)), Y, some (toD acc), some (toD h)] mh = some (.v (.bl (decide (h = z))), mh) := ex_cmp (ex_var rfl) emp_z e0
    have tm : ex (call T (k + 1)) (.ite (.cmp .eq (.var 3) (.tup [])) (.var 0) (.tup [(.call 60 [(.idx (.var 0) (.cst (.int 0))), (.var 3)] [])])) [some (toD (c x0 xt)), Y, some (toD acc), some (toD h)] mh = some (.v (toD (term (c x0 xt) h)), mh) := by
      cases h with
      | z => exact (ite_et c0).trans (ex_var rfl)
      | c h1 h2 =>
        refine (ite_ef c0).trans ?_
        exact tup1_toD (ex_call (exs_v (idx0_ex rfl) (exs_v (ex_var rfl) exs_nil)) (law_plus_ok (k := k) hm hx0 (by omega) (he _ (by rw [els]; exact List.mem_cons_self))))
    exact (sts_nx (st_asg (ex_call (exs_v (ex_var rfl) (exs_v tm exs_nil)) (law_plus_ok (k := k) hm ha d2 (by omega))))).trans sts_nil
theorem law_times_ok {k : Nat} {mh : MH} (hm : Closed mh) {x y : O} (h : Ook x) (h2 : Ook y) : call T (k + 2) 67 [toD x, toD y] mh = some (.v (toD (times x y)), mh) := by
  have e0 : cmR mh .ne (.v (toD x)) (.v (toD z)) = some (!decide (x = z)) := by
    show (eqR mh (.v (toD x)) (.v (toD z))).map (!·) = _
    rw [eqz h.d]
    rfl
  have c0 : ex (call T (k + 1)) (.cmp .ne (.var 0) (.tup [])) [some (toD x), some (toD y), some (toD z), none] mh = some (.v (.bl (!decide (x = z))), mh) := ex_cmp (ex_var rfl) emp_z e0
  cases x with
  | z =>
    have it : ex (call T (k + 1)) (.ite (.cmp .ne (.var 0) (.tup [])) (.var 1) (.tup [])) [some (toD z), some (toD y), some (toD z), none] mh = some (.v (toD z), mh) := by
      exact (ite_ef c0).trans emp_z
    refine call_d (fd := fd67) rfl rfl rfl hm (low_toD 0 _) (env := [some (toD z), some (toD y), some (toD z), none]) ?_
    refine (sts_nx (st_asg emp_z)).trans ?_
    exact (sts_nx ((st_for (rs := [.v (toD z)]) (xs := toL z) (exr_v it exr_nil) rfl).trans rfl)).trans (sts_rt (st_ret (ex_var rfl)))
  | c x0 xt =>
    have it : ex (call T (k + 1)) (.ite (.cmp .ne (.var 0) (.tup [])) (.var 1) (.tup [])) [some (toD (c x0 xt)), some (toD y), some (toD z), none] mh = some (.v (toD y), mh) := by
      exact (ite_et c0).trans (ex_var rfl)
    obtain ⟨v', r⟩ := ltimes_loop (k := k) hm (Y := some (toD y)) h.d y z none h2.d (by decide) (by
      have a := Nat.mul_le_mul h2.l h.l
      have : (400 * 400 + 1 : Nat) ≤ many := by decide
      rw [show len z = 0 from rfl]
      omega) (fun e he => by
      have a := len_els_le he
      have b : len x0 ≤ cnt (c x0 xt) := len_els_le (by rw [els]; exact List.mem_cons_self)
      have := h.2.1
      have := h2.2.1
      have := m800
      omega)
    refine call_d (fd := fd67) rfl rfl rfl hm (low_toD 0 _) (env := [some (toD (c x0 xt)), some (toD y), some (toD (timF (c x0 xt) z y)), v']) ?_
    refine (sts_nx (st_asg emp_z)).trans ?_
    exact (sts_nx ((st_for (rs := [.v (toD y)]) (xs := toL y) (exr_v it exr_nil) rfl).trans r)).trans (sts_rt (st_ret (ex_var rfl)))
end K67
set_option Elab.async false
set_option linter.all false
set_option maxRecDepth 100000
set_option maxHeartbeats 400000
/-! K67L5: the law's own orders. -/
namespace K67
open Ev Pl Pl.O
theorem comp_at {f : D → MH → Option (Option D × MH)} {src : Src} {xs : List D} {mh : MH} (g : D → D) (hs : ∀ i, nxt mh src i = some xs[i]?)
    (h : ∀ x ∈ xs, f x mh = some (some (g x), mh)) : ∀ (ys : List D) (i F : Nat) (acc : List D), xs.drop i = ys → ys.length < F → acc.length + ys.length ≤ many → compGo f src F i mh acc = some (acc ++ ys.map g, mh)
  | [], i, F + 1, acc, e, _, _ => by
    have hi : xs[i]? = none := by
      rw [List.getElem?_eq_none_iff]
      have := congrArg List.length e
      rw [List.length_drop, List.length_nil] at this
      omega
    rw [compGo, hs i, hi, List.map_nil, List.append_nil]
  | y :: ys, i, F + 1, acc, e, hF, hl => by
    have hi : xs[i]? = some y := by
      have := congrArg (fun l : List D => l[0]?) e
      simpa using this
    have e' : xs.drop (i + 1) = ys := by
      have := congrArg List.tail e
      simpa using this
    have my : y ∈ xs := List.mem_of_getElem? hi
    rw [List.length_cons] at hF hl
    rw [compGo, hs i, hi]
    dsimp only
    rw [h y my]
    dsimp only
    rw [if_pos (by omega), comp_at g hs h ys (i + 1) F (acc ++ [g y]) e' (by omega) (by rw [List.length_append, List.length_singleton]; omega), List.map_cons, List.append_assoc]
    rfl
  | _, _, 0, _, _, hF, _ => absurd hF (Nat.not_lt_zero _)
theorem compL_F {f : D → MH → Option (Option D × MH)} {mh : MH} : ∀ (y : List Nat) (acc : List D), (∀ b ∈ y, f (.int (b : Int)) mh = if b = 0 then some (none, mh) else some (some (.int (b : Int)), mh)) → acc.length + y.length ≤ many → compL f (lD y) mh acc = some (acc ++ lD (y.filter fun b => b != 0), mh)
  | [], acc, _, _ => by rw [lD_nil, compL, List.filter_nil, lD_nil, List.append_nil]
  | b :: t, acc, h, hl => by
    rw [List.length_cons] at hl
    rw [lD_cons, compL, h b List.mem_cons_self]
    by_cases q : b = 0
    · rw [if_pos q]
      dsimp only
      rw [compL_F t acc (fun a ha => h a (List.mem_cons_of_mem _ ha)) (by omega), List.filter_cons, if_neg (by simp [q])]
    · rw [if_neg q]
      dsimp only
      rw [if_pos (by omega), compL_F t (acc ++ [D.int (b : Int)]) (fun a ha => h a (List.mem_cons_of_mem _ ha)) (by rw [List.length_append, List.length_singleton]; omega), List.filter_cons, if_pos (by simp [q]), lD_cons, List.append_assoc]
      rfl
theorem filter_allz : ∀ w : List Nat, (w.filter fun b => b != 0).isEmpty = allz w
  | [] => rfl
  | 0 :: w => filter_allz w
  | (n + 1) :: w => rfl
theorem eqR_lnil {mh : MH} (u : List Nat) : eqR mh (.l (lD u)) (.l []) = some u.isEmpty := by
  have h : (lD u).all (okd deep) = true := okd_lD _ u
  have e1 : pyR mh (.l (lD u)) = some (.list (D.pys (lD u))) := by rw [pyR, if_pos h]
  have e2 : pyR mh (.l []) = some (.list (D.pys [])) := by rw [pyR, if_pos (by rfl)]
  unfold eqR
  rw [e1, e2]
  cases u with
  | nil => rfl
  | cons a u => rfl
theorem zeros_ok {k : Nat} {mh : MH} {w : List Nat} {a b c d e f : Option D} (hl : w.length ≤ many) : ex (call T k) (.cmp .eq (.comp (.var 3) (.nm 3) .seq [(.var 0)] (some (.cmp .gt (.var 3) (.cst (.int 0)))) [3]) (.lst [])) [some (wD w), a, b, c, d, e, f] mh = some (.v (.bl (allz w)), mh) := by
  have g : compGo (cturn (call T k) (.var 3) (.nm 3) (some (.cmp .gt (.var 3) (.cst (.int 0)))) [3] [some (wD w), a, b, c, d, e, f]) (.st (lD w)) (turns mh (.st (lD w))) 0 mh [] = some (lD (w.filter fun b => b != 0), mh) := by
    rw [comp_stat (xs := lD w) (stat_st (lD w)) (lD w) 0 (turns mh (.st (lD w))) mh [] rfl (Nat.lt_succ_self _), compL_F w [] (fun x hx => by
      have cm : cmR mh .gt (.v (.int (x : Int))) (.v (.int 0)) = some (decide (x ≠ 0)) := by
        rw [cm_gt, gtR_int]
        exact congrArg some (decide_eq_decide.mpr (by omega))
      have xc : exc (call T k) (some (.cmp .gt (.var 3) (.cst (.int 0)))) [some (wD w), a, b, some (.int (x : Int)), d, e, f] mh = some (decide (x ≠ 0), mh) := by
        rw [exc, ex_cmp (ex_var rfl) ex_cst cm]
        rfl
      by_cases q : x = 0
      · rw [if_pos q]
        rw [decide_eq_false (by omega)] at xc
        exact cturn_none rfl xc
      · rw [if_neg q]
        rw [decide_eq_true q] at xc
        exact cturn_some (r := .v (.int (x : Int))) (mh2 := mh) rfl xc (ex_var rfl)) (by rw [List.length_nil]; omega), List.nil_append]
  have m0 : 0 ≤ many := by decide
  have ls : ex (call T k) (.lst []) [some (wD w), a, b, c, d, e, f] mh = some (.l [], mh) := by simp [ex, exs, m0]
  refine ex_cmp (ex_comp (rs := [.v (wD w)]) (exr_v (ex_var rfl) exr_nil) (src_wD w) g) ls ?_
  rw [cm_eq, eqR_lnil, filter_allz]
/-- pieces, lowered, and the piece under way -/
def pD : List (List Nat) → List Nat → List Nat → List (List Nat) × List Nat
  | d, cur, [] => (d, cur)
  | d, cur, 0 :: r => pD (d ++ [down cur]) [] r
  | d, cur, (n + 1) :: r => pD d (cur ++ [n + 1]) r
theorem pD_pcs : ∀ (r cur : List Nat) (d : List (List Nat)), pD d cur (r ++ [0]) = (d ++ (pcs cur r).map down, [])
  | [], cur, d => rfl
  | 0 :: r, cur, d => by rw [List.cons_append, pD, pD_pcs r [] (d ++ [down cur]), pcs, List.append_assoc]; rfl
  | (n + 1) :: r, cur, d => by rw [List.cons_append, pD, pD_pcs r (cur ++ [n + 1]) d, pcs]
def gbody2 : List St := [(.ite (.cmp .eq (.var 3) (.cst (.int 0))) [(.expr (.mt .append (.var 1) [(.blt .tuple [(.comp (.op .sub (.var 6) (.cst (.int 1))) (.nm 6) .seq [(.var 2)] none [6])])])), (.asg (.nm 2) (.lst []))] [(.expr (.mt .append (.var 2) [(.var 3)]))])]
theorem g2step0 {C : CallF} {mh : MH} {d : List (List Nat)} {g : MH} {cur : List Nat} {W v4 v5 v6 : Option D} (hl : d.length < many) (hc : cur.length ≤ many) (h1 : ∀ a ∈ cur, 1 ≤ a) :
    sts C gbody2 [W, some (.ref mh.length), some (.ref (mh.length + 1 + g.length)), some (.int (0 : Nat)), v4, v5, v6] (gh mh d g cur) = some (.nx, [W, some (.ref mh.length), some (.ref (mh.length + 1 + (g ++ [MO.lst (lD cur)]).length)), some (.int (0 : Nat)), v4, v5, v6], gh mh (d ++ [down cur]) (g ++ [.lst (lD cur)]) []) := by
  have e : cmR (gh mh d g cur) .eq (.v (.int ((0 : Nat) : Int))) (.v (.int 0)) = some true := by rw [cm_eq, eqR_int]; rfl
  refine (sts_nx ((ite_t (ex_cmp (ex_var (i := 3) rfl) ex_cst e)).trans ?_)).trans sts_nil
  have sr : srcR (gh mh d g cur) .seq [.v (.ref (mh.length + 1 + g.length))] = some (.rf (mh.length + 1 + g.length)) := by
    show (lstOf (gh mh d g cur) (mh.length + 1 + g.length)).map (fun _ => Src.rf (mh.length + 1 + g.length)) = _
    rw [lstOf, gh_here]
    rfl
  have tn : turns (gh mh d g cur) (.rf (mh.length + 1 + g.length)) = (lD cur).length + 1 := by
    show (match lstOf (gh mh d g cur) (mh.length + 1 + g.length) with | some xs => xs.length + 1 | none => 0) = _
    rw [lstOf, gh_here]
  let dn : D → D := fun x => match x with
    | .int i => .int (i - 1)
    | x => x
  have dm : ∀ u : List Nat, (∀ a ∈ u, 1 ≤ a) → (lD u).map dn = lD (down u) := fun u => by
    induction u with
    | nil => intro _; rfl
    | cons a u ih =>
      intro h
      have ha := h a List.mem_cons_self
      rw [lD_cons, List.map_cons, ih (fun b hb => h b (List.mem_cons_of_mem _ hb))]
      show D.int ((a : Int) - 1) :: _ = D.int ((a - 1 : Nat) : Int) :: _
      have e : (a : Int) - 1 = ((a - 1 : Nat) : Int) := by omega
      rw [e]
      rfl
  have cg := comp_at (f := cturn C (.op .sub (.var 6) (.cst (.int 1))) (.nm 6) none [6] [W, some (.ref mh.length), some (.ref (mh.length + 1 + g.length)), some (.int (0 : Nat)), v4, v5, v6]) (src := .rf (mh.length + 1 + g.length)) (xs := lD cur) (mh := gh mh d g cur) dn (fun i => by
    show (lstOf (gh mh d g cur) (mh.length + 1 + g.length)).map (fun xs => xs[i]?) = _
    rw [lstOf, gh_here]
    rfl) (fun x hx => by
      obtain ⟨a, ha, rfl⟩ := List.mem_map.mp hx
      exact cturn_some (r := .v (.int ((a : Int) - 1))) (env' := [W, some (.ref mh.length), some (.ref (mh.length + 1 + g.length)), some (.int (0 : Nat)), v4, v5, some (.int (a : Int))]) rfl rfl (ex_op (ex_var rfl) ex_cst subS)) (lD cur) 0 (turns (gh mh d g cur) (.rf (mh.length + 1 + g.length))) [] rfl (by rw [tn]; exact Nat.lt_succ_self _) (by rw [List.length_nil, Nat.zero_add, lD_len]; exact hc)
  rw [List.nil_append, dm cur h1] at cg
  have tp : ex C (.blt .tuple [(.comp (.op .sub (.var 6) (.cst (.int 1))) (.nm 6) .seq [(.var 2)] none [6])]) [W, some (.ref mh.length), some (.ref (mh.length + 1 + g.length)), some (.int (0 : Nat)), v4, v5, v6] (gh mh d g cur) = some (.v (wD (down cur)), gh mh d g cur) :=
    ex_blt (exr_v (ex_comp (exr_v (ex_var rfl) exr_nil) sr cg) exr_nil) (tuple_l _)
  have f : (d.map wD).length < many := by rw [List.length_map]; exact hl
  refine (sts_nx (st_expr (ex_append (ex_var rfl) tp (gh_found mh d g cur) f))).trans ?_
  rw [gh_setf]
  have m0 : 0 ≤ many := by decide
  have ls : ∀ env mh, ex C (.lst []) env mh = some (.l [], mh) := fun env mh => by simp [ex, exs, m0]
  refine (sts_nx (st_asg (ls _ _))).trans ?_
  rw [sts_nil]
  have l : (gh mh (d ++ [down cur]) g cur).length = mh.length + 1 + (g ++ [MO.lst (lD cur)]).length := by rw [gh_len, List.length_append]; rfl
  dsimp only [box]
  rw [l]
  simp [gh, lD]
theorem g2step1 {C : CallF} {mh : MH} {d : List (List Nat)} {g : MH} {cur : List Nat} {W v4 v5 v6 : Option D} {n : Nat} (hl : cur.length < many) :
    sts C gbody2 [W, some (.ref mh.length), some (.ref (mh.length + 1 + g.length)), some (.int ((n + 1 : Nat) : Int)), v4, v5, v6] (gh mh d g cur) = some (.nx, [W, some (.ref mh.length), some (.ref (mh.length + 1 + g.length)), some (.int ((n + 1 : Nat) : Int)), v4, v5, v6], gh mh d g (cur ++ [n + 1])) := by
  have e : cmR (gh mh d g cur) .eq (.v (.int ((n + 1 : Nat) : Int))) (.v (.int 0)) = some false := by rw [cm_eq, eqR_int, decide_eq_false (by omega)]
  refine (sts_nx ((ite_ff (ex_cmp (ex_var (i := 3) rfl) ex_cst e)).trans ?_)).trans sts_nil
  refine (sts_nx (st_expr (ex_append (ex_var rfl) (ex_var (i := 3) rfl) (gh_here mh d g cur) (by rw [lD_len]; exact hl)))).trans ?_
  rw [gh_seth, sts_nil]
theorem g2loop {C : CallF} {mh : MH} {W v4 v5 v6 : Option D} : ∀ (r cur : List Nat) (d : List (List Nat)) (g : MH) (v : Option D), lowM 0 g = true → (∀ a ∈ cur, 1 ≤ a) → cur.length + r.length < many → d.length + r.length < many →
    ∃ g' v', lowM 0 g' = true ∧ loopL (fun x env mh => match asgT (.nm 3) x env with
          | some env => sts C gbody2 env mh
          | none => none) (lD r) [W, some (.ref mh.length), some (.ref (mh.length + 1 + g.length)), v, v4, v5, v6] (gh mh d g cur) = some (.nx, [W, some (.ref mh.length), some (.ref (mh.length + 1 + g'.length)), v', v4, v5, v6], gh mh (pD d cur r).1 g' (pD d cur r).2)
  | [], cur, d, g, v, hg, _, _, _ => ⟨g, v, hg, rfl⟩
  | 0 :: r, cur, d, g, v, hg, hc, h1, h2 => by
    rw [List.length_cons] at h1 h2
    obtain ⟨g', v', q1, q2⟩ := g2loop (C := C) (W := W) (v4 := v4) (v5 := v5) (v6 := v6) (mh := mh) r [] (d ++ [down cur]) (g ++ [.lst (lD cur)]) (some (.int (0 : Nat))) (lowM_app _ _ hg (by rw [lowM, low_lD]; rfl)) (fun a h => by cases h) (by rw [List.length_nil]; omega) (by rw [List.length_append, List.length_singleton]; omega)
    refine ⟨g', v', q1, ?_⟩
    rw [lD_cons]
    refine (loopL_nx ?_).trans q2
    exact g2step0 (v4 := v4) (v5 := v5) (v6 := v6) (by omega) (by omega) hc
  | (n + 1) :: r, cur, d, g, v, hg, hc, h1, h2 => by
    rw [List.length_cons] at h1 h2
    obtain ⟨g', v', q1, q2⟩ := g2loop (C := C) (W := W) (v4 := v4) (v5 := v5) (v6 := v6) (mh := mh) r (cur ++ [n + 1]) d g (some (.int ((n + 1 : Nat) : Int))) hg (fun a ha => by
      rcases List.mem_append.mp ha with ha | ha
      · exact hc a ha
      · rw [List.mem_singleton] at ha; omega) (by rw [List.length_append, List.length_singleton]; omega) (by omega)
    refine ⟨g', v', q1, ?_⟩
    rw [lD_cons]
    refine (loopL_nx ?_).trans q2
    exact g2step1 (v4 := v4) (v5 := v5) (v6 := v6) (by omega)
def oxbody : List St := [(.asg (.nm 4) (.call 60 [(.var 4), (.tup [(.call 61 [(.var 5)] [])])] []))]
theorem lorder_loop {k f : Nat} {mh : MH} (hm : Closed mh) {W B C' D' v6 : Option D} (hf : f ≤ 40) : ∀ (ps : List (List Nat)) (acc : O) (v : Option D), (∀ p ∈ ps, call T (k + 1) 61 [wD (down p)] mh = some (.v (toD (ordF f (down p))), mh)) → dep acc ≤ f + 2 → len acc + ps.length ≤ many →
    ∃ v', loopL (fun x env mh => match asgT (.nm 5) x env with
          | some env => sts (call T (k + 1)) oxbody env mh
          | none => none) (ps.map fun p => wD (down p)) [W, B, C', D', some (toD acc), v, v6] mh = some (.nx, [W, B, C', D', some (toD (ps.foldl (ostep f) acc)), v', v6], mh)
  | [], acc, v, _, _, _ => ⟨v, rfl⟩
  | p :: ps, acc, v, h, ha, hl => by
    rw [List.length_cons] at hl
    have h1 := h p List.mem_cons_self
    have dp := dep_ordF f (down p)
    have pl := law_plus_ok (k := k) (mh := mh) hm (x := acc) (y := c (ordF f (down p)) z) (by omega) (dep_c1 (by omega)) (by show len acc + 1 ≤ many; omega)
    have l1 := len_plus acc (c (ordF f (down p)) z)
    obtain ⟨v', r⟩ := lorder_loop hm (k := k) (W := W) (B := B) (C' := C') (D' := D') (v6 := v6) hf ps (ostep f acc p) (some (wD (down p))) (fun q hq => h q (List.mem_cons_of_mem _ hq)) (dep_plus ha (dep_c1 (by omega))) (by
      have l2 : len (ostep f acc p) ≤ len acc + 1 := l1
      omega)
    refine ⟨v', ?_⟩
    rw [List.map_cons]
    refine (loopL_nx (env' := [W, B, C', D', some (toD (ostep f acc p)), some (wD (down p)), v6]) (mh' := mh) ?_).trans r
    show sts (call T (k + 1)) oxbody [W, B, C', D', some (toD acc), some (wD (down p)), v6] mh = _
    exact (sts_nx (st_asg (ex_call (exs_v (ex_var rfl) (exs_v (tup1_toD (ex_call (exs_v (ex_var rfl) exs_nil) h1)) exs_nil)) pl))).trans sts_nil
theorem law_order_ok (k : Nat) : ∀ (f : Nat) (w : List Nat) {mh : MH}, Closed mh → (∀ a ∈ w, a ≤ f) → f ≤ 40 → w.length ≤ 1000 → call T (k + f + 2) 61 [wD w] mh = some (.v (toD (ordF f w)), mh) := by
  have zc : ∀ (j f : Nat) (w : List Nat) {mh : MH}, Closed mh → allz w = true → w.length ≤ 1000 → call T (j + 2) 61 [wD w] mh = some (.v (toD (ordF f w)), mh) := fun j f w {mh} hm h hl => by
    rw [ordF_z _ _ h]
    refine call_d (fd := fd61) rfl rfl rfl hm (low_toD 0 _) (env := [some (wD w), none, none, none, none, none, none]) ?_
    have zk := zeros_ok (k := j + 1) (mh := mh) (w := w) (a := none) (b := none) (c := none) (d := none) (e := none) (f := none) (Nat.le_trans hl m800)
    rw [h] at zk
    have rp : opR mh .mul (.v (.tup [toD z])) (.v (.int (w.length : Nat))) = some (.v (toD (rep z w.length))) := by
      show (repT [toD z] (w.length : Nat)).map (fun ys => R.v (.tup ys)) = _
      rw [repT_one z _ hl]
      rfl
    have tz : ex (call T (j + 1)) (.tup [(.tup [])]) [some (wD w), none, none, none, none, none, none] mh = some (.v (.tup [toD z]), mh) := tup1_toD emp_z
    exact sts_rt ((ite_t zk).trans (sts_rt (st_ret (ex_op tz (ex_blt (exr_v (ex_var rfl) exr_nil) (len_wD _)) rp))))
  intro f
  induction f with
  | zero =>
    intro w mh hm hw hf hl
    exact zc k 0 w hm (allz_iff.mpr fun a ha => Nat.le_zero.mp (hw a ha)) hl
  | succ f ih =>
    intro w mh hm hw hf hl
    cases h : allz w with
    | true => exact zc (k + (f + 1)) (f + 1) w hm h hl
    | false =>
      rw [ordF_s _ _ h]
      have m8 := m800
      have m2k : (2000 : Nat) ≤ many := by decide
      have zk := zeros_ok (k := k + f + 2) (mh := mh) (w := w) (a := none) (b := none) (c := none) (d := none) (e := none) (f := none) (Nat.le_trans hl m800)
      rw [h] at zk
      obtain ⟨g', v', q1, q2⟩ := g2loop (C := call T (k + f + 2)) (W := some (wD w)) (v4 := none) (v5 := none) (v6 := none) (mh := mh) (w ++ [0]) [] [] [] none rfl (fun a h => by cases h) (by rw [List.length_nil, List.length_append, List.length_singleton]; omega) (by rw [List.length_nil, List.length_append, List.length_singleton]; omega)
      rw [pD_pcs, List.nil_append] at q2
      have cl : Closed (gh mh ((pcs [] w).map down) g' []) := by
        unfold gh
        refine lowM_app _ _ (lowM_mono (by simp) _ hm) (lowM_mono (Nat.zero_le _) _ ?_)
        rw [lowM, low_ws]
        exact lowM_app _ _ q1 rfl
      have hlen := pcs_lens w []
      rw [List.length_nil, Nat.zero_add] at hlen
      obtain ⟨v5', r⟩ := lorder_loop (k := k + f + 1) (f := f) cl (W := some (wD w)) (B := some (.ref mh.length)) (C' := some (.ref (mh.length + 1 + g'.length))) (D' := v') (v6 := none) (by omega) (pcs [] w).reverse z none (fun q hq => by
        have hq := List.mem_reverse.mp hq
        have m := lens_mem hq
        have g := pcs_mem (P := fun a => 1 ≤ a ∧ a ≤ f + 1) w [] (fun a h => by cases h) (fun a ha h0 => ⟨by omega, hw a ha⟩) q hq
        refine ih (down q) cl (fun a ha => ?_) (by omega) (by rw [len_down]; omega)
        obtain ⟨b, hb, rfl⟩ := List.mem_map.mp ha
        have := (g b hb).2
        omega) (Nat.zero_le _) (by
          have := lens_len (pcs [] w)
          rw [List.length_reverse, show len z = 0 from rfl]
          omega)
      refine call_data (T := T) (fd := fd61) rfl rfl rfl hm (low_toD 0 _) (.lst (((pcs [] w).map down).map wD) :: (g' ++ [.lst (lD [])])) ?_
      show out (sts (call T (k + f + 2)) fd61.body [some (wD w), none, none, none, none, none, none] mh) = some (_, gh mh ((pcs [] w).map down) g' [])
      unfold fd61
      refine (congrArg out (sts_nx (ite_f zk))).trans ?_
      have m0 : 0 ≤ many := by decide
      have pr : st (call T (k + f + 2)) (.par [1, 2] [(.lst []), (.lst [])]) [some (wD w), none, none, none, none, none, none] mh = some (.nx, [some (wD w), some (.ref mh.length), some (.ref (mh.length + 1)), none, none, none, none], gh mh [] [] []) := by
        simp [st, exs, ex, box, setAll, gh, lD]
      refine (congrArg out (sts_nx pr)).trans ?_
      have a0 : ex (call T (k + f + 2)) (.op .add (.var 0) (.tup [(.cst (.int 0))])) [some (wD w), some (.ref mh.length), some (.ref (mh.length + 1)), none, none, none, none] (gh mh [] [] []) = some (.v (wD (w ++ [0])), gh mh [] [] []) :=
        ex_op (ex_var rfl) (tup1 (a := 0) ex_cst) (addN w [0] (by rw [List.length_singleton]; omega))
      refine (congrArg out (sts_nx ((st_for (rs := [.v (wD (w ++ [0]))]) (xs := lD (w ++ [0])) (exr_v a0 exr_nil) rfl).trans q2))).trans ?_
      refine (congrArg out (sts_nx (st_asg emp_z))).trans ?_
      have rv : revR (gh mh ((pcs [] w).map down) g' []) (.v (.ref mh.length)) = some (.l ((pcs [] w).reverse.map fun p => wD (down p))) := by
        show (seqOf (gh mh ((pcs [] w).map down) g' []) (.v (.ref mh.length))).map (fun xs => R.l xs.reverse) = _
        have e : seqOf (gh mh ((pcs [] w).map down) g' []) (.v (.ref mh.length)) = some (((pcs [] w).map down).map wD) := by rw [seqOf, lstOf, gh_found]
        rw [e, List.map_map, List.map_reverse]
        rfl
      have rx : ex (call T (k + f + 2)) (.rev (.var 1)) [some (wD w), some (.ref mh.length), some (.ref (mh.length + 1 + g'.length)), v', some (toD z), none, none] (gh mh ((pcs [] w).map down) g' []) = some (.l ((pcs [] w).reverse.map fun p => wD (down p)), gh mh ((pcs [] w).map down) g' []) := by
        rw [ex, ex_var rfl]
        dsimp only
        rw [rv]
        rfl
      refine (congrArg out (sts_nx ((st_for (rs := [.l ((pcs [] w).reverse.map fun p => wD (down p))]) (xs := (pcs [] w).reverse.map fun p => wD (down p)) (exr_v rx exr_nil) rfl).trans r))).trans ?_
      rw [sts_rt (st_ret (ex_var rfl)), out_rt]
end K67
set_option Elab.async false
set_option linter.all false
set_option maxRecDepth 100000
set_option maxHeartbeats 400000
/-! K67L6: the law's source. -/
namespace K67
open Ev Pl Pl.O
def enumD : Nat → List D → List D
  | _, [] => []
  | lo, x :: xs => .tup [.int (lo : Int), x] :: enumD (lo + 1) xs
theorem enum_at : ∀ (xs : List D) (lo i : Nat), (enumD lo xs)[i]? = (xs[i]?).map fun x => .tup [.int ((lo + i : Nat) : Int), x]
  | [], lo, i => by simp [enumD]
  | x :: xs, lo, 0 => by rw [enumD]; rfl
  | x :: xs, lo, i + 1 => by
    rw [enumD, List.getElem?_cons_succ, List.getElem?_cons_succ, enum_at xs (lo + 1) i, show lo + 1 + i = lo + (i + 1) by omega]
theorem stat_enum (xs : List D) : Stat (.en (.st xs)) (enumD 0 xs) := fun mh i => by
  rw [enum_at]
  show (match nxt mh (.st xs) i with
    | some (some x) => some (some (D.tup [.int i, x]))
    | some none => some none
    | none => none) = _
  rw [stat_st xs mh i, Nat.zero_add]
  cases xs[i]? <;> rfl
theorem enum_len : ∀ (xs : List D) (lo : Nat), (enumD lo xs).length = xs.length
  | [], _ => rfl
  | x :: xs, lo => by rw [enumD, List.length_cons, enum_len xs, List.length_cons]
def slbody : List St := [(.asg (.nm 3) (.op .mod (.blt .int [(.op .add (.op .mul (.var 3) (.cst (.int 1000003))) (.op .mul (.blt .int [(.var 5)]) (.op .add (.op .mul (.cst (.int 2)) (.var 4)) (.cst (.int 3)))))]) (.op .add (.op .pow (.cst (.int 10)) (.cst (.int 21))) (.cst (.int 117)))))]
theorem sl_loop {C : CallF} {mh : MH} {S K O2 v6 : Option D} : ∀ (ns : List Int) (lo : Nat) (y : Int) (v4 v5 : Option D), lo + ns.length ≤ 1000 →
    ∃ y' v4' v5', loopL (fun x env mh => match asgT (.tup [(.nm 4), (.nm 5)]) x env with
          | some env => sts C slbody env mh
          | none => none) (enumD lo (ns.map D.int)) [S, K, O2, some (.int y), v4, v5, v6] mh = some (.nx, [S, K, O2, some (.int y'), v4', v5', v6], mh)
  | [], lo, y, v4, v5, _ => ⟨y, v4, v5, rfl⟩
  | n :: ns, lo, y, v4, v5, h => by
    rw [List.length_cons] at h
    obtain ⟨y', v4', v5', r⟩ := sl_loop (C := C) (mh := mh) (S := S) (K := K) (O2 := O2) (v6 := v6) ns (lo + 1) ((y * 1000003 + n * (2 * (lo : Int) + 3)) % (10 ^ 21 + 117)) (some (.int (lo : Nat))) (some (.int n)) (by omega)
    refine ⟨y', v4', v5', ?_⟩
    rw [List.map_cons, enumD]
    refine (loopL_nx (env' := [S, K, O2, some (.int ((y * 1000003 + n * (2 * (lo : Int) + 3)) % (10 ^ 21 + 117))), some (.int (lo : Nat)), some (.int n), v6]) (mh' := mh) ?_).trans r
    show sts C slbody [S, K, O2, some (.int y), some (.int (lo : Nat)), some (.int n), v6] mh = _
    exact (sts_nx (st_asg (ex_op (ex_blt (exr_v (ex_op (ex_op (ex_var rfl) ex_cst (mulS (by decide))) (ex_op (ex_blt (exr_v (ex_var rfl) exr_nil) intS) (ex_op (ex_op ex_cst (ex_var (i := 4) rfl) (mulS' (by decide))) ex_cst addS) (mulS (by omega))) addS) exr_nil) intS) (ex_op (ex_op ex_cst ex_cst (powS (n := 21) (by decide) (by decide))) ex_cst addS) (modS (by decide))))).trans sts_nil
theorem absS {mh : MH} {i : Int} : bltR mh .abs [.v (.int i)] = some (.v (.int (if i < 0 then -i else i))) := rfl
theorem max2S {mh : MH} {i j : Int} : bltR mh .max2 [.v (.int i), .v (.int j)] = some (.v (.int (if j > i then j else i))) := rfl
theorem min2S {mh : MH} {i j : Int} : bltR mh .min2 [.v (.int i), .v (.int j)] = some (.v (.int (if j < i then j else i))) := rfl
theorem law_source_ok {k : Nat} {mh : MH} (hm : Closed mh) (ns : List Int) (hn : ns.length ≤ 63) (i : Nat) (hi : i ≤ 10) : ∃ a b c : Int, Good 1 (srcO a b c) ∧ call T (k + 1) 58 [.fz (ns.map .int), .int (i : Nat)] mh = some (.l [.int a, .int b, .int c], mh) := by
  have ll : ∀ mh, bltR mh .len [.v (.fz (ns.map D.int))] = some (.v (.int (ns.length : Nat))) := fun mh => by
    show some (R.v (.int ((ns.map D.int).length : Nat))) = _
    rw [List.length_map]
  -- its own number
  obtain ⟨own, ho⟩ : ∃ own : Int, ex (call T k) (.ite (.cmp .lt (.var 1) (.blt .len [(.var 0)])) (.blt .int [(.idx (.var 0) (.var 1))]) (.op .add (.op .mul (.cst (.int 41)) (.var 1)) (.cst (.int 5)))) [some (.fz (ns.map .int)), some (.int (i : Nat)), none, none, none, none, none] mh = some (.v (.int own), mh) := by
    by_cases q : i < ns.length
    · have cm : cmR mh .lt (.v (.int (i : Nat))) (.v (.int (ns.length : Nat))) = some true := by rw [cm_lt, ltR_int, decide_eq_true (by omega)]
      refine ⟨ns[i], (ite_et (ex_cmp (ex_var rfl) (ex_blt (exr_v (ex_var rfl) exr_nil) (ll _)) cm)).trans ?_⟩
      refine ex_blt (exr_v (d := .v (.int ns[i])) (mh1 := mh) ?_ exr_nil) intS
      rw [ex, ex_var (i := 0) rfl]
      dsimp only
      rw [ex_var (i := 1) rfl]
      dsimp only
      have e : idxR mh (.v (.fz (ns.map D.int))) (.v (.int (i : Nat))) = some (.int ns[i]) := by
        show L2.atI (ns.map D.int) (i : Nat) = _
        unfold L2.atI L2.ixN
        rw [List.length_map, if_pos (by omega), if_pos (by omega)]
        simp [q]
      rw [e]
      rfl
    · have cm : cmR mh .lt (.v (.int (i : Nat))) (.v (.int (ns.length : Nat))) = some false := by rw [cm_lt, ltR_int, decide_eq_false (by omega)]
      exact ⟨_, (ite_ef (ex_cmp (ex_var rfl) (ex_blt (exr_v (ex_var rfl) exr_nil) (ll _)) cm)).trans (ex_op (ex_op ex_cst (ex_var rfl) (mulS' (by decide))) ex_cst addS)⟩
  obtain ⟨y', v4', v5', r⟩ := sl_loop (C := call T k) (mh := mh) (S := some (.fz (ns.map .int))) (K := some (.int (i : Nat))) (O2 := some (.int own)) (v6 := none) ns 0 (17 + 3 * (ns.length : Nat)) none none (by omega)
  have am : ∃ a : Int, (if own < 0 then -own else own) = a ∧ 0 ≤ a := ⟨_, rfl, by split <;> omega⟩
  obtain ⟨ab, hab, hab0⟩ := am
  obtain ⟨sg, hsg⟩ : ∃ s : Int, s = (if decide (own < 0) then (1 : Int) else 0) := ⟨_, rfl⟩
  obtain ⟨sd, hsd, sd0, sd1⟩ : ∃ s : Int, (ab * 7351 + 3 * sg + y' * 131 + 1009 * (i : Nat)) % (10 ^ 24 + 7) = s ∧ 0 ≤ s ∧ s < 10000000000000000000000000 := ⟨_, rfl, Int.emod_nonneg _ (by decide), Int.lt_of_lt_of_le (Int.emod_lt_of_pos _ (by decide)) (by decide)⟩
  obtain ⟨tp, htp, tp0⟩ : ∃ a : Int, (if ab - 10 ^ 18 > 0 then ab - 10 ^ 18 else 0) = a ∧ 0 ≤ a := ⟨_, rfl, by split <;> omega⟩
  refine ⟨tp, sd, 1, ⟨tp, sd, 1, rfl, tp0, sd0, sd1, by decide, by decide⟩, ?_⟩
  refine call_list (T := T) (fd := fd58) rfl rfl rfl hm rfl [] _ (.inl rfl) ?_
  rw [List.append_nil]
  show out (sts (call T k) fd58.body [some (.fz (ns.map .int)), some (.int (i : Nat)), none, none, none, none, none] mh) = _
  unfold fd58
  refine (congrArg out (sts_nx (st_asg ho))).trans ?_
  refine (congrArg out (sts_nx (st_asg (ex_op ex_cst (ex_op ex_cst (ex_blt (exr_v (ex_var rfl) exr_nil) (ll _)) (mulS' (by decide))) addS)))).trans ?_
  have f : st (call T k) (.for_ (.tup [(.nm 4), (.nm 5)]) .enum [(.var 0)] slbody) [some (.fz (ns.map .int)), some (.int (i : Nat)), some (.int own), some (.int (17 + 3 * (ns.length : Nat))), none, none, none] mh = some (.nx, [some (.fz (ns.map .int)), some (.int (i : Nat)), some (.int own), some (.int y'), v4', v5', none], mh) := by
    rw [st, exr_v (ex_var (i := 0) rfl) exr_nil]
    dsimp only
    rw [show srcR mh .enum [.v (.fz (ns.map D.int))] = some (.en (.st (ns.map D.int))) from rfl]
    dsimp only
    rw [loop_run (stat_enum (ns.map D.int)) (by rw [enum_len]; rfl)]
    exact r
  refine (congrArg out (sts_nx f)).trans ?_
  have ea : ex (call T k) (.blt .abs [(.var 2)]) [some (.fz (ns.map .int)), some (.int (i : Nat)), some (.int own), some (.int y'), v4', v5', none] mh = some (.v (.int ab), mh) := by
    rw [ex_blt (exr_v (ex_var rfl) exr_nil) absS, hab]
  have lt0 : cmR mh .lt (.v (.int own)) (.v (.int 0)) = some (decide (own < 0)) := by rw [cm_lt, ltR_int]
  have es : ex (call T k) (.blt .int [(.cmp .lt (.var 2) (.cst (.int 0)))]) [some (.fz (ns.map .int)), some (.int (i : Nat)), some (.int own), some (.int y'), v4', v5', none] mh = some (.v (.int sg), mh) := by
    rw [ex_blt (exr_v (ex_cmp (ex_var rfl) ex_cst lt0) exr_nil) (show bltR mh .int [.v (.bl (decide (own < 0)))] = some (.v (.int (if decide (own < 0) then 1 else 0))) from rfl), hsg]
  refine (congrArg out (sts_nx (st_asg (r := .v (.int sd)) (mh1 := mh) ?_))).trans ?_
  · refine (ex_op (ex_blt (exr_v (ex_op (ex_op (ex_op (ex_op ea ex_cst (mulS (by decide))) (ex_op ex_cst es (mulS' (by decide))) addS) (ex_op (ex_var rfl) ex_cst (mulS (by decide))) addS) (ex_op ex_cst (ex_var (i := 1) rfl) (mulS' (by decide))) addS) exr_nil) intS) (ex_op (ex_op ex_cst ex_cst (powS (n := 24) (by decide) (by decide))) ex_cst addS) (modS (by decide))).trans ?_
    rw [hsd]
  have ea2 : ex (call T k) (.blt .abs [(.var 2)]) [some (.fz (ns.map .int)), some (.int (i : Nat)), some (.int own), some (.int y'), v4', v5', some (.int sd)] mh = some (.v (.int ab), mh) := by
    rw [ex_blt (exr_v (ex_var rfl) exr_nil) absS, hab]
  have em : ex (call T k) (.blt .max2 [(.cst (.int 0)), (.op .sub (.blt .abs [(.var 2)]) (.op .pow (.cst (.int 10)) (.cst (.int 18))))]) [some (.fz (ns.map .int)), some (.int (i : Nat)), some (.int own), some (.int y'), v4', v5', some (.int sd)] mh = some (.v (.int tp), mh) := by
    refine (ex_blt (exr_v ex_cst (exr_v (ex_op ea2 (ex_op ex_cst ex_cst (powS (n := 18) (by decide) (by decide))) subS) exr_nil)) max2S).trans ?_
    rw [htp]
  have m3 : 3 ≤ many := by decide
  have el : ex (call T k) (.lst [(.blt .max2 [(.cst (.int 0)), (.op .sub (.blt .abs [(.var 2)]) (.op .pow (.cst (.int 10)) (.cst (.int 18))))]), (.var 6), (.cst (.int 1))]) [some (.fz (ns.map .int)), some (.int (i : Nat)), some (.int own), some (.int y'), v4', v5', some (.int sd)] mh = some (.l [.int tp, .int sd, .int 1], mh) := by
    rw [ex, exs_v em (exs_v (ex_var rfl) (exs_v ex_cst exs_nil))]
    dsimp only
    rw [if_pos (by exact m3)]
  refine (congrArg out (sts_rt (st_ret el))).trans ?_
  rw [out_rt]
end K67
set_option Elab.async false
set_option linter.all false
set_option maxRecDepth 100000
set_option maxHeartbeats 400000
/-! K67L7: the law's sums. -/
namespace K67
open Ev Pl Pl.O
theorem ne_toD {C : CallF} {e1 e2 : Ex} {env : Env} {mh : MH} {x y : O} (h1 : ex C e1 env mh = some (.v (toD x), mh)) (h2 : ex C e2 env mh = some (.v (toD y), mh)) (hx : dep x ≤ 50) (hy : dep y ≤ 50) : ex C (.cmp .ne e1 e2) env mh = some (.v (.bl (!decide (x = y))), mh) := by
  refine ex_cmp h1 h2 ?_
  show (eqR mh (.v (toD x)) (.v (toD y))).map (!·) = _
  rw [eqR_toD hx hy]
  rfl
theorem ne_f {C : CallF} {e1 e2 : Ex} {env : Env} {mh : MH} {x y : O} (h1 : ex C e1 env mh = some (.v (toD x), mh)) (h2 : ex C e2 env mh = some (.v (toD y), mh)) (hx : dep x ≤ 50) (e : x = y) : ex C (.cmp .ne e1 e2) env mh = some (.v (.bl false), mh) := by
  subst e
  rw [ne_toD h1 h2 hx hx, decide_eq_true rfl]
  rfl
theorem eq_t {C : CallF} {e1 e2 : Ex} {env : Env} {mh : MH} {x y : O} (h1 : ex C e1 env mh = some (.v (toD x), mh)) (h2 : ex C e2 env mh = some (.v (toD y), mh)) (hx : dep x ≤ 50) (e : x = y) : ex C (.cmp .eq e1 e2) env mh = some (.v (.bl true), mh) := by
  subst e
  refine ex_cmp h1 h2 ?_
  rw [cm_eq, eqR_toD hx hx, decide_eq_true rfl]
theorem lt_toD {C : CallF} {e1 e2 : Ex} {env : Env} {mh : MH} {x y : O} (h1 : ex C e1 env mh = some (.v (toD x), mh)) (h2 : ex C e2 env mh = some (.v (toD y), mh)) (hx : dep x ≤ 50) (hy : dep y ≤ 50) : ex C (.cmp .lt e1 e2) env mh = some (.v (.bl (decide (x < y))), mh) := ex_cmp h1 h2 (by rw [cm_lt, ltR_toD hx hy])
theorem eqR_bl {mh : MH} (p q : Bool) : eqR mh (.v (.bl p)) (.v (.bl q)) = some (p == q) := by cases p <;> cases q <;> rfl
theorem eq_bl {C : CallF} {e1 e2 : Ex} {env : Env} {mh : MH} {p q : Bool} (h1 : ex C e1 env mh = some (.v (.bl p), mh)) (h2 : ex C e2 env mh = some (.v (.bl q), mh)) : ex C (.cmp .eq e1 e2) env mh = some (.v (.bl (p == q)), mh) := ex_cmp h1 h2 (by rw [cm_eq, eqR_bl])
theorem ne_bl {C : CallF} {e1 e2 : Ex} {env : Env} {mh : MH} {p q : Bool} (h1 : ex C e1 env mh = some (.v (.bl p), mh)) (h2 : ex C e2 env mh = some (.v (.bl q), mh)) : ex C (.cmp .ne e1 e2) env mh = some (.v (.bl (!(p == q))), mh) := by
  refine ex_cmp h1 h2 ?_
  show (eqR mh (.v (.bl p)) (.v (.bl q))).map (!·) = _
  rw [eqR_bl]
  rfl
theorem dplus {x y : O} {n : Nat} (hx : dep x ≤ n) (hy : dep y ≤ n) : dep (plus x y) ≤ n := dep_plus hx hy
theorem sums_right_ok {k : Nat} {mh : MH} (hm : Closed mh) {a b d : O} (ha : Dr 2 a) (hb : Dr 2 b) (hd : Dr 1 d) : call T (k + 18) 68 [toD a, toD b, toD d] mh = some (.v (.bl true), mh) := by
  have wa := ha.w
  have wb := hb.w
  have wd := hd.w
  have ca := ha.c2
  have cb := hb.c2
  have cd := hd.c1
  have da : dep a ≤ 12 := Nat.le_trans ha.dep (by decide)
  have db : dep b ≤ 12 := Nat.le_trans hb.dep (by decide)
  have dd : dep d ≤ 12 := Nat.le_trans hd.dep (by decide)
  have oa : Ook a := ⟨wa.1, by omega, da⟩
  have ob : Ook b := ⟨wb.1, by omega, db⟩
  have od : Ook d := ⟨wd.1, by omega, dd⟩
  have pab : Ook (plus a b) := ⟨W_plus wa.1 wb.1, by have := (cnt_plus a b).1; omega, dplus da db⟩
  have pbd : Ook (plus b d) := ⟨W_plus wb.1 wd.1, by have := (cnt_plus b d).1; omega, dplus db dd⟩
  have lb3 : len b * cnt a ≤ 3 * 40 := Nat.mul_le_mul wb.2 ca
  have ld3 : len d * cnt a ≤ 3 * 40 := Nat.mul_le_mul wd.2 ca
  have tab : Ook (times a b) := ⟨W_times wa.1 wb.1, by have := cnt_times a b; omega, dep_times da db⟩
  have tad : Ook (times a d) := ⟨W_times wa.1 wd.1, by have := cnt_times a d; omega, dep_times da dd⟩
  have nab : Ook (nat a b) := ⟨W_nat wa.1 wb.1, by have := cnt_nat a b; omega, dep_nat da db⟩
  have nbd : Ook (nat b d) := ⟨W_nat wb.1 wd.1, by have := cnt_nat b d; omega, dep_nat db dd⟩
  have la3 : len a * cnt b ≤ 3 * 40 := Nat.mul_le_mul wa.2 cb
  have la4 : len a * cnt d ≤ 3 * 13 := Nat.mul_le_mul wa.2 cd
  have qab : Ook (nprod a b) := ⟨W_nprod wa.1 wb.1, by have := cnt_nprod a b; omega, dep_nprod da db⟩
  have qad : Ook (nprod a d) := ⟨W_nprod wa.1 wd.1, by have := cnt_nprod a d; omega, dep_nprod da dd⟩
  have o1 : Ook (rep z 1) := ⟨W_rz 1, by decide, by decide⟩
  have m8 := m800
  refine call_d (fd := fd68) rfl rfl rfl hm rfl (env := [some (toD a), some (toD b), some (toD d), some (toD b)]) ?_
  let C := call T (k + 17)
  let env : Env := [some (toD a), some (toD b), some (toD d), none]
  show sts C fd68.body env mh = _
  have v0 : ex C (.var 0) env mh = some (.v (toD a), mh) := ex_var rfl
  have v1 : ex C (.var 1) env mh = some (.v (toD b), mh) := ex_var rfl
  have v2 : ex C (.var 2) env mh = some (.v (toD d), mh) := ex_var rfl
  have P : ∀ {env : Env} {e1 e2 : Ex} {x y : O}, ex C e1 env mh = some (.v (toD x), mh) → ex C e2 env mh = some (.v (toD y), mh) → Ook x → Ook y → ex C (.call 34 [e1, e2] []) env mh = some (.v (toD (plus x y)), mh) := fun h1 h2 h3 h4 => ex_call (exs_v h1 (exs_v h2 exs_nil)) (plus_ok hm h3 h4)
  have Ti : ∀ {env : Env} {e1 e2 : Ex} {x y : O}, ex C e1 env mh = some (.v (toD x), mh) → ex C e2 env mh = some (.v (toD y), mh) → Ook x → Ook y → ex C (.call 37 [e1, e2] []) env mh = some (.v (toD (times x y)), mh) := fun h1 h2 h3 h4 => ex_call (exs_v h1 (exs_v h2 exs_nil)) (times_ok hm h3 h4)
  have N : ∀ {env : Env} {e1 e2 : Ex} {x y : O}, ex C e1 env mh = some (.v (toD x), mh) → ex C e2 env mh = some (.v (toD y), mh) → Ook x → Ook y → ex C (.call 35 [e1, e2] []) env mh = some (.v (toD (nat x y)), mh) := fun h1 h2 h3 h4 => ex_call (exs_v h1 (exs_v h2 exs_nil)) (natural_sum_ok hm h3 h4)
  have Q : ∀ {env : Env} {e1 e2 : Ex} {x y : O}, ex C e1 env mh = some (.v (toD x), mh) → ex C e2 env mh = some (.v (toD y), mh) → Ook x → Ook y → ex C (.call 38 [e1, e2] []) env mh = some (.v (toD (nprod x y)), mh) := fun h1 h2 h3 h4 => ex_call (exs_v h1 (exs_v h2 exs_nil)) (natural_product_ok hm h3 h4)
  have M : ∀ {env : Env} {e1 e2 : Ex} {x y : O}, ex C e1 env mh = some (.v (toD x), mh) → ex C e2 env mh = some (.v (toD y), mh) → Ook x → Ook y → ex C (.call 36 [e1, e2] []) env mh = some (.v (match minus x y with | none => .non | some w => toD w), mh) := fun h1 h2 h3 h4 => ex_call (exs_v h1 (exs_v h2 exs_nil)) (minus_ok hm h3 h4)
  have LP : ex C (.call 60 [(.var 0), (.var 1)] []) env mh = some (.v (toD (plus a b)), mh) := ex_call (exs_v v0 (exs_v v1 exs_nil)) (law_plus_ok (k := k + 16) hm oa.d ob.d (by have := oa.l; have := ob.l; omega))
  have LT : ex C (.call 67 [(.var 0), (.var 1)] []) env mh = some (.v (toD (times a b)), mh) := ex_call (exs_v v0 (exs_v v1 exs_nil)) (law_times_ok (k := k + 15) hm oa ob)
  -- sums and products
  have s1 := ne_f (P v0 v1 oa ob) LP pab.d rfl
  have s2 := ne_f (Ti v0 v1 oa ob) LT tab.d rfl
  have s3 := ne_f (P (P v0 v1 oa ob) v2 pab od) (P v0 (P v1 v2 ob od) oa pbd) (dplus pab.d od.d) (plus_assoc wb.1.desc)
  have s4 := ne_f (Ti v0 (P v1 v2 ob od) oa pbd) (P (Ti v0 v1 oa ob) (Ti v0 v2 oa od) tab tad) (dep_times oa.d pbd.d) (times_plus wa.1.desc (fun h t e => by subst e; exact wa.1.1.desc) wb.1.desc)
  refine (sts_nx (ite_f (or_ff s1 (or_ff s2 (or_ff s3 s4))))).trans ?_
  -- natural sums
  have srt1 : ex C (.blt .tuple [(.blt .sortedR [(.op .add (.var 0) (.var 1))])]) env mh = some (.v (toD (nat a b)), mh) := by
    have s := sortedR_t (mh := mh) (l := els a ++ els b) (fun e he => (List.mem_append.mp he).elim (fun h => dep_els h oa.d) (fun h => dep_els h ob.d)) (by rw [List.length_append, len_els, len_els]; have := oa.l; have := ob.l; omega)
    exact ex_blt (exr_v (ex_blt (exr_v (ex_op v0 v1 (add_toD (by have := oa.l; have := ob.l; omega))) exr_nil) s) exr_nil) (tuple_l _)
  have n1 := ne_f (N v0 v1 oa ob) srt1 nab.d rfl
  have n2 := ne_f (N v0 (N v1 v2 ob od) oa nbd) (N (N v0 v1 oa ob) v2 nab od) (dep_nat oa.d nbd.d) (nat_assoc a b d)
  have n3 : ex C (.cmp .gt (.call 34 [(.var 0), (.var 1)] []) (.call 35 [(.var 0), (.var 1)] [])) env mh = some (.v (.bl false), mh) := by
    refine ex_cmp (P v0 v1 oa ob) (N v0 v1 oa ob) ?_
    rw [cm_gt, gtR_toD pab.d nab.d, decide_eq_false (show ¬ nat a b < plus a b from plus_le_nat wa.1.desc wb.1.desc)]
  refine (sts_nx (ite_f (or_ff n1 (or_ff n2 n3)))).trans ?_
  -- natural products
  have q1 := ne_f (Q v0 v1 oa ob) (Q v1 v0 ob oa) qab.d (nprod_comm a b)
  have q2 := ne_f (Q v0 (N v1 v2 ob od) oa nbd) (N (Q v0 v1 oa ob) (Q v0 v2 oa od) qab qad) (dep_nprod oa.d nbd.d) (nprod_nat a b d)
  refine (sts_nx (ite_f (or_ff q1 q2))).trans ?_
  -- differences
  have m1 := M (P v0 v1 oa ob) v0 pab oa
  rw [minus_plus wa.1.desc] at m1
  refine (sts_nx (st_asg m1)).trans ?_
  let env2 : Env := [some (toD a), some (toD b), some (toD d), some (toD b)]
  show sts C _ env2 mh = _
  have u0 : ex C (.var 0) env2 mh = some (.v (toD a), mh) := ex_var rfl
  have u1 : ex C (.var 1) env2 mh = some (.v (toD b), mh) := ex_var rfl
  have u2 : ex C (.var 2) env2 mh = some (.v (toD d), mh) := ex_var rfl
  have u3 : ex C (.var 3) env2 mh = some (.v (toD b), mh) := ex_var rfl
  have d1 := ne_f u3 u1 ob.d rfl
  have m2 := M u0 u1 oa ob
  have lt1 := lt_toD u0 u1 oa.d ob.d
  have d23 : ex C (.or_ (.cmp .ne (.cmp .is_ (.call 36 [(.var 0), (.var 1)] []) (.cst .non)) (.cmp .lt (.var 0) (.var 1))) (.and_ (.cmp .isnot (.call 36 [(.var 0), (.var 1)] []) (.cst .non)) (.cmp .ne (.call 34 [(.var 1), (.call 36 [(.var 0), (.var 1)] [])] []) (.var 0)))) env2 mh = some (.v (.bl false), mh) := by
    by_cases q : a < b
    · have e : minus a b = none := by rw [minus, if_pos q]
      rw [e] at m2
      rw [decide_eq_true q] at lt1
      have i1 : ex C (.cmp .is_ (.call 36 [(.var 0), (.var 1)] []) (.cst .non)) env2 mh = some (.v (.bl true), mh) := ex_cmp m2 ex_cst rfl
      have i2 : ex C (.cmp .isnot (.call 36 [(.var 0), (.var 1)] []) (.cst .non)) env2 mh = some (.v (.bl false), mh) := ex_cmp m2 ex_cst rfl
      exact or_ff (ne_bl i1 lt1) (and_ff i2)
    · have e : minus a b = some (left a b) := by rw [minus, if_neg q]
      rw [e] at m2
      rw [decide_eq_false q] at lt1
      have ol : Ook (left a b) := ⟨(W_left wa.1 b).1, by have := (W_left wa.1 b).2; omega, dep_left da b⟩
      have i1 : ex C (.cmp .is_ (.call 36 [(.var 0), (.var 1)] []) (.cst .non)) env2 mh = some (.v (.bl false), mh) := ex_cmp m2 ex_cst rfl
      have i2 : ex C (.cmp .isnot (.call 36 [(.var 0), (.var 1)] []) (.cst .non)) env2 mh = some (.v (.bl true), mh) := ex_cmp m2 ex_cst rfl
      exact or_ff (ne_bl i1 lt1) (and_tt i2 (ne_f (P u1 m2 ob ol) u0 (dplus ob.d ol.d) (plus_left wa.1.desc wb.1.desc q)))
  refine (sts_nx (ite_f (or_ff d1 d23))).trans ?_
  -- order of sums, units
  have g1 := eq_bl (lt_toD (P u0 u1 oa ob) (P u0 u2 oa od) pab.d (dplus oa.d od.d)) (lt_toD u1 u2 ob.d od.d)
  have e1 : (decide (plus a b < plus a d) == decide (b < d)) = true := by
    rw [decide_eq_decide.mpr (plus_lt_iff wa.1.desc)]
    exact beq_self_eq_true _
  rw [e1] at g1
  have nu : ex C (.call 32 [(.cst (.int 1))] []) env2 mh = some (.v (toD (rep z 1)), mh) := ex_call (exs_v ex_cst exs_nil) (number_ok (k := k + 15) hm 1 (by decide))
  have g2 := eq_t (Ti u0 nu oa o1) u0 (dep_times oa.d o1.d) times_one
  have g3 := eq_t (Ti nu u0 o1 oa) u0 (dep_times o1.d oa.d) (one_times wa.1.desc)
  have oz : Ook z := ⟨True.intro, by decide, by decide⟩
  have g4 := eq_t (P u0 emp_z oa oz) u0 oa.d (plus_z a)
  have g5 := eq_t (P emp_z u0 oz oa) u0 (dplus oz.d oa.d) (z_plus a)
  exact sts_rt (st_ret (and_tt g1 (and_tt g2 (and_tt g3 (and_tt g4 g5)))))
end K67
set_option Elab.async false
set_option linter.all false
set_option maxRecDepth 100000
set_option maxHeartbeats 400000
/-! K67L8: the law's ways to limits. -/
namespace K67
open Ev Pl Pl.O
theorem comp_atF {f : D → MH → Option (Option D × MH)} {src : Src} {xs : List D} {mh : MH} (o : D → Option D) (hs : ∀ i, nxt mh src i = some xs[i]?)
    (h : ∀ x ∈ xs, f x mh = some (o x, mh)) : ∀ (ys : List D) (i F : Nat) (acc : List D), xs.drop i = ys → ys.length < F → acc.length + ys.length ≤ many → compGo f src F i mh acc = some (acc ++ ys.filterMap o, mh)
  | [], i, F + 1, acc, e, _, _ => by
    have hi : xs[i]? = none := by
      rw [List.getElem?_eq_none_iff]
      have := congrArg List.length e
      rw [List.length_drop, List.length_nil] at this
      omega
    rw [compGo, hs i, hi, List.filterMap_nil, List.append_nil]
  | y :: ys, i, F + 1, acc, e, hF, hl => by
    have hi : xs[i]? = some y := by
      have := congrArg (fun l : List D => l[0]?) e
      simpa using this
    have e' : xs.drop (i + 1) = ys := by
      have := congrArg List.tail e
      simpa using this
    have my : y ∈ xs := List.mem_of_getElem? hi
    rw [List.length_cons] at hF hl
    rw [compGo, hs i, hi]
    dsimp only
    rw [h y my, List.filterMap_cons]
    cases o y with
    | none => exact comp_atF o hs h ys (i + 1) F acc e' (by omega) (by omega)
    | some w =>
      dsimp only
      rw [if_pos (by omega), comp_atF o hs h ys (i + 1) F (acc ++ [w]) e' (by omega) (by rw [List.length_append, List.length_singleton]; omega), List.append_assoc]
      rfl
  | _, _, 0, _, _, hF, _ => absurd hF (Nat.not_lt_zero _)
theorem str_ne {C : CallF} {e1 e2 : Ex} {env : Env} {mh : MH} {x y : PySem.Str} {b : Bool} (h1 : ex C e1 env mh = some (.v (.str x), mh)) (h2 : ex C e2 env mh = some (.v (.str y), mh)) (h : cmR mh .ne (.v (.str x)) (.v (.str y)) = some b) : ex C (.cmp .ne e1 e2) env mh = some (.v (.bl b), mh) := ex_cmp h1 h2 h
theorem eqR_str {mh : MH} {x y : PySem.Str} (hx : PySem.PyData.strOk x = true) (hy : PySem.PyData.strOk y = true) : eqR mh (.v (.str x)) (.v (.str y)) = some (x == y) := by
  have e : ∀ z : PySem.Str, PySem.PyData.strOk z = true → pyR mh (.v (.str z)) = some (.str z) := fun z h => by
    rw [pyR]
    · rw [if_pos (by rw [okd]; exact h), D.py]
    all_goals (intros; contradiction)
  unfold eqR
  rw [e x hx, e y hy]
  dsimp only
  rw [PySem.PyData.eqv]
theorem okZ : PySem.PyData.strOk sZero = true := by decide +kernel
theorem okS : PySem.PyData.strOk sSucc = true := by decide +kernel
theorem okL : PySem.PyData.strOk sLim = true := by decide +kernel
theorem neR_str {mh : MH} {x y : PySem.Str} (hx : PySem.PyData.strOk x = true) (hy : PySem.PyData.strOk y = true) {b : Bool} (h : (!(x == y)) = b) : cmR mh .ne (.v (.str x)) (.v (.str y)) = some b := by
  show (eqR mh (.v (.str x)) (.v (.str y))).map (!·) = _
  rw [eqR_str hx hy, ← h]
  rfl
theorem sne_zz {mh : MH} : cmR mh .ne (.v (.str sZero)) (.v (.str sZero)) = some false := neR_str okZ okZ (by decide +kernel)
theorem sne_ss {mh : MH} : cmR mh .ne (.v (.str sSucc)) (.v (.str sSucc)) = some false := neR_str okS okS (by decide +kernel)
theorem sne_ll {mh : MH} : cmR mh .ne (.v (.str sLim)) (.v (.str sLim)) = some false := neR_str okL okL (by decide +kernel)
theorem sne_zl {mh : MH} : cmR mh .ne (.v (.str sZero)) (.v (.str sLim)) = some true := neR_str okZ okL (by decide +kernel)
theorem sne_sl {mh : MH} : cmR mh .ne (.v (.str sSucc)) (.v (.str sLim)) = some true := neR_str okS okL (by decide +kernel)
theorem ne_t {C : CallF} {e1 e2 : Ex} {env : Env} {mh : MH} {x y : O} (h1 : ex C e1 env mh = some (.v (toD x), mh)) (h2 : ex C e2 env mh = some (.v (toD y), mh)) (hx : dep x ≤ 50) (hy : dep y ≤ 50) (e : x ≠ y) : ex C (.cmp .ne e1 e2) env mh = some (.v (.bl true), mh) := by
  rw [ne_toD h1 h2 hx hy, decide_eq_false e]
  rfl
theorem low_tows (a : O) (n : Nat) : ∀ l : List Nat, lowL n (l.map fun i => toD (tow i a)) = true
  | [] => rfl
  | b :: l => by rw [List.map_cons, lowL, low_toD, low_tows a n l]; rfl
theorem dep_app {x y : O} {n : Nat} (hx : dep x ≤ n) (hy : dep y ≤ n) : dep (app x y) ≤ n := dep_le fun e he => by
  rw [els_app] at he
  exact (List.mem_append.mp he).elim (fun h => Nat.le_trans (dep_mem h) hx) fun h => Nat.le_trans (dep_mem h) hy
theorem tow_dep (n : Nat) : ∀ (x : O) (m : Nat), dep x ≤ m → dep (tow n x) ≤ m
  | z, m, h => h
  | c z z, m, h => Nat.zero_le m
  | c (c a b) z, m, h => by
    rw [dep] at h
    have h1 : dep (c a b) + 1 ≤ m := Nat.le_trans (Nat.le_max_left _ _) h
    rw [tow]
    split
    · have := tow_dep n (c a b) (m - 1) (by omega)
      exact dep_c1 (by omega)
    · have := dep_init (x := c a b) (n := m - 1) (by omega)
      exact dep_rep (by omega) n
  | c h (c a b), m, k => by
    rw [dep] at k
    have e : tow n (c h (c a b)) = c h (tow n (c a b)) := by cases h <;> rfl
    rw [e, dep]
    exact Nat.max_le.mpr ⟨Nat.le_trans (Nat.le_max_left _ _) k, tow_dep n (c a b) m (Nat.le_trans (Nat.le_max_right _ _) k)⟩
theorem cut_init2 {C : CallF} {env : Env} {mh : MH} {h t : O} {i : Nat} (e : env[i]? = some (some (toD (c h t)))) : ex C (.slc (.var i) none (some (.op .sub (.cst (.int 0)) (.cst (.int 1))))) env mh = some (.v (toD (init (c h t))), mh) := by
  rw [ex, ex_var e]
  dsimp only
  rw [exo]
  dsimp only
  rw [exo, ex_op ex_cst ex_cst (show opR mh .sub (.v (.int 0)) (.v (.int 1)) = some (.v (.int (-1))) from rfl)]
  dsimp only
  rw [cut_init]
  rfl
def rowD (a : O) : List D := (List.range 8).map fun i => toD (tow i a)
theorem rowD_eq (a : O) : rowD a = [toD (tow 0 a), toD (tow 1 a), toD (tow 2 a), toD (tow 3 a), toD (tow 4 a), toD (tow 5 a), toD (tow 6 a), toD (tow 7 a)] := rfl
theorem toward_right_ok {k : Nat} {mh : MH} (hm : Closed mh) {a b : O} (ha : Dr 2 a) (hb : Dr 2 b) : call T (k + 18) 69 [toD a, toD b] mh = some (.v (.bl true), mh) := by
  have wa := ha.w
  have wb := hb.w
  have ca := ha.c2
  have cb := hb.c2
  have da : dep a ≤ 12 := Nat.le_trans ha.dep (by decide)
  have db : dep b ≤ 12 := Nat.le_trans hb.dep (by decide)
  have oa : Ook a := ⟨wa.1, by omega, da⟩
  have ob : Ook b := ⟨wb.1, by omega, db⟩
  -- the word
  have W1 : ∀ {C : CallF} {mh : MH} {env : Env}, env[0]? = some (some (toD a)) → ex C (.ite (.cmp .eq (.var 0) (.tup [])) (.cst (.str ⟨#[122, 101, 114, 111]⟩)) (.ite (.cmp .eq (.idx (.var 0) (.op .sub (.cst (.int 0)) (.cst (.int 1)))) (.tup [])) (.cst (.str ⟨#[115, 117, 99, 99, 101, 115, 115, 111, 114]⟩)) (.cst (.str ⟨#[108, 105, 109, 105, 116]⟩)))) env mh = some (.v (.str (kindS a)), mh) := by
    intro C mh env h0
    have e0 : cmR mh .eq (.v (toD a)) (.v (toD z)) = some (decide (a = z)) := eqz oa.d
    have c0 := ex_cmp (C := C) (ex_var h0) emp_z e0
    cases a with
    | z => exact (ite_et c0).trans ex_cst
    | c h t =>
      refine (ite_ef c0).trans ?_
      have e1 : cmR mh .eq (.v (toD (lst (c h t)))) (.v (toD z)) = some (decide (lst (c h t) = z)) := eqz (dep_els (lst_mem h t) oa.d)
      have c1 := ex_cmp (C := C) (idxl h0) emp_z e1
      rw [kindS]
      by_cases q : lst (c h t) = z
      · rw [decide_eq_true q] at c1
        rw [if_pos q]
        exact (ite_et c1).trans ex_cst
      · rw [decide_eq_false q] at c1
        rw [if_neg q]
        exact (ite_ef c1).trans ex_cst
  have L1 : ∀ {C : CallF} {mh : MH} {env : Env}, env[0]? = some (some (toD a)) → ex C (.ite (.cmp .ne (.var 0) (.tup [])) (.idx (.var 0) (.op .sub (.cst (.int 0)) (.cst (.int 1)))) (.tup [])) env mh = some (.v (toD (lst a)), mh) := by
    intro C mh env h0
    have c0 := ne_toD (C := C) (mh := mh) (ex_var h0) emp_z oa.d (show dep z ≤ 50 by decide)
    cases a with
    | z => exact (ite_ef c0).trans emp_z
    | c h t => exact (ite_et c0).trans (idxl h0)
  have dl : dep (lst a) ≤ 50 := by
    cases a with
    | z => decide
    | c h t => exact dep_els (lst_mem h t) oa.d
  have sk : ∀ mh, cmR mh .ne (.v (.str (kindS a))) (.v (.str (kindS a))) = some false := fun mh => by
    cases a with
    | z => exact sne_zz
    | c h t =>
      rw [kindS]
      split
      · exact sne_ss
      · exact sne_ll
  let C := call T (k + 17)
  let env0 : Env := [some (toD a), some (toD b), none, none, none, none, none]
  let env1 : Env := [some (toD a), some (toD b), some (.str (kindS a)), none, none, none, none]
  have start : ∀ {r : Option (Fl × Env × MH)} {rest : List St}, sts C rest env1 mh = r → sts C ((.asg (.nm 2) (.ite (.cmp .eq (.var 0) (.tup [])) (.cst (.str ⟨#[122, 101, 114, 111]⟩)) (.ite (.cmp .eq (.idx (.var 0) (.op .sub (.cst (.int 0)) (.cst (.int 1)))) (.tup [])) (.cst (.str ⟨#[115, 117, 99, 99, 101, 115, 115, 111, 114]⟩)) (.cst (.str ⟨#[108, 105, 109, 105, 116]⟩))))) :: (.ite (.or_ (.cmp .ne (.call 39 [(.var 0)] []) (.var 2)) (.cmp .ne (.call 33 [(.var 0)] []) (.ite (.cmp .ne (.var 0) (.tup [])) (.idx (.var 0) (.op .sub (.cst (.int 0)) (.cst (.int 1)))) (.tup [])))) [(.ret (.cst (.bl false)))] []) :: rest) env0 mh = r := by
    intro r rest h
    refine (sts_nx (st_asg (W1 rfl))).trans ?_
    refine (sts_nx (ite_f (or_ff (ex_cmp (ex_call (exs_v (ex_var rfl) exs_nil) (kind_of_ok (k := k + 1) hm oa)) (ex_var rfl) (sk _)) (ne_f (ex_call (exs_v (ex_var rfl) exs_nil) (last_ok (k := k + 1) hm oa)) (L1 rfl) dl rfl)))).trans h
  have T1 : ∀ {mh : MH} (_ : Closed mh) {env : Env} (n : Nat) (_ : n ≤ 20) (_ : env[0]? = some (some (toD a))), ex C (.call 40 [(.var 0), (.cst (.int (n : Nat)))] []) env mh = some (.v (toD (tow n a)), mh) := fun {mh} hm {env} n hn h0 => ex_call (exs_v (ex_var h0) (exs_v ex_cst exs_nil)) (toward_ok (k := k + 1) hm oa n hn)
  have td : ∀ n, dep (tow n a) ≤ 50 := fun n => tow_dep n a 50 oa.d
  cases hl : lim a with
  | false =>
    -- no limit
    have nl : ∀ mh, cmR mh .ne (.v (.str (kindS a))) (.v (.str sLim)) = some true := fun mh => by
      cases a with
      | z => exact sne_zl
      | c h t =>
        rw [lim_lst] at hl
        have q : lst (c h t) = z := by simpa using hl
        rw [kindS, if_pos q]
        exact sne_sl
    have sl : ex C (.slc (.var 0) none (some (.op .sub (.cst (.int 0)) (.cst (.int 1))))) env1 mh = some (.v (toD (init a)), mh) := by
      cases a with
      | z =>
        rw [ex, ex_var rfl]
        dsimp only
        rw [exo]
        dsimp only
        rw [exo, ex_op ex_cst ex_cst (show opR mh .sub (.v (.int 0)) (.v (.int 1)) = some (.v (.int (-1))) from rfl)]
        rfl
      | c h t => exact cut_init2 rfl
    refine call_d (fd := fd69) rfl rfl rfl hm rfl (env := env1) (start ?_)
    exact sts_rt ((ite_t (ex_cmp (ex_var (i := 2) rfl) ex_cst (nl _))).trans (sts_rt (st_ret (eq_t (T1 hm 3 (by decide) rfl) sl (td 3) (tow_init 3 hl)))))
  | true =>
    have nl : ∀ mh, cmR mh .ne (.v (.str (kindS a))) (.v (.str sLim)) = some false := fun mh => by
      cases a with
      | z => cases hl
      | c h t =>
        rw [lim_lst] at hl
        have q : ¬ lst (c h t) = z := by simpa using hl
        rw [kindS, if_neg q]
        exact sne_ll
    let env2 : Env := [some (toD a), some (toD b), some (.str (kindS a)), some (.ref mh.length), none, none, none]
    have rr : rowD a = (List.range 8).map fun i => toD (tow (0 + i) a) := by
      unfold rowD
      refine List.map_congr_left fun i _ => ?_
      rw [Nat.zero_add]
    have cg : ex C (.comp (.call 40 [(.var 0), (.var 4)] []) (.nm 4) .range1 [(.cst (.int 8))] none [4]) env1 mh = some (.l (rowD a), mh) := by
      refine ex_comp (rs := [.v (.int ((8 : Nat) : Int))]) (exr_v ex_cst exr_nil) (src_r1 8 (by decide)) ?_
      rw [comp_stat (stat_rngD 0 8) (rngD 0 8) 0 _ mh [] rfl (by rw [rngD_len]; exact Nat.lt_succ_self _), compL_rng (fun i => toD (tow i a)) 8 0 [] (fun i _ h8 => by
        exact cturn_some (r := .v (toD (tow i a))) (mh2 := mh) (env' := [some (toD a), some (toD b), some (.str (kindS a)), none, some (.int (i : Int)), none, none]) rfl rfl (ex_call (exs_v (ex_var rfl) (exs_v (ex_var rfl) exs_nil)) (toward_ok (k := k + 1) hm oa i (by omega)))) (by decide), List.nil_append, rr]
    have hm2 : Closed (mh ++ [.lst (rowD a)]) := closed_one hm (by rw [lowM]; rw [show lowL 0 (rowD a) = true from low_tows a 0 _]; rfl)
    refine call_data (T := T) (fd := fd69) rfl rfl rfl hm rfl [.lst (rowD a)] ?_
    show out (sts C fd69.body env0 mh) = _
    refine (congrArg out (start ((sts_nx (ite_f (ex_cmp (ex_var (i := 2) rfl) ex_cst (nl _)))).trans (sts_nx (st_asg cg))))).trans ?_
    show out (sts C _ env2 (mh ++ [.lst (rowD a)])) = _
    have sr : seqOf (mh ++ [.lst (rowD a)]) (.v (.ref mh.length)) = some (rowD a) := by rw [seqOf, lstOf, at_end]
    have ri : ∀ (i : Int) (d : D), L2.atI (rowD a) i = some d → idxR (mh ++ [.lst (rowD a)]) (.v (.ref mh.length)) (.v (.int i)) = some d := fun i d h => by
      show (match seqOf (mh ++ [.lst (rowD a)]) (.v (.ref mh.length)) with
        | some xs => L2.atI xs i
        | none => none) = _
      rw [sr]
      exact h
    have rx : ∀ (e : Ex) (i : Int) (d : D), ex C e env2 (mh ++ [.lst (rowD a)]) = some (.v (.int i), mh ++ [.lst (rowD a)]) → L2.atI (rowD a) i = some d → ex C (.idx (.var 3) e) env2 (mh ++ [.lst (rowD a)]) = some (.v d, mh ++ [.lst (rowD a)]) := fun e i d he h => by
      rw [ex, ex_var rfl]
      dsimp only
      rw [he]
      dsimp only
      rw [ri i d h]
      rfl
    -- neighbours rise
    have lt : ∀ i, tow i a < tow (i + 1) a := fun i => (tow_lt i hl).1
    have sl : ex C (.slc (.var 3) (some (.cst (.int 1))) none) env2 (mh ++ [.lst (rowD a)]) = some (.l ((rowD a).drop 1), mh ++ [.lst (rowD a)]) := by
      rw [ex, ex_var rfl]
      dsimp only
      rw [exo, ex_cst]
      dsimp only
      rw [exo]
      dsimp only
      have ct : cutR (mh ++ [.lst (rowD a)]) (.v (.ref mh.length)) (some 1) none = some (.l ((rowD a).drop 1)) := by
        show (seqOf (mh ++ [.lst (rowD a)]) (.v (.ref mh.length))).map (fun xs => R.l (cutD xs (some 1) none)) = _
        rw [sr]
        rfl
      rw [ct]
      rfl
    have sz : srcR (mh ++ [.lst (rowD a)]) .zip [.v (.ref mh.length), .l ((rowD a).drop 1)] = some (.zp (.rf mh.length) (.st ((rowD a).drop 1))) := by
      show (match lsrc (mh ++ [.lst (rowD a)]) (.v (.ref mh.length)), lsrc (mh ++ [.lst (rowD a)]) (.l ((rowD a).drop 1)) with
        | some s, some t => some (Src.zp s t)
        | _, _ => none) = _
      have e : lsrc (mh ++ [.lst (rowD a)]) (.v (.ref mh.length)) = some (.rf mh.length) := by rw [lsrc, lstOf, at_end]; rfl
      rw [e]
      rfl
    have zc : ex C (.comp (.cst (.int 1)) (.tup [(.nm 5), (.nm 6)]) .zip [(.var 3), (.slc (.var 3) (some (.cst (.int 1))) none)] (some (.not_ (.cmp .lt (.var 5) (.var 6)))) [5, 6]) env2 (mh ++ [.lst (rowD a)]) = some (.l [], mh ++ [.lst (rowD a)]) := by
      refine ex_comp (exr_v (ex_var (i := 3) rfl) (exr_v sl exr_nil)) sz ?_
      have nx : ∀ i, nxt (mh ++ [.lst (rowD a)]) (.zp (.rf mh.length) (.st ((rowD a).drop 1))) i = some ((((rowD a).zip ((rowD a).drop 1)).map fun p => D.tup [p.1, p.2])[i]?) := fun i => by
        rw [nxt]
        have e : nxt (mh ++ [.lst (rowD a)]) (.rf mh.length) i = some (rowD a)[i]? := by rw [nxt, lstOf, at_end]; rfl
        rw [e, stat_st ((rowD a).drop 1) _ i, List.getElem?_map, List.zip, List.getElem?_zipWith]
        cases (rowD a)[i]? with
        | none => rfl
        | some u => cases ((rowD a).drop 1)[i]? <;> rfl
      have tn : turns (mh ++ [.lst (rowD a)]) (.zp (.rf mh.length) (.st ((rowD a).drop 1))) = 9 := by
        show turns (mh ++ [.lst (rowD a)]) (.rf mh.length) = 9
        show (match lstOf (mh ++ [.lst (rowD a)]) mh.length with | some xs => xs.length + 1 | none => 0) = 9
        rw [lstOf, at_end]
        rfl
      have r := comp_atF (f := cturn C (.cst (.int 1)) (.tup [(.nm 5), (.nm 6)]) (some (.not_ (.cmp .lt (.var 5) (.var 6)))) [5, 6] env2) (src := .zp (.rf mh.length) (.st ((rowD a).drop 1))) (mh := mh ++ [.lst (rowD a)]) (fun _ => none) nx (fun x hx => by
        have key : ∃ i, x = D.tup [toD (tow i a), toD (tow (i + 1) a)] := by
          rw [rowD_eq] at hx
          simp only [List.drop_succ_cons, List.drop_zero, List.zip_cons_cons, List.zip_nil_right, List.map_cons, List.map_nil, List.mem_cons, List.not_mem_nil, or_false] at hx
          rcases hx with h | h | h | h | h | h | h
          · exact ⟨0, h⟩
          · exact ⟨1, h⟩
          · exact ⟨2, h⟩
          · exact ⟨3, h⟩
          · exact ⟨4, h⟩
          · exact ⟨5, h⟩
          · exact ⟨6, h⟩
        obtain ⟨i, rfl⟩ := key
        have l := lt_toD (C := C) (mh := mh ++ [.lst (rowD a)]) (env := [some (toD a), some (toD b), some (.str (kindS a)), some (.ref mh.length), none, some (toD (tow i a)), some (toD (tow (i + 1) a))]) (ex_var (i := 5) rfl) (ex_var (i := 6) rfl) (td i) (td (i + 1))
        rw [decide_eq_true (lt i)] at l
        have xc : exc C (some (.not_ (.cmp .lt (.var 5) (.var 6)))) [some (toD a), some (toD b), some (.str (kindS a)), some (.ref mh.length), none, some (toD (tow i a)), some (toD (tow (i + 1) a))] (mh ++ [.lst (rowD a)]) = some (false, mh ++ [.lst (rowD a)]) := by
          rw [exc, not_t l]
          rfl
        exact cturn_none rfl xc) _ 0 (turns (mh ++ [.lst (rowD a)]) (.zp (.rf mh.length) (.st ((rowD a).drop 1)))) [] rfl (by rw [tn, rowD_eq]; exact (show (7 : Nat) < 9 by decide)) (by rw [rowD_eq]; exact (show (7 : Nat) ≤ many by decide))
      rw [r]
      simp
    have m0 : 0 ≤ many := by decide
    have ls : ex C (.lst []) env2 (mh ++ [.lst (rowD a)]) = some (.l [], mh ++ [.lst (rowD a)]) := by simp [ex, exs, m0]
    have n0 : cmR (mh ++ [.lst (rowD a)]) .ne (.l []) (.l []) = some false := by
      show (eqR (mh ++ [.lst (rowD a)]) (.l (lD [])) (.l [])).map (!·) = _
      rw [eqR_lnil]
      rfl
    have i7 := rx (.op .sub (.cst (.int 0)) (.cst (.int 1))) (-1) (toD (tow 7 a)) (ex_op ex_cst ex_cst rfl) rfl
    have l7 := lt_toD i7 (ex_var (i := 0) rfl) (td 7) oa.d
    rw [decide_eq_true (tow_lt 7 hl).2] at l7
    refine (congrArg out (sts_nx (ite_f (or_ff (ex_cmp zc ls n0) (not_t l7))))).trans ?_
    have c2 : ex C (.call 40 [(.cst (.int 2)), (.var 0)] [1, 0]) env2 (mh ++ [.lst (rowD a)]) = some (.v (toD (tow 2 a)), mh ++ [.lst (rowD a)]) := ex_callp (exs_v ex_cst (exs_v (ex_var rfl) exs_nil)) rfl (toward_ok (k := k + 1) hm2 oa 2 (by decide))
    have i2 := rx (.cst (.int 2)) 2 (toD (tow 2 a)) ex_cst rfl
    have i5 := rx (.cst (.int 5)) 5 (toD (tow 5 a)) ex_cst rfl
    have l0 := lt_toD (ex_var (C := C) (env := env2) (mh := mh ++ [.lst (rowD a)]) (i := 1) rfl) (T1 hm2 0 (by decide) rfl) ob.d (td 0)
    have l5 := lt_toD (ex_var (C := C) (env := env2) (mh := mh ++ [.lst (rowD a)]) (i := 1) rfl) i5 ob.d (td 5)
    have last : ex C (.or_ (.not_ (.cmp .lt (.var 1) (.call 40 [(.var 0), (.cst (.int 0))] []))) (.cmp .lt (.var 1) (.idx (.var 3) (.cst (.int 5))))) env2 (mh ++ [.lst (rowD a)]) = some (.v (.bl true), mh ++ [.lst (rowD a)]) := by
      by_cases q : b < tow 0 a
      · have q5 : b < tow 5 a := lt_of_lt_of_le q (tow_le hl 0 5)
        rw [decide_eq_true q] at l0
        rw [decide_eq_true q5] at l5
        exact or_ff (not_t l0) l5
      · rw [decide_eq_false q] at l0
        exact or_tt (ex_not l0 rfl)
    refine (congrArg out (sts_rt (st_ret (and_tt (eq_t c2 i2 (td 2) rfl) last)))).trans ?_
    rw [out_rt]
end K67
set_option Elab.async false
set_option linter.all false
set_option maxRecDepth 100000
set_option maxHeartbeats 400000
/-! K67N1: the law, its sums; the rows of orders. -/
namespace K67
open Ev Pl Pl.O
theorem st_par {C : CallF} {is : List Nat} {es : List Ex} {env env' : Env} {mh mh1 : MH} {ds : List D} (h : exs C es env mh = some (ds, mh1)) (h2 : setAll is ds env = some env') : st C (.par is es) env mh = some (.nx, env', mh1) := by
  rw [st, h]
  dsimp only
  rw [h2]
/-- the law's slots: the script, the turn, the source -/
def En (n : Nat) (S K : Option D) (env : Env) : Prop := env.length = 19 ∧ env[0]? = some S ∧ env[1]? = some K ∧ env[2]? = some (some (.ref n))
theorem En.set {n : Nat} {S K : Option D} {env : Env} (h : En n S K env) (i : Nat) (hi : 3 ≤ i) (v : Option D) : En n S K (env.set i v) :=
  ⟨by rw [List.length_set]; exact h.1, by rw [List.getElem?_set_ne (by omega)]; exact h.2.1, by rw [List.getElem?_set_ne (by omega)]; exact h.2.2.1, by rw [List.getElem?_set_ne (by omega)]; exact h.2.2.2⟩
theorem get_set {env : Env} {n : Nat} {S K : Option D} (h : En n S K env) {i : Nat} (hi : i < 19) (v : Option D) : (env.set i v)[i]? = some v := List.getElem?_set_self (by rw [h.1]; exact hi)
def aBody : List St := [(.par [11, 12, 13] [(.call 66 [(.var 2), (.cst (.int 2))] []), (.call 66 [(.var 2), (.cst (.int 2))] []), (.call 66 [(.var 2), (.cst (.int 1))] [])]), (.ite (.or_ (.not_ (.call 68 [(.var 11), (.var 12), (.var 13)] [])) (.not_ (.call 69 [(.var 11), (.var 12)] []))) [(.ret (.cst (.bl false)))] [])]
theorem secA_step {k : Nat} {H : MH} {o : MO} {cc : Nat} {S K : Option D} {env : Env} (hm : Closed (H ++ [o])) (g : Good cc o) (hc : cc ≤ 100000) (en : En H.length S K env) :
    ∃ env' o', En H.length S K env' ∧ Good (cc + 144) o' ∧ Closed (H ++ [o']) ∧ sts (call T (k + 20)) aBody env (H ++ [o]) = some (.nx, env', H ++ [o']) := by
  obtain ⟨N2, hN2, f2⟩ := law_ordinal_ok 2
  obtain ⟨N1, hN1, f1⟩ := law_ordinal_ok 1
  have hN2 : N2 ≤ 64 := hN2
  have hN1 : N1 ≤ 16 := hN1
  obtain ⟨o1, a, g1, m1, ha, e1⟩ := f2 (k + 16) H [] cc o (by decide) hm g (by omega)
  obtain ⟨o2, b, g2, m2, hb, e2⟩ := f2 (k + 16) H [] (cc + N2) o1 (by decide) m1 g1 (by omega)
  obtain ⟨o3, d, g3, m3, hd, e3⟩ := f1 (k + 17) H [] (cc + N2 + N2) o2 (by decide) m2 g2 (by omega)
  have v2 : ∀ mh, ex (call T (k + 20)) (.var 2) env mh = some (.v (.ref H.length), mh) := fun mh => ex_var en.2.2.2
  have p : st (call T (k + 20)) (.par [11, 12, 13] [(.call 66 [(.var 2), (.cst (.int 2))] []), (.call 66 [(.var 2), (.cst (.int 2))] []), (.call 66 [(.var 2), (.cst (.int 1))] [])]) env (H ++ [o]) = some (.nx, ((env.set 11 (some (toD a))).set 12 (some (toD b))).set 13 (some (toD d)), H ++ [o3]) := by
    exact st_par (exs_v (ex_call (exs_v (v2 _) (exs_v ex_cst exs_nil)) e1) (exs_v (ex_call (exs_v (v2 _) (exs_v ex_cst exs_nil)) e2) (exs_v (ex_call (exs_v (v2 _) (exs_v ex_cst exs_nil)) e3) exs_nil))) rfl
  have en1 := en.set 11 (by decide) (some (toD a))
  have en2 := en1.set 12 (by decide) (some (toD b))
  have en3 := en2.set 13 (by decide) (some (toD d))
  have x13 := get_set en2 (i := 13) (by decide) (some (toD d))
  have x12 : (((env.set 11 (some (toD a))).set 12 (some (toD b))).set 13 (some (toD d)))[12]? = some (some (toD b)) := by
    rw [List.getElem?_set_ne (by decide)]
    exact get_set en1 (by decide) _
  have x11 : (((env.set 11 (some (toD a))).set 12 (some (toD b))).set 13 (some (toD d)))[11]? = some (some (toD a)) := by
    rw [List.getElem?_set_ne (by decide), List.getElem?_set_ne (by decide)]
    exact get_set en (by decide) _
  refine ⟨_, o3, en3, g3.mono (by omega), m3, ?_⟩
  refine (sts_nx p).trans ?_
  refine (sts_nx (ite_f (or_ff (not_t (ex_call (exs_v (ex_var x11) (exs_v (ex_var x12) (exs_v (ex_var x13) exs_nil))) (sums_right_ok (k := k + 2) m3 ha hb hd))) (not_t (ex_call (exs_v (ex_var x11) (exs_v (ex_var x12) exs_nil)) (toward_right_ok (k := k + 2) m3 ha hb)))))).trans sts_nil
theorem secA_loop {k : Nat} {H : MH} {S K : Option D} : ∀ (j lo : Nat) (o : MO) (cc : Nat) (env : Env), Closed (H ++ [o]) → Good cc o → cc + j * 144 ≤ 100000 → En H.length S K env →
    ∃ env' o', En H.length S K env' ∧ Good (cc + j * 144) o' ∧ Closed (H ++ [o']) ∧ loopL (fun x env mh => match asgT (.nm 3) x env with
          | some env => sts (call T (k + 20)) aBody env mh
          | none => none) (rngD lo j) env (H ++ [o]) = some (.nx, env', H ++ [o'])
  | 0, lo, o, cc, env, hm, g, _, en => ⟨env, o, en, by rw [Nat.zero_mul]; exact g, hm, rfl⟩
  | j + 1, lo, o, cc, env, hm, g, hc, en => by
    rw [Nat.succ_mul] at hc
    obtain ⟨env1, o1, en1, g1, m1, s1⟩ := secA_step (k := k) hm g (by omega) (en.set 3 (by decide) (some (.int (lo : Int))))
    obtain ⟨env2, o2, en2, g2, m2, s2⟩ := secA_loop (k := k) j (lo + 1) o1 (cc + 144) env1 m1 g1 (by omega) en1
    refine ⟨env2, o2, en2, by rw [Nat.succ_mul, show cc + (j * 144 + 144) = cc + 144 + j * 144 by omega]; exact g2, m2, ?_⟩
    rw [rngD]
    exact (loopL_nx s1).trans s2
/-! ### rows of orders -/
def ofL : List O → O
  | [] => z
  | a :: l => c a (ofL l)
theorem toL_ofL : ∀ l : List O, toL (ofL l) = l.map toD
  | [] => rfl
  | a :: l => by rw [ofL, toL, toL_ofL l]; rfl
theorem dep_ofL {n : Nat} : ∀ l : List O, (∀ a ∈ l, dep a + 1 ≤ n) → dep (ofL l) ≤ n
  | [], _ => Nat.zero_le n
  | a :: l, h => by
    rw [ofL, dep]
    exact Nat.max_le.mpr ⟨h a List.mem_cons_self, dep_ofL l fun b hb => h b (List.mem_cons_of_mem _ hb)⟩
theorem toD_ofL (l : List O) : D.tup (l.map toD) = toD (ofL l) := by rw [toD, toL_ofL]
theorem behs_head : ∀ (k t : Nat) (w : List Nat), ∃ r, behs k t w = w :: r
  | 0, t, w => ⟨[], rfl⟩
  | k + 1, t, [] => ⟨[], rfl⟩
  | k + 1, t, a :: r => ⟨_, rfl⟩
theorem behs_len : ∀ (k t : Nat) (w : List Nat), (behs k t w).length ≤ k + 1
  | 0, t, w => Nat.le_refl _
  | k + 1, t, [] => by show 1 ≤ k + 1 + 1; omega
  | k + 1, t, a :: r => by rw [behs, List.length_cons]; have := behs_len k (t + 1) (nextIn (a :: r) t); omega
theorem falls_zip : ∀ {l : List O}, falls l = true → ∀ p ∈ l.zip (l.drop 1), p.2 < p.1
  | [], _, p, h => by cases h
  | [a], _, p, h => by cases h
  | a :: b :: r, hf, p, h => by
    have hf : (ltb b a && falls (b :: r)) = true := hf
    rw [Bool.and_eq_true_iff] at hf
    rcases List.mem_cons.mp h with rfl | h
    · exact ltb_iff.mp hf.1
    · exact falls_zip hf.2 p h
theorem drop_range {α : Type} (l : List α) (f : Nat → α) (h : ∀ n, n < l.length → l[n]? = some (f n)) : l.drop 1 = (List.range (l.length - 1)).map fun i => f (1 + i) := by
  refine List.ext_getElem? fun i => ?_
  rw [List.getElem?_drop, List.getElem?_map]
  by_cases q : i < l.length - 1
  · rw [List.getElem?_range q, h (1 + i) (by omega)]
    rfl
  · rw [List.getElem?_eq_none (by omega), List.getElem?_eq_none (by rw [List.length_range]; omega)]
    rfl
def bBody : List St := [(.asg (.nm 4) (.call 64 [(.var 2), (.cst (.int 5)), (.cst (.int 3))] [])), (.asg (.nm 5) (.call 51 [(.var 4), (.cst (.int 3))] [])), (.ite (.or_ (.cmp .ne (.idx (.var 5) (.cst (.int 0))) (.call 61 [(.var 4)] [])) (.or_ (.cmp .ne (.comp (.cst (.int 1)) (.tup [(.nm 8), (.nm 9)]) .zip [(.var 5), (.slc (.var 5) (some (.cst (.int 1))) none)] (some (.not_ (.cmp .lt (.var 9) (.var 8)))) [8, 9]) (.lst [])) (.cmp .ne (.slc (.var 5) (some (.cst (.int 1))) none) (.blt .tuple [(.comp (.call 42 [(.call 49 [(.var 4), (.var 18)] [])] []) (.nm 18) .range2 [(.cst (.int 1)), (.blt .len [(.var 5)])] none [18])])))) [(.ret (.cst (.bl false)))] [])]
theorem slcT1 {C : CallF} {env : Env} {mh : MH} {xs : List D} {i : Nat} (h : env[i]? = some (some (.tup xs))) : ex C (.slc (.var i) (some (.cst (.int 1))) none) env mh = some (.v (.tup (xs.drop 1)), mh) := by
  rw [ex, ex_var h]
  dsimp only
  rw [exo, ex_cst]
  dsimp only
  rw [exo]
  dsimp only
  rw [cut1]
  rfl
theorem set_wipe {env : Env} {n : Nat} {S K : Option D} (h : En n S K env) {i j : Nat} {x : Option D} (hj : env[j]? = some x) (hij : i ≠ j) (v : Option D) : (env.set i v)[j]? = some x := by
  rw [List.getElem?_set_ne hij]
  exact hj
theorem secB {k : Nat} {H : MH} {o : MO} {cc : Nat} {S K : Option D} {env : Env} {rest : List St} (hm : Closed (H ++ [o])) (g : Good cc o) (hc : cc ≤ 100000) (en : En H.length S K env) :
    ∃ env' o' w, En H.length S K env' ∧ Good (cc + 6) o' ∧ Closed (H ++ [o']) ∧ w.length ≤ 5 ∧ (∀ a ∈ w, a ≤ 3) ∧ env'[4]? = some (some (wD w)) ∧ sts (call T (k + 20)) (bBody ++ rest) env (H ++ [o]) = sts (call T (k + 20)) rest env' (H ++ [o']) := by
  obtain ⟨o1, w, g1, m1, w5, w3, e1⟩ := law_worm_ok (k := k + 18) (n := 5) (m := 3) hm g (by omega) (by decide) (by decide)
  have bh := allW_of beh1_ok w5 w3
  unfold beh1 at bh
  rw [Bool.and_eq_true_iff, Bool.and_eq_true_iff, List.all_eq_true] at bh
  obtain ⟨b1, b2, b3⟩ := bh
  have b3' : ∀ u ∈ behs 3 1 w, Wok 400 u := fun u hu => letters_iff.mp (b3 u hu)
  have wk : Wok 400 w := ⟨by omega, fun a ha => by have := w3 a ha; omega⟩
  have bl := behs_len 3 1 w
  have e2 := orders_ok (k := k + 10) m1 wk 3 (by decide) b2 (fun u hu => (b3' u hu).m (by decide)) (by omega)
  have e3 := law_order_ok (k + 11) 7 w m1 (fun a ha => by have := w3 a ha; omega) (by decide) (by omega)
  obtain ⟨bs, hbs⟩ := behs_head 3 1 w
  let RR : D := .tup ((behs 3 1 w).map fun w => toD (ord w))
  have en1 := en.set 4 (by decide) (some (wD w))
  have en2 := en1.set 5 (by decide) (some RR)
  let env' := (env.set 4 (some (wD w))).set 5 (some RR)
  have x4 : env'[4]? = some (some (wD w)) := by
    show ((env.set 4 (some (wD w))).set 5 (some RR))[4]? = _
    rw [List.getElem?_set_ne (by decide)]
    exact get_set en (by decide) _
  have x5 : env'[5]? = some (some RR) := get_set en1 (by decide) _
  have Rm : ((behs 3 1 w).map fun w => toD (ord w)) = ((behs 3 1 w).map ord).map toD := by rw [List.map_map]; rfl
  refine ⟨env', o1, w, en2, g1, m1, w5, w3, x4, ?_⟩
  have v2 : ∀ mh, ex (call T (k + 20)) (.var 2) env mh = some (.v (.ref H.length), mh) := fun mh => ex_var en.2.2.2
  refine (sts_nx (st_asg (ex_call (exs_v (v2 _) (exs_v ex_cst (exs_v ex_cst exs_nil))) e1))).trans ?_
  refine (sts_nx (st_asg (ex_call (exs_v (ex_var (get_set en (by decide) _)) (exs_v ex_cst exs_nil)) e2))).trans ?_
  show sts (call T (k + 20)) (_ :: rest) env' (H ++ [o1]) = _
  -- the first one
  have i0 : ex (call T (k + 20)) (.idx (.var 5) (.cst (.int 0))) env' (H ++ [o1]) = some (.v (toD (ord w)), H ++ [o1]) := by
    rw [ex, ex_var x5]
    dsimp only
    rw [ex_cst]
    dsimp only
    have e : idxR (H ++ [o1]) (.v RR) (.v (.int 0)) = some (toD (ord w)) := by
      show L2.atI ((behs 3 1 w).map fun w => toD (ord w)) 0 = _
      rw [hbs, List.map_cons]
      unfold L2.atI L2.ixN
      rw [List.length_cons, if_pos (by decide), if_pos (by omega)]
      rfl
    rw [e]
    rfl
  have d0 := dep_ord w
  have n1 := ne_f i0 (ex_call (exs_v (ex_var x4) exs_nil) e3) (show dep (ord w) ≤ 50 by omega) rfl
  -- they fall
  have sl := slcT1 (C := call T (k + 20)) (mh := H ++ [o1]) x5
  have zc : ex (call T (k + 20)) (.comp (.cst (.int 1)) (.tup [(.nm 8), (.nm 9)]) .zip [(.var 5), (.slc (.var 5) (some (.cst (.int 1))) none)] (some (.not_ (.cmp .lt (.var 9) (.var 8)))) [8, 9]) env' (H ++ [o1]) = some (.l [], H ++ [o1]) := by
    refine ex_comp (exr_v (ex_var x5) (exr_v sl exr_nil)) (show srcR (H ++ [o1]) .zip [.v RR, .v (.tup (((behs 3 1 w).map fun w => toD (ord w)).drop 1))] = some (.zp (.st ((behs 3 1 w).map fun w => toD (ord w))) (.st (((behs 3 1 w).map fun w => toD (ord w)).drop 1))) from rfl) ?_
    rw [comp_pure2 (fun _ => none) (stat_zip _ _) (by
      rw [List.length_map, List.length_zip]
      show _ < ((behs 3 1 w).map fun w => toD (ord w)).length + 1
      omega) (by
      rw [List.length_map, List.length_zip, List.length_map]
      have := m800
      omega) (fun x hx => by
      obtain ⟨p, hp, rfl⟩ := List.mem_map.mp hx
      rw [Rm, ← List.map_drop, List.zip_map] at hp
      obtain ⟨⟨a, b⟩, hp2, rfl⟩ := List.mem_map.mp hp
      have lt := falls_zip b1 (a, b) hp2
      have ma := (List.of_mem_zip hp2).1
      have mb := List.mem_of_mem_drop (List.of_mem_zip hp2).2
      have da : dep a ≤ 50 := by
        obtain ⟨u, _, rfl⟩ := List.mem_map.mp ma
        have := dep_ord u
        omega
      have db : dep b ≤ 50 := by
        obtain ⟨u, _, rfl⟩ := List.mem_map.mp mb
        have := dep_ord u
        omega
      have en8 := en2.set 9 (by decide) none
      have en9 := en8.set 8 (by decide) none
      have en10 := en9.set 8 (by decide) (some (toD a))
      have as : asgT (.tup [(.nm 8), (.nm 9)]) (.tup [toD a, toD b]) (wipeE env' [8, 9]) = some ((((env'.set 9 none).set 8 none).set 8 (some (toD a))).set 9 (some (toD b))) := rfl
      have y9 : ((((env'.set 9 none).set 8 none).set 8 (some (toD a))).set 9 (some (toD b)))[9]? = some (some (toD b)) := get_set en10 (by decide) _
      have y8 : ((((env'.set 9 none).set 8 none).set 8 (some (toD a))).set 9 (some (toD b)))[8]? = some (some (toD a)) := by
        rw [List.getElem?_set_ne (by decide)]
        exact get_set en9 (by decide) _
      have l := lt_toD (C := call T (k + 20)) (mh := H ++ [o1]) (ex_var y9) (ex_var y8) db da
      rw [decide_eq_true (show b < a from lt)] at l
      have xc : exc (call T (k + 20)) (some (.not_ (.cmp .lt (.var 9) (.var 8)))) ((((env'.set 9 none).set 8 none).set 8 (some (toD a))).set 9 (some (toD b))) (H ++ [o1]) = some (false, H ++ [o1]) := by
        rw [exc, not_t l]
        rfl
      exact cturn_none as xc)]
    simp
  have m0 : 0 ≤ many := by decide
  have ls : ex (call T (k + 20)) (.lst []) env' (H ++ [o1]) = some (.l [], H ++ [o1]) := by simp [ex, exs, m0]
  have n0 : cmR (H ++ [o1]) .ne (.l []) (.l []) = some false := by
    show (eqR (H ++ [o1]) (.l (lD [])) (.l [])).map (!·) = _
    rw [eqR_lnil]
    rfl
  -- one by one
  have ln : bltR (H ++ [o1]) .len [.v RR] = some (.v (.int ((1 + ((behs 3 1 w).length - 1) : Nat) : Int))) := by
    show some (R.v (.int (((behs 3 1 w).map fun w => toD (ord w)).length : Nat))) = _
    have : 1 + ((behs 3 1 w).length - 1) = ((behs 3 1 w).map fun w => toD (ord w)).length := by
      rw [List.length_map, hbs, List.length_cons]
      omega
    rw [this]
  have dr : ((behs 3 1 w).map fun w => toD (ord w)).drop 1 = (List.range ((behs 3 1 w).length - 1)).map fun i => toD (ord (lastB (1 + i) 1 w).1) := by
    have h := drop_range ((behs 3 1 w).map fun w => toD (ord w)) (fun n => toD (ord (lastB n 1 w).1)) (fun n hn => by
      rw [List.length_map] at hn
      rw [List.getElem?_map, behs_at 3 1 w n hn]
      rfl)
    rw [List.length_map] at h
    exact h
  have cg : ex (call T (k + 20)) (.comp (.call 42 [(.call 49 [(.var 4), (.var 18)] [])] []) (.nm 18) .range2 [(.cst (.int 1)), (.blt .len [(.var 5)])] none [18]) env' (H ++ [o1]) = some (.l (((behs 3 1 w).map fun w => toD (ord w)).drop 1), H ++ [o1]) := by
    refine ex_comp (exr_v (ex_cst (d := .int ((1 : Nat) : Int))) (exr_v (ex_blt (exr_v (ex_var x5) exr_nil) ln) exr_nil)) (src_r2 1 ((behs 3 1 w).length - 1) (by omega)) ?_
    rw [comp_stat (stat_rngD 1 ((behs 3 1 w).length - 1)) (rngD 1 ((behs 3 1 w).length - 1)) 0 _ (H ++ [o1]) [] rfl (by rw [rngD_len]; exact Nat.lt_succ_self _), compL_rng (fun n => toD (ord (lastB n 1 w).1)) ((behs 3 1 w).length - 1) 1 [] (fun n h1 h2 => by
      have en18 := en2.set 18 (by decide) none
      have y18 : ((env'.set 18 none).set 18 (some (.int (n : Int))))[18]? = some (some (.int (n : Int))) := get_set en18 (by decide) _
      have y4 : ((env'.set 18 none).set 18 (some (.int (n : Int))))[4]? = some (some (wD w)) := by
        rw [List.getElem?_set_ne (by decide), List.getElem?_set_ne (by decide)]
        exact x4
      have bn : n < (behs 3 1 w).length := by omega
      have mem : (lastB n 1 w).1 ∈ behs 3 1 w := List.mem_of_getElem? (behs_at 3 1 w n bn)
      exact cturn_some (r := .v (toD (ord (lastB n 1 w).1))) (mh1 := H ++ [o1]) (mh2 := H ++ [o1]) (env' := (env'.set 18 none).set 18 (some (.int (n : Int)))) rfl rfl (ex_call (exs_v (ex_call (exs_v (ex_var y4) (exs_v (ex_var y18) exs_nil)) (behind_ok (k := k + 15) m1 wk n (by omega) (wayOk_le (by omega) b2))) exs_nil) (order_ok (k := k + 10) m1 (b3' _ mem)))) (by rw [List.length_nil]; have := m800; omega), List.nil_append, dr]
  have dd : ((behs 3 1 w).map fun w => toD (ord w)).drop 1 = (((behs 3 1 w).map ord).drop 1).map toD := by rw [Rm, List.map_drop]
  have n3 : ex (call T (k + 20)) (.cmp .ne (.slc (.var 5) (some (.cst (.int 1))) none) (.blt .tuple [(.comp (.call 42 [(.call 49 [(.var 4), (.var 18)] [])] []) (.nm 18) .range2 [(.cst (.int 1)), (.blt .len [(.var 5)])] none [18])])) env' (H ++ [o1]) = some (.v (.bl false), H ++ [o1]) := by
    rw [dd] at sl cg
    rw [toD_ofL] at sl
    have tp := ex_blt (exr_v cg exr_nil) (tuple_l _)
    rw [toD_ofL] at tp
    refine ne_f sl tp ?_ rfl
    refine dep_ofL _ fun a ha => ?_
    obtain ⟨u, _, rfl⟩ := List.mem_map.mp (List.mem_of_mem_drop ha)
    have := dep_ord u
    omega
  exact sts_nx (ite_f (or_ff n1 (or_ff (ex_cmp zc ls n0) n3)))
end K67
set_option Elab.async false
set_option linter.all false
set_option maxRecDepth 100000
set_option maxHeartbeats 400000
/-! K67N2: the law, its battles. -/
namespace K67
open Ev Pl Pl.O
theorem eqR_optN {mh : MH} (r : Option Nat) : eqR mh (.v (optN r)) (.v (optN r)) = some true := by
  cases r with
  | none => rfl
  | some n =>
    show eqR mh (.v (.int (n : Int))) (.v (.int (n : Int))) = some true
    rw [eqR_int, decide_eq_true rfl]
def cIn : List St := [(.asg (.nm 3) (.op .add (.cst (.int 1)) (.call 59 [(.var 2), (.cst (.int 30))] []))), (.asg (.nm 14) (.call 57 [(.var 4), (.var 3)] [])), (.asg (.nm 15) (.call 48 [(.var 4), (.var 3)] [])), (.ite (.and_ (.cmp .lt (.blt .len [(.var 15)]) (.cst (.int 300))) (.cmp .ne (.call 57 [(.var 15), (.op .add (.var 3) (.cst (.int 1)))] []) (.var 14))) [(.ret (.cst (.bl false)))] []), (.ite (.and_ (.cmp .isnot (.var 14) (.cst .non)) (.and_ (.cmp .eq (.var 3) (.cst (.int 1))) (.and_ (.cmp .lt (.var 14) (.cst (.int 700))) (.cmp .ne (.call 50 [(.var 4), (.cst (.int 3000))] []) (.op .sub (.var 14) (.cst (.int 1))))))) [(.ret (.cst (.bl false)))] [])]
def cBody : List St := [(.ite (.cmp .ne (.var 4) (.tup [])) cIn [])]
theorem secC {k : Nat} {H : MH} {o : MO} {cc : Nat} {S K : Option D} {env : Env} {rest : List St} {w : List Nat} (hm : Closed (H ++ [o])) (g : Good cc o) (hc : cc ≤ 100000) (en : En H.length S K env) (w5 : w.length ≤ 5) (w3 : ∀ a ∈ w, a ≤ 3) (x4 : env[4]? = some (some (wD w))) :
    ∃ env' o', En H.length S K env' ∧ Good (cc + 1) o' ∧ Closed (H ++ [o']) ∧ sts (call T (k + 20)) (cBody ++ rest) env (H ++ [o]) = sts (call T (k + 20)) rest env' (H ++ [o']) := by
  have ne0 : ex (call T (k + 20)) (.cmp .ne (.var 4) (.tup [])) env (H ++ [o]) = some (.v (.bl (!decide (w = []))), H ++ [o]) := by
    refine ex_cmp (ex_var x4) emp_tup ?_
    show (eqR (H ++ [o]) (.v (wD w)) (.v (wD []))).map (!·) = _
    rw [eqR_wD]
    rfl
  cases w with
  | nil => exact ⟨env, o, en, g.mono (by omega), hm, sts_nx ((ite_ff ne0).trans sts_nil)⟩
  | cons a r =>
    obtain ⟨o1, p, g1, p30, pk⟩ := pick_ok (k := k + 19) (E := []) (m := 30) hm g (by omega) (by decide) (by decide)
    have m1 : Closed (H ++ [o1]) := closed_swap (E := []) g g1 hm
    obtain ⟨e, he⟩ := wend_total w3 (1 + p)
    have wn := wend_next (w := a :: r) (by simp) w5 w3 (t := 1 + p) (by omega) (by omega)
    rw [he] at wn
    have wk : Wok 400 (a :: r) := ⟨by omega, fun b hb => by have := w3 b hb; omega⟩
    have l5 : r.length + 1 ≤ 5 := w5
    have ll := len_next a r (1 + p)
    have l6 : (1 + p + 1) * (r.length + 1) ≤ 31 * 5 := Nat.mul_le_mul (by omega) l5
    have wf : Wok 400 (nextIn (a :: r) (1 + p)) := ⟨by omega, mem_next wk.2⟩
    have ea := ends_at_ok (k := k + 3) m1 wk (1 + p) (by omega) (by omega) e he
    have eb := ends_at_ok (k := k + 3) m1 wf (1 + p + 1) (by omega) (by omega) e wn
    have nw := next_worm_ok (k := k + 15) m1 wk (1 + p) (by omega) (by omega)
    have en1 := en.set 3 (by decide) (some (.int ((1 + p : Nat) : Int)))
    have en2 := en1.set 14 (by decide) (some (optN e))
    have en3 := en2.set 15 (by decide) (some (wD (nextIn (a :: r) (1 + p))))
    let env3 := ((env.set 3 (some (.int ((1 + p : Nat) : Int)))).set 14 (some (optN e))).set 15 (some (wD (nextIn (a :: r) (1 + p))))
    have y3 : ∀ (v v2 : Option D), ((env.set 3 (some (.int ((1 + p : Nat) : Int)))).set 14 v)[3]? = some (some (.int ((1 + p : Nat) : Int))) := fun v v2 => by
      rw [List.getElem?_set_ne (by decide)]
      exact get_set en (by decide) _
    have y4 : ∀ (v : Option D), ((env.set 3 (some (.int ((1 + p : Nat) : Int)))).set 14 v)[4]? = some (some (wD (a :: r))) := fun v => by
      rw [List.getElem?_set_ne (by decide), List.getElem?_set_ne (by decide)]
      exact x4
    have y4' : (env.set 3 (some (.int ((1 + p : Nat) : Int))))[4]? = some (some (wD (a :: r))) := by
      rw [List.getElem?_set_ne (by decide)]
      exact x4
    have z3 : env3[3]? = some (some (.int ((1 + p : Nat) : Int))) := by
      show (List.set _ 15 _)[3]? = _
      rw [List.getElem?_set_ne (by decide)]
      exact y3 _ none
    have z4 : env3[4]? = some (some (wD (a :: r))) := by
      show (List.set _ 15 _)[4]? = _
      rw [List.getElem?_set_ne (by decide)]
      exact y4 _
    have z14 : env3[14]? = some (some (optN e)) := by
      show (List.set _ 15 _)[14]? = _
      rw [List.getElem?_set_ne (by decide)]
      exact get_set en1 (by decide) _
    have z15 : env3[15]? = some (some (wD (nextIn (a :: r) (1 + p)))) := get_set en2 (by decide) _
    refine ⟨env3, o1, en3, g1, m1, ?_⟩
    refine sts_nx ((ite_t ne0).trans ?_)
    have ad : ∀ mh, opR mh .add (.v (.int 1)) (.v (.int (p : Nat))) = some (.v (.int ((1 + p : Nat) : Int))) := fun mh => by
      show some (R.v (.int (1 + (p : Int)))) = _
      rw [Int.natCast_add]
      rfl
    refine (sts_nx (st_asg (ex_op ex_cst (ex_call (exs_v (ex_var en.2.2.2) (exs_v ex_cst exs_nil)) pk) (ad _)))).trans ?_
    refine (sts_nx (st_asg (ex_call (exs_v (ex_var y4') (exs_v (ex_var (get_set en (by decide) _)) exs_nil)) ea))).trans ?_
    refine (sts_nx (st_asg (ex_call (exs_v (ex_var (y4 _)) (exs_v (ex_var (y3 _ none)) exs_nil)) nw))).trans ?_
    show sts (call T (k + 20)) _ env3 (H ++ [o1]) = _
    have c1 : ex (call T (k + 20)) (.cmp .lt (.blt .len [(.var 15)]) (.cst (.int 300))) env3 (H ++ [o1]) = some (.v (.bl true), H ++ [o1]) := by
      refine ex_cmp (ex_blt (exr_v (ex_var z15) exr_nil) (len_wD _)) ex_cst ?_
      rw [cm_lt, ltR_int, decide_eq_true (by omega)]
    have a1 : opR (H ++ [o1]) .add (.v (.int ((1 + p : Nat) : Int))) (.v (.int 1)) = some (.v (.int ((1 + p + 1 : Nat) : Int))) := rfl
    have c2 : ex (call T (k + 20)) (.cmp .ne (.call 57 [(.var 15), (.op .add (.var 3) (.cst (.int 1)))] []) (.var 14)) env3 (H ++ [o1]) = some (.v (.bl false), H ++ [o1]) := by
      refine ex_cmp (ex_call (exs_v (ex_var z15) (exs_v (ex_op (ex_var z3) ex_cst a1) exs_nil)) eb) (ex_var z14) ?_
      show (eqR (H ++ [o1]) (.v (optN e)) (.v (optN e))).map (!·) = _
      rw [eqR_optN]
      rfl
    refine (sts_nx (ite_f (and_tt c1 c2))).trans ?_
    have c3 : ex (call T (k + 20)) (.and_ (.cmp .isnot (.var 14) (.cst .non)) (.and_ (.cmp .eq (.var 3) (.cst (.int 1))) (.and_ (.cmp .lt (.var 14) (.cst (.int 700))) (.cmp .ne (.call 50 [(.var 4), (.cst (.int 3000))] []) (.op .sub (.var 14) (.cst (.int 1))))))) env3 (H ++ [o1]) = some (.v (.bl false), H ++ [o1]) := by
      cases e with
      | none => exact and_ff (ex_cmp (ex_var z14) ex_cst rfl)
      | some e =>
        refine and_tt (ex_cmp (ex_var z14) ex_cst rfl) ?_
        have e1 : cmR (H ++ [o1]) .eq (.v (.int ((1 + p : Nat) : Int))) (.v (.int 1)) = some (decide (p = 0)) := by
          rw [cm_eq, eqR_int]
          exact congrArg some (decide_eq_decide.mpr (by omega))
        by_cases q : p = 0
        · rw [decide_eq_true q] at e1
          subst q
          refine and_tt (ex_cmp (ex_var z3) ex_cst e1) ?_
          have e2 : cmR (H ++ [o1]) .lt (.v (.int (e : Nat))) (.v (.int 700)) = some (decide (e < 700)) := by
            rw [cm_lt, ltR_int]
            exact congrArg some (decide_eq_decide.mpr (by omega))
          by_cases q7 : e < 700
          · rw [decide_eq_true q7] at e2
            refine and_tt (ex_cmp (ex_var z14) ex_cst e2) ?_
            have f := allW_of ends1_ok w5 w3
            unfold ends1 at f
            rw [show wend 7 (a :: r) 1 = some (some e) from he] at f
            have f : (if Nat.blt e 700 then wayOk 3000 1 (a :: r) && (match lastB 3000 1 (a :: r) with
              | ([], n) => Nat.beq (n + 1) e
              | _ => false) else true) = true := f
            have b7 : Nat.blt e 700 = true := Nat.ble_eq.mpr q7
            rw [if_pos b7, Bool.and_eq_true_iff] at f
            have to := turns_of_ok (k := k + 15) m1 wk 3000 (by decide) f.1
            have f2 := f.2
            cases hq : lastB 3000 1 (a :: r) with
            | mk u n =>
              rw [hq] at to f2
              cases u with
              | cons _ _ => cases f2
              | nil =>
                have f2 : n + 1 = e := Nat.eq_of_beq_eq_true f2
                subst f2
                have s1 : opR (H ++ [o1]) .sub (.v (.int ((n + 1 : Nat) : Int))) (.v (.int 1)) = some (.v (.int (n : Nat))) := by
                  show some (R.v (.int (((n + 1 : Nat) : Int) - 1))) = _
                  have : ((n + 1 : Nat) : Int) - 1 = (n : Nat) := by omega
                  rw [this]
                refine ex_cmp (ex_call (exs_v (ex_var z4) (exs_v ex_cst exs_nil)) to) (ex_op (ex_var z14) ex_cst s1) ?_
                show (eqR (H ++ [o1]) (.v (.int (n : Nat))) (.v (.int (n : Nat)))).map (!·) = _
                rw [eqR_int, decide_eq_true rfl]
                rfl
          · rw [decide_eq_false q7] at e2
            exact and_ff (ex_cmp (ex_var z14) ex_cst e2)
        · rw [decide_eq_false q] at e1
          exact and_ff (ex_cmp (ex_var z3) ex_cst e1)
    exact (sts_nx (ite_f c3)).trans sts_nil
end K67
set_option Elab.async false
set_option linter.all false
set_option maxRecDepth 100000
set_option maxHeartbeats 400000
/-! K67N3: the law, turns above. -/
namespace K67
open Ev Pl Pl.O
theorem lt_int_f {C : CallF} {e1 e2 : Ex} {env : Env} {mh : MH} {i j : Nat} (h1 : ex C e1 env mh = some (.v (.int (i : Nat)), mh)) (h2 : ex C e2 env mh = some (.v (.int (j : Nat)), mh)) (h : j ≤ i) : ex C (.cmp .lt e1 e2) env mh = some (.v (.bl false), mh) := by
  refine ex_cmp h1 h2 ?_
  rw [cm_lt, ltR_int, decide_eq_false (by omega)]
def dIn : List St := [(.asg (.nm 10) (.call 46 [(.var 6), (.var 16)] [])), (.ite (.or_ (.cmp .ne (.call 46 [(.var 16), (.var 6)] [1, 0]) (.var 10)) (.or_ (.not_ (.cmp .lt (.var 16) (.call 42 [(.call 48 [(.var 6), (.var 10)] [])] []))) (.and_ (.cmp .gt (.var 10) (.cst (.int 1))) (.cmp .lt (.var 16) (.call 42 [(.call 48 [(.var 6), (.op .sub (.var 10) (.cst (.int 1)))] [])] []))))) [(.ret (.cst (.bl false)))] []), (.ite (.and_ (.cmp .lt (.call 34 [(.var 16), (.call 32 [(.cst (.int 1))] [])] []) (.var 7)) (.cmp .lt (.call 46 [(.var 6), (.call 34 [(.var 16), (.call 32 [(.cst (.int 1))] [])] [])] []) (.var 10))) [(.ret (.cst (.bl false)))] [])]
def dLoop : List St := [(.asg (.nm 16) (.call 66 [(.var 2), (.cst (.int 1))] [])), (.ite (.cmp .lt (.var 16) (.var 7)) dIn [])]
/-- the slots behind the short worm -/
def En6 (n : Nat) (S K : Option D) (u : List Nat) (env : Env) : Prop := En n S K env ∧ env[6]? = some (some (wD (1 :: u))) ∧ env[7]? = some (some (toD (ord (1 :: u))))
theorem En6.set {n : Nat} {S K : Option D} {u : List Nat} {env : Env} (h : En6 n S K u env) (i : Nat) (hi : 3 ≤ i) (h6 : i ≠ 6) (h7 : i ≠ 7) (v : Option D) : En6 n S K u (env.set i v) :=
  ⟨h.1.set i hi v, by rw [List.getElem?_set_ne h6]; exact h.2.1, by rw [List.getElem?_set_ne h7]; exact h.2.2⟩
theorem din_ok {k : Nat} {mh : MH} {n : Nat} {S K : Option D} {u : List Nat} {x : O} {env : Env} (hm : Closed mh) (en : En6 n S K u env) (hu : u.length ≤ 3) (h2 : ∀ a ∈ u, a ≤ 2) (hx : Dr 1 x) (x16 : env[16]? = some (some (toD x))) (lt : x < ord (1 :: u)) :
    ∃ env', En6 n S K u env' ∧ sts (call T (k + 20)) dIn env mh = some (.nx, env', mh) := by
  have wx := hx.w
  have ox : Ook x := ⟨wx.1, by have := hx.c1; omega, Nat.le_trans hx.dep (by decide)⟩
  obtain ⟨f1, f2⟩ := turns_there hu h2 hx
  obtain ⟨e, e1, e31, elt, emin⟩ := f1 lt
  have wk : Wok 5 (1 :: u) := ⟨by rw [List.length_cons]; omega, fun a ha => by
    rcases List.mem_cons.mp ha with rfl | ha
    · decide
    · have := h2 a ha; omega⟩
  have tr : Turn (1 :: u) x e := ⟨e1, by omega, fun z => z elt, emin⟩
  have ta := turn_above_ok (k := k + 4) hm wk ox lt tr
  have o1 : Ook (rep z 1) := ⟨W_rz 1, by decide, by decide⟩
  have ox1 : Ook (plus x (rep z 1)) := ⟨W_plus wx.1 (W_rz 1), by have := hx.c1; have := (cnt_plus x (rep z 1)).1; have : cnt (rep z 1) = 2 := rfl; omega, dep_plus ox.2.2 (by decide)⟩
  have ds := dep_ord (1 :: u)
  have en1 : En6 n S K u (env.set 10 (some (.int (e : Nat)))) := en.set 10 (by decide) (by decide) (by decide) _
  have y10 : (env.set 10 (some (.int (e : Nat))))[10]? = some (some (.int (e : Nat))) := get_set en.1 (by decide) _
  have y16 : (env.set 10 (some (.int (e : Nat))))[16]? = some (some (toD x)) := by
    rw [List.getElem?_set_ne (by decide)]
    exact x16
  refine ⟨_, en1, ?_⟩
  refine (sts_nx (st_asg (ex_call (exs_v (ex_var en.2.1) (exs_v (ex_var x16) exs_nil)) ta))).trans ?_
  have c1 : ex (call T (k + 20)) (.cmp .ne (.call 46 [(.var 16), (.var 6)] [1, 0]) (.var 10)) (env.set 10 (some (.int (e : Nat)))) mh = some (.v (.bl false), mh) := by
    refine ex_cmp (ex_callp (exs_v (ex_var y16) (exs_v (ex_var en1.2.1) exs_nil)) rfl ta) (ex_var y10) ?_
    show (eqR mh (.v (.int (e : Nat))) (.v (.int (e : Nat)))).map (!·) = _
    rw [eqR_int, decide_eq_true rfl]
    rfl
  have wn : ∀ s, s ≤ 31 → Wok 400 (nextIn (1 :: u) s) := fun s hs => by
    have l := len_next 1 u s
    have l2 : (s + 1) * (u.length + 1) ≤ 32 * 4 := Nat.mul_le_mul (by omega) (by omega)
    exact ⟨by omega, mem_next wk.2⟩
  have onx : ∀ (ee : Ex) (s : Nat), 1 ≤ s → s ≤ 31 → ex (call T (k + 20)) ee (env.set 10 (some (.int (e : Nat)))) mh = some (.v (.int (s : Nat)), mh) → ex (call T (k + 20)) (.call 42 [(.call 48 [(.var 6), ee] [])] []) (env.set 10 (some (.int (e : Nat)))) mh = some (.v (toD (ord (nextIn (1 :: u) s))), mh) := fun ee s h1 h3 he =>
    ex_call (exs_v (ex_call (exs_v (ex_var en1.2.1) (exs_v he exs_nil)) (next_worm_ok (k := k + 15) hm (wk.m (by decide)) s h1 (by omega))) exs_nil) (order_ok (k := k + 10) hm (wn s h3))
  have dn : ∀ s, dep (ord (nextIn (1 :: u) s)) ≤ 50 := fun s => Nat.le_trans (dep_ord _) (by decide)
  have c2 := lt_toD (ex_var y16) (onx (.var 10) e e1 (by omega) (ex_var y10)) ox.d (dn e)
  rw [decide_eq_true elt] at c2
  have gt1 : cmR mh .gt (.v (.int (e : Nat))) (.v (.int 1)) = some (decide (1 < e)) := by
    rw [cm_gt, gtR_int]
    exact congrArg some (decide_eq_decide.mpr (by omega))
  have c3 : ex (call T (k + 20)) (.and_ (.cmp .gt (.var 10) (.cst (.int 1))) (.cmp .lt (.var 16) (.call 42 [(.call 48 [(.var 6), (.op .sub (.var 10) (.cst (.int 1)))] [])] []))) (env.set 10 (some (.int (e : Nat)))) mh = some (.v (.bl false), mh) := by
    by_cases q : 1 < e
    · rw [decide_eq_true q] at gt1
      have s1 : opR mh .sub (.v (.int (e : Nat))) (.v (.int 1)) = some (.v (.int ((e - 1 : Nat) : Int))) := by
        show some (R.v (.int ((e : Int) - 1))) = _
        have : (e : Int) - 1 = ((e - 1 : Nat) : Int) := by omega
        rw [this]
      have l := lt_toD (ex_var y16) (onx (.op .sub (.var 10) (.cst (.int 1))) (e - 1) (by omega) (by omega) (ex_op (ex_var y10) ex_cst s1)) ox.d (dn (e - 1))
      rw [decide_eq_false (show ¬ x < ord (nextIn (1 :: u) (e - 1)) from emin (e - 1) (by omega) (by omega))] at l
      exact and_tt (ex_cmp (ex_var y10) ex_cst gt1) l
    · rw [decide_eq_false q] at gt1
      exact and_ff (ex_cmp (ex_var y10) ex_cst gt1)
  refine (sts_nx (ite_f (or_ff c1 (or_ff (not_t c2) c3)))).trans ?_
  have pl : ex (call T (k + 20)) (.call 34 [(.var 16), (.call 32 [(.cst (.int 1))] [])] []) (env.set 10 (some (.int (e : Nat)))) mh = some (.v (toD (plus x (rep z 1))), mh) :=
    ex_call (exs_v (ex_var y16) (exs_v (ex_call (exs_v ex_cst exs_nil) (number_ok (k := k + 18) hm 1 (by decide))) exs_nil)) (plus_ok (k := k + 3) hm ox o1)
  have c4 := lt_toD pl (ex_var en1.2.2) ox1.d (show dep (ord (1 :: u)) ≤ 50 by omega)
  have c5 : ex (call T (k + 20)) (.and_ (.cmp .lt (.call 34 [(.var 16), (.call 32 [(.cst (.int 1))] [])] []) (.var 7)) (.cmp .lt (.call 46 [(.var 6), (.call 34 [(.var 16), (.call 32 [(.cst (.int 1))] [])] [])] []) (.var 10))) (env.set 10 (some (.int (e : Nat)))) mh = some (.v (.bl false), mh) := by
    by_cases q : plus x (rep z 1) < ord (1 :: u)
    · rw [decide_eq_true q] at c4
      obtain ⟨e', h1', h31', hlt', hmin'⟩ := f2 q
      have tr' : Turn (1 :: u) (plus x (rep z 1)) e' := ⟨h1', by omega, fun z => z hlt', hmin'⟩
      have ta' := turn_above_ok (k := k + 4) hm wk ox1 q tr'
      refine and_tt c4 (lt_int_f (ex_call (exs_v (ex_var en1.2.1) (exs_v pl exs_nil)) ta') (ex_var y10) ?_)
      rcases Nat.lt_or_ge e' e with h | h
      · refine absurd ?_ (emin e' h1' h)
        refine lt_trans ?_ hlt'
        exact plus_lt (x := x) (y := z) (w := rep z 1) wx.1.desc (z_lt _ _)
      · exact h
    · rw [decide_eq_false q] at c4
      exact and_ff c4
  exact (sts_nx (ite_f c5)).trans sts_nil
theorem dloop_step {k : Nat} {H : MH} {o : MO} {cc : Nat} {S K : Option D} {u : List Nat} {env : Env} (hm : Closed (H ++ [o])) (g : Good cc o) (hc : cc ≤ 100000) (en : En6 H.length S K u env) (hu : u.length ≤ 3) (h2 : ∀ a ∈ u, a ≤ 2) :
    ∃ env' o', En6 H.length S K u env' ∧ Good (cc + 16) o' ∧ Closed (H ++ [o']) ∧ sts (call T (k + 20)) dLoop env (H ++ [o]) = some (.nx, env', H ++ [o']) := by
  obtain ⟨N1, hN1, f1⟩ := law_ordinal_ok 1
  have hN1 : N1 ≤ 16 := hN1
  obtain ⟨o1, x, g1, m1, hx, e1⟩ := f1 (k + 17) H [] cc o (by decide) hm g (by omega)
  have en1 : En6 H.length S K u (env.set 16 (some (toD x))) := en.set 16 (by decide) (by decide) (by decide) _
  have y16 : (env.set 16 (some (toD x)))[16]? = some (some (toD x)) := get_set en.1 (by decide) _
  have dx : dep x ≤ 50 := Nat.le_trans hx.dep (by decide)
  have ds := dep_ord (1 :: u)
  have l := lt_toD (C := call T (k + 20)) (mh := H ++ [o1]) (ex_var y16) (ex_var en1.2.2) dx (show dep (ord (1 :: u)) ≤ 50 by omega)
  have s1 := sts_nx (b := [(.ite (.cmp .lt (.var 16) (.var 7)) dIn [])]) (st_asg (i := 16) (ex_call (exs_v (ex_var en.1.2.2.2) (exs_v (ex_cst (d := .int ((1 : Nat) : Int))) exs_nil)) e1))
  by_cases q : x < ord (1 :: u)
  · rw [decide_eq_true q] at l
    obtain ⟨env', en', r⟩ := din_ok (k := k) m1 en1 hu h2 hx y16 q
    exact ⟨env', o1, en', g1.mono (by omega), m1, s1.trans ((sts_nx ((ite_t l).trans r)).trans sts_nil)⟩
  · rw [decide_eq_false q] at l
    exact ⟨_, o1, en1, g1.mono (by omega), m1, s1.trans ((sts_nx ((ite_ff l).trans sts_nil)).trans sts_nil)⟩
theorem dloop_ok {k : Nat} {H : MH} {S K : Option D} {u : List Nat} (hu : u.length ≤ 3) (h2 : ∀ a ∈ u, a ≤ 2) : ∀ (j lo : Nat) (o : MO) (cc : Nat) (env : Env), Closed (H ++ [o]) → Good cc o → cc + j * 16 ≤ 100000 → En6 H.length S K u env →
    ∃ env' o', En6 H.length S K u env' ∧ Good (cc + j * 16) o' ∧ Closed (H ++ [o']) ∧ loopL (fun x env mh => match asgT (.nm 3) x env with
          | some env => sts (call T (k + 20)) dLoop env mh
          | none => none) (rngD lo j) env (H ++ [o]) = some (.nx, env', H ++ [o'])
  | 0, lo, o, cc, env, hm, g, _, en => ⟨env, o, en, by rw [Nat.zero_mul]; exact g, hm, rfl⟩
  | j + 1, lo, o, cc, env, hm, g, hc, en => by
    rw [Nat.succ_mul] at hc
    obtain ⟨env1, o1, en1, g1, m1, s1⟩ := dloop_step (k := k) hm g (by omega) (en.set 3 (by decide) (by decide) (by decide) (some (.int (lo : Int)))) hu h2
    obtain ⟨env2, o2, en2, g2, m2, s2⟩ := dloop_ok (k := k) hu h2 j (lo + 1) o1 (cc + 16) env1 m1 g1 (by omega) en1
    refine ⟨env2, o2, en2, by rw [Nat.succ_mul, show cc + (j * 16 + 16) = cc + 16 + j * 16 by omega]; exact g2, m2, ?_⟩
    rw [rngD]
    exact (loopL_nx s1).trans s2
def dBody : List St := [(.asg (.nm 6) (.blt .tuple [(.op .add (.lst [(.cst (.int 1))]) (.comp (.var 17) (.nm 17) .seq [(.call 64 [(.var 2), (.cst (.int 3)), (.cst (.int 2))] [])] none [17]))])), (.asg (.nm 7) (.call 61 [(.var 6)] [])), (.for_ (.nm 3) .range1 [(.cst (.int 4))] dLoop)]
theorem secD {k : Nat} {H : MH} {o : MO} {cc : Nat} {S K : Option D} {env : Env} {rest : List St} (hm : Closed (H ++ [o])) (g : Good cc o) (hc : cc ≤ 50000) (en : En H.length S K env) :
    ∃ env' o', En H.length S K env' ∧ Good (cc + 68) o' ∧ Closed (H ++ [o']) ∧ sts (call T (k + 20)) (dBody ++ rest) env (H ++ [o]) = sts (call T (k + 20)) rest env' (H ++ [o']) := by
  obtain ⟨o1, u, g1, m1, u3, u2, e1⟩ := law_worm_ok (k := k + 18) (n := 3) (m := 2) hm g (by omega) (by decide) (by decide)
  have m8 := m800
  have m1' : 1 ≤ many := by decide
  have l1 : ex (call T (k + 20)) (.lst [(.cst (.int 1))]) env (H ++ [o]) = some (.l (lD [1]), H ++ [o]) := by
    rw [ex, exs_v ex_cst exs_nil]
    dsimp only
    rw [if_pos (by exact m1')]
    rfl
  have cg : ex (call T (k + 20)) (.comp (.var 17) (.nm 17) .seq [(.call 64 [(.var 2), (.cst (.int 3)), (.cst (.int 2))] [])] none [17]) env (H ++ [o]) = some (.l (lD u), H ++ [o1]) := by
    refine ex_comp (exr_v (ex_call (exs_v (ex_var en.2.2.2) (exs_v ex_cst (exs_v ex_cst exs_nil))) e1) exr_nil) (src_wD u) ?_
    rw [comp_N (fun a => .int (a : Int)) u (fun b _ => by
      have y : ((env.set 17 none).set 17 (some (.int (b : Int))))[17]? = some (some (.int (b : Int))) := get_set (en.set 17 (by decide) none) (by decide) _
      exact cturn_some (r := .v (.int (b : Int))) (mh1 := H ++ [o1]) (mh2 := H ++ [o1]) (env' := (env.set 17 none).set 17 (some (.int (b : Int)))) rfl rfl (ex_var y)) (by omega)]
    rfl
  have ad : opR (H ++ [o1]) .add (.l (lD [1])) (.l (lD u)) = some (.l (lD (1 :: u))) := by
    show catR (H ++ [o1]) (.l (lD [1])) (.l (lD u)) = _
    show (if (lD [1]).length + (lD u).length ≤ many then some (R.l (lD [1] ++ lD u)) else none) = _
    rw [if_pos (by rw [lD_len, lD_len, List.length_singleton]; omega)]
    rfl
  have en1 := en.set 6 (by decide) (some (wD (1 :: u)))
  have en2 := en1.set 7 (by decide) (some (toD (ord (1 :: u))))
  have x6 : (env.set 6 (some (wD (1 :: u))))[6]? = some (some (wD (1 :: u))) := get_set en (by decide) _
  have lo := law_order_ok (k + 11) 7 (1 :: u) m1 (fun a ha => by
    rcases List.mem_cons.mp ha with rfl | ha
    · decide
    · have := u2 a ha; omega) (by decide) (by rw [List.length_cons]; omega)
  have en6 : En6 H.length S K u ((env.set 6 (some (wD (1 :: u)))).set 7 (some (toD (ord (1 :: u))))) := ⟨en2, by
    rw [List.getElem?_set_ne (by decide)]
    exact x6, get_set en1 (by decide) _⟩
  obtain ⟨env', o2, en', g2, m2, r⟩ := dloop_ok (k := k) u3 u2 4 0 o1 (cc + 3 + 1) _ m1 g1 (by omega) en6
  refine ⟨env', o2, en'.1, g2.mono (by omega), m2, ?_⟩
  refine (sts_nx (st_asg (ex_blt (exr_v (ex_op l1 cg ad) exr_nil) (tuple_l _)))).trans ?_
  refine (sts_nx (st_asg (ex_call (exs_v (ex_var x6) exs_nil) lo))).trans ?_
  exact sts_nx ((st_forR (b := dLoop) (exr_v (ex_cst (d := .int ((4 : Nat) : Int))) exr_nil) (src_r1 4 (by decide))).trans r)
end K67
set_option Elab.async false
set_option linter.all false
set_option maxRecDepth 100000
set_option maxHeartbeats 400000
/-! K67N4: the law, halfway; the whole. -/
namespace K67
open Ev Pl Pl.O
theorem plus_one (x : O) : plus x (c z z) = app x (c z z) := by
  show app (filt z x) (c z z) = _
  rw [filt_all fun e _ => z_le e]
theorem half_some {one other w : List Nat} (h3 : one.length ≤ 3) (h2 : ∀ a ∈ one, a ≤ 2) (h : half one other = some w) : form w = w ∧ ord one < ord w ∧ ord w < ord other ∧ Wok 10 w := by
  unfold half at h
  split at h
  · cases h
  · rename_i q
    have q : plus (ord one) (c z z) < ord other := by
      rw [plus_one]
      rcases tri (app (ord one) (c z z)) (ord other) with k | k | k
      · exact k
      · exact absurd (by rw [k]; exact le_refl _) q
      · exact absurd (le_of_lt k) q
    have f := allW_of one1_ok h3 h2
    unfold one1 at f
    rw [Bool.and_eq_true_iff, Bool.and_eq_true_iff, Bool.and_eq_true_iff, Bool.and_eq_true_iff] at f
    obtain ⟨f1, f2, f3, f4, f5⟩ := f
    have f1 := of_decide_eq_true f1
    have f2 := of_decide_eq_true f2
    have f3 := Nat.ble_eq.mp f3
    have f4 := ltb_iff.mp f4
    have f5 := letters_iff.mp f5
    injection h with h
    cases e : (List.range ((form one).length + 2)).findSome? (fun i => (wordsOf 6 i).find? (htest (ord one) (ord other))) with
    | none =>
      rw [e] at h
      have h : form (0 :: one) = w := h
      subst h
      exact ⟨f2, by rw [f1]; exact f4, by rw [f1]; exact q, ⟨by omega, f5.2⟩⟩
    | some v =>
      rw [e] at h
      have h : v = w := h
      subst h
      obtain ⟨i, hi, hv⟩ := List.exists_of_findSome?_eq_some e
      have t := List.find?_some hv
      have m := words_mem (List.mem_of_find?_eq_some hv)
      unfold htest at t
      rw [Bool.and_eq_true_iff, Bool.and_eq_true_iff] at t
      have := List.mem_range.mp hi
      exact ⟨of_decide_eq_true t.1, of_decide_eq_true t.2.1, of_decide_eq_true t.2.2, ⟨by omega, m.2⟩⟩
theorem form_len {one : List Nat} (h3 : one.length ≤ 3) (h2 : ∀ a ∈ one, a ≤ 2) : (form one).length ≤ 5 := by
  have f := allW_of one1_ok h3 h2
  unfold one1 at f
  rw [Bool.and_eq_true_iff, Bool.and_eq_true_iff, Bool.and_eq_true_iff, Bool.and_eq_true_iff] at f
  exact Nat.ble_eq.mp f.2.2.1
theorem half_iff (one other : List Nat) : (half one other).isSome = decide (plus (ord one) (c z z) < ord other) := by
  rw [plus_one]
  unfold half
  by_cases q : ord other ≤ app (ord one) (c z z)
  · rw [if_pos q, decide_eq_false (show ¬ app (ord one) (c z z) < ord other from fun h => q h)]
    rfl
  · rw [if_neg q, decide_eq_true]
    · rfl
    · rcases tri (app (ord one) (c z z)) (ord other) with k | k | k
      · exact k
      · exact absurd (by rw [k]; exact le_refl _) q
      · exact absurd (le_of_lt k) q
theorem eqR_optW {mh : MH} (r : Option (List Nat)) : eqR mh (.v (optW r)) (.v (optW r)) = some true := by
  cases r with
  | none => rfl
  | some w =>
    show eqR mh (.v (wD w)) (.v (wD w)) = some true
    rw [eqR_wD, decide_eq_true rfl]
def eBody : List St := [(.par [8, 9] [(.call 64 [(.var 2), (.cst (.int 3)), (.cst (.int 2))] []), (.call 64 [(.var 2), (.cst (.int 3)), (.cst (.int 2))] [])]), (.asg (.nm 10) (.call 47 [(.var 8), (.var 9)] [])), (.ite (.or_ (.cmp .ne (.cmp .isnot (.var 10) (.cst .non)) (.cmp .lt (.call 34 [(.call 61 [(.var 8)] []), (.call 32 [(.cst (.int 1))] [])] []) (.call 61 [(.var 9)] []))) (.cmp .ne (.call 47 [(.var 9), (.var 8)] [1, 0]) (.var 10))) [(.ret (.cst (.bl false)))] []), (.ite (.and_ (.cmp .isnot (.var 10) (.cst .non)) (.or_ (.cmp .isnot (.call 52 [(.var 10)] []) (.cst (.bl true))) (.or_ (.not_ (.chain .lt .lt (.call 61 [(.var 8)] []) (.call 42 [(.var 10)] []) (.call 61 [(.var 9)] []))) (.or_ (.cmp .ne (.call 44 [(.var 10)] []) (.var 10)) (.cmp .ne (.call 43 [(.call 42 [(.var 10)] [])] []) (.var 10)))))) [(.ret (.cst (.bl false)))] [])]
theorem ex_chain {C : CallF} {a b d : Ex} {env : Env} {mh : MH} {x y w : O} (h1 : ex C a env mh = some (.v (toD x), mh)) (h2 : ex C b env mh = some (.v (toD y), mh)) (h3 : ex C d env mh = some (.v (toD w), mh)) (dx : dep x ≤ 50) (dy : dep y ≤ 50) (dw : dep w ≤ 50) (l1 : x < y) (l2 : y < w) : ex C (.chain .lt .lt a b d) env mh = some (.v (.bl true), mh) := by
  rw [ex, h1]
  dsimp only
  rw [h2]
  dsimp only
  rw [cm_lt, ltR_toD dx dy, decide_eq_true l1]
  dsimp only
  rw [h3]
  dsimp only
  rw [cm_lt, ltR_toD dy dw, decide_eq_true l2]
  rfl
theorem ne_wD {C : CallF} {a b : Ex} {env : Env} {mh : MH} {x y : List Nat} (h1 : ex C a env mh = some (.v (wD x), mh)) (h2 : ex C b env mh = some (.v (wD y), mh)) (e : x = y) : ex C (.cmp .ne a b) env mh = some (.v (.bl false), mh) := by
  refine ex_cmp h1 h2 ?_
  show (eqR mh (.v (wD x)) (.v (wD y))).map (!·) = _
  rw [eqR_wD, decide_eq_true e]
  rfl
theorem secE {k : Nat} {H : MH} {o : MO} {cc : Nat} {S K : Option D} {env : Env} {rest : List St} (hm : Closed (H ++ [o])) (g : Good cc o) (hc : cc ≤ 50000) (en : En H.length S K env) :
    ∃ env' o', En H.length S K env' ∧ Closed (H ++ [o']) ∧ sts (call T (k + 20)) (eBody ++ rest) env (H ++ [o]) = sts (call T (k + 20)) rest env' (H ++ [o']) := by
  obtain ⟨o1, u, g1, m1, u3, u2, e1⟩ := law_worm_ok (k := k + 18) (n := 3) (m := 2) hm g (by omega) (by decide) (by decide)
  obtain ⟨o2, w, g2, m2, w3, w2, e2⟩ := law_worm_ok (k := k + 18) (n := 3) (m := 2) m1 g1 (by omega) (by decide) (by decide)
  have v2 : ∀ mh, ex (call T (k + 20)) (.var 2) env mh = some (.v (.ref H.length), mh) := fun mh => ex_var en.2.2.2
  have p : st (call T (k + 20)) (.par [8, 9] [(.call 64 [(.var 2), (.cst (.int 3)), (.cst (.int 2))] []), (.call 64 [(.var 2), (.cst (.int 3)), (.cst (.int 2))] [])]) env (H ++ [o]) = some (.nx, (env.set 8 (some (wD u))).set 9 (some (wD w)), H ++ [o2]) :=
    st_par (exs_v (ex_call (exs_v (v2 _) (exs_v ex_cst (exs_v ex_cst exs_nil))) e1) (exs_v (ex_call (exs_v (v2 _) (exs_v ex_cst (exs_v ex_cst exs_nil))) e2) exs_nil)) rfl
  have uk : Wok 90 u := ⟨by omega, fun a ha => by have := u2 a ha; omega⟩
  have wk : Wok 100 w := ⟨by omega, fun a ha => by have := w2 a ha; omega⟩
  have hw := halfway_ok (k := k + 7) m2 uk wk (form_len u3 u2)
  have en1 := en.set 8 (by decide) (some (wD u))
  have en2 := en1.set 9 (by decide) (some (wD w))
  have en3 := en2.set 10 (by decide) (some (optW (half u w)))
  have x8 : ((env.set 8 (some (wD u))).set 9 (some (wD w)))[8]? = some (some (wD u)) := by
    rw [List.getElem?_set_ne (by decide)]
    exact get_set en (by decide) _
  have x9 : ((env.set 8 (some (wD u))).set 9 (some (wD w)))[9]? = some (some (wD w)) := get_set en1 (by decide) _
  let env3 := ((env.set 8 (some (wD u))).set 9 (some (wD w))).set 10 (some (optW (half u w)))
  have y8 : env3[8]? = some (some (wD u)) := by
    show (List.set _ 10 _)[8]? = _
    rw [List.getElem?_set_ne (by decide)]
    exact x8
  have y9 : env3[9]? = some (some (wD w)) := by
    show (List.set _ 10 _)[9]? = _
    rw [List.getElem?_set_ne (by decide)]
    exact x9
  have y10 : env3[10]? = some (some (optW (half u w))) := get_set en2 (by decide) _
  refine ⟨env3, o2, en3, m2, ?_⟩
  refine (sts_nx p).trans ?_
  refine (sts_nx (st_asg (ex_call (exs_v (ex_var x8) (exs_v (ex_var x9) exs_nil)) hw))).trans ?_
  show sts (call T (k + 20)) _ env3 (H ++ [o2]) = _
  have lu := law_order_ok (k + 11) 7 u m2 (fun a ha => by have := u2 a ha; omega) (by decide) (by omega)
  have lw := law_order_ok (k + 11) 7 w m2 (fun a ha => by have := w2 a ha; omega) (by decide) (by omega)
  have ou : Ook (ord u) := ⟨W_ordF 7 u, by have h : cnt (ord u) ≤ 1 + (7 + 1) * (u.length + 1) := cnt_ordF 7 u
                                           omega, Nat.le_trans (dep_ord u) (by decide)⟩
  have ow : Ook (ord w) := ⟨W_ordF 7 w, by have h : cnt (ord w) ≤ 1 + (7 + 1) * (w.length + 1) := cnt_ordF 7 w
                                           omega, Nat.le_trans (dep_ord w) (by decide)⟩
  have o1' : Ook (rep z 1) := ⟨W_rz 1, by decide, by decide⟩
  have xu : ex (call T (k + 20)) (.call 61 [(.var 8)] []) env3 (H ++ [o2]) = some (.v (toD (ord u)), H ++ [o2]) := ex_call (exs_v (ex_var y8) exs_nil) lu
  have xw : ex (call T (k + 20)) (.call 61 [(.var 9)] []) env3 (H ++ [o2]) = some (.v (toD (ord w)), H ++ [o2]) := ex_call (exs_v (ex_var y9) exs_nil) lw
  have pl : ex (call T (k + 20)) (.call 34 [(.call 61 [(.var 8)] []), (.call 32 [(.cst (.int 1))] [])] []) env3 (H ++ [o2]) = some (.v (toD (plus (ord u) (rep z 1))), H ++ [o2]) :=
    ex_call (exs_v xu (exs_v (ex_call (exs_v ex_cst exs_nil) (number_ok (k := k + 18) m2 1 (by decide))) exs_nil)) (plus_ok (k := k + 3) m2 ou o1')
  have c1 := lt_toD pl xw (dep_plus ou.d (by decide)) ow.d
  have hi : (half u w).isSome = decide (plus (ord u) (rep z 1) < ord w) := half_iff u w
  rw [← hi] at c1
  have c2 : ex (call T (k + 20)) (.cmp .isnot (.var 10) (.cst .non)) env3 (H ++ [o2]) = some (.v (.bl (half u w).isSome), H ++ [o2]) := by
    refine ex_cmp (ex_var y10) ex_cst ?_
    cases half u w <;> rfl
  have c3 := ne_bl c2 c1
  have e3 : (!((half u w).isSome == (half u w).isSome)) = false := by rw [beq_self_eq_true]; rfl
  rw [e3] at c3
  have c4 : ex (call T (k + 20)) (.cmp .ne (.call 47 [(.var 9), (.var 8)] [1, 0]) (.var 10)) env3 (H ++ [o2]) = some (.v (.bl false), H ++ [o2]) := by
    refine ex_cmp (ex_callp (exs_v (ex_var y9) (exs_v (ex_var y8) exs_nil)) rfl hw) (ex_var y10) ?_
    show (eqR (H ++ [o2]) (.v (optW (half u w))) (.v (optW (half u w)))).map (!·) = _
    rw [eqR_optW]
    rfl
  refine (sts_nx (ite_f (or_ff c3 c4))).trans ?_
  cases hh : half u w with
  | none =>
    rw [hh] at c2
    exact sts_nx (ite_f (and_ff c2))
  | some v =>
    rw [hh] at c2 y10
    obtain ⟨h1, h2, h3, h4⟩ := half_some u3 u2 hh
    have ov : Ook (ord v) := ⟨W_ordF 7 v, by have h : cnt (ord v) ≤ 1 + (7 + 1) * (v.length + 1) := cnt_ordF 7 v
                                             have := h4.1
                                             omega, Nat.le_trans (dep_ord v) (by decide)⟩
    have xv : ex (call T (k + 20)) (.call 42 [(.var 10)] []) env3 (H ++ [o2]) = some (.v (toD (ord v)), H ++ [o2]) := ex_call (exs_v (ex_var y10) exs_nil) (order_ok (k := k + 10) m2 (h4.m (by decide)))
    have f1 : ex (call T (k + 20)) (.cmp .isnot (.call 52 [(.var 10)] []) (.cst (.bl true))) env3 (H ++ [o2]) = some (.v (.bl false), H ++ [o2]) := by
      have i := is_in_form_ok (k := k + 8) m2 (h4.m (show 10 ≤ 100 by decide))
      rw [decide_eq_true h1] at i
      exact ex_cmp (ex_call (exs_v (ex_var y10) exs_nil) i) ex_cst rfl
    have f2 := not_t (ex_chain xu xv xw ou.d ov.d ow.d h2 h3)
    have f3 := ne_wD (ex_call (exs_v (ex_var y10) exs_nil) (form_of_ok (k := k + 8) m2 (h4.m (show 10 ≤ 100 by decide)))) (ex_var y10) h1
    have hwv : worm (ord v) = v := h1
    have wo := worm_of_ok (k := k + 4) m2 ov (by rw [hwv]; exact h4.m (by decide))
    have f4 := ne_wD (ex_call (exs_v xv exs_nil) wo) (ex_var y10) hwv
    exact sts_nx (ite_f (and_tt c2 (or_ff f1 (or_ff f2 (or_ff f3 f4)))))
def kBody : List St := (.asg (.nm 2) (.call 58 [(.var 0), (.var 1)] [])) :: (.for_ (.nm 3) .range1 [(.cst (.int 4))] aBody) :: (bBody ++ (cBody ++ (dBody ++ (eBody ++ []))))
theorem k_step {k : Nat} {H : MH} {ns : List Int} {i : Nat} {env : Env} (hn : ns.length ≤ 63) (hi : i ≤ 10) (hm : Closed H) (e0 : env.length = 19 ∧ env[0]? = some (some (.fz (ns.map .int)))) (e1 : env[1]? = some (some (.int (i : Nat)))) :
    ∃ env' H', Closed H' ∧ (env'.length = 19 ∧ env'[0]? = some (some (.fz (ns.map .int)))) ∧ sts (call T (k + 20)) kBody env H = some (.nx, env', H') := by
  obtain ⟨a, b, cx, g, e⟩ := law_source_ok (k := k + 19) hm ns hn i hi
  have en : En H.length (some (.fz (ns.map .int))) (some (.int (i : Nat))) (env.set 2 (some (.ref H.length))) := ⟨by rw [List.length_set]; exact e0.1, by rw [List.getElem?_set_ne (by decide)]; exact e0.2, by rw [List.getElem?_set_ne (by decide)]; exact e1, List.getElem?_set_self (by rw [e0.1]; decide)⟩
  have hm1 : Closed (H ++ [srcO a b cx]) := closed_one hm (low_good g)
  obtain ⟨env1, o1, en1, g1, m1, r1⟩ := secA_loop (k := k) 4 0 (srcO a b cx) 1 _ hm1 g (by decide) en
  obtain ⟨env2, o2, w, en2, g2, m2, w5, w3, x4, r2⟩ := secB (k := k) (rest := cBody ++ (dBody ++ (eBody ++ []))) m1 g1 (by decide) en1
  obtain ⟨env3, o3, en3, g3, m3, r3⟩ := secC (k := k) (rest := dBody ++ (eBody ++ [])) m2 g2 (by decide) en2 w5 w3 x4
  obtain ⟨env4, o4, en4, g4, m4, r4⟩ := secD (k := k) (rest := eBody ++ []) m3 g3 (by decide) en3
  obtain ⟨env5, o5, en5, m5, r5⟩ := secE (k := k) (rest := []) m4 g4 (by decide) en4
  refine ⟨env5, H ++ [o5], m5, ⟨en5.1, en5.2.1⟩, ?_⟩
  refine (sts_nx (st_asg (i := 2) (ex_call (exs_v (ex_var e0.2) (exs_v (ex_var e1) exs_nil)) e))).trans ?_
  refine (sts_nx ((st_forR (b := aBody) (exr_v (ex_cst (d := .int ((4 : Nat) : Int))) exr_nil) (src_r1 4 (by decide))).trans r1)).trans ?_
  rw [r2, r3, r4, r5, sts_nil]
theorem k_loop {k : Nat} {ns : List Int} (hn : ns.length ≤ 63) : ∀ (j lo : Nat) (H : MH) (env : Env), lo + j ≤ 10 → Closed H → (env.length = 19 ∧ env[0]? = some (some (.fz (ns.map .int)))) →
    ∃ env' H', Closed H' ∧ loopL (fun x env mh => match asgT (.nm 1) x env with
          | some env => sts (call T (k + 20)) kBody env mh
          | none => none) (rngD lo j) env H = some (.nx, env', H')
  | 0, lo, H, env, _, hm, _ => ⟨env, H, hm, rfl⟩
  | j + 1, lo, H, env, hl, hm, e0 => by
    have e0' : (env.set 1 (some (.int (lo : Nat)))).length = 19 ∧ (env.set 1 (some (.int (lo : Nat))))[0]? = some (some (.fz (ns.map .int))) := ⟨by rw [List.length_set]; exact e0.1, by rw [List.getElem?_set_ne (by decide)]; exact e0.2⟩
    have e1' : (env.set 1 (some (.int (lo : Nat))))[1]? = some (some (.int (lo : Nat))) := List.getElem?_set_self (by rw [e0.1]; decide)
    obtain ⟨env1, H1, m1, f1, r1⟩ := k_step (k := k) hn (by omega) hm e0' e1'
    obtain ⟨env2, H2, m2, r2⟩ := k_loop (k := k) hn j (lo + 1) H1 env1 (by omega) m1 f1
    refine ⟨env2, H2, m2, ?_⟩
    rw [rngD]
    exact (loopL_nx r1).trans r2
theorem main (ns : List Int) (hn : ns.length ≤ 63) : ∃ mh, call T 60 70 [.fz (ns.map D.int)] [] = some (.v (.bl true), mh) := by
  obtain ⟨m, hm, h2⟩ : ∃ m : Nat, (if (if (ns.length : Int) < 2 then (ns.length : Int) else 2) > 1 then (if (ns.length : Int) < 2 then (ns.length : Int) else 2) else 1) = (m : Int) ∧ m ≤ 2 := by
    by_cases q : (ns.length : Int) < 2
    · exact ⟨1, by rw [if_pos q]; split <;> omega, by decide⟩
    · exact ⟨2, by rw [if_neg q]; rfl, by decide⟩
  obtain ⟨env', H', m', r⟩ := k_loop (k := 39) hn m 0 [] [some (.fz (ns.map D.int)), none, none, none, none, none, none, none, none, none, none, none, none, none, none, none, none, none, none] (by omega) closed_nil ⟨rfl, rfl⟩
  refine ⟨[], ?_⟩
  have ll : bltR [] .len [.v (.fz (ns.map D.int))] = some (.v (.int (ns.length : Nat))) := by
    show some (R.v (.int ((ns.map D.int).length : Nat))) = _
    rw [List.length_map]
  refine call_data (T := T) (k := 59) (fd := fd70) rfl rfl rfl closed_nil rfl H' ?_
  rw [List.nil_append]
  have ea : exr (call T 59) [(.blt .max2 [(.cst (.int 1)), (.blt .min2 [(.cst (.int 2)), (.blt .len [(.var 0)])])])] [some (.fz (ns.map D.int)), none, none, none, none, none, none, none, none, none, none, none, none, none, none, none, none, none, none] [] = some ([.v (.int (m : Nat))], []) := by
    refine exr_v ?_ exr_nil
    refine (ex_blt (exr_v ex_cst (exr_v (ex_blt (exr_v ex_cst (exr_v (ex_blt (exr_v (ex_var rfl) exr_nil) ll) exr_nil)) min2S) exr_nil)) max2S).trans ?_
    rw [hm]
  show out (sts (call T 59) fd70.body [some (.fz (ns.map D.int)), none, none, none, none, none, none, none, none, none, none, none, none, none, none, none, none, none, none] []) = _
  refine (congrArg out ((sts_nx ((st_forR (b := kBody) ea (src_r1 m (by omega))).trans r)).trans (sts_rt (st_ret ex_cst)))).trans ?_
  rw [out_rt]
end K67
open PySem PySem.W PySem.Calls PyProof.Rows
theorem PySem.Challenge.cw_wormsinline_k67_whole_battles_and_their_holds : PySem.Challenge.rw_wormsinline_k67_whole_battles_and_their.Holds := by
  w_on; o_law
  refine HandSHeadRun.head_any (r := OpenLaw.row PySem.Challenge.rw_wormsinline_k67_whole_battles_and_their) (q := view (OpenLaw.row PySem.Challenge.rw_wormsinline_k67_whole_battles_and_their).prog [100]) (H := K67.Hd.hk) (ob := K67.Hd.ob) (M := 4000) (loose := K67.Hd.loose) (d := HandSHeadRun.topDef (OpenLaw.row PySem.Challenge.rw_wormsinline_k67_whole_battles_and_their).prog 100) (kwd := []) K67.Hd.ob_eq
    (by kernel_rfl) (fun s => by kernel_rfl) K67.Hd.run (by kernel_rfl) (by kernel_rfl) (by kernel_rfl) (by rfl) (by first | assumption | decide +kernel) (by decide +kernel) ⟨rfl, rfl, rfl, rfl, rfl, by decide +kernel⟩ ?hw ?hc
  case hw => w_witness2
  case hc =>
    refine L2.walk_ofE (l := PySem.Challenge.rw_wormsinline_k67_whole_battles_and_their) (n := 63) (k := 60) (x := "script") (CX := L2.CX0) rfl (by decide) (by kernel_rfl) ⟨rfl, by decide, by decide⟩ ?F (fun _ _ _ _ z => z)
    intro w mg fa h Y G hmg0
    obtain ⟨K, KX, c⟩ := Y
    have hmg : mg ("law" : PySem.Str) = some (.ref fa) := by
      have e : (HandSHeadRun.topDef (OpenLaw.row PySem.Challenge.rw_wormsinline_k67_whole_battles_and_their).prog 100).name = ("law" : PySem.Str) := by kernel_rfl
      rw [← e]
      exact hmg0
    obtain ⟨fd, hb, hs, hF⟩ := Ev.law_of (P := PySem.Challenge.rw_wormsinline_k67_whole_battles_and_their.prog) (w := w) (Ev.world_of KX G c K67.rows_ok) K67.hT (i := 70) (k := 60) (r := K67.row70) rfl rfl hmg K67.main
    exact ⟨K, fd, _, KX, hb, hs, fun base _ _ => hF base⟩
