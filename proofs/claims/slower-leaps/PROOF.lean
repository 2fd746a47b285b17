import PyProof.Rows.All
import Wide.All
import OpenK.AllK
import Wide.FinOn
import HandS.ForMost
import HandS.Sort
import HandS.TupLen
import HandS.Records
import HandS.Conv
import HandS.ListItems
import KE.KSortTupG
import KE.DataMinMax
import KE.KxIndex
import KE.SortData
import HandS.DictTup
import HandS.DictComp
import HandS.Walk
import KE.GoesNewDict
import KE.KDictZip
import KE.KTurns
import HandS.Wide
import HandS.Zip
import HandS.IsInst
import PySem.Challenge.RW_sleepmany_k09_whole_slower_leaps
import HandS.SetKeys
import HandS.More
import HandS.TupAny
import KE.DataEq
set_option Elab.async false
set_option linter.all false
set_option maxRecDepth 100000
set_option maxHeartbeats 4000000
/-! Rules that the hand layer lacks, part A. -/
namespace Sl
open PySem PySem.Spec PyProof.Rows L2
section
variable {X : Cx}

/-! ### truth of a dict with tuple keys -/
def rTruT : V → Hp → (Bool → Hp → Prop) → Prop := fun x H Q => ∃ (p : Addr) (kvs : List (List Key × V)), x = .ref p ∧ H p = some (.dT kvs) ∧ Q (!kvs.isEmpty) H
theorem isEmpty_len {α β : Type} {xs : List α} {ys : List β} (h : xs.length = ys.length) : xs.isEmpty = ys.isEmpty := by
  cases xs <;> cases ys <;> simp_all
theorem tru_dT : TruR X rTruT := by
  intro pins s σ H x v Q I rx h
  obtain ⟨p, kvs, rfl, hp, q⟩ := h
  obtain rfl : v = Value.ref p := rx
  obtain ⟨z, hd, ys, rel, dd⟩ := dt_of I.hok hp
  have hlen : kvs.length = ys.length := Paired.length rel
  have hfit : ((ys.length : Nat) : Int) < 2 ^ 63 := by rw [← hlen]; rw [sizeLine_eq] at z; omega
  have hne : (((ys.length : Nat) : Int) != 0) = !kvs.isEmpty := by
    rw [← hlen]
    cases kvs <;> simp <;> omega
  have key : wpAny (model X.prog X.w) X.A (runValue (.builtin "len" ⟨[.ref p], []⟩)) (fun r s' => r = .int ys.length (s.toks + 1) ∧ TP X pins σ Q (!kvs.isEmpty) s') X.xe s := by
    refine wpAny_runValue (codeAny_builtin entry_len ?_)
    rw [Around.under_plainId plain_len _]
    refine wpAny_mono (PySem.wpAny_len_body_dictH (Q := fun r s' => r = .int ys.length (s.toks + 1) ∧ TP X pins σ Q (!kvs.isEmpty) s') hd dd hfit ⟨rfl, ⟨H, I.tok _, q⟩⟩) (fun fin s' h' => ?_) fun _ _ e => e
    obtain ⟨r, rfl, hq⟩ := h'
    exact hq
  unfold truthy
  first
    | refine wpAny_bind (wpAny_callSpecial?_none (name := Str.ofString "__bool__") dd.typeIs noBool_dict ?_)
    | refine wpAny_bind (wpAny_pure (wpAny_bind (wpAny_callSpecial?_none (name := Str.ofString "__bool__") dd.typeIs noBool_dict ?_)))
  first
    | refine wpAny_bind (wpAny_specialOf (name := Str.ofString "__len__") dd.typeIs F.slot_dict_len.lookup ?_)
    | refine wpAny_bind (wpAny_pure (wpAny_bind (wpAny_specialOf (name := Str.ofString "__len__") dd.typeIs F.slot_dict_len.lookup ?_)))
  first
    | exact wpAny_bind (wpAny_mono key (fun r s' h' => by obtain ⟨rfl, hq⟩ := h'; exact wpAny_pure (hne ▸ hq)) fun _ _ e => e)
    | exact wpAny_bind (wpAny_pure (wpAny_bind (wpAny_mono key (fun r s' h' => by obtain ⟨rfl, hq⟩ := h'; exact wpAny_pure (hne ▸ hq)) fun _ _ e => e)))

/-! ### text * int -/
def rMulS : R2 := fun x y H Q => ∃ (z : Str) (k : Int), x = .str z ∧ y = .int k ∧ z.length ≤ 16 ∧ 0 ≤ k ∧ k ≤ 1000 ∧ ∀ z' : Str, (z'.length : Int) = z.length * k → Q (.str z') H
theorem op_mulS : OpR X (binaryOp .Mult) rMulS := by
  intro pins s σ H x y v u Q I rx ry h
  obtain ⟨z, k, rfl, rfl, hz, h0, h1, q⟩ := h
  obtain ⟨t, rfl⟩ := rx
  obtain ⟨t', rfl⟩ := ry
  refine PySem.W.KXi.mul (n := z.length) rfl hz (by omega) (by omega) fun t2 k2 _ hl => ?_
  exact ⟨.str _, H, I.tok _, ⟨_, rfl⟩, q _ (hl h0)⟩

/-! ### xs[i] op= e: the read by values -/
def rGetL (K : PySem.W.Frag) : V → V → Hp → VK → Prop := fun x y H Q => ∃ (p : Addr) (xs : List V) (i : Nat) (v : V), x = .ref p ∧ y = .int (i : Int) ∧ SqL K H p xs ∧ xs[i]? = some v ∧ Q v H
theorem pget_list : PGet X (rGetL X.K) := by
  intro pins s σ H x y v u Q I rx ry h
  obtain ⟨p, xs, i, z, rfl, rfl, hq, he, q⟩ := h
  obtain rfl : v = Value.ref p := rx
  obtain ⟨t, rfl⟩ := ry
  obtain ⟨its, r, pl, hz⟩ := I.list hq
  obtain ⟨w, ew, rw'⟩ := r.get he
  have hl := r.length
  have hn := line63
  have hi : i < its.length := (List.getElem?_eq_some_iff.mp ew).1
  exact getItem_listL pl.isList (by omega) (by omega) (by simpa using ew) ⟨z, H, I, rw', q⟩

/-! ### sorted(xs), xs a list of alike data -/
theorem each_pairs {R : Value → V → Prop} : ∀ {xs : List V} {us : List Value} {ds : List PyData}, Vals xs us → xs.length = ds.length → (∀ x u, RelV x u → R u x) → PySem.W.EachIs (fun u (b : V × PyData) => R u b.1) us (xs.zip ds)
  | [], _, [], r, _, _ => by cases r; exact .nil
  | [], _, _ :: _, _, h, _ => by cases h
  | _ :: _, _, [], _, h, _ => by cases h
  | x :: xs, _, d :: ds, r, h, f => by
    cases r with
    | cons r t => exact .cons (f _ _ r) (each_pairs t (by simpa using h) f)
theorem each_reads {h : Heap} : ∀ {xs : List V} {us : List Value} {ds : List PyData} {as : List Addr}, xs.length = ds.length → ReadsAll h us ds as → PySem.W.EachIs (fun u (b : V × PyData) => ∃ as, Reads h u b.2 as) us (xs.zip ds)
  | [], _, [], _, _, r => by cases r; exact .nil
  | [], _, _ :: _, _, h, _ => by cases h
  | _ :: _, _, [], _, h, _ => by cases h
  | x :: xs, _, d :: ds, _, h, r => by
    cases r with
    | cons r1 r2 => exact .cons ⟨_, r1⟩ (each_reads (by simpa using h) r2)
theorem each_vals : ∀ {us : List Value} {bs : List (V × PyData)}, PySem.W.EachIs (fun u (b : V × PyData) => RelV b.1 u) us bs → Vals (bs.map (·.1)) us
  | _, _, .nil => .nil
  | _, _, .cons r t => .cons r (each_vals t)
theorem dpa_len {K : PySem.W.Frag} {H : Hp} : ∀ {xs : List V} {ds : List PyData}, DpAll K H xs ds → xs.length = ds.length
  | _, _, .nil => rfl
  | _, _, .cons _ t => congrArg (· + 1) (dpa_len t)
theorem dpa_zip {K : PySem.W.Frag} {H : Hp} : ∀ {xs : List V} {ds : List PyData}, DpAll K H xs ds → ∀ b ∈ xs.zip ds, Dp K H b.1 b.2
  | _, _, .nil, b, hb => by simp at hb
  | _, _, .cons r t, b, hb => by
    rcases List.mem_cons.mp hb with e | hb
    · subst e; exact r
    · exact dpa_zip t b hb
theorem dpAll_of {K : PySem.W.Frag} {H : Hp} : ∀ {bs : List (V × PyData)}, (∀ b ∈ bs, Dp K H b.1 b.2) → DpAll K H (bs.map (·.1)) (bs.map (·.2))
  | [], _ => .nil
  | b :: bs, h => .cons (h b List.mem_cons_self) (dpAll_of fun c hc => h c (List.mem_cons_of_mem _ hc))
/-- sorted(xs): a new list of the same things, by their data in order -/
def rSortedDat (K : PySem.W.Frag) : List V → Hp → VK → Prop := fun vs H Q => ∃ (a : Addr) (xs : List V) (ds : List PyData), vs = [V.ref a] ∧ SqL K H a xs ∧ DpAll K H xs ds ∧ PySem.W.AllAlike ds ∧ PySem.W.Sortable ds ∧ (∀ d ∈ ds, d.depth ≤ 8) ∧
  ∀ (p : Addr) (ys : List V), H p = none → DpAll K H ys (ds.mergeSort (PySem.W.dataLe false id)) → Q (.ref p) (upd H p (.lst ys))
theorem cr_sortedDat (hu : X.A.units + 64 < cLine) : CallR X (.builtin "sorted") (rSortedDat X.K) := by
  intro pins s σ H vs us Q I r h
  obtain ⟨a, xs, ds, rfl, hs, hd, hal, hk, hdep, q⟩ := h
  obtain ⟨its, rv, hl, hz⟩ := I.list hs
  rw [Vals.ref1 r]
  obtain ⟨as, hr⟩ := Dp.readsAll I ds xs its hd rv
  have hxd := dpa_len hd
  have hxi := rv.length
  have em : (xs.zip ds).map (·.2) = ds := List.map_snd_zip (by omega)
  refine PySem.W.sorted_data (bs := xs.zip ds) (enc := fun b => b.2) (R := fun u b => RelV b.1 u) hl.isList (each_pairs rv hxd fun _ _ e => e) (each_reads hxd hr) (by rw [em]; exact hal) (by rw [em]; exact hk) (by rw [List.length_zip]; omega)
    (fun b hb => ?_) fun out ho he => ?_
  · have hb2 : b.2 ∈ ds := by rw [← em]; exact List.mem_map.mpr ⟨b, hb, rfl⟩
    have := hdep _ hb2
    omega
  · obtain ⟨ep, he'⟩ := PyProof.Rows.sortedAll_at s.heap its (List.toArray out)
    have hv := each_vals he
    have e2 : ((xs.zip ds).mergeSort (PySem.W.dataLe false fun b => b.2)).map (·.2) = ds.mergeSort (PySem.W.dataLe false id) := by
      refine (List.map_mergeSort (r := PySem.W.dataLe false fun b : V × PyData => b.2) (s := PySem.W.dataLe false id) (f := fun x : V × PyData => x.2) (l := xs.zip ds) (fun _ _ _ _ => rfl)).trans ?_
      rw [em]
    have hmem : ∀ b ∈ (xs.zip ds).mergeSort (PySem.W.dataLe false fun b => b.2), Dp X.K H b.1 b.2 := fun b hb => dpa_zip hd b ((List.mergeSort_perm _ _).mem_iff.mp hb)
    have hlen : (((xs.zip ds).mergeSort (PySem.W.dataLe false fun b => b.2)).map (·.1)).length ≤ sizeLine := by
      rw [hv.length, ho, List.length_zip]; omega
    refine ⟨.ref _, upd H (s.heap.objs.size + 1) (.lst (((xs.zip ds).mergeSort (PySem.W.dataLe false fun b => b.2)).map (·.1))), I.laid (t' := s.toks) (fun _ _ => PyProof.Rows.sortedAll_old) (Nat.le_succ _) ⟨hlen, out, ep, hv, by simpa using he'⟩, rfl, q _ _ (I.hok.fresh (Nat.le_succ _)) ?_⟩
    rw [← e2]
    exact dpAll_of hmem

/-! ### sorted(t), t a tuple of texts -/
def leS (a b : Str) : Bool := PySem.W.dataLe false PyData.str a b
def rSortedTS (K : PySem.W.Frag) : List V → Hp → VK → Prop := fun vs H Q => ∃ (a : Addr) (ss : List Str), vs = [V.ref a] ∧ SqT K H a (ss.map V.str) ∧ ss.length ≤ 1000 ∧
  ∀ (p : Addr), H p = none → Q (.ref p) (upd H p (.lst ((ss.mergeSort leS).map V.str)))
theorem each_strs {h : Heap} : ∀ {ss : List Str} {us : List Value}, Vals (ss.map V.str) us → PySem.W.EachIs (fun u (b : Str) => RelV (.str b) u) us ss
  | [], _, r => by cases r; exact .nil
  | s :: ss, _, r => by
    cases r with
    | cons r1 r2 => exact .cons r1 (each_strs (h := h) r2)
theorem each_strs2 {h : Heap} {x : Addr} : ∀ {ss : List Str} {us : List Value}, Vals (ss.map V.str) us → PySem.W.EachIs (fun u (b : Str) => ∃ as, Reads h u (PyData.str b) as ∧ x ∉ as) us ss
  | [], _, r => by cases r; exact .nil
  | s :: ss, _, r => by
    cases r with
    | cons r1 r2 =>
      obtain ⟨t, rfl⟩ := r1
      exact .cons ⟨[], .str _ _, by simp⟩ (each_strs2 r2)
theorem vals_strs : ∀ {us : List Value} {ss : List Str}, PySem.W.EachIs (fun u (b : Str) => RelV (.str b) u) us ss → Vals (ss.map V.str) us
  | _, _, .nil => .nil
  | _, _, .cons r t => .cons r (vals_strs t)
theorem cr_sortedTS (hu : X.A.units + 64 < cLine) : CallR X (.builtin "sorted") (rSortedTS X.K) := by
  intro pins s σ H vs us Q I r h
  obtain ⟨a, ss, rfl, hs, hn, q⟩ := h
  obtain ⟨its, rv, ⟨o, ho, hc, n, hd⟩, hz⟩ := I.tuple hs
  rw [Vals.ref1 r]
  have hli : (ss.map V.str).length = its.length := rv.length
  rw [List.length_map] at hli
  have h16 : (1000 : Nat) ≤ sizeLine := by rw [sizeLine_eq]; decide
  refine Calls.call_function_entry PyProof.Rows.kind_sorted PyProof.Rows.plain_sorted PyProof.Rows.entry_sorted (PyProof.Rows.args_sorted1 _) ?_
  unfold Builtin.«sorted»
  refine wpAny_bind (m := checkCount "sorted" 1 1 _) (wpAny_pure ?_)
  refine wpAny_bind (wpAny_collect_seq a (.inr rfl) ho hc hd (fun h' hk => ?_) (by rw [List.size_toArray]; omega))
  have el : its.toArray.toList = its := by simp
  rw [el]
  have I1 : Inv X pins σ H { s with heap := h' } := I.kept (t' := s.toks) hk
  refine wpAny_bind (wpAny_newList ?_ (by omega))
  have hoL : (h'.push (seqObj "list" its.toArray 0)).get? h'.objs.size = some (seqObj "list" its.toArray 0) := Heap.get?_push_size _ rfl
  show wpAny _ _ _ _ _ { s with heap := h'.push (seqObj "list" its.toArray 0) }
  have sortCall : wpAny (model X.prog X.w) X.A.in1 (call (.builtin "list.sort") [.ref h'.objs.size]) (fun _ s' => EP X pins σ Q (.ref h'.objs.size) s') (fun e s' => X.xe e s') { s with heap := h'.push (seqObj "list" its.toArray 0) } := by
    refine PySem.W.list_sort_data (bs := ss) (enc := PyData.str) (R := fun u (b : Str) => RelV (.str b) u) hoL (each_strs (h := h') rv) (each_strs2 rv) (PySem.W.AllAlike.of fun _ _ => by simp [PySem.W.alike]) (PySem.W.Sortable.others fun _ => ⟨by simp, by simp⟩) (by omega) (fun b _ => by
      have e1 : (PyData.str b).depth = 0 := by simp [PyData.depth]
      rw [e1]
      show X.A.units + 1 + 1 + 0 < cLine
      omega) fun out ho he => ?_
    obtain ⟨e', he'⟩ := PyProof.Rows.sortedHeap_at (vs := its) (out := out.toArray) hoL
    have hv := vals_strs he
    have hlen : ((ss.mergeSort leS).map V.str).length ≤ sizeLine := by rw [List.length_map, List.length_mergeSort]; omega
    refine ⟨.ref h'.objs.size, upd H h'.objs.size (.lst ((ss.mergeSort leS).map V.str)), I1.laid (t' := s.toks) (fun b u e => ?_) (Nat.le_refl _) (show ObjOk X.prog X.w _ _ _ (.lst ((ss.mergeSort leS).map V.str)) from ⟨hlen, out, e', hv, by simpa using he'⟩), rfl, q _ (I1.hok.fresh (Nat.le_refl _))⟩
    have hb : b < h'.objs.size := Heap.lt_size e
    rw [PyProof.Rows.sortedHeap_old (Nat.ne_of_lt hb) (by rw [size_push']; exact Nat.lt_succ_of_lt hb)]
    exact Heap.get?_push_of_some _ e
  refine wpAny_bind (wpAny_holding (wpAny_mono sortCall (fun r s' hr => ?_) fun _ _ e => e))
  exact wpAny_pure ⟨_, rfl, hr⟩

/-! ### min(xs), xs a list of triples of ints -/
abbrev T3 := Int × Int × Int
def t3D (t : T3) : PyData := .tuple [.int t.1, .int t.2.1, .int t.2.2]
def t3Lt (a b : T3) : Bool := decide (a.1 < b.1) || (decide (a.1 = b.1) && (decide (a.2.1 < b.2.1) || (decide (a.2.1 = b.2.1) && decide (a.2.2 < b.2.2))))
def min3 (x : T3) (xs : List T3) : T3 := xs.foldl (fun a y => if t3Lt y a then y else a) x
theorem t3D_lt (a b : T3) : PySem.W.dataLt (t3D a) (t3D b) = t3Lt a b := by
  obtain ⟨a1, a2, a3⟩ := a
  obtain ⟨b1, b2, b3⟩ := b
  have hal : ∀ i j : Int, PySem.W.alike (.int i) (.int j) = true := fun _ _ => by simp [PySem.W.alike]
  have e : PyProof.Rows.lexLt itemOrd (PySem.W.keyToksAll []) (PySem.W.keyToksAll []) = false := lex_irrefl _
  show PySem.W.dataLt (.tuple [.int a1, .int a2, .int a3]) (.tuple [.int b1, .int b2, .int b3]) = _
  rw [PySem.W.dataLt_tuple, PySem.W.dataLt_cons (hal _ _), PySem.W.dataLt_cons (hal _ _), PySem.W.dataLt_cons (hal _ _), e, PySem.W.dataLt_int, PySem.W.dataLt_int, PySem.W.dataLt_int]
  simp only [PyData.eqv, beq_iff_eq, t3Lt]
  by_cases h1 : a1 = b1 <;> by_cases h2 : a2 = b2 <;> by_cases h3 : a3 = b3 <;> simp [h1, h2, h3]
theorem t3D_depth (ts : List T3) : PyData.depthAll (ts.map t3D) ≤ 1 := by
  induction ts with
  | nil => simp [PyData.depthAll]
  | cons t r ih =>
    have e : (t3D t).depth = 1 := by simp [t3D, PyData.depth, PyData.depthAll]
    show PyData.depthAll (t3D t :: r.map t3D) ≤ 1
    rw [PyData.depthAll, e]
    omega
theorem t3D_alike (ts : List T3) : PySem.W.AlikeAll (ts.map t3D) := by
  refine ⟨fun x hx y hy => ?_, fun x hx => ?_⟩
  · obtain ⟨a, _, rfl⟩ := List.mem_map.mp hx
    obtain ⟨b, _, rfl⟩ := List.mem_map.mp hy
    simp [t3D, PySem.W.alike, PySem.W.alikeAll]
  · obtain ⟨a, _, rfl⟩ := List.mem_map.mp hx
    simp [t3D]
theorem dpa_get {K : PySem.W.Frag} {H : Hp} : ∀ {xs : List V} {ds : List PyData}, DpAll K H xs ds → ∀ {i : Nat} {x : V}, xs[i]? = some x → ∃ d, ds[i]? = some d ∧ Dp K H x d
  | _, _, .nil, i, x, e => by simp at e
  | _, _, .cons r t, 0, x, e => by
    have e := Option.some.inj e
    subst e
    exact ⟨_, rfl, r⟩
  | _, _, .cons r t, i + 1, x, e => dpa_get t (i := i) (by simpa using e)
theorem dp_int {K : PySem.W.Frag} {H : Hp} {v : V} {i : Int} (h : Dp K H v (.int i)) : v = .int i := by cases h; rfl
theorem dp_str {K : PySem.W.Frag} {H : Hp} {v : V} {i : Str} (h : Dp K H v (.str i)) : v = .str i := by cases h; rfl
theorem dp_tup {K : PySem.W.Frag} {H : Hp} {v : V} {ds : List PyData} (h : Dp K H v (.tuple ds)) : ∃ p xs, v = .ref p ∧ SqT K H p xs ∧ DpAll K H xs ds := by
  cases h with
  | tup a b => exact ⟨_, _, rfl, a, b⟩
theorem dp_lst {K : PySem.W.Frag} {H : Hp} {v : V} {ds : List PyData} (h : Dp K H v (.list ds)) : ∃ p xs, v = .ref p ∧ SqL K H p xs ∧ DpAll K H xs ds := by
  cases h with
  | lst a b => exact ⟨_, _, rfl, a, b⟩
theorem dpa_nil {K : PySem.W.Frag} {H : Hp} {xs : List V} (h : DpAll K H xs []) : xs = [] := by cases h; rfl
theorem dpa_cons {K : PySem.W.Frag} {H : Hp} {xs : List V} {d : PyData} {ds : List PyData} (h : DpAll K H xs (d :: ds)) : ∃ x r, xs = x :: r ∧ Dp K H x d ∧ DpAll K H r ds := by
  cases h with
  | cons a b => exact ⟨_, _, rfl, a, b⟩
theorem dp_t3 {K : PySem.W.Frag} {H : Hp} {v : V} {t : T3} (h : Dp K H v (t3D t)) : ∃ p, v = .ref p ∧ SqT K H p [.int t.1, .int t.2.1, .int t.2.2] := by
  obtain ⟨p, xs, rfl, hs, ha⟩ := dp_tup h
  obtain ⟨x1, r1, rfl, h1, ha⟩ := dpa_cons ha
  obtain ⟨x2, r2, rfl, h2, ha⟩ := dpa_cons ha
  obtain ⟨x3, r3, rfl, h3, ha⟩ := dpa_cons ha
  cases dpa_nil ha
  cases dp_int h1
  cases dp_int h2
  cases dp_int h3
  exact ⟨p, rfl, hs⟩
theorem reads_t3 {h : Heap} {v : Value} {t u : T3} {as bs : List Addr} (r1 : Reads h v (t3D t) as) (r2 : Reads h v (t3D u) bs) : t = u := by
  obtain ⟨t1, t2, t3⟩ := t
  obtain ⟨u1, u2, u3⟩ := u
  unfold t3D at r1 r2
  cases r1 with
  | tuple a1 a2 a3 a4 =>
    cases r2 with
    | tuple b1 b2 b3 b4 =>
      rw [a1] at b1
      cases b1
      rw [a3] at b3
      cases b3
      generalize hl : Array.toList _ = l at a4 b4
      cases a4 with
      | cons p1 q1 =>
        cases b4 with
        | cons p2 q2 =>
          cases q1 with
          | cons p3 q3 =>
            cases q2 with
            | cons p4 q4 =>
              cases q3 with
              | cons p5 q5 =>
                cases q4 with
                | cons p6 q6 =>
                  cases p1; cases p2; cases p3; cases p4; cases p5; cases p6
                  rfl
theorem min3_data (x : T3) (xs : List T3) : PySem.W.minD (t3D x) (xs.map t3D) = t3D (min3 x xs) := by
  unfold PySem.W.minD min3
  induction xs generalizing x with
  | nil => rfl
  | cons y r ih =>
    rw [List.map_cons, List.foldl_cons, List.foldl_cons, t3D_lt, ← ih]
    congr 1
    split <;> rfl
def rMin3 (K : PySem.W.Frag) : List V → Hp → VK → Prop := fun vs H Q => ∃ (a : Addr) (xs : List V) (t : T3) (ts : List T3), vs = [V.ref a] ∧ SqL K H a xs ∧ DpAll K H xs ((t :: ts).map t3D) ∧
  ∀ (p : Addr), SqT K H p [.int (min3 t ts).1, .int (min3 t ts).2.1, .int (min3 t ts).2.2] → Q (.ref p) H
theorem cr_min3 (hc : X.calm = true) (hu : X.A.units + 64 < cLine) : CallR X (.builtin "min") (rMin3 X.K) := by
  intro pins s σ H vs us Q I r h
  obtain ⟨a, xs, t, ts, rfl, hs, hd, q⟩ := h
  obtain ⟨its, rv, hl, hz⟩ := I.list hs
  rw [Vals.ref1 r]
  obtain ⟨as, hr⟩ := Dp.readsAll I _ xs its hd rv
  have hdep := t3D_depth (t :: ts)
  have hr' : ReadsAll s.heap its.toArray.toList (t3D t :: ts.map t3D) as := by
    have e : its.toArray.toList = its := by simp
    rw [e]
    exact hr
  refine PySem.W.min_list_data (I.ok.hd hc) hl.isList hr' (t3D_alike (t :: ts)) (by rw [List.map_cons] at hdep; omega) fun i v h' tk bs hi hm hk => ?_
  have hi' : its[i]? = some v := by simpa using hi
  have hlen := rv.length
  have hix : i < xs.length := by rw [hlen]; exact (List.getElem?_eq_some_iff.mp hi').1
  obtain ⟨x, hx⟩ : ∃ x, xs[i]? = some x := ⟨xs[i], List.getElem?_eq_getElem hix⟩
  obtain ⟨u, hu1, ru⟩ := rv.get hx
  rw [hi'] at hu1
  cases hu1
  obtain ⟨d, hdi, hdx⟩ := dpa_get hd hx
  rw [List.getElem?_map] at hdi
  obtain ⟨ti, hti, rfl⟩ : ∃ ti, (t :: ts)[i]? = some ti ∧ t3D ti = d := by
    cases e : (t :: ts)[i]? with
    | none => rw [e] at hdi; cases hdi
    | some y => rw [e] at hdi; exact ⟨y, rfl, Option.some.inj hdi⟩
  obtain ⟨as2, rd2⟩ := Dp.reads I _ x v hdx ru
  have I' : Inv X pins σ H { s with heap := h', toks := tk } := I.kept hk
  obtain ⟨as3, rd3⟩ := Dp.reads I' _ x v hdx ru
  rw [min3_data] at hm
  have e := reads_t3 rd3 hm
  subst e
  obtain ⟨p, rfl, hp⟩ := dp_t3 hdx
  exact ⟨.ref p, H, I', ru, q p hp⟩
end
end Sl

set_option Elab.async false
set_option linter.all false
set_option maxRecDepth 100000
set_option maxHeartbeats 4000000
/-! Rules that the hand layer lacks, part B: list(d.values()), items() of a dict with tuple keys, dict(zip(..)). -/
namespace Sl
open PySem PySem.Spec PyProof.Rows L2

/-! ### list(e.values()), e a dict by ints or texts -/
def tListVals (te : TE) : TE := fun σ H Q => te σ H fun x H1 => ∃ (d : Addr) (kvs : List (Key × V)), x = .ref d ∧ H1 d = some (.dK kvs) ∧ ∀ p, H1 p = none → Q (.ref p) (upd H1 p (.lst (kvs.map (·.2))))
section
variable {X : Cx} {e : Expr} {te : TE} {p apos cpos pos : Pos}
theorem kv_vals : ∀ {kvs : List (Key × V)} {vs : List (Key × Value)}, KV kvs vs → Vals (kvs.map (·.2)) (vs.map (·.2))
  | _, _, .nil => .nil
  | _, _, .cons r t => .cons r.2 (kv_vals t)
theorem pe_listVals (hc : X.calm = true) (he : PE X e te) (hg : Gl X "list") (hm : X.mg "list" = none) (hv : bootBuiltins "list" = some (.type "list") := by decide +kernel) (hbase : attributeBase e "values" X.env (eval e X.env) = eval e X.env := by rfl) (hline : (apos.endLine == cpos.line) = true := by rfl)
    (hs : starEach [.Call (.Attribute e "values" apos) [] [] cpos] X.env = (false, eval (.Call (.Attribute e "values" apos) [] [] cpos) X.env) :: starEach [] X.env := by rfl) :
    PE X (.Call (.Name "list" p) [.Call (.Attribute e "values" apos) [] [] cpos] [] pos) (tListVals te) := by
  refine ⟨fun pins s σ H Q I hq => ?_⟩
  refine wpAny_Call_Name_kw (ld_blt I hg hm hv ?_)
  refine PyProof.Rows.callWith_type1 ?_ hs rfl
  rw [hs]
  show wpAny _ _ (spliced ((false, eval (.Call (.Attribute e "values" apos) [] [] cpos) X.env) :: backTo pos (starEach [] X.env))) _ _ s
  refine Calls.spliced_cons ?_
  refine wpAny_Call_method (T := "dict") (id := "dict.values") hbase rfl hline F.plainAttrs_dict F.slot_dict_values F.type_dict_values (thn (he.run pins s σ H _ I hq) fun u s1 ⟨x, H1, I1, rx, d, kvs, ex, hd, q⟩ => ?_)
  subst ex
  obtain rfl : u = Value.ref d := rx
  obtain ⟨hz, hs0, vs, kv, hdo⟩ := I1.hok d _ hd
  obtain ⟨ep, hat⟩ := hdo.dictAt
  have lk : kvs.length = vs.length := Paired.length kv
  have I2 : Inv X pins σ H1 { s1 with heap := s1.heap.push { cls := .type "dict_values", data := .fields #[.ref d] } } := I1.kept (t' := s1.toks) fun b ob q => Heap.get?_push_of_some _ q
  refine ⟨hdo.typeIs, hdo.mapOf.noDict, ?_⟩
  show wpAny _ _ (callWith cpos (.builtin "dict.values") [.ref d] [] []) _ X.xe s1
  refine method_meetsIn F.slot_dict_values F.entry_dict_values rfl (PySem.evalArgs_none ⟨rfl, hdo.typeIs, F.args_dict_values_1 _, _, meets_dict_values (mixKind X.prog X.w) d hs0, ⟨vs, hdo⟩, ?_⟩)
  refine Calls.spliced_nil ?_
  refine PySem.W.kdl_call (PySem.W.kdl_values (knd := mixKind X.prog X.w) (kvs := vs) (ep := ep)) (I1.ok.hd hc) ⟨⟨_, Heap.get?_push_size _ rfl, rfl, rfl⟩, hat.push _⟩ (by rw [← lk]; exact hz) fun h' tk acc' c' hkeep hS hacc => ?_
  refine ⟨.ref _, upd H1 _ (.lst (kvs.map (·.2))), I2.laid (t' := tk) hkeep (Nat.le_refl _) (show ObjOk X.prog X.w _ _ _ (.lst (kvs.map (·.2))) from ⟨by rw [List.length_map]; exact hz, acc'.toList, c', ?_, by rw [Array.toArray_toList]; exact hS⟩), rfl, q _ (I2.hok.fresh (Nat.le_refl _))⟩
  have hvv := kv_vals kv
  have e1 : acc'.toList = vs.map (·.2) := by
    refine List.ext_getElem? fun j => ?_
    have l1 : acc'.toList.length = vs.length := by rw [Array.length_toList, hacc.1]
    by_cases hj : j < vs.length
    · obtain ⟨w, hw⟩ : ∃ w, acc'.toList[j]? = some w := ⟨_, List.getElem?_eq_getElem (by omega)⟩
      obtain ⟨k, hk⟩ := hacc.2 j w (by rw [← Array.getElem?_toList]; exact hw)
      rw [hw, List.getElem?_map, hk]
      rfl
    · rw [List.getElem?_eq_none (by omega), List.getElem?_eq_none (by rw [List.length_map]; omega)]
  rw [e1]
  exact hvv
end

/-! ### for (k, v) in d.items(), d a locked dict with tuple keys -/
def ItiT (d : Addr) (o : Obj) (kvs : List (List Key × V)) : It :=
  ⟨fun i H => H d = some (.frz o (.dT kvs)) ∧ i < kvs.length,
   fun i H x H' => ∃ T k v q, kvs[i]? = some (k, v) ∧ H q = some (.tup (k.map kV)) ∧ x = .ref T ∧ H T = none ∧ H' = upd H T (.tup [.ref q, v]),
   fun i H => H d = some (.frz o (.dT kvs)) ∧ kvs.length ≤ i⟩
section
variable {X : Cx} {pins : List (Addr × Obj)} {σ : L2.St} {H : Hp} {s : Shared} {d : Addr} {o : Obj}
theorem frzT2 {kvs : List (List Key × V)} (I : Inv X pins σ H s) (h : H d = some (.frz o (.dT kvs))) :
    (d == sysModules) = false ∧ s.heap.get? d = some o ∧ o.ExactDict ∧ ∃ (es : Array DictEntry) (ep : Nat), o.data = .dict es ep ∧ es.size = kvs.length ∧
      ∀ (i : Nat) (k : List Key) (v : V), kvs[i]? = some (k, v) → ∃ (en : DictEntry) (q : Addr), es[i]? = some en ∧ en.key = .ref q ∧ H q = some (.tup (k.map kV)) ∧ RelV v en.val := by
  obtain ⟨hd, z, hs, xs, pr, o', es, ep, ho, hx, hdt, he, _⟩ := I.hok d _ h
  rw [hd] at ho
  cases ho
  have l1 : es.size = xs.length := size_of_entries he
  have l2 : kvs.length = xs.length := Paired.length pr
  refine ⟨hs, hd, hx, es, ep, hdt, by omega, fun i k v e => ?_⟩
  obtain ⟨b, hb, e1, e2, e3⟩ := L2.paired_get pr e
  have q : es.toList[i]? = some (entryOfKey (tupleKind (mixKind X.prog X.w)) b) := by rw [he, List.getElem?_map, hb]; rfl
  exact ⟨_, b.2.1, by rw [← Array.getElem?_toList]; exact q, rfl, e2, e3⟩
end
section
variable {P : Program} {w : World} {K : PySem.W.Frag} {d : Addr} {o : Obj} {es : Array DictEntry} {ep : Nat}
theorem turn_itemsT {kvs : List (List Key × V)} {elts : List Expr} {kk : Nat} {tpos : Pos} (it : Addr) (hod : o.data = .dict es ep) (hes : es.size = kvs.length) :
    Turn P w K (.Tuple elts kk tpos) (ItiT d o kvs) [it] it (fun i h => ∃ ok ov, IsItemIter h it d i es.size ep ok ov) where
  mem := by simp
  obj := fun i h st b hb => by
    have e : b = it := by simpa using hb
    subst e
    obtain ⟨ok, ov, e⟩ := st
    exact ⟨_, e, fun v z => nomatch z⟩
  keep := fun i h h' st k => let ⟨ok, ov, e⟩ := st; ⟨ok, ov, k it (by simp) _ e⟩
  item := by
    intro X hP hw hK hc i pins s σ H E I hf st hg
    subst hP hw hK
    obtain ⟨hd, hi⟩ := hg
    obtain ⟨hs, hgd, hx, es', ep', hdt, hsz, ent⟩ := frzT2 I hd
    obtain ⟨rfl, rfl⟩ := dict_ep hod hdt
    obtain ⟨⟨k, v⟩, hkv⟩ : ∃ p, kvs[i]? = some p := ⟨kvs[i], List.getElem?_eq_getElem hi⟩
    obtain ⟨en, q, hen, hkey, hq, rv⟩ := ent i k v hkv
    have fit := hf it (by simp)
    have hne : d ≠ it := fun z => by
      have y := fit.1
      rw [← z, hd] at y
      cases y
    have W := PySem.GoesN.rawItems (prog := X.prog) (w := X.w) (A := X.A) (elts := elts) (x1 := kk) (pos := tpos) (I.ok.hd hc) it d hne es' ep'
    refine wpAny_mono (W.goes i s (fun vv s2 => ∃ x H', Inv X pins σ H' s2 ∧ RelV x vv ∧ (ItiT d o kvs).yld i H x H' ∧ (∃ ok ov, IsItemIter s2.heap it d (i + 1) es'.size ep' ok ov) ∧ ∀ b ∈ [it], H' b = none) E (by omega) ⟨st, ⟨o, hgd, hx, hdt⟩⟩ fun vv h' tk hy hst hk _ => ?_) (fun r s1 hr => hr) fun _ _ e => e
    obtain ⟨T, hi2, rfl, hT, oT, hoT, hcT, nT, hdT⟩ := hy
    have een : es'[i] = en := by
      have z := Array.getElem?_eq_getElem hi2
      rw [hen] at z
      exact (Option.some.inj z).symm
    have new : ObjOk X.prog X.w (upd H T (.tup [.ref q, v])) h' T (.tup [.ref q, v]) :=
      ⟨by show 2 ≤ sizeLine; decide, [en.key, en.val], .cons (by rw [hkey]; exact rfl) (.cons rv .nil), ⟨oT, hoT, hcT, nT, by rw [hdT, een]⟩⟩
    have hTn : H T = none := I.hok.fresh hT
    refine ⟨.ref T, _, I.turnedNew (t' := tk) (ch := [it]) hk hf hT new, rfl, ⟨T, k, v, q, hkv, hq, rfl, hTn, rfl⟩, hst.1, fun b hb => ?_⟩
    have e : b = it := by simpa using hb
    obtain ⟨ok, ov, hit⟩ := st
    have hlt : it < s.heap.objs.size := Heap.lt_size hit
    rw [e, upd_ne (Nat.ne_of_lt (Nat.lt_of_lt_of_le hlt hT))]
    exact fit.1
  done := by
    intro X hP hw hK hc i pins s σ H E I hf st hg
    subst hP hw hK
    obtain ⟨hd, hi⟩ := hg
    obtain ⟨f0, f1, f2, f3, f4, f5⟩ := hf it (by simp)
    obtain ⟨hs, hgd, hx, es', ep', hdt, hsz, ent⟩ := frzT2 I hd
    obtain ⟨rfl, rfl⟩ := dict_ep hod hdt
    obtain ⟨ok, ov, he⟩ := st
    exact DT.endI (I.ok.hd hc) he ⟨o, hgd, hx, hdt⟩ (by omega) fun h' eb => ⟨rfl, I.turned (t' := s.toks) (fun b ob hb e => eb b ob hb e) f0 f1 f3 f4 f5⟩
  self := fun A i s Q E st h => let ⟨_, _, e⟩ := st; PySem.W.kcp_self e h
end
def iItemsT (td : TE) : TI := fun σ H R => td σ H fun x H1 => ∃ d o kvs, x = .ref d ∧ H1 d = some (.frz o (.dT kvs)) ∧ R (ItiT d o kvs) H1
theorem pi_itemsT {X : Cx} {e : Expr} {td : TE} {apos cpos : Pos} {elts : List Expr} {kk : Nat} {tpos : Pos} (he : PE X e td) (hbase : attributeBase e "items" X.env (eval e X.env) = eval e X.env := by rfl) (hline : (apos.endLine == cpos.line) = true := by rfl) :
    PI X (.Tuple elts kk tpos) (.Call (.Attribute e "items" apos) [] [] cpos) (iItemsT td) := by
  refine ⟨fun pins s σ H R I h => ?_⟩
  refine wpAny_Call_method (T := "dict") (id := "dict.items") hbase rfl hline F.plainAttrs_dict F.slot_dict_items F.type_dict_items (thn (he.run pins s σ H _ I h) fun u s1 ⟨x, H1, I1, rx, d, o, kvs, ex, hd, q⟩ => ?_)
  subst ex
  obtain rfl : u = Value.ref d := rx
  obtain ⟨hs, hgd, hx, es, ep, hdt, hsz, ent⟩ := frzT2 I1 hd
  have raw : DT.Raw s1.heap d es ep := ⟨o, hgd, hx, hdt⟩
  refine ⟨raw.typeIs, ?nodict, ?_⟩
  case nodict =>
    intro a e
    cases e
    exact ⟨o, hgd, hx.2.1⟩
  have I2 : Inv X pins σ H1 { s1 with heap := s1.heap.push { cls := .type "dict_items", data := .fields #[.ref d] } } := I1.kept (t' := s1.toks) fun b ob q => Heap.get?_push_of_some _ q
  have fin : wpAny (model X.prog X.w) X.A (pyIter (.ref s1.heap.objs.size)) (PIE X pins σ (.Tuple elts kk tpos) R) X.xe { s1 with heap := s1.heap.push { cls := .type "dict_items", data := .fields #[.ref d] } } := by
    refine DT.iterI (d := d) (es := es) (ep := ep) ⟨_, Heap.get?_push_size _ rfl, rfl, rfl⟩ (raw.push _) (pi_one (tk := s1.toks) I2 _ (turn_itemsT _ hdt hsz) ⟨.none, .none, Heap.get?_push_size _ rfl⟩ q)
  show wpAny _ _ (callWith cpos (.builtin "dict.items") [.ref d] [] []) _ X.xe s1
  exact method_meetsIn F.slot_dict_items F.entry_dict_items rfl (PySem.evalArgs_none ⟨rfl, raw.typeIs, F.args_dict_items_1 _, _, DT.meetsItems (es := es) (ep := ep) hs, ⟨raw, fin⟩⟩)

/-! ### dict(zip(xs, ys)), xs texts -/
def tDictZip (K : PySem.W.Frag) (ta : TA) : TE := fun σ H Q => ta σ H fun vs H1 => ∃ (a b : Addr) (ks : List Str) (xs : List V), vs = [.ref a, .ref b] ∧ SqL K H1 a (ks.map V.str) ∧ SqL K H1 b xs ∧ ks.length = xs.length ∧
  ∀ p, H1 p = none → Q (.ref p) (upd H1 p (.dK (mergeK [] ((ks.map Sum.inr).zip xs))))
theorem kv_zip : ∀ {ks : List Str} {us : List Value} {xs : List V} {ws : List Value}, Vals (ks.map V.str) us → Vals xs ws → KV ((ks.map (Sum.inr : Str → Key)).zip xs) ((ks.map (Sum.inr : Str → Key)).zip ws)
  | [], _, _, _, _, _ => .nil
  | k :: ks, us, xs, ws, ru, rx => by
    cases rx with
    | nil => exact .nil
    | cons r t =>
      cases ru with
      | cons r2 t2 => exact .cons ⟨rfl, r⟩ (kv_zip t2 t)
theorem strs_at : ∀ {ks : List Str} {us : List Value} {i : Nat} {u : Value}, Vals (ks.map V.str) us → us[i]? = some u → ∃ k, (ks.map (Sum.inr : Str → Key))[i]? = some (.inr k) ∧ keyIs (.inr k) u = true
  | [], _, i, u, r, e => by cases r; simp at e
  | k :: ks, us, 0, u, r, e => by
    cases r with
    | cons r t =>
      obtain ⟨tk, rfl⟩ := r
      have e := Option.some.inj e
      subst e
      exact ⟨k, rfl, keyIs_str _ _⟩
  | k :: ks, us, i + 1, u, r, e => by
    cases r with
    | cons r t => exact strs_at t (i := i) (by simpa using e)
section
variable {X : Cx} {e e2 : Expr} {ta : TA} {p p2 pos pos2 : Pos}
theorem pe_dictZip (hc : X.calm = true) (ha : PA X [e, e2] ta) (hg : Gl X "dict") (hm : X.mg "dict" = none) (hg2 : Gl X "zip") (hm2 : X.mg "zip" = none) (hv : bootBuiltins "dict" = some (.type "dict") := by decide +kernel)
    (hs2 : starEach [e, e2] X.env = (false, eval e X.env) :: starEach [e2] X.env := by rfl) (hpl2 : (backTo pos2 (starEach [e2] X.env)).any (·.1) = false := by rfl)
    (hs : starEach [.Call (.Name "zip" p2) [e, e2] [] pos2] X.env = (false, eval (.Call (.Name "zip" p2) [e, e2] [] pos2) X.env) :: starEach [] X.env := by rfl) :
    PE X (.Call (.Name "dict" p) [.Call (.Name "zip" p2) [e, e2] [] pos2] [] pos) (tDictZip X.K ta) := by
  refine ⟨fun pins s σ H Q I hq => ?_⟩
  refine wpAny_Call_Name_kw (ld_blt I hg hm hv ?_)
  refine PyProof.Rows.callWith_type1 ?_ hs rfl
  rw [hs]
  show wpAny _ _ (spliced ((false, eval (.Call (.Name "zip" p2) [e, e2] [] pos2) X.env) :: backTo pos (starEach [] X.env))) _ _ s
  refine Calls.spliced_cons ?_
  refine wpAny_Call_Name_kw (ld_blt I hg2 hm2 PyProof.Rows.boot_zip (PyProof.Rows.callWith_type1 (thn (ha.run pos2 pins s σ H _ I hq) fun us s1 ⟨vs, H1, I1, r1, a, b, ks, xs, ex, hqx, hqy, hlen, q⟩ => ?_) hs2 hpl2))
  subst ex
  cases r1 with
  | cons r rr =>
    cases rr with
    | cons r' rr =>
      cases rr
      cases r
      cases r'
      obtain ⟨its, rv, p1, hz1⟩ := I1.list hqx
      obtain ⟨its2, rv2, p2', hz2⟩ := I1.list hqy
      have la : a < s1.heap.objs.size := p1.lt
      have lb : b < s1.heap.objs.size := p2'.lt
      have l1 := rv.length
      have l2 := rv2.length
      rw [List.length_map] at l1
      refine call_zip_2 p1.isList p2'.isList fun h' hz hTI hTO h1 h2 hsz hk => ?_
      refine Calls.spliced_nil ?_
      have I2 : Inv X pins σ H1 { s1 with heap := h' } := I1.kept (t' := s1.toks) hk
      have hap := PySem.W.ktu_apart s1.heap.objs.size a b la lb
      refine call_dict_pairs (knd := mixKind X.prog X.w) (kvs := (ks.map (Sum.inr : Str → Key)).zip its2) (PairArg.zip _ _ _ _ _ _ _ hap its.toArray its2.toArray) (I1.ok.hd hc) ⟨hz, hTI, ⟨_, _, hTO⟩, h1, h2, p1.isList.at fun o e => hk _ o e, p2'.isList.at fun o e => hk _ o e⟩ ?_ ?_ ?_
      · refine ⟨?_, fun i key v hrel => ?_⟩
        · rw [List.length_zip, List.length_map, List.size_toArray, List.size_toArray]; omega
        · obtain ⟨g1, g2⟩ := hrel
          obtain ⟨k, e1, e2⟩ := strs_at rv (i := i) (u := key) (by simpa using g1)
          refine ⟨.inr k, ?_, e2⟩
          rw [List.getElem?_zip_eq_some]
          exact ⟨e1, by simpa using g2⟩
      · rw [List.size_toArray, List.size_toArray]; omega
      · intro h2' tk hd' hk2
        have kvr := kv_zip rv rv2
        have hbig : (s1.heap.objs.size + 5) ≠ sysModules := Nat.ne_of_gt (Nat.lt_of_lt_of_le I1.big (Nat.le_add_right _ _))
        have hs5 : ({ s1 with heap := h' } : Shared).heap.objs.size = s1.heap.objs.size + 5 := hsz
        rw [hs5] at hd'
        rw [hs5]
        have hlen2 : (mergeK [] ((ks.map (Sum.inr : Str → Key)).zip xs)).length ≤ sizeLine := by
          refine Nat.le_trans (length_mergeK _ []) ?_
          rw [List.length_nil, Nat.zero_add, List.length_zip, List.length_map]
          omega
        have fr : ∀ c, s1.heap.objs.size ≤ c → FpOk X pins H1 c := fun c hle => I1.fpOk hle (I1.hok.fresh hle)
        refine ⟨.ref (s1.heap.objs.size + 5), upd H1 (s1.heap.objs.size + 5) (.dK (mergeK [] ((ks.map (Sum.inr : Str → Key)).zip xs))), I2.turnedNew (t' := tk) (ch := [s1.heap.objs.size + 4, s1.heap.objs.size + 3, s1.heap.objs.size, s1.heap.objs.size + 1]) hk2 (fun c hcm => ?_) (by rw [hs5]; exact Nat.le_refl _)
          (show ObjOk X.prog X.w _ _ _ (.dK (mergeK [] ((ks.map (Sum.inr : Str → Key)).zip xs))) from ⟨hlen2, beq_eq_false_iff_ne.mpr hbig, merged [] ((ks.map (Sum.inr : Str → Key)).zip its2), KV.merge kvr .nil, hd'⟩), rfl, q _ (I1.hok.fresh (Nat.le_add_right _ _))⟩
        refine fr c ?_
        have e' : c = s1.heap.objs.size + 4 ∨ c = s1.heap.objs.size + 3 ∨ c = s1.heap.objs.size ∨ c = s1.heap.objs.size + 1 := by simpa using hcm
        rcases e' with z | z | z | z
        · rw [z]; exact Nat.le_add_right _ _
        · rw [z]; exact Nat.le_add_right _ _
        · rw [z]; exact Nat.le_refl _
        · rw [z]; exact Nat.le_add_right _ _
end
end Sl

set_option Elab.async false
set_option linter.all false
set_option maxRecDepth 100000
set_option maxHeartbeats 4000000
/-! Rules that the hand layer lacks, part C: a dict comprehension whose keys are tuples that stand already. -/
namespace Sl
open PySem PySem.Spec PyProof.Rows L2
section
variable {X : Cx} {pins : List (Addr × Obj)} {σ : L2.St} {H : Hp} {s : Shared} {E : Value → Shared → Prop}
/-- a comprehension's own store, the key a tuple at b -/
theorem compStoreT {D b : Addr} {kvs : List (List Key × V)} {k : List Key} {v : V} {r : Value} {Q : Unit → Shared → Prop} (hu : X.A.units < cLine) (I : Inv X pins σ H s) (hD : H D = some (.dT kvs)) (hb : H b = some (.tup (k.map kV))) (hz : kvs.length < sizeLine)
    (rv : RelV v r) (q : ∀ s', Inv X pins σ (upd H D (.dT (putK kvs k v))) s' → Q () s') : wpAny (model X.prog X.w) X.A (dictSet D (.ref b) r) Q E s := by
  obtain ⟨z, hd, xs, rel, dd⟩ := dt_of I.hok hD
  have hzx : xs.length ≤ sizeLine := by rw [← Paired.length rel]; exact z
  have hl : (putK kvs k v).length ≤ sizeLine := by have := length_putK kvs k v; omega
  refine wpAny_dictSet_heap (hsz := hzx) (show (tupleKind (mixKind X.prog X.w)).room X.A from hu) (key_of I.hok hb) dd fun h' dd' hs => q _ ?_
  obtain ⟨ob, es, ep, hq, h2, h3, h4, _, h5⟩ := dd'
  refine d_write I (by rw [hD]; exact True.intro) hs ⟨ob, hq⟩ ⟨hl, hd, _, (rel.put k hb rv).keeps fun c ys ec => ?_, ob, es, ep, hq, h2, h3, h4, h5⟩
  rw [upd_ne (ne_of ec hD (fun z => nomatch z))]
  exact ec
end
section
variable {X : Cx}
/-- {k: v for target in iter if ..}: Pv by the turn and the heap, D the new dict, at most n turns -/
def tDcT (wi : TI) (g : TG) (tt : TT) (tk tv : TE) (vs : List Nat) : TE := fun σ H Q => wi σ H fun J H1 => ∀ D, H1 D = none → ∃ (n : Nat) (Pv : Nat → Hp → Prop), Pv 0 (upd H1 D (.dT [])) ∧ ∀ i H, Pv i H →
  (J.stop i H ∧ Q (.ref D) H) ∨ (i < n ∧ J.go i H ∧ ∀ x H', J.yld i H x H' → g x (wipe σ vs) H' fun σ2 H2 => wipe σ2 vs = wipe σ vs ∧ tt σ2 H2 fun c H3 =>
    if c = true then tk σ2 H3 fun y H4 => tv σ2 H4 fun z H5 => ∃ kvs k b, y = .ref b ∧ H5 D = some (.dT kvs) ∧ H5 b = some (.tup (k.map kV)) ∧ kvs.length < sizeLine ∧ Pv (i + 1) (upd H5 D (.dT (putK kvs k z))) else Pv (i + 1) H3)
theorem pe_dcT {kx vx tg iter : Expr} {ifs : List Expr} {scope : Scope} {own : List (Str × Nat)} {pos : Pos} {wi : TI} {g : TG} {tt : TT} {tk tv : TE} (hc : X.calm = true) (hu : X.A.units < cLine) (hN : X.N.Nodup) (hi : PI X tg iter wi) (ok : BlkOk X.N X.env.scope scope own)
    (hg : ∀ (s : Shared) (H : Hp) (C : Addr) (cl : List (Str × Addr)) (fp : List Addr), PG (X.blk s H scope (compEnvC scope cl C X.env) fp) tg g)
    (ht : ∀ (s : Shared) (H : Hp) (C : Addr) (cl : List (Str × Addr)) (fp : List Addr), PTs (X.blk s H scope (compEnvC scope cl C X.env) fp) ifs tt)
    (hk : ∀ (s : Shared) (H : Hp) (C : Addr) (cl : List (Str × Addr)) (fp : List Addr), PE (X.blk s H scope (compEnvC scope cl C X.env) fp) kx tk)
    (hv : ∀ (s : Shared) (H : Hp) (C : Addr) (cl : List (Str × Addr)) (fp : List Addr), PE (X.blk s H scope (compEnvC scope cl C X.env) fp) vx tv)
    (hs : ∀ x, foldedSetIterable iter X.env x = pure x := by intro _; rfl) :
    PE X (.DictComp kx vx [⟨tg, iter, ifs, 0⟩] scope pos) (tDcT wi g tt tk tv (own.map (·.2))) := by
  refine ⟨fun pins s σ H Q I h => ?_⟩
  rw [arm_eval_DictComp]
  have cells : ∀ y ∈ scope.names, y.2 = .free → ∃ c, X.env.cells.lookup y.1 = some c := fun y hy e => (ok.free y hy e).elim (fun k => I.ok.has _ (.inl k)) fun k => I.ok.has _ (.inr k)
  refine wpAny_comprehension_free (use := none) rfl hs (closure_ok cells) ok.kind (fun y hy e => by rw [ok.uniq y hy, e]) (thn (hi.run pins s σ H _ I h) fun _ _ hit => thn hit fun _ t hit => ?_)
  obtain ⟨it, fp, tn, J, G, rfl, IG, T, go0, free0, q⟩ := hit
  refine wpAny_newObj_type (newEnv_comp ?_)
  have newD : G t.heap.objs.size = none := IG.hok.fresh (Nat.le_refl _)
  obtain ⟨n, Pv, p0, turn⟩ := q _ newD
  have below : ∀ b ∈ fp, b < t.heap.objs.size := fun b hb => by
    obtain ⟨o, e, _⟩ := T.obj _ _ go0 b hb
    exact Heap.lt_size e
  -- the dict laid: the state u, the abstract heap G1
  have IU0 : Inv X pins σ (upd G t.heap.objs.size (.dT [])) { t with heap := t.heap.push { cls := .type "dict", data := .dict #[] } } :=
    IG.laid (t' := t.toks) (fun b o e => Heap.get?_push_of_some _ e) (Nat.le_refl _) (dt_empty t.heap IG.big)
  have go1 : tn 0 (t.heap.push { cls := .type "dict", data := .dict #[] }) := T.keep _ _ _ go0 fun b _ o e => Heap.get?_push_of_some _ e
  have free1 : ∀ b ∈ fp, FpOk X pins (upd G t.heap.objs.size (.dT [])) b := fun b hb => by
    refine ⟨?_, (free0 b hb).2⟩
    rw [upd_ne (Nat.ne_of_lt (below b hb))]
    exact (free0 b hb).1
  generalize hD : t.heap.objs.size = D at *
  generalize hG1 : upd G D (.dT []) = G1 at *
  obtain ⟨u, hU⟩ : ∃ u : Shared, u = { t with heap := t.heap.push { cls := .type "dict", data := .dict #[] } } := ⟨_, rfl⟩
  have IU : Inv X pins σ G1 u := by rw [hU]; exact IU0
  have hUh : u.heap = t.heap.push { cls := .type "dict", data := .dict #[] } := by rw [hU]
  have free2 : ∀ b ∈ fp, FpOk X pins G1 b ∧ b < u.heap.objs.size := fun b hb => ⟨free1 b hb, by rw [hUh, Heap.size_push]; exact Nat.lt_succ_of_lt (by rw [hD]; exact below b hb)⟩
  have IB := block_start IU ok hN free2
  have none0 : ∀ b ∈ fp, G1 b = none := fun b hb => (free1 b hb).1
  show codeAny _ _ (.compStart (.DictComp kx vx [⟨tg, iter, ifs, 0⟩] scope pos) 0 (.ref it) (.ref D) (compEnvC scope (cellsFrom ({ t with heap := t.heap.push { cls := .type "dict", data := .dict #[] } : Shared }.heap.objs.size + 1) scope.names (cloFrom X.env.cells scope.names [])) { t with heap := t.heap.push { cls := .type "dict", data := .dict #[] } : Shared }.heap.objs.size X.env)) _ { ({ t with heap := t.heap.push { cls := .type "dict", data := .dict #[] } } : Shared) with heap := pushCells (({ t with heap := t.heap.push { cls := .type "dict", data := .dict #[] } } : Shared).heap.push { cls := .type "dict", data := .dict #[] }) scope.names }
  rw [← hU]
  have go2 : tn 0 u.heap := by rw [hUh]; exact go1
  have pg := hg u G1 u.heap.objs.size (cellsFrom (u.heap.objs.size + 1) scope.names (cloFrom X.env.cells scope.names [])) fp
  have pt := ht u G1 u.heap.objs.size (cellsFrom (u.heap.objs.size + 1) scope.names (cloFrom X.env.cells scope.names [])) fp
  have pk := hk u G1 u.heap.objs.size (cellsFrom (u.heap.objs.size + 1) scope.names (cloFrom X.env.cells scope.names [])) fp
  have pv := hv u G1 u.heap.objs.size (cellsFrom (u.heap.objs.size + 1) scope.names (cloFrom X.env.cells scope.names [])) fp
  have frame : (compEnvC scope (cellsFrom (u.heap.objs.size + 1) scope.names (cloFrom X.env.cells scope.names [])) u.heap.objs.size X.env).locals = u.heap.objs.size := rfl
  generalize compEnvC scope (cellsFrom (u.heap.objs.size + 1) scope.names (cloFrom X.env.cells scope.names [])) u.heap.objs.size X.env = ce at *
  generalize hB : ({ u with heap := pushCells (u.heap.push { cls := .type "dict", data := .dict #[] }) scope.names } : Shared) = v0 at IB ⊢
  have go3 : tn 0 v0.heap := T.keep _ _ _ go2 fun b _ o e => by rw [← hB]; exact pushCells_keeps _ _ _ _ (Heap.get?_push_of_some _ e)
  -- within the block the walked thing's own records are as they were found
  have rcd : ∀ {σ' : L2.St} {H' : Hp} {v : Shared}, Inv (X.blk u G1 scope ce fp) [] σ' H' v → (∀ b ∈ fp, H' b = none) → ∀ b ∈ fp, FpOk (X.blk u G1 scope ce fp) [] H' b := fun {σ' H' v} IV hn b hb =>
    ⟨hn b hb, (IV.ok.exf b hb).1, IV.ok.exfs b hb, .inl hb, fun x c e => (IV.ok.exf b hb).2 x c e, fun p hp => absurd (show p ∈ ([] : List (Addr × Obj)) ++ [] from hp) (by simp)⟩
  have run : codeAny (model X.prog X.w) X.A (.compLoop (.DictComp kx vx [⟨tg, iter, ifs, 0⟩] scope pos) 0 (.ref it) (.ref D) ce) (compPost (model X.prog X.w) X.A X.xe none (EP X pins σ Q) (.ref D) u.heap.objs.size) v0 := by
    refine compLoop_anyD (fun m v => ∃ i H', m = n - i ∧ Inv (X.blk u G1 scope ce fp) [] (wipe σ (own.map (·.2))) H' v ∧ tn i v.heap ∧ (∀ b ∈ fp, H' b = none) ∧ Pv i H') ?_ (n - 0) ⟨0, G1, rfl, IB, go3, none0, p0⟩
    rintro m v ⟨i, H5, rfl, IV, goV, noneV, pV⟩
    rcases turn i H5 pV with ⟨stop, fin⟩ | ⟨lt, go, step⟩
    · refine thnF (T.done (X.blk u G1 scope ce fp) rfl rfl rfl hc i [] v _ H5 (fun _ _ => False) IV (rcd IV noneV) goV stop) fun r v' ⟨hr, IE⟩ => ?_
      subst hr
      have IX : Inv X pins σ H5 v' := IU.call' (ch := fp) IE.os IE.base IE.hok IE.bare fun b hb => ⟨(free2 b hb).1.2.2.2.1, (free2 b hb).1.2.1, (free2 b hb).1.2.2.2.2.1, (free2 b hb).1.2.2.2.2.2⟩
      have nC : H5 u.heap.objs.size = none := by
        have z : H5 ce.locals = none := IE.free
        rw [frame] at z
        exact z
      obtain ⟨mm, hn, _⟩ := IE.loc
      have hn : v'.heap.Ns ce.locals mm := hn
      rw [frame] at hn
      refine ⟨mm, hn, fun h'' sb => ?_⟩
      obtain ⟨f0, f1, f2, f3, f4, f5⟩ := IU.fpOk (Nat.le_refl _) nC
      exact ⟨.ref D, H5, IX.turned (t' := v'.toks) (fun b o hb e => (sb.2 b hb).trans e) f0 f1 f3 f4 f5, rfl, fin⟩
    · refine thnF (T.item (X.blk u G1 scope ce fp) rfl rfl rfl hc i [] v _ H5 (fun _ _ => False) IV (rcd IV noneV) goV go) fun r v1 ⟨w, hr, hw⟩ => ?_
      subst hr
      refine thnF hw fun _ v2 ⟨x, H7, I7, r7, y7, go7, none7⟩ => ?_
      have I7' := I7.pinned (rcd I7 none7) (T.obj _ _ go7)
      refine thnF (pg.run _ v2 _ H7 x w _ I7' r7 (step x H7 y7)) fun _ v3 ⟨σ8, H8, I8, wp8, q8⟩ => ?_
      refine thnF (pt.run _ v3 σ8 H8 _ I8 q8) fun c v4 ⟨H9, I9, q9⟩ => ?_
      -- the turn is over: the records are still there, the slots wiped again
      have close : ∀ {v' : Shared} {H' : Hp}, Inv (X.blk u G1 scope ce fp) ([] ++ pinsAt fp v2.heap) σ8 H' v' → Pv (i + 1) H' →
          ∃ m, m < n - i ∧ ∃ i H', m = n - i ∧ Inv (X.blk u G1 scope ce fp) [] (wipe σ (own.map (·.2))) H' v' ∧ tn i v'.heap ∧ (∀ b ∈ fp, H' b = none) ∧ Pv i H' := fun {v' H'} IZ pz => by
        have still : ∀ b ∈ fp, ∀ o, v2.heap.get? b = some o → v'.heap.get? b = some o ∧ H' b = none := fun b hb o e =>
          let z := IZ.pin (b, o) (List.mem_append_right _ (List.mem_append_right _ (mem_pinsAt hb e)))
          ⟨z.1, z.2.1⟩
        refine ⟨n - (i + 1), by omega, i + 1, H', rfl, (IZ.unpinned (pins := [])).weak (by rw [← wp8, wipe_length]) (fun j z e => ?_), T.keep _ _ _ go7 fun b hb o e => (still b hb o e).1, fun b hb => ?_, pz⟩
        · rw [← wp8] at e
          exact (wipe_some e).1
        · obtain ⟨o, e, _⟩ := T.obj _ _ go7 b hb
          exact (still b hb o e).2
      cases c with
      | false =>
        simp only [Bool.false_eq_true, if_false] at q9 ⊢
        exact close I9 q9
      | true =>
        simp only [if_true] at q9 ⊢
        refine thnF (pk.run _ v4 σ8 H9 _ I9 q9) fun ku v5 ⟨ky, H10, I10, r10, q10⟩ => ?_
        refine thnF (pv.run _ v5 σ8 H10 _ I10 q10) fun vu v6 ⟨vy, H11, I11, r11, kvs, k, b, ek, hD11, hb11, hz11, nx⟩ => ?_
        subst ek
        obtain rfl : ku = Value.ref b := r10
        exact compStoreT (X := X.blk u G1 scope ce fp) hu I11 hD11 hb11 hz11 r11 fun v7 I12 => close I12 nx
  exact codeAny_compStart_dict run (T.self X.A 0 _ _ _ go3 run)
end
end Sl

set_option Elab.async false
set_option linter.all false
set_option maxRecDepth 100000
set_option maxHeartbeats 4000000
/-! What the walks of the defs share: data of tuples, what is kept, comprehensions, a def's place. -/
namespace Sl
open PySem L2

/-! ### data made of None, bools, ints, texts and tuples -/
mutual
inductive Tp (H : Hp) : V → PyData → Prop
  | non : Tp H .non .none
  | bl (b : Bool) : Tp H (.bl b) (.bool b)
  | int (i : Int) : Tp H (.int i) (.int i)
  | str (x : Str) : Tp H (.str x) (.str x)
  | tup {a : Addr} {xs : List V} {ds : List PyData} : H a = some (.tup xs) → TpAll H xs ds → Tp H (.ref a) (.tuple ds)
inductive TpAll (H : Hp) : List V → List PyData → Prop
  | nil : TpAll H [] []
  | cons {v : V} {vs : List V} {d : PyData} {ds : List PyData} : Tp H v d → TpAll H vs ds → TpAll H (v :: vs) (d :: ds)
end
/-- every tuple is kept -/
def Kp (H H' : Hp) : Prop := ∀ a xs, H a = some (.tup xs) → H' a = some (.tup xs)
theorem Kp.refl (H : Hp) : Kp H H := fun _ _ h => h
theorem Kp.trans {H H1 H2 : Hp} (a : Kp H H1) (b : Kp H1 H2) : Kp H H2 := fun c xs h => b c xs (a c xs h)
theorem kp_same {H H' : Hp} (s : Same H H') : Kp H H' := fun a xs h => s a _ h
theorem kp_new {H : Hp} {p : Addr} {o : HO} (h : H p = none) : Kp H (upd H p o) := fun a xs e => by rw [upd_ne (ne_of_none e h)]; exact e
theorem kp_mut {H : Hp} {p : Addr} {o u : HO} (h : H p = some u) (hu : ∀ xs, u ≠ .tup xs) : Kp H (upd H p o) := fun a xs e => by
  rw [upd_ne (ne_of e h (fun z => hu xs z.symm))]
  exact e
theorem same_new {H : Hp} {p : Addr} {o : HO} (h : H p = none) : Same H (upd H p o) := fun a u e => by rw [upd_ne (ne_of_none e h)]; exact e
theorem same_mut {H H' : Hp} {p : Addr} {o : HO} (s : Same H H') (h : H p = none) : Same H (upd H' p o) := fun a u e => by rw [upd_ne (ne_of_none e h)]; exact s a u e
mutual
theorem tp_keep {H H' : Hp} (k : Kp H H') : ∀ {v : V} {d : PyData}, Tp H v d → Tp H' v d
  | _, _, .non => .non
  | _, _, .bl b => .bl b
  | _, _, .int i => .int i
  | _, _, .str x => .str x
  | _, _, .tup h t => .tup (k _ _ h) (tpa_keep k t)
theorem tpa_keep {H H' : Hp} (k : Kp H H') : ∀ {vs : List V} {ds : List PyData}, TpAll H vs ds → TpAll H' vs ds
  | _, _, .nil => .nil
  | _, _, .cons h t => .cons (tp_keep k h) (tpa_keep k t)
end
theorem sqt {K : PySem.W.Frag} {H : Hp} {a : Addr} {xs : List V} (h : H a = some (.tup xs)) : SqT K H a xs := SqT.of h
theorem sql {K : PySem.W.Frag} {H : Hp} {a : Addr} {xs : List V} (h : H a = some (.lst xs)) : SqL K H a xs := SqL.of h
mutual
theorem tp_dp {K : PySem.W.Frag} {H : Hp} : ∀ {v : V} {d : PyData}, Tp H v d → Dp K H v d
  | _, _, .non => .non
  | _, _, .bl b => .bl b
  | _, _, .int i => .int i
  | _, _, .str x => .str x
  | _, _, .tup h t => .tup (sqt h) (tpa_dp t)
theorem tpa_dp {K : PySem.W.Frag} {H : Hp} : ∀ {vs : List V} {ds : List PyData}, TpAll H vs ds → DpAll K H vs ds
  | _, _, .nil => .nil
  | _, _, .cons h t => .cons (tp_dp h) (tpa_dp t)
end
/-- data without lists and dicts -/
def PyData.flatT : PyData → Bool
  | .list _ => false
  | .dict _ => false
  | _ => true
section
variable {H : Hp} {v : V} {vs ws : List V} {d : PyData} {ds es : List PyData}
theorem tp_int {i : Int} (h : Tp H v (.int i)) : v = .int i := by cases h; rfl
theorem tp_str {x : Str} (h : Tp H v (.str x)) : v = .str x := by cases h; rfl
theorem tp_bl {b : Bool} (h : Tp H v (.bool b)) : v = .bl b := by cases h; rfl
theorem tp_tup (h : Tp H v (.tuple ds)) : ∃ p xs, v = .ref p ∧ H p = some (.tup xs) ∧ TpAll H xs ds := by
  cases h with
  | tup a b => exact ⟨_, _, rfl, a, b⟩
theorem tpa_nil (h : TpAll H vs []) : vs = [] := by cases h; rfl
theorem tpa_cons (h : TpAll H vs (d :: ds)) : ∃ x r, vs = x :: r ∧ Tp H x d ∧ TpAll H r ds := by
  cases h with
  | cons a b => exact ⟨_, _, rfl, a, b⟩
theorem tpa_len : ∀ {vs : List V} {ds : List PyData}, TpAll H vs ds → vs.length = ds.length
  | _, _, .nil => rfl
  | _, _, .cons _ t => congrArg (· + 1) (tpa_len t)
theorem tpa_app : ∀ {vs : List V} {ds : List PyData}, TpAll H vs ds → ∀ {ws es}, TpAll H ws es → TpAll H (vs ++ ws) (ds ++ es)
  | _, _, .nil, _, _, h => h
  | _, _, .cons a t, _, _, h => .cons a (tpa_app t h)
theorem tpa_one (h : Tp H v d) : TpAll H [v] [d] := .cons h .nil
theorem tpa_get : ∀ {vs : List V} {ds : List PyData}, TpAll H vs ds → ∀ {i : Nat} {x : V}, vs[i]? = some x → ∃ d, ds[i]? = some d ∧ Tp H x d
  | _, _, .nil, i, x, e => by simp at e
  | _, _, .cons r t, 0, x, e => by
    have e := Option.some.inj e
    subst e
    exact ⟨_, rfl, r⟩
  | _, _, .cons r t, i + 1, x, e => tpa_get t (i := i) (by simpa using e)
theorem tpa_at : ∀ {vs : List V} {ds : List PyData}, TpAll H vs ds → ∀ {i : Nat} {d : PyData}, ds[i]? = some d → ∃ x, vs[i]? = some x ∧ Tp H x d
  | _, _, .nil, i, x, e => by simp at e
  | _, _, .cons r t, 0, x, e => by
    have e := Option.some.inj e
    subst e
    exact ⟨_, rfl, r⟩
  | _, _, .cons r t, i + 1, x, e => tpa_at t (i := i) (by simpa using e)
theorem tpa_ints : ∀ {ns : List Int} {vs : List V}, TpAll H vs (ns.map PyData.int) → vs = ns.map V.int
  | [], _, h => tpa_nil h
  | n :: ns, _, h => by
    obtain ⟨x, r, rfl, h1, h2⟩ := tpa_cons h
    rw [tp_int h1, tpa_ints h2]
    rfl
theorem tpa_strs : ∀ {ns : List Str} {vs : List V}, TpAll H vs (ns.map PyData.str) → vs = ns.map V.str
  | [], _, h => tpa_nil h
  | n :: ns, _, h => by
    obtain ⟨x, r, rfl, h1, h2⟩ := tpa_cons h
    rw [tp_str h1, tpa_strs h2]
    rfl
theorem tpa_bools : ∀ {ns : List Bool} {vs : List V}, TpAll H vs (ns.map PyData.bool) → vs = ns.map V.bl
  | [], _, h => tpa_nil h
  | n :: ns, _, h => by
    obtain ⟨x, r, rfl, h1, h2⟩ := tpa_cons h
    rw [tp_bl h1, tpa_bools h2]
    rfl
theorem tpa_of_strs (H : Hp) : ∀ ns : List Str, TpAll H (ns.map V.str) (ns.map PyData.str)
  | [] => .nil
  | n :: ns => .cons (.str n) (tpa_of_strs H ns)
theorem tpa_of_ints (H : Hp) : ∀ ns : List Int, TpAll H (ns.map V.int) (ns.map PyData.int)
  | [] => .nil
  | n :: ns => .cons (.int n) (tpa_of_ints H ns)
/-- a pair -/
theorem tp_pair {a b : PyData} (h : Tp H v (.tuple [a, b])) : ∃ p x y, v = .ref p ∧ H p = some (.tup [x, y]) ∧ Tp H x a ∧ Tp H y b := by
  obtain ⟨p, xs, rfl, hp, t⟩ := tp_tup h
  obtain ⟨x, r, rfl, h1, t⟩ := tpa_cons t
  obtain ⟨y, r, rfl, h2, t⟩ := tpa_cons t
  cases tpa_nil t
  exact ⟨p, x, y, rfl, hp, h1, h2⟩
theorem tp_trip {a b c : PyData} (h : Tp H v (.tuple [a, b, c])) : ∃ p x y z, v = .ref p ∧ H p = some (.tup [x, y, z]) ∧ Tp H x a ∧ Tp H y b ∧ Tp H z c := by
  obtain ⟨p, xs, rfl, hp, t⟩ := tp_tup h
  obtain ⟨x, r, rfl, h1, t⟩ := tpa_cons t
  obtain ⟨y, r, rfl, h2, t⟩ := tpa_cons t
  obtain ⟨z, r, rfl, h3, t⟩ := tpa_cons t
  cases tpa_nil t
  exact ⟨p, x, y, z, rfl, hp, h1, h2, h3⟩
theorem mk_pair {p : Addr} {x y : V} {a b : PyData} (h : H p = some (.tup [x, y])) (h1 : Tp H x a) (h2 : Tp H y b) : Tp H (.ref p) (.tuple [a, b]) := .tup h (.cons h1 (.cons h2 .nil))
theorem mk_trip {p : Addr} {x y z : V} {a b c : PyData} (h : H p = some (.tup [x, y, z])) (h1 : Tp H x a) (h2 : Tp H y b) (h3 : Tp H z c) : Tp H (.ref p) (.tuple [a, b, c]) := .tup h (.cons h1 (.cons h2 (.cons h3 .nil)))
end
/-- a going, names -/
def goD (g : Int × Int) : PyData := .tuple [.int g.1, .int g.2]
def nmD (ns : List Str) : PyData := .tuple (ns.map PyData.str)
def ptD (p : (Int × Int) × List Str) : PyData := .tuple [goD p.1, nmD p.2]
theorem tp_go {H : Hp} {v : V} {g : Int × Int} (h : Tp H v (goD g)) : ∃ p, v = .ref p ∧ H p = some (.tup [.int g.1, .int g.2]) := by
  obtain ⟨p, x, y, rfl, hp, h1, h2⟩ := tp_pair h
  rw [tp_int h1, tp_int h2] at hp
  exact ⟨p, rfl, hp⟩
theorem mk_go {H : Hp} {p : Addr} {g : Int × Int} (h : H p = some (.tup [.int g.1, .int g.2])) : Tp H (.ref p) (goD g) := mk_pair h (.int _) (.int _)
theorem tp_nm {H : Hp} {v : V} {ns : List Str} (h : Tp H v (nmD ns)) : ∃ p, v = .ref p ∧ H p = some (.tup (ns.map V.str)) := by
  obtain ⟨p, xs, rfl, hp, t⟩ := tp_tup h
  rw [tpa_strs t] at hp
  exact ⟨p, rfl, hp⟩
theorem mk_nm {H : Hp} {p : Addr} {ns : List Str} (h : H p = some (.tup (ns.map V.str))) : Tp H (.ref p) (nmD ns) := .tup h (tpa_of_strs H ns)

/-! ### comprehensions whose items are such data -/
theorem fm_succ {α : Type} {ds : Nat → Option α} {i : Nat} {d : α} (h : ds i = some d) : (List.range (i + 1)).filterMap ds = (List.range i).filterMap ds ++ [d] := by
  rw [List.range_succ, List.filterMap_append]
  simp [h]
theorem fm_none {α : Type} {ds : Nat → Option α} {i : Nat} (h : ds i = none) : (List.range (i + 1)).filterMap ds = (List.range i).filterMap ds := by
  rw [List.range_succ, List.filterMap_append]
  simp [h]
theorem fm_len {α : Type} (ds : Nat → Option α) (i : Nat) : ((List.range i).filterMap ds).length ≤ i := by
  have := List.length_filterMap_le ds (List.range i)
  rw [List.length_range] at this
  exact this
theorem lc_tp {J : It} {n : Nat} {G : Hp → Prop} {Y : Nat → Hp → V → Hp → Prop} (w : Walk J n G Y) {g : TG} {tt : TT} {te : TE} {vs : List Nat} {σ : L2.St} {H1 : Hp} {D : Addr} {Qd : Hp → Prop} (ds : Nat → Option PyData) (hD : H1 D = none) (hn : n ≤ 100000)
    (hG : ∀ H, Same H1 H → G H)
    (hs : ∀ i x H H' (Kb : V → Hp → Prop) (Kf : Hp → Prop), i < n → Same H1 H → Y i H x H' → (∀ y H4 d, ds i = some d → Same H H4 → Tp H4 y d → Kb y H4) → (∀ H3, ds i = none → Same H H3 → Kf H3) →
      g x (wipe σ vs) H' fun σ2 H2 => wipe σ2 vs = wipe σ vs ∧ tt σ2 H2 fun b H3 => if b = true then te σ2 H3 Kb else Kf H3)
    (hd : ∀ H acc, Same H1 H → H D = some (.lst acc) → TpAll H acc ((List.range n).filterMap ds) → Qd H) :
    ∃ W : Nat → Nat → Hp → Prop, (∃ m, W 0 m (upd H1 D (.lst []))) ∧ ∀ i m H, W i m H →
      (J.stop i H ∧ Qd H) ∨ (J.go i H ∧ ∃ Nx : Hp → Prop, (∀ H', Nx H' → ∃ m', m' < m ∧ W (i + 1) m' H') ∧ ∀ x H', J.yld i H x H' → g x (wipe σ vs) H' fun σ2 H2 => wipe σ2 vs = wipe σ vs ∧ tt σ2 H2 fun b H3 =>
        if b = true then te σ2 H3 fun y H4 => ∃ acc, H4 D = some (.lst acc) ∧ acc.length < sizeLine ∧ Nx (upd H4 D (.lst (acc ++ [y]))) else Nx H3) := by
  refine lc_it w (fun i H => ∃ acc, Same H1 H ∧ H D = some (.lst acc) ∧ TpAll H acc ((List.range i).filterMap ds)) ⟨[], same_new hD, upd_same, .nil⟩ (fun i H _ ⟨_, s, _⟩ => hG H s) (fun i x H H' hi ⟨acc, s, ha, t⟩ y => ?_) fun H ⟨acc, s, ha, t⟩ => hd H acc s ha t
  refine hs i x H H' _ _ hi s y (fun y H4 d e s4 ty => ?_) fun H3 e s3 => ?_
  · have ha4 := s4 _ _ ha
    have hl : acc.length < sizeLine := by
      have h1 := tpa_len t
      have h2 := fm_len ds i
      have h3 : (100000 : Nat) ≤ sizeLine := by rw [sizeLine_eq]; decide
      omega
    refine ⟨acc, ha4, hl, acc ++ [y], same_mut (s.trans s4) hD, upd_same, ?_⟩
    rw [fm_succ e]
    have kp : Kp H4 (upd H4 D (.lst (acc ++ [y]))) := kp_mut ha4 (fun _ z => nomatch z)
    exact tpa_app (tpa_keep (Kp.trans (kp_same s4) kp) t) (tpa_one (tp_keep kp ty))
  · refine ⟨acc, s.trans s3, s3 _ _ ha, ?_⟩
    rw [fm_none e]
    exact tpa_keep (kp_same s3) t
theorem fm_list {α β : Type} (f : α → Option β) : ∀ (l : List α), (List.range l.length).filterMap (fun i => l[i]?.bind f) = l.filterMap f
  | [] => rfl
  | a :: l => by
    rw [List.length_cons, List.range_succ_eq_map, List.filterMap_cons, List.filterMap_map, List.filterMap_cons]
    have e : List.filterMap ((fun i => ((a :: l)[i]?).bind f) ∘ Nat.succ) (List.range l.length) = l.filterMap f := by
      rw [← fm_list f l]
      refine congrArg (fun g => List.filterMap g (List.range l.length)) ?_
      funext i
      simp [Function.comp]
    rw [e]
    simp

theorem fm_map {α β : Type} (f : α → β) (l : List α) : (List.range l.length).filterMap (fun i => (l[i]?).map f) = l.map f := by
  have e := fm_list (fun a => some (f a)) l
  have e2 : (fun i : Nat => (l[i]?).map f) = fun i : Nat => (l[i]?).bind fun a => some (f a) := by
    funext i
    cases l[i]? <;> rfl
  rw [e2, e]
  exact congrFun (List.filterMap_eq_map (f := f)) l
theorem fm_filter {α β : Type} (c : α → Bool) (f : α → β) : ∀ l : List α, l.filterMap (fun a => if c a = true then some (f a) else none) = (l.filter c).map f
  | [] => rfl
  | a :: l => by
    rw [List.filterMap_cons, List.filter_cons, fm_filter c f l]
    cases c a <;> rfl
/-! ### a def in its place -/
structure FC (P : Program) (w : World) (K : PySem.W.Frag) (mg : Str → Option Value) (base : Heap) (k : Nat) (x : Str) (ps : List Str) (sp : Sp) (f : Addr) (fd : FuncData) : Prop where
  ok : FnOk P w K mg base CX0 k f fd ps sp
  g : mg x = some (.ref f)
  kp : PySem.W.keepIn K (.ref f) = true
  b : Binds K fd ps []
section
variable {X : Cx}
theorem pe_f {k j : Nat} {x : Str} {ps : List Str} {sp : Sp} {f : Addr} {fd : FuncData} {e : Expr} {es : List Expr} {t : TA} {p pos : Pos} (D : FC X.prog X.w X.K X.mg X.base k x ps sp f fd) (hr : Room j X.A) (hj : k ≤ j) (ha : PA X (e :: es) t) (hg : Gl X x := by rfl)
    (hdb : (x == ("__debug__" : Str)) = false := by decide) (he : starEach (e :: es) X.env = (false, eval e X.env) :: starEach es X.env := by rfl) (hpl : (backTo pos (starEach es X.env)).any (·.1) = false := by rfl) :
    PE X (.Call (.Name x p) (e :: es) [] pos) (tCall sp [] E0 t) := pe_call D.ok (hr.mono hj) hg D.g D.kp D.b .nil pass0 ha hdb he hpl
end
end Sl

set_option Elab.async false
set_option linter.all false
set_option maxRecDepth 100000
set_option maxHeartbeats 1000000
/-! The mirrors of the number defs and how they answer when all is k times as great. Plain Lean. -/
namespace Sl
open PySem
abbrev Go := Int × Int
abbrev Nm := List Str
abbrev Part := Go × Nm

def gcdI (a b : Int) : Int := (Int.gcd a b : Int)
def mult (a b : Int) : Int := a / gcdI a b * b
def frac (t b : Int) : Int × Int := (t / gcdI b t, b / gcdI b t)
def totStep (f x : Int × Int) : Int × Int := frac (f.1 * x.2 + x.1 * f.2) (f.2 * x.2)
def tot (l : List (Int × Int)) : Int × Int := l.foldl totStep (0, 1)
def restB (g : Go) (b : Int) : Int := if b < g.1 then g.1 - b else g.2 - (b - g.1) % g.2
def timesU (g : Go) (b : Int) : Int := if b < g.1 then 0 else (b - g.1) / g.2 + 1
def lastU (g : Go) (b : Int) : Int := if b ≤ g.1 then 0 else b - 1 - (b - 1 - g.1) % g.2
def invL (one other mine its base : Int) : Int :=
  if h : 0 < one then invL (other - other / one * one) one (its - other / one * mine) mine base else its % base
termination_by one.toNat
decreasing_by
  have h1 : other - other / one * one = other % one := by rw [Int.mul_comm]; have := Int.emod_add_mul_ediv other one; omega
  have h2 := Int.emod_lt_of_pos other h
  have h3 := Int.emod_nonneg other (Int.ne_of_gt h)
  omega
def inv (n b : Int) : Int := invL (n % b) b 1 0 b
/-- the first common beat ahead of the adjustment, the least common multiple apart -/
def meet0 (a b : Go) : Int := a.1 + a.2 * ((b.1 - a.1) / gcdI a.2 b.2 * inv (a.2 / gcdI a.2 b.2) (b.2 / gcdI a.2 b.2) % (b.2 / gcdI a.2 b.2))
def meet (a b : Go) : Option Int :=
  if (b.1 - a.1) % gcdI a.2 b.2 ≠ 0 then none
  else if meet0 a b < b.1 then some (meet0 a b + (b.1 - meet0 a b + mult a.2 b.2 - 1) / mult a.2 b.2 * mult a.2 b.2) else some (meet0 a b)
def fallIn (a b : Go) : Option Int := (meet a b).map fun m => max (lastU a m) (lastU b m)
def partOf (a b : Go) : Option Int := if (a.1 - b.1) % gcdI a.2 b.2 = 0 then none else some (gcdI a.2 b.2)

theorem gcdI_pos {a b : Int} (h : 0 < a) : 0 < gcdI a b := by
  unfold gcdI
  have : 0 < Int.gcd a b := Int.gcd_pos_of_ne_zero_left b (Int.ne_of_gt h)
  omega
theorem gcdI_le {a b : Int} (h : 0 < b) : gcdI a b ≤ b := Int.le_of_dvd h (Int.gcd_dvd_right a b)
theorem gcdI_le_left {a b : Int} (h : 0 < a) : gcdI a b ≤ a := Int.le_of_dvd h (Int.gcd_dvd_left a b)
theorem div_gcd_pos {a b : Int} (h : 0 < a) : 0 < a / gcdI a b := by
  have hd : gcdI a b ∣ a := Int.gcd_dvd_left a b
  exact Int.ediv_pos_of_pos_of_dvd h (Int.le_of_lt (gcdI_pos h)) hd
theorem div_gcd_pos' {a b : Int} (h : 0 < a) (hb : 0 < b) : 0 < b / gcdI a b := by
  have hd : gcdI a b ∣ b := Int.gcd_dvd_right a b
  exact Int.ediv_pos_of_pos_of_dvd hb (Int.le_of_lt (gcdI_pos h)) hd
theorem mult_pos {a b : Int} (ha : 0 < a) (hb : 0 < b) : 0 < mult a b := Int.mul_pos (div_gcd_pos ha) hb

/-! ### all k times as great -/
def sg (k : Int) (g : Go) : Go := (g.1 * k, g.2 * k)
section
variable {k : Int} (hk : 0 < k)
include hk
theorem ediv_k (a b : Int) : a * k / (b * k) = a / b := Int.mul_ediv_mul_of_pos_left a b hk
theorem emod_k (a b : Int) : a * k % (b * k) = a % b * k := by
  rw [Int.mul_comm a, Int.mul_comm b, Int.mul_emod_mul_of_pos _ _ hk, Int.mul_comm]
theorem gcd_k (a b : Int) : gcdI (a * k) (b * k) = gcdI a b * k := by
  unfold gcdI
  rw [Int.gcd_mul_right]
  have : ((k.natAbs : Nat) : Int) = k := by omega
  push_cast
  rw [this]
theorem mult_k (a b : Int) : mult (a * k) (b * k) = mult a b * k := by
  unfold mult
  rw [gcd_k hk, ediv_k hk, Int.mul_assoc]
theorem lt_k {a b : Int} : a * k < b * k ↔ a < b := Int.mul_lt_mul_right hk
theorem le_k {a b : Int} : a * k ≤ b * k ↔ a ≤ b := Int.mul_le_mul_right hk
theorem eq_k {a b : Int} : a * k = b * k ↔ a = b := Int.mul_eq_mul_right_iff (Int.ne_of_gt hk)
theorem max_k (a b : Int) : max (a * k) (b * k) = max a b * k := by
  rcases Int.le_total a b with h | h
  · rw [Int.max_eq_right h, Int.max_eq_right ((le_k hk).mpr h)]
  · rw [Int.max_eq_left h, Int.max_eq_left ((le_k hk).mpr h)]
/-- a beat within the k-fold of b: b * k, .. , b * k + k - 1 -/
theorem lt_in {b c e : Int} (h0 : 0 ≤ e) (h1 : e < k) : b * k + e < c * k ↔ b < c := by
  constructor
  · intro h
    have : b * k < c * k := by omega
    exact (lt_k hk).mp this
  · intro h
    have : (b + 1) * k ≤ c * k := (le_k hk).mpr h
    rw [Int.add_mul, Int.one_mul] at this
    omega
theorem ediv_in {a b e : Int} (hb : 0 < b) (h0 : 0 ≤ e) (h1 : e < k) : (a * k + e) / (b * k) = a / b := by
  have hbk : 0 < b * k := Int.mul_pos hb hk
  have h2 := Int.emod_add_mul_ediv a b
  have h3 := Int.emod_nonneg a (Int.ne_of_gt hb)
  have h4 := Int.emod_lt_of_pos a hb
  have h5 : (a % b + 1) * k ≤ b * k := (le_k hk).mpr h4
  have h6 : 0 ≤ a % b * k := Int.mul_nonneg h3 (Int.le_of_lt hk)
  rw [Int.add_mul, Int.one_mul] at h5
  have e1 : a * k + e = (a % b * k + e) + b * k * (a / b) := by
    have : a * k = (a % b + b * (a / b)) * k := by rw [h2]
    rw [this, Int.add_mul]
    have : b * (a / b) * k = b * k * (a / b) := by rw [Int.mul_assoc, Int.mul_assoc, Int.mul_comm (a / b) k]
    omega
  rw [e1, Int.add_mul_ediv_left _ _ (Int.ne_of_gt hbk), Int.ediv_eq_zero_of_lt (by omega) (by omega)]
  omega
theorem emod_in {a b e : Int} (hb : 0 < b) (h0 : 0 ≤ e) (h1 : e < k) : (a * k + e) % (b * k) = a % b * k + e := by
  have h2 := Int.emod_add_mul_ediv (a * k + e) (b * k)
  rw [ediv_in hk hb h0 h1] at h2
  have h3 := Int.emod_add_mul_ediv a b
  have : a * k = (a % b + b * (a / b)) * k := by rw [h3]
  rw [Int.add_mul] at this
  have e2 : b * (a / b) * k = b * k * (a / b) := by rw [Int.mul_assoc, Int.mul_assoc, Int.mul_comm (a / b) k]
  omega
theorem restB_in {g : Go} {b e : Int} (hg : 0 < g.2) (h0 : 0 ≤ e) (h1 : e < k) : restB (sg k g) (b * k + e) = restB g b * k - e := by
  unfold restB sg
  dsimp only
  by_cases h : b < g.1
  · rw [if_pos h, if_pos ((lt_in hk h0 h1).mpr h), Int.sub_mul]
    omega
  · rw [if_neg h, if_neg (fun z => h ((lt_in hk h0 h1).mp z)), Int.sub_mul]
    have : b * k + e - g.1 * k = (b - g.1) * k + e := by rw [Int.sub_mul]; omega
    rw [this, emod_in hk hg h0 h1]
    omega
theorem restB_k {g : Go} {b : Int} (hg : 0 < g.2) : restB (sg k g) (b * k) = restB g b * k := by
  have := restB_in hk (b := b) hg (Int.le_refl 0) hk
  simpa using this
theorem timesU_in {g : Go} {b e : Int} (hg : 0 < g.2) (h0 : 0 ≤ e) (h1 : e < k) : timesU (sg k g) (b * k + e) = timesU g b := by
  unfold timesU sg
  dsimp only
  by_cases h : b < g.1
  · rw [if_pos h, if_pos ((lt_in hk h0 h1).mpr h)]
  · rw [if_neg h, if_neg (fun z => h ((lt_in hk h0 h1).mp z))]
    have : b * k + e - g.1 * k = (b - g.1) * k + e := by rw [Int.sub_mul]; omega
    rw [this, ediv_in hk hg h0 h1]
theorem timesU_k {g : Go} {b : Int} (hg : 0 < g.2) : timesU (sg k g) (b * k) = timesU g b := by
  have := timesU_in hk (b := b) hg (Int.le_refl 0) hk
  simpa using this
theorem lastU_k {g : Go} {b : Int} (hg : 0 < g.2) : lastU (sg k g) (b * k) = lastU g b * k := by
  unfold lastU sg
  dsimp only
  by_cases h : b ≤ g.1
  · rw [if_pos h, if_pos ((le_k hk).mpr h), Int.zero_mul]
  · rw [if_neg h, if_neg (fun z => h ((le_k hk).mp z))]
    have : b * k - 1 - g.1 * k = (b - 1 - g.1) * k + (k - 1) := by rw [Int.sub_mul, Int.sub_mul]; omega
    rw [this, emod_in hk hg (by omega) (by omega), Int.sub_mul, Int.sub_mul]
    omega
theorem meet0_k (a b : Go) : meet0 (sg k a) (sg k b) = meet0 a b * k := by
  unfold meet0 sg
  dsimp only
  rw [gcd_k hk, ediv_k hk, ediv_k hk, ← Int.sub_mul, ediv_k hk, Int.add_mul]
  congr 1
  rw [Int.mul_assoc, Int.mul_assoc, Int.mul_comm k]
theorem meet_k {a b : Go} (ha : 0 < a.2) (hb : 0 < b.2) : meet (sg k a) (sg k b) = (meet a b).map (· * k) := by
  have e0 := meet0_k hk a b
  unfold meet
  rw [e0]
  show (if (b.1 * k - a.1 * k) % gcdI (a.2 * k) (b.2 * k) ≠ 0 then none else if meet0 a b * k < b.1 * k then some (meet0 a b * k + (b.1 * k - meet0 a b * k + mult (a.2 * k) (b.2 * k) - 1) / mult (a.2 * k) (b.2 * k) * mult (a.2 * k) (b.2 * k)) else some (meet0 a b * k)) = _
  rw [gcd_k hk, mult_k hk, ← Int.sub_mul, emod_k hk]
  have hz : ((b.1 - a.1) % gcdI a.2 b.2 * k ≠ 0) ↔ ((b.1 - a.1) % gcdI a.2 b.2 ≠ 0) := by
    have := eq_k hk (a := (b.1 - a.1) % gcdI a.2 b.2) (b := 0)
    rw [Int.zero_mul] at this
    exact not_congr this
  by_cases h : (b.1 - a.1) % gcdI a.2 b.2 ≠ 0
  · rw [if_pos h, if_pos (hz.mpr h)]; rfl
  · rw [if_neg h, if_neg (fun z => h (hz.mp z))]
    by_cases h2 : meet0 a b < b.1
    · rw [if_pos h2, if_pos ((lt_k hk).mpr h2)]
      show _ = some ((meet0 a b + (b.1 - meet0 a b + mult a.2 b.2 - 1) / mult a.2 b.2 * mult a.2 b.2) * k)
      have e1 : b.1 * k - meet0 a b * k + mult a.2 b.2 * k - 1 = (b.1 - meet0 a b + mult a.2 b.2 - 1) * k + (k - 1) := by
        rw [Int.sub_mul, Int.add_mul, Int.sub_mul]; omega
      rw [e1, ediv_in hk (mult_pos ha hb) (by omega) (by omega), Int.add_mul, Int.mul_assoc]
    · rw [if_neg h2, if_neg (fun z => h2 ((lt_k hk).mp z))]; rfl
theorem fallIn_k {a b : Go} (ha : 0 < a.2) (hb : 0 < b.2) : fallIn (sg k a) (sg k b) = (fallIn a b).map (· * k) := by
  unfold fallIn
  rw [meet_k hk ha hb]
  cases meet a b with
  | none => rfl
  | some m =>
    show some (max (lastU (sg k a) (m * k)) (lastU (sg k b) (m * k))) = some (max (lastU a m) (lastU b m) * k)
    rw [lastU_k hk ha, lastU_k hk hb, max_k hk]
theorem partOf_k (a b : Go) : (partOf (sg k a) (sg k b)).isSome = (partOf a b).isSome := by
  unfold partOf sg
  dsimp only
  rw [gcd_k hk, ← Int.sub_mul, emod_k hk]
  have hz : ((a.1 - b.1) % gcdI a.2 b.2 * k = 0) ↔ ((a.1 - b.1) % gcdI a.2 b.2 = 0) := by
    have := eq_k hk (a := (a.1 - b.1) % gcdI a.2 b.2) (b := 0)
    rw [Int.zero_mul] at this
    exact this
  by_cases h : (a.1 - b.1) % gcdI a.2 b.2 = 0
  · rw [if_pos h, if_pos (hz.mpr h)]
  · rw [if_neg h, if_neg (fun z => h (hz.mp z))]; rfl
end
theorem restB_pos {g : Go} {b : Int} (hg : 0 < g.2) : 1 ≤ restB g b := by
  unfold restB
  split
  · omega
  · have := Int.emod_lt_of_pos (b - g.1) hg
    omega
end Sl

set_option Elab.async false
set_option linter.all false
set_option maxRecDepth 100000
set_option maxHeartbeats 1000000
/-! The mirror of Run, and how it answers when all is k times as great. -/
namespace Sl
open PySem
/-- how long n sleep by the lengths L -/
def slp (L : List Int) (n : Nat) : Int := L.getD (n - 1) 1
structure RunS where
  many : Int
  parts : List (Int × Part)
  pairs : List ((Int × Int) × Int)
  rows : List (Int × Nm × Nm)
  sps : List (Int × List Part)
def comeIn (L : List Int) (f : Int) (ns : Nm) (s : RunS) : RunS :=
  { many := s.many + 1, parts := s.parts ++ [(s.many, ((f, slp L ns.length), ns))],
    pairs := s.pairs ++ s.parts.filterMap (fun e => (fallIn (f, slp L ns.length) e.2.1).map fun w => ((s.many, e.1), w)), rows := s.rows, sps := s.sps }
def tri (e : (Int × Int) × Int) : T3 := (e.2, e.1.1, e.1.2)
def minP : List ((Int × Int) × Int) → T3
  | [] => (0, 0, 0)
  | e :: r => min3 (tri e) (r.map tri)
def partAt (s : RunS) (a : Int) : Part := (s.parts.lookup a).getD ((0, 1), [])
def offPart (t : T3) (e : Int × Part) : Bool := !(e.1 == t.2.1 || e.1 == t.2.2)
def offPair (t : T3) (e : (Int × Int) × Int) : Bool := !(t.2.1 == e.1.1 || t.2.1 == e.1.2) && !(t.2.2 == e.1.1 || t.2.2 == e.1.2)
/-- the two that fall in, in the order in which they are told -/
def twoOf (s : RunS) (t : T3) : Part × Part :=
  if lastU (partAt s t.2.1).1 ((meet (partAt s t.2.1).1 (partAt s t.2.2).1).getD 0) = t.1 then (partAt s t.2.1, partAt s t.2.2) else (partAt s t.2.2, partAt s t.2.1)
def meetOf (s : RunS) (t : T3) : Int := (meet (partAt s t.2.1).1 (partAt s t.2.2).1).getD 0
def fallS1 (L : List Int) (s : RunS) (t : T3) : RunS :=
  comeIn L (meetOf s t) (((twoOf s t).1.2 ++ (twoOf s t).2.2).mergeSort leS)
    { many := s.many, parts := s.parts.filter (offPart t), pairs := s.pairs.filter (offPair t), rows := s.rows ++ [(t.1, (twoOf s t).1.2, (twoOf s t).2.2)], sps := s.sps }
def fallS (L : List Int) (s : RunS) : RunS :=
  { fallS1 L s (minP s.pairs) with sps := (fallS1 L s (minP s.pairs)).sps ++ [((minP s.pairs).1, (fallS1 L s (minP s.pairs)).parts.map (·.2))] }
def iter (L : List Int) : Nat → RunS → RunS
  | 0, s => s
  | n + 1, s => if s.pairs.isEmpty then s else iter L n (fallS L s)
def keysOf (st : List (Str × Int)) : List Int := st.foldl (fun ks e => if e.2 ∈ ks then ks else ks ++ [e.2]) []
def namesAt (st : List (Str × Int)) (r : Int) : Nm := (st.filter fun e => e.2 == r).map (·.1)
def groups (st : List (Str × Int)) : List (Int × Nm) := ((keysOf st).mergeSort fun x y => decide (x ≤ y)).map fun r => (r, namesAt st r)
def run0 : RunS := { many := 0, parts := [], pairs := [], rows := [], sps := [] }
def runI (L : List Int) (gs : List (Int × Nm)) : RunS := gs.foldl (fun s g => comeIn L g.1 g.2 s) run0
def runJ (L : List Int) (gs : List (Int × Nm)) : RunS := { runI L gs with sps := [(0, (runI L gs).parts.map (·.2))] }
def run (L : List Int) (st : List (Str × Int)) : RunS := iter L (runJ L (groups st)).parts.length (runJ L (groups st))

/-! ### what holds of it -/
structure Ok (L : List Int) (s : RunS) : Prop where
  keys : ∀ e ∈ s.parts, 0 ≤ e.1 ∧ e.1 < s.many
  nd : (s.parts.map (·.1)).Nodup
  len : ∀ e ∈ s.parts, e.2.1.2 ∈ L
  nz : ∀ e ∈ s.parts, e.2.2 ≠ []
  tot : (s.parts.map (·.2.2.length)).sum ≤ L.length
  prs : ∀ e ∈ s.pairs, ∃ p q, (e.1.1, p) ∈ s.parts ∧ (e.1.2, q) ∈ s.parts ∧ e.1.1 ≠ e.1.2 ∧ fallIn p.1 q.1 = some e.2
  pnd : (s.pairs.map (·.1)).Nodup
  big : s.many + s.parts.length ≤ 80
  psz : (s.pairs.length : Int) ≤ 80 * s.many
  pos : 0 ≤ s.many
  rsz : (s.rows.length : Int) ≤ s.many
  ssz : (s.sps.length : Int) ≤ s.many + 1
  str : ∀ e ∈ s.sps, ∀ p ∈ e.2, p.1.2 ∈ L ∧ p.2 ≠ []
  stot : ∀ e ∈ s.sps, (e.2.map (·.2.length)).sum ≤ L.length
theorem slp_mem {L : List Int} {n : Nat} (h0 : 0 < n) (h : n ≤ L.length) : slp L n ∈ L := by
  unfold slp
  rw [List.getD_eq_getElem?_getD, List.getElem?_eq_getElem (by omega)]
  exact List.getElem_mem _
theorem run0_ok (L : List Int) : Ok L run0 := by
  refine ⟨?_, ?_, ?_, ?_, ?_, ?_, ?_, ?_, ?_, ?_, ?_, ?_, ?_, ?_⟩ <;> simp [run0]
theorem comeIn_ok {L : List Int} {s : RunS} {f : Int} {ns : Nm} (h : Ok L s) (hn : ns ≠ []) (ht : (s.parts.map (·.2.2.length)).sum + ns.length ≤ L.length) (hb : s.many + s.parts.length + 2 ≤ 80) : Ok L (comeIn L f ns s) := by
  have hl : 0 < ns.length := List.length_pos_iff.mpr hn
  have hmem : slp L ns.length ∈ L := slp_mem hl (by omega)
  have hp := h.pos
  refine ⟨fun e he => ?_, ?_, fun e he => ?_, fun e he => ?_, ?_, fun e he => ?_, ?_, ?_, ?_, ?_, ?_, ?_, h.str, h.stot⟩
  · show 0 ≤ e.1 ∧ e.1 < s.many + 1
    rcases List.mem_append.mp he with he | he
    · have := h.keys e he; omega
    · rw [List.mem_singleton.mp he]; show 0 ≤ s.many ∧ s.many < s.many + 1; omega
  · show (List.map (fun e : Int × Part => e.1) (s.parts ++ [_])).Nodup
    rw [List.map_append, List.nodup_append]
    refine ⟨h.nd, by simp, fun a ha b hb' => ?_⟩
    obtain ⟨e, he, rfl⟩ := List.mem_map.mp ha
    have := h.keys e he
    simp at hb'
    omega
  · rcases List.mem_append.mp he with he | he
    · exact h.len e he
    · rw [List.mem_singleton.mp he]; exact hmem
  · rcases List.mem_append.mp he with he | he
    · exact h.nz e he
    · rw [List.mem_singleton.mp he]; exact hn
  · show (List.map (fun e : Int × Part => e.2.2.length) (s.parts ++ [_])).sum ≤ L.length
    rw [List.map_append, List.sum_append]
    simpa using ht
  · rcases List.mem_append.mp he with he | he
    · obtain ⟨p, q, h1, h2, h3, h4⟩ := h.prs e he
      exact ⟨p, q, List.mem_append_left _ h1, List.mem_append_left _ h2, h3, h4⟩
    · obtain ⟨d, hd, e1⟩ := List.mem_filterMap.mp he
      cases e2 : fallIn (f, slp L ns.length) d.2.1 with
      | none => rw [e2] at e1; cases e1
      | some w =>
        rw [e2] at e1
        have e1 := Option.some.inj e1
        subst e1
        have := h.keys d hd
        exact ⟨_, d.2, List.mem_append_right _ (List.mem_singleton.mpr rfl), List.mem_append_left _ hd, by show s.many ≠ d.1; omega, e2⟩
  · show (List.map (fun e : (Int × Int) × Int => e.1) (s.pairs ++ _)).Nodup
    rw [List.map_append, List.nodup_append]
    refine ⟨h.pnd, ?_, fun a ha b hb' => ?_⟩
    · have : ∀ l : List (Int × Part), (l.map (·.1)).Nodup → ((l.filterMap (fun e => (fallIn (f, slp L ns.length) e.2.1).map fun w => (((s.many, e.1), w) : (Int × Int) × Int))).map (·.1)).Nodup := by
        intro l
        induction l with
        | nil => intro _; exact List.nodup_nil
        | cons d r ih =>
          intro hnd
          rw [List.map_cons, List.nodup_cons] at hnd
          rw [List.filterMap_cons]
          cases e2 : fallIn (f, slp L ns.length) d.2.1 with
          | none => exact ih hnd.2
          | some w =>
            show ((s.many, d.1) :: (List.filterMap (fun e : Int × Part => (fallIn (f, slp L ns.length) e.2.1).map fun w => (((s.many, e.1), w) : (Int × Int) × Int)) r).map (fun z => z.1)).Nodup
            rw [List.nodup_cons]
            refine ⟨fun hm => hnd.1 ?_, ih hnd.2⟩
            obtain ⟨x, hx, ex⟩ := List.mem_map.mp hm
            obtain ⟨y, hy, ey⟩ := List.mem_filterMap.mp hx
            cases e3 : fallIn (f, slp L ns.length) y.2.1 with
            | none => rw [e3] at ey; cases ey
            | some w' =>
              rw [e3] at ey
              have ey := Option.some.inj ey
              subst ey
              have : y.1 = d.1 := congrArg Prod.snd ex
              exact List.mem_map.mpr ⟨y, hy, this⟩
      exact this s.parts h.nd
    · intro hab
      subst hab
      obtain ⟨e, he, rfl⟩ := List.mem_map.mp ha
      obtain ⟨p, q, h1, _, _, _⟩ := h.prs e he
      have hk := h.keys _ h1
      obtain ⟨x, hx, ex⟩ := List.mem_map.mp hb'
      obtain ⟨y, hy, ey⟩ := List.mem_filterMap.mp hx
      cases e3 : fallIn (f, slp L ns.length) y.2.1 with
      | none => rw [e3] at ey; cases ey
      | some w' =>
        rw [e3] at ey
        have ey := Option.some.inj ey
        subst ey
        have : s.many = e.1.1 := congrArg Prod.fst ex
        have hk2 : e.1.1 < s.many := hk.2
        omega
  · show s.many + 1 + ((s.parts ++ [_]).length : Int) ≤ 80
    rw [List.length_append, List.length_singleton]
    push_cast
    omega
  · show (((s.pairs ++ _).length : Nat) : Int) ≤ 80 * (s.many + 1)
    rw [List.length_append]
    have h1 := List.length_filterMap_le (fun e : Int × Part => (fallIn (f, slp L ns.length) e.2.1).map fun w => (((s.many, e.1), w) : (Int × Int) × Int)) s.parts
    have h2 := h.psz
    have h3 := h.big
    push_cast
    omega
  · show 0 ≤ s.many + 1
    omega
  · show (s.rows.length : Int) ≤ s.many + 1
    have := h.rsz; omega
  · show (s.sps.length : Int) ≤ s.many + 1 + 1
    have := h.ssz; omega
end Sl

set_option Elab.async false
set_option linter.all false
set_option maxRecDepth 100000
set_option maxHeartbeats 1000000
/-! One falling in: what it finds, what it keeps. -/
namespace Sl
open PySem
theorem min3_mem (x : T3) (xs : List T3) : min3 x xs ∈ x :: xs := by
  unfold min3
  induction xs generalizing x with
  | nil => exact List.mem_cons_self
  | cons y r ih =>
    rw [List.foldl_cons]
    have := ih (if t3Lt y x then y else x)
    rcases List.mem_cons.mp this with h | h
    · rw [h]
      split
      · exact List.mem_cons_of_mem _ List.mem_cons_self
      · exact List.mem_cons_self
    · exact List.mem_cons_of_mem _ (List.mem_cons_of_mem _ h)
theorem minP_mem {l : List ((Int × Int) × Int)} (h : l ≠ []) : ∃ e ∈ l, tri e = minP l := by
  cases l with
  | nil => exact absurd rfl h
  | cons e r =>
    have := min3_mem (tri e) (r.map tri)
    rw [← List.map_cons] at this
    obtain ⟨x, hx, ex⟩ := List.mem_map.mp this
    exact ⟨x, hx, ex⟩
theorem lookup_mem {β : Type} : ∀ {l : List (Int × β)} {a : Int} {p : β}, (l.map (·.1)).Nodup → (a, p) ∈ l → l.lookup a = some p
  | [], _, _, _, h => by simp at h
  | (b, q) :: r, a, p, hn, h => by
    rw [List.map_cons, List.nodup_cons] at hn
    rw [List.lookup_cons]
    rcases List.mem_cons.mp h with e | h2
    · cases e
      rw [beq_self_eq_true]
    · have hne : (a == b) = false := by
        rw [beq_eq_false_iff_ne]
        intro z
        exact hn.1 (List.mem_map.mpr ⟨_, h2, z⟩)
      rw [hne]
      exact lookup_mem hn.2 h2
theorem partAt_of {s : RunS} {a : Int} {p : Part} (hn : (s.parts.map (·.1)).Nodup) (h : (a, p) ∈ s.parts) : partAt s a = p := by
  unfold partAt
  rw [lookup_mem hn h]
  rfl
theorem sum_off {β : Type} (f : β → Nat) : ∀ {l : List (Int × β)} {a : Int} {p : β}, (l.map (·.1)).Nodup → (a, p) ∈ l → (l.map fun e => f e.2).sum = f p + ((l.filter fun e => !(e.1 == a)).map fun e => f e.2).sum
  | [], _, _, _, h => by simp at h
  | (b, q) :: r, a, p, hn, h => by
    rw [List.map_cons, List.nodup_cons] at hn
    rcases List.mem_cons.mp h with e | h2
    · cases e
      have hf : r.filter (fun e => !(e.1 == b)) = r := by
        rw [List.filter_eq_self]
        intro x hx
        have : x.1 ≠ b := fun z => hn.1 (List.mem_map.mpr ⟨x, hx, z⟩)
        simp [this]
      rw [List.filter_cons]
      simp [hf]
    · have hne : (b == a) = false := by
        rw [beq_eq_false_iff_ne]
        intro z
        exact hn.1 (List.mem_map.mpr ⟨_, h2, z.symm⟩)
      have ih := sum_off f hn.2 h2
      rw [List.map_cons, List.sum_cons, ih, List.filter_cons]
      simp [hne]
      omega
theorem nd_filter {β : Type} (c : Int × β → Bool) {l : List (Int × β)} (h : (l.map (·.1)).Nodup) : ((l.filter c).map (·.1)).Nodup :=
  List.Nodup.sublist (List.Sublist.map _ List.filter_sublist) h
theorem nd_filter' {α β : Type} (c : α × β → Bool) {l : List (α × β)} (h : (l.map (·.1)).Nodup) : ((l.filter c).map (·.1)).Nodup :=
  List.Nodup.sublist (List.Sublist.map _ List.filter_sublist) h
theorem off_two (t : T3) (l : List (Int × Part)) : l.filter (offPart t) = (l.filter fun e => !(e.1 == t.2.1)).filter fun e => !(e.1 == t.2.2) := by
  rw [List.filter_filter]
  refine List.filter_congr fun e _ => ?_
  unfold offPart
  cases (e.1 == t.2.1) <;> cases (e.1 == t.2.2) <;> rfl
theorem sum_two {f : Part → Nat} {l : List (Int × Part)} {t : T3} {p q : Part} (hn : (l.map (·.1)).Nodup) (h1 : (t.2.1, p) ∈ l) (h2 : (t.2.2, q) ∈ l) (hne : t.2.1 ≠ t.2.2) :
    (l.map fun e => f e.2).sum = f p + f q + ((l.filter (offPart t)).map fun e => f e.2).sum := by
  rw [sum_off f hn h1, off_two]
  have h2' : (t.2.2, q) ∈ l.filter fun e => !(e.1 == t.2.1) := by
    rw [List.mem_filter]
    refine ⟨h2, ?_⟩
    have : t.2.2 ≠ t.2.1 := fun z => hne z.symm
    simp [this]
  rw [sum_off f (nd_filter _ hn) h2']
  omega
/-- what a falling in finds -/
structure Fal (L : List Int) (s : RunS) (t : T3) (p q : Part) (u : Int) : Prop where
  hp : (t.2.1, p) ∈ s.parts
  hq : (t.2.2, q) ∈ s.parts
  ne : t.2.1 ≠ t.2.2
  pa : partAt s t.2.1 = p
  qa : partAt s t.2.2 = q
  me : meet p.1 q.1 = some u
  mo : meetOf s t = u
  fi : fallIn p.1 q.1 = some t.1
theorem fal_of {L : List Int} {s : RunS} (h : Ok L s) (hne : s.pairs ≠ []) : ∃ p q u, Fal L s (minP s.pairs) p q u := by
  obtain ⟨e, he, et⟩ := minP_mem hne
  obtain ⟨p, q, h1, h2, h3, h4⟩ := h.prs e he
  have e1 : (minP s.pairs).2.1 = e.1.1 := by rw [← et]; rfl
  have e2 : (minP s.pairs).2.2 = e.1.2 := by rw [← et]; rfl
  have e3 : (minP s.pairs).1 = e.2 := by rw [← et]; rfl
  have hm : ∃ u, meet p.1 q.1 = some u := by
    unfold fallIn at h4
    cases hm : meet p.1 q.1 with
    | none => rw [hm] at h4; cases h4
    | some u => exact ⟨u, rfl⟩
  obtain ⟨u, hu⟩ := hm
  have pa : partAt s (minP s.pairs).2.1 = p := partAt_of h.nd (by rw [e1]; exact h1)
  have qa : partAt s (minP s.pairs).2.2 = q := partAt_of h.nd (by rw [e2]; exact h2)
  refine ⟨p, q, u, by rw [e1]; exact h1, by rw [e2]; exact h2, by rw [e1, e2]; exact h3, pa, qa, hu, ?_, by rw [e3]; exact h4⟩
  unfold meetOf
  rw [pa, qa, hu]
  rfl
section
variable {L : List Int} {s : RunS} {t : T3} {p q : Part} {u : Int}
theorem Fal.two (F : Fal L s t p q u) : (twoOf s t = (p, q) ∧ lastU p.1 u = t.1) ∨ (twoOf s t = (q, p) ∧ lastU p.1 u ≠ t.1) := by
  unfold twoOf
  rw [F.pa, F.qa, F.me]
  rw [show ((some u : Option Int).getD 0) = u from rfl]
  by_cases c : lastU p.1 u = t.1
  · rw [if_pos c]; exact .inl ⟨rfl, c⟩
  · rw [if_neg c]; exact .inr ⟨rfl, c⟩
theorem Fal.names (F : Fal L s t p q u) : (((twoOf s t).1.2 ++ (twoOf s t).2.2).mergeSort leS).length = p.2.length + q.2.length := by
  rw [List.length_mergeSort, List.length_append]
  rcases F.two with ⟨h, _⟩ | ⟨h, _⟩ <;> rw [h]
  exact Nat.add_comm _ _
/-- ahead of the new group's coming -/
def offS (s : RunS) (t : T3) : RunS := { s with parts := s.parts.filter (offPart t), pairs := s.pairs.filter (offPair t) }
theorem Fal.lens (F : Fal L s t p q u) (h : Ok L s) : s.parts.length = 2 + (s.parts.filter (offPart t)).length := by
  have := sum_two (f := fun _ => 1) h.nd F.hp F.hq F.ne
  have c : ∀ l : List (Int × Part), (l.map fun _ => 1).sum = l.length := by
    intro l
    induction l with
    | nil => rfl
    | cons a r ih => rw [List.map_cons, List.sum_cons, ih, List.length_cons]; omega
  rw [c, c] at this
  omega
theorem off_ok (F : Fal L s t p q u) (h : Ok L s) : Ok L (offS s t) := by
  have hlen := F.lens h
  refine ⟨fun e he => h.keys e (List.mem_filter.mp he).1, nd_filter _ h.nd, fun e he => h.len e (List.mem_filter.mp he).1, fun e he => h.nz e (List.mem_filter.mp he).1, ?_, fun e he => ?_, nd_filter' _ h.pnd, ?_, ?_, h.pos, h.rsz, h.ssz, h.str, h.stot⟩
  · have := sum_two (f := fun p : Part => p.2.length) h.nd F.hp F.hq F.ne
    have h2 := h.tot
    show ((s.parts.filter (offPart t)).map fun e => e.2.2.length).sum ≤ L.length
    omega
  · obtain ⟨he, ho⟩ := List.mem_filter.mp he
    obtain ⟨a, b, h1, h2, h3, h4⟩ := h.prs e he
    unfold offPair at ho
    simp only [Bool.and_eq_true, Bool.not_eq_true', Bool.or_eq_false_iff, beq_eq_false_iff_ne] at ho
    obtain ⟨⟨o1, o2⟩, o3, o4⟩ := ho
    refine ⟨a, b, List.mem_filter.mpr ⟨h1, ?_⟩, List.mem_filter.mpr ⟨h2, ?_⟩, h3, h4⟩
    · unfold offPart
      simp only [Bool.not_eq_true', Bool.or_eq_false_iff, beq_eq_false_iff_ne]
      exact ⟨fun z => o1 z.symm, fun z => o3 z.symm⟩
    · unfold offPart
      simp only [Bool.not_eq_true', Bool.or_eq_false_iff, beq_eq_false_iff_ne]
      exact ⟨fun z => o2 z.symm, fun z => o4 z.symm⟩
  · have := h.big
    show s.many + ((s.parts.filter (offPart t)).length : Int) ≤ 80
    omega
  · have h1 := List.length_filter_le (offPair t) s.pairs
    have h2 := h.psz
    show (((s.pairs.filter (offPair t)).length : Nat) : Int) ≤ 80 * s.many
    omega
theorem Fal.tot (F : Fal L s t p q u) (h : Ok L s) : ((offS s t).parts.map (·.2.2.length)).sum + (p.2.length + q.2.length) ≤ L.length := by
  have := sum_two (f := fun p : Part => p.2.length) h.nd F.hp F.hq F.ne
  have h2 := h.tot
  show ((s.parts.filter (offPart t)).map fun e => e.2.2.length).sum + (p.2.length + q.2.length) ≤ L.length
  omega
theorem Fal.some (F : Fal L s t p q u) (h : Ok L s) : ((twoOf s t).1.2 ++ (twoOf s t).2.2).mergeSort leS ≠ [] := by
  intro z
  have h1 := F.names
  rw [z] at h1
  have h2 := h.nz _ F.hp
  have h3 : p.2.length ≠ 0 := fun y => h2 (List.length_eq_zero_iff.mp y)
  simp at h1
  omega
theorem come_ok (F : Fal L s t p q u) (h : Ok L s) : Ok L (comeIn L u (((twoOf s t).1.2 ++ (twoOf s t).2.2).mergeSort leS) (offS s t)) := by
  refine comeIn_ok (off_ok F h) (F.some h) (by rw [F.names]; exact F.tot h) ?_
  have h1 := F.lens h
  have h2 := h.big
  show s.many + ((s.parts.filter (offPart t)).length : Int) + 2 ≤ 80
  omega
theorem fall_eq (F : Fal L s t p q u) : fallS1 L s t = { comeIn L u (((twoOf s t).1.2 ++ (twoOf s t).2.2).mergeSort leS) (offS s t) with rows := s.rows ++ [(t.1, (twoOf s t).1.2, (twoOf s t).2.2)] } := by
  unfold fallS1
  rw [F.mo]
  rfl
end
theorem fallS_ok {L : List Int} {s : RunS} (h : Ok L s) (hne : s.pairs ≠ []) : Ok L (fallS L s) ∧ (fallS L s).parts.length + 1 = s.parts.length := by
  obtain ⟨p, q, u, F⟩ := fal_of h hne
  have C := come_ok F h
  have hl := F.lens h
  unfold fallS
  rw [fall_eq F]
  refine ⟨⟨C.keys, C.nd, C.len, C.nz, C.tot, C.prs, C.pnd, C.big, C.psz, C.pos, ?_, ?_, fun e he => ?_, fun e he => ?_⟩, ?_⟩
  · show (((s.rows ++ [_]).length : Nat) : Int) ≤ s.many + 1
    have := h.rsz
    rw [List.length_append, List.length_singleton]
    push_cast
    omega
  · show (((s.sps ++ [_]).length : Nat) : Int) ≤ s.many + 1 + 1
    have := h.ssz
    rw [List.length_append, List.length_singleton]
    push_cast
    omega
  · rcases List.mem_append.mp he with he | he
    · exact h.str e he
    · rw [List.mem_singleton.mp he]
      intro x hx
      obtain ⟨y, hy, rfl⟩ := List.mem_map.mp hx
      exact ⟨C.len y hy, C.nz y hy⟩
  · rcases List.mem_append.mp he with he | he
    · exact h.stot e he
    · rw [List.mem_singleton.mp he]
      have := C.tot
      rw [List.map_map]
      exact this
  · show ((s.parts.filter (offPart (minP s.pairs))) ++ [_]).length + 1 = s.parts.length
    rw [List.length_append, List.length_singleton]
    omega
theorem iter_ok {L : List Int} : ∀ (n : Nat) {s : RunS}, Ok L s → Ok L (iter L n s)
  | 0, _, h => h
  | n + 1, s, h => by
    unfold iter
    by_cases c : s.pairs = []
    · rw [c]; exact h
    · have : s.pairs.isEmpty = false := by cases hs : s.pairs with
        | nil => exact absurd hs c
        | cons a r => rfl
      rw [this]
      exact iter_ok n (fallS_ok h c).1
/-- with as many turns as there are groups no pair is left -/
theorem iter_done {L : List Int} : ∀ (n : Nat) {s : RunS}, Ok L s → s.parts.length ≤ n → (iter L n s).pairs = []
  | 0, s, h, hn => by
    show s.pairs = []
    cases hs : s.pairs with
    | nil => rfl
    | cons a r =>
      obtain ⟨p, q, h1, _⟩ := h.prs a (by rw [hs]; exact List.mem_cons_self)
      have : s.parts = [] := List.length_eq_zero_iff.mp (by omega)
      rw [this] at h1
      simp at h1
  | n + 1, s, h, hn => by
    unfold iter
    by_cases c : s.pairs = []
    · rw [c]; exact c
    · have e : s.pairs.isEmpty = false := by cases hs : s.pairs with
        | nil => exact absurd hs c
        | cons a r => rfl
      rw [e]
      obtain ⟨h1, h2⟩ := fallS_ok h c
      exact iter_done n h1 (by omega)
end Sl

set_option Elab.async false
set_option linter.all false
set_option maxRecDepth 100000
set_option maxHeartbeats 1000000
/-! The groups, the whole run; the run k times as great. -/
namespace Sl
open PySem
/-! ### keys and groups -/
theorem keysF_nd (st : List (Str × Int)) : ∀ ks : List Int, ks.Nodup → (st.foldl (fun ks e => if e.2 ∈ ks then ks else ks ++ [e.2]) ks).Nodup := by
  induction st with
  | nil => intro ks h; exact h
  | cons e r ih =>
    intro ks h
    rw [List.foldl_cons]
    apply ih
    split
    · exact h
    · rename_i hn
      rw [List.nodup_append]
      refine ⟨h, by simp, fun a ha b hb z => ?_⟩
      simp at hb
      subst hb
      subst z
      exact hn ha
theorem keysF_mem (st : List (Str × Int)) (x : Int) : ∀ ks : List Int, x ∈ st.foldl (fun ks e => if e.2 ∈ ks then ks else ks ++ [e.2]) ks ↔ x ∈ ks ∨ ∃ e ∈ st, e.2 = x := by
  induction st with
  | nil => intro ks; simp
  | cons e r ih =>
    intro ks
    rw [List.foldl_cons, ih]
    constructor
    · rintro (h | ⟨d, hd, h⟩)
      · split at h
        · exact .inl h
        · rcases List.mem_append.mp h with h | h
          · exact .inl h
          · simp at h
            exact .inr ⟨e, List.mem_cons_self, h.symm⟩
      · exact .inr ⟨d, List.mem_cons_of_mem _ hd, h⟩
    · rintro (h | ⟨d, hd, h⟩)
      · left
        split
        · exact h
        · exact List.mem_append_left _ h
      · rcases List.mem_cons.mp hd with rfl | hd
        · left
          split
          · rename_i hm; rw [← h]; exact hm
          · rw [← h]; exact List.mem_append_right _ (List.mem_singleton.mpr rfl)
        · exact .inr ⟨d, hd, h⟩
theorem keys_nd (st : List (Str × Int)) : (keysOf st).Nodup := keysF_nd st [] List.nodup_nil
theorem keys_mem (st : List (Str × Int)) (x : Int) : x ∈ keysOf st ↔ ∃ e ∈ st, e.2 = x := by
  unfold keysOf
  rw [keysF_mem]
  simp
theorem names_cons (e : Str × Int) (r : List (Str × Int)) (x : Int) : (namesAt (e :: r) x).length = (if e.2 == x then 1 else 0) + (namesAt r x).length := by
  unfold namesAt
  rw [List.filter_cons]
  split
  · rw [List.map_cons, List.length_cons]; omega
  · omega
theorem sum_ind (a : Int) (g : Int → Nat) : ∀ ks : List Int, ks.Nodup → a ∈ ks → (ks.map fun x => (if a == x then 1 else 0) + g x).sum = 1 + (ks.map g).sum := by
  intro ks
  induction ks with
  | nil => intro _ h; simp at h
  | cons b r ih =>
    intro hn h
    rw [List.nodup_cons] at hn
    rw [List.map_cons, List.sum_cons, List.map_cons, List.sum_cons]
    rcases List.mem_cons.mp h with rfl | h2
    · have e : r.map (fun x => (if a == x then 1 else 0) + g x) = r.map g := by
        refine List.map_congr_left fun x hx => ?_
        have : (a == x) = false := by
          rw [beq_eq_false_iff_ne]
          intro z; subst z; exact hn.1 hx
        rw [this]
        simp
      rw [e, beq_self_eq_true]
      simp
      omega
    · have : (a == b) = false := by
        rw [beq_eq_false_iff_ne]
        intro z; exact hn.1 (z ▸ h2)
      rw [this, ih hn.2 h2]
      simp
      omega
theorem sum_names (st : List (Str × Int)) : ∀ ks : List Int, ks.Nodup → (∀ e ∈ st, e.2 ∈ ks) → (ks.map fun r => (namesAt st r).length).sum = st.length := by
  induction st with
  | nil =>
    intro ks _ _
    have : ks.map (fun r => (namesAt [] r).length) = ks.map fun _ => 0 := List.map_congr_left fun _ _ => rfl
    have z : ∀ l : List Int, (l.map fun _ => 0).sum = 0 := by
      intro l
      induction l with
      | nil => rfl
      | cons a r ih => rw [List.map_cons, List.sum_cons, ih]
    rw [this, z]
    rfl
  | cons e r ih =>
    intro ks hn hm
    have : ks.map (fun x => (namesAt (e :: r) x).length) = ks.map fun x => (if e.2 == x then 1 else 0) + (namesAt r x).length := List.map_congr_left fun x _ => names_cons e r x
    rw [this, sum_ind e.2 _ ks hn (hm e List.mem_cons_self), ih ks hn fun d hd => hm d (List.mem_cons_of_mem _ hd), List.length_cons]
    omega
def keysS (st : List (Str × Int)) : List Int := (keysOf st).mergeSort fun x y => decide (x ≤ y)
theorem keysS_nd (st : List (Str × Int)) : (keysS st).Nodup := (List.mergeSort_perm _ _).nodup_iff.mpr (keys_nd st)
theorem keysS_mem (st : List (Str × Int)) (x : Int) : x ∈ keysS st ↔ ∃ e ∈ st, e.2 = x := by
  unfold keysS
  rw [List.mem_mergeSort]
  exact keys_mem st x
theorem groups_eq (st : List (Str × Int)) : groups st = (keysS st).map fun r => (r, namesAt st r) := rfl
theorem groups_tot (st : List (Str × Int)) : ((groups st).map fun g => g.2.length).sum = st.length := by
  rw [groups_eq, List.map_map]
  exact sum_names st (keysS st) (keysS_nd st) fun e he => (keysS_mem st e.2).mpr ⟨e, he, rfl⟩
theorem groups_nz (st : List (Str × Int)) : ∀ g ∈ groups st, g.2 ≠ [] := by
  intro g hg
  rw [groups_eq] at hg
  obtain ⟨r, hr, rfl⟩ := List.mem_map.mp hg
  obtain ⟨e, he, h⟩ := (keysS_mem st r).mp hr
  intro z
  have : e.1 ∈ namesAt st r := by
    unfold namesAt
    exact List.mem_map.mpr ⟨e, List.mem_filter.mpr ⟨he, by simp [h]⟩, rfl⟩
  have z' : namesAt st r = [] := z
  rw [z'] at this
  simp at this
theorem fm_congr {α β : Type} {f g : α → Option β} : ∀ {l : List α}, (∀ x ∈ l, f x = g x) → l.filterMap f = l.filterMap g
  | [], _ => rfl
  | a :: l, h => by
    rw [List.filterMap_cons, List.filterMap_cons, h a List.mem_cons_self, fm_congr fun x hx => h x (List.mem_cons_of_mem _ hx)]
theorem len_le_sum : ∀ gs : List (Int × Nm), (∀ g ∈ gs, g.2 ≠ []) → gs.length ≤ (gs.map fun g => g.2.length).sum
  | [], _ => Nat.le_refl _
  | g :: r, h => by
    have h1 := len_le_sum r fun d hd => h d (List.mem_cons_of_mem _ hd)
    have h2 : g.2.length ≠ 0 := fun z => h g List.mem_cons_self (List.length_eq_zero_iff.mp z)
    rw [List.map_cons, List.sum_cons, List.length_cons]
    omega
theorem groups_len (st : List (Str × Int)) : (groups st).length ≤ st.length := by
  rw [← groups_tot st]
  exact len_le_sum _ (groups_nz st)
/-! ### the first state -/
theorem runF_ok {L : List Int} (h40 : L.length ≤ 40) : ∀ (gs : List (Int × Nm)) (s : RunS), Ok L s → s.many = s.parts.length → (∀ g ∈ gs, g.2 ≠ []) → (s.parts.map (·.2.2.length)).sum + (gs.map fun g => g.2.length).sum ≤ L.length → s.parts.length + gs.length ≤ 40 →
    Ok L (gs.foldl (fun s g => comeIn L g.1 g.2 s) s)
  | [], s, h, _, _, _, _ => h
  | g :: r, s, h, hm, hn, ht, hl => by
    rw [List.foldl_cons]
    rw [List.map_cons, List.sum_cons] at ht
    rw [List.length_cons] at hl
    have c := comeIn_ok (f := g.1) h (hn g List.mem_cons_self) (by omega) (by omega)
    refine runF_ok h40 r _ c ?_ (fun d hd => hn d (List.mem_cons_of_mem _ hd)) ?_ ?_
    · show s.many + 1 = (((s.parts ++ [_]).length : Nat) : Int)
      rw [List.length_append, List.length_singleton]
      push_cast
      omega
    · show (List.map (fun e : Int × Part => e.2.2.length) (s.parts ++ [_])).sum + _ ≤ _
      rw [List.map_append, List.sum_append]
      simp
      omega
    · show (s.parts ++ [_]).length + r.length ≤ 40
      rw [List.length_append, List.length_singleton]
      omega
/-- a book and a standing of it -/
structure Good (L : List Int) (st : List (Str × Int)) : Prop where
  l1 : 1 ≤ L.length
  l40 : L.length ≤ 40
  pos : ∀ l ∈ L, 0 < l
  top : ∀ l ∈ L, l ≤ 1000000000
  sz : st.length ≤ L.length
theorem runI_ok {L : List Int} {st : List (Str × Int)} (G : Good L st) : Ok L (runI L (groups st)) := by
  have h1 := groups_tot st
  have h2 := groups_len st
  have h3 := G.sz
  have h4 := G.l40
  exact runF_ok G.l40 (groups st) run0 (run0_ok L) rfl (groups_nz st) (by show 0 + _ ≤ _; omega) (by show 0 + _ ≤ _; omega)
theorem runI_sps (L : List Int) : ∀ (gs : List (Int × Nm)) (s : RunS), (gs.foldl (fun s g => comeIn L g.1 g.2 s) s).sps = s.sps
  | [], _ => rfl
  | g :: r, s => by rw [List.foldl_cons, runI_sps L r]; rfl
theorem runJ_ok {L : List Int} {st : List (Str × Int)} (G : Good L st) : Ok L (runJ L (groups st)) := by
  have h := runI_ok G
  refine ⟨h.keys, h.nd, h.len, h.nz, h.tot, h.prs, h.pnd, h.big, h.psz, h.pos, h.rsz, ?_, fun e he => ?_, fun e he => ?_⟩
  · have := h.pos
    show (([_].length : Nat) : Int) ≤ (runI L (groups st)).many + 1
    rw [List.length_singleton]
    omega
  · rw [List.mem_singleton.mp he]
    intro x hx
    obtain ⟨y, hy, rfl⟩ := List.mem_map.mp hx
    exact ⟨h.len y hy, h.nz y hy⟩
  · rw [List.mem_singleton.mp he]
    have := h.tot
    rw [List.map_map]
    exact this
theorem run_ok {L : List Int} {st : List (Str × Int)} (G : Good L st) : Ok L (run L st) := iter_ok _ (runJ_ok G)
theorem run_done {L : List Int} {st : List (Str × Int)} (G : Good L st) : (run L st).pairs = [] := iter_done _ (runJ_ok G) (Nat.le_refl _)

/-! ### all k times as great -/
def sp (k : Int) (p : Part) : Part := (sg k p.1, p.2)
def scR (k : Int) (s : RunS) : RunS :=
  { many := s.many, parts := s.parts.map fun e => (e.1, sp k e.2), pairs := s.pairs.map fun e => (e.1, e.2 * k), rows := s.rows.map fun e => (e.1 * k, e.2), sps := s.sps.map fun e => (e.1 * k, e.2.map (sp k)) }
def kL (k : Int) (L : List Int) : List Int := L.map (· * k)
def kS (k : Int) (st : List (Str × Int)) : List (Str × Int) := st.map fun e => (e.1, e.2 * k)
section
variable {k : Int} (hk : 0 < k) {L : List Int} {s : RunS}
theorem slp_k {n : Nat} (h0 : 0 < n) (h : n ≤ L.length) : slp (kL k L) n = slp L n * k := by
  unfold slp kL
  rw [List.getD_eq_getElem?_getD, List.getD_eq_getElem?_getD, List.getElem?_map, List.getElem?_eq_getElem (by omega)]
  rfl
include hk
theorem comeIn_k {f : Int} {ns : Nm} (h : Ok L s) (hL : ∀ l ∈ L, 0 < l) (h0 : ns ≠ []) (h1 : ns.length ≤ L.length) : comeIn (kL k L) (f * k) ns (scR k s) = scR k (comeIn L f ns s) := by
  have hl : 0 < ns.length := List.length_pos_iff.mpr h0
  unfold comeIn scR
  rw [slp_k hl h1]
  have hp : 0 < slp L ns.length := hL _ (slp_mem hl h1)
  simp only [List.map_append, List.map_cons, List.map_nil, RunS.mk.injEq, true_and, and_true]
  refine ⟨rfl, ?_⟩
  congr 1
  rw [List.filterMap_map, List.map_filterMap]
  refine fm_congr fun e he => ?_
  have he2 : 0 < e.2.1.2 := hL _ (h.len e he)
  show (fallIn (sg k (f, slp L ns.length)) (sg k e.2.1)).map _ = _
  rw [fallIn_k hk hp he2]
  cases fallIn (f, slp L ns.length) e.2.1 <;> rfl
theorem t3Lt_k (a b : T3) : t3Lt (a.1 * k, a.2) (b.1 * k, b.2) = t3Lt a b := by
  unfold t3Lt
  have e1 : decide (a.1 * k < b.1 * k) = decide (a.1 < b.1) := decide_eq_decide.mpr (lt_k hk)
  have e2 : decide (a.1 * k = b.1 * k) = decide (a.1 = b.1) := decide_eq_decide.mpr (eq_k hk)
  dsimp only
  rw [e1, e2]
theorem min3_k (x : T3) (xs : List T3) : min3 (x.1 * k, x.2) (xs.map fun t => (t.1 * k, t.2)) = ((min3 x xs).1 * k, (min3 x xs).2) := by
  unfold min3
  induction xs generalizing x with
  | nil => rfl
  | cons y r ih =>
    rw [List.map_cons, List.foldl_cons, List.foldl_cons, t3Lt_k hk y x, ← ih]
    congr 1
    split <;> rfl
theorem minP_k (l : List ((Int × Int) × Int)) : minP (l.map fun e => (e.1, e.2 * k)) = ((minP l).1 * k, (minP l).2) := by
  cases l with
  | nil => show ((0 : Int), (0 : Int), (0 : Int)) = (0 * k, 0, 0); rw [Int.zero_mul]
  | cons e r =>
    show min3 (tri (e.1, e.2 * k)) ((r.map fun e => (e.1, e.2 * k)).map tri) = _
    have : (r.map fun e => (e.1, e.2 * k)).map tri = (r.map tri).map fun t => (t.1 * k, t.2) := by rw [List.map_map, List.map_map]; rfl
    rw [this]
    exact min3_k hk (tri e) (r.map tri)
end
end Sl

set_option Elab.async false
set_option linter.all false
set_option maxRecDepth 100000
set_option maxHeartbeats 1000000
/-! The run of a hall k times as slow. -/
namespace Sl
open PySem
section
variable {k : Int} (hk : 0 < k) {L : List Int} {s : RunS}
theorem lookup_map {α β : Type} (f : α → β) (a : Int) : ∀ l : List (Int × α), (l.map fun e => (e.1, f e.2)).lookup a = (l.lookup a).map f
  | [] => rfl
  | (b, x) :: r => by
    rw [List.map_cons, List.lookup_cons, List.lookup_cons]
    dsimp only
    cases (a == b) with
    | true => rfl
    | false => exact lookup_map f a r
theorem partAt_k {a : Int} {p : Part} (hn : (s.parts.map (·.1)).Nodup) (h : (a, p) ∈ s.parts) : partAt (scR k s) a = sp k p := by
  unfold partAt scR
  dsimp only
  rw [lookup_map, lookup_mem hn h]
  rfl
include hk
theorem fall_k {t : T3} {p q : Part} {u : Int} (F : Fal L s t p q u) (h : Ok L s) (hL : ∀ l ∈ L, 0 < l) :
    fallS1 (kL k L) (scR k s) (t.1 * k, t.2) = scR k (fallS1 L s t) := by
  have hp : 0 < p.1.2 := hL _ (h.len _ F.hp)
  have hq : 0 < q.1.2 := hL _ (h.len _ F.hq)
  have pa : partAt (scR k s) t.2.1 = sp k p := partAt_k h.nd F.hp
  have qa : partAt (scR k s) t.2.2 = sp k q := partAt_k h.nd F.hq
  have mk : meetOf (scR k s) (t.1 * k, t.2) = u * k := by
    unfold meetOf
    dsimp only
    rw [pa, qa]
    show (meet (sg k p.1) (sg k q.1)).getD 0 = u * k
    rw [meet_k hk hp hq, F.me]
    rfl
  have tw : twoOf (scR k s) (t.1 * k, t.2) = (sp k (twoOf s t).1, sp k (twoOf s t).2) := by
    have t1 : twoOf (scR k s) (t.1 * k, t.2) = if lastU (sg k p.1) (u * k) = t.1 * k then (sp k p, sp k q) else (sp k q, sp k p) := by
      unfold twoOf
      dsimp only
      rw [pa, qa]
      show (if lastU (sg k p.1) ((meet (sg k p.1) (sg k q.1)).getD 0) = t.1 * k then _ else _) = _
      rw [meet_k hk hp hq, F.me]
      rfl
    rw [t1, lastU_k hk hp]
    rcases F.two with ⟨e, c⟩ | ⟨e, c⟩
    · rw [if_pos (by rw [c]), e]
    · rw [if_neg (fun z => c ((eq_k hk).mp z)), e]
  have hnames : ((sp k (twoOf s t).1).2 ++ (sp k (twoOf s t).2).2).mergeSort leS = ((twoOf s t).1.2 ++ (twoOf s t).2.2).mergeSort leS := rfl
  have off : ({ many := (scR k s).many, parts := (scR k s).parts.filter (offPart (t.1 * k, t.2)), pairs := (scR k s).pairs.filter (offPair (t.1 * k, t.2)), rows := (scR k s).rows ++ [(t.1 * k, (sp k (twoOf s t).1).2, (sp k (twoOf s t).2).2)], sps := (scR k s).sps } : RunS)
      = scR k { many := s.many, parts := s.parts.filter (offPart t), pairs := s.pairs.filter (offPair t), rows := s.rows ++ [(t.1, (twoOf s t).1.2, (twoOf s t).2.2)], sps := s.sps } := by
    unfold scR
    simp only [RunS.mk.injEq, true_and, and_true, List.map_append, List.map_cons, List.map_nil]
    refine ⟨?_, ?_, rfl⟩
    · rw [List.filter_map]; rfl
    · rw [List.filter_map]; rfl
  have O := off_ok F h
  have hs := F.some h
  have hle : (((twoOf s t).1.2 ++ (twoOf s t).2.2).mergeSort leS).length ≤ L.length := by
    have := F.tot h
    rw [F.names]
    omega
  unfold fallS1
  rw [mk, tw, F.mo]
  dsimp only
  rw [hnames, off]
  have O2 : Ok L { many := s.many, parts := s.parts.filter (offPart t), pairs := s.pairs.filter (offPair t), rows := s.rows, sps := s.sps } := O
  -- the rows do not matter to what comes in
  have c := comeIn_k hk (f := u) O2 hL hs hle
  have r1 : ∀ (f : Int) (ns : Nm) (L : List Int) (z : RunS) (rw' : List (Int × Nm × Nm)), comeIn L f ns { z with rows := rw' } = { comeIn L f ns z with rows := rw' } := fun _ _ _ _ _ => rfl
  have e1 : scR k { many := s.many, parts := s.parts.filter (offPart t), pairs := s.pairs.filter (offPair t), rows := s.rows ++ [(t.1, (twoOf s t).1.2, (twoOf s t).2.2)], sps := s.sps } =
      { scR k { many := s.many, parts := s.parts.filter (offPart t), pairs := s.pairs.filter (offPair t), rows := s.rows, sps := s.sps } with rows := (s.rows ++ [(t.1, (twoOf s t).1.2, (twoOf s t).2.2)]).map fun e => (e.1 * k, e.2) } := rfl
  rw [e1, r1, c]
  rfl
theorem fallS_k (h : Ok L s) (hne : s.pairs ≠ []) (hL : ∀ l ∈ L, 0 < l) : fallS (kL k L) (scR k s) = scR k (fallS L s) := by
  obtain ⟨p, q, u, F⟩ := fal_of h hne
  have e := fall_k hk F h hL
  have em : minP (scR k s).pairs = ((minP s.pairs).1 * k, (minP s.pairs).2) := minP_k hk s.pairs
  unfold fallS
  rw [em, e]
  unfold scR
  simp only [RunS.mk.injEq, true_and, and_true, List.map_append, List.map_cons, List.map_nil]
  congr 1
  rw [List.map_map, List.map_map]
  rfl
theorem iter_k (hL : ∀ l ∈ L, 0 < l) : ∀ (n : Nat) {s : RunS}, Ok L s → iter (kL k L) n (scR k s) = scR k (iter L n s)
  | 0, _, _ => rfl
  | n + 1, s, h => by
    unfold iter
    by_cases c : s.pairs = []
    · have e1 : (scR k s).pairs.isEmpty = true := by unfold scR; dsimp only; rw [c]; rfl
      have e2 : s.pairs.isEmpty = true := by rw [c]; rfl
      rw [e1, e2]
      rfl
    · have e2 : s.pairs.isEmpty = false := by cases hs : s.pairs with
        | nil => exact absurd hs c
        | cons a r => rfl
      have e1 : (scR k s).pairs.isEmpty = false := by
        unfold scR
        dsimp only
        cases hs : s.pairs with
        | nil => exact absurd hs c
        | cons a r => rfl
      rw [e1, e2]
      show iter (kL k L) n (fallS (kL k L) (scR k s)) = scR k (iter L n (fallS L s))
      rw [fallS_k hk h c hL, iter_k hL n (fallS_ok h c).1]
/-! the groups -/
theorem keysF_k (st : List (Str × Int)) : ∀ ks : List Int, (kS k st).foldl (fun ks e => if e.2 ∈ ks then ks else ks ++ [e.2]) (ks.map (· * k)) = (st.foldl (fun ks e => if e.2 ∈ ks then ks else ks ++ [e.2]) ks).map (· * k) := by
  induction st with
  | nil => intro ks; rfl
  | cons e r ih =>
    intro ks
    show (kS k r).foldl _ (if e.2 * k ∈ ks.map (· * k) then ks.map (· * k) else ks.map (· * k) ++ [e.2 * k]) = (r.foldl _ (if e.2 ∈ ks then ks else ks ++ [e.2])).map (· * k)
    rw [← ih]
    congr 1
    have hm : e.2 * k ∈ ks.map (· * k) ↔ e.2 ∈ ks := by
      rw [List.mem_map]
      constructor
      · rintro ⟨x, hx, ex⟩
        have : x = e.2 := (eq_k hk).mp ex
        rw [← this]; exact hx
      · intro h; exact ⟨e.2, h, rfl⟩
    by_cases c : e.2 ∈ ks
    · rw [if_pos c, if_pos (hm.mpr c)]
    · rw [if_neg c, if_neg (fun z => c (hm.mp z)), List.map_append]
      rfl
theorem keysS_k (st : List (Str × Int)) : keysS (kS k st) = (keysS st).map (· * k) := by
  unfold keysS
  have e : keysOf (kS k st) = (keysOf st).map (· * k) := keysF_k hk st []
  rw [e]
  symm
  refine List.map_mergeSort (fun a _ b _ => ?_)
  exact decide_eq_decide.mpr (le_k hk).symm
theorem namesAt_k (st : List (Str × Int)) (r : Int) : namesAt (kS k st) (r * k) = namesAt st r := by
  unfold namesAt kS
  rw [List.filter_map, List.map_map]
  have : List.filter ((fun e : Str × Int => e.2 == r * k) ∘ fun e => (e.1, e.2 * k)) st = st.filter fun e => e.2 == r := by
    refine List.filter_congr fun e _ => ?_
    show (e.2 * k == r * k) = (e.2 == r)
    rw [Bool.eq_iff_iff, beq_iff_eq, beq_iff_eq]
    exact eq_k hk
  rw [this]
  rfl
theorem groups_k (st : List (Str × Int)) : groups (kS k st) = (groups st).map fun g => (g.1 * k, g.2) := by
  rw [groups_eq, groups_eq, keysS_k hk, List.map_map, List.map_map]
  refine List.map_congr_left fun r _ => ?_
  show (r * k, namesAt (kS k st) (r * k)) = (r * k, namesAt st r)
  rw [namesAt_k hk]
theorem runF_k (hL : ∀ l ∈ L, 0 < l) (h40 : L.length ≤ 40) : ∀ (gs : List (Int × Nm)) (s : RunS), Ok L s → s.many = s.parts.length → (∀ g ∈ gs, g.2 ≠ []) → (s.parts.map (·.2.2.length)).sum + (gs.map fun g => g.2.length).sum ≤ L.length → s.parts.length + gs.length ≤ 40 →
    (gs.map fun g => (g.1 * k, g.2)).foldl (fun s g => comeIn (kL k L) g.1 g.2 s) (scR k s) = scR k (gs.foldl (fun s g => comeIn L g.1 g.2 s) s)
  | [], s, h, _, _, _, _ => rfl
  | g :: r, s, h, hm, hn, ht, hl => by
    rw [List.map_cons, List.foldl_cons, List.foldl_cons]
    rw [List.map_cons, List.sum_cons] at ht
    rw [List.length_cons] at hl
    have g0 := hn g List.mem_cons_self
    have c := comeIn_ok (f := g.1) h g0 (by omega) (by omega)
    rw [comeIn_k hk h hL g0 (by omega)]
    refine runF_k hL h40 r _ c ?_ (fun d hd => hn d (List.mem_cons_of_mem _ hd)) ?_ ?_
    · show s.many + 1 = (((s.parts ++ [_]).length : Nat) : Int)
      rw [List.length_append, List.length_singleton]
      push_cast
      omega
    · show (List.map (fun e : Int × Part => e.2.2.length) (s.parts ++ [_])).sum + _ ≤ _
      rw [List.map_append, List.sum_append]
      simp
      omega
    · show (s.parts ++ [_]).length + r.length ≤ 40
      rw [List.length_append, List.length_singleton]
      omega
theorem runJ_k {st : List (Str × Int)} (G : Good L st) : runJ (kL k L) (groups (kS k st)) = scR k (runJ L (groups st)) := by
  have h1 := groups_tot st
  have h2 := groups_len st
  have h3 := G.sz
  have h4 := G.l40
  have e : runI (kL k L) (groups (kS k st)) = scR k (runI L (groups st)) := by
    unfold runI
    rw [groups_k hk]
    exact runF_k hk G.pos G.l40 (groups st) run0 (run0_ok L) rfl (groups_nz st) (by show 0 + _ ≤ _; omega) (by show 0 + _ ≤ _; omega)
  unfold runJ
  rw [e]
  unfold scR
  simp only [RunS.mk.injEq, true_and, and_true, List.map_cons, List.map_nil, Int.zero_mul, List.cons.injEq, Prod.mk.injEq, List.map_map]
  rfl
theorem run_k {st : List (Str × Int)} (G : Good L st) : run (kL k L) (kS k st) = scR k (run L st) := by
  unfold run
  rw [runJ_k hk G, ← iter_k hk G.pos _ (runJ_ok G)]
  congr 1
  unfold scR
  dsimp only
  rw [List.length_map]
end
end Sl

set_option Elab.async false
set_option linter.all false
set_option maxRecDepth 100000
set_option maxHeartbeats 1000000
/-! What else is kept: nothing lies ahead of 0, all sleepers are there in each stretch. -/
namespace Sl
open PySem
theorem lastU_nn {g : Go} {b : Int} (h0 : 0 ≤ g.1) (h1 : 0 < g.2) : 0 ≤ lastU g b := by
  unfold lastU
  split
  · omega
  · have h2 := Int.emod_add_mul_ediv (b - 1 - g.1) g.2
    have h3 : 0 ≤ (b - 1 - g.1) / g.2 := Int.ediv_nonneg (by omega) (Int.le_of_lt h1)
    have h4 : 0 ≤ g.2 * ((b - 1 - g.1) / g.2) := Int.mul_nonneg (Int.le_of_lt h1) h3
    omega
theorem meet_nn {a b : Go} {u : Int} (h0 : 0 ≤ a.1) (h1 : 0 < a.2) (h2 : 0 < b.2) (h : meet a b = some u) : 0 ≤ u := by
  have hb : 0 < b.2 / gcdI a.2 b.2 := div_gcd_pos' h1 h2
  have hm : 0 ≤ meet0 a b := by
    unfold meet0
    have := Int.mul_nonneg (Int.le_of_lt h1) (Int.emod_nonneg ((b.1 - a.1) / gcdI a.2 b.2 * inv (a.2 / gcdI a.2 b.2) (b.2 / gcdI a.2 b.2)) (Int.ne_of_gt hb))
    omega
  unfold meet at h
  split at h
  · cases h
  · split at h
    · rename_i h3
      have h := Option.some.inj h
      have hmu := mult_pos h1 h2
      have h4 : 0 ≤ (b.1 - meet0 a b + mult a.2 b.2 - 1) / mult a.2 b.2 := Int.ediv_nonneg (by omega) (Int.le_of_lt hmu)
      have h5 := Int.mul_nonneg h4 (Int.le_of_lt hmu)
      omega
    · have h := Option.some.inj h
      omega
theorem fallIn_nn {a b : Go} {u : Int} (h0 : 0 ≤ a.1) (h1 : 0 < a.2) (h : fallIn a b = some u) : 0 ≤ u := by
  unfold fallIn at h
  cases hm : meet a b with
  | none => rw [hm] at h; cases h
  | some m =>
    rw [hm] at h
    have h : max (lastU a m) (lastU b m) = u := Option.some.inj h
    have := lastU_nn (b := m) h0 h1
    omega
def totP (ps : List (Int × Part)) : Nat := (ps.map fun e => e.2.2.length).sum
structure Ok2 (n : Nat) (s : RunS) : Prop where
  fst : ∀ e ∈ s.parts, 0 ≤ e.2.1.1
  row : ∀ e ∈ s.rows, 0 ≤ e.1
  tot : totP s.parts = n
  stot : ∀ e ∈ s.sps, (e.2.map (·.2.length)).sum = n
  hd : ∃ ps r, s.sps = (0, ps) :: r
theorem fallS_ok2 {L : List Int} {n : Nat} {s : RunS} (h : Ok L s) (h2 : Ok2 n s) (hL : ∀ l ∈ L, 0 < l) (hne : s.pairs ≠ []) : Ok2 n (fallS L s) := by
  obtain ⟨p, q, u, F⟩ := fal_of h hne
  have hp : 0 < p.1.2 := hL _ (h.len _ F.hp)
  have hq : 0 < q.1.2 := hL _ (h.len _ F.hq)
  have fp : 0 ≤ p.1.1 := h2.fst _ F.hp
  have hu : 0 ≤ u := meet_nn fp hp hq F.me
  have ht : totP ((s.parts.filter (offPart (minP s.pairs))) ++ [(s.many, ((u, slp L (((twoOf s (minP s.pairs)).1.2 ++ (twoOf s (minP s.pairs)).2.2).mergeSort leS).length), ((twoOf s (minP s.pairs)).1.2 ++ (twoOf s (minP s.pairs)).2.2).mergeSort leS))]) = n := by
    have := sum_two (f := fun p : Part => p.2.length) h.nd F.hp F.hq F.ne
    have h3 := h2.tot
    have h4 := F.names
    unfold totP at h3 ⊢
    rw [List.map_append, List.sum_append]
    simp only [List.map_cons, List.map_nil, List.sum_cons, List.sum_nil]
    omega
  unfold fallS
  rw [fall_eq F]
  refine ⟨fun e he => ?_, fun e he => ?_, ht, fun e he => ?_, ?_⟩
  · rcases List.mem_append.mp he with he | he
    · exact h2.fst e (List.mem_filter.mp he).1
    · rw [List.mem_singleton.mp he]; exact hu
  · rcases List.mem_append.mp he with he | he
    · exact h2.row e he
    · rw [List.mem_singleton.mp he]; exact fallIn_nn fp hp F.fi
  · rcases List.mem_append.mp he with he | he
    · exact h2.stot e he
    · rw [List.mem_singleton.mp he]
      unfold totP at ht
      show (((comeIn L u _ (offS s _)).parts.map (·.2)).map (·.2.length)).sum = n
      rw [List.map_map]
      exact ht
  · obtain ⟨ps, r, e⟩ := h2.hd
    exact ⟨ps, r ++ [_], by
      show s.sps ++ [_] = _
      rw [e]
      rfl⟩
theorem iter_ok2 {L : List Int} {m : Nat} (hL : ∀ l ∈ L, 0 < l) : ∀ (n : Nat) {s : RunS}, Ok L s → Ok2 m s → Ok2 m (iter L n s)
  | 0, _, _, h => h
  | n + 1, s, h, h2 => by
    unfold iter
    by_cases c : s.pairs = []
    · rw [c]; exact h2
    · have : s.pairs.isEmpty = false := by cases hs : s.pairs with
        | nil => exact absurd hs c
        | cons a r => rfl
      rw [this]
      exact iter_ok2 hL n (fallS_ok h c).1 (fallS_ok2 h h2 hL c)
theorem runF_fst {L : List Int} : ∀ (gs : List (Int × Nm)) (s : RunS), (∀ g ∈ gs, 0 ≤ g.1) → (∀ e ∈ s.parts, 0 ≤ e.2.1.1) → ∀ e ∈ (gs.foldl (fun s g => comeIn L g.1 g.2 s) s).parts, 0 ≤ e.2.1.1
  | [], s, _, h => h
  | g :: r, s, hg, h => by
    rw [List.foldl_cons]
    refine runF_fst r _ (fun d hd => hg d (List.mem_cons_of_mem _ hd)) fun e he => ?_
    rcases List.mem_append.mp he with he | he
    · exact h e he
    · rw [List.mem_singleton.mp he]; exact hg g List.mem_cons_self
theorem runF_rows {L : List Int} : ∀ (gs : List (Int × Nm)) (s : RunS), (gs.foldl (fun s g => comeIn L g.1 g.2 s) s).rows = s.rows
  | [], _ => rfl
  | g :: r, s => by rw [List.foldl_cons, runF_rows r]; rfl
theorem runF_tot {L : List Int} : ∀ (gs : List (Int × Nm)) (s : RunS), totP (gs.foldl (fun s g => comeIn L g.1 g.2 s) s).parts = totP s.parts + (gs.map fun g => g.2.length).sum
  | [], s => by simp
  | g :: r, s => by
    rw [List.foldl_cons, runF_tot r]
    have : totP (comeIn L g.1 g.2 s).parts = totP s.parts + g.2.length := by
      unfold totP
      show (List.map (fun e : Int × Part => e.2.2.length) (s.parts ++ [_])).sum = _
      rw [List.map_append, List.sum_append]
      simp
    rw [this, List.map_cons, List.sum_cons]
    omega
theorem groups_fst {st : List (Str × Int)} (h : ∀ e ∈ st, 0 ≤ e.2) : ∀ g ∈ groups st, 0 ≤ g.1 := by
  intro g hg
  rw [groups_eq] at hg
  obtain ⟨r, hr, rfl⟩ := List.mem_map.mp hg
  obtain ⟨e, he, h1⟩ := (keysS_mem st r).mp hr
  show 0 ≤ r
  rw [← h1]
  exact h e he
theorem run_ok2 {L : List Int} {st : List (Str × Int)} (G : Good L st) (h : ∀ e ∈ st, 0 ≤ e.2) : Ok2 st.length (run L st) := by
  refine iter_ok2 G.pos _ (runJ_ok G) ⟨?_, ?_, ?_, ?_, ?_⟩
  · exact runF_fst (groups st) run0 (groups_fst h) (by intro e he; simp [run0] at he)
  · have e : (runJ L (groups st)).rows = [] := runF_rows (groups st) run0
    rw [e]
    intro x hx
    simp at hx
  · have e := runF_tot (L := L) (groups st) run0
    rw [groups_tot] at e
    have z : totP run0.parts = 0 := rfl
    rw [z, Nat.zero_add] at e
    exact e
  · intro e he
    rw [List.mem_singleton.mp he]
    have e := runF_tot (L := L) (groups st) run0
    rw [groups_tot] at e
    have z : totP run0.parts = 0 := rfl
    rw [z, Nat.zero_add] at e
    rw [List.map_map]
    exact e
  · exact ⟨_, [], rfl⟩

/-! ### the parts at a beat -/
def partsAt (sps : List (Int × List Part)) (b : Int) : List Part := ((sps.filter fun e => decide (e.1 ≤ b)).getLast?.map (·.2)).getD []
theorem partsAt_mem {n : Nat} {s : RunS} (h : Ok2 n s) {b : Int} (hb : 0 ≤ b) : ∃ e ∈ s.sps, (s.sps.filter fun e => decide (e.1 ≤ b)).getLast? = some e ∧ partsAt s.sps b = e.2 := by
  obtain ⟨ps, r, e⟩ := h.hd
  cases hl : (s.sps.filter fun e => decide (e.1 ≤ b)).getLast? with
  | none =>
    rw [List.getLast?_eq_none_iff] at hl
    have : (0, ps) ∈ s.sps.filter fun e => decide (e.1 ≤ b) := by
      rw [List.mem_filter]
      refine ⟨by rw [e]; exact List.mem_cons_self, ?_⟩
      show decide ((0 : Int) ≤ b) = true
      exact decide_eq_true hb
    rw [hl] at this
    simp at this
  | some x =>
    have hx : x ∈ s.sps.filter fun e => decide (e.1 ≤ b) := List.mem_of_getLast? hl
    refine ⟨x, (List.mem_filter.mp hx).1, rfl, ?_⟩
    unfold partsAt
    rw [hl]
    rfl
section
variable {k : Int} (hk : 0 < k)
include hk
theorem partsAt_in (sps : List (Int × List Part)) {b e : Int} (h0 : 0 ≤ e) (h1 : e < k) : partsAt (sps.map fun x => (x.1 * k, x.2.map (sp k))) (b * k + e) = (partsAt sps b).map (sp k) := by
  unfold partsAt
  rw [List.filter_map]
  have : List.filter ((fun x : Int × List Part => decide (x.1 ≤ b * k + e)) ∘ fun x => (x.1 * k, x.2.map (sp k))) sps = sps.filter fun x => decide (x.1 ≤ b) := by
    refine List.filter_congr fun x _ => ?_
    show decide (x.1 * k ≤ b * k + e) = decide (x.1 ≤ b)
    have := lt_in hk (b := b) (c := x.1) h0 h1
    exact decide_eq_decide.mpr (by omega)
  rw [this, List.getLast?_map]
  cases (sps.filter fun x => decide (x.1 ≤ b)).getLast? <;> rfl
end
end Sl

set_option Elab.async false
set_option linter.all false
set_option maxRecDepth 100000
set_option maxHeartbeats 1000000
/-! What is told of a run, and of the slower one. -/
namespace Sl
open PySem
def prD (p : Str × Int) : PyData := .tuple [.str p.1, .int p.2]
def leP (a b : Str × Int) : Bool := PySem.W.dataLe false prD a b
def far (L : List Int) (st : List (Str × Int)) (b : Int) : List (Str × Int) := ((partsAt (run L st).sps b).flatMap fun p => p.2.map fun n => (n, restB p.1 b)).mergeSort leP
def upAt (L : List Int) (st : List (Str × Int)) (b : Int) : Nm := (((partsAt (run L st).sps (b - 1)).find? fun p => restB p.1 (b - 1) == 1).map (·.2)).getD []
def minI : List Int → Int
  | [] => 0
  | x :: r => r.foldl min x
def nextUp (gs : List Go) (b : Int) : Int × List Nat := (b + minI (gs.map (restB · b)), (List.range gs.length).filter fun i => (gs.map (restB · b))[i]? == some (minI (gs.map (restB · b))))
def upsStep (sps : List (Int × List Part)) (a : Int) : Int × Nm :=
  ((nextUp ((partsAt sps a).map (·.1)) a).1, (((partsAt sps a)[(nextUp ((partsAt sps a).map (·.1)) a).2.head?.getD 0]?).map (·.2)).getD [])
def upsN (sps : List (Int × List Part)) : Nat → Int → List (Int × Nm)
  | 0, _ => []
  | n + 1, a => upsStep sps a :: upsN sps n (upsStep sps a).1
def upsFrom (L : List Int) (st : List (Str × Int)) (b : Int) (n : Nat) : List (Int × Nm) := if st = [] then [] else upsN (run L st).sps n (b - 1)
abbrev Spn := Nm × Int × Int
def piece (b : Int) (x : (Int × List Part) × Int) : List Spn := if x.1.1 < min x.2 b then x.1.2.map fun p => (p.2, p.1.2, timesU p.1 (min x.2 b) - timesU p.1 x.1.1) else []
def spansOf (sps : List (Int × List Part)) (b : Int) : List Spn := (sps.zip ((sps.drop 1).map (·.1) ++ [b])).flatMap (piece b)
def sumS (f : Spn → Int) (l : List Spn) : Int := (l.map f).sum
def goingsOf (L : List Int) (st : List (Str × Int)) : List Go := (groups st).map fun g => (g.1, slp L g.2.length)
def pairsOf (n : Nat) : List (Nat × Nat) := (List.range n).flatMap fun i => (List.range' (i + 1) (n - (i + 1))).map fun j => (i, j)
def restPair (gs : List Go) (ij : Nat × Nat) : Bool := match gs[ij.1]?, gs[ij.2]? with
  | some a, some b => (partOf a b).isSome
  | _, _ => true
def atRest (L : List Int) (st : List (Str × Int)) : Bool := (pairsOf (goingsOf L st).length).all (restPair (goingsOf L st))
def restFrom (L : List Int) (st : List (Str × Int)) : Int := ((run L st).rows.getLast?.map (·.1)).getD 0
def shares (L : List Int) (st : List (Str × Int)) : Int × Int := tot ((goingsOf L st).map fun g => frac 1 g.2)
def rdStep (a : Int × Int) (g : Go) : Int × Int := (max a.1 (g.1 - g.2), mult a.2 g.2)
def roundF (L : List Int) (st : List (Str × Int)) : Int × Int := (goingsOf L (far L st (restFrom L st))).foldl rdStep (0, 1)
def roundOf (L : List Int) (st : List (Str × Int)) : Int × Int := (restFrom L st + (roundF L st).1, (roundF L st).2)

theorem flm_congr {α β : Type} {f g : α → List β} : ∀ {l : List α}, (∀ x ∈ l, f x = g x) → l.flatMap f = l.flatMap g
  | [], _ => rfl
  | a :: l, h => by
    rw [List.flatMap_cons, List.flatMap_cons, h a List.mem_cons_self, flm_congr fun x hx => h x (List.mem_cons_of_mem _ hx)]
/-! ### order of pairs -/
theorem leP_mono {f : Int → Int} (hf : ∀ a b, f a < f b ↔ a < b) (a b : Str × Int) : leP (a.1, f a.2) (b.1, f b.2) = leP a b := by
  have hal : ∀ x y : Str, PySem.W.alike (.str x) (.str y) = true := fun _ _ => by simp [PySem.W.alike]
  have hai : ∀ x y : Int, PySem.W.alike (.int x) (.int y) = true := fun _ _ => by simp [PySem.W.alike]
  unfold leP
  rw [PySem.W.dataLe_eq]
  show (!PySem.W.dataLt (.tuple [.str b.1, .int (f b.2)]) (.tuple [.str a.1, .int (f a.2)])) = !PySem.W.dataLt (.tuple [.str b.1, .int b.2]) (.tuple [.str a.1, .int a.2])
  rw [PySem.W.dataLt_pair (hal _ _) (hai _ _), PySem.W.dataLt_pair (hal _ _) (hai _ _), PySem.W.dataLt_int, PySem.W.dataLt_int]
  have e1 : PyData.eqv (.int (f b.2)) (.int (f a.2)) = PyData.eqv (.int b.2) (.int a.2) := by
    simp only [PyData.eqv]
    rw [Bool.eq_iff_iff, beq_iff_eq, beq_iff_eq]
    constructor
    · intro h
      have h1 := hf a.2 b.2
      have h2 := hf b.2 a.2
      rw [h] at h1 h2
      have h3 : ¬ f a.2 < f a.2 := Int.lt_irrefl _
      omega
    · intro h; rw [h]
  have e2 : decide (f b.2 < f a.2) = decide (b.2 < a.2) := decide_eq_decide.mpr (hf _ _)
  rw [e1, e2]
section
variable {k : Int} (hk : 0 < k) {L : List Int} {st : List (Str × Int)}
theorem sps_k (s : RunS) : (scR k s).sps = s.sps.map fun x => (x.1 * k, x.2.map (sp k)) := rfl
include hk
theorem part_pos (G : Good L st) (h : ∀ e ∈ st, 0 ≤ e.2) {b : Int} (hb : 0 ≤ b) : ∀ p ∈ partsAt (run L st).sps b, p.1.2 ∈ L ∧ 0 < p.1.2 ∧ p.2 ≠ [] := by
  obtain ⟨e, he, _, e2⟩ := partsAt_mem (run_ok2 G h) hb
  intro p hp
  rw [e2] at hp
  have := (run_ok G).str e he p hp
  exact ⟨this.1, G.pos _ this.1, this.2⟩
theorem far_in (G : Good L st) (h : ∀ e ∈ st, 0 ≤ e.2) {b e : Int} (hb : 0 ≤ b) (h0 : 0 ≤ e) (h1 : e < k) : far (kL k L) (kS k st) (b * k + e) = (far L st b).map fun x => (x.1, x.2 * k - e) := by
  have hp := part_pos hk G h hb
  unfold far
  rw [run_k hk G, sps_k, partsAt_in hk _ h0 h1]
  rw [List.map_mergeSort (s := leP) (fun a _ b _ => ?_)]
  · congr 1
    rw [List.flatMap_map, List.map_flatMap]
    refine flm_congr fun p hpm => ?_
    have hpos := (hp p hpm).2.1
    show (sp k p).2.map (fun n => (n, restB (sp k p).1 (b * k + e))) = (p.2.map fun n => (n, restB p.1 b)).map fun x => (x.1, x.2 * k - e)
    rw [List.map_map]
    show p.2.map (fun n => (n, restB (sg k p.1) (b * k + e))) = _
    rw [restB_in hk hpos h0 h1]
    rfl
  · exact (leP_mono (f := fun r => r * k - e) (fun a b => by have := lt_k hk (a := a) (b := b); omega) a b).symm
theorem find_congr {α : Type} {c d : α → Bool} : ∀ {l : List α}, (∀ x ∈ l, c x = d x) → l.find? c = l.find? d
  | [], _ => rfl
  | a :: l, h => by
    rw [List.find?_cons, List.find?_cons, h a List.mem_cons_self, find_congr fun x hx => h x (List.mem_cons_of_mem _ hx)]
theorem upAt_k (G : Good L st) (h : ∀ e ∈ st, 0 ≤ e.2) {m : Int} (hm : 0 ≤ m) : upAt (kL k L) (kS k st) ((m + 1) * k) = upAt L st (m + 1) := by
  have hp := part_pos hk G h hm
  have e : (m + 1) * k - 1 = m * k + (k - 1) := by rw [Int.add_mul]; omega
  have e2 : m + 1 - 1 = m := by omega
  unfold upAt
  rw [run_k hk G, sps_k, e, partsAt_in hk _ (by omega) (by omega), e2, List.find?_map]
  have : (partsAt (run L st).sps m).find? ((fun p : Part => restB p.1 (m * k + (k - 1)) == 1) ∘ sp k) = (partsAt (run L st).sps m).find? fun p => restB p.1 m == 1 := by
    refine find_congr hk fun p hpm => ?_
    have hpos := (hp p hpm).2.1
    show (restB (sg k p.1) (m * k + (k - 1)) == 1) = (restB p.1 m == 1)
    rw [restB_in hk hpos (by omega) (by omega), Bool.eq_iff_iff, beq_iff_eq, beq_iff_eq]
    have hr := restB_pos (b := m) hpos
    constructor
    · intro hh
      have : restB p.1 m * k = 1 * k := by omega
      exact (eq_k hk).mp this
    · intro hh
      rw [hh]
      omega
  rw [this]
  cases (partsAt (run L st).sps m).find? fun p => restB p.1 m == 1 <;> rfl
theorem upAt_none (G : Good L st) (h : ∀ e ∈ st, 0 ≤ e.2) {m e : Int} (hm : 0 ≤ m) (h0 : 0 < e) (h1 : e < k) : upAt (kL k L) (kS k st) (m * k + e) = [] := by
  have hp := part_pos hk G h hm
  have e1 : m * k + e - 1 = m * k + (e - 1) := by omega
  unfold upAt
  rw [run_k hk G, sps_k, e1, partsAt_in hk _ (by omega) (by omega), List.find?_map]
  have : (partsAt (run L st).sps m).find? ((fun p : Part => restB p.1 (m * k + (e - 1)) == 1) ∘ sp k) = none := by
    rw [List.find?_eq_none]
    intro p hpm
    have hpos := (hp p hpm).2.1
    show ¬ (restB (sg k p.1) (m * k + (e - 1)) == 1) = true
    rw [restB_in hk hpos (by omega) (by omega), beq_iff_eq]
    have hr := restB_pos (b := m) hpos
    have h3 : 1 * k ≤ restB p.1 m * k := (le_k hk).mpr hr
    omega
  rw [this]
  rfl
/-! ### who is up next -/
theorem minI_k (l : List Int) : minI (l.map (· * k)) = minI l * k := by
  cases l with
  | nil => show (0 : Int) = 0 * k; rw [Int.zero_mul]
  | cons x r =>
    show (r.map (· * k)).foldl min (x * k) = r.foldl min x * k
    induction r generalizing x with
    | nil => rfl
    | cons y r ih =>
      rw [List.map_cons, List.foldl_cons, List.foldl_cons]
      have : min (x * k) (y * k) = min x y * k := by
        rcases Int.le_total x y with h | h
        · rw [Int.min_eq_left h, Int.min_eq_left ((le_k hk).mpr h)]
        · rw [Int.min_eq_right h, Int.min_eq_right ((le_k hk).mpr h)]
      rw [this, ih]
theorem nextUp_k {gs : List Go} (hg : ∀ g ∈ gs, 0 < g.2) (b : Int) : nextUp (gs.map (sg k)) (b * k) = ((nextUp gs b).1 * k, (nextUp gs b).2) := by
  have e : (gs.map (sg k)).map (restB · (b * k)) = (gs.map (restB · b)).map (· * k) := by
    rw [List.map_map, List.map_map]
    refine List.map_congr_left fun g hgm => ?_
    exact restB_k hk (hg g hgm)
  unfold nextUp
  rw [e, minI_k hk, List.length_map]
  dsimp only
  rw [Int.add_mul]
  congr 1
  refine List.filter_congr fun i _ => ?_
  rw [List.getElem?_map]
  cases (gs.map (restB · b))[i]? with
  | none => rfl
  | some r =>
    show (some (r * k) == some (minI (gs.map (restB · b)) * k)) = (some r == some (minI (gs.map (restB · b))))
    rw [Bool.eq_iff_iff, beq_iff_eq, beq_iff_eq]
    constructor
    · intro h; rw [(eq_k hk).mp (Option.some.inj h)]
    · intro h; rw [Option.some.inj h]
theorem upsStep_k {sps : List (Int × List Part)} {a : Int} (hp : ∀ p ∈ partsAt sps a, 0 < p.1.2) : upsStep (sps.map fun x => (x.1 * k, x.2.map (sp k))) (a * k) = ((upsStep sps a).1 * k, (upsStep sps a).2) := by
  have e0 : partsAt (sps.map fun x => (x.1 * k, x.2.map (sp k))) (a * k) = (partsAt sps a).map (sp k) := by
    have := partsAt_in hk sps (b := a) (Int.le_refl 0) hk
    simpa using this
  have e1 : ((partsAt sps a).map (sp k)).map (·.1) = ((partsAt sps a).map (·.1)).map (sg k) := by rw [List.map_map, List.map_map]; rfl
  have e2 := nextUp_k hk (gs := (partsAt sps a).map (·.1)) (fun g hg => by
    obtain ⟨p, hpm, rfl⟩ := List.mem_map.mp hg
    exact hp p hpm) a
  unfold upsStep
  rw [e0, e1, e2]
  dsimp only
  congr 1
  rw [List.getElem?_map]
  cases (partsAt sps a)[(nextUp ((partsAt sps a).map (·.1)) a).2.head?.getD 0]? <;> rfl
omit hk in
theorem minI_mem (x : Int) (r : List Int) : minI (x :: r) ∈ x :: r ∧ ∀ y ∈ x :: r, minI (x :: r) ≤ y := by
  show r.foldl min x ∈ x :: r ∧ ∀ y ∈ x :: r, r.foldl min x ≤ y
  induction r generalizing x with
  | nil => simp
  | cons z r ih =>
    rw [List.foldl_cons]
    obtain ⟨h1, h2⟩ := ih (min x z)
    have hle := h2 (min x z) List.mem_cons_self
    constructor
    · rcases List.mem_cons.mp h1 with h | h
      · rw [h]
        rcases Int.le_total x z with c | c
        · rw [Int.min_eq_left c]; exact List.mem_cons_self
        · rw [Int.min_eq_right c]; exact List.mem_cons_of_mem _ List.mem_cons_self
      · exact List.mem_cons_of_mem _ (List.mem_cons_of_mem _ h)
    · intro y hy
      rcases List.mem_cons.mp hy with rfl | hy
      · omega
      · rcases List.mem_cons.mp hy with rfl | hy
        · omega
        · exact h2 y (List.mem_cons_of_mem _ hy)
omit hk in
theorem nextUp_ge {gs : List Go} (hg : ∀ g ∈ gs, 0 < g.2) (h : gs ≠ []) (b : Int) : b < (nextUp gs b).1 := by
  unfold nextUp
  cases gs with
  | nil => exact absurd rfl h
  | cons g r =>
    have := (minI_mem (restB g b) (r.map (restB · b))).1
    rw [← List.map_cons (f := (restB · b))] at this
    obtain ⟨x, hx, ex⟩ := List.mem_map.mp this
    have h1 := restB_pos (b := b) (hg x hx)
    show b < b + minI ((g :: r).map (restB · b))
    have ex : restB x b = minI ((g :: r).map (restB · b)) := ex
    omega
theorem upsN_k (G : Good L st) (h : ∀ e ∈ st, 0 ≤ e.2) (hne : st ≠ []) : ∀ (n : Nat) {a : Int}, 0 ≤ a → upsN ((run L st).sps.map fun x => (x.1 * k, x.2.map (sp k))) n (a * k) = (upsN (run L st).sps n a).map fun x => (x.1 * k, x.2)
  | 0, _, _ => rfl
  | n + 1, a, ha => by
    have hp := part_pos hk G h ha
    have e := upsStep_k hk (sps := (run L st).sps) (a := a) fun p hpm => (hp p hpm).2.1
    have hnn : partsAt (run L st).sps a ≠ [] := by
      obtain ⟨x, hx, _, e2⟩ := partsAt_mem (run_ok2 G h) ha
      rw [e2]
      intro z
      have := (run_ok2 G h).stot x hx
      rw [z] at this
      have : st.length = 0 := this.symm
      exact hne (List.length_eq_zero_iff.mp this)
    have hgt : a < (upsStep (run L st).sps a).1 := by
      unfold upsStep
      refine nextUp_ge (fun g hg => ?_) (fun z => hnn (by simpa using z)) a
      obtain ⟨p, hpm, rfl⟩ := List.mem_map.mp hg
      exact (hp p hpm).2.1
    show upsStep _ (a * k) :: upsN _ n (upsStep _ (a * k)).1 = _
    rw [e]
    dsimp only
    rw [upsN_k G h hne n (by omega)]
    rfl
theorem kS_nil : kS k st = [] ↔ st = [] := by unfold kS; exact List.map_eq_nil_iff
theorem upsFrom_k (G : Good L st) (h : ∀ e ∈ st, 0 ≤ e.2) {m : Int} (hm : 0 ≤ m) (n : Nat) : upsFrom (kL k L) (kS k st) (m * k + 1) n = (upsFrom L st (m + 1) n).map fun x => (x.1 * k, x.2) := by
  unfold upsFrom
  have e1 : m * k + 1 - 1 = m * k := by omega
  have e2 : m + 1 - 1 = m := by omega
  by_cases c : st = []
  · rw [if_pos c, if_pos ((kS_nil hk).mpr c)]; rfl
  · rw [if_neg c, if_neg (fun z => c ((kS_nil hk).mp z)), run_k hk G, sps_k, e1, e2]
    exact upsN_k hk G h c n hm
/-! ### sums over the spans -/
theorem piece_k {f : Spn → Int} {c : Int} (hf0 : ∀ ns l, f (ns, l, 0) = 0) (hf : ∀ ns l t, f (ns, l * k, t) = f (ns, l, t) * c) {b e : Int} (h0 : 0 ≤ e) (h1 : e < k) {x : Int × List Part} {en en' : Int} (hpos : ∀ p ∈ x.2, 0 < p.1.2)
    (hen : en' = en * k ∨ (en = b ∧ en' = b * k + e)) : sumS f (piece (b * k + e) ((x.1 * k, x.2.map (sp k)), en')) = sumS f (piece b (x, en)) * c := by
  obtain ⟨e', g0, g1, gm⟩ : ∃ e', 0 ≤ e' ∧ e' < k ∧ min en' (b * k + e) = min en b * k + e' := by
    rcases hen with h | ⟨h, h'⟩
    · by_cases c : en ≤ b
      · have : en * k ≤ b * k := (le_k hk).mpr c
        exact ⟨0, Int.le_refl 0, hk, by rw [h, Int.min_eq_left (by omega), Int.min_eq_left c]; omega⟩
      · have : b * k + e < en * k := (lt_in hk h0 h1).mpr (by omega)
        exact ⟨e, h0, h1, by rw [h, Int.min_eq_right (by omega), Int.min_eq_right (by omega)]⟩
    · exact ⟨e, h0, h1, by rw [h', h, Int.min_eq_left (Int.le_refl _), Int.min_eq_left (Int.le_refl _)]⟩
  unfold piece
  dsimp only
  rw [gm]
  generalize min en b = m
  have key : ∀ p ∈ x.2, timesU (sg k p.1) (m * k + e') - timesU (sg k p.1) (x.1 * k) = timesU p.1 m - timesU p.1 x.1 := fun p hp => by rw [timesU_in hk (hpos p hp) g0 g1, timesU_k hk (hpos p hp)]
  have big : sumS f ((x.2.map (sp k)).map fun p => (p.2, p.1.2, timesU p.1 (m * k + e') - timesU p.1 (x.1 * k))) = sumS f (x.2.map fun p => (p.2, p.1.2, timesU p.1 m - timesU p.1 x.1)) * c := by
    unfold sumS
    rw [List.map_map, List.map_map, List.map_map]
    have : ∀ l : List Part, (∀ p ∈ l, 0 < p.1.2) → (∀ p ∈ l, timesU (sg k p.1) (m * k + e') - timesU (sg k p.1) (x.1 * k) = timesU p.1 m - timesU p.1 x.1) →
        (l.map ((f ∘ fun p : Part => (p.2, p.1.2, timesU p.1 (m * k + e') - timesU p.1 (x.1 * k))) ∘ sp k)).sum = (l.map (f ∘ fun p : Part => (p.2, p.1.2, timesU p.1 m - timesU p.1 x.1))).sum * c := by
      intro l
      induction l with
      | nil => intro _ _; simp
      | cons p r ih =>
        intro q1 q2
        rw [List.map_cons, List.sum_cons, List.map_cons, List.sum_cons, Int.add_mul, ih (fun y hy => q1 y (List.mem_cons_of_mem _ hy)) fun y hy => q2 y (List.mem_cons_of_mem _ hy)]
        congr 1
        show f (p.2, p.1.2 * k, timesU (sg k p.1) (m * k + e') - timesU (sg k p.1) (x.1 * k)) = _
        rw [q2 p List.mem_cons_self, hf]
        rfl
    exact this x.2 hpos key
  by_cases h : x.1 < m
  · have h' : x.1 * k < m * k + e' := by have := (lt_k hk).mpr h; omega
    rw [if_pos h, if_pos h']
    exact big
  · rw [if_neg h]
    have z0 : sumS f [] = 0 := rfl
    rw [z0, Int.zero_mul]
    by_cases h' : x.1 * k < m * k + e'
    · rw [if_pos h', big]
      have hx : x.1 = m := by
        have h2 : ¬ m < x.1 := fun q => by
          have := (lt_in hk g0 g1).mpr q
          omega
        omega
      have z : sumS f (x.2.map fun p => (p.2, p.1.2, timesU p.1 m - timesU p.1 x.1)) = 0 := by
        unfold sumS
        rw [List.map_map, hx]
        have : ∀ l : List Part, (l.map (f ∘ fun p : Part => (p.2, p.1.2, timesU p.1 m - timesU p.1 m))).sum = 0 := by
          intro l
          induction l with
          | nil => rfl
          | cons p r ih =>
            rw [List.map_cons, List.sum_cons, ih]
            show f (p.2, p.1.2, timesU p.1 m - timesU p.1 m) + 0 = 0
            rw [Int.sub_self, hf0]
            rfl
        exact this x.2
      rw [z, Int.zero_mul]
    · rw [if_neg h']; rfl
omit hk in
theorem sumS_app (f : Spn → Int) (a b : List Spn) : sumS f (a ++ b) = sumS f a + sumS f b := by
  unfold sumS
  rw [List.map_append, List.sum_append]
theorem spans_k {f : Spn → Int} {c : Int} (hf0 : ∀ ns l, f (ns, l, 0) = 0) (hf : ∀ ns l t, f (ns, l * k, t) = f (ns, l, t) * c) {b e : Int} (h0 : 0 ≤ e) (h1 : e < k) : ∀ {sps : List (Int × List Part)}, (∀ x ∈ sps, ∀ p ∈ x.2, 0 < p.1.2) →
    sumS f (spansOf (sps.map fun x => (x.1 * k, x.2.map (sp k))) (b * k + e)) = sumS f (spansOf sps b) * c
  | [], _ => by simp [spansOf, sumS]
  | [x], hp => by
    show sumS f (piece (b * k + e) ((x.1 * k, x.2.map (sp k)), b * k + e) ++ []) = sumS f (piece b (x, b) ++ []) * c
    rw [List.append_nil, List.append_nil]
    exact piece_k hk hf0 hf h0 h1 (hp x List.mem_cons_self) (.inr ⟨rfl, rfl⟩)
  | x :: y :: r, hp => by
    have ih := spans_k hf0 hf (b := b) h0 h1 (sps := y :: r) fun z hz => hp z (List.mem_cons_of_mem _ hz)
    have e1 : spansOf (x :: y :: r) b = piece b (x, y.1) ++ spansOf (y :: r) b := rfl
    have e2 : spansOf ((x :: y :: r).map fun x => (x.1 * k, x.2.map (sp k))) (b * k + e) = piece (b * k + e) ((x.1 * k, x.2.map (sp k)), y.1 * k) ++ spansOf ((y :: r).map fun x => (x.1 * k, x.2.map (sp k))) (b * k + e) := rfl
    rw [e1, e2, sumS_app, sumS_app, ih, Int.add_mul, piece_k hk hf0 hf h0 h1 (hp x List.mem_cons_self) (.inl rfl)]
/-! ### at rest -/
theorem goings_k (G : Good L st) : goingsOf (kL k L) (kS k st) = (goingsOf L st).map (sg k) := by
  unfold goingsOf
  rw [groups_k hk, List.map_map, List.map_map]
  refine List.map_congr_left fun g hg => ?_
  have h0 : 0 < g.2.length := List.length_pos_iff.mpr (groups_nz st g hg)
  have h1 : g.2.length ≤ L.length := by
    have := groups_tot st
    have h2 := G.sz
    have h3 : ∀ gs : List (Int × Nm), g ∈ gs → g.2.length ≤ (gs.map fun g => g.2.length).sum := by
      intro gs
      induction gs with
      | nil => intro h; simp at h
      | cons a r ih =>
        intro h
        rw [List.map_cons, List.sum_cons]
        rcases List.mem_cons.mp h with rfl | h
        · omega
        · have := ih h; omega
    have h4 := h3 _ hg
    omega
  show (g.1 * k, slp (kL k L) g.2.length) = sg k (g.1, slp L g.2.length)
  rw [slp_k h0 h1]
  rfl
theorem atRest_k (G : Good L st) : atRest (kL k L) (kS k st) = atRest L st := by
  unfold atRest
  rw [goings_k hk G, List.length_map]
  congr 1
  funext ij
  unfold restPair
  rw [List.getElem?_map, List.getElem?_map]
  cases (goingsOf L st)[ij.1]? with
  | none => rfl
  | some a =>
    cases (goingsOf L st)[ij.2]? with
    | none => rfl
    | some b => exact partOf_k hk a b
theorem restFrom_k (G : Good L st) : restFrom (kL k L) (kS k st) = restFrom L st * k := by
  unfold restFrom
  rw [run_k hk G]
  show (((run L st).rows.map fun e => (e.1 * k, e.2)).getLast?.map (·.1)).getD 0 = _
  rw [List.getLast?_map]
  cases (run L st).rows.getLast? with
  | none => show (0 : Int) = 0 * k; rw [Int.zero_mul]
  | some x => rfl
theorem rd_k (gs : List Go) (a : Int × Int) : (gs.map (sg k)).foldl rdStep (a.1 * k, a.2 * k) = ((gs.foldl rdStep a).1 * k, (gs.foldl rdStep a).2 * k) := by
  induction gs generalizing a with
  | nil => rfl
  | cons g r ih =>
    rw [List.map_cons, List.foldl_cons, List.foldl_cons]
    have : rdStep (a.1 * k, a.2 * k) (sg k g) = ((rdStep a g).1 * k, (rdStep a g).2 * k) := by
      show (max (a.1 * k) (g.1 * k - g.2 * k), mult (a.2 * k) (g.2 * k)) = (max a.1 (g.1 - g.2) * k, mult a.2 g.2 * k)
      rw [← Int.sub_mul, max_k hk, mult_k hk]
    rw [this, ih]
theorem mult_one {x : Int} : mult 1 x = x := by
  have h1 : gcdI 1 x = 1 := by unfold gcdI; rw [Int.gcd_one_left]; rfl
  unfold mult
  rw [h1]
  simp
theorem rd_k0 (gs : List Go) (h : gs ≠ []) : (gs.map (sg k)).foldl rdStep (0, 1) = ((gs.foldl rdStep (0, 1)).1 * k, (gs.foldl rdStep (0, 1)).2 * k) := by
  cases gs with
  | nil => exact absurd rfl h
  | cons g r =>
    rw [List.map_cons, List.foldl_cons, List.foldl_cons]
    have : rdStep (0, 1) (sg k g) = ((rdStep (0, 1) g).1 * k, (rdStep (0, 1) g).2 * k) := by
      show (max 0 (g.1 * k - g.2 * k), mult 1 (g.2 * k)) = (max 0 (g.1 - g.2) * k, mult 1 g.2 * k)
      rw [mult_one hk, mult_one hk, ← Int.sub_mul, ← max_k hk, Int.zero_mul]
    rw [this, rd_k hk]
theorem far_len (G : Good L st) (h : ∀ e ∈ st, 0 ≤ e.2) {b : Int} (hb : 0 ≤ b) : (far L st b).length = st.length := by
  obtain ⟨x, hx, _, e2⟩ := partsAt_mem (run_ok2 G h) hb
  have := (run_ok2 G h).stot x hx
  unfold far
  rw [List.length_mergeSort, List.length_flatMap, e2, ← this]
  congr 1
  refine List.map_congr_left fun p _ => ?_
  rw [List.length_map]
theorem restFrom_nn (G : Good L st) (h : ∀ e ∈ st, 0 ≤ e.2) : 0 ≤ restFrom L st := by
  unfold restFrom
  cases hl : (run L st).rows.getLast? with
  | none => exact Int.le_refl 0
  | some x => exact (run_ok2 G h).row x (List.mem_of_getLast? hl)
theorem roundOf_k (G : Good L st) (h : ∀ e ∈ st, 0 ≤ e.2) (hne : st ≠ []) : roundOf (kL k L) (kS k st) = ((roundOf L st).1 * k, (roundOf L st).2 * k) := by
  have hr := restFrom_nn hk G h
  have hl := far_len hk G h hr
  have G2 : Good L (far L st (restFrom L st)) := ⟨G.l1, G.l40, G.pos, G.top, by rw [hl]; exact G.sz⟩
  have hfar : far (kL k L) (kS k st) (restFrom L st * k) = kS k (far L st (restFrom L st)) := by
    have := far_in hk G h hr (Int.le_refl 0) hk
    rw [Int.add_zero] at this
    rw [this]
    refine List.map_congr_left fun x _ => ?_
    rw [Int.sub_zero]
  have hg : goingsOf L (far L st (restFrom L st)) ≠ [] := by
    intro z
    have z1 : groups (far L st (restFrom L st)) = [] := by
      unfold goingsOf at z
      exact List.map_eq_nil_iff.mp z
    have z2 := groups_tot (far L st (restFrom L st))
    rw [z1, hl] at z2
    exact hne (List.length_eq_zero_iff.mp z2.symm)
  have e : roundF (kL k L) (kS k st) = ((roundF L st).1 * k, (roundF L st).2 * k) := by
    unfold roundF
    rw [restFrom_k hk G, hfar, goings_k hk G2, rd_k0 hk _ hg]
  unfold roundOf
  rw [e, restFrom_k hk G, Int.add_mul]
end
theorem groups_nil : groups [] = [] := by simp [groups, keysOf]
theorem round_nil (L : List Int) : roundOf L [] = (0, 1) := by
  have e1 : run L [] = { many := 0, parts := [], pairs := [], rows := [], sps := [(0, [])] } := by
    unfold run
    rw [groups_nil]
    rfl
  have e2 : restFrom L [] = 0 := by unfold restFrom; rw [e1]; rfl
  have e3 : far L [] 0 = [] := by
    unfold far
    rw [e1]
    have : partsAt [(0, ([] : List Part))] 0 = [] := rfl
    show ((partsAt [(0, ([] : List Part))] 0).flatMap _).mergeSort leP = []
    rw [this]
    simp
  unfold roundOf roundF
  rw [e2, e3]
  unfold goingsOf
  rw [groups_nil]
  rfl
end Sl

set_option Elab.async false
set_option linter.all false
set_option maxRecDepth 100000
set_option maxHeartbeats 1000000
/-! Shares: fractions in their least form. -/
namespace Sl
open PySem
/-- (p, q) in its least form, worth P / Q of whole numbers, Q from 1 on -/
structure Red (f : Int × Int) : Prop where
  top : 0 ≤ f.1
  bot : 0 < f.2
  cop : Int.gcd f.1 f.2 = 1
theorem frac_red {t b : Int} (ht : 0 ≤ t) (hb : 0 < b) : Red (frac t b) ∧ (frac t b).1 * b = t * (frac t b).2 := by
  have hg : 0 < gcdI b t := gcdI_pos hb
  have d1 : gcdI b t ∣ b := Int.gcd_dvd_left b t
  have d2 : gcdI b t ∣ t := Int.gcd_dvd_right b t
  obtain ⟨x, hx⟩ := d1
  obtain ⟨y, hy⟩ := d2
  have e1 : t / gcdI b t = y := Int.ediv_eq_of_eq_mul_right (Int.ne_of_gt hg) hy
  have e2 : b / gcdI b t = x := Int.ediv_eq_of_eq_mul_right (Int.ne_of_gt hg) hx
  have hfr : frac t b = (y, x) := by unfold frac; rw [e1, e2]
  rw [hfr]
  have hxp : 0 < x := by
    have := div_gcd_pos (b := t) hb
    rw [e2] at this
    exact this
  have hyp : 0 ≤ y := by
    rw [← e1]
    exact Int.ediv_nonneg ht (Int.le_of_lt hg)
  refine ⟨⟨hyp, hxp, ?_⟩, ?_⟩
  · have h1 : Int.gcd b t = Int.gcd (gcdI b t * x) (gcdI b t * y) := by rw [← hx, ← hy]
    rw [Int.gcd_mul_left] at h1
    have h2 : (gcdI b t).natAbs = Int.gcd b t := by unfold gcdI; rfl
    rw [h2] at h1
    have h3 : 0 < Int.gcd b t := by have := hg; unfold gcdI at this; omega
    have h4 : Int.gcd x y = 1 := by
      have : Int.gcd b t * 1 = Int.gcd b t * Int.gcd x y := by omega
      exact (Nat.eq_of_mul_eq_mul_left h3 this).symm
    rw [Int.gcd_comm]
    exact h4
  · show y * b = t * x
    conv => lhs; rw [hx]
    conv => rhs; rw [hy]
    rw [Int.mul_comm, Int.mul_assoc, Int.mul_assoc, Int.mul_comm x y]
theorem cop_dvd {a b c : Int} (h : a ∣ b * c) (hc : Int.gcd c a = 1) : a ∣ b := by
  have h1 : a.natAbs ∣ b.natAbs * c.natAbs := by
    rw [← Int.natAbs_mul]
    exact Int.natAbs_dvd_natAbs.mpr h
  have h2 : Nat.Coprime a.natAbs c.natAbs := by
    show Nat.gcd a.natAbs c.natAbs = 1
    rw [Nat.gcd_comm]
    exact hc
  exact Int.natAbs_dvd_natAbs.mp (h2.dvd_of_dvd_mul_right h1)
theorem red_one {f g : Int × Int} (hf : Red f) (hg : Red g) (h : f.1 * g.2 = g.1 * f.2) : f = g := by
  have h1 : f.2 ∣ g.2 := by
    have : f.2 ∣ g.2 * f.1 := by rw [Int.mul_comm, h]; exact Int.dvd_mul_left _ _
    exact cop_dvd this hf.cop
  have h2 : g.2 ∣ f.2 := by
    have : g.2 ∣ f.2 * g.1 := by rw [Int.mul_comm, ← h]; exact Int.dvd_mul_left _ _
    exact cop_dvd this hg.cop
  have e2 : f.2 = g.2 := Int.dvd_antisymm (Int.le_of_lt hf.bot) (Int.le_of_lt hg.bot) h1 h2
  have e1 : f.1 = g.1 := by
    rw [e2] at h
    exact (Int.mul_eq_mul_right_iff (Int.ne_of_gt hg.bot)).mp h
  exact Prod.ext e1 e2
theorem frac_one {l : Int} (h : 0 < l) : frac 1 l = (1, l) := by
  have : gcdI l 1 = 1 := by unfold gcdI; rw [Int.gcd_one_right]; rfl
  unfold frac
  rw [this]
  simp
theorem tot_step {f : Int × Int} {l : Int} (hf : Red f) (hl : 0 < l) : Red (totStep f (1, l)) ∧ (totStep f (1, l)).1 * (f.2 * l) = (f.1 * l + f.2) * (totStep f (1, l)).2 := by
  unfold totStep
  dsimp only
  rw [Int.one_mul]
  exact frac_red (by have := Int.mul_nonneg hf.top (Int.le_of_lt hl); have := hf.bot; omega) (Int.mul_pos hf.bot hl)
theorem tot_k {k : Int} (hk : 0 < k) : ∀ (ls : List Int), (∀ l ∈ ls, 0 < l) → ∀ (f F : Int × Int), Red f → Red F → F.1 * (f.2 * k) = f.1 * F.2 →
    ∃ g G : Int × Int, (ls.map fun l => ((1 : Int), l)).foldl totStep f = g ∧ (ls.map fun l => ((1 : Int), l * k)).foldl totStep F = G ∧ Red g ∧ Red G ∧ G.1 * (g.2 * k) = g.1 * G.2
  | [], _, f, F, hf, hF, h => ⟨f, F, rfl, rfl, hf, hF, h⟩
  | l :: r, hl, f, F, hf, hF, h => by
    have l0 := hl l List.mem_cons_self
    have lk : 0 < l * k := Int.mul_pos l0 hk
    obtain ⟨r1, q1⟩ := tot_step hf l0
    obtain ⟨r2, q2⟩ := tot_step hF lk
    rw [List.map_cons, List.foldl_cons, List.map_cons, List.foldl_cons]
    refine tot_k hk r (fun x hx => hl x (List.mem_cons_of_mem _ hx)) _ _ r1 r2 ?_
    -- f', F' the next ones: F'.1 * (f'.2 * k) = f'.1 * F'.2
    generalize hf' : totStep f (1, l) = f' at *
    generalize hF' : totStep F (1, l * k) = F' at *
    -- multiply by f.2 * l * F.2 * l, which is not 0
    have n1 : 0 < f.2 * l := Int.mul_pos hf.bot l0
    have n2 : 0 < F.2 * (l * k) := Int.mul_pos hF.bot lk
    have n : 0 < (f.2 * l) * (F.2 * (l * k)) := Int.mul_pos n1 n2
    refine (Int.mul_eq_mul_right_iff (Int.ne_of_gt n)).mp ?_
    have a1 : F'.1 * (f'.2 * k) * ((f.2 * l) * (F.2 * (l * k))) = (F'.1 * (F.2 * (l * k))) * (f'.2 * k * (f.2 * l)) := by
      simp only [Int.mul_assoc, Int.mul_comm, Int.mul_left_comm]
    have a2 : f'.1 * F'.2 * ((f.2 * l) * (F.2 * (l * k))) = (f'.1 * (f.2 * l)) * (F'.2 * (F.2 * (l * k))) := by
      simp only [Int.mul_assoc, Int.mul_comm, Int.mul_left_comm]
    rw [a1, a2, q1, q2]
    have b1 : (F.1 * (l * k) + F.2) * F'.2 * (f'.2 * k * (f.2 * l)) = ((F.1 * (f.2 * k)) * (l * k) * l + F.2 * f.2 * l * k) * (F'.2 * f'.2) := by
      simp only [Int.add_mul, Int.mul_add, Int.mul_assoc, Int.mul_comm, Int.mul_left_comm]
    have b2 : (f.1 * l + f.2) * f'.2 * (F'.2 * (F.2 * (l * k))) = ((f.1 * F.2) * (l * k) * l + F.2 * f.2 * l * k) * (F'.2 * f'.2) := by
      simp only [Int.add_mul, Int.mul_add, Int.mul_assoc, Int.mul_comm, Int.mul_left_comm]
    rw [b1, b2, h]
theorem shares_k {k : Int} (hk : 0 < k) {L : List Int} {st : List (Str × Int)} (G : Good L st) : shares (kL k L) (kS k st) = frac (shares L st).1 ((shares L st).2 * k) := by
  have hpos : ∀ l ∈ (goingsOf L st).map (·.2), 0 < l := by
    intro l hl
    obtain ⟨g, hg, rfl⟩ := List.mem_map.mp hl
    unfold goingsOf at hg
    obtain ⟨q, hq, rfl⟩ := List.mem_map.mp hg
    have h0 : 0 < q.2.length := List.length_pos_iff.mpr (groups_nz st q hq)
    have h1 : q.2.length ≤ L.length := by
      have := groups_tot st
      have h2 := G.sz
      have h3 : ∀ gs : List (Int × Nm), q ∈ gs → q.2.length ≤ (gs.map fun g => g.2.length).sum := by
        intro gs
        induction gs with
        | nil => intro h; simp at h
        | cons a r ih =>
          intro h
          rw [List.map_cons, List.sum_cons]
          rcases List.mem_cons.mp h with rfl | h
          · omega
          · have := ih h; omega
      have h4 := h3 _ hq
      omega
    exact G.pos _ (slp_mem h0 h1)
  have e1 : (goingsOf L st).map (fun g => frac 1 g.2) = ((goingsOf L st).map (·.2)).map fun l => ((1 : Int), l) := by
    rw [List.map_map]
    refine List.map_congr_left fun g hg => ?_
    exact frac_one (hpos _ (List.mem_map.mpr ⟨g, hg, rfl⟩))
  have e2 : (goingsOf (kL k L) (kS k st)).map (fun g => frac 1 g.2) = ((goingsOf L st).map (·.2)).map fun l => ((1 : Int), l * k) := by
    rw [goings_k hk G, List.map_map, List.map_map]
    refine List.map_congr_left fun g hg => ?_
    show frac 1 (g.2 * k) = (1, g.2 * k)
    exact frac_one (Int.mul_pos (hpos _ (List.mem_map.mpr ⟨g, hg, rfl⟩)) hk)
  obtain ⟨g, F, hg, hF, rg, rF, h⟩ := tot_k hk ((goingsOf L st).map (·.2)) hpos (0, 1) (0, 1) ⟨by decide, by decide, by decide⟩ ⟨by decide, by decide, by decide⟩ (by simp)
  unfold shares tot
  rw [e1, e2, hg, hF]
  obtain ⟨rr, q⟩ := frac_red rg.top (Int.mul_pos rg.bot hk)
  refine red_one rF rr ?_
  -- F.1 * R.2 = R.1 * F.2, by F.1 * (g.2 * k) = g.1 * F.2 and R.1 * (g.2 * k) = g.1 * R.2
  have n : 0 < g.2 * k := Int.mul_pos rg.bot hk
  refine (Int.mul_eq_mul_right_iff (Int.ne_of_gt n)).mp ?_
  have c1 : F.1 * (frac g.1 (g.2 * k)).2 * (g.2 * k) = (F.1 * (g.2 * k)) * (frac g.1 (g.2 * k)).2 := by simp only [Int.mul_assoc, Int.mul_comm, Int.mul_left_comm]
  have c2 : (frac g.1 (g.2 * k)).1 * F.2 * (g.2 * k) = ((frac g.1 (g.2 * k)).1 * (g.2 * k)) * F.2 := by simp only [Int.mul_assoc, Int.mul_comm, Int.mul_left_comm]
  rw [c1, c2, h, q]
  simp only [Int.mul_assoc, Int.mul_comm, Int.mul_left_comm]
end Sl

set_option Elab.async false
set_option linter.all false
set_option maxRecDepth 100000
set_option maxHeartbeats 4000000
/-! The text by places, the built-ins, what steps of a reading look like. -/
namespace Sl
open PySem L2
def top (i : Nat) : Stmt := PySem.Challenge.pw_sleepmany_k09_whole_slower_leaps.main.body.getD i (.Pass ⟨0, 0, 0, 0⟩)
structure BtT (mg : Str → Option Value) (t1 t2 : Tok) : Prop where
  len : mg "len" = none
  min : mg "min" = none
  max : mg "max" = none
  sum : mg "sum" = none
  all : mg "all" = none
  abs : mg "abs" = none
  sorted : mg "sorted" = none
  list : mg "list" = none
  tuple : mg "tuple" = none
  dict : mg "dict" = none
  zip : mg "zip" = none
  enumerate : mg "enumerate" = none
  range : mg "range" = none
  int : mg "int" = none
  bool : mg "bool" = none
  isinstance : mg "isinstance" = none
  mgMOST_SLEEPERS : mg "MOST_SLEEPERS" = some (.int 40 t1)
  mgMOST_LENGTH : mg "MOST_LENGTH" = some (.int 1000000000 t2)
def optV : Option Int → V
  | none => .non
  | some i => .int i

/-! ### rules that name the fragment -/
section
variable {X : Cx} {K : PySem.W.Frag}
def rTup1 (K : PySem.W.Frag) : List V → Hp → VK → Prop := fun xs H Q => ∃ p ys, xs = [V.ref p] ∧ ((SqL K H p ys ∧ ∀ l, H l = none → Q (.ref l) (upd H l (.tup ys))) ∨ (SqT K H p ys ∧ Q (.ref p) H))
def rLst1 (K : PySem.W.Frag) : List V → Hp → VK → Prop := fun xs H Q => ∃ p ys, xs = [V.ref p] ∧ (SqL K H p ys ∨ SqT K H p ys) ∧ ∀ l, H l = none → Q (.ref l) (upd H l (.lst ys))
def rLen1 (K : PySem.W.Frag) : List V → Hp → VK → Prop := fun xs H Q => ∃ p ys, xs = [V.ref p] ∧ (SqL K H p ys ∨ SqT K H p ys) ∧ Q (.int ys.length) H
theorem kTuple (h : X.K = K) : CallR X (.type "tuple") (rTup1 K) := h ▸ call_tuple_of
theorem kList (h : X.K = K) : CallR X (.type "list") (rLst1 K) := h ▸ call_list_of
theorem kLen (h : X.K = K) : CallR X (.builtin "len") (rLen1 K) := h ▸ call_len_seq
theorem kSum (hc : X.calm = true) (h : X.K = K) : CallR X (.builtin "sum") (rSum K) := h ▸ cr_sum hc
theorem kMin (hc : X.calm = true) (h : X.K = K) : CallR X (.builtin "min") (rMin K) := h ▸ cr_min hc
theorem kAll (hc : X.calm = true) (h : X.K = K) : CallR X (.builtin "all") (rAll K) := h ▸ cr_all hc
theorem kIxT (h : X.K = K) : IxR X (rIxT K) := h ▸ ix_tup
theorem kIxL (h : X.K = K) : IxR X (rIxL K) := h ▸ ix_list
theorem kIn (h : X.K = K) : OpR X (compareOp .In) (rIn K false) := h ▸ op_in_seq
theorem kNotIn (h : X.K = K) : OpR X (compareOp .NotIn) (rIn K true) := h ▸ op_notIn_seq
theorem kFld {e : Expr} {f : Str} {pos : Pos} {ta : TE} (h : X.K = K) (he : PE X e ta) (hb : attributeBase e f X.env (eval e X.env) = eval e X.env) : PE X (.Attribute e f pos) (tFld K ta f) := h ▸ pe_fld he hb
theorem x_len {Q : VK} {H : Hp} {a : Addr} {xs : List V} (ha : H a = some (.lst xs)) (h : Q (.int xs.length) H) : rLen1 K [.ref a] H Q := ⟨a, xs, rfl, .inl (sql ha), h⟩
theorem x_lenT {Q : VK} {H : Hp} {a : Addr} {xs : List V} (ha : H a = some (.tup xs)) (h : Q (.int xs.length) H) : rLen1 K [.ref a] H Q := ⟨a, xs, rfl, .inr (sqt ha), h⟩
theorem x_tupL {Q : VK} {H : Hp} {a : Addr} {xs : List V} (ha : H a = some (.lst xs)) (h : ∀ l, H l = none → Q (.ref l) (upd H l (.tup xs))) : rTup1 K [.ref a] H Q := ⟨a, xs, rfl, .inl ⟨sql ha, h⟩⟩
theorem x_tupT {Q : VK} {H : Hp} {a : Addr} {xs : List V} (ha : H a = some (.tup xs)) (h : Q (.ref a) H) : rTup1 K [.ref a] H Q := ⟨a, xs, rfl, .inr ⟨sqt ha, h⟩⟩
theorem x_listT {Q : VK} {H : Hp} {a : Addr} {xs : List V} (ha : H a = some (.tup xs)) (h : ∀ l, H l = none → Q (.ref l) (upd H l (.lst xs))) : rLst1 K [.ref a] H Q := ⟨a, xs, rfl, .inr (sqt ha), h⟩
theorem x_listL {Q : VK} {H : Hp} {a : Addr} {xs : List V} (ha : H a = some (.lst xs)) (h : ∀ l, H l = none → Q (.ref l) (upd H l (.lst xs))) : rLst1 K [.ref a] H Q := ⟨a, xs, rfl, .inl (sql ha), h⟩
end
/-! ### steps of a reading -/
section
variable {σ : L2.St} {H : Hp} {Q : VK} {D : Ends} {t u : TS} {ta tb te : TE} {v x y : V} {i : Nat} {tc : TT} {tr : TA} {r : R2} {K : PySem.W.Frag}
theorem x_seq (h : t { D with nx := u D } σ H) : tSeq t u D σ H := h
theorem x_asg {g : TG} (h : te σ H fun x H1 => g x σ H1 D.nx) : tAsg te g D σ H := h
theorem x_name {N : L2.St → Hp → Prop} (h : N (σ.set i (some v)) H) : gName i v σ H N := h
theorem x_drop (h : te σ H fun _ H1 => D.nx σ H1) : tDrop te D σ H := h
theorem x_next (h : D.nx σ H) : tNext D σ H := h
theorem x_ret (h : te σ H D.rt) : tRet te D σ H := h
theorem x_if (h : tc σ H fun b H1 => if b = true then t D σ H1 else u D σ H1) : tIfS tc t u D σ H := h
theorem x_var (hv : σ[i]? = some (some v)) (h : Q v H) : tVar i σ H Q := ⟨v, hv, h⟩
theorem x_c (h : Q v H) : tC v σ H Q := h
theorem x_op (h : ta σ H fun x H1 => tb σ H1 fun y H2 => r x y H2 Q) : tOp r ta tb σ H Q := h
theorem x_I0 {g : Int → Int → V} {a b : Int} (h : Q (g a b) H) : rI0 g (.int a) (.int b) H Q := ⟨a, b, rfl, rfl, h⟩
theorem x_I {C : Int → Int → Prop} {g : Int → Int → V} {a b : Int} (hc : C a b) (h : Q (g a b) H) : rI C g (.int a) (.int b) H Q := ⟨a, b, rfl, rfl, hc, h⟩
theorem x_test {Qb : Bool → Hp → Prop} (h : te σ H fun x H' => ∃ k, x = .bl k ∧ Qb k H') : tTest te σ H Qb := h
theorem x_bl {b : Bool} {N : Bool → Prop} (h : N b) : ∃ k, (V.bl b) = .bl k ∧ N k := ⟨b, rfl, h⟩
theorem x_dec {c A B : Prop} [Decidable c] (h1 : c → A) (h2 : ¬ c → B) : if decide c = true then A else B := by
  by_cases h : c
  · rw [decide_eq_true h, if_pos rfl]; exact h1 h
  · rw [decide_eq_false h, if_neg Bool.false_ne_true]; exact h2 h
theorem x_decN {c A B : Prop} [Decidable c] (h1 : ¬ c → A) (h2 : c → B) : if (!decide c) = true then A else B := by
  by_cases h : c
  · rw [decide_eq_true h, if_neg (by decide)]; exact h2 h
  · rw [decide_eq_false h, if_pos (by decide)]; exact h1 h
/-- a remainder, a quotient by a positive number -/
theorem x_mod {a b : Int} (hb : 0 < b) (h : Q (.int (a % b)) H) : rI (fun _ j => j ≠ 0) (fun i j => .int (i.fmod j)) (.int a) (.int b) H Q := ⟨a, b, rfl, rfl, Int.ne_of_gt hb, by show Q (.int (a.fmod b)) H; rw [Int.fmod_eq_emod_of_nonneg a (Int.le_of_lt hb)]; exact h⟩
theorem x_div {a b : Int} (hb : 0 < b) (h2 : b < 1073741824) (h : Q (.int (a / b)) H) : rI CDivN (fun i j => .int (i.fdiv j)) (.int a) (.int b) H Q := ⟨a, b, rfl, rfl, ⟨Int.ne_of_gt hb, by omega⟩, by show Q (.int (a.fdiv b)) H; rw [Int.fdiv_eq_ediv_of_nonneg a (Int.le_of_lt hb)]; exact h⟩
theorem x_mulR {a b : Int} (h1 : -(2 ^ 64) < b) (h2 : b < 2 ^ 64) (h : Q (.int (a * b)) H) : rI CMul (fun i j => .int (i * j)) (.int a) (.int b) H Q := ⟨a, b, rfl, rfl, .inr ⟨h1, h2⟩, h⟩
theorem x_mulL {a b : Int} (h1 : -(2 ^ 64) < a) (h2 : a < 2 ^ 64) (h : Q (.int (a * b)) H) : rI CMul (fun i j => .int (i * j)) (.int a) (.int b) H Q := ⟨a, b, rfl, rfl, .inl ⟨h1, h2⟩, h⟩
theorem x_eqI {a b : Int} (h : Q (.bl (decide (a = b))) H) : rEq (.int a) (.int b) H Q := ⟨rfl, by
  have : decide (V.int a = V.int b) = decide (a = b) := decide_eq_decide.mpr ⟨fun z => V.int.inj z, fun z => by rw [z]⟩
  rw [this]; exact h⟩
theorem x_neI {a b : Int} (h : Q (.bl (!decide (a = b))) H) : rNe (.int a) (.int b) H Q := ⟨rfl, by
  have : decide (V.int a = V.int b) = decide (a = b) := decide_eq_decide.mpr ⟨fun z => V.int.inj z, fun z => by rw [z]⟩
  rw [this]; exact h⟩
theorem x_cons {Qa : List V → Hp → Prop} (h : te σ H fun x H1 => tr σ H1 fun xs H2 => Qa (x :: xs) H2) : tCons te tr σ H Qa := h
theorem x_nil {Qa : List V → Hp → Prop} (h : Qa [] H) : tNil σ H Qa := h
theorem x_call {sp : Sp} {E : XK} (h : tr σ H fun vs H1 => sp (vs ++ []) H1 Q E) : tCall sp [] E tr σ H Q := h
theorem x_cb {rc : List V → Hp → VK → Prop} (h : tr σ H fun vs H1 => rc vs H1 Q) : tCB rc tr σ H Q := h
theorem x_gtup {gs : TGs} {N : L2.St → Hp → Prop} {n : Nat} {a : Addr} {xs : List V} (ha : H a = some (.tup xs)) (hn : xs.length = n) (h : gs xs σ H N) : gTup K n gs (.ref a) σ H N := ⟨a, xs, rfl, sqt ha, hn, h⟩
theorem x_gcons {g : TG} {gs : TGs} {N : L2.St → Hp → Prop} {xs : List V} (h : g x σ H fun σ1 H1 => gs xs σ1 H1 N) : gCons g gs (x :: xs) σ H N := ⟨x, xs, rfl, h⟩
theorem x_gnil {N : L2.St → Hp → Prop} (h : N σ H) : gNil [] σ H N := ⟨rfl, h⟩
theorem x_par {j : Nat} (h : tr σ H fun vs H1 => ∃ v w, vs = [v, w] ∧ D.nx ((σ.set i (some v)).set j (some w)) H1) : tPar i j tr D σ H := h
theorem x_par2 {N : V → V → Prop} {a b : V} (h : N a b) : ∃ v w, [a, b] = [v, w] ∧ N v w := ⟨a, b, rfl, h⟩
theorem x_ixT {a : Addr} {xs : List V} {k : Int} (ha : H a = some (.tup xs)) (hk : atI xs k = some v) (h : Q v H) : rIxT K (.ref a) (.int k) H Q := ⟨a, xs, k, v, rfl, rfl, sqt ha, hk, h⟩
theorem x_ixL {a : Addr} {xs : List V} {k : Int} (ha : H a = some (.lst xs)) (hk : atI xs k = some v) (h : Q v H) : rIxL K (.ref a) (.int k) H Q := ⟨a, xs, k, v, rfl, rfl, sql ha, hk, h⟩
theorem x_tup (h : tr σ H fun xs H1 => xs.length ≤ sizeLine ∧ ∀ p, H1 p = none → Q (.ref p) (upd H1 p (.tup xs))) : tTup tr σ H Q := h
theorem x_lst (h : tr σ H fun xs H1 => xs.length ≤ sizeLine ∧ ∀ p, H1 p = none → Q (.ref p) (upd H1 p (.lst xs))) : tLst tr σ H Q := h
theorem x_isN (h : Q (.bl (decide (x = .non))) H) : (fun (x y : V) (H : Hp) (Q : VK) => y = .non ∧ Q (.bl (decide (x = .non))) H) x .non H Q := ⟨rfl, h⟩
theorem x_divW {a b : Int} (hb : 0 < b) {n : Nat} (h0 : 0 < n) (h9 : n ≤ 9000) (h2 : b.natAbs < 2 ^ n) (h : Q (.int (a / b)) H) : rI CDivW (fun i j => .int (i / j)) (.int a) (.int b) H Q := ⟨a, b, rfl, rfl, wide_div hb h2 h0 h9, h⟩
theorem x_yes {N : Bool → Hp → Prop} (h : N true H) : tYes σ H N := h
theorem x_non {N : Prop} (h : N) : V.non = V.non ∧ N := ⟨rfl, h⟩
/-- a while by a measure of its own -/
theorem x_while {tb : TS} (W : Nat → L2.St → Hp → Prop) (m0 : Nat) (w0 : W m0 σ H)
    (hs : ∀ m σ H, W m σ H → tc σ H fun b H1 => if b = true then ∃ N : L2.St → Hp → Prop, (∀ σ' H', N σ' H' → ∃ m', m' < m ∧ W m' σ' H') ∧ tb { D with nx := N, ct := N, bk := D.nx } σ H1 else D.nx σ H1) : tWhile tc tb D σ H := ⟨W, ⟨m0, w0⟩, hs⟩
end
theorem int_cases {i : Int} : decide (V.int i = V.non) = false := decide_eq_false fun z => nomatch z
end Sl

set_option Elab.async false
set_option linter.all false
set_option maxRecDepth 100000
set_option maxHeartbeats 4000000
/-! The walks: numbers, goings. -/
namespace Sl
open PySem L2
local macro_rules | `(tactic| walk_at "go1") => `(tactic| first
  | with_reducible refine x_seq ?_
  | with_reducible refine x_asg ?_
  | with_reducible refine x_name ?_
  | with_reducible refine x_ret ?_
  | with_reducible refine x_if ?_
  | ((with_reducible refine' x_var ?hv ?_); (case hv => rfl))
  | with_reducible refine x_c ?_
  | with_reducible refine' x_non ?_
  | with_reducible refine x_yes ?_
  | with_reducible refine' iteT ?_
  | with_reducible refine' iteF ?_
  | with_reducible refine x_op ?_
  | with_reducible refine x_I0 ?_
  | with_reducible refine x_test ?_
  | with_reducible refine' x_bl ?_
  | with_reducible refine x_eqI ?_
  | with_reducible refine x_neI ?_
  | with_reducible refine x_cons ?_
  | with_reducible refine x_nil ?_
  | with_reducible refine x_call ?_
  | with_reducible refine x_cb ?_
  | with_reducible refine x_par ?_
  | with_reducible refine x_par2 ?_
  | with_reducible refine x_gcons ?_
  | with_reducible refine x_gnil ?_
  | with_reducible refine x_next ?_
  | with_reducible refine x_drop ?_
  | with_reducible refine x_bm ?_
  | with_reducible refine x_fld ?_
  | with_reducible refine x_dget ?_
  | with_reducible refine x_lc ?_
  | with_reducible refine x_iL ?_
  | with_reducible refine x_iT ?_
  | with_reducible refine x_dK ?_
  | with_reducible refine x_dT ?_
  | ((with_reducible refine' x_tyl ?ha ?_); (case ha => assumption))
  | ((with_reducible refine' x_lct ?ha ?_); (case ha => assumption))
  | ((with_reducible refine' x_tct ?ha ?_); (case ha => assumption))
  | ((with_reducible refine' x_gtup ?ha ?hn ?_); (case ha => assumption); (case hn => rfl))
  | ((with_reducible refine' x_ixT ?ha ?hk ?_); (case ha => assumption); (case hk => rfl))
  | (with_reducible refine x_tup ?_)
  | (with_reducible refine x_lst ?_))
local macro_rules | `(tactic| walk_at "go") => `(tactic| (repeat walk_at "go1"))
section
variable {P : Program} {w : World} {K : PySem.W.Frag} {mg : Str → Option Value} {base : Heap} {t1 t2 : Tok}

def sp_rest_behind : Sp := fun vs H Q _ => ∃ (x : V) (g : Go) (b : Int), vs = [x, .int b] ∧ Tp H x (goD g) ∧ 0 < g.2 ∧ Q (.int (restB g b)) H
/-- slots of rest_behind: 0 going 1 beats 2 first 3 length -/
abbrev s_rest_behind : Stmt := top 12
theorem sc_rest_behind : FnScope ["going", "beats", "first", "length"] ["going", "beats"] (defScope s_rest_behind) := ⟨rfl, rfl, rfl, by decide +kernel, rfl, by decide +kernel, by decide +kernel⟩
theorem ok_rest_behind {f : Addr} {fd : FuncData} (F : Fun K "rest_behind" "rest_behind" s_rest_behind f fd) : FnOk P w K mg base CX0 1 f fd ["going", "beats"] sp_rest_behind := by
  refine F.ok sc_rest_behind (fun vs H Q E h => ?_) (fun cdv A outer s H vs Q E hr h => ?_)
  · obtain ⟨_, _, _, rfl, _⟩ := h
    rfl
  · obtain ⟨x, g, b, rfl, tg, hg, k⟩ := h
    obtain ⟨p, rfl, hp⟩ := tp_go tg
    refine ⟨_, (pss_cons (ps_asg (pv 0) (pg_tup (n := 2) rfl (pgs_cons (pg_name (i := 2) sc_rest_behind.nd rfl (Or.inl rfl)) (pgs_cons (pg_name (i := 3) sc_rest_behind.nd rfl (Or.inl rfl)) pgs_nil))))
      (pss_cons (ps_if (pt_cmpR op_lt (pv 1) (pv 2) (nomark _)) (pss_one (ps_ret (pe_op op_sub (pv 2) (pv 1)))) pss_nil)
      (pss_one (ps_ret (pe_op op_sub (pv 3) (pe_op op_modN (pe_op op_sub (pv 1) (pv 2)) (pv 3))))))), ?_⟩
    walk_at "go"
    refine x_dec (fun c => ?_) (fun c => ?_)
    · walk_at "go"
      unfold restB at k
      rw [if_pos c] at k
      exact k
    · walk_at "go"
      refine x_mod hg ?_
      walk_at "go"
      unfold restB at k
      rw [if_neg c] at k
      exact k

def sp_divisor : Sp := fun vs H Q _ => ∃ a b : Int, vs = [.int a, .int b] ∧ 0 ≤ a ∧ 0 ≤ b ∧ Q (.int (gcdI a b)) H
/-- slots of divisor: 0 one 1 other -/
abbrev s_divisor : Stmt := top 7
theorem sc_divisor : FnScope ["one", "other"] ["one", "other"] (defScope s_divisor) := ⟨rfl, rfl, rfl, by decide +kernel, rfl, by decide +kernel, by decide +kernel⟩
theorem gcd_step {a b : Int} (ha : 0 ≤ a) (hb : 0 < b) : gcdI b (a % b) = gcdI a b := by
  obtain ⟨m, rfl⟩ := Int.eq_ofNat_of_zero_le ha
  obtain ⟨n, rfl⟩ := Int.eq_ofNat_of_zero_le (Int.le_of_lt hb)
  unfold gcdI
  have e : Int.gcd (n : Int) ((m : Int) % (n : Int)) = Int.gcd (m : Int) (n : Int) := by
    show Nat.gcd n (((m : Int) % (n : Int)).natAbs) = Nat.gcd m n
    have e2 : ((m : Int) % (n : Int)).natAbs = m % n := by rw [← Int.natCast_emod]; rfl
    rw [e2, Nat.gcd_comm, ← Nat.gcd_rec, Nat.gcd_comm]
  rw [e]
theorem gcd_zero {a : Int} (ha : 0 ≤ a) : gcdI a 0 = a := by
  unfold gcdI
  rw [Int.gcd_zero_right]
  omega
theorem ok_divisor {f : Addr} {fd : FuncData} (F : Fun K "divisor" "divisor" s_divisor f fd) : FnOk P w K mg base CX0 1 f fd ["one", "other"] sp_divisor := by
  refine F.ok sc_divisor (fun vs H Q E h => ?_) (fun cdv A outer s H vs Q E hr h => ?_)
  · obtain ⟨_, _, rfl, _⟩ := h
    rfl
  · obtain ⟨a, b, rfl, ha, hb, k⟩ := h
    refine ⟨_, (pss_cons (ps_while PassesOwn.never (pt_cmpR op_gt (pv 1) pe_int (nomark _)) (pss_one (ps_par (i := 0) (j := 1) (by rfl) sc_divisor.nd rfl rfl (by decide) rfl rfl (pa_cons (pv 1) (pa_cons (pe_op op_modN (pv 0) (pv 1)) pa_nil)) (by rfl))))
      (pss_one (ps_ret (pv 0)))), ?_⟩
    refine x_seq (x_while (fun m σ H' => ∃ x y : Int, 0 ≤ x ∧ 0 ≤ y ∧ m = y.toNat ∧ gcdI x y = gcdI a b ∧ σ = [some (.int x), some (.int y)] ∧ H' = H) b.toNat ⟨a, b, ha, hb, rfl, rfl, rfl, rfl⟩ ?_)
    rintro m σ H' ⟨x, y, hx, hy, rfl, hg, rfl, rfl⟩
    walk_at "go"
    refine x_dec (fun c => ?_) (fun c => ?_)
    · refine ⟨fun σ' H2 => σ' = [some (.int y), some (.int (x % y))] ∧ H2 = H', ?_, ?_⟩
      · rintro σ' H2 ⟨rfl, rfl⟩
        have h1 := Int.emod_lt_of_pos x c
        have h2 := Int.emod_nonneg x (Int.ne_of_gt c)
        exact ⟨(x % y).toNat, by omega, y, x % y, hy, h2, rfl, by rw [gcd_step hx c]; exact hg, rfl, rfl⟩
      · walk_at "go"
        refine x_mod c ?_
        walk_at "go"
        exact ⟨rfl, rfl⟩
    · walk_at "go"
      have hy0 : y = 0 := by omega
      subst hy0
      rw [gcd_zero hx] at hg
      rw [hg]
      exact k

def sp_multiple : Sp := fun vs H Q _ => ∃ a b : Int, vs = [.int a, .int b] ∧ 0 < a ∧ 0 < b ∧ b < 1073741824 ∧ Q (.int (mult a b)) H
/-- slots of multiple: 0 one 1 other -/
abbrev s_multiple : Stmt := top 8
theorem sc_multiple : FnScope ["one", "other"] ["one", "other"] (defScope s_multiple) := ⟨rfl, rfl, rfl, by decide +kernel, rfl, by decide +kernel, by decide +kernel⟩
theorem ok_multiple {f fdv : Addr} {fd fdd : FuncData} (F : Fun K "multiple" "multiple" s_multiple f fd) (D_divisor : FC P w K mg base 1 "divisor" ["one", "other"] sp_divisor fdv fdd) : FnOk P w K mg base CX0 2 f fd ["one", "other"] sp_multiple := by
  refine F.ok sc_multiple (fun vs H Q E h => ?_) (fun cdv A outer s H vs Q E hr h => ?_)
  · obtain ⟨_, _, rfl, _⟩ := h
    rfl
  · obtain ⟨a, b, rfl, ha, hb, hb2, k⟩ := h
    refine ⟨_, (pss_one (ps_ret (pe_op op_mul (pe_op op_fdivN (pv 0) (pe_f D_divisor hr (by decide) (pa_cons (pv 0) (pa_cons (pv 1) pa_nil)))) (pv 1)))), ?_⟩
    walk_at "go"
    refine ⟨a, b, rfl, Int.le_of_lt ha, Int.le_of_lt hb, ?_⟩
    have g1 := gcdI_pos (b := b) ha
    have g2 := gcdI_le (a := a) hb
    refine x_div g1 (by omega) ?_
    walk_at "go"
    exact x_mulR (by omega) (by omega) k

def sp_fraction : Sp := fun vs H Q _ => ∃ t b : Int, vs = [.int t, .int b] ∧ 0 ≤ t ∧ 0 < b ∧ b.natAbs < 2 ^ 8000 ∧ ∀ p H', Same H H' → H' p = some (.tup [.int (frac t b).1, .int (frac t b).2]) → Q (.ref p) H'
/-- slots of fraction: 0 top 1 bottom 2 by -/
abbrev s_fraction : Stmt := top 9
theorem sc_fraction : FnScope ["top", "bottom", "by"] ["top", "bottom"] (defScope s_fraction) := ⟨rfl, rfl, rfl, by decide +kernel, rfl, by decide +kernel, by decide +kernel⟩
theorem ok_fraction {f fdv : Addr} {fd fdd : FuncData} (F : Fun K "fraction" "fraction" s_fraction f fd) (D_divisor : FC P w K mg base 1 "divisor" ["one", "other"] sp_divisor fdv fdd) : FnOk P w K mg base CX0 2 f fd ["top", "bottom"] sp_fraction := by
  refine F.ok sc_fraction (fun vs H Q E h => ?_) (fun cdv A outer s H vs Q E hr h => ?_)
  · obtain ⟨_, _, rfl, _⟩ := h
    rfl
  · obtain ⟨t, b, rfl, ht, hb, hb2, k⟩ := h
    refine ⟨_, (pss_cons (ps_set (i := 2) sc_fraction.nd rfl (Or.inl rfl) (pe_f D_divisor hr (by decide) (pa_cons (pv 1) (pa_cons (pv 0) pa_nil))))
      (pss_one (ps_ret (pe_tup (pa_cons (pe_op op_fdivW (pv 0) (pv 2)) (pa_cons (pe_op op_fdivW (pv 1) (pv 2)) pa_nil)))))), ?_⟩
    walk_at "go"
    refine ⟨b, t, rfl, Int.le_of_lt hb, ht, ?_⟩
    have g1 := gcdI_pos (b := t) hb
    have g2 := gcdI_le_left (b := t) hb
    have g3 : (gcdI b t).natAbs < 2 ^ 8000 := by omega
    walk_at "go"
    refine x_divW g1 (by decide) (by decide) g3 ?_
    walk_at "go"
    refine x_divW g1 (by decide) (by decide) g3 ?_
    walk_at "go"
    exact ⟨by show 2 ≤ sizeLine; decide, fun p hp => k p _ (same_new hp) upd_same⟩

def sp_times_up : Sp := fun vs H Q _ => ∃ (x : V) (g : Go) (b : Int), vs = [x, .int b] ∧ Tp H x (goD g) ∧ 0 < g.2 ∧ g.2 < 1073741824 ∧ Q (.int (timesU g b)) H
/-- slots of times_up: 0 going 1 beats 2 first 3 length -/
abbrev s_times_up : Stmt := top 13
theorem sc_times_up : FnScope ["going", "beats", "first", "length"] ["going", "beats"] (defScope s_times_up) := ⟨rfl, rfl, rfl, by decide +kernel, rfl, by decide +kernel, by decide +kernel⟩
theorem ok_times_up {f : Addr} {fd : FuncData} (F : Fun K "times_up" "times_up" s_times_up f fd) : FnOk P w K mg base CX0 1 f fd ["going", "beats"] sp_times_up := by
  refine F.ok sc_times_up (fun vs H Q E h => ?_) (fun cdv A outer s H vs Q E hr h => ?_)
  · obtain ⟨_, _, _, rfl, _⟩ := h
    rfl
  · obtain ⟨x, g, b, rfl, tg, hg, hg2, k⟩ := h
    obtain ⟨p, rfl, hp⟩ := tp_go tg
    refine ⟨_, (pss_cons (ps_asg (pv 0) (pg_tup (n := 2) rfl (pgs_cons (pg_name (i := 2) sc_times_up.nd rfl (Or.inl rfl)) (pgs_cons (pg_name (i := 3) sc_times_up.nd rfl (Or.inl rfl)) pgs_nil))))
      (pss_cons (ps_if (pt_cmpR op_lt (pv 1) (pv 2) (nomark _)) (pss_one (ps_ret pe_int)) pss_nil)
      (pss_one (ps_ret (pe_op op_add (pe_op op_fdivN (pe_op op_sub (pv 1) (pv 2)) (pv 3)) pe_int))))), ?_⟩
    walk_at "go"
    unfold timesU at k
    refine x_dec (fun c => ?_) (fun c => ?_)
    · walk_at "go"
      rw [if_pos c] at k
      exact k
    · walk_at "go"
      refine x_div hg hg2 ?_
      walk_at "go"
      rw [if_neg c] at k
      exact k

def sp_last_up : Sp := fun vs H Q _ => ∃ (x : V) (g : Go) (b : Int), vs = [x, .int b] ∧ Tp H x (goD g) ∧ 0 < g.2 ∧ Q (.int (lastU g b)) H
/-- slots of last_up: 0 going 1 beat 2 first 3 length -/
abbrev s_last_up : Stmt := top 14
theorem sc_last_up : FnScope ["going", "beat", "first", "length"] ["going", "beat"] (defScope s_last_up) := ⟨rfl, rfl, rfl, by decide +kernel, rfl, by decide +kernel, by decide +kernel⟩
theorem ok_last_up {f : Addr} {fd : FuncData} (F : Fun K "last_up" "last_up" s_last_up f fd) : FnOk P w K mg base CX0 1 f fd ["going", "beat"] sp_last_up := by
  refine F.ok sc_last_up (fun vs H Q E h => ?_) (fun cdv A outer s H vs Q E hr h => ?_)
  · obtain ⟨_, _, _, rfl, _⟩ := h
    rfl
  · obtain ⟨x, g, b, rfl, tg, hg, k⟩ := h
    obtain ⟨p, rfl, hp⟩ := tp_go tg
    refine ⟨_, (pss_cons (ps_asg (pv 0) (pg_tup (n := 2) rfl (pgs_cons (pg_name (i := 2) sc_last_up.nd rfl (Or.inl rfl)) (pgs_cons (pg_name (i := 3) sc_last_up.nd rfl (Or.inl rfl)) pgs_nil))))
      (pss_cons (ps_if (pt_cmpR op_le (pv 1) (pv 2) (nomark _)) (pss_one (ps_ret pe_int)) pss_nil)
      (pss_one (ps_ret (pe_op op_sub (pe_op op_sub (pv 1) pe_int) (pe_op op_modN (pe_op op_sub (pe_op op_sub (pv 1) pe_int) (pv 2)) (pv 3))))))), ?_⟩
    walk_at "go"
    unfold lastU at k
    refine x_dec (fun c => ?_) (fun c => ?_)
    · walk_at "go"
      rw [if_pos c] at k
      exact k
    · walk_at "go"
      refine x_mod hg ?_
      walk_at "go"
      rw [if_neg c] at k
      exact k

def sp_inverse : Sp := fun vs H Q _ => ∃ n b : Int, vs = [.int n, .int b] ∧ 0 < b ∧ b < 1073741824 ∧ ∀ H', Same H H' → Q (.int (inv n b)) H'
theorem invL_pos {one other mine its base : Int} (h : 0 < one) : invL one other mine its base = invL (other - other / one * one) one (its - other / one * mine) mine base := by
  rw [invL, dif_pos h]
theorem invL_neg {one other mine its base : Int} (h : ¬ 0 < one) : invL one other mine its base = its % base := by
  rw [invL, dif_neg h]
/-- slots of inverse: 0 number 1 base 2 one 3 other 4 mine 5 its 6 times -/
abbrev s_inverse : Stmt := top 16
theorem sc_inverse : FnScope ["number", "base", "one", "other", "mine", "its", "times"] ["number", "base"] (defScope s_inverse) := ⟨rfl, rfl, rfl, by decide +kernel, rfl, by decide +kernel, by decide +kernel⟩
theorem ok_inverse {f : Addr} {fd : FuncData} (F : Fun K "inverse" "inverse" s_inverse f fd) : FnOk P w K mg base CX0 1 f fd ["number", "base"] sp_inverse := by
  refine F.ok sc_inverse (fun vs H Q E h => ?_) (fun cdv A outer s H vs Q E hr h => ?_)
  · obtain ⟨_, _, rfl, _⟩ := h
    rfl
  · obtain ⟨n, b, rfl, hb, hb2, k⟩ := h
    refine ⟨_, (pss_cons (ps_par (i := 2) (j := 3) (by rfl) sc_inverse.nd rfl rfl (by decide) rfl rfl (pa_cons (pe_op op_modN (pv 0) (pv 1)) (pa_cons (pv 1) pa_nil)) (by rfl))
      (pss_cons (ps_asg (pe_tup (pa_cons pe_int (pa_cons pe_int pa_nil))) (pg_tup (n := 2) rfl (pgs_cons (pg_name (i := 4) sc_inverse.nd rfl (Or.inl rfl)) (pgs_cons (pg_name (i := 5) sc_inverse.nd rfl (Or.inl rfl)) pgs_nil))))
      (pss_cons (ps_while PassesOwn.never (pt_cmpR op_gt (pv 2) pe_int (nomark _)) (pss_cons (ps_set (i := 6) sc_inverse.nd rfl (Or.inl rfl) (pe_op op_fdivN (pv 3) (pv 2)))
      (pss_cons (ps_par (i := 2) (j := 3) (by rfl) sc_inverse.nd rfl rfl (by decide) rfl rfl (pa_cons (pe_op op_sub (pv 3) (pe_op op_mul (pv 6) (pv 2))) (pa_cons (pv 2) pa_nil)) (by rfl))
      (pss_one (ps_par (i := 4) (j := 5) (by rfl) sc_inverse.nd rfl rfl (by decide) rfl rfl (pa_cons (pe_op op_sub (pv 5) (pe_op op_mul (pv 6) (pv 4))) (pa_cons (pv 4) pa_nil)) (by rfl))))))
      (pss_one (ps_ret (pe_op op_modN (pv 5) (pv 1))))))), ?_⟩
    walk_at "go"
    refine x_mod hb ?_
    walk_at "go"
    refine ⟨by show 2 ≤ sizeLine; decide, fun p hp => ?_⟩
    refine x_gtup upd_same rfl ?_
    walk_at "go"
    have k := k _ (same_new (o := .tup [.int 1, .int 0]) hp)
    revert k
    generalize upd H p (.tup [.int 1, .int 0]) = G
    intro k
    have m1 := Int.emod_lt_of_pos n hb
    have m2 := Int.emod_nonneg n (Int.ne_of_gt hb)
    refine (x_while (fun m σ H' => ∃ (o t mi it : Int) (z : Option V), 0 ≤ o ∧ 0 ≤ t ∧ o < 1073741824 ∧ t < 1073741824 ∧ m = o.toNat ∧ invL o t mi it b = inv n b ∧ σ = [some (.int n), some (.int b), some (.int o), some (.int t), some (.int mi), some (.int it), z] ∧ H' = G) (n % b).toNat ⟨n % b, b, 1, 0, none, m2, Int.le_of_lt hb, by omega, hb2, rfl, rfl, rfl, rfl⟩ ?_)
    rintro m σ H' ⟨o, t, mi, it, z, h1, h2, h3, h4, rfl, hi, rfl, rfl⟩
    walk_at "go"
    refine x_dec (fun c => ?_) (fun c => ?_)
    · refine ⟨fun σ' H2 => σ' = [some (.int n), some (.int b), some (.int (t - t / o * o)), some (.int o), some (.int (it - t / o * mi)), some (.int mi), some (.int (t / o))] ∧ H2 = H', ?_, ?_⟩
      · rintro σ' H2 ⟨rfl, rfl⟩
        have e1 : t - t / o * o = t % o := by rw [Int.mul_comm]; have := Int.emod_add_mul_ediv t o; omega
        have h5 := Int.emod_lt_of_pos t c
        have h6 := Int.emod_nonneg t (Int.ne_of_gt c)
        exact ⟨(t - t / o * o).toNat, by omega, t - t / o * o, o, it - t / o * mi, mi, some (.int (t / o)), by omega, h1, by omega, h3, rfl, by rw [← invL_pos c]; exact hi, rfl, rfl⟩
      · have q1 : 0 ≤ t / o := Int.ediv_nonneg h2 h1
        have q2 : t / o ≤ t := Int.ediv_le_self _ h2
        walk_at "go"
        refine x_div c (by omega) ?_
        walk_at "go"
        refine x_mulL (by omega) (by omega) ?_
        walk_at "go"
        refine x_mulL (by omega) (by omega) ?_
        walk_at "go"
        exact ⟨rfl, rfl⟩
    · walk_at "go"
      refine x_mod hb ?_
      rw [invL_neg c] at hi
      rw [← hi] at k
      exact k
end
end Sl

set_option Elab.async false
set_option linter.all false
set_option maxRecDepth 100000
set_option maxHeartbeats 4000000
/-! The walks: meetings. -/
namespace Sl
open PySem L2
local macro_rules | `(tactic| walk_at "go1") => `(tactic| first
  | with_reducible refine x_seq ?_
  | with_reducible refine x_asg ?_
  | with_reducible refine x_name ?_
  | with_reducible refine x_ret ?_
  | with_reducible refine x_if ?_
  | ((with_reducible refine' x_var ?hv ?_); (case hv => rfl))
  | with_reducible refine x_c ?_
  | with_reducible refine' x_non ?_
  | with_reducible refine x_yes ?_
  | with_reducible refine' iteT ?_
  | with_reducible refine' iteF ?_
  | with_reducible refine x_op ?_
  | with_reducible refine x_I0 ?_
  | with_reducible refine x_test ?_
  | with_reducible refine' x_bl ?_
  | with_reducible refine x_eqI ?_
  | with_reducible refine x_neI ?_
  | with_reducible refine x_cons ?_
  | with_reducible refine x_nil ?_
  | with_reducible refine x_call ?_
  | with_reducible refine x_cb ?_
  | with_reducible refine x_par ?_
  | with_reducible refine x_par2 ?_
  | with_reducible refine x_gcons ?_
  | with_reducible refine x_gnil ?_
  | with_reducible refine x_next ?_
  | with_reducible refine x_drop ?_
  | with_reducible refine x_bm ?_
  | with_reducible refine x_fld ?_
  | with_reducible refine x_dget ?_
  | with_reducible refine x_lc ?_
  | with_reducible refine x_iL ?_
  | with_reducible refine x_iT ?_
  | with_reducible refine x_dK ?_
  | with_reducible refine x_dT ?_
  | ((with_reducible refine' x_tyl ?ha ?_); (case ha => assumption))
  | ((with_reducible refine' x_lct ?ha ?_); (case ha => assumption))
  | ((with_reducible refine' x_tct ?ha ?_); (case ha => assumption))
  | ((with_reducible refine' x_gtup ?ha ?hn ?_); (case ha => assumption); (case hn => rfl))
  | ((with_reducible refine' x_ixT ?ha ?hk ?_); (case ha => assumption); (case hk => rfl))
  | (with_reducible refine x_tup ?_)
  | (with_reducible refine x_lst ?_))
local macro_rules | `(tactic| walk_at "go") => `(tactic| (repeat walk_at "go1"))
section
variable {P : Program} {w : World} {K : PySem.W.Frag} {mg : Str → Option Value} {base : Heap} {t1 t2 : Tok}

theorem mult_lt {a b : Int} (ha : 0 < a) (hb : 0 < b) (ha2 : a < 1073741824) (hb2 : b < 1073741824) : mult a b < 2 ^ 60 := by
  have g := gcdI_pos (b := b) ha
  have h1 : a / gcdI a b ≤ a := Int.ediv_le_self _ (Int.le_of_lt ha)
  have h2 := div_gcd_pos (b := b) ha
  unfold mult
  have h3 : a / gcdI a b * b ≤ 1073741824 * b := Int.mul_le_mul_of_nonneg_right (by omega) (Int.le_of_lt hb)
  omega
theorem inv_lt {n b : Int} (hb : 0 < b) : 0 ≤ inv n b ∧ inv n b < b := by
  have key : ∀ (m : Nat) (o t mi it : Int), o.toNat ≤ m → 0 ≤ invL o t mi it b ∧ invL o t mi it b < b := by
    intro m
    induction m with
    | zero =>
      intro o t mi it hm
      rw [invL_neg (by omega)]
      exact ⟨Int.emod_nonneg _ (Int.ne_of_gt hb), Int.emod_lt_of_pos _ hb⟩
    | succ m ih =>
      intro o t mi it hm
      by_cases c : 0 < o
      · rw [invL_pos c]
        refine ih _ _ _ _ ?_
        have e1 : t - t / o * o = t % o := by rw [Int.mul_comm]; have := Int.emod_add_mul_ediv t o; omega
        have h5 := Int.emod_lt_of_pos t c
        have h6 := Int.emod_nonneg t (Int.ne_of_gt c)
        omega
      · rw [invL_neg c]
        exact ⟨Int.emod_nonneg _ (Int.ne_of_gt hb), Int.emod_lt_of_pos _ hb⟩
  exact key _ _ _ _ _ (Nat.le_refl _)
def Gg (g : Go) : Prop := 0 < g.2 ∧ g.2 < 1073741824
def sp_meeting : Sp := fun vs H Q _ => ∃ (x y : V) (g h : Go), vs = [x, y] ∧ Tp H x (goD g) ∧ Tp H y (goD h) ∧ Gg g ∧ Gg h ∧ ∀ H', Same H H' → Q (optV (meet g h)) H'
/-- slots of meeting: 0 one 1 other 2 first 3 length 4 second 5 its 6 common 7 base 8 found 9 both -/
abbrev s_meeting : Stmt := top 17
theorem sc_meeting : FnScope ["one", "other", "first", "length", "second", "its", "common", "base", "found", "both"] ["one", "other"] (defScope s_meeting) := ⟨rfl, rfl, rfl, by decide +kernel, rfl, by decide +kernel, by decide +kernel⟩
theorem ok_meeting {f fdv fmu fin : Addr} {fd fdd fdm fdi : FuncData} (F : Fun K "meeting" "meeting" s_meeting f fd) (D_divisor : FC P w K mg base 1 "divisor" ["one", "other"] sp_divisor fdv fdd)
    (D_multiple : FC P w K mg base 2 "multiple" ["one", "other"] sp_multiple fmu fdm) (D_inverse : FC P w K mg base 1 "inverse" ["number", "base"] sp_inverse fin fdi) : FnOk P w K mg base CX0 3 f fd ["one", "other"] sp_meeting := by
  refine F.ok sc_meeting (fun vs H Q E h => ?_) (fun cdv A outer s H vs Q E hr h => ?_)
  · obtain ⟨_, _, _, _, rfl, _⟩ := h
    rfl
  · obtain ⟨x, y, g, h, rfl, tg, th, ⟨hg, hg2⟩, ⟨hh, hh2⟩, k⟩ := h
    obtain ⟨p, rfl, hp⟩ := tp_go tg
    obtain ⟨q, rfl, hq⟩ := tp_go th
    refine ⟨_, (pss_cons (ps_asg (pv 0) (pg_tup (n := 2) rfl (pgs_cons (pg_name (i := 2) sc_meeting.nd rfl (Or.inl rfl)) (pgs_cons (pg_name (i := 3) sc_meeting.nd rfl (Or.inl rfl)) pgs_nil))))
      (pss_cons (ps_asg (pv 1) (pg_tup (n := 2) rfl (pgs_cons (pg_name (i := 4) sc_meeting.nd rfl (Or.inl rfl)) (pgs_cons (pg_name (i := 5) sc_meeting.nd rfl (Or.inl rfl)) pgs_nil))))
      (pss_cons (ps_set (i := 6) sc_meeting.nd rfl (Or.inl rfl) (pe_f D_divisor hr (by decide) (pa_cons (pv 3) (pa_cons (pv 5) pa_nil))))
      (pss_cons (ps_if (pt_cmpR op_ne (pe_op op_modN (pe_op op_sub (pv 4) (pv 2)) (pv 6)) pe_int (nomark _)) (pss_one (ps_ret pe_non)) pss_nil)
      (pss_cons (ps_set (i := 7) sc_meeting.nd rfl (Or.inl rfl) (pe_op op_fdivN (pv 5) (pv 6)))
      (pss_cons (ps_set (i := 8) sc_meeting.nd rfl (Or.inl rfl) (pe_op op_add (pv 2) (pe_op op_mul (pv 3) (pe_op op_modN (pe_op op_mul (pe_op op_fdivN (pe_op op_sub (pv 4) (pv 2)) (pv 6)) (pe_f D_inverse hr (by decide) (pa_cons (pe_op op_fdivN (pv 3) (pv 6)) (pa_cons (pv 7) pa_nil)))) (pv 7)))))
      (pss_cons (ps_if (pt_cmpR op_lt (pv 8) (pv 4) (nomark _)) (pss_cons (ps_set (i := 9) sc_meeting.nd rfl (Or.inl rfl) (pe_f D_multiple hr (by decide) (pa_cons (pv 3) (pa_cons (pv 5) pa_nil))))
      (pss_one (ps_set (i := 8) sc_meeting.nd rfl (Or.inl rfl) (pe_op op_add (pv 8) (pe_op op_mul (pe_op op_fdivW (pe_op op_sub (pe_op op_add (pe_op op_sub (pv 4) (pv 8)) (pv 9)) pe_int) (pv 9)) (pv 9)))))) pss_nil)
      (pss_one (ps_ret (pv 8)))))))))), ?_⟩
    have c1 := gcdI_pos (b := h.2) hg
    have c2 := gcdI_le_left (b := h.2) hg
    have b1 := div_gcd_pos' hg hh
    have b2 : h.2 / gcdI g.2 h.2 ≤ h.2 := Int.ediv_le_self _ (Int.le_of_lt hh)
    walk_at "go"
    refine ⟨g.2, h.2, rfl, Int.le_of_lt hg, Int.le_of_lt hh, ?_⟩
    walk_at "go"
    refine x_mod c1 ?_
    walk_at "go"
    refine x_decN (fun c => ?_) (fun c => ?_)
    · walk_at "go"
      have k := k H (Same.refl H)
      unfold meet at k
      rw [if_pos c] at k
      exact k
    · walk_at "go"
      refine x_div c1 (by omega) ?_
      walk_at "go"
      refine x_div c1 (by omega) ?_
      walk_at "go"
      refine x_div c1 (by omega) ?_
      walk_at "go"
      refine ⟨_, _, rfl, b1, by omega, fun H1 s1 => ?_⟩
      obtain ⟨i1, i2⟩ := inv_lt (n := g.2 / gcdI g.2 h.2) b1
      refine x_mulR (by omega) (by omega) ?_
      walk_at "go"
      refine x_mod b1 ?_
      refine x_mulL (by omega) (by omega) ?_
      walk_at "go"
      have k := k H1 s1
      unfold meet at k
      rw [if_neg (fun z => z c)] at k
      refine x_dec (fun d => ?_) (fun d => ?_)
      · walk_at "go"
        refine ⟨g.2, h.2, rfl, hg, hh, hh2, ?_⟩
        have m1 := mult_pos hg hh
        have m2 := mult_lt hg hh hg2 hh2
        walk_at "go"
        refine x_divW m1 (n := 64) (by decide) (by decide) (by omega) ?_
        walk_at "go"
        refine x_mulR (by omega) (by omega) ?_
        walk_at "go"
        rw [if_pos (show meet0 g h < h.1 from d)] at k
        exact k
      · walk_at "go"
        rw [if_neg (show ¬ meet0 g h < h.1 from d)] at k
        exact k

def sp_falling_in : Sp := fun vs H Q _ => ∃ (x y : V) (g h : Go), vs = [x, y] ∧ Tp H x (goD g) ∧ Tp H y (goD h) ∧ Gg g ∧ Gg h ∧ ∀ H', Same H H' → Q (optV (fallIn g h)) H'
/-- slots of falling_in: 0 one 1 other 2 both -/
abbrev s_falling_in : Stmt := top 18
theorem sc_falling_in : FnScope ["one", "other", "both"] ["one", "other"] (defScope s_falling_in) := ⟨rfl, rfl, rfl, by decide +kernel, rfl, by decide +kernel, by decide +kernel⟩
theorem ok_falling_in {f fme fla : Addr} {fd fdm fdl : FuncData} (T : BtT mg t1 t2) (F : Fun K "falling_in" "falling_in" s_falling_in f fd) (D_meeting : FC P w K mg base 3 "meeting" ["one", "other"] sp_meeting fme fdm)
    (D_last_up : FC P w K mg base 1 "last_up" ["going", "beat"] sp_last_up fla fdl) : FnOk P w K mg base CX0 4 f fd ["one", "other"] sp_falling_in := by
  refine F.ok sc_falling_in (fun vs H Q E h => ?_) (fun cdv A outer s H vs Q E hr h => ?_)
  · obtain ⟨_, _, _, _, rfl, _⟩ := h
    rfl
  · obtain ⟨x, y, g, h, rfl, tg, th, hg, hh, k⟩ := h
    refine ⟨_, (pss_cons (ps_set (i := 2) sc_falling_in.nd rfl (Or.inl rfl) (pe_f D_meeting hr (by decide) (pa_cons (pv 0) (pa_cons (pv 1) pa_nil))))
      (pss_cons (ps_if (pt_cmpR op_isN (pv 2) pe_non (nomark _)) (pss_one (ps_ret pe_non)) pss_nil)
      (pss_one (ps_ret (pe_callB (call_max2 rfl) (by rfl) T.max (by decide +kernel) (pa_cons (pe_f D_last_up hr (by decide) (pa_cons (pv 0) (pa_cons (pv 2) pa_nil))) (pa_cons (pe_f D_last_up hr (by decide) (pa_cons (pv 1) (pa_cons (pv 2) pa_nil))) pa_nil))))))), ?_⟩
    walk_at "go"
    refine ⟨x, y, g, h, rfl, tg, th, hg, hh, fun H1 s1 => ?_⟩
    have k := k H1 s1
    have tg1 := tp_keep (kp_same s1) tg
    have th1 := tp_keep (kp_same s1) th
    unfold fallIn at k
    cases hm : meet g h with
    | none =>
      rw [hm] at k
      walk_at "go"
      refine x_dec (fun c => ?_) (fun c => absurd rfl c)
      walk_at "go"
      exact k
    | some m =>
      rw [hm] at k
      walk_at "go"
      refine x_dec (fun c => nomatch c) (fun c => ?_)
      walk_at "go"
      refine ⟨x, g, m, rfl, tg1, hg.1, ?_⟩
      walk_at "go"
      refine ⟨y, h, m, rfl, th1, hh.1, ?_⟩
      refine ⟨_, _, rfl, ?_⟩
      have e : (if lastU h m > lastU g m then lastU h m else lastU g m) = max (lastU g m) (lastU h m) := by
        split
        · rw [Int.max_eq_right (by omega)]
        · rw [Int.max_eq_left (by omega)]
      rw [e]
      exact k

def sp_parting_of : Sp := fun vs H Q _ => ∃ (x y : V) (g h : Go), vs = [x, y] ∧ Tp H x (goD g) ∧ Tp H y (goD h) ∧ Gg g ∧ Gg h ∧ Q (optV (partOf g h)) H
/-- slots of parting_of: 0 one 1 other 2 common -/
abbrev s_parting_of : Stmt := top 19
theorem sc_parting_of : FnScope ["one", "other", "common"] ["one", "other"] (defScope s_parting_of) := ⟨rfl, rfl, rfl, by decide +kernel, rfl, by decide +kernel, by decide +kernel⟩
theorem ok_parting_of {f fdv : Addr} {fd fdd : FuncData} (F : Fun K "parting_of" "parting_of" s_parting_of f fd) (D_divisor : FC P w K mg base 1 "divisor" ["one", "other"] sp_divisor fdv fdd) : FnOk P w K mg base CX0 2 f fd ["one", "other"] sp_parting_of := by
  refine F.ok sc_parting_of (fun vs H Q E h => ?_) (fun cdv A outer s H vs Q E hr h => ?_)
  · obtain ⟨_, _, _, _, rfl, _⟩ := h
    rfl
  · obtain ⟨x, y, g, h, rfl, tg, th, ⟨hg, hg2⟩, ⟨hh, hh2⟩, k⟩ := h
    obtain ⟨p, rfl, hp⟩ := tp_go tg
    obtain ⟨q, rfl, hq⟩ := tp_go th
    refine ⟨_, (pss_cons (ps_set (i := 2) sc_parting_of.nd rfl (Or.inl rfl) (pe_f D_divisor hr (by decide) (pa_cons (pe_ix (kIxT (K := K) rfl) (pv 0) pe_int (fun _ _ => rfl)) (pa_cons (pe_ix (kIxT (K := K) rfl) (pv 1) pe_int (fun _ _ => rfl)) pa_nil))))
      (pss_cons (ps_if (pt_cmpR op_eq (pe_op op_modN (pe_op op_sub (pe_ix (kIxT (K := K) rfl) (pv 0) pe_int (fun _ _ => rfl)) (pe_ix (kIxT (K := K) rfl) (pv 1) pe_int (fun _ _ => rfl))) (pv 2)) pe_int (nomark _)) (pss_one (ps_ret pe_non)) pss_nil)
      (pss_one (ps_ret (pv 2))))), ?_⟩
    have c1 := gcdI_pos (b := h.2) hg
    walk_at "go"
    refine ⟨g.2, h.2, rfl, Int.le_of_lt hg, Int.le_of_lt hh, ?_⟩
    walk_at "go"
    refine x_mod c1 ?_
    walk_at "go"
    unfold partOf at k
    refine x_dec (fun c => ?_) (fun c => ?_)
    · walk_at "go"
      rw [if_pos c] at k
      exact k
    · walk_at "go"
      rw [if_neg c] at k
      exact k
end
end Sl

set_option Elab.async false
set_option linter.all false
set_option maxRecDepth 100000
set_option maxHeartbeats 4000000
/-! The walks: the next beat at which somebody is up, sums of fractions. -/
namespace Sl
open PySem L2
local macro_rules | `(tactic| walk_at "go1") => `(tactic| first
  | with_reducible refine x_seq ?_
  | with_reducible refine x_asg ?_
  | with_reducible refine x_name ?_
  | with_reducible refine x_ret ?_
  | with_reducible refine x_if ?_
  | ((with_reducible refine' x_var ?hv ?_); (case hv => rfl))
  | with_reducible refine x_c ?_
  | with_reducible refine' x_non ?_
  | with_reducible refine x_yes ?_
  | with_reducible refine' iteT ?_
  | with_reducible refine' iteF ?_
  | with_reducible refine x_op ?_
  | with_reducible refine x_I0 ?_
  | with_reducible refine x_test ?_
  | with_reducible refine' x_bl ?_
  | with_reducible refine x_eqI ?_
  | with_reducible refine x_neI ?_
  | with_reducible refine x_cons ?_
  | with_reducible refine x_nil ?_
  | with_reducible refine x_call ?_
  | with_reducible refine x_cb ?_
  | with_reducible refine x_par ?_
  | with_reducible refine x_par2 ?_
  | with_reducible refine x_gcons ?_
  | with_reducible refine x_gnil ?_
  | with_reducible refine x_next ?_
  | with_reducible refine x_drop ?_
  | with_reducible refine x_bm ?_
  | with_reducible refine x_fld ?_
  | with_reducible refine x_dget ?_
  | with_reducible refine x_lc ?_
  | with_reducible refine x_iL ?_
  | with_reducible refine x_iT ?_
  | with_reducible refine x_dK ?_
  | with_reducible refine x_dT ?_
  | ((with_reducible refine' x_tyl ?ha ?_); (case ha => assumption))
  | ((with_reducible refine' x_lct ?ha ?_); (case ha => assumption))
  | ((with_reducible refine' x_tct ?ha ?_); (case ha => assumption))
  | ((with_reducible refine' x_gtup ?ha ?hn ?_); (case ha => assumption); (case hn => rfl))
  | ((with_reducible refine' x_ixT ?ha ?hk ?_); (case ha => assumption); (case hk => rfl))
  | (with_reducible refine x_tup ?_)
  | (with_reducible refine x_lst ?_))
local macro_rules | `(tactic| walk_at "go") => `(tactic| (repeat walk_at "go1"))
section
variable {P : Program} {w : World} {K : PySem.W.Frag} {mg : Str → Option Value} {base : Heap} {t1 t2 : Tok}

def sp_next_up : Sp := fun vs H Q _ => ∃ (a : Addr) (xs : List V) (gs : List Go) (b : Int), vs = [.ref a, .int b] ∧ H a = some (.lst xs) ∧ TpAll H xs (gs.map goD) ∧ gs ≠ [] ∧ gs.length ≤ 1000 ∧ (∀ g ∈ gs, 0 < g.2) ∧
  ∀ p q H', Same H H' → H' p = some (.tup [.int (nextUp gs b).1, .ref q]) → H' q = some (.lst ((nextUp gs b).2.map fun i : Nat => V.int (i : Int))) → Q (.ref p) H'
/-- slots of next_up: 0 goings 1 beat 2 rests 3 least 4 going 5 at 6 rest -/
abbrev s_next_up : Stmt := top 15
theorem sc_next_up : FnScope ["goings", "beat", "rests", "least", "going", "at", "rest"] ["goings", "beat"] (defScope s_next_up) := ⟨rfl, rfl, rfl, by decide +kernel, rfl, by decide +kernel, by decide +kernel⟩
theorem ok_next_up {f frb : Addr} {fd fdr : FuncData} (T : BtT mg t1 t2) (F : Fun K "next_up" "next_up" s_next_up f fd) (D_rest_behind : FC P w K mg base 1 "rest_behind" ["going", "beats"] sp_rest_behind frb fdr) : FnOk P w K mg base CX0 2 f fd ["goings", "beat"] sp_next_up := by
  refine F.ok sc_next_up (fun vs H Q E h => ?_) (fun cdv A outer s H vs Q E hr h => ?_)
  · obtain ⟨_, _, _, _, rfl, _⟩ := h
    rfl
  · obtain ⟨a, xs, gs, b, rfl, ha, ta, hne, hsz, hpos, k⟩ := h
    have hlen := tpa_len ta
    rw [List.length_map] at hlen
    refine ⟨_, (pss_cons (ps_setLc (i := 2) (own := [("going", 4)]) (g := (gName 4)) rfl sc_next_up.nd rfl rfl (sw_true rfl rfl rfl (by decide +kernel)) (pi_list (pv 0)) (blkOk_by (N := ["goings", "beat", "rests", "least", "going", "at", "rest"]) (sc := defScope s_next_up) (by decide +kernel)) (fun _ _ _ _ _ => (pg_name (i := 4) sc_next_up.nd rfl (Or.inl rfl))) (fun _ _ _ _ _ => pts_nil) (fun _ _ _ _ _ => (pe_f D_rest_behind hr (by decide) (pa_cons (pv 4) (pa_cons (pv 1) pa_nil)))))
      (pss_cons (ps_set (i := 3) sc_next_up.nd rfl (Or.inr rfl) (pe_callB (kMin (K := K) rfl rfl) (by rfl) T.min (by decide +kernel) (pa_cons (pv 2) pa_nil)))
      (pss_one (ps_ret (pe_tup (pa_cons (pe_op op_add (pv 1) (pv 3)) (pa_cons (pe_lc (own := [("at", 5), ("rest", 6)]) (g := (gTup K 2 (gCons (gName 5) (gCons (gName 6) gNil)))) rfl sc_next_up.nd (pi_enum (by rfl) T.enumerate (pa_cons (pv 2) pa_nil)) (blkOk_by (N := ["goings", "beat", "rests", "least", "going", "at", "rest"]) (sc := defScope s_next_up) (by decide +kernel)) (fun _ _ _ _ _ => (pg_tup (n := 2) rfl (pgs_cons (pg_name (i := 5) sc_next_up.nd rfl (Or.inl rfl)) (pgs_cons (pg_name (i := 6) sc_next_up.nd rfl (Or.inl rfl)) pgs_nil)))) (fun _ _ _ _ _ => (pts_one (pt_cmpR op_eq (pv 6) (pv 3) (nomark _)))) (fun _ _ _ _ _ => (pv 5))) pa_nil))))))), ?_⟩
    walk_at "go"
    refine ⟨_, rfl, a, rfl, ⟨_, sql ha⟩, fun D hD => ?_⟩
    refine lc_tp walk_list (fun i => (gs[i]?).map fun g => .int (restB g b)) hD (by omega) (fun H' s' => sql (s' _ _ ha)) (fun i x H1 H2 Kb Kf hi s1 y kb kf => ?_) (fun H1 acc s1 hacc tacc => ?_)
    · obtain ⟨rfl, hx⟩ := y
      obtain ⟨d, hd, tx⟩ := tpa_get ta hx
      rw [List.getElem?_map] at hd
      cases hg : gs[i]? with
      | none => rw [hg] at hd; cases hd
      | some g =>
        rw [hg] at hd
        have hd := Option.some.inj hd
        subst hd
        walk_at "go"
        refine ⟨rfl, ?_⟩
        walk_at "go"
        refine ⟨x, g, b, rfl, tp_keep (kp_same s1) tx, hpos g (List.mem_of_getElem? hg), ?_⟩
        exact kb _ _ _ (by rw [hg]; rfl) (Same.refl _) (.int _)
    · have hn2 : xs.length = gs.length := hlen
      rw [hn2, fm_map] at tacc
      have hrr : gs.map (fun g => PyData.int (restB g b)) = (gs.map (restB · b)).map PyData.int := by rw [List.map_map]; rfl
      rw [hrr] at tacc
      have eacc := tpa_ints tacc
      subst eacc
      obtain ⟨g0, gr, hg0⟩ : ∃ g0 gr, gs = g0 :: gr := by
        cases gs with
        | nil => exact absurd rfl hne
        | cons g0 gr => exact ⟨g0, gr, rfl⟩
      walk_at "go"
      refine ⟨D, gs.map (restB · b), rfl, sql hacc, by rw [List.length_map]; exact List.length_pos_iff.mpr hne, fun m hm hle => ?_⟩
      have em : m = minI (gs.map (restB · b)) := by
        have := minI_mem (restB g0 b) (gr.map (restB · b))
        rw [← List.map_cons (f := (restB · b)), ← hg0] at this
        have q1 := hle _ this.1
        have q2 := this.2 m hm
        omega
      subst em
      walk_at "go"
      refine ⟨_, rfl, D, _, rfl, sql hacc, fun D2 hD2 => ?_⟩
      refine lc_tp walk_enum (fun i => if ((gs.map (restB · b))[i]? == some (minI (gs.map (restB · b)))) = true then some (.int (i : Int)) else none) hD2 (by rw [List.length_map, List.length_map]; omega) (fun H' s' => sql (s' _ _ hacc)) (fun i x H2 H3 Kb Kf hi s2 y kb kf => ?_) (fun H2 acc2 s2 hacc2 tacc2 => ?_)
      · obtain ⟨T', u, v, rfl, hT, rfl, hu, hv⟩ := y
        have hu := Option.some.inj hu
        subst hu
        replace hv : ((gs.map (restB · b)).map V.int)[i]? = some v := hv
        rw [List.getElem?_map] at hv
        cases hri : (gs.map (restB · b))[i]? with
        | none => rw [hri] at hv; cases hv
        | some r =>
          rw [hri] at hv
          have hv : V.int r = v := Option.some.inj hv
          subst hv
          refine x_gtup upd_same rfl ?_
          walk_at "go"
          refine ⟨rfl, ?_⟩
          walk_at "go"
          refine x_dec (fun c => ?_) (fun c => ?_)
          · walk_at "go"
            exact kb _ _ _ (by rw [hri, c, if_pos (by simp)]) (same_new hT) (.int _)
          · exact kf _ (by rw [hri, if_neg (by simpa using c)]) (same_new hT)
      · rw [List.length_map, List.length_map, fm_filter] at tacc2
        have hii : ∀ l : List Nat, l.map (fun i : Nat => PyData.int (i : Int)) = (l.map fun i : Nat => (i : Int)).map PyData.int := fun l => by rw [List.map_map]; rfl
        rw [hii] at tacc2
        have e2 := tpa_ints tacc2
        subst e2
        walk_at "go"
        refine ⟨by show 2 ≤ sizeLine; decide, fun p hp => ?_⟩
        have pD : D2 ≠ p := ne_of_none hacc2 hp
        refine k p D2 _ ((s1.trans s2).trans (same_new hp)) upd_same ?_
        rw [upd_ne pD, hacc2, List.map_map]
        rfl

theorem ipow (n : Nat) : (2 : Int) ^ n = ((2 ^ n : Nat) : Int) := by rw [Int.natCast_pow]; rfl
theorem ipow_le {m n : Nat} (h : m ≤ n) : (2 : Int) ^ m ≤ 2 ^ n := by rw [ipow, ipow]; exact Int.ofNat_le.mpr (Nat.pow_le_pow_right (by decide) h)
theorem ipow_lt {m n : Nat} (h : m < n) : (2 : Int) ^ m < 2 ^ n := by rw [ipow, ipow]; exact Int.ofNat_lt.mpr (Nat.pow_lt_pow_right (by decide) h)
def sp_total : Sp := fun vs H Q _ => ∃ (a : Addr) (xs : List V) (fs : List (Int × Int)), vs = [.ref a] ∧ H a = some (.lst xs) ∧ TpAll H xs (fs.map goD) ∧ fs.length ≤ 200 ∧ (∀ f ∈ fs, f.1 = 1 ∧ 0 < f.2 ∧ f.2 < 1073741824) ∧
  ∀ p H', Same H H' → H' p = some (.tup [.int (tot fs).1, .int (tot fs).2]) → Q (.ref p) H'
theorem tot_bd : ∀ (fs : List (Int × Int)) (f : Int × Int) (n : Nat), (∀ f ∈ fs, f.1 = 1 ∧ 0 < f.2 ∧ f.2 < 1073741824) → 0 ≤ f.1 → 0 < f.2 → f.2 ≤ 2 ^ n → 0 ≤ (fs.foldl totStep f).1 ∧ 0 < (fs.foldl totStep f).2 ∧ (fs.foldl totStep f).2 ≤ 2 ^ (n + 30 * fs.length)
  | [], f, n, _, h1, h2, h3 => ⟨h1, h2, by simpa using h3⟩
  | x :: r, f, n, hf, h1, h2, h3 => by
    obtain ⟨x1, x2, x3⟩ := hf x List.mem_cons_self
    have g0 : 0 ≤ f.1 * x.2 + x.1 * f.2 := by
      rw [x1, Int.one_mul]
      have := Int.mul_nonneg h1 (Int.le_of_lt x2)
      omega
    have g1 : 0 < f.2 * x.2 := Int.mul_pos h2 x2
    have r1 := (frac_red g0 g1).1
    have g2 : (frac (f.1 * x.2 + x.1 * f.2) (f.2 * x.2)).2 ≤ f.2 * x.2 := Int.ediv_le_self _ (Int.le_of_lt g1)
    have g3 : f.2 * x.2 ≤ 2 ^ n * 2 ^ 30 := Int.mul_le_mul h3 (by omega) (Int.le_of_lt x2) (by exact Int.le_of_lt (Int.pow_pos (by decide)))
    rw [← Int.pow_add] at g3
    have := tot_bd r (totStep f x) (n + 30) (fun y hy => hf y (List.mem_cons_of_mem _ hy)) r1.top r1.bot (Int.le_trans g2 g3)
    rw [List.foldl_cons]
    refine ⟨this.1, this.2.1, ?_⟩
    have e : n + 30 + 30 * r.length = n + 30 * (x :: r).length := by rw [List.length_cons]; omega
    rw [← e]
    exact this.2.2
theorem take_snoc {α : Type} {l : List α} {i : Nat} {x : α} (h : l[i]? = some x) : l.take (i + 1) = l.take i ++ [x] := by
  rw [List.take_add_one, h]
  rfl
/-- slots of total: 0 fractions 1 found 2 top 3 bottom -/
abbrev s_total : Stmt := top 10
theorem sc_total : FnScope ["fractions", "found", "top", "bottom"] ["fractions"] (defScope s_total) := ⟨rfl, rfl, rfl, by decide +kernel, rfl, by decide +kernel, by decide +kernel⟩
theorem ok_total {f ffr : Addr} {fd fdr : FuncData} (T : BtT mg t1 t2) (F : Fun K "total" "total" s_total f fd) (D_fraction : FC P w K mg base 2 "fraction" ["top", "bottom"] sp_fraction ffr fdr) : FnOk P w K mg base CX0 3 f fd ["fractions"] sp_total := by
  refine F.ok sc_total (fun vs H Q E h => ?_) (fun cdv A outer s H vs Q E hr h => ?_)
  · obtain ⟨_, _, _, rfl, _⟩ := h
    rfl
  · obtain ⟨a, xs, fs, rfl, ha, ta, hsz, hfs, k⟩ := h
    have hlen := tpa_len ta
    rw [List.length_map] at hlen
    refine ⟨_, (pss_cons (ps_set (i := 1) sc_total.nd rfl (Or.inl rfl) (pe_tup (pa_cons pe_int (pa_cons pe_int pa_nil))))
      (pss_cons (ps_for PassesOwn.never rfl (pi_list (pv 0)) (pg_tup (n := 2) rfl (pgs_cons (pg_name (i := 2) sc_total.nd rfl (Or.inl rfl)) (pgs_cons (pg_name (i := 3) sc_total.nd rfl (Or.inl rfl)) pgs_nil))) (pss_one (ps_set (i := 1) sc_total.nd rfl (Or.inl rfl) (pe_f D_fraction hr (by decide) (pa_cons (pe_op op_add (pe_op op_mul (pe_ix (kIxT (K := K) rfl) (pv 1) pe_int (fun _ _ => rfl)) (pv 3)) (pe_op op_mul (pv 2) (pe_ix (kIxT (K := K) rfl) (pv 1) pe_int (fun _ _ => rfl)))) (pa_cons (pe_op op_mul (pe_ix (kIxT (K := K) rfl) (pv 1) pe_int (fun _ _ => rfl)) (pv 3)) pa_nil))))))
      (pss_one (ps_ret (pv 1))))), ?_⟩
    walk_at "go"
    refine ⟨by show 2 ≤ sizeLine; decide, fun p hp => ?_⟩
    walk_at "go"
    refine ⟨_, rfl, a, rfl, ⟨_, sql ((same_new hp) _ _ ha)⟩, ?_⟩
    refine for_it walk_list (fun i σ H' => ∃ (q : Addr) (u v : Option V), σ = [some (.ref a), some (.ref q), u, v] ∧ Same H H' ∧ H' q = some (.tup [.int (tot (fs.take i)).1, .int (tot (fs.take i)).2])) ⟨p, none, none, rfl, same_new hp, upd_same⟩ (fun i σ H' _ ⟨q, u, v, _, s, _⟩ => sql (s _ _ ha)) (fun i x σ H1 H2 hi ⟨q, u, v, es, s, hq⟩ y => ?_) (fun σ H1 ⟨q, u, v, es, s, hq⟩ => ?_)
    · subst es
      obtain ⟨rfl, hx⟩ := y
      obtain ⟨d, hd, tx⟩ := tpa_get ta hx
      rw [List.getElem?_map] at hd
      cases hg : fs[i]? with
      | none => rw [hg] at hd; cases hd
      | some g =>
        rw [hg] at hd
        have hd := Option.some.inj hd
        subst hd
        obtain ⟨px, rfl, hpx⟩ := tp_go (tp_keep (kp_same s) tx)
        obtain ⟨x1, x2, x3⟩ := hfs g (List.mem_of_getElem? hg)
        have bd := tot_bd (fs.take i) (0, 1) 0 (fun y hy => hfs y (List.mem_of_mem_take hy)) (Int.le_refl 0) (by decide) (by decide)
        have hti : (fs.take i).length ≤ 200 := by rw [List.length_take]; omega
        change 0 ≤ (tot (fs.take i)).1 ∧ 0 < (tot (fs.take i)).2 ∧ (tot (fs.take i)).2 ≤ 2 ^ (0 + 30 * (fs.take i).length) at bd
        have e1 : tot (fs.take (i + 1)) = totStep (tot (fs.take i)) g := by
          rw [take_snoc hg]
          unfold tot
          rw [List.foldl_append]
          rfl
        have g0 : 0 ≤ (tot (fs.take i)).1 * g.2 + g.1 * (tot (fs.take i)).2 := by
          rw [x1, Int.one_mul]
          have := Int.mul_nonneg bd.1 (Int.le_of_lt x2)
          omega
        have g1 : 0 < (tot (fs.take i)).2 * g.2 := Int.mul_pos bd.2.1 x2
        have g9 : (tot (fs.take i)).2 * g.2 ≤ 2 ^ 6000 * 2 ^ 30 := by
          refine Int.mul_le_mul (Int.le_trans bd.2.2 ?_) (by omega) (Int.le_of_lt x2) (Int.le_of_lt (Int.pow_pos (by decide)))
          exact ipow_le (by omega)
        have g8 : ((tot (fs.take i)).2 * g.2).natAbs < 2 ^ 8000 := by
          have g7 : (2 : Int) ^ 6000 * 2 ^ 30 < 2 ^ 8000 := by rw [← Int.pow_add]; exact ipow_lt (by decide)
          have g6 : ((2 ^ 8000 : Nat) : Int) = (2 : Int) ^ 8000 := (ipow _).symm
          generalize (tot (fs.take i)).2 * g.2 = Z at *
          generalize (2 : Int) ^ 6000 * 2 ^ 30 = Y at *
          generalize (2 : Int) ^ 8000 = W at *
          generalize (2 : Nat) ^ 8000 = U at *
          omega
        walk_at "go"
        refine x_mulR (by omega) (by omega) ?_
        walk_at "go"
        refine x_mulL (by omega) (by omega) ?_
        walk_at "go"
        refine x_mulR (by omega) (by omega) ?_
        walk_at "go"
        refine ⟨_, _, rfl, g0, g1, g8, fun q2 H2 s2 hq2 => ?_⟩
        refine ⟨q2, _, _, rfl, s.trans s2, ?_⟩
        rw [e1]
        exact hq2
    · subst es
      walk_at "go"
      rw [List.take_of_length_le (by omega)] at hq
      exact k q H1 s hq
end
end Sl

set_option Elab.async false
set_option linter.all false
set_option maxRecDepth 100000
set_option maxHeartbeats 4000000
/-! More steps: methods of lists, dicts, fields, loops over data. -/
namespace Sl
open PySem L2
theorem kIsi {X : Cx} {K : PySem.W.Frag} (h : X.K = K) : CallR X (.builtin "isinstance") (rIsi K) := h ▸ call_isi
section
variable {σ : L2.St} {H : Hp} {Q : VK} {D : Ends} {t u : TS} {ta tb te : TE} {v x y : V} {i : Nat} {tc : TT} {tr : TA} {r : R2} {K : PySem.W.Frag}
theorem x_bm {T : String} {rr : V → List V → Hp → VK → Prop} (h : te σ H fun x H1 => tyV K T x H1 ∧ tr σ H1 fun xs H2 => rr x xs H2 Q) : tBM K T rr te tr σ H Q := h
theorem x_tyl {a : Addr} {xs : List V} {N : Prop} (ha : H a = some (.lst xs)) (h : N) : tyV K "list" (.ref a) H ∧ N := ⟨.inl ⟨rfl, xs, sql ha⟩, h⟩
theorem x_app {a : Addr} {xs : List V} (ha : H a = some (.lst xs)) (hz : xs.length < sizeLine) (h : Q .non (upd H a (.lst (xs ++ [y])))) : rAppend (.ref a) [y] H Q := ⟨a, xs, y, rfl, rfl, ha, hz, h⟩
theorem x_ext {a b : Addr} {xs zs : List V} (ha : H a = some (.lst xs)) (hb : H b = some (.lst zs)) (hz : xs.length + zs.length ≤ sizeLine) (h : Q .non (upd H a (.lst (xs ++ zs)))) : rExtend (.ref a) [.ref b] H Q := ⟨a, b, xs, zs, rfl, rfl, ha, hb, hz, h⟩
theorem x_dget (h : ta σ H fun x H1 => tb σ H1 fun y H2 => ∃ a v, x = .ref a ∧ DGet H2 a y (some v) ∧ Q v H2) : tDGet ta tb σ H Q := h
theorem x_dgK {a : Addr} {kvs : List (Key × V)} {k : Key} {N : V → Prop} (ha : H a = some (.dK kvs)) (hk : valV kvs k = some v) (h : N v) : ∃ b w, V.ref a = .ref b ∧ DGet H b (kV k) (some w) ∧ N w := ⟨a, v, rfl, hk ▸ DGet.k ha, h⟩
theorem x_dset {ty tx : TE} {td : TE} (h : td σ H fun x H1 => ∃ a, x = .ref a ∧ IsD H1 a ∧ ty σ H1 fun y H2 => tx σ H2 fun z H3 => ∃ (kvs : List (Key × V)) (k : Key), H3 a = some (.dK kvs) ∧ y = kV k ∧ kvs.length < sizeLine ∧
  (∀ v, valV kvs k = some v → Q v H3) ∧ (valV kvs k = none → Q z (upd H3 a (.dK (putK kvs k z))))) : tDSetd td ty tx σ H Q := h
theorem x_isD {a : Addr} {kvs : List (Key × V)} {N : Addr → Prop} (ha : H a = some (.dK kvs)) (h : N a) : ∃ b, V.ref a = .ref b ∧ IsD H b ∧ N b := ⟨a, rfl, .inl ⟨kvs, .inl ha⟩, h⟩
theorem x_fld {f : Str} (h : te σ H fun x H1 => ∃ a C dx fs v, x = .ref a ∧ H1 a = some (.ins C dx fs) ∧ Cls K C ∧ NoAttr K C f ∧ fs.lookup f = some v ∧ Q v H1) : tFld K te f σ H Q := h
theorem x_fldI {a C dx : Addr} {fs : List (Str × V)} {f : Str} {N : V → Prop} (ha : H a = some (.ins C dx fs)) (c : Cls K C) (n : NoAttr K C f) (l : fs.lookup f = some v) (h : N v) : ∃ b C' dx' fs' w, V.ref a = .ref b ∧ H b = some (.ins C' dx' fs') ∧ Cls K C' ∧ NoAttr K C' f ∧ fs'.lookup f = some w ∧ N w := ⟨a, C, dx, fs, v, rfl, ha, c, n, l, h⟩
theorem x_sfld {f : Str} (h : tb σ H fun y H1 => ta σ H1 fun x H2 => ∃ a C dx fs, x = .ref a ∧ H2 a = some (.ins C dx fs) ∧ Cls K C ∧ NoAttr K C f ∧ fs.length < 1000 ∧ D.nx σ (upd H2 a (.ins C dx (putF f y fs)))) : sFld K ta tb f D σ H := h
theorem x_sfldI {a C dx : Addr} {fs : List (Str × V)} {f : Str} {N : Addr → Addr → Addr → List (Str × V) → Prop} (ha : H a = some (.ins C dx fs)) (c : Cls K C) (n : NoAttr K C f) (l : fs.length < 1000) (h : N a C dx fs) : ∃ b C' dx' fs', V.ref a = .ref b ∧ H b = some (.ins C' dx' fs') ∧ Cls K C' ∧ NoAttr K C' f ∧ fs'.length < 1000 ∧ N b C' dx' fs' := ⟨a, C, dx, fs, rfl, ha, c, n, l, h⟩
theorem x_dput {td ty tv : TE} (h : tv σ H fun v H1 => td σ H1 fun x H2 => ty σ H2 fun y H3 => ∃ a H4, x = .ref a ∧ DPut H3 a y v H4 ∧ D.nx σ H4) : sDPut td ty tv D σ H := h
theorem x_faug {f : Str} {rd : V → V → Hp → VK → Prop} (h : ta σ H fun x H1 => ∃ a C dx fs v, x = .ref a ∧ H1 a = some (.ins C dx fs) ∧ Cls K C ∧ NoAttr K C f ∧ fs.lookup f = some v ∧
  tb σ H1 fun y H2 => rd v y H2 fun z H3 => ∃ dx' fs', H3 a = some (.ins C dx' fs') ∧ fs'.length < 1000 ∧ D.nx σ (upd H3 a (.ins C dx' (putF f z fs')))) : sFldAug K ta tb rd f D σ H := h
theorem x_faugI {a C dx : Addr} {fs : List (Str × V)} {f : Str} {N : Addr → Addr → V → Prop} (ha : H a = some (.ins C dx fs)) (c : Cls K C) (n : NoAttr K C f) (l : fs.lookup f = some v) (h : N a C v) : ∃ b C' dx' fs' w, V.ref a = .ref b ∧ H b = some (.ins C' dx' fs') ∧ Cls K C' ∧ NoAttr K C' f ∧ fs'.lookup f = some w ∧ N b C' w := ⟨a, C, dx, fs, v, rfl, ha, c, n, l, h⟩
theorem x_add {i j : Int} (h : Q (.int (i + j)) H) : rAdd (.int i) (.int j) H Q := ⟨i, j, rfl, rfl, h⟩
theorem x_items {R : It → Hp → Prop} (h : te σ H fun x H1 => ∃ d o kvs, x = .ref d ∧ H1 d = some (.frz o (.dK kvs)) ∧ R (Iti d o kvs) H1) : iItems te σ H R := h
theorem x_itemsI {d : Addr} {o : Obj} {kvs : List (Key × V)} {N : Addr → Obj → List (Key × V) → Prop} (ha : H d = some (.frz o (.dK kvs))) (h : N d o kvs) : ∃ d' o' kvs', V.ref d = .ref d' ∧ H d' = some (.frz o' (.dK kvs')) ∧ N d' o' kvs' := ⟨d, o, kvs, rfl, ha, h⟩
theorem x_meth {C : Addr} {m : Str} {sp : Sp} {dvs : List V} {E : XK} (h : te σ H fun x H1 => ∃ a dx fs, x = .ref a ∧ H1 a = some (.ins C dx fs) ∧ fs.lookup m = none ∧ tr σ H1 fun vs H2 => sp (x :: (vs ++ dvs)) H2 Q E) : tMeth C m sp dvs E te tr σ H Q := h
theorem x_methI {a C dx : Addr} {fs : List (Str × V)} {m : Str} {N : Prop} (ha : H a = some (.ins C dx fs)) (l : fs.lookup m = none) (h : N) : ∃ b dx' fs', V.ref a = .ref b ∧ H b = some (.ins C dx' fs') ∧ fs'.lookup m = none ∧ N := ⟨a, dx, fs, rfl, ha, l, h⟩
theorem x_make {C : Addr} {sp : Sp} {dvs : List V} {E : XK} (h : tr σ H fun vs H1 => ∀ x dx, H1 x = none → H1 dx = none → dx ≠ x → sp (.ref x :: (vs ++ dvs)) (upd (upd H1 dx (.own x)) x (.ins C dx [])) (fun v H2 => v = .non ∧ Q (.ref x) H2) E) : tMake C sp dvs E tr σ H Q := h
theorem x_andV (h : ta σ H fun x H1 => ∃ c, x = .bl c ∧ if c = true then tb σ H1 Q else Q (.bl false) H1) : tAndV ta tb σ H Q := h
theorem x_orV (h : ta σ H fun x H1 => ∃ c, x = .bl c ∧ if c = true then Q (.bl true) H1 else tb σ H1 Q) : tOrV ta tb σ H Q := h
theorem x_notV (h : ta σ H fun x H1 => ∃ c, x = .bl c ∧ Q (.bl (!c)) H1) : tNotV ta σ H Q := h
theorem x_chain {r r' : R2} (h : ta σ H fun x H1 => tb σ H1 fun y H2 => r x y H2 fun z H3 => ∃ k, z = .bl k ∧ (if k = true then te σ H3 fun w' H4 => r' y w' H4 Q else Q (.bl false) H3)) : tChain r r' ta tb te σ H Q := h
theorem x_notT {Qb : Bool → Hp → Prop} (h : tc σ H fun c H1 => Qb (!c) H1) : tNot tc σ H Qb := h
theorem x_andT {td : TT} {Qb : Bool → Hp → Prop} (h : tc σ H fun c H1 => if c = true then td σ H1 Qb else Qb false H1) : tAnd tc td σ H Qb := h
theorem x_orT {td : TT} {Qb : Bool → Hp → Prop} (h : tc σ H fun c H1 => if c = true then Qb true H1 else td σ H1 Qb) : tOr tc td σ H Qb := h
theorem x_tB {Qb : Bool → Hp → Prop} (h : te σ H fun x H1 => ∃ c, x = .bl c ∧ Qb c H1) : tB te σ H Qb := h
theorem iteNT {A B : Prop} (h : B) : if (!true) = true then A else B := iteF h
theorem iteNF {A B : Prop} (h : A) : if (!false) = true then A else B := iteT h
theorem x_isi {T T2 : String} {b : Bool} (ty : TyOf K H v (.type T)) (hk : kitB T T2 = some b) (h : Q (.bl b) H) : rIsi K [v, .ty T2] H Q := ⟨v, .ty T2, .type T, .type T2, b, rfl, .ty _, .base ty, hk, h⟩
theorem x_isiI {i : Int} (h : Q (.bl true) H) : rIsi K [.int i, .ty "int"] H Q := x_isi (.int i) (by decide +kernel) h
theorem x_isiB {i : Int} (h : Q (.bl false) H) : rIsi K [.int i, .ty "bool"] H Q := x_isi (.int i) (by decide +kernel) h
theorem x_isiL {a : Addr} {xs : List V} (ha : H a = some (.lst xs)) (h : Q (.bl true) H) : rIsi K [.ref a, .ty "list"] H Q := x_isi (.lst ha) (by decide +kernel) h
theorem x_dtrue {c A B : Prop} [Decidable c] (hc : c) (h : A) : if decide c = true then A else B := by rw [decide_eq_true hc, if_pos rfl]; exact h
theorem x_dfalse {c A B : Prop} [Decidable c] (hc : ¬ c) (h : B) : if decide c = true then A else B := by rw [decide_eq_false hc, if_neg Bool.false_ne_true]; exact h
theorem x_lct {a : Addr} {xs : List V} {N : Addr → Prop} (ha : H a = some (.lst xs)) (h : N a) : ∃ b, V.ref a = .ref b ∧ (∃ xs, SqL K H b xs) ∧ N b := ⟨a, rfl, ⟨xs, sql ha⟩, h⟩
theorem x_tct {a : Addr} {xs : List V} {N : Addr → Prop} (ha : H a = some (.tup xs)) (h : N a) : ∃ b, V.ref a = .ref b ∧ (∃ xs, SqT K H b xs) ∧ N b := ⟨a, rfl, ⟨xs, sqt ha⟩, h⟩
theorem x_iL {R : It → Hp → Prop} (h : te σ H fun x H1 => ∃ a, x = .ref a ∧ (∃ xs, SqL K H1 a xs) ∧ R (Itl K a) H1) : iList K te σ H R := h
theorem x_iT {R : It → Hp → Prop} (h : te σ H fun x H1 => ∃ a, x = .ref a ∧ (∃ xs, SqT K H1 a xs) ∧ R (Itt K a) H1) : iTup K te σ H R := h
theorem x_dK (h : ∀ p, H p = none → Q (.ref p) (upd H p (.dK []))) : tDNewK σ H Q := h
theorem x_dT (h : ∀ p, H p = none → Q (.ref p) (upd H p (.dT []))) : tDNewT σ H Q := h
end
theorem sq_ne {H : Hp} {a b : Addr} {u : HO} (h : H a = some u) (hb : H b = none) : a ≠ b := ne_of_none h hb
theorem hu_of {k : Nat} {A : Around} (r : Room k A) : A.units + 1 < cLine := by have := r.units; omega
theorem len0 : ([] : List V).length ≤ sizeLine := Nat.zero_le _
theorem len1 {x : V} : [x].length ≤ sizeLine := by show 1 ≤ sizeLine; decide
theorem len2 {x y : V} : [x, y].length ≤ sizeLine := by show 2 ≤ sizeLine; decide
theorem len3 {x y z : V} : [x, y, z].length ≤ sizeLine := by show 3 ≤ sizeLine; decide
/-- a comprehension whose items are data, over a list or tuple of data -/
theorem data_at {α : Type} {H : Hp} {xs : List V} {as : List α} {f : α → PyData} (t : TpAll H xs (as.map f)) {i : Nat} {x : V} (h : xs[i]? = some x) : ∃ a, as[i]? = some a ∧ Tp H x (f a) := by
  obtain ⟨d, hd, tx⟩ := tpa_get t h
  rw [List.getElem?_map] at hd
  cases hg : as[i]? with
  | none => rw [hg] at hd; cases hd
  | some a =>
    rw [hg] at hd
    have hd := Option.some.inj hd
    subst hd
    exact ⟨a, rfl, tx⟩
theorem data_len {α : Type} {H : Hp} {xs : List V} {as : List α} {f : α → PyData} (t : TpAll H xs (as.map f)) : xs.length = as.length := by
  have := tpa_len t
  rwa [List.length_map] at this
theorem tp_stt {H : Hp} {v : V} {n : Str} {r : Int} (h : Tp H v (prD (n, r))) : ∃ p, v = .ref p ∧ H p = some (.tup [.str n, .int r]) := by
  obtain ⟨p, x, y, rfl, hp, h1, h2⟩ := tp_pair h
  rw [tp_str h1, tp_int h2] at hp
  exact ⟨p, rfl, hp⟩
def stD (st : List (Str × Int)) : PyData := .tuple (st.map prD)
def grD (g : Int × Nm) : PyData := .tuple [.int g.1, nmD g.2]
theorem tp_st {H : Hp} {v : V} {st : List (Str × Int)} (h : Tp H v (stD st)) : ∃ p xs, v = .ref p ∧ H p = some (.tup xs) ∧ TpAll H xs (st.map prD) := tp_tup h
theorem mk_pr {H : Hp} {p : Addr} {n : Str} {r : Int} (h : H p = some (.tup [.str n, .int r])) : Tp H (.ref p) (prD (n, r)) := mk_pair h (.str _) (.int _)
theorem mk_st {H : Hp} {p : Addr} {xs : List V} {st : List (Str × Int)} (h : H p = some (.tup xs)) (t : TpAll H xs (st.map prD)) : Tp H (.ref p) (stD st) := .tup h t
theorem tp_gr {H : Hp} {v : V} {g : Int × Nm} (h : Tp H v (grD g)) : ∃ p q, v = .ref p ∧ H p = some (.tup [.int g.1, .ref q]) ∧ H q = some (.tup (g.2.map V.str)) := by
  obtain ⟨p, x, y, rfl, hp, h1, h2⟩ := tp_pair h
  obtain ⟨q, rfl, hq⟩ := tp_nm h2
  rw [tp_int h1] at hp
  exact ⟨p, q, rfl, hp, hq⟩
theorem sz100 {n : Nat} (h : n ≤ 100000) : n ≤ sizeLine := by rw [sizeLine_eq]; omega
theorem sz100' {n : Nat} (h : n < 100000) : n < sizeLine := by rw [sizeLine_eq]; omega

section
variable {σ : L2.St} {H : Hp} {Q : VK} {D : Ends} {K : PySem.W.Frag} {α : Type} {as : List α} {f : α → PyData} {a : Addr} {xs : List V} {g : TG} {tt : TT} {te : TE} {tb : TS} {vs : List Nat} {C : Addr} {Qd : Hp → Prop}
theorem x_lc {wi : TI} (h : wi σ H fun J H1 => ∀ D, H1 D = none → ∃ W : Nat → Nat → Hp → Prop, (∃ m, W 0 m (upd H1 D (.lst []))) ∧ ∀ i m H, W i m H →
  (J.stop i H ∧ Q (.ref D) H) ∨ (J.go i H ∧ ∃ Nx : Hp → Prop, (∀ H', Nx H' → ∃ m', m' < m ∧ W (i + 1) m' H') ∧ ∀ x H', J.yld i H x H' → g x (wipe σ vs) H' fun σ2 H2 => wipe σ2 vs = wipe σ vs ∧ tt σ2 H2 fun b H3 =>
    if b = true then te σ2 H3 fun y H4 => ∃ acc, H4 D = some (.lst acc) ∧ acc.length < sizeLine ∧ Nx (upd H4 D (.lst (acc ++ [y]))) else Nx H3)) : tLc wi g tt te vs σ H Q := h
theorem x_for {wi : TI} (h : wi σ H fun J H1 => ∃ W : Nat → Nat → L2.St → Hp → Prop, (∃ m, W 0 m σ H1) ∧ ∀ i m σ H, W i m σ H →
  (J.stop i H ∧ D.nx σ H) ∨ (J.go i H ∧ ∃ N : L2.St → Hp → Prop, (∀ σ' H', N σ' H' → ∃ m', m' < m ∧ W (i + 1) m' σ' H') ∧ ∀ x H', J.yld i H x H' → g x σ H' fun σ2 H2 => tb { D with nx := N, ct := N, bk := D.nx } σ2 H2)) : tFor wi g tb D σ H := h
theorem fm_some {α β : Type} {l : List α} (h : α → β) : l.filterMap (fun e => some (h e)) = l.map h := congrFun (List.filterMap_eq_map (f := h)) l
theorem fm_bind {α : Type} {l : List α} {ds : α → Option PyData} : (List.range l.length).filterMap (fun i => l[i]?.bind ds) = l.filterMap ds := fm_list ds l
section
variable (ta : TpAll H xs (as.map f)) (hl : as.length ≤ 100000) (ds : α → Option PyData) (hC : H C = none)
  (hs : ∀ (e : α) x H2 (Kb : V → Hp → Prop) (Kf : Hp → Prop), e ∈ as → Same H H2 → Tp H2 x (f e) → (∀ y H4 d, ds e = some d → Same H2 H4 → Tp H4 y d → Kb y H4) → (∀ H3, ds e = none → Same H2 H3 → Kf H3) →
    g x (wipe σ vs) H2 fun σ2 H2 => wipe σ2 vs = wipe σ vs ∧ tt σ2 H2 fun b H3 => if b = true then te σ2 H3 Kb else Kf H3)
  (hd : ∀ H' acc, Same H H' → H' C = some (.lst acc) → TpAll H' acc (as.filterMap ds) → Qd H')
include ta hl hC hs hd
theorem lc_list (ha : H a = some (.lst xs)) : ∃ W : Nat → Nat → Hp → Prop, (∃ m, W 0 m (upd H C (.lst []))) ∧ ∀ i m H, W i m H →
      ((Itl K a).stop i H ∧ Qd H) ∨ ((Itl K a).go i H ∧ ∃ Nx : Hp → Prop, (∀ H', Nx H' → ∃ m', m' < m ∧ W (i + 1) m' H') ∧ ∀ x H', (Itl K a).yld i H x H' → g x (wipe σ vs) H' fun σ2 H2 => wipe σ2 vs = wipe σ vs ∧ tt σ2 H2 fun b H3 =>
        if b = true then te σ2 H3 fun y H4 => ∃ acc, H4 C = some (.lst acc) ∧ acc.length < sizeLine ∧ Nx (upd H4 C (.lst (acc ++ [y]))) else Nx H3) := by
  have hlen := data_len ta
  refine lc_tp walk_list (fun i => as[i]?.bind ds) hC (by omega) (fun H' s' => sql (s' _ _ ha)) (fun i x H1 H2 Kb Kf hi s1 y kb kf => ?_) (fun H1 acc s1 hacc tacc => ?_)
  · obtain ⟨rfl, hx⟩ := y
    obtain ⟨e, he, tx⟩ := data_at ta hx
    exact hs e x _ Kb Kf (List.mem_of_getElem? he) s1 (tp_keep (kp_same s1) tx) (fun y H4 d h => kb y H4 d (by rw [he]; exact h)) fun H3 h => kf H3 (by rw [he]; exact h)
  · rw [hlen, fm_bind] at tacc
    exact hd H1 acc s1 hacc tacc
theorem lc_tup (ha : H a = some (.tup xs)) : ∃ W : Nat → Nat → Hp → Prop, (∃ m, W 0 m (upd H C (.lst []))) ∧ ∀ i m H, W i m H →
      ((Itt K a).stop i H ∧ Qd H) ∨ ((Itt K a).go i H ∧ ∃ Nx : Hp → Prop, (∀ H', Nx H' → ∃ m', m' < m ∧ W (i + 1) m' H') ∧ ∀ x H', (Itt K a).yld i H x H' → g x (wipe σ vs) H' fun σ2 H2 => wipe σ2 vs = wipe σ vs ∧ tt σ2 H2 fun b H3 =>
        if b = true then te σ2 H3 fun y H4 => ∃ acc, H4 C = some (.lst acc) ∧ acc.length < sizeLine ∧ Nx (upd H4 C (.lst (acc ++ [y]))) else Nx H3) := by
  have hlen := data_len ta
  refine lc_tp walk_tup (fun i => as[i]?.bind ds) hC (by omega) (fun H' s' => sqt (s' _ _ ha)) (fun i x H1 H2 Kb Kf hi s1 y kb kf => ?_) (fun H1 acc s1 hacc tacc => ?_)
  · obtain ⟨rfl, hx⟩ := y
    obtain ⟨e, he, tx⟩ := data_at ta hx
    exact hs e x _ Kb Kf (List.mem_of_getElem? he) s1 (tp_keep (kp_same s1) tx) (fun y H4 d h => kb y H4 d (by rw [he]; exact h)) fun H3 h => kf H3 (by rw [he]; exact h)
  · rw [hlen, fm_bind] at tacc
    exact hd H1 acc s1 hacc tacc
end
section
variable (ta : TpAll H xs (as.map f)) (Pv : Nat → L2.St → Hp → Prop) (h0 : Pv 0 σ H)
  (hs : ∀ i (e : α) x σ2 H2, as[i]? = some e → Pv i σ2 H2 → Tp H2 x (f e) → g x σ2 H2 fun σ3 H3 => tb { D with nx := Pv (i + 1), ct := Pv (i + 1), bk := D.nx } σ3 H3)
  (hd : ∀ σ2 H2, Pv as.length σ2 H2 → D.nx σ2 H2)
include ta h0 hs hd
theorem for_list (ha : H a = some (.lst xs)) (hk : ∀ i σ2 H2, Pv i σ2 H2 → H2 a = some (.lst xs) ∧ Kp H H2) : ∃ W : Nat → Nat → L2.St → Hp → Prop, (∃ m, W 0 m σ H) ∧ ∀ i m σ H, W i m σ H →
      ((Itl K a).stop i H ∧ D.nx σ H) ∨ ((Itl K a).go i H ∧ ∃ N : L2.St → Hp → Prop, (∀ σ' H', N σ' H' → ∃ m', m' < m ∧ W (i + 1) m' σ' H') ∧ ∀ x H', (Itl K a).yld i H x H' → g x σ H' fun σ2 H2 => tb { D with nx := N, ct := N, bk := D.nx } σ2 H2) := by
  have hlen := data_len ta
  refine for_it walk_list Pv h0 (fun i σ H' _ p => sql (hk i σ H' p).1) (fun i x σ H1 H2 hi p y => ?_) (fun σ H1 p => ?_)
  · obtain ⟨rfl, hx⟩ := y
    obtain ⟨e, he, tx⟩ := data_at ta hx
    exact hs i e x σ _ he p (tp_keep (hk _ _ _ p).2 tx)
  · rw [hlen] at p
    exact hd σ H1 p
theorem for_tup (ha : H a = some (.tup xs)) (hk : ∀ i σ2 H2, Pv i σ2 H2 → Kp H H2) : ∃ W : Nat → Nat → L2.St → Hp → Prop, (∃ m, W 0 m σ H) ∧ ∀ i m σ H, W i m σ H →
      ((Itt K a).stop i H ∧ D.nx σ H) ∨ ((Itt K a).go i H ∧ ∃ N : L2.St → Hp → Prop, (∀ σ' H', N σ' H' → ∃ m', m' < m ∧ W (i + 1) m' σ' H') ∧ ∀ x H', (Itt K a).yld i H x H' → g x σ H' fun σ2 H2 => tb { D with nx := N, ct := N, bk := D.nx } σ2 H2) := by
  have hlen := data_len ta
  refine for_it walk_tup Pv h0 (fun i σ H' _ p => sqt (hk i σ H' p _ _ ha)) (fun i x σ H1 H2 hi p y => ?_) (fun σ H1 p => ?_)
  · obtain ⟨rfl, hx⟩ := y
    obtain ⟨e, he, tx⟩ := data_at ta hx
    exact hs i e x σ _ he p (tp_keep (hk _ _ _ p) tx)
  · rw [hlen] at p
    exact hd σ H1 p
end
end
theorem none_back {H H' : Hp} {p : Addr} (s : Same H H') (h : H' p = none) : H p = none := by
  cases hz : H p with
  | none => rfl
  | some u => rw [s _ _ hz] at h; cases h

/-! ### methods, classes in their place -/
structure MC (P : Program) (w : World) (K : PySem.W.Frag) (mg : Str → Option Value) (base : Heap) (C : Addr) (k : Nat) (m : Str) (ps : List Str) (sp : Sp) (f : Addr) (fd : FuncData) : Prop where
  ok : FnOk P w K mg base CX0 k f fd ps sp
  mt : Meth K C m f
  b : Binds K fd ps []
structure MK (P : Program) (w : World) (K : PySem.W.Frag) (mg : Str → Option Value) (base : Heap) (C : Addr) (k : Nat) (x : Str) (ps : List Str) (sp : Sp) (f : Addr) (fd : FuncData) : Prop where
  ok : FnOk P w K mg base CX0 k f fd ps sp
  mkk : Mk K C f
  b : Binds K fd ps []
  g : mg x = some (.ref C)
section
variable {X : Cx}
theorem pe_m {C : Addr} {k j : Nat} {m : Str} {ps : List Str} {sp : Sp} {f : Addr} {fd : FuncData} {o e : Expr} {es : List Expr} {ta : TE} {t : TA} {apos pos : Pos} {pl : Sem Bool} (he : PE X o ta) (c : Cls X.K C) (D : MC X.prog X.w X.K X.mg X.base C k m ps sp f fd) (hr : Room j X.A) (hj : k ≤ j) (ha : PA X (e :: es) t)
    (hst : starEach (e :: es) X.env = (false, eval e X.env) :: starEach es X.env := by rfl) (hpl : (backTo pos (starEach es X.env)).any (·.1) = false := by rfl)
    (ht : eval (.Call (.Attribute o m apos) (e :: es) [] pos) X.env = (do
      let ov ← eval o X.env
      standAt apos.atName
      let (f, first) ← holding [ov] (getMethod ov m pl)
      callWith pos f first (backTo pos (starEach (e :: es) X.env)) (backToKw pos (keywordEach [] X.env))) := by rfl) : PE X (.Call (.Attribute o m apos) (e :: es) [] pos) (tMeth C m sp [] E0 ta t) :=
  pe_meth he c D.mt D.ok (hr.mono hj) D.b .nil pass0 ha hst hpl ht
theorem pe_m0 {C : Addr} {k j : Nat} {m : Str} {ps : List Str} {sp : Sp} {f : Addr} {fd : FuncData} {o : Expr} {ta : TE} {apos pos : Pos} {pl : Sem Bool} (he : PE X o ta) (c : Cls X.K C) (D : MC X.prog X.w X.K X.mg X.base C k m ps sp f fd) (hr : Room j X.A) (hj : k ≤ j)
    (ht : eval (.Call (.Attribute o m apos) [] [] pos) X.env = (do
      let ov ← eval o X.env
      standAt apos.atName
      let (f, first) ← holding [ov] (getMethod ov m pl)
      callWith pos f first (backTo pos (starEach [] X.env)) (backToKw pos (keywordEach [] X.env))) := by rfl) : PE X (.Call (.Attribute o m apos) [] [] pos) (tMeth C m sp [] E0 ta tNil) :=
  pe_meth0 he c D.mt D.ok (hr.mono hj) D.b .nil pass0 ht
theorem pe_mk {C : Addr} {k j : Nat} {x : Str} {ps : List Str} {sp : Sp} {f : Addr} {fd : FuncData} {e : Expr} {es : List Expr} {t : TA} {p pos : Pos} (D : MK X.prog X.w X.K X.mg X.base C k x ps sp f fd) (hr : Room j X.A) (hj : k + 1 ≤ j) (ha : PA X (e :: es) t) (hg : Gl X x := by rfl)
    (hdb : (x == ("__debug__" : Str)) = false := by decide) (he : starEach (e :: es) X.env = (false, eval e X.env) :: starEach es X.env := by rfl) (hpl : (backTo pos (starEach es X.env)).any (·.1) = false := by rfl) :
    PE X (.Call (.Name x p) (e :: es) [] pos) (tMake C sp [] E0 t) := pe_make D.mkk D.ok (hr.mono hj) hg D.g D.b .nil pass0 ha hdb he hpl
end
end Sl

set_option Elab.async false
set_option linter.all false
set_option maxRecDepth 100000
set_option maxHeartbeats 4000000
/-! The walks: standings. -/
namespace Sl
open PySem L2
local macro_rules | `(tactic| walk_at "go1") => `(tactic| first
  | with_reducible refine x_seq ?_
  | with_reducible refine x_asg ?_
  | with_reducible refine x_name ?_
  | with_reducible refine x_ret ?_
  | with_reducible refine x_if ?_
  | ((with_reducible refine' x_var ?hv ?_); (case hv => rfl))
  | with_reducible refine x_c ?_
  | with_reducible refine' x_non ?_
  | with_reducible refine x_yes ?_
  | with_reducible refine' iteT ?_
  | with_reducible refine' iteF ?_
  | with_reducible refine x_op ?_
  | with_reducible refine x_I0 ?_
  | with_reducible refine x_test ?_
  | with_reducible refine' x_bl ?_
  | with_reducible refine x_eqI ?_
  | with_reducible refine x_neI ?_
  | with_reducible refine x_cons ?_
  | with_reducible refine x_nil ?_
  | with_reducible refine x_call ?_
  | with_reducible refine x_cb ?_
  | with_reducible refine x_par ?_
  | with_reducible refine x_par2 ?_
  | with_reducible refine x_gcons ?_
  | with_reducible refine x_gnil ?_
  | with_reducible refine x_next ?_
  | with_reducible refine x_drop ?_
  | with_reducible refine x_bm ?_
  | with_reducible refine x_fld ?_
  | with_reducible refine x_dget ?_
  | with_reducible refine x_lc ?_
  | with_reducible refine x_sfld ?_
  | with_reducible refine x_meth ?_
  | with_reducible refine x_dput ?_
  | with_reducible refine x_faug ?_
  | with_reducible refine x_add ?_
  | with_reducible refine x_items ?_
  | ((with_reducible refine' x_itemsI ?ha ?_); (case ha => assumption))
  | ((with_reducible refine' x_faugI ?ha ?hc ?hn ?hl ?_); (case ha => assumption); (case hc => assumption); (case hn => assumption); (case hl => rfl))
  | with_reducible refine x_make ?_
  | with_reducible refine x_andV ?_
  | with_reducible refine x_orV ?_
  | with_reducible refine x_notV ?_
  | with_reducible refine x_chain ?_
  | with_reducible refine x_notT ?_
  | with_reducible refine x_andT ?_
  | with_reducible refine x_orT ?_
  | with_reducible refine x_tB ?_
  | with_reducible refine' iteNT ?_
  | with_reducible refine' iteNF ?_
  | with_reducible refine x_isiI ?_
  | with_reducible refine x_isiB ?_
  | ((with_reducible refine' x_isiL ?ha ?_); (case ha => assumption))
  | ((with_reducible refine' x_len ?ha ?_); (case ha => assumption))
  | ((with_reducible refine' x_lenT ?ha ?_); (case ha => assumption))
  | ((with_reducible refine' x_fldI ?ha ?hc ?hn ?hl ?_); (case ha => assumption); (case hc => assumption); (case hn => assumption); (case hl => rfl))
  | ((with_reducible refine' x_sfldI ?ha ?hc ?hn ?hl ?_); (case ha => assumption); (case hc => assumption); (case hn => assumption); (case hl => (with_unfolding_all decide)))
  | ((with_reducible refine' x_methI ?ha ?hl ?_); (case ha => assumption); (case hl => rfl))
  | with_reducible refine x_for ?_
  | with_reducible refine x_dset ?_
  | ((with_reducible refine' x_isD ?ha ?_); (case ha => assumption))
  | with_reducible refine x_iL ?_
  | with_reducible refine x_iT ?_
  | with_reducible refine x_dK ?_
  | with_reducible refine x_dT ?_
  | ((with_reducible refine' x_tyl ?ha ?_); (case ha => assumption))
  | ((with_reducible refine' x_lct ?ha ?_); (case ha => assumption))
  | ((with_reducible refine' x_tct ?ha ?_); (case ha => assumption))
  | ((with_reducible refine' x_gtup ?ha ?hn ?_); (case ha => assumption); (case hn => rfl))
  | ((with_reducible refine' x_ixT ?ha ?hk ?_); (case ha => assumption); (case hk => rfl))
  | (with_reducible refine x_tup ?_)
  | (with_reducible refine x_lst ?_))
local macro_rules | `(tactic| walk_at "go") => `(tactic| (repeat walk_at "go1"))
section
variable {P : Program} {w : World} {K : PySem.W.Frag} {mg : Str → Option Value} {base : Heap} {t1 t2 : Tok}

def sp_slower_standing : Sp := fun vs H Q _ => ∃ (v : V) (st : List (Str × Int)) (k : Int), vs = [v, .int k] ∧ Tp H v (stD st) ∧ st.length ≤ 1000 ∧ 0 ≤ k ∧ k ≤ 1000 ∧ ∀ r H', Same H H' → Tp H' r (stD (kS k st)) → Q r H'
/-- slots of slower_standing: 0 standing 1 by 2 name 3 rest -/
abbrev s_slower_standing : Stmt := top 26
theorem sc_slower_standing : FnScope ["standing", "by", "name", "rest"] ["standing", "by"] (defScope s_slower_standing) := ⟨rfl, rfl, rfl, by decide +kernel, rfl, by decide +kernel, by decide +kernel⟩
theorem ok_slower_standing {f : Addr} {fd : FuncData} (T : BtT mg t1 t2) (F : Fun K "slower_standing" "slower_standing" s_slower_standing f fd) : FnOk P w K mg base CX0 1 f fd ["standing", "by"] sp_slower_standing := by
  refine F.ok sc_slower_standing (fun vs H Q E h => ?_) (fun cdv A outer s H vs Q E hr h => ?_)
  · obtain ⟨_, _, _, rfl, _⟩ := h
    rfl
  · obtain ⟨v, st, kk, rfl, tv, hsz, k0, k1, k⟩ := h
    obtain ⟨a, xs, rfl, ha, ta⟩ := tp_st tv
    have hlen := data_len ta
    refine ⟨_, (pss_one (ps_ret (pe_callTy (T := "tuple") (kTuple (K := K) rfl) (by rfl) T.tuple (by decide +kernel) (pa_cons (pe_lc (own := [("name", 2), ("rest", 3)]) (g := (gTup K 2 (gCons (gName 2) (gCons (gName 3) gNil)))) rfl sc_slower_standing.nd (pi_tup (pv 0)) (blkOk_by (N := ["standing", "by", "name", "rest"]) (sc := defScope s_slower_standing) (by decide +kernel)) (fun _ _ _ _ _ => (pg_tup (n := 2) rfl (pgs_cons (pg_name (i := 2) sc_slower_standing.nd rfl (Or.inl rfl)) (pgs_cons (pg_name (i := 3) sc_slower_standing.nd rfl (Or.inl rfl)) pgs_nil)))) (fun _ _ _ _ _ => pts_nil) (fun _ _ _ _ _ => (pe_tup (pa_cons (pv 2) (pa_cons (pe_op op_mul (pv 3) (pv 1)) pa_nil))))) pa_nil)))), ?_⟩
    walk_at "go"
    intro D hD
    refine lc_tup ta (by omega) (fun e => some (prD (e.1, e.2 * kk))) hD (fun e x H2 Kb Kf he s1 tx kb kf => ?_) (fun H1 acc s1 hacc tacc => ?_) ha
    · obtain ⟨p, rfl, hp⟩ := tp_stt tx
      walk_at "go"
      refine ⟨rfl, ?_⟩
      walk_at "go"
      refine x_mulR (by omega) (by omega) ?_
      walk_at "go"
      refine ⟨len2, fun q hq => ?_⟩
      exact kb _ _ _ rfl (same_new hq) (mk_pr upd_same)
    · rw [fm_some] at tacc
      walk_at "go"
      refine x_tupL hacc fun l hl => ?_
      refine k _ _ (same_mut s1 (none_back s1 hl)) (mk_st upd_same ?_)
      have e : (kS kk st).map prD = st.map fun e => prD (e.1, e.2 * kk) := by unfold kS; rw [List.map_map]; rfl
      rw [e]
      exact tpa_keep (kp_same (same_new hl)) tacc

def kvL (ls : List (Int × Addr)) : List (Key × V) := ls.map fun e => (.inl e.1, .ref e.2)
theorem kvL_val (ls : List (Int × Addr)) (r : Int) : valV (kvL ls) (.inl r) = (ls.lookup r).map V.ref := by
  induction ls with
  | nil => rfl
  | cons e t ih =>
    unfold kvL
    rw [List.map_cons, List.lookup_cons]
    by_cases h : e.1 = r
    · rw [valV_pos (by rw [h]), beq_iff_eq.mpr h.symm]
      rfl
    · have h2 : (r == e.1) = false := by rw [beq_eq_false_iff_ne]; exact fun z => h z.symm
      rw [valV_neg (fun z => h (Sum.inl.inj z)), h2]
      exact ih
theorem lk_mem {ls : List (Int × Addr)} {r : Int} {a : Addr} (h : ls.lookup r = some a) : (r, a) ∈ ls := by
  induction ls with
  | nil => simp at h
  | cons e t ih =>
    rw [List.lookup_cons] at h
    by_cases c : (r == e.1) = true
    · rw [c] at h
      have h := Option.some.inj h
      have := beq_iff_eq.mp c
      subst h
      subst this
      exact List.mem_cons_self
    · have c : (r == e.1) = false := by simpa using c
      rw [c] at h
      exact List.mem_cons_of_mem _ (ih h)
theorem lk_none {ls : List (Int × Addr)} {r : Int} (h : ls.lookup r = none) : ∀ e ∈ ls, e.1 ≠ r := by
  induction ls with
  | nil => intro e he; simp at he
  | cons x t ih =>
    rw [List.lookup_cons] at h
    by_cases c : (r == x.1) = true
    · rw [c] at h; cases h
    · have c' : (r == x.1) = false := by simpa using c
      rw [c'] at h
      intro e he
      rcases List.mem_cons.mp he with h1 | h1
      · subst h1
        intro z
        rw [z] at c
        exact c (beq_self_eq_true r)
      · exact ih h e h1
theorem lk_of {ls : List (Int × Addr)} {r : Int} {a : Addr} (h : (r, a) ∈ ls) : ∃ b, ls.lookup r = some b := by
  cases hl : ls.lookup r with
  | some b => exact ⟨b, rfl⟩
  | none => exact absurd rfl (lk_none hl _ h)
theorem nd_key {α β : Type} {ls : List (α × β)} (n : (ls.map (·.1)).Nodup) {x y : α × β} (hx : x ∈ ls) (hy : y ∈ ls) (h : x.1 = y.1) : x = y := by
  induction ls with
  | nil => simp at hx
  | cons e t ih =>
    rw [List.map_cons, List.nodup_cons] at n
    rcases List.mem_cons.mp hx with h1 | h1 <;> rcases List.mem_cons.mp hy with h2 | h2
    · rw [h1, h2]
    · subst h1
      exact absurd (List.mem_map.mpr ⟨y, h2, h.symm⟩) n.1
    · subst h2
      exact absurd (List.mem_map.mpr ⟨x, h1, h⟩) n.1
    · exact ih n.2 h1 h2
theorem nd_val {α β : Type} {ls : List (α × β)} (n : (ls.map (·.2)).Nodup) {x y : α × β} (hx : x ∈ ls) (hy : y ∈ ls) (h : x.2 = y.2) : x = y := by
  induction ls with
  | nil => simp at hx
  | cons e t ih =>
    rw [List.map_cons, List.nodup_cons] at n
    rcases List.mem_cons.mp hx with h1 | h1 <;> rcases List.mem_cons.mp hy with h2 | h2
    · rw [h1, h2]
    · subst h1
      exact absurd (List.mem_map.mpr ⟨y, h2, h.symm⟩) n.1
    · subst h2
      exact absurd (List.mem_map.mpr ⟨x, h1, h⟩) n.1
    · exact ih n.2 h1 h2
theorem keysOf_snoc (st : List (Str × Int)) (e : Str × Int) : keysOf (st ++ [e]) = if e.2 ∈ keysOf st then keysOf st else keysOf st ++ [e.2] := by
  unfold keysOf
  rw [List.foldl_append]
  rfl
theorem namesAt_snoc (st : List (Str × Int)) (e : Str × Int) (r : Int) : namesAt (st ++ [e]) r = if e.2 = r then namesAt st r ++ [e.1] else namesAt st r := by
  unfold namesAt
  rw [List.filter_append, List.map_append, List.filter_cons]
  by_cases h : e.2 = r
  · rw [if_pos (beq_iff_eq.mpr h), if_pos h]; rfl
  · rw [if_neg (fun z => h (beq_iff_eq.mp z)), if_neg h]; simp
theorem namesAt_new {st : List (Str × Int)} {r : Int} (h : r ∉ keysOf st) : namesAt st r = [] := by
  unfold namesAt
  rw [List.map_eq_nil_iff, List.filter_eq_nil_iff]
  intro e he
  rw [beq_iff_eq]
  intro z
  exact h (by
    have := (keysS_mem st r).mpr ⟨e, he, z⟩
    unfold keysS at this
    rwa [List.mem_mergeSort] at this)
theorem keysOf_len (st : List (Str × Int)) : (keysOf st).length ≤ st.length := by
  have key : ∀ (l : List (Str × Int)) (ks : List Int), (l.foldl (fun ks e => if e.2 ∈ ks then ks else ks ++ [e.2]) ks).length ≤ ks.length + l.length := by
    intro l
    induction l with
    | nil => intro ks; exact Nat.le_refl _
    | cons e r ih =>
      intro ks
      rw [List.foldl_cons, List.length_cons]
      refine Nat.le_trans (ih _) ?_
      split
      · omega
      · rw [List.length_append]; simp; omega
  have := key st []
  simpa [keysOf] using this
/-- the lists that a dict of lists holds -/
structure GI (H : Hp) (d : Addr) (ls : List (Int × Addr)) (st : List (Str × Int)) (H' : Hp) : Prop where
  same : Same H H'
  dic : H' d = some (.dK (kvL ls))
  hd : H d = none
  keys : ls.map (·.1) = keysOf st
  nd : (ls.map (·.2)).Nodup
  its : ∀ e ∈ ls, H e.2 = none ∧ e.2 ≠ d ∧ H' e.2 = some (.lst ((namesAt st e.1).map V.str))
theorem gi_old {H : Hp} {d : Addr} {ls : List (Int × Addr)} {st : List (Str × Int)} {H' : Hp} (g : GI H d ls st H') {n : Str} {r : Int} {a q : Addr} (hq : H' q = none) (h : ls.lookup r = some a) :
    GI H d ls (st ++ [(n, r)]) (upd (upd H' q (.lst [])) a (.lst ((namesAt st r).map V.str ++ [.str n]))) := by
  have m := lk_mem h
  obtain ⟨a1, a2, a3⟩ := g.its _ m
  have knd : (ls.map (·.1)).Nodup := by rw [g.keys]; exact keys_nd st
  have hr : r ∈ keysOf st := by rw [← g.keys]; exact List.mem_map.mpr ⟨_, m, rfl⟩
  refine ⟨same_mut (same_mut g.same (none_back g.same hq)) a1, ?_, g.hd, ?_, g.nd, fun e he => ?_⟩
  · rw [upd_ne (fun z => a2 z.symm), upd_ne (ne_of_none g.dic hq)]
    exact g.dic
  · rw [keysOf_snoc, if_pos hr]
    exact g.keys
  · obtain ⟨b1, b2, b3⟩ := g.its e he
    refine ⟨b1, b2, ?_⟩
    rw [namesAt_snoc]
    by_cases c : e.1 = r
    · have := nd_key knd he m c
      subst this
      rw [if_pos rfl, upd_same, List.map_append]
      rfl
    · rw [if_neg (fun z => c z.symm)]
      have c2 : e.2 ≠ a := fun z => c (by have := nd_val g.nd he m z; rw [this])
      rw [upd_ne c2, upd_ne (ne_of_none b3 hq)]
      exact b3
theorem gi_new {H : Hp} {d : Addr} {ls : List (Int × Addr)} {st : List (Str × Int)} {H' : Hp} (g : GI H d ls st H') {n : Str} {r : Int} {q : Addr} (hq : H' q = none) (h : ls.lookup r = none) :
    GI H d (ls ++ [(r, q)]) (st ++ [(n, r)]) (upd (upd (upd H' q (.lst [])) d (.dK (kvL (ls ++ [(r, q)])))) q (.lst ([] ++ [.str n]))) := by
  have hk := lk_none h
  have hr : r ∉ keysOf st := by
    rw [← g.keys]
    intro z
    obtain ⟨e, he, z⟩ := List.mem_map.mp z
    exact hk e he z
  have q0 := none_back g.same hq
  have dq : d ≠ q := ne_of_none g.dic hq
  refine ⟨same_mut (same_mut (same_mut g.same q0) g.hd) q0, ?_, g.hd, ?_, ?_, fun e he => ?_⟩
  · rw [upd_ne dq, upd_same]
  · rw [keysOf_snoc, if_neg hr, List.map_append, g.keys]
    rfl
  · rw [List.map_append, List.nodup_append]
    refine ⟨g.nd, by simp, ?_⟩
    intro x hx y hy
    obtain ⟨e, he, rfl⟩ := List.mem_map.mp hx
    simp at hy
    subst hy
    exact ne_of_none (g.its e he).2.2 hq
  · rw [namesAt_snoc]
    rcases List.mem_append.mp he with he | he
    · obtain ⟨b1, b2, b3⟩ := g.its e he
      have c := hk e he
      rw [if_neg (fun z => c z.symm), upd_ne (ne_of_none b3 hq), upd_ne b2, upd_ne (ne_of_none b3 hq)]
      exact ⟨b1, b2, b3⟩
    · simp at he
      subst he
      rw [if_pos rfl, upd_same, namesAt_new hr]
      exact ⟨q0, fun z => dq z.symm, rfl⟩
def sp_groups_of : Sp := fun vs H Q _ => ∃ (v : V) (st : List (Str × Int)), vs = [v] ∧ Tp H v (stD st) ∧ st.length ≤ 40 ∧ ∀ p xs H', Same H H' → H p = none → H' p = some (.lst xs) → TpAll H' xs ((groups st).map grD) → Q (.ref p) H'
/-- slots of groups_of: 0 standing 1 found 2 name 3 rest -/
abbrev s_groups_of : Stmt := top 25
theorem sc_groups_of : FnScope ["standing", "found", "name", "rest"] ["standing"] (defScope s_groups_of) := ⟨rfl, rfl, rfl, by decide +kernel, rfl, by decide +kernel, by decide +kernel⟩
theorem ok_groups_of {f : Addr} {fd : FuncData} (T : BtT mg t1 t2) (F : Fun K "groups_of" "groups_of" s_groups_of f fd) : FnOk P w K mg base CX0 1 f fd ["standing"] sp_groups_of := by
  refine F.ok sc_groups_of (fun vs H Q E h => ?_) (fun cdv A outer s H vs Q E hr h => ?_)
  · obtain ⟨_, _, rfl, _⟩ := h
    rfl
  · obtain ⟨v, st, rfl, tv, hsz, k⟩ := h
    obtain ⟨a, xs, rfl, ha, ta⟩ := tp_st tv
    have hu := hu_of hr
    refine ⟨_, (pss_cons (ps_set (i := 1) sc_groups_of.nd rfl (Or.inr rfl) pe_dnewK)
      (pss_cons (ps_for PassesOwn.never rfl (pi_tup (pv 0)) (pg_tup (n := 2) rfl (pgs_cons (pg_name (i := 2) sc_groups_of.nd rfl (Or.inl rfl)) (pgs_cons (pg_name (i := 3) sc_groups_of.nd rfl (Or.inl rfl)) pgs_nil))) (pss_one (ps_expr (pe_bm PySem.F.plainAttrs_list PySem.F.slot_list_append PySem.F.type_list_append mt_append (pe_dsetd (pv 1) (pv 3) (pe_lst pa_nil) ⟨by rfl, by rfl, by rfl, by rfl⟩) (pa_cons (pv 2) pa_nil)))))
      (pss_one (ps_ret (pe_lc (own := [("rest", 3)]) (g := (gName 3)) rfl sc_groups_of.nd (pi_list (pe_callB (call_sortedDI rfl) (by rfl) T.sorted (by decide +kernel) (pa_cons (pv 1) pa_nil))) (blkOk_by (N := ["standing", "found", "name", "rest"]) (sc := defScope s_groups_of) (by decide +kernel)) (fun _ _ _ _ _ => (pg_name (i := 3) sc_groups_of.nd rfl (Or.inl rfl))) (fun _ _ _ _ _ => pts_nil) (fun _ _ _ _ _ => (pe_tup (pa_cons (pv 3) (pa_cons (pe_callTy (T := "tuple") (kTuple (K := K) rfl) (by rfl) T.tuple (by decide +kernel) (pa_cons (pe_dget hu (pv 1) (pv 3) (fun _ _ => rfl)) pa_nil)) pa_nil))))))))), ?_⟩
    walk_at "go"
    intro d hd
    walk_at "go"
    have kp0 : Kp H (upd H d (.dK [])) := kp_new hd
    have ha0 := kp0 _ _ ha
    refine x_tct ha0 ?_
    refine for_tup (tpa_keep kp0 ta) (fun i σ H' => ∃ ls u v, σ = [some (.ref a), some (.ref d), u, v] ∧ GI H d ls (st.take i) H') ⟨[], none, none, rfl, same_new hd, upd_same, hd, rfl, List.nodup_nil, fun _ h => nomatch h⟩ (fun i e x σ H2 he ⟨ls, u, v, es, g⟩ tx => ?_) (fun σ H2 ⟨ls, u, v, es, g⟩ => ?_) ha0 (fun i σ H2 ⟨ls, u, v, _, g⟩ => ?_)
    · subst es
      obtain ⟨p, rfl, hp⟩ := tp_stt tx
      have hdic := g.dic
      have hls : ls.length ≤ 40 := by
        have h1 := congrArg List.length g.keys
        have h2 := keysOf_len (st.take i)
        rw [List.length_map] at h1
        rw [List.length_take] at h2
        omega
      walk_at "go"
      refine ⟨len0, fun q hq => ?_⟩
      have hq2 := ne_of_none hdic hq
      have hv : valV (kvL ls) (.inl e.2) = (ls.lookup e.2).map V.ref := kvL_val ls e.2
      refine ⟨kvL ls, .inl e.2, by rw [upd_ne hq2]; exact hdic, rfl, by unfold kvL; rw [List.length_map]; exact sz100' (by omega), fun v0 h0 => ?_, fun h0 => ?_⟩
      · rw [hv] at h0
        cases hlk : ls.lookup e.2 with
        | none => rw [hlk] at h0; cases h0
        | some b =>
          rw [hlk] at h0
          have h0 : V.ref b = v0 := Option.some.inj h0
          subst h0
          have hb := (g.its _ (lk_mem hlk)).2.2
          have hbq := ne_of_none hb hq
          have hb1 : (upd H2 q (.lst [])) b = some (.lst ((namesAt (st.take i) e.2).map V.str)) := by rw [upd_ne hbq]; exact hb
          refine x_tyl hb1 ?_
          walk_at "go"
          refine x_app hb1 ?_ ?_
          · rw [List.length_map]
            unfold namesAt
            rw [List.length_map]
            have := List.length_filter_le (fun x : Str × Int => x.2 == e.2) (st.take i)
            rw [List.length_take] at this
            exact sz100' (by omega)
          · refine ⟨ls, _, _, rfl, ?_⟩
            rw [take_snoc he]
            exact gi_old g hq hlk
      · rw [hv] at h0
        have hlk : ls.lookup e.2 = none := by
          cases hlk : ls.lookup e.2 with
          | none => rfl
          | some b => rw [hlk] at h0; cases h0
        rw [putK_new _ (by rw [hv, hlk]; rfl)]
        have hq1 : (upd (upd H2 q (.lst [])) d (.dK (kvL ls ++ [(.inl e.2, .ref q)]))) q = some (.lst []) := by rw [upd_ne (fun z => hq2 z.symm), upd_same]
        refine x_tyl hq1 ?_
        walk_at "go"
        refine x_app hq1 (by show 0 < sizeLine; decide) ?_
        refine ⟨ls ++ [(e.2, q)], _, _, rfl, ?_⟩
        rw [take_snoc he]
        have := gi_new (n := e.1) g hq hlk
        unfold kvL at *
        rw [List.map_append] at this
        exact this
    · subst es
      rw [List.take_length] at g
      have hdic := g.dic
      walk_at "go"
      refine ⟨d, kvL ls, keysOf st, rfl, .inl hdic, by unfold kvL; rw [List.map_map, ← g.keys, List.map_map]; rfl, by have := keysOf_len st; omega, fun ys p hperm hpw hp => ?_⟩
      have ey : ys = keysS st := by
        unfold keysS
        refine List.Perm.eq_of_pairwise (le := (· ≤ ·)) (fun a b _ _ h1 h2 => Int.le_antisymm h1 h2) hpw ?_ (hperm.trans (List.mergeSort_perm _ _).symm)
        have := List.pairwise_mergeSort (le := fun x y : Int => decide (x ≤ y)) (fun a b c h1 h2 => by simp at *; omega) (fun a b => by simp; omega) (keysOf st)
        exact this.imp fun h => by simpa using h
      subst ey
      have s1 : Same H (upd H2 p (.lst ((keysS st).map V.int))) := same_mut g.same (none_back g.same hp)
      have hp1 : (upd H2 p (.lst ((keysS st).map V.int))) p = some (.lst ((keysS st).map V.int)) := upd_same
      walk_at "go"
      intro C hC
      have tk : TpAll (upd H2 p (.lst ((keysS st).map V.int))) ((keysS st).map V.int) ((keysS st).map PyData.int) := tpa_of_ints _ _
      have hkl : (keysS st).length ≤ 40 := by
        unfold keysS
        rw [List.length_mergeSort]
        have := keysOf_len st
        omega
      refine lc_list tk (by omega) (fun r => some (grD (r, namesAt st r))) hC (fun r x H3 Kb Kf hr s3 tx kb kf => ?_) (fun H3 acc s3 hacc tacc => ?_) hp1
      · cases tp_int tx
        have hin : r ∈ ls.map (·.1) := by
          rw [g.keys]
          unfold keysS at hr
          rwa [List.mem_mergeSort] at hr
        obtain ⟨e, he, hre⟩ := List.mem_map.mp hin
        have hre : e.1 = r := hre
        subst hre
        obtain ⟨b, hb⟩ := lk_of (r := e.1) (a := e.2) he
        have hbl := (g.its _ (lk_mem hb)).2.2
        have hpd : d ≠ p := ne_of_none hdic hp
        have hd3 : H3 d = some (.dK (kvL ls)) := s3 _ _ (by rw [upd_ne hpd]; exact hdic)
        have hb3 : H3 b = some (.lst ((namesAt st e.1).map V.str)) := s3 _ _ (by rw [upd_ne (ne_of_none hbl hp)]; exact hbl)
        walk_at "go"
        refine ⟨rfl, ?_⟩
        walk_at "go"
        refine x_dgK (k := .inl e.1) hd3 (by rw [kvL_val, hb]; rfl) ?_
        walk_at "go"
        refine x_tupL hb3 fun l hl => ?_
        walk_at "go"
        refine ⟨len2, fun q hq => ?_⟩
        refine kb _ _ _ rfl (same_mut (same_new hl) (none_back (same_new hl) hq)) (mk_pair upd_same (.int _) ?_)
        have : l ≠ q := ne_of_none upd_same hq
        exact mk_nm (by rw [upd_ne this, upd_same])
      · rw [fm_some] at tacc
        rw [groups_eq] at k
        have e : ((keysS st).map fun r => (r, namesAt st r)).map grD = (keysS st).map fun r => grD (r, namesAt st r) := by rw [List.map_map]; rfl
        rw [e] at k
        exact k C acc _ (s1.trans s3) (none_back s1 hC) hacc tacc
    · exact Kp.trans (fun q zs e => by
        by_cases c : q = d
        · subst c
          rw [upd_same] at e
          cases e
        · rw [upd_ne c] at e
          exact e) (kp_same g.same)
end
end Sl

set_option Elab.async false
set_option linter.all false
set_option maxRecDepth 100000
set_option maxHeartbeats 4000000
/-! The walks: kinds, books. -/
namespace Sl
open PySem L2
local macro_rules | `(tactic| walk_at "go1") => `(tactic| first
  | with_reducible refine x_seq ?_
  | with_reducible refine x_asg ?_
  | with_reducible refine x_name ?_
  | with_reducible refine x_ret ?_
  | with_reducible refine x_if ?_
  | ((with_reducible refine' x_var ?hv ?_); (case hv => rfl))
  | with_reducible refine x_c ?_
  | with_reducible refine' x_non ?_
  | with_reducible refine x_yes ?_
  | with_reducible refine' iteT ?_
  | with_reducible refine' iteF ?_
  | with_reducible refine x_op ?_
  | with_reducible refine x_I0 ?_
  | with_reducible refine x_test ?_
  | with_reducible refine' x_bl ?_
  | with_reducible refine x_eqI ?_
  | with_reducible refine x_neI ?_
  | with_reducible refine x_cons ?_
  | with_reducible refine x_nil ?_
  | with_reducible refine x_call ?_
  | with_reducible refine x_cb ?_
  | with_reducible refine x_par ?_
  | with_reducible refine x_par2 ?_
  | with_reducible refine x_gcons ?_
  | with_reducible refine x_gnil ?_
  | with_reducible refine x_next ?_
  | with_reducible refine x_drop ?_
  | with_reducible refine x_bm ?_
  | with_reducible refine x_fld ?_
  | with_reducible refine x_dget ?_
  | with_reducible refine x_lc ?_
  | with_reducible refine x_sfld ?_
  | with_reducible refine x_meth ?_
  | with_reducible refine x_dput ?_
  | with_reducible refine x_faug ?_
  | with_reducible refine x_add ?_
  | with_reducible refine x_items ?_
  | ((with_reducible refine' x_itemsI ?ha ?_); (case ha => assumption))
  | ((with_reducible refine' x_faugI ?ha ?hc ?hn ?hl ?_); (case ha => assumption); (case hc => assumption); (case hn => assumption); (case hl => rfl))
  | with_reducible refine x_make ?_
  | with_reducible refine x_andV ?_
  | with_reducible refine x_orV ?_
  | with_reducible refine x_notV ?_
  | with_reducible refine x_chain ?_
  | with_reducible refine x_notT ?_
  | with_reducible refine x_andT ?_
  | with_reducible refine x_orT ?_
  | with_reducible refine x_tB ?_
  | with_reducible refine' iteNT ?_
  | with_reducible refine' iteNF ?_
  | with_reducible refine x_isiI ?_
  | with_reducible refine x_isiB ?_
  | ((with_reducible refine' x_isiL ?ha ?_); (case ha => assumption))
  | ((with_reducible refine' x_len ?ha ?_); (case ha => assumption))
  | ((with_reducible refine' x_lenT ?ha ?_); (case ha => assumption))
  | ((with_reducible refine' x_fldI ?ha ?hc ?hn ?hl ?_); (case ha => assumption); (case hc => assumption); (case hn => assumption); (case hl => rfl))
  | ((with_reducible refine' x_sfldI ?ha ?hc ?hn ?hl ?_); (case ha => assumption); (case hc => assumption); (case hn => assumption); (case hl => (with_unfolding_all decide)))
  | ((with_reducible refine' x_methI ?ha ?hl ?_); (case ha => assumption); (case hl => rfl))
  | with_reducible refine x_for ?_
  | with_reducible refine x_dset ?_
  | ((with_reducible refine' x_isD ?ha ?_); (case ha => assumption))
  | with_reducible refine x_iL ?_
  | with_reducible refine x_iT ?_
  | with_reducible refine x_dK ?_
  | with_reducible refine x_dT ?_
  | ((with_reducible refine' x_tyl ?ha ?_); (case ha => assumption))
  | ((with_reducible refine' x_lct ?ha ?_); (case ha => assumption))
  | ((with_reducible refine' x_tct ?ha ?_); (case ha => assumption))
  | ((with_reducible refine' x_gtup ?ha ?hn ?_); (case ha => assumption); (case hn => rfl))
  | ((with_reducible refine' x_ixT ?ha ?hk ?_); (case ha => assumption); (case hk => rfl))
  | (with_reducible refine x_tup ?_)
  | (with_reducible refine x_lst ?_))
local macro_rules | `(tactic| walk_at "go") => `(tactic| (repeat walk_at "go1"))
section
variable {P : Program} {w : World} {K : PySem.W.Frag} {mg : Str → Option Value} {base : Heap} {t1 t2 : Tok}

def sp_is_whole : Sp := fun vs H Q _ => ∃ i : Int, vs = [.int i] ∧ Q (.bl true) H
/-- slots of is_whole: 0 thing -/
abbrev s_is_whole : Stmt := top 3
theorem sc_is_whole : FnScope ["thing"] ["thing"] (defScope s_is_whole) := ⟨rfl, rfl, rfl, by decide +kernel, rfl, by decide +kernel, by decide +kernel⟩
theorem ok_is_whole {f : Addr} {fd : FuncData} (T : BtT mg t1 t2) (F : Fun K "is_whole" "is_whole" s_is_whole f fd) : FnOk P w K mg base CX0 1 f fd ["thing"] sp_is_whole := by
  refine F.ok sc_is_whole (fun vs H Q E h => ?_) (fun cdv A outer s H vs Q E hr h => ?_)
  · obtain ⟨_, rfl, _⟩ := h
    rfl
  · obtain ⟨i, rfl, k⟩ := h
    refine ⟨_, (pss_one (ps_ret (pe_and (pe_callB (kIsi (K := K) rfl) (by rfl) T.isinstance (by decide +kernel) (pa_cons (pv 0) (pa_cons (pe_bltn (v := .ty "int") rfl T.int (by decide +kernel) rfl) pa_nil))) (pe_one (pe_not (pe_callB (kIsi (K := K) rfl) (by rfl) T.isinstance (by decide +kernel) (pa_cons (pv 0) (pa_cons (pe_bltn (v := .ty "bool") rfl T.bool (by decide +kernel) rfl) pa_nil)))))))), ?_⟩
    walk_at "go"
    exact k

def sp_is_between : Sp := fun vs H Q _ => ∃ i l h : Int, vs = [.int i, .int l, .int h] ∧ l ≤ i ∧ i ≤ h ∧ Q (.bl true) H
/-- slots of is_between: 0 thing 1 low 2 high -/
abbrev s_is_between : Stmt := top 4
theorem sc_is_between : FnScope ["thing", "low", "high"] ["thing", "low", "high"] (defScope s_is_between) := ⟨rfl, rfl, rfl, by decide +kernel, rfl, by decide +kernel, by decide +kernel⟩
theorem ok_is_between {f fw : Addr} {fd fdw : FuncData} (F : Fun K "is_between" "is_between" s_is_between f fd) (D_is_whole : FC P w K mg base 1 "is_whole" ["thing"] sp_is_whole fw fdw) : FnOk P w K mg base CX0 2 f fd ["thing", "low", "high"] sp_is_between := by
  refine F.ok sc_is_between (fun vs H Q E h => ?_) (fun cdv A outer s H vs Q E hr h => ?_)
  · obtain ⟨_, _, _, rfl, _⟩ := h
    rfl
  · obtain ⟨i, l, h, rfl, hl, hh, k⟩ := h
    refine ⟨_, (pss_one (ps_ret (pe_and (pe_f D_is_whole hr (by decide) (pa_cons (pv 0) pa_nil)) (pe_one (pe_chain op_le op_le (pv 1) (pv 0) (pv 2)))))), ?_⟩
    walk_at "go"
    refine ⟨i, rfl, ?_⟩
    walk_at "go"
    refine x_dtrue hl ?_
    walk_at "go"
    rw [decide_eq_true hh]
    exact k

def sp_is_length : Sp := fun vs H Q _ => ∃ i : Int, vs = [.int i] ∧ 1 ≤ i ∧ i ≤ 1000000000 ∧ Q (.bl true) H
/-- slots of is_length: 0 thing -/
abbrev s_is_length : Stmt := top 5
theorem sc_is_length : FnScope ["thing"] ["thing"] (defScope s_is_length) := ⟨rfl, rfl, rfl, by decide +kernel, rfl, by decide +kernel, by decide +kernel⟩
theorem ok_is_length {f fw : Addr} {fd fdw : FuncData} (T : BtT mg t1 t2) (F : Fun K "is_length" "is_length" s_is_length f fd) (D_is_between : FC P w K mg base 2 "is_between" ["thing", "low", "high"] sp_is_between fw fdw) : FnOk P w K mg base CX0 3 f fd ["thing"] sp_is_length := by
  refine F.ok sc_is_length (fun vs H Q E h => ?_) (fun cdv A outer s H vs Q E hr h => ?_)
  · obtain ⟨_, rfl, _⟩ := h
    rfl
  · obtain ⟨i, rfl, hl, hh, k⟩ := h
    refine ⟨_, (pss_one (ps_ret (pe_f D_is_between hr (by decide) (pa_cons (pv 0) (pa_cons pe_int (pa_cons (pe_glob (v := .int 1000000000) rfl T.mgMOST_LENGTH ⟨_, rfl⟩) pa_nil)))))), ?_⟩
    walk_at "go"
    exact ⟨i, 1, 1000000000, rfl, hl, hh, k⟩

structure BkC (K : PySem.W.Frag) (cB : Addr) : Prop where
  cls : Cls K cB
  rows : NoAttr K cB "rows"
/-- a book with these lengths -/
def Bk (cB : Addr) (H : Hp) (v : V) (L : List Int) : Prop := ∃ b dx r, v = .ref b ∧ H b = some (.ins cB dx [("rows", .ref r)]) ∧ H r = some (.tup (L.map V.int))
theorem bk_same {cB : Addr} {H H' : Hp} {v : V} {L : List Int} (s : Same H H') (h : Bk cB H v L) : Bk cB H' v L := by
  obtain ⟨b, dx, r, rfl, h1, h2⟩ := h
  exact ⟨b, dx, r, rfl, s _ _ h1, s _ _ h2⟩
def SameX (b : Addr) (H H' : Hp) : Prop := ∀ a u, a ≠ b → H a = some u → H' a = some u
def sp_Book_init (cB : Addr) : Sp := fun vs H Q _ => ∃ (b l dx : Addr) (L : List Int), vs = [.ref b, .ref l] ∧ H b = some (.ins cB dx []) ∧ H l = some (.lst (L.map V.int)) ∧ 1 ≤ L.length ∧ L.length ≤ 40 ∧ (∀ x ∈ L, 1 ≤ x ∧ x ≤ 1000000000) ∧
  ∀ H', SameX b H H' → Bk cB H' (.ref b) L → Q .non H'
/-- slots of Book.__init__: 0 self 1 lengths 2 one -/
abbrev s_Book_init : Stmt := inClass (top 38) 0
theorem sc_Book_init : FnScope ["self", "lengths", "one"] ["self", "lengths"] (defScope s_Book_init) := ⟨rfl, rfl, rfl, by decide +kernel, rfl, by decide +kernel, by decide +kernel⟩
theorem ok_Book_init {cB f fw : Addr} {fd fdw : FuncData} (T : BtT mg t1 t2) (B : BkC K cB) (F : Fun K "__init__" "Book.__init__" s_Book_init f fd) (D_is_length : FC P w K mg base 3 "is_length" ["thing"] sp_is_length fw fdw) : FnOk P w K mg base CX0 4 f fd ["self", "lengths"] (sp_Book_init cB) := by
  refine F.ok sc_Book_init (fun vs H Q E h => ?_) (fun cdv A outer s H vs Q E hr h => ?_)
  · obtain ⟨_, _, _, _, rfl, _⟩ := h
    rfl
  · obtain ⟨b, l, dx, L, rfl, hb, hl, h1, h40, hL, k⟩ := h
    have hcls := B.cls
    have hrows := B.rows
    refine ⟨_, (pss_cons (ps_if (PW.pt (pw_or (pt_not (pt_val (pe_callB (kIsi (K := K) rfl) (by rfl) T.isinstance (by decide +kernel) (pa_cons (pv 1) (pa_cons (pe_bltn (v := .ty "list") rfl T.list (by decide +kernel) rfl) pa_nil))))) (pw_or1 (pt_not (pt_chain op_le op_le pe_int (pe_callB (kLen (K := K) rfl) (by rfl) T.len (by decide +kernel) (pa_cons (pv 1) pa_nil)) (pe_glob (v := .int 40) rfl T.mgMOST_SLEEPERS ⟨_, rfl⟩)))))) (pss_one ps_never) pss_nil)
      (pss_cons (ps_if (pt_not (pt_val (pe_callB (kAll (K := K) rfl rfl) (by rfl) T.all (by decide +kernel) (pa_cons (pe_lc (own := [("one", 2)]) (g := (gName 2)) rfl sc_Book_init.nd (pi_list (pv 1)) (blkOk_by (N := ["self", "lengths", "one"]) (sc := defScope s_Book_init) (by decide +kernel)) (fun _ _ _ _ _ => (pg_name (i := 2) sc_Book_init.nd rfl (Or.inl rfl))) (fun _ _ _ _ _ => pts_nil) (fun _ _ _ _ _ => (pe_f D_is_length hr (by decide) (pa_cons (pv 2) pa_nil)))) pa_nil)))) (pss_one ps_never) pss_nil)
      (pss_one (ps_fld (pv 0) (pe_callTy (T := "tuple") (kTuple (K := K) rfl) (by rfl) T.tuple (by decide +kernel) (pa_cons (pv 1) pa_nil)) rfl)))), ?_⟩
    walk_at "go"
    rw [List.length_map]
    refine x_dtrue (by omega) ?_
    walk_at "go"
    rw [decide_eq_true (show (L.length : Int) ≤ 40 by omega)]
    walk_at "go"
    intro C hC
    have tL : TpAll H (L.map V.int) (L.map PyData.int) := tpa_of_ints _ _
    refine lc_list tL (by omega) (fun _ => some (.bool true)) hC (fun x v H2 Kb Kf hx s1 tx kb kf => ?_) (fun H1 acc s1 hacc tacc => ?_) hl
    · cases tp_int tx
      walk_at "go"
      refine ⟨rfl, ?_⟩
      walk_at "go"
      refine ⟨x, rfl, (hL x hx).1, (hL x hx).2, ?_⟩
      exact kb _ _ _ rfl (Same.refl _) (.bl true)
    · rw [fm_some, List.map_const'] at tacc
      have e : List.replicate L.length (PyData.bool true) = (List.replicate L.length true).map PyData.bool := by rw [List.map_replicate]
      rw [e] at tacc
      have e2 := tpa_bools tacc
      subst e2
      walk_at "go"
      refine ⟨C, List.replicate L.length true, rfl, sql hacc, ?_⟩
      rw [show (List.replicate L.length true).all id = true by simp]
      walk_at "go"
      have hl1 := s1 _ _ hl
      have hb1 := s1 _ _ hb
      walk_at "go"
      refine x_tupL hl1 fun r hr => ?_
      have hb2 : (upd H1 r (.tup (L.map V.int))) b = some (.ins cB dx []) := by rw [upd_ne (ne_of_none hb1 hr)]; exact hb1
      walk_at "go"
      have hbr := ne_of_none hb1 hr
      refine k _ (fun a u hne hu => by rw [upd_ne hne]; exact same_mut s1 (none_back s1 hr) _ _ hu) ⟨b, dx, r, rfl, ?_, ?_⟩
      · rw [upd_same]; rfl
      · rw [upd_ne (fun z => hbr z.symm), upd_same]
/-- Book(lengths) -/
theorem mk_book {cB l : Addr} {H : Hp} {L : List Int} {Q : VK} {E : XK} (hl : H l = some (.lst (L.map V.int))) (h1 : 1 ≤ L.length) (h40 : L.length ≤ 40) (hL : ∀ x ∈ L, 1 ≤ x ∧ x ≤ 1000000000) (k : ∀ b H', Same H H' → H b = none → Bk cB H' (.ref b) L → Q (.ref b) H') :
    ∀ x dx, H x = none → H dx = none → dx ≠ x → sp_Book_init cB (.ref x :: ([.ref l] ++ [])) (upd (upd H dx (.own x)) x (.ins cB dx [])) (fun v H2 => v = .non ∧ Q (.ref x) H2) E := by
  intro x dx hx hdx hne
  have s0 : Same H (upd (upd H dx (.own x)) x (.ins cB dx [])) := same_mut (same_new hdx) hx
  refine ⟨x, l, dx, L, rfl, upd_same, s0 _ _ hl, h1, h40, hL, fun H' s b => ⟨rfl, k x H' (fun a u ha => ?_) hx b⟩⟩
  exact s a u (ne_of_none ha hx) (s0 _ _ ha)

def sp_Book_lengths (cB : Addr) : Sp := fun vs H Q _ => ∃ (v : V) (L : List Int), vs = [v] ∧ Bk cB H v L ∧ ∀ p, H p = none → Q (.ref p) (upd H p (.lst (L.map V.int)))
/-- slots of Book.lengths: 0 self -/
abbrev s_Book_lengths : Stmt := inClass (top 38) 1
theorem sc_Book_lengths : FnScope ["self"] ["self"] (defScope s_Book_lengths) := ⟨rfl, rfl, rfl, by decide +kernel, rfl, by decide +kernel, by decide +kernel⟩
theorem ok_Book_lengths {cB f : Addr} {fd : FuncData} (T : BtT mg t1 t2) (B : BkC K cB) (F : Fun K "lengths" "Book.lengths" s_Book_lengths f fd) : FnOk P w K mg base CX0 1 f fd ["self"] (sp_Book_lengths cB) := by
  refine F.ok sc_Book_lengths (fun vs H Q E h => ?_) (fun cdv A outer s H vs Q E hr h => ?_)
  · obtain ⟨_, _, rfl, _⟩ := h
    rfl
  · obtain ⟨v, L, rfl, ⟨b, dx, r, rfl, hb, hrr⟩, k⟩ := h
    have hcls := B.cls
    have hrows := B.rows
    refine ⟨_, (pss_one (ps_ret (pe_callTy (T := "list") (kList (K := K) rfl) (by rfl) T.list (by decide +kernel) (pa_cons (kFld (K := K) rfl (pv 0) rfl) pa_nil)))), ?_⟩
    walk_at "go"
    exact x_listT hrr k

def sp_Book_sleep (cB : Addr) : Sp := fun vs H Q _ => ∃ (v : V) (n : Nat) (L : List Int), vs = [v, .int (n : Int)] ∧ Bk cB H v L ∧ 1 ≤ n ∧ n ≤ L.length ∧ Q (.int (slp L n)) H
/-- slots of Book.sleep: 0 self 1 many -/
abbrev s_Book_sleep : Stmt := inClass (top 38) 2
theorem sc_Book_sleep : FnScope ["self", "many"] ["self", "many"] (defScope s_Book_sleep) := ⟨rfl, rfl, rfl, by decide +kernel, rfl, by decide +kernel, by decide +kernel⟩
theorem ok_Book_sleep {cB f fw : Addr} {fd fdw : FuncData} (T : BtT mg t1 t2) (B : BkC K cB) (F : Fun K "sleep" "Book.sleep" s_Book_sleep f fd) (D_is_between : FC P w K mg base 2 "is_between" ["thing", "low", "high"] sp_is_between fw fdw) : FnOk P w K mg base CX0 3 f fd ["self", "many"] (sp_Book_sleep cB) := by
  refine F.ok sc_Book_sleep (fun vs H Q E h => ?_) (fun cdv A outer s H vs Q E hr h => ?_)
  · obtain ⟨_, _, _, rfl, _⟩ := h
    rfl
  · obtain ⟨v, n, L, rfl, ⟨b, dx, r, rfl, hb, hrr⟩, h1, h2, k⟩ := h
    have hcls := B.cls
    have hrows := B.rows
    refine ⟨_, (pss_cons (ps_if (pt_not (pt_val (pe_f D_is_between hr (by decide) (pa_cons (pv 1) (pa_cons pe_int (pa_cons (pe_callB (kLen (K := K) rfl) (by rfl) T.len (by decide +kernel) (pa_cons (kFld (K := K) rfl (pv 0) rfl) pa_nil)) pa_nil)))))) (pss_one ps_never) pss_nil)
      (pss_one (ps_ret (pe_ix (kIxT (K := K) rfl) (kFld (K := K) rfl (pv 0) rfl) (pe_op op_sub (pv 1) pe_int) (fun _ _ => rfl))))), ?_⟩
    walk_at "go"
    refine ⟨n, 1, L.length, by rw [List.length_map]; rfl, by omega, by omega, ?_⟩
    walk_at "go"
    have e : atI (L.map V.int) ((n : Int) - 1) = some (.int (slp L n)) := by
      have e0 : (n : Int) - 1 = ((n - 1 : Nat) : Int) := by omega
      rw [e0]
      refine atI_nat ?_
      rw [List.getElem?_map]
      unfold slp
      rw [List.getD_eq_getElem?_getD, List.getElem?_eq_getElem (by omega)]
      rfl
    refine x_ixT hrr e ?_
    exact k

def sp_slower_book (cB : Addr) : Sp := fun vs H Q _ => ∃ (v : V) (k : Int) (L : List Int), vs = [v, .int k] ∧ Bk cB H v L ∧ 1 ≤ k ∧ k ≤ 1000 ∧ 1 ≤ L.length ∧ L.length ≤ 40 ∧ (∀ x ∈ L, 1 ≤ x ∧ x ≤ 1000000) ∧ ∀ b H', Same H H' → H b = none → Bk cB H' (.ref b) (kL k L) → Q (.ref b) H'
/-- slots of slower_book: 0 book 1 by 2 found 3 one -/
abbrev s_slower_book : Stmt := top 39
theorem sc_slower_book : FnScope ["book", "by", "found", "one"] ["book", "by"] (defScope s_slower_book) := ⟨rfl, rfl, rfl, by decide +kernel, rfl, by decide +kernel, by decide +kernel⟩
theorem ok_slower_book {cB f fl fi : Addr} {fd fdl fdi : FuncData} (T : BtT mg t1 t2) (F : Fun K "slower_book" "slower_book" s_slower_book f fd) (B : BkC K cB) (D_Book : MK P w K mg base cB 4 "Book" ["self", "lengths"] (sp_Book_init cB) fi fdi)
    (D_Book_lengths : MC P w K mg base cB 1 "lengths" ["self"] (sp_Book_lengths cB) fl fdl) : FnOk P w K mg base CX0 6 f fd ["book", "by"] (sp_slower_book cB) := by
  refine F.ok sc_slower_book (fun vs H Q E h => ?_) (fun cdv A outer s H vs Q E hr h => ?_)
  · obtain ⟨_, _, _, rfl, _⟩ := h
    rfl
  · obtain ⟨v, kk, L, rfl, hbk, k0, k1, h1, h40, hL, k⟩ := h
    have c_Book := B.cls
    refine ⟨_, (pss_cons (ps_set (i := 2) sc_slower_book.nd rfl (Or.inl rfl) (pe_lst pa_nil))
      (pss_cons (ps_for PassesOwn.never rfl (pi_list (pe_m0 (pv 0) c_Book D_Book_lengths hr (by decide))) (pg_name (i := 3) sc_slower_book.nd rfl (Or.inl rfl)) (pss_cons (ps_if (pt_cmpR op_gt (pe_op op_mul (pv 3) (pv 1)) (pe_glob (v := .int 1000000000) rfl T.mgMOST_LENGTH ⟨_, rfl⟩) (nomark _)) (pss_one ps_never) pss_nil)
      (pss_one (ps_expr (pe_bm PySem.F.plainAttrs_list PySem.F.slot_list_append PySem.F.type_list_append mt_append (pv 2) (pa_cons (pe_op op_mul (pv 3) (pv 1)) pa_nil))))))
      (pss_one (ps_ret (pe_mk D_Book hr (by decide) (pa_cons (pv 2) pa_nil)))))), ?_⟩
    obtain ⟨b, dx, r, rfl, hb, hrr⟩ := hbk
    walk_at "go"
    refine ⟨len0, fun q hq => ?_⟩
    have hb1 := (same_new (o := .lst []) hq) _ _ hb
    have hr1 := (same_new (o := .lst []) hq) _ _ hrr
    walk_at "go"
    refine ⟨_, L, rfl, ⟨b, dx, r, rfl, hb1, hr1⟩, fun p hp => ?_⟩
    have s2 : Same H (upd (upd H q (.lst [])) p (.lst (L.map V.int))) := same_mut (same_new hq) (none_back (same_new hq) hp)
    have hp2 : (upd (upd H q (.lst [])) p (.lst (L.map V.int))) p = some (.lst (L.map V.int)) := upd_same
    have hqp : q ≠ p := ne_of_none upd_same hp
    walk_at "go"
    have tL : TpAll (upd (upd H q (.lst [])) p (.lst (L.map V.int))) (L.map V.int) (L.map PyData.int) := tpa_of_ints _ _
    refine for_list tL (fun i σ H' => ∃ u, σ = [some (.ref b), some (.int kk), some (.ref q), u] ∧ Same H H' ∧ H' p = some (.lst (L.map V.int)) ∧ H' q = some (.lst (((kL kk L).take i).map V.int)) ∧ Kp (upd (upd H q (.lst [])) p (.lst (L.map V.int))) H') ⟨none, rfl, s2, upd_same, by rw [upd_ne hqp, upd_same]; rfl, Kp.refl _⟩
      (fun i e x σ H2 he ⟨u, es, s3, hp3, hq3, kp3⟩ tx => ?_) (fun σ H2 ⟨u, es, s3, hp3, hq3, kp3⟩ => ?_) hp2 (fun i σ H2 ⟨u, _, _, h, _, kp⟩ => ⟨h, kp⟩)
    · subst es
      cases tp_int tx
      have hem := List.mem_of_getElem? he
      obtain ⟨e1, e2⟩ := hL e hem
      have e3 : e * kk ≤ 1000000 * 1000 := Int.mul_le_mul e2 k1 (by omega) (by omega)
      walk_at "go"
      refine x_mulR (by omega) (by omega) ?_
      walk_at "go"
      refine x_dfalse (by omega) ?_
      walk_at "go"
      refine x_mulR (by omega) (by omega) ?_
      walk_at "go"
      have hl40 : i < L.length := (List.getElem?_eq_some_iff.mp he).1
      refine x_app hq3 (by rw [List.length_map, List.length_take]; exact sz100' (by omega)) ?_
      refine ⟨_, rfl, same_mut s3 (by exact hq), by rw [upd_ne (fun z => hqp z.symm)]; exact hp3, ?_, Kp.trans kp3 (kp_mut hq3 (fun _ z => nomatch z))⟩
      rw [upd_same, take_snoc (l := kL kk L) (x := e * kk) (by unfold kL; rw [List.getElem?_map, he]; rfl), List.map_append]
      rfl
    · subst es
      have hkl : (kL kk L).length = L.length := by unfold kL; rw [List.length_map]
      rw [List.take_of_length_le (by omega)] at hq3
      walk_at "go"
      refine mk_book hq3 (by omega) (by omega) (fun x hx => ?_) (fun b' H' s' hb' bk' => k b' H' (s3.trans s') (none_back s3 hb') bk')
      unfold kL at hx
      obtain ⟨e, hem, rfl⟩ := List.mem_map.mp hx
      obtain ⟨e1, e2⟩ := hL e hem
      have e3 : e * kk ≤ 1000000 * 1000 := Int.mul_le_mul e2 k1 (by omega) (by omega)
      have e4 : 1 * 1 ≤ e * kk := Int.mul_le_mul e1 k0 (by omega) (by omega)
      omega
end
end Sl

set_option Elab.async false
set_option linter.all false
set_option maxRecDepth 100000
set_option maxHeartbeats 4000000
/-! Run as it lies in the heap. -/
namespace Sl
open PySem L2
/-- all but what lies at A is kept -/
def SX (A : List Addr) (H H' : Hp) : Prop := ∀ a u, a ∉ A → H a = some u → H' a = some u
section
variable {A B : List Addr} {H H' H2 : Hp} {p a : Addr} {o u : HO}
theorem SX.refl (A : List Addr) (H : Hp) : SX A H H := fun _ _ _ h => h
theorem SX.trans (s : SX A H H') (t : SX A H' H2) : SX A H H2 := fun a u n h => t a u n (s a u n h)
theorem SX.same (s : SX A H H') (t : Same H' H2) : SX A H H2 := fun a u n h => t a u (s a u n h)
theorem sx_of (s : Same H H') : SX A H H' := fun a u _ h => s a u h
theorem sx_new (h : H p = none) : SX A H (upd H p o) := sx_of (same_new h)
theorem sx_mut (h : p ∈ A) : SX A H (upd H p o) := fun a u n e => by rw [upd_ne (fun z : a = p => n (by rw [z]; exact h))]; exact e
theorem SX.mut (s : SX A H H') (h : p ∈ A) : SX A H (upd H' p o) := s.trans (sx_mut h)
theorem SX.new (s : SX A H H') (h : H' p = none) : SX A H (upd H' p o) := s.trans (sx_new h)
theorem SX.mono (s : SX A H H') (h : ∀ a ∈ A, a ∈ B) : SX B H H' := fun a u n e => s a u (fun z => n (h a z)) e
theorem sx_kp (s : SX A H H') (h : ∀ a ∈ A, ∀ xs, H a ≠ some (.tup xs)) : Kp H H' := fun a xs e => s a _ (fun m => h a m xs e) e
/-- what lies at A was not there -/
theorem sx_same (s : SX A H H') (h : ∀ a ∈ A, H a = none) : Same H H' := fun a u e => s a u (fun m => by rw [h a m] at e; cases e) e
end
structure RunC (K : PySem.W.Frag) (cR : Addr) : Prop where
  cls : Cls K cR
  book : NoAttr K cR "book"
  many : NoAttr K cR "many"
  parts : NoAttr K cR "parts"
  pairs : NoAttr K cR "pairs"
  rows : NoAttr K cR "rows"
  stretches : NoAttr K cR "stretches"
def fl (vb : V) (m : Int) (pp pq rr : Addr) (tl : List (Str × V)) : List (Str × V) := ("book", vb) :: ("many", .int m) :: ("parts", .ref pp) :: ("pairs", .ref pq) :: ("rows", .ref rr) :: tl
structure PtsAt (H : Hp) (kvs : List (Key × V)) (ps : List (Int × Part)) : Prop where
  keys : kvs.map (·.1) = ps.map fun e => (Sum.inl e.1 : Key)
  vals : TpAll H (kvs.map (·.2)) (ps.map fun e => ptD e.2)
def prK (e : (Int × Int) × Int) : List Key × V := ([.inl e.1.1, .inl e.1.2], .int e.2)
def LG (L : List Int) : Prop := ∀ l ∈ L, 0 < l ∧ l < 1073741824
theorem pts_keep {H H' : Hp} (k : Kp H H') {kvs : List (Key × V)} {ps : List (Int × Part)} (h : PtsAt H kvs ps) : PtsAt H' kvs ps := ⟨h.keys, tpa_keep k h.vals⟩
theorem pts_len {H : Hp} {kvs : List (Key × V)} {ps : List (Int × Part)} (h : PtsAt H kvs ps) : kvs.length = ps.length := by
  have := congrArg List.length h.keys
  rwa [List.length_map, List.length_map] at this
theorem pts_get {H : Hp} {kvs : List (Key × V)} {ps : List (Int × Part)} (h : PtsAt H kvs ps) {i : Nat} {e : Int × Part} (he : ps[i]? = some e) : ∃ v, kvs[i]? = some (.inl e.1, v) ∧ Tp H v (ptD e.2) := by
  have hl := pts_len h
  have hi := (List.getElem?_eq_some_iff.mp he).1
  have hk : kvs[i]? = some kvs[i] := List.getElem?_eq_getElem (by omega)
  have e1 : (kvs.map (·.1))[i]? = (ps.map fun e => (Sum.inl e.1 : Key))[i]? := by rw [h.keys]
  rw [List.getElem?_map, List.getElem?_map, hk, he] at e1
  have e1 : kvs[i].1 = (Sum.inl e.1 : Key) := Option.some.inj e1
  obtain ⟨x, hx, tx⟩ := tpa_at h.vals (i := i) (d := ptD e.2) (by rw [List.getElem?_map, he]; rfl)
  rw [List.getElem?_map, hk] at hx
  have hx : kvs[i].2 = x := Option.some.inj hx
  refine ⟨x, ?_, tx⟩
  rw [hk, ← e1, ← hx]
theorem pts_snoc {H : Hp} {kvs : List (Key × V)} {ps : List (Int × Part)} (h : PtsAt H kvs ps) {m : Int} {p : Part} {v : V} (t : Tp H v (ptD p)) : PtsAt H (kvs ++ [(.inl m, v)]) (ps ++ [(m, p)]) := by
  refine ⟨?_, ?_⟩
  · rw [List.map_append, List.map_append, h.keys]; rfl
  · rw [List.map_append, List.map_append]; exact tpa_app h.vals (tpa_one t)
theorem valV_get {κ : Type} [DecidableEq κ] {kvs : List (κ × V)} {k : κ} : valV kvs k = none ↔ k ∉ kvs.map (·.1) := by
  constructor
  · exact valV_not
  · intro h
    cases hv : valV kvs k with
    | none => rfl
    | some v => exact absurd (valV_in hv) h
theorem pts_none {H : Hp} {kvs : List (Key × V)} {ps : List (Int × Part)} (h : PtsAt H kvs ps) {m : Int} (hm : ∀ e ∈ ps, e.1 ≠ m) : valV kvs (.inl m) = none := by
  rw [valV_get, h.keys]
  intro z
  obtain ⟨e, he, z⟩ := List.mem_map.mp z
  exact hm e he (Sum.inl.inj z)
theorem pts_val {H : Hp} : ∀ {kvs : List (Key × V)} {ps : List (Int × Part)}, PtsAt H kvs ps → ∀ {m : Int} {p : Part}, ps.lookup m = some p → ∃ v, valV kvs (.inl m) = some v ∧ Tp H v (ptD p)
  | kvs, [], h, m, p, e => by simp at e
  | [], e :: r, h, m, p, _ => by have := h.keys; simp at this
  | kv :: kvs, e :: r, h, m, p, hl => by
    have hk := h.keys
    rw [List.map_cons, List.map_cons, List.cons.injEq] at hk
    have hv := h.vals
    rw [List.map_cons, List.map_cons] at hv
    cases hv with
    | cons t1 t2 =>
      rw [List.lookup_cons] at hl
      by_cases c : e.1 = m
      · rw [beq_iff_eq.mpr c.symm] at hl
        have hl := Option.some.inj hl
        subst hl
        exact ⟨kv.2, valV_pos (by rw [hk.1, c]), t1⟩
      · have c2 : (m == e.1) = false := by rw [beq_eq_false_iff_ne]; exact fun z => c z.symm
        rw [c2] at hl
        obtain ⟨v, h1, h2⟩ := pts_val (kvs := kvs) (ps := r) ⟨hk.2, t2⟩ hl
        refine ⟨v, ?_, h2⟩
        rw [valV_neg (fun z => c (by rw [hk.1] at z; exact Sum.inl.inj z))]
        exact h1
theorem pts_filter {H : Hp} (c : Int → Bool) : ∀ {kvs : List (Key × V)} {ps : List (Int × Part)}, PtsAt H kvs ps → PtsAt H (kvs.filter fun kv => match kv.1 with | .inl i => c i | .inr _ => false) (ps.filter fun e => c e.1)
  | [], [], h => h
  | [], e :: r, h => by have := h.keys; simp at this
  | kv :: kvs, [], h => by have := h.keys; simp at this
  | kv :: kvs, e :: r, h => by
    have hk := h.keys
    rw [List.map_cons, List.map_cons, List.cons.injEq] at hk
    have hv := h.vals
    rw [List.map_cons, List.map_cons] at hv
    cases hv with
    | cons t1 t2 =>
      have ih := pts_filter c (kvs := kvs) (ps := r) ⟨hk.2, t2⟩
      rw [List.filter_cons, List.filter_cons, hk.1]
      dsimp only
      by_cases z : c e.1 = true
      · rw [if_pos z, if_pos z]
        refine ⟨?_, ?_⟩
        · rw [List.map_cons, List.map_cons, hk.1, ih.keys]
        · rw [List.map_cons, List.map_cons]
          exact .cons t1 ih.vals
      · rw [if_neg z, if_neg z]
        exact ih
theorem tp_pt {H : Hp} {v : V} {p : Part} (h : Tp H v (ptD p)) : ∃ a x y, v = .ref a ∧ H a = some (.tup [x, y]) ∧ Tp H x (goD p.1) ∧ Tp H y (nmD p.2) := tp_pair h
end Sl

set_option Elab.async false
set_option linter.all false
set_option maxRecDepth 100000
set_option maxHeartbeats 4000000
/-! The walks: Run. -/
namespace Sl
open PySem L2
local macro_rules | `(tactic| walk_at "go1") => `(tactic| first
  | with_reducible refine x_seq ?_
  | with_reducible refine x_asg ?_
  | with_reducible refine x_name ?_
  | with_reducible refine x_ret ?_
  | with_reducible refine x_if ?_
  | ((with_reducible refine' x_var ?hv ?_); (case hv => rfl))
  | with_reducible refine x_c ?_
  | with_reducible refine' x_non ?_
  | with_reducible refine x_yes ?_
  | with_reducible refine' iteT ?_
  | with_reducible refine' iteF ?_
  | with_reducible refine x_op ?_
  | with_reducible refine x_I0 ?_
  | with_reducible refine x_test ?_
  | with_reducible refine' x_bl ?_
  | with_reducible refine x_eqI ?_
  | with_reducible refine x_neI ?_
  | with_reducible refine x_cons ?_
  | with_reducible refine x_nil ?_
  | with_reducible refine x_call ?_
  | with_reducible refine x_cb ?_
  | with_reducible refine x_par ?_
  | with_reducible refine x_par2 ?_
  | with_reducible refine x_gcons ?_
  | with_reducible refine x_gnil ?_
  | with_reducible refine x_next ?_
  | with_reducible refine x_drop ?_
  | with_reducible refine x_bm ?_
  | with_reducible refine x_fld ?_
  | with_reducible refine x_dget ?_
  | with_reducible refine x_lc ?_
  | with_reducible refine x_sfld ?_
  | with_reducible refine x_meth ?_
  | with_reducible refine x_dput ?_
  | with_reducible refine x_faug ?_
  | with_reducible refine x_add ?_
  | with_reducible refine x_items ?_
  | ((with_reducible refine' x_itemsI ?ha ?_); (case ha => assumption))
  | ((with_reducible refine' x_faugI ?ha ?hc ?hn ?hl ?_); (case ha => assumption); (case hc => assumption); (case hn => assumption); (case hl => rfl))
  | with_reducible refine x_make ?_
  | with_reducible refine x_andV ?_
  | with_reducible refine x_orV ?_
  | with_reducible refine x_notV ?_
  | with_reducible refine x_chain ?_
  | with_reducible refine x_notT ?_
  | with_reducible refine x_andT ?_
  | with_reducible refine x_orT ?_
  | with_reducible refine x_tB ?_
  | with_reducible refine' iteNT ?_
  | with_reducible refine' iteNF ?_
  | with_reducible refine x_isiI ?_
  | with_reducible refine x_isiB ?_
  | ((with_reducible refine' x_isiL ?ha ?_); (case ha => assumption))
  | ((with_reducible refine' x_len ?ha ?_); (case ha => assumption))
  | ((with_reducible refine' x_lenT ?ha ?_); (case ha => assumption))
  | ((with_reducible refine' x_fldI ?ha ?hc ?hn ?hl ?_); (case ha => assumption); (case hc => assumption); (case hn => assumption); (case hl => rfl))
  | ((with_reducible refine' x_sfldI ?ha ?hc ?hn ?hl ?_); (case ha => assumption); (case hc => assumption); (case hn => assumption); (case hl => (with_unfolding_all decide)))
  | ((with_reducible refine' x_methI ?ha ?hl ?_); (case ha => assumption); (case hl => rfl))
  | with_reducible refine x_for ?_
  | with_reducible refine x_dset ?_
  | ((with_reducible refine' x_isD ?ha ?_); (case ha => assumption))
  | with_reducible refine x_iL ?_
  | with_reducible refine x_iT ?_
  | with_reducible refine x_dK ?_
  | with_reducible refine x_dT ?_
  | ((with_reducible refine' x_tyl ?ha ?_); (case ha => assumption))
  | ((with_reducible refine' x_lct ?ha ?_); (case ha => assumption))
  | ((with_reducible refine' x_tct ?ha ?_); (case ha => assumption))
  | ((with_reducible refine' x_gtup ?ha ?hn ?_); (case ha => assumption); (case hn => rfl))
  | ((with_reducible refine' x_ixT ?ha ?hk ?_); (case ha => assumption); (case hk => rfl))
  | (with_reducible refine x_tup ?_)
  | (with_reducible refine x_lst ?_))
local macro_rules | `(tactic| walk_at "go") => `(tactic| (repeat walk_at "go1"))
section
variable {P : Program} {w : World} {K : PySem.W.Frag} {mg : Str → Option Value} {base : Heap} {t1 t2 : Tok}

theorem x_lock {σ : L2.St} {H : Hp} {D : Ends} {t : TS} {d : Addr} {u : HO} (hd : H d = some u) (m : Mut (some u)) (h : ∀ od, t ⟨fun σ' H' => H' d = some (.frz od u) ∧ D.nx σ' (upd H' d u), fun v H' => H' d = some (.frz od u) ∧ D.rt v (upd H' d u), fun σ' H' => H' d = some (.frz od u) ∧ D.bk σ' (upd H' d u), fun σ' H' => H' d = some (.frz od u) ∧ D.ct σ' (upd H' d u)⟩ σ (upd H d (.frz od u))) : tLock t D σ H := ⟨d, u, hd, m, h⟩
theorem optV_none {o : Option Int} : (!decide (optV o = V.non)) = o.isSome := by
  cases o <;> rfl
def sp_come_in (cB cR : Addr) : Sp := fun vs H Q _ => ∃ (R dx pp pq rr : Addr) (vb nv : V) (tl : List (Str × V)) (L : List Int) (s : RunS) (first : Int) (ns : Nm) (kvs : List (Key × V)), vs = [.ref R, .int first, nv] ∧
  H R = some (.ins cR dx (fl vb s.many pp pq rr tl)) ∧ tl.length ≤ 1 ∧ Bk cB H vb L ∧ H pp = some (.dK kvs) ∧ PtsAt H kvs s.parts ∧ H pq = some (.dT (s.pairs.map prK)) ∧ Tp H nv (nmD ns) ∧ LG L ∧ L.length ≤ 40 ∧ Ok L s ∧ ns ≠ [] ∧ (s.parts.map (·.2.2.length)).sum + ns.length ≤ L.length ∧
  ∀ kvs' H', SX [R, pp, pq] H H' → H' R = some (.ins cR dx (fl vb (s.many + 1) pp pq rr tl)) → H' pp = some (.dK kvs') → PtsAt H' kvs' (comeIn L first ns s).parts → H' pq = some (.dT ((comeIn L first ns s).pairs.map prK)) → Q .non H'
/-- slots of Run.come_in: 0 self 1 first 2 names 3 going 4 other 5 part 6 when -/
abbrev s_Run_come_in : Stmt := inClass (top 28) 1
theorem sc_Run_come_in : FnScope ["self", "first", "names", "going", "other", "part", "when"] ["self", "first", "names"] (defScope s_Run_come_in) := ⟨rfl, rfl, rfl, by decide +kernel, rfl, by decide +kernel, by decide +kernel⟩
theorem ok_come_in {cB cR f fs ff : Addr} {fd fds fdf : FuncData} (T : BtT mg t1 t2) (B : BkC K cB) (C : RunC K cR) (F : Fun K "come_in" "Run.come_in" s_Run_come_in f fd) (D_Book_sleep : MC P w K mg base cB 3 "sleep" ["self", "many"] (sp_Book_sleep cB) fs fds)
    (D_falling_in : FC P w K mg base 4 "falling_in" ["one", "other"] sp_falling_in ff fdf) : FnOk P w K mg base CX0 5 f fd ["self", "first", "names"] (sp_come_in cB cR) := by
  refine F.ok sc_Run_come_in (fun vs H Q E h => ?_) (fun cdv A outer s H vs Q E hr h => ?_)
  · obtain ⟨_, _, _, _, _, _, _, _, _, _, _, _, _, rfl, _⟩ := h
    rfl
  · obtain ⟨R, dx, pp, pq, rr, vb, nv, tl, L, rs, first, ns, kvs, rfl, hR, htl, hbk, hpp, hpt, hpq, tn, hL, h40, ok, hns, htot, k⟩ := h
    have c_Book := B.cls
    have hu := hu_of hr
    have hcls := C.cls
    have n1 := C.book
    have n2 := C.many
    have n3 := C.parts
    have n4 := C.pairs
    refine ⟨_, (pss_cons (ps_set (i := 3) sc_Run_come_in.nd rfl (Or.inl rfl) (pe_tup (pa_cons (pv 1) (pa_cons (pe_m (kFld (K := K) rfl (pv 0) rfl) c_Book D_Book_sleep hr (by decide) (pa_cons (pe_callB (kLen (K := K) rfl) (by rfl) T.len (by decide +kernel) (pa_cons (pv 2) pa_nil)) pa_nil)) pa_nil))))
      (pss_cons (ps_lock (ps_for PassesOwn.never rfl (pi_items (kFld (K := K) rfl (pv 0) rfl)) (pg_tup (n := 2) rfl (pgs_cons (pg_name (i := 4) sc_Run_come_in.nd rfl (Or.inl rfl)) (pgs_cons (pg_name (i := 5) sc_Run_come_in.nd rfl (Or.inl rfl)) pgs_nil))) (pss_cons (ps_set (i := 6) sc_Run_come_in.nd rfl (Or.inl rfl) (pe_f D_falling_in hr (by decide) (pa_cons (pv 3) (pa_cons (pe_ix (kIxT (K := K) rfl) (pv 5) pe_int (fun _ _ => rfl)) pa_nil))))
      (pss_one (ps_if (pt_cmpR op_notN (pv 6) pe_non (nomark _)) (pss_one (ps_dput hu (kFld (K := K) rfl (pv 0) rfl) (pe_tup (pa_cons (kFld (K := K) rfl (pv 0) rfl) (pa_cons (pv 4) pa_nil))) (pv 6) rfl)) pss_nil)))))
      (pss_cons (ps_dput hu (kFld (K := K) rfl (pv 0) rfl) (kFld (K := K) rfl (pv 0) rfl) (pe_tup (pa_cons (pv 3) (pa_cons (pv 2) pa_nil))) rfl)
      (pss_one (ps_fldaug (pv 0) pe_int in_add))))), ?_⟩
    obtain ⟨b, bdx, r, rfl, hb, hrr⟩ := hbk
    obtain ⟨na, rfl, hna⟩ := tp_nm tn
    unfold fl at hR
    walk_at "go"
    refine ⟨_, ns.length, L, by rw [List.length_map]; rfl, ⟨b, bdx, r, rfl, hb, hrr⟩, List.length_pos_iff.mpr hns, by omega, ?_⟩
    walk_at "go"
    refine ⟨len2, fun tg htg => ?_⟩
    generalize hlen : slp L ns.length = len at *
    have hmem : len ∈ L := by rw [← hlen]; exact slp_mem (List.length_pos_iff.mpr hns) (by omega)
    have hLen := hL len hmem
    have r1 : R ≠ pp := ne_of hR hpp (fun z => nomatch z)
    have r2 : R ≠ pq := ne_of hR hpq (fun z => nomatch z)
    have r3 : pp ≠ pq := ne_of hpp hpq (fun z => nomatch z)
    have s0 : Same H (upd H tg (.tup [.int first, .int len])) := same_new htg
    have htg1 : (upd H tg (.tup [.int first, .int len])) tg = some (.tup [.int first, .int len]) := upd_same
    generalize upd H tg (.tup [.int first, .int len]) = X0 at *
    have hR0 := s0 _ _ hR
    have hpp0 := s0 _ _ hpp
    have hpq0 := s0 _ _ hpq
    have hna0 := s0 _ _ hna
    have hpt0 := pts_keep (kp_same s0) hpt
    walk_at "go"
    refine x_lock hpp0 True.intro fun od => ?_
    have hpl : (upd X0 pp (.frz od (.dK kvs))) pp = some (.frz od (.dK kvs)) := upd_same
    have hRl : (upd X0 pp (.frz od (.dK kvs))) R = some (.ins cR dx (("book", .ref b) :: ("many", .int rs.many) :: ("parts", .ref pp) :: ("pairs", .ref pq) :: ("rows", .ref rr) :: tl)) := by rw [upd_ne r1]; exact hR0
    walk_at "go"
    refine for_it walk_items (fun i σ H' => (∃ u v w', σ = [some (.ref R), some (.int first), some (.ref na), some (.ref tg), u, v, w']) ∧ SX [pp, pq] X0 H' ∧ H' pp = some (.frz od (.dK kvs)) ∧ H' pq = some (.dT ((rs.pairs ++ (rs.parts.take i).filterMap (fun e => (fallIn (first, len) e.2.1).map fun w => ((rs.many, e.1), w))).map prK)))
      ⟨⟨none, none, none, rfl⟩, sx_mut List.mem_cons_self, upd_same, by rw [upd_ne (fun z => r3 z.symm)]; simpa using hpq0⟩ (fun i σ H' _ p => p.2.2.1) (fun i x σ H1 H2 hi ⟨⟨u, v, w', es⟩, sx, hp1, hq1⟩ y => ?_) (fun σ H1 ⟨⟨u, v, w', es⟩, sx, hp1, hq1⟩ => ?_)
    · subst es
      have hlp := pts_len hpt
      have he : rs.parts[i]? = some (rs.parts[i]'(by omega)) := List.getElem?_eq_getElem (by omega)
      generalize rs.parts[i]'(by omega) = e at he
      have hem := List.mem_of_getElem? he
      obtain ⟨pv, hkv, tpv⟩ := pts_get hpt0 he
      obtain ⟨T', u1, v1, rfl, hT, rfl, hu1, hv1⟩ := y
      replace hu1 : (kvs[i]?.map fun kv => kV kv.1) = some u1 := hu1
      replace hv1 : kvs[i]?.map Prod.snd = some v1 := hv1
      rw [hkv] at hu1 hv1
      have hu1 : V.int e.1 = u1 := Option.some.inj hu1
      have hv1 : pv = v1 := Option.some.inj hv1
      subst hu1
      subst hv1
      obtain ⟨pa, gx, nx', rfl, hpa, tgx, tnx⟩ := tp_pt tpv
      have kp1 : Kp X0 H1 := sx_kp sx (fun a ha xs z => by
        rcases List.mem_cons.mp ha with h | h
        · subst h; rw [hpp0] at z; cases z
        · rw [List.mem_singleton.mp h, hpq0] at z; cases z)
      have s2 : Same H1 (upd H1 T' (.tup [.int e.1, .ref pa])) := same_new hT
      have hT2 : (upd H1 T' (.tup [.int e.1, .ref pa])) T' = some (.tup [.int e.1, .ref pa]) := upd_same
      generalize upd H1 T' (.tup [.int e.1, .ref pa]) = H2 at *
      have hpa2 := s2 _ _ (kp1 _ _ hpa)
      have htg2 := s2 _ _ (kp1 _ _ htg1)
      walk_at "go"
      have hge : Gg e.2.1 := hL _ (ok.len e hem)
      refine ⟨_, gx, (first, len), e.2.1, rfl, mk_go htg2, tp_keep (Kp.trans kp1 (kp_same s2)) tgx, hLen, hge, fun H3 s3 => ?_⟩
      have sxR : SX [pp, pq] X0 H3 := (sx.same s2).same s3
      have hR3 : H3 R = some (.ins cR dx (("book", .ref b) :: ("many", .int rs.many) :: ("parts", .ref pp) :: ("pairs", .ref pq) :: ("rows", .ref rr) :: tl)) := sxR _ _ (by simp [r1, r2]) hR0
      have hp3 := s3 _ _ (s2 _ _ hp1)
      have hq3 := s3 _ _ (s2 _ _ hq1)
      have htk := take_snoc he
      cases hf : fallIn (first, len) e.2.1 with
      | none =>
        walk_at "go"
        refine x_decN (fun c => absurd rfl c) (fun _ => ?_)
        walk_at "go"
        refine ⟨⟨_, _, _, rfl⟩, sxR, hp3, ?_⟩
        rw [htk, List.filterMap_append]
        simpa [hf] using hq3
      | some wv =>
        walk_at "go"
        refine x_decN (fun _ => ?_) (fun c => nomatch c)
        walk_at "go"
        refine ⟨len2, fun q hq => ?_⟩
        have hqq := ne_of_none hq3 hq
        have hqp := ne_of_none hp3 hq
        have hq4 : (upd H3 q (.tup [.int rs.many, .int e.1])) pq = some (.dT ((rs.pairs ++ (rs.parts.take i).filterMap (fun e => (fallIn (first, len) e.2.1).map fun w => ((rs.many, e.1), w))).map prK)) := by rw [upd_ne hqq]; exact hq3
        have hkn : ([.inl rs.many, .inl e.1] : List Key) ∉ ((rs.pairs ++ (rs.parts.take i).filterMap (fun e => (fallIn (first, len) e.2.1).map fun w => ((rs.many, e.1), w))).map prK).map (·.1) := by
          intro hm
          obtain ⟨d, hd, he1⟩ := List.mem_map.mp hm
          obtain ⟨z, hz, rfl⟩ := List.mem_map.mp hd
          have ez : z.1 = (rs.many, e.1) := by
            have h1 : ([Sum.inl z.1.1, Sum.inl z.1.2] : List Key) = [.inl rs.many, .inl e.1] := he1
            have h2 := List.cons.inj h1
            have h3 := List.cons.inj h2.2
            exact Prod.ext (Sum.inl.inj h2.1) (Sum.inl.inj h3.1)
          rcases List.mem_append.mp hz with hz | hz
          · obtain ⟨p1, q1, m1, _⟩ := ok.prs z hz
            have := (ok.keys _ m1).2
            rw [ez] at this
            exact Int.lt_irrefl _ this
          · obtain ⟨y, hy, ey⟩ := List.mem_filterMap.mp hz
            cases hfy : fallIn (first, len) y.2.1 with
            | none => rw [hfy] at ey; cases ey
            | some w2 =>
              rw [hfy] at ey
              have ey : ((rs.many, y.1), w2) = z := Option.some.inj ey
              subst ey
              have hy1 : y.1 = e.1 := congrArg Prod.snd ez
              have hnd := ok.nd
              rw [← List.take_append_drop (i + 1) rs.parts, htk, List.map_append, List.map_append, List.nodup_append, List.nodup_append] at hnd
              exact hnd.1.2.2 y.1 (List.mem_map.mpr ⟨y, hy, rfl⟩) e.1 (by simp) hy1
        have hsz : ((rs.pairs ++ (rs.parts.take i).filterMap (fun e => (fallIn (first, len) e.2.1).map fun w => ((rs.many, e.1), w))).map prK).length < sizeLine := by
          rw [List.length_map, List.length_append]
          have h1 := List.length_filterMap_le (fun e : Int × Part => (fallIn (first, len) e.2.1).map fun w => (((rs.many, e.1), w) : (Int × Int) × Int)) (rs.parts.take i)
          rw [List.length_take] at h1
          have h2 := ok.psz
          have h3 := ok.big
          have h4 := ok.pos
          exact sz100' (by omega)
        refine ⟨pq, _, rfl, .t (k := [.inl rs.many, .inl e.1]) hq4 upd_same hsz, ?_⟩
        refine ⟨⟨_, _, _, rfl⟩, (sxR.new hq).mut (by simp), ?_, ?_⟩
        · rw [upd_ne r3, upd_ne hqp]
          exact hp3
        · rw [upd_same, putK_new _ (valV_get.mpr hkn), htk, List.filterMap_append, ← List.append_assoc, List.map_append]
          simp [hf, prK, optV]
    · subst es
      have hlp := pts_len hpt
      rw [hlp, List.take_length] at hq1
      refine ⟨hp1, ?_⟩
      have sx2 : SX [pp, pq] X0 (upd H1 pp (.dK kvs)) := sx.mut List.mem_cons_self
      have hp2 : (upd H1 pp (.dK kvs)) pp = some (.dK kvs) := upd_same
      have hq2 : (upd H1 pp (.dK kvs)) pq = some (.dT ((rs.pairs ++ rs.parts.filterMap (fun e => (fallIn (first, len) e.2.1).map fun w => ((rs.many, e.1), w))).map prK)) := by rw [upd_ne (fun z => r3 z.symm)]; exact hq1
      generalize upd H1 pp (.dK kvs) = H2 at *
      have hR2 : H2 R = some (.ins cR dx (("book", .ref b) :: ("many", .int rs.many) :: ("parts", .ref pp) :: ("pairs", .ref pq) :: ("rows", .ref rr) :: tl)) := sx2 _ _ (by simp [r1, r2]) hR0
      have kp2 : Kp X0 H2 := sx_kp sx2 (fun a ha xs z => by
        rcases List.mem_cons.mp ha with h | h
        · subst h; rw [hpp0] at z; cases z
        · rw [List.mem_singleton.mp h, hpq0] at z; cases z)
      have htg3 := kp2 _ _ htg1
      have hna3 := kp2 _ _ hna0
      walk_at "go"
      refine ⟨len2, fun q hq => ?_⟩
      have hR3 : (upd H2 q (.tup [.ref tg, .ref na])) R = some (.ins cR dx (("book", .ref b) :: ("many", .int rs.many) :: ("parts", .ref pp) :: ("pairs", .ref pq) :: ("rows", .ref rr) :: tl)) := by rw [upd_ne (ne_of_none hR2 hq)]; exact hR2
      have hp3 : (upd H2 q (.tup [.ref tg, .ref na])) pp = some (.dK kvs) := by rw [upd_ne (ne_of_none hp2 hq)]; exact hp2
      have hq3 : (upd H2 q (.tup [.ref tg, .ref na])) pq = some (.dT ((rs.pairs ++ rs.parts.filterMap (fun e => (fallIn (first, len) e.2.1).map fun w => ((rs.many, e.1), w))).map prK)) := by rw [upd_ne (ne_of_none hq2 hq)]; exact hq2
      have s4 : Same H2 (upd H2 q (.tup [.ref tg, .ref na])) := same_new hq
      have hqq : (upd H2 q (.tup [.ref tg, .ref na])) q = some (.tup [.ref tg, .ref na]) := upd_same
      generalize upd H2 q (.tup [.ref tg, .ref na]) = H3 at *
      walk_at "go"
      have hsz : kvs.length < sizeLine := by
        have h3 := ok.big
        have h4 := ok.pos
        exact sz100' (by omega)
      refine ⟨pp, _, rfl, .k (k := .inl rs.many) hp3 hsz, ?_⟩
      rw [putK_new _ (pts_none hpt (fun e he z => by have := (ok.keys e he).2; omega))]
      have hR4 : (upd H3 pp (.dK (kvs ++ [(.inl rs.many, .ref q)]))) R = some (.ins cR dx (("book", .ref b) :: ("many", .int rs.many) :: ("parts", .ref pp) :: ("pairs", .ref pq) :: ("rows", .ref rr) :: tl)) := by rw [upd_ne r1]; exact hR3
      walk_at "go"
      refine ⟨_, _, hR4, by show tl.length + 5 < 1000; omega, ?_⟩
      walk_at "go"
      have sxA : SX [R, pp, pq] H H3 := ((sx_of s0).trans (sx2.mono (by intro a ha; exact List.mem_cons_of_mem _ ha))).same s4
      have sxB : SX [R, pp, pq] H3 (upd (upd H3 pp (.dK (kvs ++ [(.inl rs.many, .ref q)]))) R (.ins cR dx (putF "many" (.int (rs.many + 1)) (("book", .ref b) :: ("many", .int rs.many) :: ("parts", .ref pp) :: ("pairs", .ref pq) :: ("rows", .ref rr) :: tl)))) := (sx_mut (by simp)).mut (by simp)
      have kpB : Kp H3 (upd (upd H3 pp (.dK (kvs ++ [(.inl rs.many, .ref q)]))) R (.ins cR dx (putF "many" (.int (rs.many + 1)) (("book", .ref b) :: ("many", .int rs.many) :: ("parts", .ref pp) :: ("pairs", .ref pq) :: ("rows", .ref rr) :: tl)))) := Kp.trans (kp_mut hp3 (fun _ z => nomatch z)) (kp_mut hR4 (fun _ z => nomatch z))
      refine k (kvs ++ [(.inl rs.many, .ref q)]) _ (sxA.trans sxB) ?_ ?_ ?_ ?_
      · rw [upd_same]; rfl
      · rw [upd_ne (fun z => r1 z.symm), upd_same]
      · unfold comeIn
        rw [hlen]
        refine pts_snoc (pts_keep (Kp.trans (Kp.trans kp2 (kp_same s4)) kpB) hpt0) (mk_pair (kpB _ _ hqq) (mk_go (kpB _ _ (s4 _ _ htg3))) (mk_nm (kpB _ _ (s4 _ _ hna3))))
      · rw [upd_ne (fun z => r2 z.symm), upd_ne (fun z => r3 z.symm)]
        unfold comeIn
        rw [hlen]
        exact hq3
end
end Sl

set_option Elab.async false
set_option linter.all false
set_option maxRecDepth 100000
set_option maxHeartbeats 4000000
/-! Comprehensions over locked dicts; Run with its stretches. -/
namespace Sl
open PySem L2
section
variable {σ : L2.St} {H : Hp} {Q : VK} {D : Ends} {te : TE} {K : PySem.W.Frag}
theorem x_lockE {t : TE} {d : Addr} {u : HO} (hd : H d = some u) (m : Mut (some u)) (h : ∀ od, t σ (upd H d (.frz od u)) fun v H' => H' d = some (.frz od u) ∧ Q v (upd H' d u)) : tLockE t σ H Q := ⟨d, u, hd, m, h⟩
theorem same_unlock {H1 : Hp} {d : Addr} {u : HO} {od : Obj} (hd : H d = some u) (s : Same (upd H d (.frz od u)) H1) : Same H (upd H1 d u) := fun a v e => by
  by_cases c : a = d
  · subst c
    rw [upd_same]
    rw [hd] at e
    exact e
  · rw [upd_ne c]
    exact s _ _ (by rw [upd_ne c]; exact e)
theorem kp_lock {d : Addr} {u : HO} (hd : H d = some u) (hu : ∀ xs, u ≠ .tup xs) {o : HO} : Kp H (upd H d o) := kp_mut hd hu
theorem kp_unl {H1 : Hp} {d : Addr} {u u' : HO} {od : Obj} (s : Same (upd H d (.frz od u')) H1) : Kp H1 (upd H1 d u) := by
  have : H1 d = some (.frz od u') := s _ _ upd_same
  exact kp_mut this (fun _ z => nomatch z)
theorem x_iKeys {R : It → Hp → Prop} (h : te σ H fun x H1 => ∃ d o, x = .ref d ∧ ((∃ kvs, H1 d = some (.frz o (.dK kvs)) ∧ R (Itk d o kvs) H1) ∨ ∃ kvs, H1 d = some (.frz o (.dT kvs)) ∧ R (Itkt d o kvs) H1)) : iKeys te σ H R := h
theorem x_keysK {d : Addr} {o : Obj} {kvs : List (Key × V)} {R : Addr → Obj → List (Key × V) → Prop} {S : Addr → Obj → List (List Key × V) → Prop} (ha : H d = some (.frz o (.dK kvs))) (h : R d o kvs) : ∃ d' o', V.ref d = .ref d' ∧ ((∃ kvs, H d' = some (.frz o' (.dK kvs)) ∧ R d' o' kvs) ∨ ∃ kvs, H d' = some (.frz o' (.dT kvs)) ∧ S d' o' kvs) := ⟨d, o, rfl, .inl ⟨kvs, ha, h⟩⟩
theorem x_keysT {d : Addr} {o : Obj} {kvs : List (List Key × V)} {R : Addr → Obj → List (Key × V) → Prop} {S : Addr → Obj → List (List Key × V) → Prop} (ha : H d = some (.frz o (.dT kvs))) (h : S d o kvs) : ∃ d' o', V.ref d = .ref d' ∧ ((∃ kvs, H d' = some (.frz o' (.dK kvs)) ∧ R d' o' kvs) ∨ ∃ kvs, H d' = some (.frz o' (.dT kvs)) ∧ S d' o' kvs) := ⟨d, o, rfl, .inr ⟨kvs, ha, h⟩⟩
theorem x_itemsT {R : It → Hp → Prop} (h : te σ H fun x H1 => ∃ d o kvs, x = .ref d ∧ H1 d = some (.frz o (.dT kvs)) ∧ R (ItiT d o kvs) H1) : iItemsT te σ H R := h
theorem x_itemsTI {d : Addr} {o : Obj} {kvs : List (List Key × V)} {N : Addr → Obj → List (List Key × V) → Prop} (ha : H d = some (.frz o (.dT kvs))) (h : N d o kvs) : ∃ d' o' kvs', V.ref d = .ref d' ∧ H d' = some (.frz o' (.dT kvs')) ∧ N d' o' kvs' := ⟨d, o, kvs, rfl, ha, h⟩
theorem x_seqM {t u : TS} (M : L2.St → Hp → Prop) (h1 : ∀ N : L2.St → Hp → Prop, (∀ σ' H', M σ' H' → N σ' H') → t { D with nx := N } σ H) (h2 : ∀ σ' H', M σ' H' → u D σ' H') : tSeq t u D σ H := h1 (u D) h2
theorem x_dgF {a : Addr} {o : Obj} {kvs : List (Key × V)} {k : Key} {v : V} {N : V → Prop} (ha : H a = some (.frz o (.dK kvs))) (hk : valV kvs k = some v) (h : N v) : ∃ b w, V.ref a = .ref b ∧ DGet H b (kV k) (some w) ∧ N w := ⟨a, v, rfl, hk ▸ .inl ⟨kvs, k, .inr ⟨o, ha⟩, rfl, rfl⟩, h⟩
theorem x_dgFT {a q : Addr} {o : Obj} {kvs : List (List Key × V)} {k : List Key} {v : V} {N : V → Prop} (ha : H a = some (.frz o (.dT kvs))) (hq : H q = some (.tup (k.map kV))) (hk : valV kvs k = some v) (h : N v) : ∃ b w, V.ref a = .ref b ∧ DGet H b (.ref q) (some w) ∧ N w := ⟨a, v, rfl, hk ▸ .inr ⟨kvs, k, q, .inr ⟨o, ha⟩, rfl, hq, rfl⟩, h⟩
end
section
variable {σ : L2.St} {H : Hp} {Q : VK} {D : Ends} {te : TE} {K : PySem.W.Frag}
theorem x_un {r : V → Hp → VK → Prop} (h : te σ H fun x H1 => r x H1 Q) : tUn r te σ H Q := h
theorem x_unI {i : Int} {g : Int → V} (h : Q (g i) H) : rU g (.int i) H Q := ⟨i, rfl, h⟩
theorem x_zip {ta : TA} {R : It → Hp → Prop} (h : ta σ H fun vs H1 => ∃ a b xs ys, vs = [.ref a, .ref b] ∧ SqL K H1 a xs ∧ SqL K H1 b ys ∧ R (Itz K a b) H1) : iZip K ta σ H R := h
theorem x_sl {r : V → Option Int → Option Int → Hp → VK → Prop} {tl th : TO} (h : te σ H fun x H1 => tl σ H1 fun l H2 => th σ H2 fun u H3 => r x l u H3 Q) : tSl r te tl th σ H Q := h
theorem x_nopart {N : Option Int → Hp → Prop} (h : N none H) : tNoPart σ H N := h
theorem x_part {N : Option Int → Hp → Prop} (h : te σ H fun x H1 => ∃ i, x = .int i ∧ N (some i) H1) : tPart te σ H N := h
theorem x_partI {i : Int} {N : Int → Prop} (h : N i) : ∃ j, V.int i = .int j ∧ N j := ⟨i, rfl, h⟩
theorem x_rng1 {ta : TA} {R : It → Hp → Prop} (h : ta σ H fun vs H1 => ∃ j : Int, vs = [.int j] ∧ -(2 ^ 62) ≤ j ∧ j < 2 ^ 62 ∧ R (Itr 0 j.toNat) H1) : iRng1 ta σ H R := h
theorem x_rng2 {ta : TA} {R : It → Hp → Prop} (h : ta σ H fun vs H1 => ∃ i j : Int, vs = [.int i, .int j] ∧ (-(2 ^ 62) ≤ i ∧ i < 2 ^ 62 ∧ -(2 ^ 62) ≤ j ∧ j < 2 ^ 62) ∧ R (Itr i (j - i).toNat) H1) : iRng2 ta σ H R := h
theorem x_lc2 {wi : TI} {g : TG} {tt : TT} {wi1 : TI} {g1 : TG} {tt1 : TT} {vs vs1 : List Nat} (h : wi σ H fun J H1 => ∀ D, H1 D = none → ∃ W : Nat → Nat → Hp → Prop, (∃ m, W 0 m (upd H1 D (.lst []))) ∧ ∀ i m H, W i m H →
  (J.stop i H ∧ Q (.ref D) H) ∨ (J.go i H ∧ ∃ Nx : Hp → Prop, (∀ H', Nx H' → ∃ m', m' < m ∧ W (i + 1) m' H') ∧ ∀ x H', J.yld i H x H' → g x (wipe σ vs) H' fun σ2 H2 => wipe σ2 vs = wipe σ vs ∧ tt σ2 H2 fun b H3 =>
    if b = true then wi1 σ2 H3 fun J1 H4 => ∃ W1 : Nat → Nat → Hp → Prop, (∃ m, W1 0 m H4) ∧ ∀ j k H, W1 j k H →
      (J1.stop j H ∧ Nx H) ∨ (J1.go j H ∧ ∃ Nx1 : Hp → Prop, (∀ H', Nx1 H' → ∃ k', k' < k ∧ W1 (j + 1) k' H') ∧ ∀ x H', J1.yld j H x H' → g1 x (wipe σ2 vs1) H' fun σ3 H5 => wipe σ3 vs1 = wipe σ2 vs1 ∧ tt1 σ3 H5 fun b H6 =>
        if b = true then te σ3 H6 fun y H7 => ∃ acc, H7 D = some (.lst acc) ∧ acc.length < sizeLine ∧ Nx1 (upd H7 D (.lst (acc ++ [y]))) else Nx1 H6)
    else Nx H3)) : tLc2 wi g tt wi1 g1 tt1 te vs vs1 σ H Q := h
theorem x_augS {to ti ue : TE} {tget : V → V → Hp → VK → Prop} {tip : TIp} {tset : TSet} (h : to σ H fun o H1 => ti σ H1 fun i H2 => tget o i H2 fun x H3 => ue σ H3 fun y H4 => tip x y H4 fun z H5 => tset o i z H5 fun H6 => D.nx σ H6) : tAugS to ti ue tget tip tset D σ H := h
theorem x_getL {a : Addr} {xs : List V} {i : Nat} {v : V} (ha : H a = some (.lst xs)) (hi : xs[i]? = some v) (h : Q v H) : rGetL K (.ref a) (.int (i : Int)) H Q := ⟨a, xs, i, v, rfl, rfl, sql ha, hi, h⟩
theorem x_ipI {f : Int → Int → Int} {i j : Int} (h : Q (.int (f i j)) H) : ipI f (.int i) (.int j) H Q := ⟨i, j, rfl, rfl, h⟩
theorem x_setL {a : Addr} {xs : List V} {k : Int} {j : Nat} {v : V} {N : Hp → Prop} (ha : H a = some (.lst xs)) (hj : ixN xs.length k = some j) (h : N (upd H a (.lst (xs.set j v)))) : rSetL (.ref a) (.int k) v H N := ⟨a, xs, k, j, rfl, rfl, ha, hj, h⟩
theorem x_gsub {to ti : TE} {t : TSet} {v : V} {N : L2.St → Hp → Prop} (h : to σ H fun o H1 => ti σ H1 fun i H2 => t o i v H2 fun H3 => N σ H3) : gSub to ti t v σ H N := h
theorem x_ixLc {a : Addr} {xs : List V} {k : Int} {v : V} (ha : H a = some (.lst xs)) (hk : atI xs k = some v) (h : Q v H) : rIxL K (.ref a) (.int k) H Q := ⟨a, xs, k, v, rfl, rfl, sql ha, hk, h⟩
theorem x_slS {a : Addr} {xs : List V} {lo hi : Option Int} (ha : SqL K H a xs) (h : ∀ p, H p = none → Q (.ref p) (upd H p (.lst (cutV xs lo hi)))) : rSlL K (.ref a) lo hi H Q := ⟨a, xs, rfl, ha, h⟩
theorem x_abs {i : Int} (h : Q (.int (if i < 0 then -i else i)) H) : ∃ j, [V.int i] = [.int j] ∧ Q (.int (if j < 0 then -j else j)) H := ⟨i, rfl, h⟩
theorem pget_listK {X : Cx} (h : X.K = K) : PGet X (rGetL K) := h ▸ pget_list
theorem slistK {X : Cx} (h : X.K = K) : SlR X (rSlL K) := h ▸ sl_list
theorem x_slL {a : Addr} {xs : List V} {lo hi : Option Int} (ha : H a = some (.lst xs)) (h : ∀ p, H p = none → Q (.ref p) (upd H p (.lst (cutV xs lo hi)))) : rSlL K (.ref a) lo hi H Q := ⟨a, xs, rfl, sql ha, h⟩
theorem x_cat {a b : Addr} {xs ys : List V} (ha : H a = some (.lst xs)) (hb : H b = some (.lst ys)) (hz : xs.length + ys.length ≤ sizeLine) (h : ∀ p, H p = none → Q (.ref p) (upd H p (.lst (xs ++ ys)))) : rCat (.ref a) (.ref b) H Q := ⟨a, b, xs, ys, rfl, rfl, ha, hb, hz, h⟩
def rMin2 : List V → Hp → VK → Prop := fun xs H Q => ∃ i j, xs = [V.int i, V.int j] ∧ Q (.int (if j < i then j else i)) H
def rMax2 : List V → Hp → VK → Prop := fun xs H Q => ∃ i j, xs = [V.int i, V.int j] ∧ Q (.int (if j > i then j else i)) H
theorem kMin2 {X : Cx} (hc : X.calm = true) : CallR X (.builtin "min") rMin2 := call_min2 hc
theorem kMax2 {X : Cx} (hc : X.calm = true) : CallR X (.builtin "max") rMax2 := call_max2 hc
theorem x_min2 {i j : Int} (h : Q (.int (min i j)) H) : rMin2 [.int i, .int j] H Q := ⟨i, j, rfl, by
  have e : (if j < i then j else i) = min i j := by
    split
    · rw [Int.min_eq_right (by omega)]
    · rw [Int.min_eq_left (by omega)]
  rw [e]; exact h⟩
theorem x_max2 {i j : Int} (h : Q (.int (max i j)) H) : rMax2 [.int i, .int j] H Q := ⟨i, j, rfl, by
  have e : (if j > i then j else i) = max i j := by
    split
    · rw [Int.max_eq_right (by omega)]
    · rw [Int.max_eq_left (by omega)]
  rw [e]; exact h⟩
theorem cut_from {xs : List V} {k : Nat} : cutV xs (some (k : Int)) none = xs.drop k := by
  unfold cutV
  rw [HT.sIx_nat, HT.sIx_none]
  by_cases h : k ≤ xs.length
  · rw [Nat.min_eq_left h, List.take_of_length_le (by rw [List.length_drop]; omega)]
  · rw [Nat.min_eq_right (by omega), List.drop_length, List.drop_of_length_le (by omega), List.take_nil]
theorem cut_to {xs : List V} {k : Nat} : cutV xs none (some (k : Int)) = xs.take k := by
  unfold cutV
  rw [HT.sIx_nat, HT.sIx_none, List.drop_zero, Nat.sub_zero]
  by_cases h : k ≤ xs.length
  · rw [Nat.min_eq_left h]
  · rw [Nat.min_eq_right (by omega), List.take_length, List.take_of_length_le (by omega)]
end
theorem x_lv {σ : L2.St} {H : Hp} {Q : VK} {te : TE} (h : te σ H fun x H1 => ∃ (d : Addr) (kvs : List (Key × V)), x = .ref d ∧ H1 d = some (.dK kvs) ∧ ∀ p, H1 p = none → Q (.ref p) (upd H1 p (.lst (kvs.map (·.2))))) : tListVals te σ H Q := h
theorem valV_nth {κ : Type} [DecidableEq κ] : ∀ {kvs : List (κ × V)} {i : Nat} {k : κ} {v : V}, (kvs.map (·.1)).Nodup → kvs[i]? = some (k, v) → valV kvs k = some v
  | [], i, k, v, _, h => by simp at h
  | x :: r, 0, k, v, _, h => by
    have h : x = (k, v) := Option.some.inj h
    subst h
    exact valV_pos rfl
  | x :: r, i + 1, k, v, n, h => by
    rw [List.map_cons, List.nodup_cons] at n
    have h : r[i]? = some (k, v) := h
    have hm : k ∈ r.map (·.1) := List.mem_map.mpr ⟨_, List.mem_of_getElem? h, rfl⟩
    rw [valV_neg (fun z => n.1 (z ▸ hm))]
    exact valV_nth n.2 h
section
variable {σ : L2.St} {H : Hp} {Q : VK} {K : PySem.W.Frag} {g : TG} {tt : TT} {tk tv : TE} {vs : List Nat} {C d : Addr} {od : Obj} {Qd : Hp → Prop}
theorem x_dc {wi : TI} (h : wi σ H fun J H1 => ∀ D, H1 D = none → ∃ W : Nat → Nat → Hp → Prop, (∃ m, W 0 m (upd H1 D (.dK []))) ∧ ∀ i m H, W i m H →
  (J.stop i H ∧ Q (.ref D) H) ∨ (J.go i H ∧ ∃ Nx : Hp → Prop, (∀ H', Nx H' → ∃ m', m' < m ∧ W (i + 1) m' H') ∧ ∀ x H', J.yld i H x H' → g x (wipe σ vs) H' fun σ2 H2 => wipe σ2 vs = wipe σ vs ∧ tt σ2 H2 fun b H3 =>
    if b = true then tk σ2 H3 fun y H4 => tv σ2 H4 fun z H5 => ∃ kvs k, y = kV k ∧ H5 D = some (.dK kvs) ∧ kvs.length < sizeLine ∧ Nx (upd H5 D (.dK (putK kvs k z))) else Nx H3)) : tDc wi g tt tk tv vs σ H Q := h
theorem x_dcT {wi : TI} (h : wi σ H fun J H1 => ∀ D, H1 D = none → ∃ (n : Nat) (Pv : Nat → Hp → Prop), Pv 0 (upd H1 D (.dT [])) ∧ ∀ i H, Pv i H →
  (J.stop i H ∧ Q (.ref D) H) ∨ (i < n ∧ J.go i H ∧ ∀ x H', J.yld i H x H' → g x (wipe σ vs) H' fun σ2 H2 => wipe σ2 vs = wipe σ vs ∧ tt σ2 H2 fun c H3 =>
    if c = true then tk σ2 H3 fun y H4 => tv σ2 H4 fun z H5 => ∃ kvs k b, y = .ref b ∧ H5 D = some (.dT kvs) ∧ H5 b = some (.tup (k.map kV)) ∧ kvs.length < sizeLine ∧ Pv (i + 1) (upd H5 D (.dT (putK kvs k z))) else Pv (i + 1) H3)) : tDcT wi g tt tk tv vs σ H Q := h
theorem flt_snoc {α : Type} {l : List α} {c : α → Bool} {i : Nat} {x : α} (h : l[i]? = some x) : (l.take (i + 1)).filter c = if c x = true then (l.take i).filter c ++ [x] else (l.take i).filter c := by
  rw [take_snoc h, List.filter_append, List.filter_cons]
  split
  · rfl
  · simp
theorem key_new {κ : Type} {kvs : List (κ × V)} {c : κ × V → Bool} {i : Nat} {x : κ × V} (n : (kvs.map (·.1)).Nodup) (h : kvs[i]? = some x) : x.1 ∉ ((kvs.take i).filter c).map (·.1) := by
  intro m
  obtain ⟨y, hy, e⟩ := List.mem_map.mp m
  have hy := (List.mem_filter.mp hy).1
  rw [← List.take_append_drop (i + 1) kvs, take_snoc h, List.map_append, List.map_append, List.nodup_append, List.nodup_append] at n
  exact n.1.2.2 y.1 (List.mem_map.mpr ⟨y, hy, rfl⟩) x.1 (by simp) e
theorem dc_keys {kvs : List (Key × V)} (c : Key → Bool) (hnd : (kvs.map (·.1)).Nodup) (hsz : kvs.length < sizeLine) (hp : H d = some (.frz od (.dK kvs))) (hC : H C = none)
    (hs : ∀ k v H2 (Kb : V → V → Hp → Prop) (Kf : Hp → Prop), valV kvs k = some v → Same H H2 → (∀ H4, c k = true → Same H2 H4 → Kb (kV k) v H4) → (∀ H3, c k = false → Same H2 H3 → Kf H3) →
      g (kV k) (wipe σ vs) H2 fun σ2 H3 => wipe σ2 vs = wipe σ vs ∧ tt σ2 H3 fun b H4 => if b = true then tk σ2 H4 fun y H5 => tv σ2 H5 fun z H6 => Kb y z H6 else Kf H4)
    (hd : ∀ H', Same H H' → H' C = some (.dK (kvs.filter fun kv => c kv.1)) → Qd H') : ∃ W : Nat → Nat → Hp → Prop, (∃ m, W 0 m (upd H C (.dK []))) ∧ ∀ i m H, W i m H →
  ((Itk d od kvs).stop i H ∧ Qd H) ∨ ((Itk d od kvs).go i H ∧ ∃ Nx : Hp → Prop, (∀ H', Nx H' → ∃ m', m' < m ∧ W (i + 1) m' H') ∧ ∀ x H', (Itk d od kvs).yld i H x H' → g x (wipe σ vs) H' fun σ2 H2 => wipe σ2 vs = wipe σ vs ∧ tt σ2 H2 fun b H3 =>
    if b = true then tk σ2 H3 fun y H4 => tv σ2 H4 fun z H5 => ∃ kvs k, y = kV k ∧ H5 C = some (.dK kvs) ∧ kvs.length < sizeLine ∧ Nx (upd H5 C (.dK (putK kvs k z))) else Nx H3) := by
  refine ⟨fun i m H' => m = kvs.length - i ∧ i ≤ kvs.length ∧ Same H H' ∧ H' C = some (.dK ((kvs.take i).filter fun kv => c kv.1)), ⟨kvs.length, by simp, Nat.zero_le _, same_new hC, upd_same⟩, ?_⟩
  rintro i m H1 ⟨rfl, hi, s1, hc1⟩
  by_cases hlt : i < kvs.length
  · refine .inr ⟨⟨s1 _ _ hp, hlt⟩, fun H' => Same H H' ∧ H' C = some (.dK ((kvs.take (i + 1)).filter fun kv => c kv.1)), fun H' p => ⟨kvs.length - (i + 1), by omega, rfl, by omega, p.1, p.2⟩, ?_⟩
    rintro x H2 ⟨rfl, k, v, hk, rfl⟩
    have hkn : k ∉ ((kvs.take i).filter fun kv => c kv.1).map (·.1) := key_new (x := (k, v)) hnd hk
    refine hs k v _ _ _ (valV_nth hnd hk) s1 (fun H4 hck s4 => ?_) fun H3 hck s3 => ?_
    · refine ⟨_, k, rfl, s4 _ _ hc1, ?_, same_mut (s1.trans s4) hC, ?_⟩
      · have := List.length_filter_le (fun kv : Key × V => c kv.1) (kvs.take i)
        rw [List.length_take] at this
        omega
      · rw [upd_same, putK_new _ (valV_get.mpr hkn), flt_snoc hk, if_pos hck]
    · refine ⟨s1.trans s3, ?_⟩
      rw [flt_snoc hk, if_neg (by show ¬ c k = true; rw [hck]; decide)]
      exact s3 _ _ hc1
  · have e : i = kvs.length := by omega
    subst e
    rw [List.take_length] at hc1
    exact .inl ⟨⟨s1 _ _ hp, Nat.le_refl _⟩, hd H1 s1 hc1⟩
theorem dcT_keys {kvs : List (List Key × V)} (c : List Key → Bool) (hnd : (kvs.map (·.1)).Nodup) (hsz : kvs.length < sizeLine) (hp : H d = some (.frz od (.dT kvs))) (hC : H C = none)
    (hs : ∀ k v q H2 (Kb : V → V → Hp → Prop) (Kf : Hp → Prop), valV kvs k = some v → Same H H2 → H2 q = some (.tup (k.map kV)) → (∀ H4, c k = true → Same H2 H4 → Kb (.ref q) v H4) → (∀ H3, c k = false → Same H2 H3 → Kf H3) →
      g (.ref q) (wipe σ vs) H2 fun σ2 H3 => wipe σ2 vs = wipe σ vs ∧ tt σ2 H3 fun b H4 => if b = true then tk σ2 H4 fun y H5 => tv σ2 H5 fun z H6 => Kb y z H6 else Kf H4)
    (hd : ∀ H', Same H H' → H' C = some (.dT (kvs.filter fun kv => c kv.1)) → Qd H') : ∃ (n : Nat) (Pv : Nat → Hp → Prop), Pv 0 (upd H C (.dT [])) ∧ ∀ i H, Pv i H →
  ((Itkt d od kvs).stop i H ∧ Qd H) ∨ (i < n ∧ (Itkt d od kvs).go i H ∧ ∀ x H', (Itkt d od kvs).yld i H x H' → g x (wipe σ vs) H' fun σ2 H2 => wipe σ2 vs = wipe σ vs ∧ tt σ2 H2 fun b H3 =>
    if b = true then tk σ2 H3 fun y H4 => tv σ2 H4 fun z H5 => ∃ kvs k b, y = .ref b ∧ H5 C = some (.dT kvs) ∧ H5 b = some (.tup (k.map kV)) ∧ kvs.length < sizeLine ∧ Pv (i + 1) (upd H5 C (.dT (putK kvs k z))) else Pv (i + 1) H3) := by
  refine ⟨kvs.length, fun i H' => i ≤ kvs.length ∧ Same H H' ∧ H' C = some (.dT ((kvs.take i).filter fun kv => c kv.1)), ⟨Nat.zero_le _, same_new hC, upd_same⟩, ?_⟩
  rintro i H1 ⟨hi, s1, hc1⟩
  by_cases hlt : i < kvs.length
  · refine .inr ⟨hlt, ⟨s1 _ _ hp, hlt⟩, ?_⟩
    rintro x H2 ⟨rfl, k, v, q, hk, rfl, hq⟩
    have hkn : k ∉ ((kvs.take i).filter fun kv => c kv.1).map (·.1) := key_new (x := (k, v)) hnd hk
    refine hs k v q _ _ _ (valV_nth hnd hk) s1 hq (fun H4 hck s4 => ?_) fun H3 hck s3 => ?_
    · refine ⟨_, k, q, rfl, s4 _ _ hc1, s4 _ _ hq, ?_, by omega, same_mut (s1.trans s4) hC, ?_⟩
      · have := List.length_filter_le (fun kv : List Key × V => c kv.1) (kvs.take i)
        rw [List.length_take] at this
        omega
      · rw [upd_same, putK_new _ (valV_get.mpr hkn), flt_snoc hk, if_pos hck]
    · refine ⟨by omega, s1.trans s3, ?_⟩
      rw [flt_snoc hk, if_neg (by show ¬ c k = true; rw [hck]; decide)]
      exact s3 _ _ hc1
  · have e : i = kvs.length := by omega
    subst e
    rw [List.take_length] at hc1
    exact .inl ⟨⟨s1 _ _ hp, Nat.le_refl _⟩, hd H1 s1 hc1⟩
theorem walk_itemsT {kvs : List (List Key × V)} : Walk (ItiT d od kvs) kvs.length (fun H => H d = some (.frz od (.dT kvs))) (fun i H x H' => ∃ T k v q, kvs[i]? = some (k, v) ∧ H q = some (.tup (k.map kV)) ∧ x = .ref T ∧ H T = none ∧ H' = upd H T (.tup [.ref q, v])) :=
  ⟨fun _ _ hi q => ⟨q, hi⟩, fun _ q => ⟨q, Nat.le_refl _⟩, fun _ _ _ _ _ _ y => y⟩
end
theorem nd_map {α β : Type} {f : α → β} (hf : ∀ a b, f a = f b → a = b) : ∀ {l : List α}, l.Nodup → (l.map f).Nodup
  | [], _ => List.nodup_nil
  | x :: r, n => by
    rw [List.nodup_cons] at n
    rw [List.map_cons, List.nodup_cons]
    refine ⟨fun m => ?_, nd_map hf n.2⟩
    obtain ⟨y, hy, e⟩ := List.mem_map.mp m
    rw [hf _ _ e] at hy
    exact n.1 hy
def keyC (c : Int → Bool) : Key → Bool
  | .inl i => c i
  | .inr _ => false
theorem pts_keyC {H : Hp} (c : Int → Bool) {kvs : List (Key × V)} {ps : List (Int × Part)} (h : PtsAt H kvs ps) : PtsAt H (kvs.filter fun kv => keyC c kv.1) (ps.filter fun e => c e.1) := by
  have e : (fun kv : Key × V => keyC c kv.1) = fun kv => match kv.1 with | .inl i => c i | .inr _ => false := by
    funext kv
    obtain ⟨k, v⟩ := kv
    cases k <;> rfl
  rw [e]
  exact pts_filter c h
theorem pts_nd {H : Hp} {kvs : List (Key × V)} {ps : List (Int × Part)} (h : PtsAt H kvs ps) (n : (ps.map (·.1)).Nodup) : (kvs.map (·.1)).Nodup := by
  rw [h.keys]
  have e : ps.map (fun e => (Sum.inl e.1 : Key)) = (ps.map (·.1)).map Sum.inl := by rw [List.map_map]; rfl
  rw [e]
  exact nd_map (f := (Sum.inl : Int → Key)) (fun _ _ z => Sum.inl.inj z) n
theorem prK_nd {ps : List ((Int × Int) × Int)} (n : (ps.map (·.1)).Nodup) : ((ps.map prK).map (·.1)).Nodup := by
  have e : (ps.map prK).map (·.1) = (ps.map (·.1)).map fun z => ([Sum.inl z.1, Sum.inl z.2] : List Key) := by rw [List.map_map, List.map_map]; rfl
  rw [e]
  refine nd_map (f := fun z : Int × Int => ([Sum.inl z.1, Sum.inl z.2] : List Key)) (fun a b z => ?_) n
  have h1 := List.cons.inj z
  have h2 := List.cons.inj h1.2
  exact Prod.ext (Sum.inl.inj h1.1) (Sum.inl.inj h2.1)
def pairC (t : T3) : List Key → Bool
  | [.inl a, .inl b] => !(t.2.1 == a || t.2.1 == b) && !(t.2.2 == a || t.2.2 == b)
  | _ => false
theorem prK_filter (t : T3) (ps : List ((Int × Int) × Int)) : (ps.map prK).filter (fun kv => pairC t kv.1) = (ps.filter (offPair t)).map prK := by
  rw [List.filter_map]
  rfl
/-- the stretches -/
def rowD (r : Int × Nm × Nm) : PyData := .tuple [.int r.1, nmD r.2.1, nmD r.2.2]
def StAt (H : Hp) (A : List Addr) (y : V) (e : Int × List Part) : Prop := ∃ t l zs, y = .ref t ∧ H t = some (.tup [.int e.1, .ref l]) ∧ H l = some (.lst zs) ∧ l ∉ A ∧ TpAll H zs (e.2.map ptD)
inductive StAll (H : Hp) (A : List Addr) : List V → List (Int × List Part) → Prop
  | nil : StAll H A [] []
  | cons {y : V} {e : Int × List Part} {ys : List V} {es : List (Int × List Part)} : StAt H A y e → StAll H A ys es → StAll H A (y :: ys) (e :: es)
/-- tuples, and lists that don't lie at A, are kept -/
structure Kl (A : List Addr) (H H' : Hp) : Prop where
  tup : Kp H H'
  lst : ∀ l zs, l ∉ A → H l = some (.lst zs) → H' l = some (.lst zs)
theorem stAt_keep {H H' : Hp} {A : List Addr} (k : Kl A H H') {y : V} {e : Int × List Part} (h : StAt H A y e) : StAt H' A y e := by
  obtain ⟨t, l, zs, rfl, h1, h2, h3, h4⟩ := h
  exact ⟨t, l, zs, rfl, k.tup _ _ h1, k.lst _ _ h3 h2, h3, tpa_keep k.tup h4⟩
theorem st_keep {H H' : Hp} {A : List Addr} (k : Kl A H H') : ∀ {ys : List V} {es : List (Int × List Part)}, StAll H A ys es → StAll H' A ys es
  | _, _, .nil => .nil
  | _, _, .cons h t => .cons (stAt_keep k h) (st_keep k t)
theorem st_snoc {H : Hp} {A : List Addr} {y : V} {e : Int × List Part} (h : StAt H A y e) : ∀ {ys : List V} {es : List (Int × List Part)}, StAll H A ys es → StAll H A (ys ++ [y]) (es ++ [e])
  | _, _, .nil => .cons h .nil
  | _, _, .cons a t => .cons a (st_snoc h t)
theorem st_len {H : Hp} {A : List Addr} : ∀ {ys : List V} {es : List (Int × List Part)}, StAll H A ys es → ys.length = es.length
  | _, _, .nil => rfl
  | _, _, .cons _ t => congrArg (· + 1) (st_len t)
theorem st_get {H : Hp} {A : List Addr} : ∀ {ys : List V} {es : List (Int × List Part)}, StAll H A ys es → ∀ {i : Nat} {y : V}, ys[i]? = some y → ∃ e, es[i]? = some e ∧ StAt H A y e
  | _, _, .nil, i, y, h => by simp at h
  | _, _, .cons a t, 0, y, h => by
    have h := Option.some.inj h
    subst h
    exact ⟨_, rfl, a⟩
  | _, _, .cons a t, i + 1, y, h => st_get t (i := i) (by simpa using h)
structure RnAt (cB cR : Addr) (H : Hp) (R dx pp pq rr ss : Addr) (vb : V) (L : List Int) (s : RunS) : Prop where
  ins : H R = some (.ins cR dx (fl vb s.many pp pq rr [("stretches", .ref ss)]))
  bk : Bk cB H vb L
  parts : ∃ kvs, H pp = some (.dK kvs) ∧ PtsAt H kvs s.parts
  pairs : H pq = some (.dT (s.pairs.map prK))
  rows : ∃ xs, H rr = some (.lst xs) ∧ TpAll H xs (s.rows.map rowD)
  sps : ∃ ys, H ss = some (.lst ys) ∧ StAll H [rr, ss] ys s.sps
  ne : rr ≠ ss
end Sl

set_option Elab.async false
set_option linter.all false
set_option maxRecDepth 100000
set_option maxHeartbeats 4000000
/-! The walks: two groups fall in. -/
namespace Sl
open PySem L2
local macro_rules | `(tactic| walk_at "go1") => `(tactic| first
  | with_reducible refine x_seq ?_
  | with_reducible refine x_asg ?_
  | with_reducible refine x_name ?_
  | with_reducible refine x_ret ?_
  | with_reducible refine x_if ?_
  | ((with_reducible refine' x_var ?hv ?_); (case hv => rfl))
  | with_reducible refine x_c ?_
  | with_reducible refine' x_non ?_
  | with_reducible refine x_yes ?_
  | with_reducible refine' iteT ?_
  | with_reducible refine' iteF ?_
  | with_reducible refine x_op ?_
  | with_reducible refine x_I0 ?_
  | with_reducible refine x_test ?_
  | with_reducible refine' x_bl ?_
  | with_reducible refine x_eqI ?_
  | with_reducible refine x_neI ?_
  | with_reducible refine x_cons ?_
  | with_reducible refine x_nil ?_
  | with_reducible refine x_call ?_
  | with_reducible refine x_cb ?_
  | with_reducible refine x_par ?_
  | with_reducible refine x_par2 ?_
  | with_reducible refine x_gcons ?_
  | with_reducible refine x_gnil ?_
  | with_reducible refine x_next ?_
  | with_reducible refine x_drop ?_
  | with_reducible refine x_bm ?_
  | with_reducible refine x_fld ?_
  | with_reducible refine x_dget ?_
  | with_reducible refine x_lc ?_
  | with_reducible refine x_sfld ?_
  | with_reducible refine x_meth ?_
  | with_reducible refine x_augS ?_
  | with_reducible refine x_gsub ?_
  | with_reducible refine x_ipI ?_
  | ((with_reducible refine' x_ixLc ?ha ?hk ?_); (case ha => assumption); (case hk => rfl))
  | with_reducible refine x_lc2 ?_
  | with_reducible refine x_rng1 ?_
  | with_reducible refine x_rng2 ?_
  | with_reducible refine x_un ?_
  | with_reducible refine x_unI ?_
  | with_reducible refine x_zip ?_
  | with_reducible refine x_sl ?_
  | with_reducible refine x_nopart ?_
  | with_reducible refine x_part ?_
  | with_reducible refine' x_partI ?_
  | ((with_reducible refine' x_slL ?ha ?_); (case ha => assumption))
  | with_reducible refine' x_min2 ?_
  | with_reducible refine' x_max2 ?_
  | with_reducible refine x_lv ?_
  | with_reducible refine x_dc ?_
  | with_reducible refine x_dcT ?_
  | with_reducible refine x_iKeys ?_
  | with_reducible refine x_itemsT ?_
  | ((with_reducible refine' x_itemsTI ?ha ?_); (case ha => assumption))
  | ((with_reducible refine' x_keysK ?ha ?_); (case ha => assumption))
  | ((with_reducible refine' x_keysT ?ha ?_); (case ha => assumption))
  | with_reducible refine x_dput ?_
  | with_reducible refine x_faug ?_
  | with_reducible refine x_add ?_
  | with_reducible refine x_items ?_
  | ((with_reducible refine' x_itemsI ?ha ?_); (case ha => assumption))
  | ((with_reducible refine' x_faugI ?ha ?hc ?hn ?hl ?_); (case ha => assumption); (case hc => assumption); (case hn => assumption); (case hl => rfl))
  | with_reducible refine x_make ?_
  | with_reducible refine x_andV ?_
  | with_reducible refine x_orV ?_
  | with_reducible refine x_notV ?_
  | with_reducible refine x_chain ?_
  | with_reducible refine x_notT ?_
  | with_reducible refine x_andT ?_
  | with_reducible refine x_orT ?_
  | with_reducible refine x_tB ?_
  | with_reducible refine' iteNT ?_
  | with_reducible refine' iteNF ?_
  | with_reducible refine x_isiI ?_
  | with_reducible refine x_isiB ?_
  | ((with_reducible refine' x_isiL ?ha ?_); (case ha => assumption))
  | ((with_reducible refine' x_len ?ha ?_); (case ha => assumption))
  | ((with_reducible refine' x_lenT ?ha ?_); (case ha => assumption))
  | ((with_reducible refine' x_fldI ?ha ?hc ?hn ?hl ?_); (case ha => assumption); (case hc => assumption); (case hn => assumption); (case hl => rfl))
  | ((with_reducible refine' x_sfldI ?ha ?hc ?hn ?hl ?_); (case ha => assumption); (case hc => assumption); (case hn => assumption); (case hl => first | (with_unfolding_all decide) | (simp only [List.length_cons, List.length_nil]; omega)))
  | ((with_reducible refine' x_methI ?ha ?hl ?_); (case ha => assumption); (case hl => rfl))
  | with_reducible refine x_for ?_
  | with_reducible refine x_dset ?_
  | ((with_reducible refine' x_isD ?ha ?_); (case ha => assumption))
  | with_reducible refine x_iL ?_
  | with_reducible refine x_iT ?_
  | with_reducible refine x_dK ?_
  | with_reducible refine x_dT ?_
  | ((with_reducible refine' x_tyl ?ha ?_); (case ha => assumption))
  | ((with_reducible refine' x_lct ?ha ?_); (case ha => assumption))
  | ((with_reducible refine' x_tct ?ha ?_); (case ha => assumption))
  | ((with_reducible refine' x_gtup ?ha ?hn ?_); (case ha => assumption); (case hn => rfl))
  | ((with_reducible refine' x_ixT ?ha ?hk ?_); (case ha => assumption); (case hk => rfl))
  | (with_reducible refine x_tup ?_)
  | (with_reducible refine x_lst ?_))
local macro_rules | `(tactic| walk_at "go") => `(tactic| (repeat walk_at "go1"))
section
variable {P : Program} {w : World} {K : PySem.W.Frag} {mg : Str → Option Value} {base : Heap} {t1 t2 : Tok}
theorem x_gtupS {K : PySem.W.Frag} {σ : L2.St} {H : Hp} {gs : TGs} {N : L2.St → Hp → Prop} {n : Nat} {a : Addr} {xs : List V} (ha : SqT K H a xs) (hn : xs.length = n) (h : gs xs σ H N) : gTup K n gs (.ref a) σ H N := ⟨a, xs, rfl, ha, hn, h⟩
theorem triD (ps : List ((Int × Int) × Int)) : (ps.map fun e => t3D (tri e)) = (ps.map tri).map t3D := by rw [List.map_map]; rfl
theorem notin2 {a b n : Int} : (if true = true then !inV (.int n) [V.int a, V.int b] else inV (.int n) [V.int a, V.int b]) = !(n == a || n == b) := by
  have e : ∀ x y : Int, (x == y) = (y == x) := fun x y => Bool.beq_comm
  show (!(eqV (.int a) (.int n) || (eqV (.int b) (.int n) || false))) = _
  show (!(a == n || (b == n || false))) = _
  rw [Bool.or_false, e a n, e b n]
structure Fs (H0 : Hp) (cB cR R dx rr ss : Addr) (vb : V) (L : List Int) (fs : List (Str × V)) (pp pq : Addr) (kvs : List (Key × V)) (ps : List (Int × Part)) (prs : List (List Key × V)) (rws : List V) (rows : List (Int × Nm × Nm)) (sws : List V) (sps : List (Int × List Part)) (v1 : V) (P1 : Part) (v2 : V) (P2 : Part) (Hn : Hp) : Prop where
  hI : Hn R = some (.ins cR dx fs)
  hB : Bk cB Hn vb L
  hP : Hn pp = some (.dK kvs)
  hT : PtsAt Hn kvs ps
  hQ : Hn pq = some (.dT prs)
  hRr : Hn rr = some (.lst rws)
  tRr : TpAll Hn rws (rows.map rowD)
  hSs : Hn ss = some (.lst sws)
  tSs : StAll Hn [rr, ss] sws sps
  hX : SX [R, rr, ss] H0 Hn
  hV : Tp Hn v1 (ptD P1)
  hW : Tp Hn v2 (ptD P2)
theorem kl_same {A : List Addr} {H H' : Hp} (s : Same H H') : Kl A H H' := ⟨kp_same s, fun _ _ _ h => s _ _ h⟩
section
variable {H0 : Hp} {cB cR R dx rr ss : Addr} {vb : V} {L : List Int} {fs : List (Str × V)} {pp pq : Addr} {kvs : List (Key × V)} {ps : List (Int × Part)} {prs : List (List Key × V)} {rws : List V} {rows : List (Int × Nm × Nm)} {sws : List V} {sps : List (Int × List Part)} {v1 : V} {P1 : Part} {v2 : V} {P2 : Part} {Hn Hm : Hp}
theorem Fs.same (f : Fs H0 cB cR R dx rr ss vb L fs pp pq kvs ps prs rws rows sws sps v1 P1 v2 P2 Hn) (s : Same Hn Hm) : Fs H0 cB cR R dx rr ss vb L fs pp pq kvs ps prs rws rows sws sps v1 P1 v2 P2 Hm :=
  ⟨s _ _ f.hI, bk_same s f.hB, s _ _ f.hP, pts_keep (kp_same s) f.hT, s _ _ f.hQ, s _ _ f.hRr, tpa_keep (kp_same s) f.tRr, s _ _ f.hSs, st_keep (kl_same s) f.tSs, f.hX.same s, tp_keep (kp_same s) f.hV, tp_keep (kp_same s) f.hW⟩
/-- a write at an address that is none of a tuple, a book -/
theorem Fs.kl (f : Fs H0 cB cR R dx rr ss vb L fs pp pq kvs ps prs rws rows sws sps v1 P1 v2 P2 Hn) {a : Addr} {u o : HO} (hu : Hn a = some u) (ht : ∀ xs, u ≠ .tup xs) (hl : ∀ xs, u = .lst xs → a ∈ [rr, ss]) : Kl [rr, ss] Hn (upd Hn a o) :=
  ⟨kp_mut hu ht, fun l zs hA h => by
    rw [upd_ne (fun z => by subst z; rw [hu] at h; exact hA (hl zs (Option.some.inj h)))]
    exact h⟩
theorem bk_mut {a : Addr} {u o : HO} (hu : Hn a = some u) (ht : ∀ xs, u ≠ .tup xs) (hi : ∀ d r, u ≠ .ins cB d [("rows", .ref r)]) (h : Bk cB Hn vb L) : Bk cB (upd Hn a o) vb L := by
  obtain ⟨b, bdx, r, rfl, h1, h2⟩ := h
  exact ⟨b, bdx, r, rfl, by rw [upd_ne (ne_of h1 hu (fun z => hi _ _ z.symm))]; exact h1, by rw [upd_ne (ne_of h2 hu (fun z => ht _ z.symm))]; exact h2⟩
end
theorem ins_ne {a b c d : Addr} {x y : Str × V} {r : List (Str × V)} {z : Str × V} : HO.ins a b (x :: y :: r) ≠ HO.ins c d [z] := fun e => by
  have := congrArg (fun o : HO => match o with | .ins _ _ fs => fs.length | _ => 0) e
  simp at this
theorem x_in2 {K : PySem.W.Frag} {H : Hp} {Q : VK} {n a b : Int} {z : Addr} (hz : H z = some (.tup [.int a, .int b])) (h : Q (.bl (!(n == a || n == b))) H) : rIn K true (.int n) (.ref z) H Q := ⟨z, _, rfl, .inr (sqt hz), rfl, rfl, by rw [notin2]; exact h⟩
def sp_fall_in (cB cR : Addr) : Sp := fun vs H Q _ => ∃ (R dx pp pq rr ss : Addr) (vb : V) (L : List Int) (s : RunS), vs = [.ref R] ∧ RnAt cB cR H R dx pp pq rr ss vb L s ∧ LG L ∧ L.length ≤ 40 ∧ Ok L s ∧ s.pairs ≠ [] ∧
  ∀ pp' pq' H', SX [R, rr, ss] H H' → H pp' = none → H pq' = none → RnAt cB cR H' R dx pp' pq' rr ss vb L (fallS L s) → Q .non H'
/-- slots of Run.fall_in: 0 self 1 when 2 one 3 other 4 first 5 second 6 both_up 7 pair 8 number -/
abbrev s_Run_fall_in : Stmt := inClass (top 28) 2
theorem sc_Run_fall_in : FnScope ["self", "when", "one", "other", "first", "second", "both_up", "pair", "number"] ["self"] (defScope s_Run_fall_in) := ⟨rfl, rfl, rfl, by decide +kernel, rfl, by decide +kernel, by decide +kernel⟩
theorem ok_fall_in {cB cR f fc fm fu : Addr} {fd fdc fdm fdl : FuncData} (T : BtT mg t1 t2) (B : BkC K cB) (C : RunC K cR) (F : Fun K "fall_in" "Run.fall_in" s_Run_fall_in f fd) (D_Run_come_in : MC P w K mg base cR 5 "come_in" ["self", "first", "names"] (sp_come_in cB cR) fc fdc)
    (D_meeting : FC P w K mg base 3 "meeting" ["one", "other"] sp_meeting fm fdm) (D_last_up : FC P w K mg base 1 "last_up" ["going", "beat"] sp_last_up fu fdl) : FnOk P w K mg base CX0 6 f fd ["self"] (sp_fall_in cB cR) := by
  refine F.ok sc_Run_fall_in (fun vs H Q E h => ?_) (fun cdv A outer s H vs Q E hr h => ?_)
  · obtain ⟨_, _, _, _, _, _, _, _, _, rfl, _⟩ := h
    rfl
  · have c_Run := C.cls
    have hu := hu_of hr
    have hu0 := hr.units0
    have n1 := C.book
    have n2 := C.many
    have n3 := C.parts
    have n4 := C.pairs
    have n5 := C.rows
    have n6 := C.stretches
    refine ⟨_, (pss_cons (ps_asg (pe_callB (cr_min3 rfl hr.units) (by rfl) T.min (by decide +kernel) (pa_cons (pe_lock (pe_lc (own := [("pair", 7), ("when", 1)]) (g := (gTup K 2 (gCons (gName 7) (gCons (gName 1) gNil)))) rfl sc_Run_fall_in.nd (pi_itemsT (kFld (K := K) rfl (pv 0) rfl)) (blkOk_by (N := ["self", "when", "one", "other", "first", "second", "both_up", "pair", "number"]) (sc := defScope s_Run_fall_in) (by decide +kernel)) (fun _ _ _ _ _ => (pg_tup (n := 2) rfl (pgs_cons (pg_name (i := 7) sc_Run_fall_in.nd rfl (Or.inl rfl)) (pgs_cons (pg_name (i := 1) sc_Run_fall_in.nd rfl (Or.inl rfl)) pgs_nil)))) (fun _ _ _ _ _ => pts_nil) (fun _ _ _ _ _ => (pe_tup (pa_cons (pv 1) (pa_cons (pe_ix (kIxT (K := K) rfl) (pv 7) pe_int (fun _ _ => rfl)) (pa_cons (pe_ix (kIxT (K := K) rfl) (pv 7) pe_int (fun _ _ => rfl)) pa_nil))))))) pa_nil)) (pg_tup (n := 3) rfl (pgs_cons (pg_name (i := 1) sc_Run_fall_in.nd rfl (Or.inl rfl)) (pgs_cons (pg_name (i := 2) sc_Run_fall_in.nd rfl (Or.inr rfl)) (pgs_cons (pg_name (i := 3) sc_Run_fall_in.nd rfl (Or.inr rfl)) pgs_nil)))))
      (pss_cons (ps_par (i := 4) (j := 5) (by rfl) sc_Run_fall_in.nd rfl rfl (by decide) rfl rfl (pa_cons (pe_dget hu (kFld (K := K) rfl (pv 0) rfl) (pv 2) (fun _ _ => rfl)) (pa_cons (pe_dget hu (kFld (K := K) rfl (pv 0) rfl) (pv 3) (fun _ _ => rfl)) pa_nil)) (by rfl))
      (pss_cons (ps_set (i := 6) sc_Run_fall_in.nd rfl (Or.inl rfl) (pe_f D_meeting hr (by decide) (pa_cons (pe_ix (kIxT (K := K) rfl) (pv 4) pe_int (fun _ _ => rfl)) (pa_cons (pe_ix (kIxT (K := K) rfl) (pv 5) pe_int (fun _ _ => rfl)) pa_nil))))
      (pss_cons (ps_if (pt_cmpR op_ne (pe_f D_last_up hr (by decide) (pa_cons (pe_ix (kIxT (K := K) rfl) (pv 4) pe_int (fun _ _ => rfl)) (pa_cons (pv 6) pa_nil))) (pv 1) (nomark _)) (pss_one (ps_par (i := 4) (j := 5) (by rfl) sc_Run_fall_in.nd rfl rfl (by decide) rfl rfl (pa_cons (pv 5) (pa_cons (pv 4) pa_nil)) (by rfl))) pss_nil)
      (pss_cons (ps_expr (pe_bm PySem.F.plainAttrs_list PySem.F.slot_list_append PySem.F.type_list_append mt_append (kFld (K := K) rfl (pv 0) rfl) (pa_cons (pe_tup (pa_cons (pv 1) (pa_cons (pe_ix (kIxT (K := K) rfl) (pv 4) pe_int (fun _ _ => rfl)) (pa_cons (pe_ix (kIxT (K := K) rfl) (pv 5) pe_int (fun _ _ => rfl)) pa_nil)))) pa_nil)))
      (pss_cons (ps_fld (pv 0) (pe_lock (pe_dc (own := [("number", 8)]) (g := (gName 8)) rfl sc_Run_fall_in.nd (pi_keys (kFld (K := K) rfl (pv 0) rfl)) (blkOk_by (N := ["self", "when", "one", "other", "first", "second", "both_up", "pair", "number"]) (sc := defScope s_Run_fall_in) (by decide +kernel)) (fun _ _ _ _ _ => (pg_name (i := 8) sc_Run_fall_in.nd rfl (Or.inl rfl))) (fun _ _ _ _ _ => (pts_one (pt_cmpR (kNotIn (K := K) rfl) (pv 8) (pe_tup (pa_cons (pv 2) (pa_cons (pv 3) pa_nil))) (by rfl)))) (fun _ _ _ _ _ => (pv 8)) (fun _ _ _ _ _ => (pe_dget hu (kFld (K := K) rfl (pv 0) rfl) (pv 8) (fun _ _ => rfl))))) rfl)
      (pss_cons (ps_fld (pv 0) (pe_lock (pe_dcT (own := [("pair", 7)]) (g := (gName 7)) rfl hu0 sc_Run_fall_in.nd (pi_keys (kFld (K := K) rfl (pv 0) rfl)) (blkOk_by (N := ["self", "when", "one", "other", "first", "second", "both_up", "pair", "number"]) (sc := defScope s_Run_fall_in) (by decide +kernel)) (fun _ _ _ _ _ => (pg_name (i := 7) sc_Run_fall_in.nd rfl (Or.inl rfl))) (fun _ _ _ _ _ => (pts_one (PW.pt (pw_and (pt_cmpR (kNotIn (K := K) rfl) (pv 2) (pv 7) (by rfl)) (pw_and1 (pt_cmpR (kNotIn (K := K) rfl) (pv 3) (pv 7) (by rfl))))))) (fun _ _ _ _ _ => (pv 7)) (fun _ _ _ _ _ => (pe_dget hu (kFld (K := K) rfl (pv 0) rfl) (pv 7) (fun _ _ => rfl))))) rfl)
      (pss_cons (ps_expr (pe_m (pv 0) c_Run D_Run_come_in hr (by decide) (pa_cons (pv 6) (pa_cons (pe_callTy (T := "tuple") (kTuple (K := K) rfl) (by rfl) T.tuple (by decide +kernel) (pa_cons (pe_callB (cr_sortedTS hr.units) (by rfl) T.sorted (by decide +kernel) (pa_cons (pe_op op_catA (pe_ix (kIxT (K := K) rfl) (pv 4) pe_int (fun _ _ => rfl)) (pe_ix (kIxT (K := K) rfl) (pv 5) pe_int (fun _ _ => rfl))) pa_nil)) pa_nil)) pa_nil))))
      (pss_one (ps_expr (pe_bm PySem.F.plainAttrs_list PySem.F.slot_list_append PySem.F.type_list_append mt_append (kFld (K := K) rfl (pv 0) rfl) (pa_cons (pe_tup (pa_cons (pv 1) (pa_cons (pe_listVals rfl (kFld (K := K) rfl (pv 0) rfl) (by rfl) T.list) pa_nil))) pa_nil)))))))))))), ?_⟩
    obtain ⟨R, dx, pp, pq, rr, ss, vb, L, rs, rfl, rn, hL, h40, ok, hne, k⟩ := h
    have hR := rn.ins
    unfold fl at hR
    have hbk := rn.bk
    obtain ⟨kvs, hpp, hpt⟩ := rn.parts
    have hpq := rn.pairs
    obtain ⟨rws, hrr, trr⟩ := rn.rows
    obtain ⟨sws, hss, tss⟩ := rn.sps
    have hrs := rn.ne
    have hlp := pts_len hpt
    have hlr := data_len trr
    have hls := st_len tss
    have b1 := ok.big
    have b2 := ok.pos
    have b3 := ok.psz
    have b4 := ok.rsz
    have b5 := ok.ssz
    obtain ⟨p, q, u, Fa⟩ := fal_of ok hne
    generalize et : minP rs.pairs = t at *
    have r1 : R ≠ pp := ne_of hR hpp (fun z => nomatch z)
    have r2 : R ≠ pq := ne_of hR hpq (fun z => nomatch z)
    have r3 : R ≠ rr := ne_of hR hrr (fun z => nomatch z)
    have r4 : R ≠ ss := ne_of hR hss (fun z => nomatch z)
    have q1 : pp ≠ rr := ne_of hpp hrr (fun z => nomatch z)
    have q2 : pp ≠ ss := ne_of hpp hss (fun z => nomatch z)
    have q3 : pq ≠ rr := ne_of hpq hrr (fun z => nomatch z)
    have q4 : pq ≠ ss := ne_of hpq hss (fun z => nomatch z)
    -- when, one, other
    refine x_seqM (fun σ' H' => σ' = [some (.ref R), some (.int t.1), some (.int t.2.1), some (.int t.2.2), none, none, none, none, none] ∧ Same H H') (fun N hN => ?_) ?_
    · walk_at "go"
      refine x_lockE hpq True.intro fun od => ?_
      have hpl : (upd H pq (.frz od (.dT (rs.pairs.map prK)))) pq = some (.frz od (.dT (rs.pairs.map prK))) := upd_same
      have hRl : (upd H pq (.frz od (.dT (rs.pairs.map prK)))) R = some (.ins cR dx (("book", vb) :: ("many", .int rs.many) :: ("parts", .ref pp) :: ("pairs", .ref pq) :: ("rows", .ref rr) :: [("stretches", .ref ss)])) := by rw [upd_ne r2]; exact hR
      walk_at "go"
      intro D hD
      refine lc_tp walk_itemsT (fun i => rs.pairs[i]?.bind fun e => some (t3D (tri e))) hD (by rw [List.length_map]; omega) (fun H' s' => s' _ _ hpl) (fun i x H1 H2 Kb Kf hi s1 y kb kf => ?_) (fun H1 acc s1 hacc tacc => ?_)
      · obtain ⟨T', key, v, kq, hk, hkq, rfl, hT, rfl⟩ := y
        rw [List.getElem?_map] at hk
        cases he : rs.pairs[i]? with
        | none => rw [he] at hk; cases hk
        | some e =>
          rw [he] at hk
          have hk : prK e = (key, v) := Option.some.inj hk
          have hk1 : [Sum.inl e.1.1, Sum.inl e.1.2] = key := congrArg Prod.fst hk
          have hk2 : V.int e.2 = v := congrArg Prod.snd hk
          subst hk1
          subst hk2
          have hkq2 : (upd H1 T' (.tup [.ref kq, .int e.2])) kq = some (.tup [.int e.1.1, .int e.1.2]) := by rw [upd_ne (ne_of_none hkq hT)]; exact hkq
          have hT2 : (upd H1 T' (.tup [.ref kq, .int e.2])) T' = some (.tup [.ref kq, .int e.2]) := upd_same
          walk_at "go"
          refine ⟨rfl, ?_⟩
          walk_at "go"
          refine ⟨len3, fun z hz => ?_⟩
          exact kb _ _ _ (by rw [he]; rfl) (same_mut (same_new hT) (none_back (same_new hT) hz)) (mk_trip upd_same (.int _) (.int _) (.int _))
      · rw [List.length_map, fm_bind, fm_some, triD] at tacc
        have hp1 := s1 _ _ hpl
        refine ⟨hp1, ?_⟩
        have sH := same_unlock hpq s1
        have hDp : D ≠ pq := fun z => by rw [z] at hD; rw [upd_same] at hD; cases hD
        have hacc2 : (upd H1 pq (.dT (rs.pairs.map prK))) D = some (.lst acc) := by rw [upd_ne hDp]; exact hacc
        have tacc2 := tpa_keep (kp_unl (u := .dT (rs.pairs.map prK)) s1) tacc
        walk_at "go"
        obtain ⟨e0, er, he0⟩ : ∃ e0 er, rs.pairs = e0 :: er := by
          cases hc : rs.pairs with
          | nil => exact absurd hc hne
          | cons e0 er => exact ⟨e0, er, rfl⟩
        have ht : min3 (tri e0) (er.map tri) = t := by rw [← et, he0]; rfl
        refine ⟨D, acc, tri e0, er.map tri, rfl, sql hacc2, ?_, fun z hz => ?_⟩
        · rw [show rs.pairs.map tri = tri e0 :: er.map tri by rw [he0]; rfl] at tacc2
          exact tpa_dp tacc2
        · rw [ht] at hz
          refine x_gtupS hz rfl ?_
          walk_at "go"
          exact hN _ _ ⟨rfl, sH⟩
    · rintro σ1 H1 ⟨rfl, s1⟩
      have hR1 := s1 _ _ hR
      have hpp1 := s1 _ _ hpp
      have hpt1 := pts_keep (kp_same s1) hpt
      obtain ⟨v1, hv1, tv1⟩ := pts_val hpt1 (lookup_mem ok.nd Fa.hp)
      obtain ⟨v2, hv2, tv2⟩ := pts_val hpt1 (lookup_mem ok.nd Fa.hq)
      obtain ⟨a1, g1, m1, rfl, ha1, tg1, tm1⟩ := tp_pt tv1
      obtain ⟨a2, g2, m2, rfl, ha2, tg2, tm2⟩ := tp_pt tv2
      walk_at "go"
      refine x_dgK (k := .inl t.2.1) hpp1 hv1 ?_
      walk_at "go"
      refine x_dgK (k := .inl t.2.2) hpp1 hv2 ?_
      walk_at "go"
      have hgp : Gg p.1 := hL _ (ok.len _ Fa.hp)
      have hgq : Gg q.1 := hL _ (ok.len _ Fa.hq)
      refine ⟨g1, g2, p.1, q.1, rfl, tg1, tg2, hgp, hgq, fun H2 s2 => ?_⟩
      rw [Fa.me]
      have k2 := kp_same s2
      have sH2 := s1.trans s2
      replace ha1 := k2 _ _ ha1
      replace ha2 := k2 _ _ ha2
      replace tv1 := tp_keep k2 tv1
      replace tv2 := tp_keep k2 tv2
      replace tg1 := tp_keep k2 tg1
      refine x_name ?_
      with_reducible refine' x_seqM ?M ?ha ?hb
      case M => exact (fun σ' H' => ∃ a1 a2, σ' = [some (.ref R), some (.int t.1), some (.int t.2.1), some (.int t.2.2), some (.ref a1), some (.ref a2), some (.int u), none, none] ∧ Same H H' ∧ Tp H' (.ref a1) (ptD (twoOf rs t).1) ∧ Tp H' (.ref a2) (ptD (twoOf rs t).2))
      · intro N hN
        walk_at "go"
        refine ⟨g1, p.1, u, rfl, tg1, hgp.1, ?_⟩
        walk_at "go"
        refine x_decN (fun c => ?_) (fun c => ?_)
        · walk_at "go"
          rcases Fa.two with ⟨h, e⟩ | ⟨h, e⟩
          · exact absurd e c
          · exact hN _ _ ⟨a2, a1, rfl, sH2, by rw [h]; exact tv2, by rw [h]; exact tv1⟩
        · walk_at "go"
          rcases Fa.two with ⟨h, e⟩ | ⟨h, e⟩
          · exact hN _ _ ⟨a1, a2, rfl, sH2, by rw [h]; exact tv1, by rw [h]; exact tv2⟩
          · exact absurd c e
      · rintro σ3 H3 ⟨a1, a2, rfl, sH3, tw1, tw2⟩
        have hz1 : (twoOf rs t).1.2 ≠ [] := by
          rcases Fa.two with ⟨h, _⟩ | ⟨h, _⟩ <;> rw [h]
          · exact ok.nz _ Fa.hp
          · exact ok.nz _ Fa.hq
        have hz2 : (twoOf rs t).2.2 ≠ [] := by
          rcases Fa.two with ⟨h, _⟩ | ⟨h, _⟩ <;> rw [h]
          · exact ok.nz _ Fa.hq
          · exact ok.nz _ Fa.hp
        have f3 : Fs H cB cR R dx rr ss vb L (("book", vb) :: ("many", .int rs.many) :: ("parts", .ref pp) :: ("pairs", .ref pq) :: ("rows", .ref rr) :: [("stretches", .ref ss)]) pp pq kvs rs.parts (rs.pairs.map prK) rws rs.rows sws rs.sps (.ref a1) (twoOf rs t).1 (.ref a2) (twoOf rs t).2 H3 :=
          ⟨sH3 _ _ hR, bk_same sH3 hbk, sH3 _ _ hpp, pts_keep (kp_same sH3) hpt, sH3 _ _ hpq, sH3 _ _ hrr, tpa_keep (kp_same sH3) trr, sH3 _ _ hss, st_keep (kl_same sH3) tss, sx_of sH3, tw1, tw2⟩
        obtain ⟨_, g1', nm1, e1, ha1', tg1', tm1'⟩ := tp_pt tw1
        cases e1
        obtain ⟨_, g2', nm2, e2, ha2', tg2', tm2'⟩ := tp_pt tw2
        cases e2
        have hR3 := f3.hI
        have hrr3 := f3.hRr
        walk_at "go"
        refine ⟨len3, fun z hz => ?_⟩
        have s4 : Same H3 (upd H3 z (.tup [.int t.1, nm1, nm2])) := same_new hz
        have hz4 : (upd H3 z (.tup [.int t.1, nm1, nm2])) z = some (.tup [.int t.1, nm1, nm2]) := upd_same
        generalize upd H3 z (.tup [.int t.1, nm1, nm2]) = H4 at *
        have f4 := f3.same s4
        have tz4 : Tp H4 (.ref z) (rowD (t.1, (twoOf rs t).1.2, (twoOf rs t).2.2)) := mk_trip hz4 (.int _) (tp_keep (kp_same s4) tm1') (tp_keep (kp_same s4) tm2')
        walk_at "go"
        refine x_app f4.hRr (sz100' (by omega)) ?_
        have kl4 : Kl [rr, ss] H4 (upd H4 rr (.lst (rws ++ [.ref z]))) := f4.kl f4.hRr (fun _ z => nomatch z) (fun _ _ => List.mem_cons_self)
        have f5 : Fs H cB cR R dx rr ss vb L (("book", vb) :: ("many", .int rs.many) :: ("parts", .ref pp) :: ("pairs", .ref pq) :: ("rows", .ref rr) :: [("stretches", .ref ss)]) pp pq kvs rs.parts (rs.pairs.map prK) (rws ++ [.ref z]) (rs.rows ++ [(t.1, (twoOf rs t).1.2, (twoOf rs t).2.2)]) sws rs.sps (.ref a1) (twoOf rs t).1 (.ref a2) (twoOf rs t).2 (upd H4 rr (.lst (rws ++ [.ref z]))) := by
          refine ⟨by rw [upd_ne r3]; exact f4.hI, bk_mut f4.hRr (fun _ z => nomatch z) (fun _ _ z => nomatch z) f4.hB, by rw [upd_ne q1]; exact f4.hP, pts_keep kl4.tup f4.hT, by rw [upd_ne q3]; exact f4.hQ, upd_same, ?_, by rw [upd_ne (fun z => hrs z.symm)]; exact f4.hSs, st_keep kl4 f4.tSs, f4.hX.mut (by simp), tp_keep kl4.tup f4.hV, tp_keep kl4.tup f4.hW⟩
          rw [List.map_append]
          exact tpa_app (tpa_keep kl4.tup f4.tRr) (tpa_one (tp_keep kl4.tup tz4))
        generalize upd H4 rr (.lst (rws ++ [.ref z])) = H5 at *
        walk_at "go"
        -- the parts that stay
        refine x_lockE f5.hP True.intro fun od => ?_
        have hpl : (upd H5 pp (.frz od (.dK kvs))) pp = some (.frz od (.dK kvs)) := upd_same
        have hRl : (upd H5 pp (.frz od (.dK kvs))) R = some (.ins cR dx (("book", vb) :: ("many", .int rs.many) :: ("parts", .ref pp) :: ("pairs", .ref pq) :: ("rows", .ref rr) :: [("stretches", .ref ss)])) := by rw [upd_ne r1]; exact f5.hI
        walk_at "go"
        intro D hD
        refine dc_keys (keyC fun i => !(i == t.2.1 || i == t.2.2)) (pts_nd hpt ok.nd) (sz100' (by omega)) hpl hD (fun key v H6 Kb Kf hv s6 kb kf => ?_) (fun H6 s6 hD6 => ?_)
        · obtain ⟨i, rfl⟩ : ∃ i, key = .inl i := by
            have hm := valV_in hv
            rw [hpt.keys] at hm
            obtain ⟨e, _, he⟩ := List.mem_map.mp hm
            exact ⟨e.1, he.symm⟩
          have hR6 := s6 _ _ hRl
          have hp6 := s6 _ _ hpl
          walk_at "go"
          refine ⟨rfl, ?_⟩
          walk_at "go"
          refine ⟨len2, fun z hz => ?_⟩
          refine x_in2 (n := i) upd_same ?_
          have s7 : Same H6 (upd H6 z (.tup [.int t.2.1, .int t.2.2])) := same_new hz
          generalize upd H6 z (.tup [.int t.2.1, .int t.2.2]) = H7 at *
          have hR7 := s7 _ _ hR6
          have hp7 := s7 _ _ hp6
          cases hc : (i == t.2.1 || i == t.2.2) with
          | true =>
            walk_at "go"
            exact kf _ (by show (!(i == t.2.1 || i == t.2.2)) = false; rw [hc]; rfl) s7
          | false =>
            walk_at "go"
            refine x_dgF (k := .inl i) hp7 hv ?_
            exact kb _ (by show (!(i == t.2.1 || i == t.2.2)) = true; rw [hc]; rfl) s7
        · have hp6 := s6 _ _ hpl
          refine ⟨hp6, ?_⟩
          have s7 := same_unlock f5.hP s6
          have hDp : D ≠ pp := fun z => by rw [z] at hD; rw [upd_same] at hD; cases hD
          have hD5 : H5 D = none := by rw [upd_ne hDp] at hD; exact hD
          have hD7 : (upd H6 pp (.dK kvs)) D = some (.dK (kvs.filter fun kv => keyC (fun i => !(i == t.2.1 || i == t.2.2)) kv.1)) := by rw [upd_ne hDp]; exact hD6
          generalize upd H6 pp (.dK kvs) = H7 at *
          have f7 := f5.same s7
          have hD0 : H D = none := by
            cases hz : H D with
            | none => rfl
            | some o =>
              by_cases m : D ∈ [R, rr, ss]
              · simp at m
                rcases m with m | m | m
                · rw [m, f5.hI] at hD5; cases hD5
                · rw [m, f5.hRr] at hD5; cases hD5
                · rw [m, f5.hSs] at hD5; cases hD5
              · rw [f5.hX _ _ m hz] at hD5; cases hD5
          have hR7 := f7.hI
          walk_at "go"
          have rD : R ≠ D := ne_of hR7 hD7 (fun z => nomatch z)
          have kl8 : Kl [rr, ss] H7 (upd H7 R (.ins cR dx (putF "parts" (.ref D) (("book", vb) :: ("many", .int rs.many) :: ("parts", .ref pp) :: ("pairs", .ref pq) :: ("rows", .ref rr) :: [("stretches", .ref ss)])))) := f7.kl f7.hI (fun _ z => nomatch z) (fun _ z => nomatch z)
          have f8 : Fs H cB cR R dx rr ss vb L (("book", vb) :: ("many", .int rs.many) :: ("parts", .ref D) :: ("pairs", .ref pq) :: ("rows", .ref rr) :: [("stretches", .ref ss)]) D pq (kvs.filter fun kv => keyC (fun i => !(i == t.2.1 || i == t.2.2)) kv.1) (rs.parts.filter (offPart t)) (rs.pairs.map prK) (rws ++ [.ref z]) (rs.rows ++ [(t.1, (twoOf rs t).1.2, (twoOf rs t).2.2)]) sws rs.sps (.ref a1) (twoOf rs t).1 (.ref a2) (twoOf rs t).2 (upd H7 R (.ins cR dx (putF "parts" (.ref D) (("book", vb) :: ("many", .int rs.many) :: ("parts", .ref pp) :: ("pairs", .ref pq) :: ("rows", .ref rr) :: [("stretches", .ref ss)])))) := by
            refine ⟨by rw [upd_same]; rfl, ?_, by rw [upd_ne (fun z => rD z.symm)]; exact hD7, pts_keyC _ (pts_keep kl8.tup f7.hT), by rw [upd_ne (fun z => r2 z.symm)]; exact f7.hQ, by rw [upd_ne (fun z => r3 z.symm)]; exact f7.hRr, tpa_keep kl8.tup f7.tRr, by rw [upd_ne (fun z => r4 z.symm)]; exact f7.hSs, st_keep kl8 f7.tSs, f7.hX.mut (by simp), tp_keep kl8.tup f7.hV, tp_keep kl8.tup f7.hW⟩
            exact bk_mut f7.hI (fun _ z => nomatch z) (fun _ _ => ins_ne) f7.hB
          generalize upd H7 R (.ins cR dx (putF "parts" (.ref D) (("book", vb) :: ("many", .int rs.many) :: ("parts", .ref pp) :: ("pairs", .ref pq) :: ("rows", .ref rr) :: [("stretches", .ref ss)]))) = H8 at *
          walk_at "go"
          -- the pairs that stay
          refine x_lockE f8.hQ True.intro fun od2 => ?_
          have hql : (upd H8 pq (.frz od2 (.dT (rs.pairs.map prK)))) pq = some (.frz od2 (.dT (rs.pairs.map prK))) := upd_same
          have hRl2 : (upd H8 pq (.frz od2 (.dT (rs.pairs.map prK)))) R = some (.ins cR dx (("book", vb) :: ("many", .int rs.many) :: ("parts", .ref D) :: ("pairs", .ref pq) :: ("rows", .ref rr) :: [("stretches", .ref ss)])) := by rw [upd_ne r2]; exact f8.hI
          walk_at "go"
          intro D2 hDD
          refine dcT_keys (pairC t) (prK_nd ok.pnd) (by rw [List.length_map]; exact sz100' (by omega)) hql hDD (fun key v q9 H9 Kb Kf hv s9 hq9 kb kf => ?_) (fun H9 s9 hD9 => ?_)
          · obtain ⟨e, rfl⟩ : ∃ e : Int × Int, key = [.inl e.1, .inl e.2] := by
              have hm := valV_in hv
              rw [List.map_map] at hm
              obtain ⟨e, _, he⟩ := List.mem_map.mp hm
              exact ⟨e.1, he.symm⟩
            have hR9 := s9 _ _ hRl2
            have hp9 := s9 _ _ hql
            have hq9' : H9 q9 = some (.tup [.int e.1, .int e.2]) := hq9
            walk_at "go"
            refine ⟨rfl, ?_⟩
            walk_at "go"
            refine x_in2 hq9' ?_
            cases hc1 : (t.2.1 == e.1 || t.2.1 == e.2) with
            | true =>
              walk_at "go"
              exact kf _ (by show (!(t.2.1 == e.1 || t.2.1 == e.2) && !(t.2.2 == e.1 || t.2.2 == e.2)) = false; rw [hc1]; rfl) (Same.refl _)
            | false =>
              walk_at "go"
              refine x_in2 hq9' ?_
              cases hc2 : (t.2.2 == e.1 || t.2.2 == e.2) with
              | true =>
                walk_at "go"
                exact kf _ (by show (!(t.2.1 == e.1 || t.2.1 == e.2) && !(t.2.2 == e.1 || t.2.2 == e.2)) = false; rw [hc1, hc2]; rfl) (Same.refl _)
              | false =>
                walk_at "go"
                refine x_dgFT hp9 hq9 hv ?_
                exact kb _ (by show (!(t.2.1 == e.1 || t.2.1 == e.2) && !(t.2.2 == e.1 || t.2.2 == e.2)) = true; rw [hc1, hc2]; rfl) (Same.refl _)
          · have hp9 := s9 _ _ hql
            refine ⟨hp9, ?_⟩
            have s10 := same_unlock f8.hQ s9
            have hDq : D2 ≠ pq := fun z => by rw [z] at hDD; rw [upd_same] at hDD; cases hDD
            have hD8 : H8 D2 = none := by rw [upd_ne hDq] at hDD; exact hDD
            have hD10 : (upd H9 pq (.dT (rs.pairs.map prK))) D2 = some (.dT ((rs.pairs.map prK).filter fun kv => pairC t kv.1)) := by rw [upd_ne hDq]; exact hD9
            rw [prK_filter] at hD10
            generalize upd H9 pq (.dT (rs.pairs.map prK)) = H10 at *
            have f10 := f8.same s10
            have hD20 : H D2 = none := by
              cases hz : H D2 with
              | none => rfl
              | some o =>
                by_cases m : D2 ∈ [R, rr, ss]
                · simp at m
                  rcases m with m | m | m
                  · rw [m, f8.hI] at hD8; cases hD8
                  · rw [m, f8.hRr] at hD8; cases hD8
                  · rw [m, f8.hSs] at hD8; cases hD8
                · rw [f8.hX _ _ m hz] at hD8; cases hD8
            have hR10 := f10.hI
            walk_at "go"
            have rD2 : R ≠ D2 := ne_of hR10 hD10 (fun z => nomatch z)
            have kl11 : Kl [rr, ss] H10 (upd H10 R (.ins cR dx (putF "pairs" (.ref D2) (("book", vb) :: ("many", .int rs.many) :: ("parts", .ref D) :: ("pairs", .ref pq) :: ("rows", .ref rr) :: [("stretches", .ref ss)])))) := f10.kl f10.hI (fun _ z => nomatch z) (fun _ z => nomatch z)
            have f11 : Fs H cB cR R dx rr ss vb L (("book", vb) :: ("many", .int rs.many) :: ("parts", .ref D) :: ("pairs", .ref D2) :: ("rows", .ref rr) :: [("stretches", .ref ss)]) D D2 (kvs.filter fun kv => keyC (fun i => !(i == t.2.1 || i == t.2.2)) kv.1) (rs.parts.filter (offPart t)) ((rs.pairs.filter (offPair t)).map prK) (rws ++ [.ref z]) (rs.rows ++ [(t.1, (twoOf rs t).1.2, (twoOf rs t).2.2)]) sws rs.sps (.ref a1) (twoOf rs t).1 (.ref a2) (twoOf rs t).2 (upd H10 R (.ins cR dx (putF "pairs" (.ref D2) (("book", vb) :: ("many", .int rs.many) :: ("parts", .ref D) :: ("pairs", .ref pq) :: ("rows", .ref rr) :: [("stretches", .ref ss)])))) := by
              refine ⟨by rw [upd_same]; rfl, bk_mut f10.hI (fun _ z => nomatch z) (fun _ _ => ins_ne) f10.hB, by rw [upd_ne (fun z => rD z.symm)]; exact f10.hP, pts_keep kl11.tup f10.hT, by rw [upd_ne (fun z => rD2 z.symm)]; exact hD10, by rw [upd_ne (fun z => r3 z.symm)]; exact f10.hRr, tpa_keep kl11.tup f10.tRr, by rw [upd_ne (fun z => r4 z.symm)]; exact f10.hSs, st_keep kl11 f10.tSs, f10.hX.mut (by simp), tp_keep kl11.tup f10.hV, tp_keep kl11.tup f10.hW⟩
            generalize upd H10 R (.ins cR dx (putF "pairs" (.ref D2) (("book", vb) :: ("many", .int rs.many) :: ("parts", .ref D) :: ("pairs", .ref pq) :: ("rows", .ref rr) :: [("stretches", .ref ss)]))) = H11 at *
            have hR11 := f11.hI
            have hrD : rr ≠ D := ne_of f11.hRr f11.hP (fun z => nomatch z)
            have hsD : ss ≠ D := ne_of f11.hSs f11.hP (fun z => nomatch z)
            have hrD2 : rr ≠ D2 := ne_of f11.hRr f11.hQ (fun z => nomatch z)
            have hsD2 : ss ≠ D2 := ne_of f11.hSs f11.hQ (fun z => nomatch z)
            obtain ⟨_, h1', nn1, e1, hb1', tg1'', tn1⟩ := tp_pt f11.hV
            cases e1
            obtain ⟨_, h2', nn2, e2, hb2', tg2'', tn2⟩ := tp_pt f11.hW
            cases e2
            obtain ⟨na1, rfl, hn1⟩ := tp_nm tn1
            obtain ⟨na2, rfl, hn2⟩ := tp_nm tn2
            have hnl := Fa.names
            have hnm := Fa.tot ok
            rw [← hnl] at hnm
            have hln : ((twoOf rs t).1.2 ++ (twoOf rs t).2.2).length ≤ 40 := by rw [List.length_mergeSort] at hnm; omega
            walk_at "go"
            refine ⟨na1, na2, _, _, rfl, rfl, sqt hn1, sqt hn2, ?_, fun h0 => absurd (List.map_eq_nil_iff.mp h0) hz1, fun _ h0 => absurd (List.map_eq_nil_iff.mp h0) hz2, fun _ _ y hy => ?_⟩
            · rw [List.length_map, List.length_map]
              rw [List.length_append] at hln
              exact sz100 (by omega)
            walk_at "go"
            refine ⟨y, (twoOf rs t).1.2 ++ (twoOf rs t).2.2, rfl, sqt (by rw [upd_same, List.map_append]), by omega, fun l hl => ?_⟩
            walk_at "go"
            refine x_tupL upd_same fun w' hw' => ?_
            have s12 : Same H11 (upd (upd (upd H11 y (.tup ((twoOf rs t).1.2.map V.str ++ (twoOf rs t).2.2.map V.str))) l (.lst ((((twoOf rs t).1.2 ++ (twoOf rs t).2.2).mergeSort leS).map V.str))) w' (.tup ((((twoOf rs t).1.2 ++ (twoOf rs t).2.2).mergeSort leS).map V.str))) := ((same_new hy).trans (same_new hl)).trans (same_new hw')
            have hw12 : (upd (upd (upd H11 y (.tup ((twoOf rs t).1.2.map V.str ++ (twoOf rs t).2.2.map V.str))) l (.lst ((((twoOf rs t).1.2 ++ (twoOf rs t).2.2).mergeSort leS).map V.str))) w' (.tup ((((twoOf rs t).1.2 ++ (twoOf rs t).2.2).mergeSort leS).map V.str))) w' = some (.tup ((((twoOf rs t).1.2 ++ (twoOf rs t).2.2).mergeSort leS).map V.str)) := upd_same
            generalize upd (upd (upd H11 y (.tup ((twoOf rs t).1.2.map V.str ++ (twoOf rs t).2.2.map V.str))) l (.lst ((((twoOf rs t).1.2 ++ (twoOf rs t).2.2).mergeSort leS).map V.str))) w' (.tup ((((twoOf rs t).1.2 ++ (twoOf rs t).2.2).mergeSort leS).map V.str)) = H12 at *
            have f12 := f11.same s12
            have efp : (fallS L rs).parts = (comeIn L u (((twoOf rs t).1.2 ++ (twoOf rs t).2.2).mergeSort leS) (offS rs t)).parts := by unfold fallS fallS1; rw [et, Fa.mo]; rfl
            have efq : (fallS L rs).pairs = (comeIn L u (((twoOf rs t).1.2 ++ (twoOf rs t).2.2).mergeSort leS) (offS rs t)).pairs := by unfold fallS fallS1; rw [et, Fa.mo]; rfl
            have efr : (fallS L rs).rows = rs.rows ++ [(t.1, (twoOf rs t).1.2, (twoOf rs t).2.2)] := by unfold fallS fallS1; rw [et]; rfl
            have efs : (fallS L rs).sps = rs.sps ++ [(t.1, (comeIn L u (((twoOf rs t).1.2 ++ (twoOf rs t).2.2).mergeSort leS) (offS rs t)).parts.map (·.2))] := by unfold fallS fallS1; rw [et, Fa.mo]; rfl
            generalize ((twoOf rs t).1.2 ++ (twoOf rs t).2.2).mergeSort leS = ns at *
            walk_at "go"
            have htotL : ((offS rs t).parts.map (·.2.2.length)).sum + ns.length ≤ L.length := hnm
            have hnsne : ns ≠ [] := by
              intro h0
              rw [h0] at hnl
              have := ok.nz _ Fa.hp
              have h3 : p.2.length ≠ 0 := fun y => this (List.length_eq_zero_iff.mp y)
              simp at hnl
              omega
            refine ⟨R, dx, D, D2, rr, vb, .ref w', [("stretches", .ref ss)], L, offS rs t, u, ns, _, rfl, f12.hI, Nat.le_refl _, f12.hB, f12.hP, f12.hT, f12.hQ, mk_nm hw12, hL, h40, off_ok Fa ok, hnsne, htotL, fun kvs' H13 sx13 hR13 hP13 hT13 hQ13 => ?_⟩
            unfold Sl.fl at hR13
            have hrr13 : H13 rr = some (.lst (rws ++ [.ref z])) := sx13 _ _ (by simp [hrD, hrD2]; exact fun z => r3 z.symm) f12.hRr
            have hss13 : H13 ss = some (.lst sws) := sx13 _ _ (by simp [hsD, hsD2]; exact fun z => r4 z.symm) f12.hSs
            have kl13 : Kl [rr, ss] H12 H13 := by
              refine ⟨sx_kp sx13 (fun a ha xs z => ?_), fun l' zs _ h => sx13 _ _ (fun ha => ?_) h⟩
              · simp at ha
                rcases ha with m | m | m
                · rw [m, f12.hI] at z; cases z
                · rw [m, f12.hP] at z; cases z
                · rw [m, f12.hQ] at z; cases z
              · simp at ha
                rcases ha with m | m | m
                · rw [m, f12.hI] at h; cases h
                · rw [m, f12.hP] at h; cases h
                · rw [m, f12.hQ] at h; cases h
            have bk13 : Bk cB H13 vb L := by
              obtain ⟨b, bdx, r, hb0, hb1, hb2⟩ := f12.hB
              refine ⟨b, bdx, r, hb0, sx13 _ _ (fun ha => ?_) hb1, kl13.tup _ _ hb2⟩
              simp at ha
              rcases ha with m | m | m
              · rw [m, f12.hI] at hb1; exact ins_ne (Option.some.inj hb1)
              · rw [m, f12.hP] at hb1; cases hb1
              · rw [m, f12.hQ] at hb1; cases hb1
            walk_at "go"
            refine ⟨D, kvs', rfl, hP13, fun lp hlp => ?_⟩
            walk_at "go"
            refine ⟨len2, fun tz htz => ?_⟩
            have s14 : Same H13 (upd H13 lp (.lst (kvs'.map (·.2)))) := same_new hlp
            have s15 : Same H13 (upd (upd H13 lp (.lst (kvs'.map (·.2)))) tz (.tup [.int t.1, .ref lp])) := s14.trans (same_new htz)
            have hlp15 : (upd (upd H13 lp (.lst (kvs'.map (·.2)))) tz (.tup [.int t.1, .ref lp])) lp = some (.lst (kvs'.map (·.2))) := (same_new htz) _ _ upd_same
            have htz15 : (upd (upd H13 lp (.lst (kvs'.map (·.2)))) tz (.tup [.int t.1, .ref lp])) tz = some (.tup [.int t.1, .ref lp]) := upd_same
            have nlr : lp ≠ rr := fun z => by rw [z, hrr13] at hlp; cases hlp
            have nls : lp ≠ ss := fun z => by rw [z, hss13] at hlp; cases hlp
            generalize upd (upd H13 lp (.lst (kvs'.map (·.2)))) tz (.tup [.int t.1, .ref lp]) = H15 at *
            walk_at "go"
            have hss15 := s15 _ _ hss13
            refine x_app hss15 (sz100' (by omega)) ?_
            walk_at "go"
            have klF : Kl [rr, ss] H15 (upd H15 ss (.lst (sws ++ [.ref tz]))) := ⟨kp_mut hss15 (fun _ z => nomatch z), fun l' zs hA h => by rw [upd_ne (fun z => hA (by rw [z]; simp))]; exact h⟩
            have sxF : SX [R, rr, ss] H (upd H15 ss (.lst (sws ++ [.ref tz]))) := by
              refine SX.mut (SX.same (fun a o hn ho => ?_) s15) (by simp)
              refine sx13 _ _ (fun hm => ?_) (f12.hX _ _ hn ho)
              simp at hm
              rcases hm with m | m | m
              · exact hn (by rw [m]; simp)
              · rw [m, hD0] at ho; cases ho
              · rw [m, hD20] at ho; cases ho
            refine k D D2 _ sxF hD0 hD20 ⟨?_, bk_mut hss15 (fun _ z => nomatch z) (fun _ _ z => nomatch z) (bk_same s15 bk13), ⟨kvs', ?_, ?_⟩, ?_, ⟨rws ++ [.ref z], ?_, ?_⟩, ⟨sws ++ [.ref tz], upd_same, ?_⟩, hrs⟩
            · rw [upd_ne r4]; exact s15 _ _ hR13
            · rw [upd_ne (fun z => hsD z.symm)]; exact s15 _ _ hP13
            · rw [efp]; exact pts_keep klF.tup (pts_keep (kp_same s15) hT13)
            · rw [upd_ne (fun z => hsD2 z.symm), efq]; exact s15 _ _ hQ13
            · rw [upd_ne hrs]; exact s15 _ _ hrr13
            · rw [efr]; exact tpa_keep klF.tup (tpa_keep (kp_same s15) (tpa_keep kl13.tup f12.tRr))
            · rw [efs]
              refine st_snoc (stAt_keep klF ⟨tz, lp, _, rfl, htz15, hlp15, by simp [nlr, nls], ?_⟩) (st_keep klF (st_keep (kl_same s15) (st_keep kl13 f12.tSs)))
              rw [List.map_map]
              exact tpa_keep (kp_same s15) hT13.vals
end
end Sl

set_option Elab.async false
set_option linter.all false
set_option maxRecDepth 100000
set_option maxHeartbeats 4000000
/-! The walks: a Run made. -/
namespace Sl
open PySem L2
local macro_rules | `(tactic| walk_at "go1") => `(tactic| first
  | with_reducible refine x_seq ?_
  | with_reducible refine x_asg ?_
  | with_reducible refine x_name ?_
  | with_reducible refine x_ret ?_
  | with_reducible refine x_if ?_
  | ((with_reducible refine' x_var ?hv ?_); (case hv => rfl))
  | with_reducible refine x_c ?_
  | with_reducible refine' x_non ?_
  | with_reducible refine x_yes ?_
  | with_reducible refine' iteT ?_
  | with_reducible refine' iteF ?_
  | with_reducible refine x_op ?_
  | with_reducible refine x_I0 ?_
  | with_reducible refine x_test ?_
  | with_reducible refine' x_bl ?_
  | with_reducible refine x_eqI ?_
  | with_reducible refine x_neI ?_
  | with_reducible refine x_cons ?_
  | with_reducible refine x_nil ?_
  | with_reducible refine x_call ?_
  | with_reducible refine x_cb ?_
  | with_reducible refine x_par ?_
  | with_reducible refine x_par2 ?_
  | with_reducible refine x_gcons ?_
  | with_reducible refine x_gnil ?_
  | with_reducible refine x_next ?_
  | with_reducible refine x_drop ?_
  | with_reducible refine x_bm ?_
  | with_reducible refine x_fld ?_
  | with_reducible refine x_dget ?_
  | with_reducible refine x_lc ?_
  | with_reducible refine x_sfld ?_
  | with_reducible refine x_meth ?_
  | with_reducible refine x_augS ?_
  | with_reducible refine x_gsub ?_
  | with_reducible refine x_ipI ?_
  | ((with_reducible refine' x_ixLc ?ha ?hk ?_); (case ha => assumption); (case hk => rfl))
  | with_reducible refine x_lc2 ?_
  | with_reducible refine x_rng1 ?_
  | with_reducible refine x_rng2 ?_
  | with_reducible refine x_un ?_
  | with_reducible refine x_unI ?_
  | with_reducible refine x_zip ?_
  | with_reducible refine x_sl ?_
  | with_reducible refine x_nopart ?_
  | with_reducible refine x_part ?_
  | with_reducible refine' x_partI ?_
  | ((with_reducible refine' x_slL ?ha ?_); (case ha => assumption))
  | with_reducible refine' x_min2 ?_
  | with_reducible refine' x_max2 ?_
  | with_reducible refine x_lv ?_
  | with_reducible refine x_dc ?_
  | with_reducible refine x_dcT ?_
  | with_reducible refine x_iKeys ?_
  | with_reducible refine x_itemsT ?_
  | ((with_reducible refine' x_itemsTI ?ha ?_); (case ha => assumption))
  | ((with_reducible refine' x_keysK ?ha ?_); (case ha => assumption))
  | ((with_reducible refine' x_keysT ?ha ?_); (case ha => assumption))
  | with_reducible refine x_dput ?_
  | with_reducible refine x_faug ?_
  | with_reducible refine x_add ?_
  | with_reducible refine x_items ?_
  | ((with_reducible refine' x_itemsI ?ha ?_); (case ha => assumption))
  | ((with_reducible refine' x_faugI ?ha ?hc ?hn ?hl ?_); (case ha => assumption); (case hc => assumption); (case hn => assumption); (case hl => rfl))
  | with_reducible refine x_make ?_
  | with_reducible refine x_andV ?_
  | with_reducible refine x_orV ?_
  | with_reducible refine x_notV ?_
  | with_reducible refine x_chain ?_
  | with_reducible refine x_notT ?_
  | with_reducible refine x_andT ?_
  | with_reducible refine x_orT ?_
  | with_reducible refine x_tB ?_
  | with_reducible refine' iteNT ?_
  | with_reducible refine' iteNF ?_
  | with_reducible refine x_isiI ?_
  | with_reducible refine x_isiB ?_
  | ((with_reducible refine' x_isiL ?ha ?_); (case ha => assumption))
  | ((with_reducible refine' x_len ?ha ?_); (case ha => assumption))
  | ((with_reducible refine' x_lenT ?ha ?_); (case ha => assumption))
  | ((with_reducible refine' x_fldI ?ha ?hc ?hn ?hl ?_); (case ha => assumption); (case hc => assumption); (case hn => assumption); (case hl => rfl))
  | ((with_reducible refine' x_sfldI ?ha ?hc ?hn ?hl ?_); (case ha => assumption); (case hc => assumption); (case hn => assumption); (case hl => first | (with_unfolding_all decide) | (simp only [List.length_cons, List.length_nil]; omega)))
  | ((with_reducible refine' x_methI ?ha ?hl ?_); (case ha => assumption); (case hl => rfl))
  | with_reducible refine x_for ?_
  | with_reducible refine x_dset ?_
  | ((with_reducible refine' x_isD ?ha ?_); (case ha => assumption))
  | with_reducible refine x_iL ?_
  | with_reducible refine x_iT ?_
  | with_reducible refine x_dK ?_
  | with_reducible refine x_dT ?_
  | ((with_reducible refine' x_tyl ?ha ?_); (case ha => assumption))
  | ((with_reducible refine' x_lct ?ha ?_); (case ha => assumption))
  | ((with_reducible refine' x_tct ?ha ?_); (case ha => assumption))
  | ((with_reducible refine' x_gtup ?ha ?hn ?_); (case ha => assumption); (case hn => rfl))
  | ((with_reducible refine' x_ixT ?ha ?hk ?_); (case ha => assumption); (case hk => rfl))
  | (with_reducible refine x_tup ?_)
  | (with_reducible refine x_lst ?_))
local macro_rules | `(tactic| walk_at "go") => `(tactic| (repeat walk_at "go1"))
section
variable {P : Program} {w : World} {K : PySem.W.Frag} {mg : Str → Option Value} {base : Heap} {t1 t2 : Tok}
theorem sum_take (f : Int × Nm → Nat) : ∀ (l : List (Int × Nm)) (i : Nat), ((l.take i).map f).sum ≤ (l.map f).sum
  | [], i => by simp
  | a :: l, 0 => by simp
  | a :: l, i + 1 => by
    rw [List.take_succ_cons, List.map_cons, List.map_cons, List.sum_cons, List.sum_cons]
    have := sum_take f l i
    omega
theorem lg_of {L : List Int} {st : List (Str × Int)} (G : Good L st) : LG L := fun l hl => ⟨G.pos l hl, by have := G.top l hl; omega⟩
theorem pre_ok {L : List Int} {st : List (Str × Int)} (G : Good L st) (i : Nat) : Ok L (runI L ((groups st).take i)) := by
  have h1 := groups_tot st
  have h2 := groups_len st
  have h3 := G.sz
  have h4 := G.l40
  have h5 := sum_take (fun g => g.2.length) (groups st) i
  have h6 : ((groups st).take i).length ≤ (groups st).length := by rw [List.length_take]; omega
  exact runF_ok G.l40 _ run0 (run0_ok L) rfl (fun g hg => groups_nz st g (List.mem_of_mem_take hg)) (by show 0 + _ ≤ _; omega) (by show 0 + _ ≤ _; omega)
theorem pre_tot {L : List Int} {st : List (Str × Int)} (G : Good L st) {i : Nat} {g : Int × Nm} (h : (groups st)[i]? = some g) : ((runI L ((groups st).take i)).parts.map (·.2.2.length)).sum + g.2.length ≤ L.length := by
  have h1 := groups_tot st
  have h3 := G.sz
  have h5 := sum_take (fun g => g.2.length) (groups st) (i + 1)
  rw [take_snoc h, List.map_append, List.sum_append] at h5
  have e : ((runI L ((groups st).take i)).parts.map (·.2.2.length)).sum = totP (runI L ((groups st).take i)).parts := rfl
  rw [e]
  unfold runI
  rw [runF_tot]
  have e0 : totP run0.parts = 0 := rfl
  rw [e0]
  simp only [List.map_cons, List.map_nil, List.sum_cons, List.sum_nil] at h5
  omega
theorem pre_snoc {L : List Int} {gs : List (Int × Nm)} {i : Nat} {g : Int × Nm} (h : gs[i]? = some g) : runI L (gs.take (i + 1)) = comeIn L g.1 g.2 (runI L (gs.take i)) := by
  unfold runI
  rw [take_snoc h, List.foldl_append]
  rfl
theorem x_trT {H : Hp} {d : Addr} {kvs : List (List Key × V)} {Q : Bool → Hp → Prop} (ha : H d = some (.dT kvs)) (h : Q (!kvs.isEmpty) H) : rTruT (.ref d) H Q := ⟨d, kvs, rfl, ha, h⟩
theorem ins_ne1 {a b c d : Addr} {x z : Str} {y u : V} (h : x ≠ z) : HO.ins a b [(x, y)] ≠ HO.ins c d [(z, u)] := fun e => by
  have e2 : [(x, y)] = [(z, u)] := by injection e
  exact h (congrArg Prod.fst (List.cons.inj e2).1)
theorem set_fld {cB cR R dx : Addr} {H : Hp} {vb y : V} {L : List Int} {fs : List (Str × V)} {f : Str} (hR : H R = some (.ins cR dx fs)) (bk : Bk cB H vb L) (hf : ∀ d r, HO.ins cR dx fs ≠ .ins cB d [("rows", .ref r)]) :
    SX [R] H (upd H R (.ins cR dx (putF f y fs))) ∧ (upd H R (.ins cR dx (putF f y fs))) R = some (.ins cR dx (putF f y fs)) ∧ Kp H (upd H R (.ins cR dx (putF f y fs))) ∧ Bk cB (upd H R (.ins cR dx (putF f y fs))) vb L :=
  ⟨sx_mut (by simp), upd_same, kp_mut hR (fun _ z => nomatch z), bk_mut hR (fun _ z => nomatch z) hf bk⟩
theorem sx_none {A : List Addr} {H H' : Hp} {p : Addr} (s : SX A H H') (hp : p ∉ A) (h : H' p = none) : H p = none := by
  cases hz : H p with
  | none => rfl
  | some o => rw [s _ _ hp hz] at h; cases h
def sp_Run_init (cB cR : Addr) : Sp := fun vs H Q _ => ∃ (R dx : Addr) (vb vst : V) (L : List Int) (st : List (Str × Int)), vs = [.ref R, vb, vst] ∧ H R = some (.ins cR dx []) ∧ Bk cB H vb L ∧ Tp H vst (stD st) ∧ Good L st ∧
  ∀ pp pq rr ss H', SX [R] H H' → RnAt cB cR H' R dx pp pq rr ss vb L (run L st) → Q .non H'
/-- slots of Run.__init__: 0 self 1 book 2 standing 3 rest 4 names -/
abbrev s_Run_init : Stmt := inClass (top 28) 0
theorem sc_Run_init : FnScope ["self", "book", "standing", "rest", "names"] ["self", "book", "standing"] (defScope s_Run_init) := ⟨rfl, rfl, rfl, by decide +kernel, rfl, by decide +kernel, by decide +kernel⟩
theorem ok_Run_init {cB cR f fg fc fi : Addr} {fd fdg fdc fdi : FuncData} (T : BtT mg t1 t2) (C : RunC K cR) (F : Fun K "__init__" "Run.__init__" s_Run_init f fd) (D_groups_of : FC P w K mg base 1 "groups_of" ["standing"] sp_groups_of fg fdg)
    (D_Run_come_in : MC P w K mg base cR 5 "come_in" ["self", "first", "names"] (sp_come_in cB cR) fc fdc) (D_Run_fall_in : MC P w K mg base cR 6 "fall_in" ["self"] (sp_fall_in cB cR) fi fdi) : FnOk P w K mg base CX0 7 f fd ["self", "book", "standing"] (sp_Run_init cB cR) := by
  refine F.ok sc_Run_init (fun vs H Q E h => ?_) (fun cdv A outer s H vs Q E hr h => ?_)
  · obtain ⟨_, _, _, _, _, _, rfl, _⟩ := h
    rfl
  · have c_Run := C.cls
    have n1 := C.book
    have n2 := C.many
    have n3 := C.parts
    have n4 := C.pairs
    have n5 := C.rows
    have n6 := C.stretches
    refine ⟨_, (pss_cons (ps_fld (pv 0) (pv 1) rfl)
      (pss_cons (ps_fld (pv 0) pe_int rfl)
      (pss_cons (ps_fld (pv 0) pe_dnewK rfl)
      (pss_cons (ps_fld (pv 0) pe_dnewT rfl)
      (pss_cons (ps_fld (pv 0) (pe_lst pa_nil) rfl)
      (pss_cons (ps_for PassesOwn.never rfl (pi_list (pe_f D_groups_of hr (by decide) (pa_cons (pv 2) pa_nil))) (pg_tup (n := 2) rfl (pgs_cons (pg_name (i := 3) sc_Run_init.nd rfl (Or.inl rfl)) (pgs_cons (pg_name (i := 4) sc_Run_init.nd rfl (Or.inl rfl)) pgs_nil))) (pss_one (ps_expr (pe_m (pv 0) c_Run D_Run_come_in hr (by decide) (pa_cons (pv 3) (pa_cons (pv 4) pa_nil))))))
      (pss_cons (ps_fld (pv 0) (pe_lst (pa_cons (pe_tup (pa_cons pe_int (pa_cons (pe_listVals rfl (kFld (K := K) rfl (pv 0) rfl) (by rfl) T.list) pa_nil))) pa_nil)) rfl)
      (pss_one (ps_while PassesOwn.never (pt_truthR (kFld (K := K) rfl (pv 0) rfl) tru_dT (by intro _; rfl)) (pss_one (ps_expr (pe_m0 (pv 0) c_Run D_Run_fall_in hr (by decide))))))))))))), ?_⟩
    obtain ⟨R, dx, vb, vst, L, st, rfl, hR0, hbk, tst, G, k⟩ := h
    have hL := lg_of G
    walk_at "go"
    obtain ⟨sx1, hR1, kp1, bk1⟩ := set_fld (f := "book") (y := vb) hR0 hbk (fun _ _ z => nomatch z)
    replace hR1 : _ = some (HO.ins cR dx [("book", vb)]) := hR1
    generalize upd H R (.ins cR dx (putF "book" vb [])) = H1 at *
    walk_at "go"
    obtain ⟨sx2, hR2, kp2, bk2⟩ := set_fld (f := "many") (y := .int 0) hR1 bk1 (fun _ _ => ins_ne1 (by decide))
    replace hR2 : _ = some (HO.ins cR dx [("book", vb), ("many", .int 0)]) := hR2
    generalize upd H1 R (.ins cR dx (putF "many" (.int 0) [("book", vb)])) = H2 at *
    walk_at "go"
    intro pp hpp0
    have hRp := ne_of_none hR2 hpp0
    have s3 : Same H2 (upd H2 pp (.dK [])) := same_new hpp0
    have hR3 : (upd H2 pp (.dK [])) R = some (.ins cR dx [("book", vb), ("many", .int 0)]) := s3 _ _ hR2
    have hpp3 : (upd H2 pp (.dK [])) pp = some (.dK []) := upd_same
    have bk3 := bk_same s3 bk2
    generalize upd H2 pp (.dK []) = H3 at *
    walk_at "go"
    obtain ⟨sx4, hR4, kp4, bk4⟩ := set_fld (f := "parts") (y := .ref pp) hR3 bk3 (fun _ _ => ins_ne)
    replace hR4 : _ = some (HO.ins cR dx [("book", vb), ("many", .int 0), ("parts", .ref pp)]) := hR4
    have hpp4 := sx4 _ _ (by simp; exact fun z => hRp z.symm) hpp3
    generalize upd H3 R (.ins cR dx (putF "parts" (.ref pp) [("book", vb), ("many", .int 0)])) = H4 at *
    walk_at "go"
    intro pq hpq0
    have hRq := ne_of_none hR4 hpq0
    have hpq := ne_of_none hpp4 hpq0
    have s5 : Same H4 (upd H4 pq (.dT [])) := same_new hpq0
    have hR5 := s5 _ _ hR4
    have hpp5 := s5 _ _ hpp4
    have hpq5 : (upd H4 pq (.dT [])) pq = some (.dT []) := upd_same
    have bk5 := bk_same s5 bk4
    generalize upd H4 pq (.dT []) = H5 at *
    walk_at "go"
    obtain ⟨sx6, hR6, kp6, bk6⟩ := set_fld (f := "pairs") (y := .ref pq) hR5 bk5 (fun _ _ => ins_ne)
    replace hR6 : _ = some (HO.ins cR dx [("book", vb), ("many", .int 0), ("parts", .ref pp), ("pairs", .ref pq)]) := hR6
    have hpp6 := sx6 _ _ (by simp; exact fun z => hRp z.symm) hpp5
    have hpq6 := sx6 _ _ (by simp; exact fun z => hRq z.symm) hpq5
    generalize upd H5 R (.ins cR dx (putF "pairs" (.ref pq) [("book", vb), ("many", .int 0), ("parts", .ref pp)])) = H6 at *
    walk_at "go"
    refine ⟨len0, fun rr hrr0 => ?_⟩
    have hRr := ne_of_none hR6 hrr0
    have s7 : Same H6 (upd H6 rr (.lst [])) := same_new hrr0
    have hR7 := s7 _ _ hR6
    have hpp7 := s7 _ _ hpp6
    have hpq7 := s7 _ _ hpq6
    have hrr7 : (upd H6 rr (.lst [])) rr = some (.lst []) := upd_same
    have bk7 := bk_same s7 bk6
    generalize upd H6 rr (.lst []) = H7 at *
    walk_at "go"
    obtain ⟨sx8, hR8, kp8, bk8⟩ := set_fld (f := "rows") (y := .ref rr) hR7 bk7 (fun _ _ => ins_ne)
    replace hR8 : _ = some (HO.ins cR dx (("book", vb) :: ("many", .int 0) :: ("parts", .ref pp) :: ("pairs", .ref pq) :: ("rows", .ref rr) :: [])) := hR8
    have hpp8 := sx8 _ _ (by simp; exact fun z => hRp z.symm) hpp7
    have hpq8 := sx8 _ _ (by simp; exact fun z => hRq z.symm) hpq7
    have hrr8 := sx8 _ _ (by simp; exact fun z => hRr z.symm) hrr7
    generalize upd H7 R (.ins cR dx (putF "rows" (.ref rr) [("book", vb), ("many", .int 0), ("parts", .ref pp), ("pairs", .ref pq)])) = H8 at *
    have sxA : SX [R] H H8 := ((((((((sx1.trans sx2).same s3).trans sx4).same s5).trans sx6).same s7).trans sx8))
    have kpA : Kp H H8 := sx_kp sxA (fun a ha xs z => by rw [List.mem_singleton.mp ha, hR0] at z; cases z)
    -- what is new
    have np2 : H pp = none := sx_none (sx1.trans sx2) (by simp; exact fun z => hRp z.symm) hpp0
    have nq2 : H pq = none := sx_none (((sx1.trans sx2).same s3).trans sx4) (by simp; exact fun z => hRq z.symm) hpq0
    have nr2 : H rr = none := sx_none (((((sx1.trans sx2).same s3).trans sx4).same s5).trans sx6) (by simp; exact fun z => hRr z.symm) hrr0
    walk_at "go"
    refine ⟨vst, st, rfl, tp_keep kpA tst, by have := G.sz; have := G.l40; omega, fun gp gxs H9 s9 hgp0 hgp tg => ?_⟩
    have hR9 := s9 _ _ hR8
    have hpp9 := s9 _ _ hpp8
    have hpq9 := s9 _ _ hpq8
    have hrr9 := s9 _ _ hrr8
    have bk9 := bk_same s9 bk8
    walk_at "go"
    have gne1 : gp ≠ R := fun z => by rw [z, hR8] at hgp0; cases hgp0
    have gne2 : gp ≠ pp := fun z => by rw [z, hpp8] at hgp0; cases hgp0
    have gne3 : gp ≠ pq := fun z => by rw [z, hpq8] at hgp0; cases hgp0
    refine for_list tg (fun i σ H' => (∃ u v, σ = [some (.ref R), some vb, some vst, u, v]) ∧ SX [R, pp, pq] H9 H' ∧ ∃ kvs, H' R = some (.ins cR dx (fl vb (runI L ((groups st).take i)).many pp pq rr [])) ∧ H' pp = some (.dK kvs) ∧ PtsAt H' kvs (runI L ((groups st).take i)).parts ∧ H' pq = some (.dT ((runI L ((groups st).take i)).pairs.map prK)))
      ⟨⟨none, none, rfl⟩, SX.refl _ _, [], hR9, hpp9, ⟨rfl, .nil⟩, hpq9⟩ (fun i e x σ H10 he ⟨⟨u, v, es⟩, sx, kvs, q1, q2, q3, q4⟩ tx => ?_) (fun σ H10 ⟨⟨u, v, es⟩, sx, kvs, q1, q2, q3, q4⟩ => ?_) hgp (fun i σ H10 ⟨_, sx, _⟩ => ⟨sx _ _ (by simp [gne1, gne2, gne3]) hgp, sx_kp sx (fun a ha xs z => by
        simp at ha
        rcases ha with m | m | m
        · rw [m, hR9] at z; cases z
        · rw [m, hpp9] at z; cases z
        · rw [m, hpq9] at z; cases z)⟩)
    · subst es
      obtain ⟨p, q, rfl, hp, hq⟩ := tp_gr tx
      have q1' := q1
      unfold fl at q1'
      walk_at "go"
      have bk10 : Bk cB H10 vb L := by
        obtain ⟨b, bdx, r, hb0, hb1, hb2⟩ := bk9
        have hnot : ∀ {a : Addr} {o : HO}, H9 a = some o → (∀ x y fs, o ≠ .ins cR dx (x :: y :: fs)) → (∀ kvs, o ≠ .dK kvs) → (∀ kvs, o ≠ .dT kvs) → H10 a = some o := fun {a o} h i1 i2 i3 => sx _ _ (fun hm => by
          simp at hm
          rcases hm with m | m | m
          · rw [m, hR9] at h; exact i1 _ _ _ (Option.some.inj h).symm
          · rw [m, hpp9] at h; exact i2 _ (Option.some.inj h).symm
          · rw [m, hpq9] at h; exact i3 _ (Option.some.inj h).symm) h
        exact ⟨b, bdx, r, hb0, hnot hb1 (fun _ _ _ z => ins_ne z.symm) (fun _ z => nomatch z) (fun _ z => nomatch z), hnot hb2 (fun _ _ _ z => nomatch z) (fun _ z => nomatch z) (fun _ z => nomatch z)⟩
      refine ⟨R, dx, pp, pq, rr, vb, .ref q, [], L, runI L ((groups st).take i), e.1, e.2, kvs, rfl, q1, Nat.zero_le _, bk10, q2, q3, q4, mk_nm hq, hL, G.l40, pre_ok G i, groups_nz st e (List.mem_of_getElem? he), pre_tot G he, fun kvs' H11 sx11 w1 w2 w3 w4 => ?_⟩
      walk_at "go"
      refine ⟨⟨_, _, rfl⟩, sx.trans sx11, kvs', ?_, w2, ?_, ?_⟩
      · rw [pre_snoc he]; exact w1
      · rw [pre_snoc he]; exact w3
      · rw [pre_snoc he]; exact w4
    · subst es
      rw [List.take_length] at q1 q3 q4
      unfold fl at q1
      walk_at "go"
      refine ⟨pp, kvs, rfl, q2, fun lp hlp => ?_⟩
      walk_at "go"
      refine ⟨len2, fun tz htz => ?_⟩
      walk_at "go"
      refine ⟨len1, fun ss hss => ?_⟩
      have bk10 : Bk cB H10 vb L := by
        obtain ⟨b, bdx, r, hb0, hb1, hb2⟩ := bk9
        have hnot : ∀ {a : Addr} {o : HO}, H9 a = some o → (∀ x y fs, o ≠ .ins cR dx (x :: y :: fs)) → (∀ kvs, o ≠ .dK kvs) → (∀ kvs, o ≠ .dT kvs) → H10 a = some o := fun {a o} h i1 i2 i3 => sx _ _ (fun hm => by
          simp at hm
          rcases hm with m | m | m
          · rw [m, hR9] at h; exact i1 _ _ _ (Option.some.inj h).symm
          · rw [m, hpp9] at h; exact i2 _ (Option.some.inj h).symm
          · rw [m, hpq9] at h; exact i3 _ (Option.some.inj h).symm) h
        exact ⟨b, bdx, r, hb0, hnot hb1 (fun _ _ _ z => ins_ne z.symm) (fun _ z => nomatch z) (fun _ z => nomatch z), hnot hb2 (fun _ _ _ z => nomatch z) (fun _ z => nomatch z) (fun _ z => nomatch z)⟩
      have prq : rr ≠ pp := ne_of hrr9 hpp9 (fun z => nomatch z)
      have prq2 : rr ≠ pq := ne_of hrr9 hpq9 (fun z => nomatch z)
      have hrr10 : H10 rr = some (.lst []) := sx _ _ (by simp [prq, prq2]; exact fun z => hRr z.symm) hrr9
      have s11 : Same H10 (upd H10 lp (.lst (kvs.map (·.2)))) := same_new hlp
      have hlp11 : (upd H10 lp (.lst (kvs.map (·.2)))) lp = some (.lst (kvs.map (·.2))) := upd_same
      generalize upd H10 lp (.lst (kvs.map (·.2))) = H11 at *
      have s12 : Same H11 (upd H11 tz (.tup [.int 0, .ref lp])) := same_new htz
      have htz12 : (upd H11 tz (.tup [.int 0, .ref lp])) tz = some (.tup [.int 0, .ref lp]) := upd_same
      generalize upd H11 tz (.tup [.int 0, .ref lp]) = H12 at *
      have s13 : Same H12 (upd H12 ss (.lst [.ref tz])) := same_new hss
      have hss13 : (upd H12 ss (.lst [.ref tz])) ss = some (.lst [.ref tz]) := upd_same
      have hssr : rr ≠ ss := ne_of_none (s12 _ _ (s11 _ _ hrr10)) hss
      have nss10 : H10 ss = none := none_back (s11.trans s12) hss
      have nlr : lp ≠ rr := fun z => by rw [z, hrr10] at hlp; cases hlp
      have nls : lp ≠ ss := ne_of_none (s12 _ _ hlp11) hss
      generalize upd H12 ss (.lst [.ref tz]) = H13 at *
      have sC := (s11.trans s12).trans s13
      have hR13 := sC _ _ q1
      have hRss : R ≠ ss := fun z => by rw [← z, q1] at nss10; cases nss10
      walk_at "go"
      have bk13 := bk_same sC bk10
      obtain ⟨sx14, hR14, kp14, bk14⟩ := set_fld (f := "stretches") (y := .ref ss) hR13 bk13 (fun _ _ => ins_ne)
      replace hR14 : _ = some (HO.ins cR dx (fl vb (runI L (groups st)).many pp pq rr [("stretches", .ref ss)])) := hR14
      have hpp14 := sx14 _ _ (by simp; exact fun z => hRp z.symm) (sC _ _ q2)
      have hpq14 := sx14 _ _ (by simp; exact fun z => hRq z.symm) (sC _ _ q4)
      have hrr14 := sx14 _ _ (by simp; exact fun z => hRr z.symm) (sC _ _ hrr10)
      have hss14 := sx14 _ _ (by simp; exact fun z => hRss z.symm) hss13
      have hlR : lp ≠ R := ne_of (s13 _ _ (s12 _ _ hlp11)) hR13 (fun z => nomatch z)
      have hlp14 := sx14 lp _ (by simp; exact hlR) (s13 _ _ (s12 _ _ hlp11))
      have htz14 := kp14 _ _ (s13 _ _ htz12)
      have hpt14 := pts_keep kp14 (pts_keep (kp_same sC) q3)
      have sx10 : SX [R] H H10 := fun a o hn ho => sx _ _ (fun hm => by
        simp at hm
        rcases hm with m | m | m
        · exact hn (by rw [m]; simp)
        · rw [m, np2] at ho; cases ho
        · rw [m, nq2] at ho; cases ho) ((sxA.same s9) _ _ hn ho)
      have ns2 : H ss = none := sx_none sx10 (by simp; exact fun z => hRss z.symm) nss10
      have sxW : SX [R] H (upd H13 R (.ins cR dx (putF "stretches" (.ref ss) (("book", vb) :: ("many", .int (runI L (groups st)).many) :: ("parts", .ref pp) :: ("pairs", .ref pq) :: ("rows", .ref rr) :: [])))) := (sx10.same sC).trans sx14
      generalize upd H13 R (.ins cR dx (putF "stretches" (.ref ss) (("book", vb) :: ("many", .int (runI L (groups st)).many) :: ("parts", .ref pp) :: ("pairs", .ref pq) :: ("rows", .ref rr) :: []))) = H14 at *
      have rn : RnAt cB cR H14 R dx pp pq rr ss vb L (runJ L (groups st)) := by
        refine ⟨hR14, bk14, ⟨kvs, hpp14, hpt14⟩, hpq14, ⟨[], hrr14, ?_⟩, ⟨[.ref tz], hss14, .cons ⟨tz, lp, _, rfl, htz14, hlp14, by simp [nlr, nls], ?_⟩ .nil⟩, hssr⟩
        · have e : (runJ L (groups st)).rows = [] := runF_rows (groups st) run0
          rw [e]
          exact .nil
        · show TpAll H14 _ (((runI L (groups st)).parts.map (·.2)).map ptD)
          rw [List.map_map]
          exact hpt14.vals
      with_reducible refine' x_while ?W ?m0 ?w0 ?hs
      case W => exact (fun m σ' H' => ∃ s pp pq, σ' = [some (.ref R), some vb, some vst, u, v] ∧ RnAt cB cR H' R dx pp pq rr ss vb L s ∧ Ok L s ∧ iter L m s = run L st ∧ SX [R] H H')
      case m0 => exact (runJ L (groups st)).parts.length
      case w0 => exact ⟨_, pp, pq, rfl, rn, runJ_ok G, rfl, sxW⟩
      rintro m σ' H' ⟨s', pp', pq', rfl, rn', ok', hit, sx'⟩
      have hR' := rn'.ins
      have hq' := rn'.pairs
      unfold fl at hR'
      walk_at "go"
      refine x_trT hq' ?_
      cases hp : s'.pairs with
      | nil =>
        walk_at "go"
        have es : s' = run L st := by
          cases m with
          | zero => exact hit
          | succ m => rw [← hit]; unfold iter; rw [hp]; rfl
        rw [es] at rn'
        exact k pp' pq' rr ss H' sx' rn'
      | cons e0 er =>
        walk_at "go"
        have hne : s'.pairs ≠ [] := by rw [hp]; exact fun z => nomatch z
        have hm : ∃ m', m = m' + 1 := by
          cases m with
          | zero =>
            have h1 : s' = run L st := hit
            have h2 := run_done G
            rw [← h1] at h2
            exact absurd h2 hne
          | succ m' => exact ⟨m', rfl⟩
        obtain ⟨m', rfl⟩ := hm
        refine ⟨fun σ2 H2 => ∃ s pp pq, σ2 = [some (.ref R), some vb, some vst, u, v] ∧ RnAt cB cR H2 R dx pp pq rr ss vb L s ∧ Ok L s ∧ iter L m' s = run L st ∧ SX [R] H H2, fun σ2 H2 h => ⟨m', Nat.lt_succ_self _, h⟩, ?_⟩
        walk_at "go"
        refine ⟨R, dx, pp', pq', rr, ss, vb, L, s', rfl, rn', hL, G.l40, ok', hne, fun pp2 pq2 H2 sx2 _ _ rn2 => ?_⟩
        walk_at "go"
        refine ⟨_, pp2, pq2, rfl, rn2, (fallS_ok ok' hne).1, ?_, fun a o hn ho => sx2 _ _ (fun hm => ?_) (sx' _ _ hn ho)⟩
        · rw [← hit]
          rw [show iter L (m' + 1) s' = if s'.pairs.isEmpty then s' else iter L m' (fallS L s') from rfl, hp]
          rfl
        · simp at hm
          rcases hm with m | m | m
          · exact hn (by rw [m]; simp)
          · rw [m, nr2] at ho; cases ho
          · rw [m, ns2] at ho; cases ho
end
end Sl

set_option Elab.async false
set_option linter.all false
set_option maxRecDepth 100000
set_option maxHeartbeats 4000000
/-! The walks: what a Run tells. -/
namespace Sl
open PySem L2
local macro_rules | `(tactic| walk_at "go1") => `(tactic| first
  | with_reducible refine x_seq ?_
  | with_reducible refine x_asg ?_
  | with_reducible refine x_name ?_
  | with_reducible refine x_ret ?_
  | with_reducible refine x_if ?_
  | ((with_reducible refine' x_var ?hv ?_); (case hv => rfl))
  | with_reducible refine x_c ?_
  | with_reducible refine' x_non ?_
  | with_reducible refine x_yes ?_
  | with_reducible refine' iteT ?_
  | with_reducible refine' iteF ?_
  | with_reducible refine x_op ?_
  | with_reducible refine x_I0 ?_
  | with_reducible refine x_test ?_
  | with_reducible refine' x_bl ?_
  | with_reducible refine x_eqI ?_
  | with_reducible refine x_neI ?_
  | with_reducible refine x_cons ?_
  | with_reducible refine x_nil ?_
  | with_reducible refine x_call ?_
  | with_reducible refine x_cb ?_
  | with_reducible refine x_par ?_
  | with_reducible refine x_par2 ?_
  | with_reducible refine x_gcons ?_
  | with_reducible refine x_gnil ?_
  | with_reducible refine x_next ?_
  | with_reducible refine x_drop ?_
  | with_reducible refine x_bm ?_
  | with_reducible refine x_fld ?_
  | with_reducible refine x_dget ?_
  | with_reducible refine x_lc ?_
  | with_reducible refine x_sfld ?_
  | with_reducible refine x_meth ?_
  | with_reducible refine x_augS ?_
  | with_reducible refine x_gsub ?_
  | with_reducible refine x_ipI ?_
  | ((with_reducible refine' x_ixLc ?ha ?hk ?_); (case ha => assumption); (case hk => rfl))
  | with_reducible refine x_lc2 ?_
  | with_reducible refine x_rng1 ?_
  | with_reducible refine x_rng2 ?_
  | with_reducible refine x_un ?_
  | with_reducible refine x_unI ?_
  | with_reducible refine x_zip ?_
  | with_reducible refine x_sl ?_
  | with_reducible refine x_nopart ?_
  | with_reducible refine x_part ?_
  | with_reducible refine' x_partI ?_
  | ((with_reducible refine' x_slL ?ha ?_); (case ha => assumption))
  | with_reducible refine' x_min2 ?_
  | with_reducible refine' x_max2 ?_
  | with_reducible refine x_lv ?_
  | with_reducible refine x_dc ?_
  | with_reducible refine x_dcT ?_
  | with_reducible refine x_iKeys ?_
  | with_reducible refine x_itemsT ?_
  | ((with_reducible refine' x_itemsTI ?ha ?_); (case ha => assumption))
  | ((with_reducible refine' x_keysK ?ha ?_); (case ha => assumption))
  | ((with_reducible refine' x_keysT ?ha ?_); (case ha => assumption))
  | with_reducible refine x_dput ?_
  | with_reducible refine x_faug ?_
  | with_reducible refine x_add ?_
  | with_reducible refine x_items ?_
  | ((with_reducible refine' x_itemsI ?ha ?_); (case ha => assumption))
  | ((with_reducible refine' x_faugI ?ha ?hc ?hn ?hl ?_); (case ha => assumption); (case hc => assumption); (case hn => assumption); (case hl => rfl))
  | with_reducible refine x_make ?_
  | with_reducible refine x_andV ?_
  | with_reducible refine x_orV ?_
  | with_reducible refine x_notV ?_
  | with_reducible refine x_chain ?_
  | with_reducible refine x_notT ?_
  | with_reducible refine x_andT ?_
  | with_reducible refine x_orT ?_
  | with_reducible refine x_tB ?_
  | with_reducible refine' iteNT ?_
  | with_reducible refine' iteNF ?_
  | with_reducible refine x_isiI ?_
  | with_reducible refine x_isiB ?_
  | ((with_reducible refine' x_isiL ?ha ?_); (case ha => assumption))
  | ((with_reducible refine' x_len ?ha ?_); (case ha => assumption))
  | ((with_reducible refine' x_lenT ?ha ?_); (case ha => assumption))
  | ((with_reducible refine' x_fldI ?ha ?hc ?hn ?hl ?_); (case ha => assumption); (case hc => assumption); (case hn => assumption); (case hl => rfl))
  | ((with_reducible refine' x_sfldI ?ha ?hc ?hn ?hl ?_); (case ha => assumption); (case hc => assumption); (case hn => assumption); (case hl => first | (with_unfolding_all decide) | (simp only [List.length_cons, List.length_nil]; omega)))
  | ((with_reducible refine' x_methI ?ha ?hl ?_); (case ha => assumption); (case hl => rfl))
  | with_reducible refine x_for ?_
  | with_reducible refine x_dset ?_
  | ((with_reducible refine' x_isD ?ha ?_); (case ha => assumption))
  | with_reducible refine x_iL ?_
  | with_reducible refine x_iT ?_
  | with_reducible refine x_dK ?_
  | with_reducible refine x_dT ?_
  | ((with_reducible refine' x_tyl ?ha ?_); (case ha => assumption))
  | ((with_reducible refine' x_lct ?ha ?_); (case ha => assumption))
  | ((with_reducible refine' x_tct ?ha ?_); (case ha => assumption))
  | ((with_reducible refine' x_gtup ?ha ?hn ?_); (case ha => assumption); (case hn => rfl))
  | ((with_reducible refine' x_ixT ?ha ?hk ?_); (case ha => assumption); (case hk => rfl))
  | (with_reducible refine x_tup ?_)
  | (with_reducible refine x_lst ?_))
local macro_rules | `(tactic| walk_at "go") => `(tactic| (repeat walk_at "go1"))
section
variable {P : Program} {w : World} {K : PySem.W.Frag} {mg : Str → Option Value} {base : Heap} {t1 t2 : Tok}
def RunO (cB cR : Addr) (H : Hp) (v : V) (L : List Int) (s : RunS) : Prop := ∃ R dx pp pq rr ss vb, v = .ref R ∧ RnAt cB cR H R dx pp pq rr ss vb L s
theorem rn_same {cB cR : Addr} {H H' : Hp} {R dx pp pq rr ss : Addr} {vb : V} {L : List Int} {s : RunS} (h : Same H H') (r : RnAt cB cR H R dx pp pq rr ss vb L s) : RnAt cB cR H' R dx pp pq rr ss vb L s := by
  obtain ⟨kvs, h1, h2⟩ := r.parts
  obtain ⟨xs, h3, h4⟩ := r.rows
  obtain ⟨ys, h5, h6⟩ := r.sps
  exact ⟨h _ _ r.ins, bk_same h r.bk, ⟨kvs, h _ _ h1, pts_keep (kp_same h) h2⟩, h _ _ r.pairs, ⟨xs, h _ _ h3, tpa_keep (kp_same h) h4⟩, ⟨ys, h _ _ h5, st_keep (kl_same h) h6⟩, r.ne⟩
theorem ro_same {cB cR : Addr} {H H' : Hp} {v : V} {L : List Int} {s : RunS} (h : Same H H') (r : RunO cB cR H v L s) : RunO cB cR H' v L s := by
  obtain ⟨R, dx, pp, pq, rr, ss, vb, rfl, r⟩ := r
  exact ⟨R, dx, pp, pq, rr, ss, vb, rfl, rn_same h r⟩
/-- Run(book, standing) -/
theorem mk_run {cB cR : Addr} {H : Hp} {vb vst : V} {L : List Int} {st : List (Str × Int)} {N : Addr → Hp → Prop} {E : XK} (bk : Bk cB H vb L) (tst : Tp H vst (stD st)) (G : Good L st) (k : ∀ R H', Same H H' → RunO cB cR H' (.ref R) L (run L st) → N R H') :
    ∀ x dx, H x = none → H dx = none → dx ≠ x → sp_Run_init cB cR (.ref x :: ([vb, vst] ++ [])) (upd (upd H dx (.own x)) x (.ins cR dx [])) (fun v H2 => v = .non ∧ N x H2) E := by
  intro x dx hx hdx hne
  have s0 : Same H (upd (upd H dx (.own x)) x (.ins cR dx [])) := same_mut (same_new hdx) hx
  refine ⟨x, dx, vb, vst, L, st, rfl, upd_same, bk_same s0 bk, tp_keep (kp_same s0) tst, G, fun pp pq rr ss H' s r => ⟨rfl, k x H' (fun a u ha => ?_) ⟨x, dx, pp, pq, rr, ss, vb, rfl, r⟩⟩⟩
  exact s a u (by simp; exact ne_of_none ha hx) (s0 _ _ ha)
theorem st_drop {H : Hp} {A : List Addr} : ∀ {ys : List V} {es : List (Int × List Part)}, StAll H A ys es → StAll H A (ys.drop 1) (es.drop 1)
  | _, _, .nil => .nil
  | _, _, .cons _ t => t
theorem st_zip {H : Hp} {A : List Addr} : ∀ {ys : List V} {es : List (Int × List Part)}, StAll H A ys es → ∀ x ∈ ys.zip es, StAt H A x.1 x.2
  | _, _, .nil, x, h => by simp at h
  | _, _, .cons a t, x, h => by
    rw [List.zip_cons_cons] at h
    rcases List.mem_cons.mp h with h | h
    · rw [h]; exact a
    · exact st_zip t x h
def sp_parts_at (cB cR : Addr) : Sp := fun vs H Q _ => ∃ (v : V) (b : Int) (L : List Int) (s : RunS) (n : Nat), vs = [v, .int b] ∧ RunO cB cR H v L s ∧ Ok L s ∧ Ok2 n s ∧ 0 ≤ b ∧
  ∀ l zs H', Same H H' → H' l = some (.lst zs) → TpAll H' zs ((partsAt s.sps b).map ptD) → Q (.ref l) H'
/-- slots of Run.parts_at: 0 self 1 beat 2 stretch -/
abbrev s_Run_parts_at : Stmt := inClass (top 28) 3
theorem sc_Run_parts_at : FnScope ["self", "beat", "stretch"] ["self", "beat"] (defScope s_Run_parts_at) := ⟨rfl, rfl, rfl, by decide +kernel, rfl, by decide +kernel, by decide +kernel⟩
theorem ok_parts_at {cB cR f : Addr} {fd : FuncData} (T : BtT mg t1 t2) (C : RunC K cR) (F : Fun K "parts_at" "Run.parts_at" s_Run_parts_at f fd) : FnOk P w K mg base CX0 1 f fd ["self", "beat"] (sp_parts_at cB cR) := by
  refine F.ok sc_Run_parts_at (fun vs H Q E h => ?_) (fun cdv A outer s H vs Q E hr h => ?_)
  · obtain ⟨_, _, _, _, _, rfl, _⟩ := h
    rfl
  · have c_Run := C.cls
    have n6 := C.stretches
    refine ⟨_, (pss_one (ps_ret (pe_ix (kIxT (K := K) rfl) (pe_ix (kIxL (K := K) rfl) (pe_lc (own := [("stretch", 2)]) (g := (gName 2)) rfl sc_Run_parts_at.nd (pi_list (kFld (K := K) rfl (pv 0) rfl)) (blkOk_by (N := ["self", "beat", "stretch"]) (sc := defScope s_Run_parts_at) (by decide +kernel)) (fun _ _ _ _ _ => (pg_name (i := 2) sc_Run_parts_at.nd rfl (Or.inl rfl))) (fun _ _ _ _ _ => (pts_one (pt_cmpR op_le (pe_ix (kIxT (K := K) rfl) (pv 2) pe_int (fun _ _ => rfl)) (pv 1) (nomark _)))) (fun _ _ _ _ _ => (pv 2))) (pe_un un_neg pe_int) (fun _ _ => rfl)) pe_int (fun _ _ => rfl)))), ?_⟩
    obtain ⟨v, b, L, rs, n, rfl, ⟨R, dx, pp, pq, rr, ss, vb, rfl, rn⟩, ok, ok2, hb, k⟩ := h
    have hR := rn.ins
    unfold fl at hR
    obtain ⟨ys, hss, tss⟩ := rn.sps
    have hls := st_len tss
    have b1 := ok.ssz
    have b2 := ok.big
    walk_at "go"
    intro D hD
    refine lc_it walk_list (fun i H' => Same H H' ∧ H' D = some (.lst ((((ys.zip rs.sps).take i).filter fun x => decide (x.2.1 ≤ b)).map (·.1)))) ⟨same_new hD, upd_same⟩ (fun i H' _ p => sql (p.1 _ _ hss)) (fun i x H1 H2 hi ⟨s1, hD1⟩ y => ?_) (fun H1 ⟨s1, hD1⟩ => ?_)
    · obtain ⟨rfl, hx⟩ := y
      obtain ⟨e, he, ta⟩ := st_get tss hx
      obtain ⟨t, l, zs, rfl, ht, hl, _, tz⟩ := stAt_keep (kl_same s1) ta
      have hz : (ys.zip rs.sps)[i]? = some (.ref t, e) := by
        rw [List.getElem?_zip_eq_some]
        exact ⟨hx, he⟩
      walk_at "go"
      refine ⟨rfl, ?_⟩
      walk_at "go"
      refine x_dec (fun c => ?_) (fun c => ?_)
      · walk_at "go"
        refine ⟨_, hD1, ?_, same_mut s1 hD, ?_⟩
        · rw [List.length_map]
          have := List.length_filter_le (fun x : V × Int × List Part => decide (x.2.1 ≤ b)) ((ys.zip rs.sps).take i)
          rw [List.length_take, List.length_zip] at this
          exact sz100' (by have := ok.pos; omega)
        · rw [upd_same, flt_snoc hz, if_pos (decide_eq_true c), List.map_append]
          rfl
      · refine ⟨s1, ?_⟩
        rw [flt_snoc hz, if_neg (by simpa using c)]
        exact hD1
    · have hlz : ys.length = (ys.zip rs.sps).length := by rw [List.length_zip]; omega
      rw [hlz, List.take_length] at hD1
      obtain ⟨e, he, hlast, hpa⟩ := partsAt_mem ok2 hb
      have hf : rs.sps.filter (fun e => decide (e.1 ≤ b)) = ((ys.zip rs.sps).filter fun x => decide (x.2.1 ≤ b)).map (·.2) := by
        have e1 : rs.sps = (ys.zip rs.sps).map (·.2) := (List.map_snd_zip (by omega)).symm
        conv => lhs; rw [e1, List.filter_map]
        rfl
      rw [hf, List.getLast?_map] at hlast
      cases hg : ((ys.zip rs.sps).filter fun x => decide (x.2.1 ≤ b)).getLast? with
      | none => rw [hg] at hlast; cases hlast
      | some x =>
        rw [hg] at hlast
        have hlast : x.2 = e := Option.some.inj hlast
        have hmem := (List.mem_filter.mp (List.mem_of_getLast? hg)).1
        obtain ⟨t, l, zs, hxt, ht, hl, _, tz⟩ := stAt_keep (kl_same s1) (st_zip tss x hmem)
        obtain ⟨pre, hpre⟩ : ∃ pre, ((ys.zip rs.sps).filter fun x => decide (x.2.1 ≤ b)) = pre ++ [x] := by
          have := List.getLast?_eq_some_iff.mp hg
          exact this
        rw [hpre, List.map_append] at hD1
        replace hD1 : H1 D = some (.lst (pre.map (·.1) ++ [.ref t])) := by rw [hD1, ← hxt]; rfl
        walk_at "go"
        refine x_ixL hD1 (atI_last _ _) ?_
        walk_at "go"
        refine k l zs H1 s1 hl ?_
        rw [hpa, ← hlast]
        exact tz

def spnD (s : Spn) : PyData := .tuple [nmD s.1, .int s.2.1, .int s.2.2]
def spnOf (x : (Int × List Part) × Int) (b : Int) (p : Part) : Spn := (p.2, p.1.2, timesU p.1 (min x.2 b) - timesU p.1 x.1.1)
theorem piece_len {L : List Int} {s : RunS} (ok : Ok L s) (h40 : L.length ≤ 40) {e : Int × List Part} (he : e ∈ s.sps) : e.2.length ≤ 40 := by
  have h1 := ok.stot e he
  have h2 : ∀ l : List Part, (∀ p ∈ l, p.2 ≠ []) → l.length ≤ (l.map (·.2.length)).sum := by
    intro l
    induction l with
    | nil => intro _; exact Nat.le_refl _
    | cons a r ih =>
      intro h
      rw [List.length_cons, List.map_cons, List.sum_cons]
      have h3 := ih fun p hp => h p (List.mem_cons_of_mem _ hp)
      have h4 : a.2.length ≠ 0 := fun z => h a List.mem_cons_self (List.length_eq_zero_iff.mp z)
      omega
  have := h2 e.2 fun p hp => (ok.str e he p hp).2
  omega
theorem spans_len {L : List Int} {s : RunS} (ok : Ok L s) (h40 : L.length ≤ 40) (zs : List ((Int × List Part) × Int)) (b : Int) (h : ∀ z ∈ zs, z.1 ∈ s.sps) : (zs.flatMap (piece b)).length ≤ 40 * zs.length := by
  induction zs with
  | nil => exact Nat.zero_le _
  | cons z r ih =>
    rw [List.flatMap_cons, List.length_append, List.length_cons]
    have h1 := ih fun y hy => h y (List.mem_cons_of_mem _ hy)
    have h2 := piece_len ok h40 (h z List.mem_cons_self)
    have h3 : (piece b z).length ≤ 40 := by
      unfold piece
      split
      · rw [List.length_map]; exact h2
      · exact Nat.zero_le _
    omega
def sp_spans (cB cR : Addr) : Sp := fun vs H Q _ => ∃ (v : V) (b : Int) (L : List Int) (s : RunS), vs = [v, .int b] ∧ RunO cB cR H v L s ∧ Ok L s ∧ LG L ∧ L.length ≤ 40 ∧
  ∀ l zs H', Same H H' → H' l = some (.lst zs) → TpAll H' zs ((spansOf s.sps b).map spnD) → Q (.ref l) H'
/-- slots of Run.spans: 0 self 1 beats 2 found 3 ends 4 begin 5 parts 6 end 7 going 8 names 9 times 10 stretch -/
abbrev s_Run_spans : Stmt := inClass (top 28) 4
theorem sc_Run_spans : FnScope ["self", "beats", "found", "ends", "begin", "parts", "end", "going", "names", "times", "stretch"] ["self", "beats"] (defScope s_Run_spans) := ⟨rfl, rfl, rfl, by decide +kernel, rfl, by decide +kernel, by decide +kernel⟩
theorem ok_spans {cB cR f ft : Addr} {fd fdt : FuncData} (T : BtT mg t1 t2) (C : RunC K cR) (F : Fun K "spans" "Run.spans" s_Run_spans f fd) (D_times_up : FC P w K mg base 1 "times_up" ["going", "beats"] sp_times_up ft fdt) : FnOk P w K mg base CX0 2 f fd ["self", "beats"] (sp_spans cB cR) := by
  refine F.ok sc_Run_spans (fun vs H Q E h => ?_) (fun cdv A outer s H vs Q E hr h => ?_)
  · obtain ⟨_, _, _, _, rfl, _⟩ := h
    rfl
  · have c_Run := C.cls
    have n6 := C.stretches
    refine ⟨_, (pss_cons (ps_set (i := 2) sc_Run_spans.nd rfl (Or.inl rfl) (pe_lst pa_nil))
      (pss_cons (ps_set (i := 3) sc_Run_spans.nd rfl (Or.inl rfl) (pe_op op_cat (pe_lc (own := [("stretch", 10)]) (g := (gName 10)) rfl sc_Run_spans.nd (pi_list (pe_slice (slistK (K := K) rfl) (kFld (K := K) rfl (pv 0) rfl) (po_some pe_int) po_none)) (blkOk_by (N := ["self", "beats", "found", "ends", "begin", "parts", "end", "going", "names", "times", "stretch"]) (sc := defScope s_Run_spans) (by decide +kernel)) (fun _ _ _ _ _ => (pg_name (i := 10) sc_Run_spans.nd rfl (Or.inl rfl))) (fun _ _ _ _ _ => pts_nil) (fun _ _ _ _ _ => (pe_ix (kIxT (K := K) rfl) (pv 10) pe_int (fun _ _ => rfl)))) (pe_lst (pa_cons (pv 1) pa_nil))))
      (pss_cons (ps_for PassesOwn.never rfl (pi_zip (by rfl) T.zip (pa_cons (kFld (K := K) rfl (pv 0) rfl) (pa_cons (pv 3) pa_nil))) (pg_tup (n := 2) rfl (pgs_cons (pg_tup (n := 2) rfl (pgs_cons (pg_name (i := 4) sc_Run_spans.nd rfl (Or.inl rfl)) (pgs_cons (pg_name (i := 5) sc_Run_spans.nd rfl (Or.inl rfl)) pgs_nil))) (pgs_cons (pg_name (i := 6) sc_Run_spans.nd rfl (Or.inl rfl)) pgs_nil))) (pss_one (ps_if (pt_cmpR op_lt (pv 4) (pe_callB (kMin2 rfl) (by rfl) T.min (by decide +kernel) (pa_cons (pv 6) (pa_cons (pv 1) pa_nil))) (nomark _)) (pss_one (ps_for PassesOwn.never rfl (pi_list (pv 5)) (pg_tup (n := 2) rfl (pgs_cons (pg_name (i := 7) sc_Run_spans.nd rfl (Or.inl rfl)) (pgs_cons (pg_name (i := 8) sc_Run_spans.nd rfl (Or.inl rfl)) pgs_nil))) (pss_cons (ps_set (i := 9) sc_Run_spans.nd rfl (Or.inl rfl) (pe_op op_sub (pe_f D_times_up hr (by decide) (pa_cons (pv 7) (pa_cons (pe_callB (kMin2 rfl) (by rfl) T.min (by decide +kernel) (pa_cons (pv 6) (pa_cons (pv 1) pa_nil))) pa_nil))) (pe_f D_times_up hr (by decide) (pa_cons (pv 7) (pa_cons (pv 4) pa_nil)))))
      (pss_one (ps_expr (pe_bm PySem.F.plainAttrs_list PySem.F.slot_list_append PySem.F.type_list_append mt_append (pv 2) (pa_cons (pe_tup (pa_cons (pv 8) (pa_cons (pe_ix (kIxT (K := K) rfl) (pv 7) pe_int (fun _ _ => rfl)) (pa_cons (pv 9) pa_nil)))) pa_nil))))))) pss_nil)))
      (pss_one (ps_ret (pv 2)))))), ?_⟩
    obtain ⟨v, b, L, rs, rfl, ⟨R, dx, pp, pq, rr, ss, vb, rfl, rn⟩, ok, hL, h40, k⟩ := h
    have hR := rn.ins
    unfold fl at hR
    obtain ⟨ys, hss, tss⟩ := rn.sps
    have hls := st_len tss
    have b1 := ok.ssz
    have b2 := ok.big
    have b3 := ok.pos
    walk_at "go"
    refine ⟨len0, fun fp hfp => ?_⟩
    have s1 : Same H (upd H fp (.lst [])) := same_new hfp
    have hfp1 : (upd H fp (.lst [])) fp = some (.lst []) := upd_same
    generalize upd H fp (.lst []) = H1 at *
    have hR1 := s1 _ _ hR
    have hss1 := s1 _ _ hss
    walk_at "go"
    intro sp1 hsp1
    have ecut : cutV ys (some 1) none = ys.drop 1 := cut_from (k := 1)
    rw [ecut]
    have s2 : Same H1 (upd H1 sp1 (.lst (ys.drop 1))) := same_new hsp1
    have hsp2 : (upd H1 sp1 (.lst (ys.drop 1))) sp1 = some (.lst (ys.drop 1)) := upd_same
    generalize upd H1 sp1 (.lst (ys.drop 1)) = H2 at *
    walk_at "go"
    intro D hD
    have td : StAll H2 [rr, ss] (ys.drop 1) (rs.sps.drop 1) := st_drop (st_keep (kl_same (s1.trans s2)) tss)
    have hld := st_len td
    refine lc_tp walk_list (fun i => (rs.sps.drop 1)[i]?.bind fun e => some (.int e.1)) hD (by rw [hld, List.length_drop]; omega) (fun H' s' => sql (s' _ _ hsp2)) (fun i x H3 H4 Kb Kf hi s3 y kb kf => ?_) (fun H3 acc s3 hacc tacc => ?_)
    · obtain ⟨rfl, hx⟩ := y
      obtain ⟨e, he, ta⟩ := st_get td hx
      obtain ⟨t, l, zs, rfl, ht, hl, _, tz⟩ := stAt_keep (kl_same s3) ta
      walk_at "go"
      refine ⟨rfl, ?_⟩
      walk_at "go"
      exact kb _ _ _ (by rw [he]; rfl) (Same.refl _) (.int _)
    · rw [hld, fm_bind, fm_some] at tacc
      have e1 : (rs.sps.drop 1).map (fun e => PyData.int e.1) = ((rs.sps.drop 1).map (·.1)).map PyData.int := by rw [List.map_map]; rfl
      rw [e1] at tacc
      have e2 := tpa_ints tacc
      subst e2
      walk_at "go"
      refine ⟨len1, fun bp hbp => ?_⟩
      have s4 : Same H3 (upd H3 bp (.lst [.int b])) := same_new hbp
      refine x_cat (s4 _ _ hacc) upd_same (by rw [List.length_map, List.length_map, List.length_drop]; exact sz100 (by simp; omega)) fun en hen => ?_
      generalize hH4 : upd H3 bp (.lst [.int b]) = H4 at *
      have hen5 : (upd H4 en (.lst (((rs.sps.drop 1).map (·.1)).map V.int ++ [.int b]))) en = some (.lst (((rs.sps.drop 1).map (·.1) ++ [b]).map V.int)) := by rw [upd_same, List.map_append]; rfl
      have s5 : Same H4 (upd H4 en (.lst (((rs.sps.drop 1).map (·.1)).map V.int ++ [.int b]))) := same_new hen
      generalize upd H4 en (.lst (((rs.sps.drop 1).map (·.1)).map V.int ++ [.int b])) = H5 at *
      have sA : Same H1 H5 := ((s2.trans s3).trans s4).trans s5
      have hR5 := sA _ _ hR1
      have hss5 := sA _ _ hss1
      have hfp5 := sA _ _ hfp1
      have fne : fp ≠ en := fun z => by
        have h4 := s4 _ _ (s3 _ _ (s2 _ _ hfp1))
        rw [z] at h4
        rw [h4] at hen
        cases hen
      have hends : ((rs.sps.drop 1).map (·.1) ++ [b]).length = (rs.sps.drop 1).length + 1 := by rw [List.length_append, List.length_map]; rfl
      generalize hEn : (rs.sps.drop 1).map (·.1) ++ [b] = En at *
      walk_at "go"
      refine ⟨ss, en, ys, En.map V.int, rfl, sql hss5, sql hen5, ?_⟩
      have hmin : (rs.sps.zip En).length = min ys.length (En.map V.int).length := by rw [List.length_zip, List.length_map, hls]
      have hspE : spansOf rs.sps b = (rs.sps.zip En).flatMap (piece b) := by unfold spansOf; rw [hEn]
      refine for_it (walk_zip hmin) (fun i σ H' => (∃ u4 u5 u6 u7 u8 u9, σ = [some (.ref R), some (.int b), some (.ref fp), some (.ref en), u4, u5, u6, u7, u8, u9, none]) ∧ Same H H' ∧ H' en = some (.lst (En.map V.int)) ∧ ∃ acc, H' fp = some (.lst acc) ∧ TpAll H' acc ((((rs.sps.zip En).take i).flatMap (piece b)).map spnD))
        ⟨⟨none, none, none, none, none, none, rfl⟩, s1.trans sA, hen5, [], hfp5, .nil⟩ (fun i σ H' _ p => ⟨sql (p.2.1 _ _ hss), sql p.2.2.1⟩) (fun i x σ H6 H7 hi ⟨⟨u4, u5, u6, u7, u8, u9, es⟩, s6, hen6, acc, hfp6, tac⟩ y => ?_) (fun σ H6 ⟨⟨u4, u5, u6, u7, u8, u9, es⟩, s6, hen6, acc, hfp6, tac⟩ => ?_)
      · subst es
        obtain ⟨T', yv, xv, rfl, hT, rfl, hy1, hx1⟩ := y
        replace hy1 : ys[i]? = some yv := hy1
        replace hx1 : (En.map V.int)[i]? = some xv := hx1
        rw [List.getElem?_map] at hx1
        cases hEi : En[i]? with
        | none => rw [hEi] at hx1; cases hx1
        | some en1 =>
          rw [hEi] at hx1
          have hx1 : V.int en1 = xv := Option.some.inj hx1
          subst hx1
          have s7 : Same H6 (upd H6 T' (.tup [yv, .int en1])) := same_new hT
          have hT7 : (upd H6 T' (.tup [yv, .int en1])) T' = some (.tup [yv, .int en1]) := upd_same
          generalize upd H6 T' (.tup [yv, .int en1]) = H7 at *
          obtain ⟨e, he, ta0⟩ := st_get tss hy1
          have hem := List.mem_of_getElem? he
          obtain ⟨t, l, zs, rfl, ht0, hl0, _, tz0⟩ := ta0
          have sK := s6.trans s7
          have ht := sK _ _ ht0
          have hl := sK _ _ hl0
          have tz := tpa_keep (kp_same sK) tz0
          have lne : l ≠ fp := ne_of_none hl0 hfp
          have hfp7 := s7 _ _ hfp6
          have hen7 := s7 _ _ hen6
          have tac7 := tpa_keep (kp_same s7) tac
          have hzi : (rs.sps.zip En)[i]? = some (e, en1) := by
            rw [List.getElem?_zip_eq_some]
            exact ⟨he, hEi⟩
          have hlen1 : (((rs.sps.zip En).take i).flatMap (piece b)).length ≤ 40 * i := by
            have h1 := spans_len ok h40 ((rs.sps.zip En).take i) b (fun z hz => by
              have := List.mem_of_mem_take hz
              obtain ⟨z1, z2⟩ := z
              exact (List.of_mem_zip this).1)
            have h2 : ((rs.sps.zip En).take i).length ≤ i := by rw [List.length_take]; omega
            omega
          have hil : i ≤ 81 := by
            have h1 := (List.getElem?_eq_some_iff.mp he).1
            omega
          have flat1 : ((rs.sps.zip En).take (i + 1)).flatMap (piece b) = ((rs.sps.zip En).take i).flatMap (piece b) ++ piece b (e, en1) := by
            rw [take_snoc hzi, List.flatMap_append]
            simp
          walk_at "go"
          refine x_dec (fun c => ?_) (fun c => ?_)
          · have epc : piece b (e, en1) = e.2.map (spnOf (e, en1) b) := by
              unfold piece
              rw [if_pos c]
              rfl
            have hel := piece_len ok h40 hem
            walk_at "go"
            refine for_list tz (fun j σ H' => (∃ u7 u8 u9, σ = [some (.ref R), some (.int b), some (.ref fp), some (.ref en), some (.int e.1), some (.ref l), some (.int en1), u7, u8, u9, none]) ∧ Same H H' ∧ Kp H7 H' ∧ H' l = some (.lst zs) ∧ H' en = some (.lst (En.map V.int)) ∧ ∃ acc, H' fp = some (.lst acc) ∧ TpAll H' acc ((((rs.sps.zip En).take i).flatMap (piece b) ++ (e.2.take j).map (spnOf (e, en1) b)).map spnD))
              ⟨⟨_, _, _, rfl⟩, s6.trans s7, Kp.refl _, hl, hen7, acc, hfp7, by simpa using tac7⟩ (fun j p x σ H8 hp ⟨⟨u7, u8, u9, es⟩, s8, kp8, hl8, hen8, acc, hfp8, tac8⟩ tx => ?_) (fun σ H8 ⟨⟨u7, u8, u9, es⟩, s8, kp8, hl8, hen8, acc, hfp8, tac8⟩ => ?_) hl (fun j σ H8 ⟨_, _, kp8, hl8, _⟩ => ⟨hl8, kp8⟩)
            · subst es
              obtain ⟨pa, gx, nx', rfl, hpa, tgx, tnx⟩ := tp_pt tx
              obtain ⟨hpl, hpn⟩ := ok.str e hem p (List.mem_of_getElem? hp)
              have hgp : Gg p.1 := hL _ hpl
              walk_at "go"
              refine ⟨gx, p.1, min en1 b, rfl, tgx, hgp.1, hgp.2, ?_⟩
              walk_at "go"
              refine ⟨gx, p.1, e.1, rfl, tgx, hgp.1, hgp.2, ?_⟩
              obtain ⟨ga, rfl, hga⟩ := tp_go tgx
              walk_at "go"
              refine ⟨len3, fun z hz => ?_⟩
              have s9 : Same H8 (upd H8 z (.tup [nx', .int p.1.2, .int (timesU p.1 (min en1 b) - timesU p.1 e.1)])) := same_new hz
              have hz9 : (upd H8 z (.tup [nx', .int p.1.2, .int (timesU p.1 (min en1 b) - timesU p.1 e.1)])) z = some (.tup [nx', .int p.1.2, .int (timesU p.1 (min en1 b) - timesU p.1 e.1)]) := upd_same
              generalize upd H8 z (.tup [nx', .int p.1.2, .int (timesU p.1 (min en1 b) - timesU p.1 e.1)]) = H9 at *
              have hfp9 := s9 _ _ hfp8
              walk_at "go"
              have hal := data_len tac8
              refine x_app hfp9 ?_ ?_
              · rw [hal, List.length_append, List.length_map, List.length_take]
                exact sz100' (by omega)
              · have kp9 : Kp H9 (upd H9 fp (.lst (acc ++ [.ref z]))) := kp_mut hfp9 (fun _ z => nomatch z)
                refine ⟨⟨_, _, _, rfl⟩, same_mut (s8.trans s9) hfp, (Kp.trans kp8 (kp_same s9)).trans kp9, ?_, ?_, _, upd_same, ?_⟩
                · rw [upd_ne lne]
                  exact s9 _ _ hl8
                · rw [upd_ne (fun z => fne z.symm)]
                  exact s9 _ _ hen8
                · rw [take_snoc hp]
                  simp only [List.map_append] at tac8 ⊢
                  rw [← List.append_assoc]
                  exact tpa_app (tpa_keep (Kp.trans (kp_same s9) kp9) tac8) (tpa_one (tp_keep kp9 (mk_trip hz9 (tp_keep (kp_same s9) tnx) (.int _) (.int _))))
            · subst es
              refine ⟨⟨_, _, _, _, _, _, rfl⟩, s8, hen8, acc, hfp8, ?_⟩
              rw [flat1, epc]
              rw [List.take_length] at tac8
              exact tac8
          · have epc : piece b (e, en1) = [] := by
              unfold piece
              rw [if_neg c]
            walk_at "go"
            refine ⟨⟨_, _, _, _, _, _, rfl⟩, s6.trans s7, hen7, acc, hfp7, ?_⟩
            rw [flat1, epc, List.append_nil]
            exact tac7
      · subst es
        rw [List.take_length] at tac
        walk_at "go"
        refine k fp acc H6 s6 hfp6 ?_
        rw [hspE]
        exact tac
end
end Sl

set_option Elab.async false
set_option linter.all false
set_option maxRecDepth 100000
set_option maxHeartbeats 4000000
/-! sorted, == and != of data. -/
namespace Sl
open PySem L2
def Sh (n : Nat) (d : PyData) : Prop := d.plain = true ∧ d.depth ≤ n
theorem sh_int {n : Nat} (i : Int) : Sh n (.int i) := ⟨rfl, Nat.zero_le _⟩
theorem sh_str {n : Nat} (x : Str) : Sh n (.str x) := ⟨rfl, Nat.zero_le _⟩
theorem sh_bool {n : Nat} (x : Bool) : Sh n (.bool x) := ⟨rfl, Nat.zero_le _⟩
theorem shAll {n : Nat} : ∀ {ds : List PyData}, (∀ d ∈ ds, Sh n d) → PyData.plainAll ds = true ∧ PyData.depthAll ds ≤ n
  | [], _ => ⟨rfl, Nat.zero_le _⟩
  | d :: ds, h => by
    obtain ⟨h1, h2⟩ := h d List.mem_cons_self
    obtain ⟨h3, h4⟩ := shAll fun x hx => h x (List.mem_cons_of_mem _ hx)
    refine ⟨?_, ?_⟩
    · simp [PyData.plainAll, h1, h3]
    · rw [PyData.depthAll]
      omega
theorem sh_tup {n : Nat} {ds : List PyData} (h : ∀ d ∈ ds, Sh n d) : Sh (n + 1) (.tuple ds) := by
  obtain ⟨h1, h2⟩ := shAll h
  refine ⟨?_, ?_⟩
  · simp [PyData.plain, h1]
  · rw [PyData.depth]; omega
theorem sh_list {n : Nat} {ds : List PyData} (h : ∀ d ∈ ds, Sh n d) : Sh (n + 1) (.list ds) := by
  obtain ⟨h1, h2⟩ := shAll h
  refine ⟨?_, ?_⟩
  · simp [PyData.plain, h1]
  · rw [PyData.depth]; omega
theorem sh_map {α : Type} {n : Nat} {f : α → PyData} (h : ∀ a, Sh n (f a)) (l : List α) : ∀ d ∈ l.map f, Sh n d := fun d hd => by
  obtain ⟨a, _, rfl⟩ := List.mem_map.mp hd
  exact h a
theorem sh_two {n : Nat} {a b : PyData} (h1 : Sh n a) (h2 : Sh n b) : Sh (n + 1) (.tuple [a, b]) := sh_tup fun d hd => by
  simp at hd
  rcases hd with h | h <;> rw [h] <;> assumption
theorem sh_three {n : Nat} {a b c : PyData} (h1 : Sh n a) (h2 : Sh n b) (h3 : Sh n c) : Sh (n + 1) (.tuple [a, b, c]) := sh_tup fun d hd => by
  simp at hd
  rcases hd with h | h | h <;> rw [h] <;> assumption
def rEqP (K : PySem.W.Frag) : R2 := fun x y H Q => ∃ d e n, Dp K H x d ∧ Dp K H y e ∧ Sh n d ∧ e.plain = true ∧ n ≤ 60 ∧ Q (.bl (PyData.eqv d e)) H
def rNeP (K : PySem.W.Frag) : R2 := fun x y H Q => ∃ d e n, Dp K H x d ∧ Dp K H y e ∧ Sh n d ∧ e.plain = true ∧ n ≤ 60 ∧ Q (.bl (!PyData.eqv d e)) H
theorem op_eqP {X : Cx} (hu : X.A.units + 64 < cLine) : OpR X (compareOp .Eq) (rEqP X.K) := by
  intro pins s σ H x y v u Q I rx ry h
  obtain ⟨d, e, n, hd, he, sd, se, hn, q⟩ := h
  obtain ⟨as, r1⟩ := Dp.reads I d x v hd rx
  obtain ⟨bs, r2⟩ := Dp.reads I e y u he ry
  have h1 := sd.2
  have h2 : min d.depth e.depth ≤ d.depth := Nat.min_le_left _ _
  exact SeqAt.eq_plain r1 r2 sd.1 se (by omega) ⟨.bl _, H, I, rfl, q⟩
theorem op_neP {X : Cx} (hu : X.A.units + 64 < cLine) : OpR X (compareOp .NotEq) (rNeP X.K) := by
  intro pins s σ H x y v u Q I rx ry h
  obtain ⟨d, e, n, hd, he, sd, se, hn, q⟩ := h
  obtain ⟨as, r1⟩ := Dp.reads I d x v hd rx
  obtain ⟨bs, r2⟩ := Dp.reads I e y u he ry
  have h1 := sd.2
  have h2 : min d.depth e.depth ≤ d.depth := Nat.min_le_left _ _
  exact SeqAt.ne_plain r1 r2 sd.1 se (by omega) ⟨.bl _, H, I, rfl, q⟩
theorem kEqD {X : Cx} {K : PySem.W.Frag} (h : X.K = K) (hu : X.A.units + 64 < cLine) : OpR X (compareOp .Eq) (rEqP K) := h ▸ op_eqP hu
theorem kNeD {X : Cx} {K : PySem.W.Frag} (h : X.K = K) (hu : X.A.units + 64 < cLine) : OpR X (compareOp .NotEq) (rNeP K) := h ▸ op_neP hu
section
variable {K : PySem.W.Frag} {H : Hp} {Q : VK} {x y : V} {d : PyData} {n : Nat}
theorem x_eqS (hx : Dp K H x d) (hy : Dp K H y d) (sh : Sh n d) (hn : n ≤ 60) (h : Q (.bl true) H) : rEqP K x y H Q := ⟨d, d, n, hx, hy, sh, sh.1, hn, by rw [SeqAt.eqv_refl_plain d sh.1]; exact h⟩
theorem x_neS (hx : Dp K H x d) (hy : Dp K H y d) (sh : Sh n d) (hn : n ≤ 60) (h : Q (.bl false) H) : rNeP K x y H Q := ⟨d, d, n, hx, hy, sh, sh.1, hn, by rw [SeqAt.eqv_refl_plain d sh.1]; exact h⟩
theorem eqvAll_nil (ds : List PyData) : PyData.eqvAll ds [] = ds.isEmpty := by cases ds <;> simp [PyData.eqvAll]
theorem x_eqT0 {ds : List PyData} (hx : Dp K H x (.tuple ds)) (hy : Dp K H y (.tuple [])) (sh : Sh n (.tuple ds)) (hn : n ≤ 60) (h : Q (.bl ds.isEmpty) H) : rEqP K x y H Q := ⟨_, _, n, hx, hy, sh, rfl, hn, by rw [show PyData.eqv (.tuple ds) (.tuple []) = PyData.eqvAll ds [] by rw [PyData.eqv], eqvAll_nil]; exact h⟩
theorem x_neT0 {ds : List PyData} (hx : Dp K H x (.tuple ds)) (hy : Dp K H y (.tuple [])) (sh : Sh n (.tuple ds)) (hn : n ≤ 60) (h : Q (.bl (!ds.isEmpty)) H) : rNeP K x y H Q := ⟨_, _, n, hx, hy, sh, rfl, hn, by rw [show PyData.eqv (.tuple ds) (.tuple []) = PyData.eqvAll ds [] by rw [PyData.eqv], eqvAll_nil]; exact h⟩
theorem x_eqL0 {ds : List PyData} (hx : Dp K H x (.list ds)) (hy : Dp K H y (.list [])) (sh : Sh n (.list ds)) (hn : n ≤ 60) (h : Q (.bl ds.isEmpty) H) : rEqP K x y H Q := ⟨_, _, n, hx, hy, sh, rfl, hn, by rw [show PyData.eqv (.list ds) (.list []) = PyData.eqvAll ds [] by rw [PyData.eqv], eqvAll_nil]; exact h⟩
theorem x_neL0 {ds : List PyData} (hx : Dp K H x (.list ds)) (hy : Dp K H y (.list [])) (sh : Sh n (.list ds)) (hn : n ≤ 60) (h : Q (.bl (!ds.isEmpty)) H) : rNeP K x y H Q := ⟨_, _, n, hx, hy, sh, rfl, hn, by rw [show PyData.eqv (.list ds) (.list []) = PyData.eqvAll ds [] by rw [PyData.eqv], eqvAll_nil]; exact h⟩
theorem dp_list {a : Addr} {xs : List V} {ds : List PyData} (h : H a = some (.lst xs)) (t : TpAll H xs ds) : Dp K H (.ref a) (.list ds) := .lst (sql h) (tpa_dp t)
end
/-- sorted(xs), xs data of tuples -/
def rSortedTp (K : PySem.W.Frag) : List V → Hp → VK → Prop := fun vs H Q => ∃ (a : Addr) (xs : List V) (ds : List PyData), vs = [V.ref a] ∧ SqL K H a xs ∧ TpAll H xs ds ∧ PySem.W.AllAlike ds ∧ PySem.W.Sortable ds ∧ (∀ d ∈ ds, d.depth ≤ 8) ∧
  ∀ (p : Addr) (ys : List V), H p = none → TpAll H ys (ds.mergeSort (PySem.W.dataLe false id)) → Q (.ref p) (upd H p (.lst ys))
theorem tpa_zip {H : Hp} : ∀ {xs : List V} {ds : List PyData}, TpAll H xs ds → ∀ b ∈ xs.zip ds, Tp H b.1 b.2
  | _, _, .nil, b, h => by simp at h
  | _, _, .cons r t, b, h => by
    rw [List.zip_cons_cons] at h
    rcases List.mem_cons.mp h with e | hb
    · subst e; exact r
    · exact tpa_zip t b hb
theorem tpAll_of {H : Hp} : ∀ {bs : List (V × PyData)}, (∀ b ∈ bs, Tp H b.1 b.2) → TpAll H (bs.map (·.1)) (bs.map (·.2))
  | [], _ => .nil
  | b :: bs, h => .cons (h b List.mem_cons_self) (tpAll_of fun c hc => h c (List.mem_cons_of_mem _ hc))
theorem cr_sortedTp {X : Cx} (hu : X.A.units + 64 < cLine) : CallR X (.builtin "sorted") (rSortedTp X.K) := by
  intro pins s σ H xs us Q I r h
  obtain ⟨a, xs, ds, rfl, hs, hd0, hal, hk, hdep, q⟩ := h
  have hd : DpAll X.K H xs ds := tpa_dp hd0
  obtain ⟨its, rv, hl, hz⟩ := I.list hs
  rw [Vals.ref1 r]
  obtain ⟨as, hr⟩ := Dp.readsAll I ds xs its hd rv
  have hxd := dpa_len hd
  have hxi := rv.length
  have em : (xs.zip ds).map (·.2) = ds := List.map_snd_zip (by omega)
  refine PySem.W.sorted_data (bs := xs.zip ds) (enc := fun b => b.2) (R := fun u b => RelV b.1 u) hl.isList (each_pairs rv hxd fun _ _ e => e) (each_reads hxd hr) (by rw [em]; exact hal) (by rw [em]; exact hk) (by rw [List.length_zip]; omega)
    (fun b hb => ?_) fun out ho he => ?_
  · have hb2 : b.2 ∈ ds := by rw [← em]; exact List.mem_map.mpr ⟨b, hb, rfl⟩
    have := hdep _ hb2
    omega
  · obtain ⟨ep, he'⟩ := PyProof.Rows.sortedAll_at s.heap its (List.toArray out)
    have hv := each_vals he
    have e2 : ((xs.zip ds).mergeSort (PySem.W.dataLe false fun b => b.2)).map (·.2) = ds.mergeSort (PySem.W.dataLe false id) := by
      refine (List.map_mergeSort (r := PySem.W.dataLe false fun b : V × PyData => b.2) (s := PySem.W.dataLe false id) (f := fun x : V × PyData => x.2) (l := xs.zip ds) (fun _ _ _ _ => rfl)).trans ?_
      rw [em]
    have hmem : ∀ b ∈ (xs.zip ds).mergeSort (PySem.W.dataLe false fun b => b.2), Tp H b.1 b.2 := fun b hb => tpa_zip hd0 b ((List.mergeSort_perm _ _).mem_iff.mp hb)
    have hlen : (((xs.zip ds).mergeSort (PySem.W.dataLe false fun b => b.2)).map (·.1)).length ≤ sizeLine := by
      rw [hv.length, ho, List.length_zip]; omega
    refine ⟨.ref _, upd H (s.heap.objs.size + 1) (.lst (((xs.zip ds).mergeSort (PySem.W.dataLe false fun b => b.2)).map (·.1))), I.laid (t' := s.toks) (fun _ _ => PyProof.Rows.sortedAll_old) (Nat.le_succ _) ⟨hlen, out, ep, hv, by simpa using he'⟩, rfl, q _ _ (I.hok.fresh (Nat.le_succ _)) ?_⟩
    rw [← e2]
    exact tpAll_of hmem
theorem kSortedTp {X : Cx} {K : PySem.W.Frag} (h : X.K = K) (hu : X.A.units + 64 < cLine) : CallR X (.builtin "sorted") (rSortedTp K) := h ▸ cr_sortedTp hu
theorem pr_alike (l : List (Str × Int)) : PySem.W.AllAlike (l.map prD) := fun d hd d' hd' => by
  obtain ⟨a, _, rfl⟩ := List.mem_map.mp hd
  obtain ⟨b, _, rfl⟩ := List.mem_map.mp hd'
  simp [prD, PySem.W.alike, PySem.W.alikeAll]
theorem pr_sortable (l : List (Str × Int)) : PySem.W.Sortable (l.map prD) := .inl fun d hd => by
  obtain ⟨a, _, rfl⟩ := List.mem_map.mp hd
  exact ⟨_, _, rfl⟩
theorem pr_depth (l : List (Str × Int)) : ∀ d ∈ l.map prD, d.depth ≤ 8 := fun d hd => by
  obtain ⟨a, _, rfl⟩ := List.mem_map.mp hd
  simp [prD, PyData.depth, PyData.depthAll]
theorem pr_sort (l : List (Str × Int)) : (l.map prD).mergeSort (PySem.W.dataLe false id) = (l.mergeSort leP).map prD :=
  (List.map_mergeSort (r := leP) (s := PySem.W.dataLe false id) (f := prD) (l := l) (fun _ _ _ _ => rfl)).symm
theorem sh_pr (p : Str × Int) : Sh 1 (prD p) := sh_two (sh_str _) (sh_int _)
theorem sh_st (st : List (Str × Int)) : Sh 2 (stD st) := sh_tup (sh_map sh_pr st)
theorem sh_nm (ns : Nm) : Sh 1 (nmD ns) := sh_tup (sh_map (fun x => sh_str x) ns)
theorem sh_row (r : Int × Nm × Nm) : Sh 2 (rowD r) := sh_three (sh_int _) (sh_nm _) (sh_nm _)
end Sl

set_option Elab.async false
set_option linter.all false
set_option maxRecDepth 100000
set_option maxHeartbeats 4000000
/-! The walks: leaps. -/
namespace Sl
open PySem L2
local macro_rules | `(tactic| walk_at "go1") => `(tactic| first
  | with_reducible refine x_seq ?_
  | with_reducible refine x_asg ?_
  | with_reducible refine x_name ?_
  | with_reducible refine x_ret ?_
  | with_reducible refine x_if ?_
  | ((with_reducible refine' x_var ?hv ?_); (case hv => rfl))
  | with_reducible refine x_c ?_
  | with_reducible refine' x_non ?_
  | with_reducible refine x_yes ?_
  | with_reducible refine' iteT ?_
  | with_reducible refine' iteF ?_
  | with_reducible refine x_op ?_
  | with_reducible refine x_I0 ?_
  | with_reducible refine x_test ?_
  | with_reducible refine' x_bl ?_
  | with_reducible refine x_eqI ?_
  | with_reducible refine x_neI ?_
  | with_reducible refine x_cons ?_
  | with_reducible refine x_nil ?_
  | with_reducible refine x_call ?_
  | with_reducible refine x_cb ?_
  | with_reducible refine x_par ?_
  | with_reducible refine x_par2 ?_
  | with_reducible refine x_gcons ?_
  | with_reducible refine x_gnil ?_
  | with_reducible refine x_next ?_
  | with_reducible refine x_drop ?_
  | with_reducible refine x_bm ?_
  | with_reducible refine x_fld ?_
  | with_reducible refine x_dget ?_
  | with_reducible refine x_lc ?_
  | with_reducible refine x_sfld ?_
  | with_reducible refine x_meth ?_
  | with_reducible refine x_augS ?_
  | with_reducible refine x_gsub ?_
  | with_reducible refine x_ipI ?_
  | ((with_reducible refine' x_ixLc ?ha ?hk ?_); (case ha => assumption); (case hk => rfl))
  | with_reducible refine x_lc2 ?_
  | with_reducible refine x_rng1 ?_
  | with_reducible refine x_rng2 ?_
  | with_reducible refine x_un ?_
  | with_reducible refine x_unI ?_
  | with_reducible refine x_zip ?_
  | with_reducible refine x_sl ?_
  | with_reducible refine x_nopart ?_
  | with_reducible refine x_part ?_
  | with_reducible refine' x_partI ?_
  | ((with_reducible refine' x_slL ?ha ?_); (case ha => assumption))
  | with_reducible refine' x_min2 ?_
  | with_reducible refine' x_max2 ?_
  | with_reducible refine x_lv ?_
  | with_reducible refine x_dc ?_
  | with_reducible refine x_dcT ?_
  | with_reducible refine x_iKeys ?_
  | with_reducible refine x_itemsT ?_
  | ((with_reducible refine' x_itemsTI ?ha ?_); (case ha => assumption))
  | ((with_reducible refine' x_keysK ?ha ?_); (case ha => assumption))
  | ((with_reducible refine' x_keysT ?ha ?_); (case ha => assumption))
  | with_reducible refine x_dput ?_
  | with_reducible refine x_faug ?_
  | with_reducible refine x_add ?_
  | with_reducible refine x_items ?_
  | ((with_reducible refine' x_itemsI ?ha ?_); (case ha => assumption))
  | ((with_reducible refine' x_faugI ?ha ?hc ?hn ?hl ?_); (case ha => assumption); (case hc => assumption); (case hn => assumption); (case hl => rfl))
  | with_reducible refine x_make ?_
  | with_reducible refine x_andV ?_
  | with_reducible refine x_orV ?_
  | with_reducible refine x_notV ?_
  | with_reducible refine x_chain ?_
  | with_reducible refine x_notT ?_
  | with_reducible refine x_andT ?_
  | with_reducible refine x_orT ?_
  | with_reducible refine x_tB ?_
  | with_reducible refine' iteNT ?_
  | with_reducible refine' iteNF ?_
  | with_reducible refine x_isiI ?_
  | with_reducible refine x_isiB ?_
  | ((with_reducible refine' x_isiL ?ha ?_); (case ha => assumption))
  | ((with_reducible refine' x_len ?ha ?_); (case ha => assumption))
  | ((with_reducible refine' x_lenT ?ha ?_); (case ha => assumption))
  | ((with_reducible refine' x_fldI ?ha ?hc ?hn ?hl ?_); (case ha => assumption); (case hc => assumption); (case hn => assumption); (case hl => rfl))
  | ((with_reducible refine' x_sfldI ?ha ?hc ?hn ?hl ?_); (case ha => assumption); (case hc => assumption); (case hn => assumption); (case hl => first | (with_unfolding_all decide) | (simp only [List.length_cons, List.length_nil]; omega)))
  | ((with_reducible refine' x_methI ?ha ?hl ?_); (case ha => assumption); (case hl => rfl))
  | with_reducible refine x_for ?_
  | with_reducible refine x_dset ?_
  | ((with_reducible refine' x_isD ?ha ?_); (case ha => assumption))
  | with_reducible refine x_iL ?_
  | with_reducible refine x_iT ?_
  | with_reducible refine x_dK ?_
  | with_reducible refine x_dT ?_
  | ((with_reducible refine' x_tyl ?ha ?_); (case ha => assumption))
  | ((with_reducible refine' x_lct ?ha ?_); (case ha => assumption))
  | ((with_reducible refine' x_tct ?ha ?_); (case ha => assumption))
  | ((with_reducible refine' x_gtup ?ha ?hn ?_); (case ha => assumption); (case hn => rfl))
  | ((with_reducible refine' x_ixT ?ha ?hk ?_); (case ha => assumption); (case hk => rfl))
  | (with_reducible refine x_tup ?_)
  | (with_reducible refine x_lst ?_))
local macro_rules | `(tactic| walk_at "go") => `(tactic| (repeat walk_at "go1"))
section
variable {P : Program} {w : World} {K : PySem.W.Frag} {mg : Str → Option Value} {base : Heap} {t1 t2 : Tok}
/-- a book, a standing -/
structure BS (cB : Addr) (H : Hp) (vb vst : V) (L : List Int) (st : List (Str × Int)) : Prop where
  bk : Bk cB H vb L
  tst : Tp H vst (stD st)
  good : Good L st
  nn : ∀ e ∈ st, 0 ≤ e.2
theorem bs_same {cB : Addr} {H H' : Hp} {vb vst : V} {L : List Int} {st : List (Str × Int)} (s : Same H H') (b : BS cB H vb vst L st) : BS cB H' vb vst L st := ⟨bk_same s b.bk, tp_keep (kp_same s) b.tst, b.good, b.nn⟩
theorem len40 {L : List Int} {st : List (Str × Int)} (G : Good L st) : st.length ≤ 40 := by have := G.sz; have := G.l40; omega
def sp_fallings (cB : Addr) : Sp := fun vs H Q _ => ∃ (vb vst : V) (L : List Int) (st : List (Str × Int)), vs = [vb, vst] ∧ BS cB H vb vst L st ∧ ∀ l zs H', Same H H' → H' l = some (.lst zs) → TpAll H' zs ((run L st).rows.map rowD) → Q (.ref l) H'
/-- slots of fallings: 0 book 1 standing -/
abbrev s_fallings : Stmt := top 29
theorem sc_fallings : FnScope ["book", "standing"] ["book", "standing"] (defScope s_fallings) := ⟨rfl, rfl, rfl, by decide +kernel, rfl, by decide +kernel, by decide +kernel⟩
theorem ok_fallings {cB cR f fi : Addr} {fd fdi : FuncData} (T : BtT mg t1 t2) (C : RunC K cR) (F : Fun K "fallings" "fallings" s_fallings f fd) (D_Run : MK P w K mg base cR 7 "Run" ["self", "book", "standing"] (sp_Run_init cB cR) fi fdi) : FnOk P w K mg base CX0 9 f fd ["book", "standing"] (sp_fallings cB) := by
  refine F.ok sc_fallings (fun vs H Q E h => ?_) (fun cdv A outer s H vs Q E hr h => ?_)
  · obtain ⟨_, _, _, _, rfl, _⟩ := h
    rfl
  · have c_Run := C.cls
    have n5 := C.rows
    refine ⟨_, (pss_one (ps_ret (kFld (K := K) rfl (pe_mk D_Run hr (by decide) (pa_cons (pv 0) (pa_cons (pv 1) pa_nil))) rfl))), ?_⟩
    obtain ⟨vb, vst, L, st, rfl, bs, k⟩ := h
    walk_at "go"
    refine mk_run bs.bk bs.tst bs.good fun R H1 s1 ro => ?_
    obtain ⟨_, dx, pp, pq, rr, ss, vb', e, rn⟩ := ro
    cases e
    have hR := rn.ins
    unfold fl at hR
    obtain ⟨xs, h1, h2⟩ := rn.rows
    walk_at "go"
    exact k rr xs H1 s1 h1 h2

def sp_far (cB : Addr) : Sp := fun vs H Q _ => ∃ (vb vst : V) (b : Int) (L : List Int) (st : List (Str × Int)), vs = [vb, vst, .int b] ∧ BS cB H vb vst L st ∧ 0 ≤ b ∧ ∀ v H', Same H H' → Tp H' v (stD (far L st b)) → Q v H'
/-- slots of far: 0 book 1 standing 2 beats 3 found 4 going 5 names 6 rest 7 name -/
abbrev s_far : Stmt := top 30
theorem sc_far : FnScope ["book", "standing", "beats", "found", "going", "names", "rest", "name"] ["book", "standing", "beats"] (defScope s_far) := ⟨rfl, rfl, rfl, by decide +kernel, rfl, by decide +kernel, by decide +kernel⟩
theorem ok_far {cB cR f fi fp frb : Addr} {fd fdi fdp fdr : FuncData} (T : BtT mg t1 t2) (C : RunC K cR) (F : Fun K "far" "far" s_far f fd) (D_Run : MK P w K mg base cR 7 "Run" ["self", "book", "standing"] (sp_Run_init cB cR) fi fdi)
    (D_Run_parts_at : MC P w K mg base cR 1 "parts_at" ["self", "beat"] (sp_parts_at cB cR) fp fdp) (D_rest_behind : FC P w K mg base 1 "rest_behind" ["going", "beats"] sp_rest_behind frb fdr) : FnOk P w K mg base CX0 9 f fd ["book", "standing", "beats"] (sp_far cB) := by
  refine F.ok sc_far (fun vs H Q E h => ?_) (fun cdv A outer s H vs Q E hr h => ?_)
  · obtain ⟨_, _, _, _, _, rfl, _⟩ := h
    rfl
  · have c_Run := C.cls
    refine ⟨_, (pss_cons (ps_set (i := 3) sc_far.nd rfl (Or.inl rfl) (pe_lst pa_nil))
      (pss_cons (ps_for PassesOwn.never rfl (pi_list (pe_m (pe_mk D_Run hr (by decide) (pa_cons (pv 0) (pa_cons (pv 1) pa_nil))) c_Run D_Run_parts_at hr (by decide) (pa_cons (pv 2) pa_nil))) (pg_tup (n := 2) rfl (pgs_cons (pg_name (i := 4) sc_far.nd rfl (Or.inl rfl)) (pgs_cons (pg_name (i := 5) sc_far.nd rfl (Or.inl rfl)) pgs_nil))) (pss_cons (ps_set (i := 6) sc_far.nd rfl (Or.inr rfl) (pe_f D_rest_behind hr (by decide) (pa_cons (pv 4) (pa_cons (pv 2) pa_nil))))
      (pss_one (ps_expr (pe_bm PySem.F.plainAttrs_list PySem.F.slot_list_extend PySem.F.type_list_extend mt_extend (pv 3) (pa_cons (pe_lc (own := [("name", 7)]) (g := (gName 7)) rfl sc_far.nd (pi_tup (pv 5)) (blkOk_by (N := ["book", "standing", "beats", "found", "going", "names", "rest", "name"]) (sc := defScope s_far) (by decide +kernel)) (fun _ _ _ _ _ => (pg_name (i := 7) sc_far.nd rfl (Or.inl rfl))) (fun _ _ _ _ _ => pts_nil) (fun _ _ _ _ _ => (pe_tup (pa_cons (pv 7) (pa_cons (pv 6) pa_nil))))) pa_nil))))))
      (pss_one (ps_ret (pe_callTy (T := "tuple") (kTuple (K := K) rfl) (by rfl) T.tuple (by decide +kernel) (pa_cons (pe_callB (kSortedTp (K := K) rfl hr.units) (by rfl) T.sorted (by decide +kernel) (pa_cons (pv 3) pa_nil)) pa_nil)))))), ?_⟩
    obtain ⟨vb, vst, b, L, st, rfl, bs, hb, k⟩ := h
    walk_at "go"
    refine ⟨len0, fun fp hfp => ?_⟩
    have s1 : Same H (upd H fp (.lst [])) := same_new hfp
    have hfp1 : (upd H fp (.lst [])) fp = some (.lst []) := upd_same
    generalize upd H fp (.lst []) = H1 at *
    walk_at "go"
    refine mk_run (bk_same s1 bs.bk) (tp_keep (kp_same s1) bs.tst) bs.good fun R H2 s2 ro => ?_
    have ro' := ro
    obtain ⟨_, dx, pp, pq, rr, ss, vb', e, rn⟩ := ro'
    cases e
    have hR := rn.ins
    unfold fl at hR
    walk_at "go"
    refine ⟨_, b, L, run L st, st.length, rfl, ro, run_ok bs.good, run_ok2 bs.good bs.nn, hb, fun l zs H3 s3 hl tz => ?_⟩
    have s123 : Same H H3 := (s1.trans s2).trans s3
    have hfp3 := s3 _ _ (s2 _ _ hfp1)
    walk_at "go"
    have hpos : ∀ p ∈ partsAt (run L st).sps b, 0 < p.1.2 := by
      obtain ⟨e, he, _, e2⟩ := partsAt_mem (run_ok2 bs.good bs.nn) hb
      intro p hp
      rw [e2] at hp
      exact bs.good.pos _ ((run_ok bs.good).str e he p hp).1
    have hcount : ∀ i, (((partsAt (run L st).sps b).take i).flatMap fun p => p.2.map fun n => (n, restB p.1 b)).length ≤ 40 := by
      intro i
      obtain ⟨e, he, _, e2⟩ := partsAt_mem (run_ok2 bs.good bs.nn) hb
      have h1 := (run_ok bs.good).stot e he
      have h2 : ∀ (l : List Part) (i : Nat), ((l.take i).flatMap fun p => p.2.map fun n => (n, restB p.1 b)).length ≤ (l.map (·.2.length)).sum := by
        intro l
        induction l with
        | nil => intro i; simp
        | cons a r ih =>
          intro i
          cases i with
          | zero => simp
          | succ i =>
            rw [List.take_succ_cons, List.flatMap_cons, List.length_append, List.length_map, List.map_cons, List.sum_cons]
            have := ih i
            omega
      have h3 := h2 e.2 i
      rw [e2]
      have := bs.good.l40
      omega
    have hlen := data_len tz
    refine for_list tz (fun i σ H' => (∃ u v w', σ = [some vb, some vst, some (.int b), some (.ref fp), u, v, w', none]) ∧ Same H H' ∧ Kp H3 H' ∧ H' l = some (.lst zs) ∧ ∃ acc, H' fp = some (.lst acc) ∧ TpAll H' acc ((((partsAt (run L st).sps b).take i).flatMap fun p => p.2.map fun n => (n, restB p.1 b)).map prD))
      ⟨⟨_, _, _, rfl⟩, s123, Kp.refl _, hl, [], hfp3, .nil⟩ (fun i p x σ H4 hp ⟨⟨u, v, w', es⟩, s4, kp4, hl4, acc, hfp4, tac⟩ tx => ?_) (fun σ H4 ⟨⟨u, v, w', es⟩, s4, kp4, hl4, acc, hfp4, tac⟩ => ?_) hl (fun i σ H4 ⟨_, _, kp4, hl4, _⟩ => ⟨hl4, kp4⟩)
    · subst es
      have lne : l ≠ fp := fun z => by
        rw [z, hfp3] at hl
        have hz : ([] : List V) = zs := by
          have := Option.some.inj hl
          injection this
        have h1 := (List.getElem?_eq_some_iff.mp hp).1
        rw [← hz] at hlen
        simp at hlen
        rw [← hlen] at h1
        simp at h1
      obtain ⟨pa, gx, nx', rfl, hpa, tgx, tnx⟩ := tp_pt tx
      walk_at "go"
      refine ⟨gx, p.1, b, rfl, tgx, hpos p (List.mem_of_getElem? hp), ?_⟩
      obtain ⟨na, rfl, hna⟩ := tp_nm tnx
      have tn : TpAll H4 (p.2.map V.str) (p.2.map PyData.str) := tpa_of_strs _ _
      have hc1 := hcount (i + 1)
      rw [take_snoc hp, List.flatMap_append, List.length_append] at hc1
      simp only [List.flatMap_cons, List.flatMap_nil, List.append_nil, List.length_map] at hc1
      walk_at "go"
      intro D hD
      refine lc_tup tn (by omega) (fun n => some (prD (n, restB p.1 b))) hD (fun n x H5 Kb Kf hn s5 tx' kb kf => ?_) (fun H5 acc5 s5 hacc5 tacc5 => ?_) hna
      · cases tp_str tx'
        walk_at "go"
        refine ⟨rfl, ?_⟩
        walk_at "go"
        refine ⟨len2, fun q hq => ?_⟩
        exact kb _ _ _ rfl (same_new hq) (mk_pr upd_same)
      · rw [fm_some] at tacc5
        have hfp5 := s5 _ _ hfp4
        have hal := data_len tac
        have hal5 := data_len tacc5
        walk_at "go"
        refine x_ext hfp5 hacc5 (by rw [hal, hal5]; exact sz100 (by omega)) ?_
        have kp6 : Kp H5 (upd H5 fp (.lst (acc ++ acc5))) := kp_mut hfp5 (fun _ z => nomatch z)
        refine ⟨⟨_, _, _, rfl⟩, same_mut (s4.trans s5) hfp, Kp.trans (Kp.trans kp4 (kp_same s5)) kp6, by rw [upd_ne lne]; exact s5 _ _ hl4, _, upd_same, ?_⟩
        rw [take_snoc hp, List.flatMap_append, List.map_append]
        simp only [List.flatMap_cons, List.flatMap_nil, List.append_nil, List.map_map]
        exact tpa_app (tpa_keep (Kp.trans (kp_same s5) kp6) tac) (tpa_keep kp6 tacc5)
    · subst es
      rw [List.take_length] at tac
      walk_at "go"
      refine ⟨fp, acc, _, rfl, sql hfp4, tac, pr_alike _, pr_sortable _, pr_depth _, fun q ys hq ty => ?_⟩
      walk_at "go"
      refine x_tupL upd_same fun q2 hq2 => ?_
      refine k _ _ (same_mut (same_mut s4 (none_back s4 hq)) (none_back (same_mut s4 (none_back s4 hq)) hq2)) (mk_st upd_same ?_)
      rw [pr_sort] at ty
      exact tpa_keep (kp_same ((same_new hq).trans (same_new hq2))) ty

def sp_up_at (cB : Addr) : Sp := fun vs H Q _ => ∃ (vb vst : V) (b : Int) (L : List Int) (st : List (Str × Int)), vs = [vb, vst, .int b] ∧ BS cB H vb vst L st ∧ 1 ≤ b ∧ ∀ l H', Same H H' → H' l = some (.lst ((upAt L st b).map V.str)) → Q (.ref l) H'
/-- slots of up_at: 0 book 1 standing 2 beat 3 going 4 names -/
abbrev s_up_at : Stmt := top 31
theorem sc_up_at : FnScope ["book", "standing", "beat", "going", "names"] ["book", "standing", "beat"] (defScope s_up_at) := ⟨rfl, rfl, rfl, by decide +kernel, rfl, by decide +kernel, by decide +kernel⟩
theorem ok_up_at {cB cR f fi fp frb : Addr} {fd fdi fdp fdr : FuncData} (T : BtT mg t1 t2) (C : RunC K cR) (F : Fun K "up_at" "up_at" s_up_at f fd) (D_Run : MK P w K mg base cR 7 "Run" ["self", "book", "standing"] (sp_Run_init cB cR) fi fdi)
    (D_Run_parts_at : MC P w K mg base cR 1 "parts_at" ["self", "beat"] (sp_parts_at cB cR) fp fdp) (D_rest_behind : FC P w K mg base 1 "rest_behind" ["going", "beats"] sp_rest_behind frb fdr) : FnOk P w K mg base CX0 9 f fd ["book", "standing", "beat"] (sp_up_at cB) := by
  refine F.ok sc_up_at (fun vs H Q E h => ?_) (fun cdv A outer s H vs Q E hr h => ?_)
  · obtain ⟨_, _, _, _, _, rfl, _⟩ := h
    rfl
  · have c_Run := C.cls
    refine ⟨_, (pss_cons (ps_for PassesOwn.never rfl (pi_list (pe_m (pe_mk D_Run hr (by decide) (pa_cons (pv 0) (pa_cons (pv 1) pa_nil))) c_Run D_Run_parts_at hr (by decide) (pa_cons (pe_op op_sub (pv 2) pe_int) pa_nil))) (pg_tup (n := 2) rfl (pgs_cons (pg_name (i := 3) sc_up_at.nd rfl (Or.inl rfl)) (pgs_cons (pg_name (i := 4) sc_up_at.nd rfl (Or.inl rfl)) pgs_nil))) (pss_one (ps_if (pt_cmpR op_eq (pe_f D_rest_behind hr (by decide) (pa_cons (pv 3) (pa_cons (pe_op op_sub (pv 2) pe_int) pa_nil))) pe_int (nomark _)) (pss_one (ps_ret (pe_callTy (T := "list") (kList (K := K) rfl) (by rfl) T.list (by decide +kernel) (pa_cons (pv 4) pa_nil)))) pss_nil)))
      (pss_one (ps_ret (pe_lst pa_nil)))), ?_⟩
    obtain ⟨vb, vst, b, L, st, rfl, bs, hb, k⟩ := h
    walk_at "go"
    refine mk_run bs.bk bs.tst bs.good fun R H2 s2 ro => ?_
    have ro' := ro
    obtain ⟨_, dx, pp, pq, rr, ss, vb', e, rn⟩ := ro'
    cases e
    have hR := rn.ins
    unfold fl at hR
    walk_at "go"
    refine ⟨_, b - 1, L, run L st, st.length, rfl, ro, run_ok bs.good, run_ok2 bs.good bs.nn, by omega, fun l zs H3 s3 hl tz => ?_⟩
    have hpos : ∀ p ∈ partsAt (run L st).sps (b - 1), 0 < p.1.2 := by
      obtain ⟨e, he, _, e2⟩ := partsAt_mem (run_ok2 bs.good bs.nn) (show 0 ≤ b - 1 by omega)
      intro p hp
      rw [e2] at hp
      exact bs.good.pos _ ((run_ok bs.good).str e he p hp).1
    walk_at "go"
    refine for_list tz (fun i σ H' => (∃ u v, σ = [some vb, some vst, some (.int b), u, v]) ∧ Same H H' ∧ Kp H3 H' ∧ H' l = some (.lst zs) ∧ ((partsAt (run L st).sps (b - 1)).take i).find? (fun p => restB p.1 (b - 1) == 1) = none)
      ⟨⟨_, _, rfl⟩, s2.trans s3, Kp.refl _, hl, rfl⟩ (fun i p x σ H4 hp ⟨⟨u, v, es⟩, s4, kp4, hl4, hno⟩ tx => ?_) (fun σ H4 ⟨⟨u, v, es⟩, s4, kp4, hl4, hno⟩ => ?_) hl (fun i σ H4 ⟨_, _, kp4, hl4, _⟩ => ⟨hl4, kp4⟩)
    · subst es
      obtain ⟨pa, gx, nx', rfl, hpa, tgx, tnx⟩ := tp_pt tx
      walk_at "go"
      refine ⟨gx, p.1, b - 1, rfl, tgx, hpos p (List.mem_of_getElem? hp), ?_⟩
      obtain ⟨na, rfl, hna⟩ := tp_nm tnx
      walk_at "go"
      refine x_dec (fun c => ?_) (fun c => ?_)
      · walk_at "go"
        refine x_listT hna fun q hq => ?_
        refine k q _ (same_mut s4 (none_back s4 hq)) ?_
        rw [upd_same]
        have e : upAt L st b = p.2 := by
          unfold upAt
          have e1 : (partsAt (run L st).sps (b - 1)).find? (fun p => restB p.1 (b - 1) == 1) = some p := by
            rw [← List.take_append_drop (i + 1) (partsAt (run L st).sps (b - 1)), take_snoc hp, List.find?_append, List.find?_append, hno]
            simp [c]
          rw [e1]
          rfl
        rw [e]
      · walk_at "go"
        refine ⟨⟨_, _, rfl⟩, s4, kp4, hl4, ?_⟩
        rw [take_snoc hp, List.find?_append, hno]
        simp [c]
    · subst es
      rw [List.take_length] at hno
      walk_at "go"
      refine ⟨len0, fun q hq => ?_⟩
      refine k q _ (same_mut s4 (none_back s4 hq)) ?_
      rw [upd_same]
      have e : upAt L st b = [] := by
        unfold upAt
        rw [hno]
        rfl
      rw [e]
      rfl
end
end Sl

set_option Elab.async false
set_option linter.all false
set_option maxRecDepth 100000
set_option maxHeartbeats 4000000
/-! The walks: ups, sums. -/
namespace Sl
open PySem L2
local macro_rules | `(tactic| walk_at "go1") => `(tactic| first
  | with_reducible refine x_seq ?_
  | with_reducible refine x_asg ?_
  | with_reducible refine x_name ?_
  | with_reducible refine x_ret ?_
  | with_reducible refine x_if ?_
  | ((with_reducible refine' x_var ?hv ?_); (case hv => rfl))
  | with_reducible refine x_c ?_
  | with_reducible refine' x_non ?_
  | with_reducible refine x_yes ?_
  | with_reducible refine' iteT ?_
  | with_reducible refine' iteF ?_
  | with_reducible refine x_op ?_
  | with_reducible refine x_I0 ?_
  | with_reducible refine x_test ?_
  | with_reducible refine' x_bl ?_
  | with_reducible refine x_eqI ?_
  | with_reducible refine x_neI ?_
  | with_reducible refine x_cons ?_
  | with_reducible refine x_nil ?_
  | with_reducible refine x_call ?_
  | with_reducible refine x_cb ?_
  | with_reducible refine x_par ?_
  | with_reducible refine x_par2 ?_
  | with_reducible refine x_gcons ?_
  | with_reducible refine x_gnil ?_
  | with_reducible refine x_next ?_
  | with_reducible refine x_drop ?_
  | with_reducible refine x_bm ?_
  | with_reducible refine x_fld ?_
  | with_reducible refine x_dget ?_
  | with_reducible refine x_lc ?_
  | with_reducible refine x_sfld ?_
  | with_reducible refine x_meth ?_
  | with_reducible refine x_augS ?_
  | with_reducible refine x_gsub ?_
  | with_reducible refine x_ipI ?_
  | ((with_reducible refine' x_ixLc ?ha ?hk ?_); (case ha => assumption); (case hk => rfl))
  | with_reducible refine x_lc2 ?_
  | with_reducible refine x_rng1 ?_
  | with_reducible refine x_rng2 ?_
  | with_reducible refine x_un ?_
  | with_reducible refine x_unI ?_
  | with_reducible refine x_zip ?_
  | with_reducible refine x_sl ?_
  | with_reducible refine x_nopart ?_
  | with_reducible refine x_part ?_
  | with_reducible refine' x_partI ?_
  | ((with_reducible refine' x_slL ?ha ?_); (case ha => assumption))
  | with_reducible refine' x_min2 ?_
  | with_reducible refine' x_max2 ?_
  | with_reducible refine x_lv ?_
  | with_reducible refine x_dc ?_
  | with_reducible refine x_dcT ?_
  | with_reducible refine x_iKeys ?_
  | with_reducible refine x_itemsT ?_
  | ((with_reducible refine' x_itemsTI ?ha ?_); (case ha => assumption))
  | ((with_reducible refine' x_keysK ?ha ?_); (case ha => assumption))
  | ((with_reducible refine' x_keysT ?ha ?_); (case ha => assumption))
  | with_reducible refine x_dput ?_
  | with_reducible refine x_faug ?_
  | with_reducible refine x_add ?_
  | with_reducible refine x_items ?_
  | ((with_reducible refine' x_itemsI ?ha ?_); (case ha => assumption))
  | ((with_reducible refine' x_faugI ?ha ?hc ?hn ?hl ?_); (case ha => assumption); (case hc => assumption); (case hn => assumption); (case hl => rfl))
  | with_reducible refine x_make ?_
  | with_reducible refine x_andV ?_
  | with_reducible refine x_orV ?_
  | with_reducible refine x_notV ?_
  | with_reducible refine x_chain ?_
  | with_reducible refine x_notT ?_
  | with_reducible refine x_andT ?_
  | with_reducible refine x_orT ?_
  | with_reducible refine x_tB ?_
  | with_reducible refine' iteNT ?_
  | with_reducible refine' iteNF ?_
  | with_reducible refine x_isiI ?_
  | with_reducible refine x_isiB ?_
  | ((with_reducible refine' x_isiL ?ha ?_); (case ha => assumption))
  | ((with_reducible refine' x_len ?ha ?_); (case ha => assumption))
  | ((with_reducible refine' x_lenT ?ha ?_); (case ha => assumption))
  | ((with_reducible refine' x_fldI ?ha ?hc ?hn ?hl ?_); (case ha => assumption); (case hc => assumption); (case hn => assumption); (case hl => rfl))
  | ((with_reducible refine' x_sfldI ?ha ?hc ?hn ?hl ?_); (case ha => assumption); (case hc => assumption); (case hn => assumption); (case hl => first | (with_unfolding_all decide) | (simp only [List.length_cons, List.length_nil]; omega)))
  | ((with_reducible refine' x_methI ?ha ?hl ?_); (case ha => assumption); (case hl => rfl))
  | with_reducible refine x_for ?_
  | with_reducible refine x_dset ?_
  | ((with_reducible refine' x_isD ?ha ?_); (case ha => assumption))
  | with_reducible refine x_iL ?_
  | with_reducible refine x_iT ?_
  | with_reducible refine x_dK ?_
  | with_reducible refine x_dT ?_
  | ((with_reducible refine' x_tyl ?ha ?_); (case ha => assumption))
  | ((with_reducible refine' x_lct ?ha ?_); (case ha => assumption))
  | ((with_reducible refine' x_tct ?ha ?_); (case ha => assumption))
  | ((with_reducible refine' x_gtup ?ha ?hn ?_); (case ha => assumption); (case hn => rfl))
  | ((with_reducible refine' x_ixT ?ha ?hk ?_); (case ha => assumption); (case hk => rfl))
  | (with_reducible refine x_tup ?_)
  | (with_reducible refine x_lst ?_))
local macro_rules | `(tactic| walk_at "go") => `(tactic| (repeat walk_at "go1"))
section
variable {P : Program} {w : World} {K : PySem.W.Frag} {mg : Str → Option Value} {base : Heap} {t1 t2 : Tok}
def upD (u : Int × Nm) : PyData := .tuple [.int u.1, nmD u.2]
theorem sh_up (u : Int × Nm) : Sh 2 (upD u) := sh_two (sh_int _) (sh_nm _)
theorem nextUp_some {gs : List Go} (h : gs ≠ []) (b : Int) : ∃ i r, (nextUp gs b).2 = i :: r ∧ i < gs.length := by
  obtain ⟨g0, gr, rfl⟩ : ∃ g0 gr, gs = g0 :: gr := by
    cases gs with
    | nil => exact absurd rfl h
    | cons g0 gr => exact ⟨g0, gr, rfl⟩
  have hm := (minI_mem (restB g0 b) (gr.map (restB · b))).1
  rw [← List.map_cons (f := (restB · b))] at hm
  obtain ⟨i, hi⟩ := List.mem_iff_getElem?.mp hm
  have hil := (List.getElem?_eq_some_iff.mp hi).1
  rw [List.length_map] at hil
  have hmem : i ∈ (nextUp (g0 :: gr) b).2 := by
    unfold nextUp
    rw [List.mem_filter]
    exact ⟨List.mem_range.mpr hil, by rw [hi]; exact beq_self_eq_true _⟩
  cases hc : (nextUp (g0 :: gr) b).2 with
  | nil => rw [hc] at hmem; simp at hmem
  | cons j r =>
    refine ⟨j, r, rfl, ?_⟩
    have hj : j ∈ (nextUp (g0 :: gr) b).2 := by rw [hc]; exact List.mem_cons_self
    unfold nextUp at hj
    exact List.mem_range.mp (List.mem_filter.mp hj).1
theorem parts_ne {L : List Int} {st : List (Str × Int)} (G : Good L st) (h : ∀ e ∈ st, 0 ≤ e.2) (hne : st ≠ []) {a : Int} (ha : 0 ≤ a) : partsAt (run L st).sps a ≠ [] := by
  obtain ⟨e, he, _, e2⟩ := partsAt_mem (run_ok2 G h) ha
  have := (run_ok2 G h).stot e he
  intro z
  rw [e2] at z
  rw [z] at this
  exact hne (List.length_eq_zero_iff.mp this.symm)
def sp_ups_from (cB : Addr) : Sp := fun vs H Q _ => ∃ (vb vst : V) (b : Int) (n : Nat) (L : List Int) (st : List (Str × Int)), vs = [vb, vst, .int b, .int (n : Int)] ∧ BS cB H vb vst L st ∧ 1 ≤ b ∧ n ≤ 1000 ∧ ∀ l zs H', Same H H' → H' l = some (.lst zs) → TpAll H' zs ((upsFrom L st b n).map upD) → Q (.ref l) H'
/-- slots of ups_from: 0 book 1 standing 2 beat 3 many 4 run 5 found 6 ahead 7 parts 8 places 9 going 10 names -/
abbrev s_ups_from : Stmt := top 32
theorem sc_ups_from : FnScope ["book", "standing", "beat", "many", "run", "found", "ahead", "parts", "places", "going", "names"] ["book", "standing", "beat", "many"] (defScope s_ups_from) := ⟨rfl, rfl, rfl, by decide +kernel, rfl, by decide +kernel, by decide +kernel⟩
theorem ok_ups_from {cB cR f fi fp fn : Addr} {fd fdi fdp fdn : FuncData} (T : BtT mg t1 t2) (C : RunC K cR) (F : Fun K "ups_from" "ups_from" s_ups_from f fd) (D_Run : MK P w K mg base cR 7 "Run" ["self", "book", "standing"] (sp_Run_init cB cR) fi fdi)
    (D_Run_parts_at : MC P w K mg base cR 1 "parts_at" ["self", "beat"] (sp_parts_at cB cR) fp fdp) (D_next_up : FC P w K mg base 2 "next_up" ["goings", "beat"] sp_next_up fn fdn) : FnOk P w K mg base CX0 9 f fd ["book", "standing", "beat", "many"] (sp_ups_from cB) := by
  refine F.ok sc_ups_from (fun vs H Q E h => ?_) (fun cdv A outer s H vs Q E hr h => ?_)
  · obtain ⟨_, _, _, _, _, _, rfl, _⟩ := h
    rfl
  · have c_Run := C.cls
    refine ⟨_, (pss_cons (ps_if (pt_cmpR (kEqD (K := K) rfl hr.units) (pv 1) (pe_tup pa_nil) (nomark _)) (pss_one (ps_ret (pe_lst pa_nil))) pss_nil)
      (pss_cons (ps_set (i := 4) sc_ups_from.nd rfl (Or.inl rfl) (pe_mk D_Run hr (by decide) (pa_cons (pv 0) (pa_cons (pv 1) pa_nil))))
      (pss_cons (ps_set (i := 5) sc_ups_from.nd rfl (Or.inl rfl) (pe_lst pa_nil))
      (pss_cons (ps_set (i := 6) sc_ups_from.nd rfl (Or.inl rfl) (pe_op op_sub (pv 2) pe_int))
      (pss_cons (ps_while PassesOwn.never (pt_cmpR op_lt (pe_callB (kLen (K := K) rfl) (by rfl) T.len (by decide +kernel) (pa_cons (pv 5) pa_nil)) (pv 3) (nomark _)) (pss_cons (ps_set (i := 7) sc_ups_from.nd rfl (Or.inl rfl) (pe_m (pv 4) c_Run D_Run_parts_at hr (by decide) (pa_cons (pv 6) pa_nil)))
      (pss_cons (ps_asg (pe_f D_next_up hr (by decide) (pa_cons (pe_lc (own := [("going", 9), ("names", 10)]) (g := (gTup K 2 (gCons (gName 9) (gCons (gName 10) gNil)))) rfl sc_ups_from.nd (pi_list (pv 7)) (blkOk_by (N := ["book", "standing", "beat", "many", "run", "found", "ahead", "parts", "places", "going", "names"]) (sc := defScope s_ups_from) (by decide +kernel)) (fun _ _ _ _ _ => (pg_tup (n := 2) rfl (pgs_cons (pg_name (i := 9) sc_ups_from.nd rfl (Or.inl rfl)) (pgs_cons (pg_name (i := 10) sc_ups_from.nd rfl (Or.inl rfl)) pgs_nil)))) (fun _ _ _ _ _ => pts_nil) (fun _ _ _ _ _ => (pv 9))) (pa_cons (pv 6) pa_nil))) (pg_tup (n := 2) rfl (pgs_cons (pg_name (i := 6) sc_ups_from.nd rfl (Or.inl rfl)) (pgs_cons (pg_name (i := 8) sc_ups_from.nd rfl (Or.inl rfl)) pgs_nil))))
      (pss_one (ps_expr (pe_bm PySem.F.plainAttrs_list PySem.F.slot_list_append PySem.F.type_list_append mt_append (pv 5) (pa_cons (pe_tup (pa_cons (pv 6) (pa_cons (pe_ix (kIxT (K := K) rfl) (pe_ix (kIxL (K := K) rfl) (pv 7) (pe_ix (kIxL (K := K) rfl) (pv 8) pe_int (fun _ _ => rfl)) (fun _ _ => rfl)) pe_int (fun _ _ => rfl)) pa_nil))) pa_nil)))))))
      (pss_one (ps_ret (pv 5)))))))), ?_⟩
    obtain ⟨vb, vst, b, n, L, st, rfl, bs, hb, hn, k⟩ := h
    walk_at "go"
    refine ⟨len0, fun p0 hp0 => ?_⟩
    have s1 : Same H (upd H p0 (.tup [])) := same_new hp0
    refine x_eqT0 (tp_dp (tp_keep (kp_same s1) bs.tst)) (.tup (sqt upd_same) .nil) (sh_st st) (by decide) ?_
    generalize upd H p0 (.tup []) = H1 at *
    cases hst : st with
    | nil =>
      walk_at "go"
      refine ⟨len0, fun q hq => ?_⟩
      refine k q [] _ (same_mut s1 (none_back s1 hq)) upd_same ?_
      have e : upsFrom L st b n = [] := by unfold upsFrom; rw [if_pos hst]
      rw [e]
      exact .nil
    | cons e0 er =>
      have hne : st ≠ [] := by rw [hst]; exact fun z => nomatch z
      refine x_bl (b := false) ?_
      walk_at "go"
      have bs1 := bs_same s1 bs
      refine mk_run bs1.bk bs1.tst bs.good fun R H2 s2 ro => ?_
      walk_at "go"
      refine ⟨len0, fun fp hfp => ?_⟩
      have s3 : Same H2 (upd H2 fp (.lst [])) := same_new hfp
      have hfp3 : (upd H2 fp (.lst [])) fp = some (.lst []) := upd_same
      generalize upd H2 fp (.lst []) = H3 at *
      walk_at "go"
      have hup : upsFrom L st b n = upsN (run L st).sps n (b - 1) := by unfold upsFrom; rw [if_neg hne]
      with_reducible refine' x_while ?W ?m0 ?w0 ?hs
      case W => exact (fun m σ' H' => ∃ (a : Int) (u7 u8 : Option V) (don : List (Int × Nm)) (acc : List V), σ' = [some vb, some vst, some (.int b), some (.int (n : Int)), some (.ref R), some (.ref fp), some (.int a), u7, u8, none, none] ∧ Same H2 H' ∧ 0 ≤ a ∧ don.length + m = n ∧ don ++ upsN (run L st).sps m a = upsN (run L st).sps n (b - 1) ∧ H' fp = some (.lst acc) ∧ TpAll H' acc (don.map upD))
      case m0 => exact n
      case w0 => exact ⟨b - 1, none, none, [], [], rfl, s3, by omega, by simp, rfl, hfp3, .nil⟩
      rintro m σ' H4 ⟨a, u7, u8, don, acc, rfl, s4, ha, hlen, hdon, hfp4, tac⟩
      have hal := data_len tac
      walk_at "go"
      refine x_dec (fun c => ?_) (fun c => ?_)
      · obtain ⟨m', rfl⟩ : ∃ m', m = m' + 1 := ⟨m - 1, by omega⟩
        refine ⟨fun σ2 H5 => ∃ (a : Int) (u7 u8 : Option V) (don : List (Int × Nm)) (acc : List V), σ2 = [some vb, some vst, some (.int b), some (.int (n : Int)), some (.ref R), some (.ref fp), some (.int a), u7, u8, none, none] ∧ Same H2 H5 ∧ 0 ≤ a ∧ don.length + m' = n ∧ don ++ upsN (run L st).sps m' a = upsN (run L st).sps n (b - 1) ∧ H5 fp = some (.lst acc) ∧ TpAll H5 acc (don.map upD), fun σ2 H5 h => ⟨m', Nat.lt_succ_self _, h⟩, ?_⟩
        have ro4 := ro_same s4 ro
        have ro' := ro4
        obtain ⟨_, dx, pp, pq, rr, ss, vb', e, rn⟩ := ro'
        cases e
        have hR := rn.ins
        unfold fl at hR
        walk_at "go"
        refine ⟨_, a, L, run L st, st.length, rfl, ro4, run_ok bs.good, run_ok2 bs.good bs.nn, ha, fun l zs H5 s5 hl tz => ?_⟩
        have hpne := parts_ne bs.good bs.nn hne ha
        have hposp : ∀ p ∈ partsAt (run L st).sps a, 0 < p.1.2 := by
          obtain ⟨e, he, _, e2⟩ := partsAt_mem (run_ok2 bs.good bs.nn) ha
          intro p hp
          rw [e2] at hp
          exact bs.good.pos _ ((run_ok bs.good).str e he p hp).1
        have hpl : (partsAt (run L st).sps a).length ≤ 40 := by
          obtain ⟨e, he, _, e2⟩ := partsAt_mem (run_ok2 bs.good bs.nn) ha
          rw [e2]
          exact piece_len (run_ok bs.good) bs.good.l40 he
        generalize hpa : partsAt (run L st).sps a = ps at *
        have hlz := data_len tz
        have hfp5 := s5 _ _ hfp4
        walk_at "go"
        intro D hD
        refine lc_list tz (by omega) (fun p => some (goD p.1)) hD (fun p x H6 Kb Kf hp s6 tx kb kf => ?_) (fun H6 acc6 s6 hacc6 tacc6 => ?_) hl
        · obtain ⟨pa, gx, nx', rfl, hpa', tgx, tnx⟩ := tp_pt tx
          walk_at "go"
          refine ⟨rfl, ?_⟩
          walk_at "go"
          exact kb _ _ _ rfl (Same.refl _) tgx
        · rw [fm_some] at tacc6
          have e6 : ps.map (fun p => goD p.1) = (ps.map (·.1)).map goD := by rw [List.map_map]; rfl
          rw [e6] at tacc6
          have gne : ps.map (·.1) ≠ [] := fun z => hpne (List.map_eq_nil_iff.mp z)
          have gpos : ∀ g ∈ ps.map (·.1), 0 < g.2 := fun g hg => by
            obtain ⟨p, hp, rfl⟩ := List.mem_map.mp hg
            exact hposp p hp
          walk_at "go"
          refine ⟨D, acc6, ps.map (·.1), a, rfl, hacc6, tacc6, gne, by rw [List.length_map]; omega, gpos, fun tp q H7 s7 htp hq => ?_⟩
          obtain ⟨i0, ir, hi0, hil⟩ := nextUp_some gne a
          rw [List.length_map] at hil
          have hge := nextUp_ge gpos gne a
          have hl7 := s7 _ _ (s6 _ _ hl)
          have hfp7 := s7 _ _ (s6 _ _ hfp5)
          walk_at "go"
          have hq0 : atI ((nextUp (ps.map (·.1)) a).2.map fun i : Nat => V.int (i : Int)) 0 = some (.int (i0 : Int)) := by
            rw [hi0]
            exact atI_nat (j := 0) rfl
          refine x_ixL hq hq0 ?_
          obtain ⟨pv, hpv, tpv⟩ := tpa_at tz (i := i0) (d := ptD (ps[i0]'hil)) (by rw [List.getElem?_map, List.getElem?_eq_getElem hil]; rfl)
          refine x_ixL hl7 (atI_nat hpv) ?_
          obtain ⟨pa, gx, nx', rfl, hpa', tgx, tnx⟩ := tp_pt (tp_keep (kp_same (s6.trans s7)) tpv)
          walk_at "go"
          refine ⟨len2, fun z hz => ?_⟩
          have hstep : upsStep (run L st).sps a = ((nextUp (ps.map (·.1)) a).1, (ps[i0]'hil).2) := by
            unfold upsStep
            rw [hpa, hi0]
            simp [List.getElem?_eq_getElem hil]
          have s8 : Same H7 (upd H7 z (.tup [.int (nextUp (ps.map (·.1)) a).1, nx'])) := same_new hz
          have hz8 : (upd H7 z (.tup [.int (nextUp (ps.map (·.1)) a).1, nx'])) z = some (.tup [.int (nextUp (ps.map (·.1)) a).1, nx']) := upd_same
          generalize upd H7 z (.tup [.int (nextUp (ps.map (·.1)) a).1, nx']) = H8 at *
          have hfp8 := s8 _ _ hfp7
          walk_at "go"
          refine x_app hfp8 (sz100' (by omega)) ?_
          have sAll : Same H2 H8 := (((s4.trans s5).trans s6).trans s7).trans s8
          have kp9 : Kp H8 (upd H8 fp (.lst (acc ++ [.ref z]))) := kp_mut hfp8 (fun _ z => nomatch z)
          refine ⟨(nextUp (ps.map (·.1)) a).1, _, _, don ++ [upsStep (run L st).sps a], _, rfl, same_mut sAll hfp, by omega, by rw [List.length_append, List.length_singleton]; omega, ?_, upd_same, ?_⟩
          · rw [← hdon, List.append_assoc]
            rw [show upsN (run L st).sps (m' + 1) a = upsStep (run L st).sps a :: upsN (run L st).sps m' (upsStep (run L st).sps a).1 from rfl, hstep]
            rfl
          · rw [List.map_append]
            refine tpa_app (tpa_keep (Kp.trans (kp_same (((s5.trans s6).trans s7).trans s8)) kp9) tac) (tpa_one ?_)
            rw [hstep]
            exact tp_keep kp9 (mk_pair hz8 (.int _) (tp_keep (kp_same s8) tnx))
      · walk_at "go"
        have hm0 : m = 0 := by omega
        subst hm0
        rw [show upsN (run L st).sps 0 a = [] from rfl, List.append_nil] at hdon
        refine k fp acc H4 ((s1.trans s2).trans s4) hfp4 ?_
        rw [hup, ← hdon]
        exact tac
end
end Sl

set_option Elab.async false
set_option linter.all false
set_option maxRecDepth 100000
set_option maxHeartbeats 4000000
/-! The walks: sums over spans. -/
namespace Sl
open PySem L2
local macro_rules | `(tactic| walk_at "go1") => `(tactic| first
  | with_reducible refine x_seq ?_
  | with_reducible refine x_asg ?_
  | with_reducible refine x_name ?_
  | with_reducible refine x_ret ?_
  | with_reducible refine x_if ?_
  | ((with_reducible refine' x_var ?hv ?_); (case hv => rfl))
  | with_reducible refine x_c ?_
  | with_reducible refine' x_non ?_
  | with_reducible refine x_yes ?_
  | with_reducible refine' iteT ?_
  | with_reducible refine' iteF ?_
  | with_reducible refine x_op ?_
  | with_reducible refine x_I0 ?_
  | with_reducible refine x_test ?_
  | with_reducible refine' x_bl ?_
  | with_reducible refine x_eqI ?_
  | with_reducible refine x_neI ?_
  | with_reducible refine x_cons ?_
  | with_reducible refine x_nil ?_
  | with_reducible refine x_call ?_
  | with_reducible refine x_cb ?_
  | with_reducible refine x_par ?_
  | with_reducible refine x_par2 ?_
  | with_reducible refine x_gcons ?_
  | with_reducible refine x_gnil ?_
  | with_reducible refine x_next ?_
  | with_reducible refine x_drop ?_
  | with_reducible refine x_bm ?_
  | with_reducible refine x_fld ?_
  | with_reducible refine x_dget ?_
  | with_reducible refine x_lc ?_
  | with_reducible refine x_sfld ?_
  | with_reducible refine x_meth ?_
  | with_reducible refine x_augS ?_
  | with_reducible refine x_gsub ?_
  | with_reducible refine x_ipI ?_
  | ((with_reducible refine' x_ixLc ?ha ?hk ?_); (case ha => assumption); (case hk => rfl))
  | with_reducible refine x_lc2 ?_
  | with_reducible refine x_rng1 ?_
  | with_reducible refine x_rng2 ?_
  | with_reducible refine x_un ?_
  | with_reducible refine x_unI ?_
  | with_reducible refine x_zip ?_
  | with_reducible refine x_sl ?_
  | with_reducible refine x_nopart ?_
  | with_reducible refine x_part ?_
  | with_reducible refine' x_partI ?_
  | ((with_reducible refine' x_slL ?ha ?_); (case ha => assumption))
  | with_reducible refine' x_min2 ?_
  | with_reducible refine' x_max2 ?_
  | with_reducible refine x_lv ?_
  | with_reducible refine x_dc ?_
  | with_reducible refine x_dcT ?_
  | with_reducible refine x_iKeys ?_
  | with_reducible refine x_itemsT ?_
  | ((with_reducible refine' x_itemsTI ?ha ?_); (case ha => assumption))
  | ((with_reducible refine' x_keysK ?ha ?_); (case ha => assumption))
  | ((with_reducible refine' x_keysT ?ha ?_); (case ha => assumption))
  | with_reducible refine x_dput ?_
  | with_reducible refine x_faug ?_
  | with_reducible refine x_add ?_
  | with_reducible refine x_items ?_
  | ((with_reducible refine' x_itemsI ?ha ?_); (case ha => assumption))
  | ((with_reducible refine' x_faugI ?ha ?hc ?hn ?hl ?_); (case ha => assumption); (case hc => assumption); (case hn => assumption); (case hl => rfl))
  | with_reducible refine x_make ?_
  | with_reducible refine x_andV ?_
  | with_reducible refine x_orV ?_
  | with_reducible refine x_notV ?_
  | with_reducible refine x_chain ?_
  | with_reducible refine x_notT ?_
  | with_reducible refine x_andT ?_
  | with_reducible refine x_orT ?_
  | with_reducible refine x_tB ?_
  | with_reducible refine' iteNT ?_
  | with_reducible refine' iteNF ?_
  | with_reducible refine x_isiI ?_
  | with_reducible refine x_isiB ?_
  | ((with_reducible refine' x_isiL ?ha ?_); (case ha => assumption))
  | ((with_reducible refine' x_len ?ha ?_); (case ha => assumption))
  | ((with_reducible refine' x_lenT ?ha ?_); (case ha => assumption))
  | ((with_reducible refine' x_fldI ?ha ?hc ?hn ?hl ?_); (case ha => assumption); (case hc => assumption); (case hn => assumption); (case hl => rfl))
  | ((with_reducible refine' x_sfldI ?ha ?hc ?hn ?hl ?_); (case ha => assumption); (case hc => assumption); (case hn => assumption); (case hl => first | (with_unfolding_all decide) | (simp only [List.length_cons, List.length_nil]; omega)))
  | ((with_reducible refine' x_methI ?ha ?hl ?_); (case ha => assumption); (case hl => rfl))
  | with_reducible refine x_for ?_
  | with_reducible refine x_dset ?_
  | ((with_reducible refine' x_isD ?ha ?_); (case ha => assumption))
  | with_reducible refine x_iL ?_
  | with_reducible refine x_iT ?_
  | with_reducible refine x_dK ?_
  | with_reducible refine x_dT ?_
  | ((with_reducible refine' x_tyl ?ha ?_); (case ha => assumption))
  | ((with_reducible refine' x_lct ?ha ?_); (case ha => assumption))
  | ((with_reducible refine' x_tct ?ha ?_); (case ha => assumption))
  | ((with_reducible refine' x_gtup ?ha ?hn ?_); (case ha => assumption); (case hn => rfl))
  | ((with_reducible refine' x_ixT ?ha ?hk ?_); (case ha => assumption); (case hk => rfl))
  | (with_reducible refine x_tup ?_)
  | (with_reducible refine x_lst ?_))
local macro_rules | `(tactic| walk_at "go") => `(tactic| (repeat walk_at "go1"))
section
variable {P : Program} {w : World} {K : PySem.W.Frag} {mg : Str → Option Value} {base : Heap} {t1 t2 : Tok}
theorem spans_bd {L : List Int} {st : List (Str × Int)} (G : Good L st) (b : Int) : (spansOf (run L st).sps b).length ≤ 100000 ∧ ∀ x ∈ spansOf (run L st).sps b, x.1.length ≤ 40 ∧ 0 < x.2.1 ∧ x.2.1 < 1073741824 := by
  have ok := run_ok G
  have hz : ∀ z ∈ (run L st).sps.zip (((run L st).sps.drop 1).map (·.1) ++ [b]), z.1 ∈ (run L st).sps := fun z hz => by
    obtain ⟨z1, z2⟩ := z
    exact (List.of_mem_zip hz).1
  refine ⟨?_, fun x hx => ?_⟩
  · have h1 := spans_len ok G.l40 _ b hz
    have h2 : ((run L st).sps.zip (((run L st).sps.drop 1).map (·.1) ++ [b])).length ≤ (run L st).sps.length := by rw [List.length_zip]; omega
    have h3 := ok.ssz
    have h4 := ok.big
    have h5 := ok.pos
    have h6 : (spansOf (run L st).sps b).length ≤ 40 * ((run L st).sps.zip (((run L st).sps.drop 1).map (·.1) ++ [b])).length := h1
    omega
  · unfold spansOf at hx
    obtain ⟨z, hzm, hx⟩ := List.mem_flatMap.mp hx
    unfold piece at hx
    split at hx
    · obtain ⟨p, hp, rfl⟩ := List.mem_map.mp hx
      have hs := hz z hzm
      have h1 := (ok.str _ hs p hp).1
      have h2 := ok.stot _ hs
      have h3 : p.2.length ≤ (z.1.2.map (·.2.length)).sum := by
        have : ∀ (l : List Part), p ∈ l → p.2.length ≤ (l.map (·.2.length)).sum := by
          intro l
          induction l with
          | nil => intro h; simp at h
          | cons a r ih =>
            intro h
            rw [List.map_cons, List.sum_cons]
            rcases List.mem_cons.mp h with h | h
            · rw [h]; omega
            · have := ih h; omega
        exact this _ hp
      have h4 := G.l40
      have h5 := lg_of G _ h1
      exact ⟨by show p.2.length ≤ 40; omega, h5.1, h5.2⟩
    · simp at hx
theorem sum_fm (c : Spn → Bool) (f : Spn → Int) (l : List Spn) : ((l.filter c).map f).sum = sumS (fun x => if c x = true then f x else 0) l := by
  unfold sumS
  induction l with
  | nil => rfl
  | cons a r ih =>
    rw [List.filter_cons, List.map_cons, List.sum_cons, ← ih]
    split
    · rw [List.map_cons, List.sum_cons]
    · rw [Int.zero_add]
theorem inS (n : Str) (ns : Nm) : inV (.str n) (ns.map V.str) = ns.any (· == n) := by
  unfold inV
  rw [List.any_map]
  rfl
theorem flatS (ns : Nm) : (ns.map V.str).all flatV = true := by
  rw [List.all_map]
  exact List.all_eq_true.mpr fun _ _ => rfl
theorem x_inS {K : PySem.W.Frag} {H : Hp} {Q : VK} {n : Str} {ns : Nm} {a : Addr} (ha : H a = some (.tup (ns.map V.str))) (h : Q (.bl (ns.any (· == n))) H) : rIn K false (.str n) (.ref a) H Q := ⟨a, _, rfl, .inr (sqt ha), rfl, flatS _, by
  rw [if_neg (by decide), inS]
  exact h⟩
def isUp (n : Str) (x : Spn) : Int := if (x.1.any (· == n)) = true then x.2.2 else 0
def oneUp (x : Spn) : Int := x.2.2
def manyUp (x : Spn) : Int := x.1.length * x.2.2
def givenUp (x : Spn) : Int := x.1.length * x.2.1 * x.2.2

def sp_beats_with (cB : Addr) : Sp := fun vs H Q _ => ∃ (vb vst : V) (b : Int) (L : List Int) (st : List (Str × Int)), vs = [vb, vst, .int b] ∧ BS cB H vb vst L st ∧ ∀ H', Same H H' → Q (.int (sumS oneUp (spansOf (run L st).sps b))) H'
/-- slots of beats_with: 0 book 1 standing 2 beats 3 names 4 length 5 times -/
abbrev s_beats_with : Stmt := top 34
theorem sc_beats_with : FnScope ["book", "standing", "beats", "names", "length", "times"] ["book", "standing", "beats"] (defScope s_beats_with) := ⟨rfl, rfl, rfl, by decide +kernel, rfl, by decide +kernel, by decide +kernel⟩
theorem ok_beats_with {cB cR f fi fp : Addr} {fd fdi fdp : FuncData} (T : BtT mg t1 t2) (C : RunC K cR) (F : Fun K "beats_with" "beats_with" s_beats_with f fd) (D_Run : MK P w K mg base cR 7 "Run" ["self", "book", "standing"] (sp_Run_init cB cR) fi fdi)
    (D_Run_spans : MC P w K mg base cR 2 "spans" ["self", "beats"] (sp_spans cB cR) fp fdp) : FnOk P w K mg base CX0 9 f fd ["book", "standing", "beats"] (sp_beats_with cB) := by
  refine F.ok sc_beats_with (fun vs H Q E h => ?_) (fun cdv A outer s H vs Q E hr h => ?_)
  · obtain ⟨_, _, _, _, _, rfl, _⟩ := h
    rfl
  · have c_Run := C.cls
    refine ⟨_, (pss_one (ps_ret (pe_callB (kSum (K := K) rfl rfl) (by rfl) T.sum (by decide +kernel) (pa_cons (pe_lc (own := [("names", 3), ("length", 4), ("times", 5)]) (g := (gTup K 3 (gCons (gName 3) (gCons (gName 4) (gCons (gName 5) gNil))))) rfl sc_beats_with.nd (pi_list (pe_m (pe_mk D_Run hr (by decide) (pa_cons (pv 0) (pa_cons (pv 1) pa_nil))) c_Run D_Run_spans hr (by decide) (pa_cons (pv 2) pa_nil))) (blkOk_by (N := ["book", "standing", "beats", "names", "length", "times"]) (sc := defScope s_beats_with) (by decide +kernel)) (fun _ _ _ _ _ => (pg_tup (n := 3) rfl (pgs_cons (pg_name (i := 3) sc_beats_with.nd rfl (Or.inl rfl)) (pgs_cons (pg_name (i := 4) sc_beats_with.nd rfl (Or.inl rfl)) (pgs_cons (pg_name (i := 5) sc_beats_with.nd rfl (Or.inl rfl)) pgs_nil))))) (fun _ _ _ _ _ => pts_nil) (fun _ _ _ _ _ => (pv 5))) pa_nil)))), ?_⟩
    obtain ⟨vb, vst, b, L, st, rfl, bs, k⟩ := h
    walk_at "go"
    refine mk_run bs.bk bs.tst bs.good fun R H1 s1 ro => ?_
    have ro' := ro
    obtain ⟨_, dx, pp, pq, rr, ss, vb', e, rn⟩ := ro'
    cases e
    have hR := rn.ins
    unfold fl at hR
    walk_at "go"
    refine ⟨_, b, L, run L st, rfl, ro, run_ok bs.good, lg_of bs.good, bs.good.l40, fun l zs H2 s2 hl tz => ?_⟩
    obtain ⟨hsl, hsb⟩ := spans_bd bs.good b
    generalize hsp : spansOf (run L st).sps b = sps at *
    walk_at "go"
    intro D hD
    refine lc_list tz hsl (fun x => some (.int (oneUp x))) hD (fun x v H3 Kb Kf hx s3 tx kb kf => ?_) (fun H3 acc s3 hacc tacc => ?_) hl
    · obtain ⟨pa, x1, x2, x3, rfl, hpa, t1', t2', t3'⟩ := tp_trip tx
      obtain ⟨na, rfl, hna⟩ := tp_nm t1'
      cases tp_int t2'
      cases tp_int t3'
      obtain ⟨b1, b2, b3⟩ := hsb x hx
      walk_at "go"
      refine ⟨rfl, ?_⟩
      walk_at "go"
      exact kb _ _ _ rfl (Same.refl _) (.int _)
    · rw [fm_some] at tacc
      have e1 : sps.map (fun x => PyData.int (oneUp x)) = (sps.map oneUp).map PyData.int := by rw [List.map_map]; rfl
      rw [e1] at tacc
      have e2 := tpa_ints tacc
      subst e2
      walk_at "go"
      refine ⟨D, _, rfl, sql hacc, ?_⟩
      have k := k H3 ((s1.trans s2).trans s3)
      exact k

def sp_all_told (cB : Addr) : Sp := fun vs H Q _ => ∃ (vb vst : V) (b : Int) (L : List Int) (st : List (Str × Int)), vs = [vb, vst, .int b] ∧ BS cB H vb vst L st ∧ ∀ H', Same H H' → Q (.int (sumS manyUp (spansOf (run L st).sps b))) H'
/-- slots of all_told: 0 book 1 standing 2 beats 3 names 4 length 5 times -/
abbrev s_all_told : Stmt := top 35
theorem sc_all_told : FnScope ["book", "standing", "beats", "names", "length", "times"] ["book", "standing", "beats"] (defScope s_all_told) := ⟨rfl, rfl, rfl, by decide +kernel, rfl, by decide +kernel, by decide +kernel⟩
theorem ok_all_told {cB cR f fi fp : Addr} {fd fdi fdp : FuncData} (T : BtT mg t1 t2) (C : RunC K cR) (F : Fun K "all_told" "all_told" s_all_told f fd) (D_Run : MK P w K mg base cR 7 "Run" ["self", "book", "standing"] (sp_Run_init cB cR) fi fdi)
    (D_Run_spans : MC P w K mg base cR 2 "spans" ["self", "beats"] (sp_spans cB cR) fp fdp) : FnOk P w K mg base CX0 9 f fd ["book", "standing", "beats"] (sp_all_told cB) := by
  refine F.ok sc_all_told (fun vs H Q E h => ?_) (fun cdv A outer s H vs Q E hr h => ?_)
  · obtain ⟨_, _, _, _, _, rfl, _⟩ := h
    rfl
  · have c_Run := C.cls
    refine ⟨_, (pss_one (ps_ret (pe_callB (kSum (K := K) rfl rfl) (by rfl) T.sum (by decide +kernel) (pa_cons (pe_lc (own := [("names", 3), ("length", 4), ("times", 5)]) (g := (gTup K 3 (gCons (gName 3) (gCons (gName 4) (gCons (gName 5) gNil))))) rfl sc_all_told.nd (pi_list (pe_m (pe_mk D_Run hr (by decide) (pa_cons (pv 0) (pa_cons (pv 1) pa_nil))) c_Run D_Run_spans hr (by decide) (pa_cons (pv 2) pa_nil))) (blkOk_by (N := ["book", "standing", "beats", "names", "length", "times"]) (sc := defScope s_all_told) (by decide +kernel)) (fun _ _ _ _ _ => (pg_tup (n := 3) rfl (pgs_cons (pg_name (i := 3) sc_all_told.nd rfl (Or.inl rfl)) (pgs_cons (pg_name (i := 4) sc_all_told.nd rfl (Or.inl rfl)) (pgs_cons (pg_name (i := 5) sc_all_told.nd rfl (Or.inl rfl)) pgs_nil))))) (fun _ _ _ _ _ => pts_nil) (fun _ _ _ _ _ => (pe_op op_mul (pe_callB (kLen (K := K) rfl) (by rfl) T.len (by decide +kernel) (pa_cons (pv 3) pa_nil)) (pv 5)))) pa_nil)))), ?_⟩
    obtain ⟨vb, vst, b, L, st, rfl, bs, k⟩ := h
    walk_at "go"
    refine mk_run bs.bk bs.tst bs.good fun R H1 s1 ro => ?_
    have ro' := ro
    obtain ⟨_, dx, pp, pq, rr, ss, vb', e, rn⟩ := ro'
    cases e
    have hR := rn.ins
    unfold fl at hR
    walk_at "go"
    refine ⟨_, b, L, run L st, rfl, ro, run_ok bs.good, lg_of bs.good, bs.good.l40, fun l zs H2 s2 hl tz => ?_⟩
    obtain ⟨hsl, hsb⟩ := spans_bd bs.good b
    generalize hsp : spansOf (run L st).sps b = sps at *
    walk_at "go"
    intro D hD
    refine lc_list tz hsl (fun x => some (.int (manyUp x))) hD (fun x v H3 Kb Kf hx s3 tx kb kf => ?_) (fun H3 acc s3 hacc tacc => ?_) hl
    · obtain ⟨pa, x1, x2, x3, rfl, hpa, t1', t2', t3'⟩ := tp_trip tx
      obtain ⟨na, rfl, hna⟩ := tp_nm t1'
      cases tp_int t2'
      cases tp_int t3'
      obtain ⟨b1, b2, b3⟩ := hsb x hx
      walk_at "go"
      refine ⟨rfl, ?_⟩
      walk_at "go"
      rw [List.length_map]
      refine x_mulL (by omega) (by omega) ?_
      exact kb _ _ _ rfl (Same.refl _) (.int _)
    · rw [fm_some] at tacc
      have e1 : sps.map (fun x => PyData.int (manyUp x)) = (sps.map manyUp).map PyData.int := by rw [List.map_map]; rfl
      rw [e1] at tacc
      have e2 := tpa_ints tacc
      subst e2
      walk_at "go"
      refine ⟨D, _, rfl, sql hacc, ?_⟩
      have k := k H3 ((s1.trans s2).trans s3)
      exact k

def sp_given_over (cB : Addr) : Sp := fun vs H Q _ => ∃ (vb vst : V) (b : Int) (L : List Int) (st : List (Str × Int)), vs = [vb, vst, .int b] ∧ BS cB H vb vst L st ∧ ∀ H', Same H H' → Q (.int (sumS givenUp (spansOf (run L st).sps b))) H'
/-- slots of given_over: 0 book 1 standing 2 beats 3 names 4 length 5 times -/
abbrev s_given_over : Stmt := top 36
theorem sc_given_over : FnScope ["book", "standing", "beats", "names", "length", "times"] ["book", "standing", "beats"] (defScope s_given_over) := ⟨rfl, rfl, rfl, by decide +kernel, rfl, by decide +kernel, by decide +kernel⟩
theorem ok_given_over {cB cR f fi fp : Addr} {fd fdi fdp : FuncData} (T : BtT mg t1 t2) (C : RunC K cR) (F : Fun K "given_over" "given_over" s_given_over f fd) (D_Run : MK P w K mg base cR 7 "Run" ["self", "book", "standing"] (sp_Run_init cB cR) fi fdi)
    (D_Run_spans : MC P w K mg base cR 2 "spans" ["self", "beats"] (sp_spans cB cR) fp fdp) : FnOk P w K mg base CX0 9 f fd ["book", "standing", "beats"] (sp_given_over cB) := by
  refine F.ok sc_given_over (fun vs H Q E h => ?_) (fun cdv A outer s H vs Q E hr h => ?_)
  · obtain ⟨_, _, _, _, _, rfl, _⟩ := h
    rfl
  · have c_Run := C.cls
    refine ⟨_, (pss_one (ps_ret (pe_callB (kSum (K := K) rfl rfl) (by rfl) T.sum (by decide +kernel) (pa_cons (pe_lc (own := [("names", 3), ("length", 4), ("times", 5)]) (g := (gTup K 3 (gCons (gName 3) (gCons (gName 4) (gCons (gName 5) gNil))))) rfl sc_given_over.nd (pi_list (pe_m (pe_mk D_Run hr (by decide) (pa_cons (pv 0) (pa_cons (pv 1) pa_nil))) c_Run D_Run_spans hr (by decide) (pa_cons (pv 2) pa_nil))) (blkOk_by (N := ["book", "standing", "beats", "names", "length", "times"]) (sc := defScope s_given_over) (by decide +kernel)) (fun _ _ _ _ _ => (pg_tup (n := 3) rfl (pgs_cons (pg_name (i := 3) sc_given_over.nd rfl (Or.inl rfl)) (pgs_cons (pg_name (i := 4) sc_given_over.nd rfl (Or.inl rfl)) (pgs_cons (pg_name (i := 5) sc_given_over.nd rfl (Or.inl rfl)) pgs_nil))))) (fun _ _ _ _ _ => pts_nil) (fun _ _ _ _ _ => (pe_op op_mul (pe_op op_mul (pe_callB (kLen (K := K) rfl) (by rfl) T.len (by decide +kernel) (pa_cons (pv 3) pa_nil)) (pv 4)) (pv 5)))) pa_nil)))), ?_⟩
    obtain ⟨vb, vst, b, L, st, rfl, bs, k⟩ := h
    walk_at "go"
    refine mk_run bs.bk bs.tst bs.good fun R H1 s1 ro => ?_
    have ro' := ro
    obtain ⟨_, dx, pp, pq, rr, ss, vb', e, rn⟩ := ro'
    cases e
    have hR := rn.ins
    unfold fl at hR
    walk_at "go"
    refine ⟨_, b, L, run L st, rfl, ro, run_ok bs.good, lg_of bs.good, bs.good.l40, fun l zs H2 s2 hl tz => ?_⟩
    obtain ⟨hsl, hsb⟩ := spans_bd bs.good b
    generalize hsp : spansOf (run L st).sps b = sps at *
    walk_at "go"
    intro D hD
    refine lc_list tz hsl (fun x => some (.int (givenUp x))) hD (fun x v H3 Kb Kf hx s3 tx kb kf => ?_) (fun H3 acc s3 hacc tacc => ?_) hl
    · obtain ⟨pa, x1, x2, x3, rfl, hpa, t1', t2', t3'⟩ := tp_trip tx
      obtain ⟨na, rfl, hna⟩ := tp_nm t1'
      cases tp_int t2'
      cases tp_int t3'
      obtain ⟨b1, b2, b3⟩ := hsb x hx
      walk_at "go"
      refine ⟨rfl, ?_⟩
      walk_at "go"
      rw [List.length_map]
      refine x_mulL (by omega) (by omega) ?_
      walk_at "go"
      have h0 : 0 ≤ (x.1.length : Int) * x.2.1 := Int.mul_nonneg (by omega) (by omega)
      have h9 : (x.1.length : Int) * x.2.1 ≤ 40 * 1073741824 := Int.mul_le_mul (by omega) (by omega) (by omega) (by omega)
      refine x_mulL (by omega) (by omega) ?_
      exact kb _ _ _ rfl (Same.refl _) (.int _)
    · rw [fm_some] at tacc
      have e1 : sps.map (fun x => PyData.int (givenUp x)) = (sps.map givenUp).map PyData.int := by rw [List.map_map]; rfl
      rw [e1] at tacc
      have e2 := tpa_ints tacc
      subst e2
      walk_at "go"
      refine ⟨D, _, rfl, sql hacc, ?_⟩
      have k := k H3 ((s1.trans s2).trans s3)
      exact k

def sp_times_of (cB : Addr) : Sp := fun vs H Q _ => ∃ (vb vst : V) (nm : Str) (b : Int) (L : List Int) (st : List (Str × Int)), vs = [vb, vst, .str nm, .int b] ∧ BS cB H vb vst L st ∧ ∀ H', Same H H' → Q (.int (sumS (isUp nm) (spansOf (run L st).sps b))) H'
/-- slots of times_of: 0 book 1 standing 2 name 3 beats 4 names 5 length 6 times -/
abbrev s_times_of : Stmt := top 33
theorem sc_times_of : FnScope ["book", "standing", "name", "beats", "names", "length", "times"] ["book", "standing", "name", "beats"] (defScope s_times_of) := ⟨rfl, rfl, rfl, by decide +kernel, rfl, by decide +kernel, by decide +kernel⟩
theorem ok_times_of {cB cR f fi fp : Addr} {fd fdi fdp : FuncData} (T : BtT mg t1 t2) (C : RunC K cR) (F : Fun K "times_of" "times_of" s_times_of f fd) (D_Run : MK P w K mg base cR 7 "Run" ["self", "book", "standing"] (sp_Run_init cB cR) fi fdi)
    (D_Run_spans : MC P w K mg base cR 2 "spans" ["self", "beats"] (sp_spans cB cR) fp fdp) : FnOk P w K mg base CX0 9 f fd ["book", "standing", "name", "beats"] (sp_times_of cB) := by
  refine F.ok sc_times_of (fun vs H Q E h => ?_) (fun cdv A outer s H vs Q E hr h => ?_)
  · obtain ⟨_, _, _, _, _, _, rfl, _⟩ := h
    rfl
  · have c_Run := C.cls
    refine ⟨_, (pss_one (ps_ret (pe_callB (kSum (K := K) rfl rfl) (by rfl) T.sum (by decide +kernel) (pa_cons (pe_lc (own := [("names", 4), ("length", 5), ("times", 6)]) (g := (gTup K 3 (gCons (gName 4) (gCons (gName 5) (gCons (gName 6) gNil))))) rfl sc_times_of.nd (pi_list (pe_m (pe_mk D_Run hr (by decide) (pa_cons (pv 0) (pa_cons (pv 1) pa_nil))) c_Run D_Run_spans hr (by decide) (pa_cons (pv 3) pa_nil))) (blkOk_by (N := ["book", "standing", "name", "beats", "names", "length", "times"]) (sc := defScope s_times_of) (by decide +kernel)) (fun _ _ _ _ _ => (pg_tup (n := 3) rfl (pgs_cons (pg_name (i := 4) sc_times_of.nd rfl (Or.inl rfl)) (pgs_cons (pg_name (i := 5) sc_times_of.nd rfl (Or.inl rfl)) (pgs_cons (pg_name (i := 6) sc_times_of.nd rfl (Or.inl rfl)) pgs_nil))))) (fun _ _ _ _ _ => (pts_one (pt_cmpR (kIn (K := K) rfl) (pv 2) (pv 4) (by rfl)))) (fun _ _ _ _ _ => (pv 6))) pa_nil)))), ?_⟩
    obtain ⟨vb, vst, nm, b, L, st, rfl, bs, k⟩ := h
    walk_at "go"
    refine mk_run bs.bk bs.tst bs.good fun R H1 s1 ro => ?_
    have ro' := ro
    obtain ⟨_, dx, pp, pq, rr, ss, vb', e, rn⟩ := ro'
    cases e
    have hR := rn.ins
    unfold fl at hR
    walk_at "go"
    refine ⟨_, b, L, run L st, rfl, ro, run_ok bs.good, lg_of bs.good, bs.good.l40, fun l zs H2 s2 hl tz => ?_⟩
    obtain ⟨hsl, hsb⟩ := spans_bd bs.good b
    generalize hsp : spansOf (run L st).sps b = sps at *
    walk_at "go"
    intro D hD
    refine lc_list tz hsl (fun x => if (x.1.any (· == nm)) = true then some (.int x.2.2) else none) hD (fun x v H3 Kb Kf hx s3 tx kb kf => ?_) (fun H3 acc s3 hacc tacc => ?_) hl
    · obtain ⟨pa, x1, x2, x3, rfl, hpa, t1', t2', t3'⟩ := tp_trip tx
      obtain ⟨na, rfl, hna⟩ := tp_nm t1'
      cases tp_int t2'
      cases tp_int t3'
      obtain ⟨b1, b2, b3⟩ := hsb x hx
      walk_at "go"
      refine ⟨rfl, ?_⟩
      walk_at "go"
      refine x_inS hna ?_
      cases hc : x.1.any (· == nm) with
      | true =>
        walk_at "go"
        exact kb _ _ _ (by rw [hc, if_pos rfl]) (Same.refl _) (.int _)
      | false =>
        walk_at "go"
        exact kf _ (by rw [hc]; exact if_neg (by decide)) (Same.refl _)
    · rw [fm_filter (fun x : Spn => x.1.any (· == nm)) (fun x : Spn => PyData.int x.2.2)] at tacc
      have e1 : (sps.filter fun x => x.1.any (· == nm)).map (fun x => PyData.int x.2.2) = ((sps.filter fun x => x.1.any (· == nm)).map (·.2.2)).map PyData.int := by rw [List.map_map]; rfl
      rw [e1] at tacc
      have e2 := tpa_ints tacc
      subst e2
      walk_at "go"
      refine ⟨D, _, rfl, sql hacc, ?_⟩
      have k := k H3 ((s1.trans s2).trans s3)
      rw [sum_fm]
      exact k
end
end Sl

set_option Elab.async false
set_option linter.all false
set_option maxRecDepth 100000
set_option maxHeartbeats 4000000
/-! The walks: rests. -/
namespace Sl
open PySem L2
local macro_rules | `(tactic| walk_at "go1") => `(tactic| first
  | with_reducible refine x_seq ?_
  | with_reducible refine x_asg ?_
  | with_reducible refine x_name ?_
  | with_reducible refine x_ret ?_
  | with_reducible refine x_if ?_
  | ((with_reducible refine' x_var ?hv ?_); (case hv => rfl))
  | with_reducible refine x_c ?_
  | with_reducible refine' x_non ?_
  | with_reducible refine x_yes ?_
  | with_reducible refine' iteT ?_
  | with_reducible refine' iteF ?_
  | with_reducible refine x_op ?_
  | with_reducible refine x_I0 ?_
  | with_reducible refine x_test ?_
  | with_reducible refine' x_bl ?_
  | with_reducible refine x_eqI ?_
  | with_reducible refine x_neI ?_
  | with_reducible refine x_cons ?_
  | with_reducible refine x_nil ?_
  | with_reducible refine x_call ?_
  | with_reducible refine x_cb ?_
  | with_reducible refine x_par ?_
  | with_reducible refine x_par2 ?_
  | with_reducible refine x_gcons ?_
  | with_reducible refine x_gnil ?_
  | with_reducible refine x_next ?_
  | with_reducible refine x_drop ?_
  | with_reducible refine x_bm ?_
  | with_reducible refine x_fld ?_
  | with_reducible refine x_dget ?_
  | with_reducible refine x_lc ?_
  | with_reducible refine x_sfld ?_
  | with_reducible refine x_meth ?_
  | with_reducible refine x_augS ?_
  | with_reducible refine x_gsub ?_
  | with_reducible refine x_ipI ?_
  | ((with_reducible refine' x_ixLc ?ha ?hk ?_); (case ha => assumption); (case hk => rfl))
  | with_reducible refine x_lc2 ?_
  | with_reducible refine x_rng1 ?_
  | with_reducible refine x_rng2 ?_
  | with_reducible refine x_un ?_
  | with_reducible refine x_unI ?_
  | with_reducible refine x_zip ?_
  | with_reducible refine x_sl ?_
  | with_reducible refine x_nopart ?_
  | with_reducible refine x_part ?_
  | with_reducible refine' x_partI ?_
  | ((with_reducible refine' x_slL ?ha ?_); (case ha => assumption))
  | with_reducible refine' x_min2 ?_
  | with_reducible refine' x_max2 ?_
  | with_reducible refine x_lv ?_
  | with_reducible refine x_dc ?_
  | with_reducible refine x_dcT ?_
  | with_reducible refine x_iKeys ?_
  | with_reducible refine x_itemsT ?_
  | ((with_reducible refine' x_itemsTI ?ha ?_); (case ha => assumption))
  | ((with_reducible refine' x_keysK ?ha ?_); (case ha => assumption))
  | ((with_reducible refine' x_keysT ?ha ?_); (case ha => assumption))
  | with_reducible refine x_dput ?_
  | with_reducible refine x_faug ?_
  | with_reducible refine x_add ?_
  | with_reducible refine x_items ?_
  | ((with_reducible refine' x_itemsI ?ha ?_); (case ha => assumption))
  | ((with_reducible refine' x_faugI ?ha ?hc ?hn ?hl ?_); (case ha => assumption); (case hc => assumption); (case hn => assumption); (case hl => rfl))
  | with_reducible refine x_make ?_
  | with_reducible refine x_andV ?_
  | with_reducible refine x_orV ?_
  | with_reducible refine x_notV ?_
  | with_reducible refine x_chain ?_
  | with_reducible refine x_notT ?_
  | with_reducible refine x_andT ?_
  | with_reducible refine x_orT ?_
  | with_reducible refine x_tB ?_
  | with_reducible refine' iteNT ?_
  | with_reducible refine' iteNF ?_
  | with_reducible refine x_isiI ?_
  | with_reducible refine x_isiB ?_
  | ((with_reducible refine' x_isiL ?ha ?_); (case ha => assumption))
  | ((with_reducible refine' x_len ?ha ?_); (case ha => assumption))
  | ((with_reducible refine' x_lenT ?ha ?_); (case ha => assumption))
  | ((with_reducible refine' x_fldI ?ha ?hc ?hn ?hl ?_); (case ha => assumption); (case hc => assumption); (case hn => assumption); (case hl => rfl))
  | ((with_reducible refine' x_sfldI ?ha ?hc ?hn ?hl ?_); (case ha => assumption); (case hc => assumption); (case hn => assumption); (case hl => first | (with_unfolding_all decide) | (simp only [List.length_cons, List.length_nil]; omega)))
  | ((with_reducible refine' x_methI ?ha ?hl ?_); (case ha => assumption); (case hl => rfl))
  | with_reducible refine x_for ?_
  | with_reducible refine x_dset ?_
  | ((with_reducible refine' x_isD ?ha ?_); (case ha => assumption))
  | with_reducible refine x_iL ?_
  | with_reducible refine x_iT ?_
  | with_reducible refine x_dK ?_
  | with_reducible refine x_dT ?_
  | ((with_reducible refine' x_tyl ?ha ?_); (case ha => assumption))
  | ((with_reducible refine' x_lct ?ha ?_); (case ha => assumption))
  | ((with_reducible refine' x_tct ?ha ?_); (case ha => assumption))
  | ((with_reducible refine' x_gtup ?ha ?hn ?_); (case ha => assumption); (case hn => rfl))
  | ((with_reducible refine' x_ixT ?ha ?hk ?_); (case ha => assumption); (case hk => rfl))
  | (with_reducible refine x_tup ?_)
  | (with_reducible refine x_lst ?_))
local macro_rules | `(tactic| walk_at "go") => `(tactic| (repeat walk_at "go1"))
section
variable {P : Program} {w : World} {K : PySem.W.Frag} {mg : Str → Option Value} {base : Heap} {t1 t2 : Tok}
theorem go_len {L : List Int} {st : List (Str × Int)} (G : Good L st) : (goingsOf L st).length ≤ 40 := by
  unfold goingsOf
  rw [List.length_map]
  have := groups_len st
  have := len40 G
  omega
theorem go_gg {L : List Int} {st : List (Str × Int)} (G : Good L st) : ∀ g ∈ goingsOf L st, g.2 ∈ L ∧ Gg g := by
  intro g hg
  unfold goingsOf at hg
  obtain ⟨x, hx, rfl⟩ := List.mem_map.mp hg
  have h1 := groups_nz st x hx
  have h2 : x.2.length ≤ L.length := by
    have h3 := groups_tot st
    have h4 : ∀ l : List (Int × Nm), x ∈ l → x.2.length ≤ (l.map fun g => g.2.length).sum := by
      intro l
      induction l with
      | nil => intro h; simp at h
      | cons a r ih =>
        intro h
        rw [List.map_cons, List.sum_cons]
        rcases List.mem_cons.mp h with h | h
        · rw [h]; omega
        · have := ih h; omega
    have h5 := h4 _ hx
    have := G.sz
    omega
  have h6 := slp_mem (L := L) (List.length_pos_iff.mpr h1) h2
  exact ⟨h6, lg_of G _ h6⟩
def sp_goings_of (cB : Addr) : Sp := fun vs H Q _ => ∃ (vb vst : V) (L : List Int) (st : List (Str × Int)), vs = [vb, vst] ∧ Bk cB H vb L ∧ Tp H vst (stD st) ∧ Good L st ∧ ∀ l zs H', Same H H' → H' l = some (.lst zs) → TpAll H' zs ((goingsOf L st).map goD) → Q (.ref l) H'
/-- slots of goings_of: 0 book 1 standing 2 rest 3 names -/
abbrev s_goings_of : Stmt := top 41
theorem sc_goings_of : FnScope ["book", "standing", "rest", "names"] ["book", "standing"] (defScope s_goings_of) := ⟨rfl, rfl, rfl, by decide +kernel, rfl, by decide +kernel, by decide +kernel⟩
theorem ok_goings_of {cB f fg fs : Addr} {fd fdg fds : FuncData} (T : BtT mg t1 t2) (B : BkC K cB) (F : Fun K "goings_of" "goings_of" s_goings_of f fd) (D_groups_of : FC P w K mg base 1 "groups_of" ["standing"] sp_groups_of fg fdg)
    (D_Book_sleep : MC P w K mg base cB 3 "sleep" ["self", "many"] (sp_Book_sleep cB) fs fds) : FnOk P w K mg base CX0 4 f fd ["book", "standing"] (sp_goings_of cB) := by
  refine F.ok sc_goings_of (fun vs H Q E h => ?_) (fun cdv A outer s H vs Q E hr h => ?_)
  · obtain ⟨_, _, _, _, rfl, _⟩ := h
    rfl
  · have c_Book := B.cls
    refine ⟨_, (pss_one (ps_ret (pe_lc (own := [("rest", 2), ("names", 3)]) (g := (gTup K 2 (gCons (gName 2) (gCons (gName 3) gNil)))) rfl sc_goings_of.nd (pi_list (pe_f D_groups_of hr (by decide) (pa_cons (pv 1) pa_nil))) (blkOk_by (N := ["book", "standing", "rest", "names"]) (sc := defScope s_goings_of) (by decide +kernel)) (fun _ _ _ _ _ => (pg_tup (n := 2) rfl (pgs_cons (pg_name (i := 2) sc_goings_of.nd rfl (Or.inl rfl)) (pgs_cons (pg_name (i := 3) sc_goings_of.nd rfl (Or.inl rfl)) pgs_nil)))) (fun _ _ _ _ _ => pts_nil) (fun _ _ _ _ _ => (pe_tup (pa_cons (pv 2) (pa_cons (pe_m (pv 0) c_Book D_Book_sleep hr (by decide) (pa_cons (pe_callB (kLen (K := K) rfl) (by rfl) T.len (by decide +kernel) (pa_cons (pv 3) pa_nil)) pa_nil)) pa_nil))))))), ?_⟩
    obtain ⟨vb, vst, L, st, rfl, bk, tst, G, k⟩ := h
    walk_at "go"
    refine ⟨vst, st, rfl, tst, len40 G, fun gp gxs H1 s1 _ hgp tg => ?_⟩
    have hgl : (groups st).length ≤ 40 := by have := groups_len st; have := len40 G; omega
    walk_at "go"
    intro D hD
    refine lc_list tg (by omega) (fun g => some (goD (g.1, slp L g.2.length))) hD (fun g x H2 Kb Kf hg s2 tx kb kf => ?_) (fun H2 acc s2 hacc tacc => ?_) hgp
    · obtain ⟨p, q, rfl, hp, hq⟩ := tp_gr tx
      have bk2 := bk_same (s1.trans s2) bk
      have bk2' := bk2
      obtain ⟨b, bdx, r, rfl, hb, hrr⟩ := bk2'
      have hnz := groups_nz st g hg
      have hgL : g.2.length ≤ L.length := by
        have h3 := groups_tot st
        have h4 : ∀ l : List (Int × Nm), g ∈ l → g.2.length ≤ (l.map fun g => g.2.length).sum := by
          intro l
          induction l with
          | nil => intro h; simp at h
          | cons a r ih =>
            intro h
            rw [List.map_cons, List.sum_cons]
            rcases List.mem_cons.mp h with h | h
            · rw [h]; omega
            · have := ih h; omega
        have h5 := h4 _ hg
        have := G.sz
        omega
      walk_at "go"
      refine ⟨rfl, ?_⟩
      walk_at "go"
      refine ⟨_, g.2.length, L, by rw [List.length_map]; rfl, bk2, List.length_pos_iff.mpr hnz, hgL, ?_⟩
      walk_at "go"
      refine ⟨len2, fun z hz => ?_⟩
      exact kb _ _ _ rfl (same_new hz) (mk_go upd_same)
    · rw [fm_some] at tacc
      refine k D acc H2 (s1.trans s2) hacc ?_
      have e : (goingsOf L st).map goD = (groups st).map fun g => goD (g.1, slp L g.2.length) := by unfold goingsOf; rw [List.map_map]; rfl
      rw [e]
      exact tacc

theorem tpa_last {H : Hp} : ∀ {ds : List PyData} {d : PyData} {vs : List V}, TpAll H vs (ds ++ [d]) → ∃ ws v, vs = ws ++ [v] ∧ TpAll H ws ds ∧ Tp H v d
  | [], d, vs, h => by
    obtain ⟨x, r, rfl, h1, h2⟩ := tpa_cons h
    rw [tpa_nil h2]
    exact ⟨[], x, rfl, .nil, h1⟩
  | e :: ds, d, vs, h => by
    obtain ⟨x, r, rfl, h1, h2⟩ := tpa_cons h
    obtain ⟨ws, v, rfl, h3, h4⟩ := tpa_last h2
    exact ⟨x :: ws, v, rfl, .cons h1 h3, h4⟩
def sp_rest_from (cB : Addr) : Sp := fun vs H Q _ => ∃ (vb vst : V) (L : List Int) (st : List (Str × Int)), vs = [vb, vst] ∧ BS cB H vb vst L st ∧ ∀ H', Same H H' → Q (.int (restFrom L st)) H'
/-- slots of rest_from: 0 book 1 standing 2 found -/
abbrev s_rest_from : Stmt := top 44
theorem sc_rest_from : FnScope ["book", "standing", "found"] ["book", "standing"] (defScope s_rest_from) := ⟨rfl, rfl, rfl, by decide +kernel, rfl, by decide +kernel, by decide +kernel⟩
theorem ok_rest_from {cB f ff : Addr} {fd fdf : FuncData} (F : Fun K "rest_from" "rest_from" s_rest_from f fd) (D_fallings : FC P w K mg base 9 "fallings" ["book", "standing"] (sp_fallings cB) ff fdf) : FnOk P w K mg base CX0 10 f fd ["book", "standing"] (sp_rest_from cB) := by
  refine F.ok sc_rest_from (fun vs H Q E h => ?_) (fun cdv A outer s H vs Q E hr h => ?_)
  · obtain ⟨_, _, _, _, rfl, _⟩ := h
    rfl
  · refine ⟨_, (pss_cons (ps_set (i := 2) sc_rest_from.nd rfl (Or.inl rfl) (pe_f D_fallings hr (by decide) (pa_cons (pv 0) (pa_cons (pv 1) pa_nil))))
      (pss_cons (ps_if (pt_cmpR (kEqD (K := K) rfl hr.units) (pv 2) (pe_lst pa_nil) (nomark _)) (pss_one (ps_ret pe_int)) pss_nil)
      (pss_one (ps_ret (pe_ix (kIxT (K := K) rfl) (pe_ix (kIxL (K := K) rfl) (pv 2) (pe_un un_neg pe_int) (fun _ _ => rfl)) pe_int (fun _ _ => rfl)))))), ?_⟩
    obtain ⟨vb, vst, L, st, rfl, bs, k⟩ := h
    walk_at "go"
    refine ⟨vb, vst, L, st, rfl, bs, fun l zs H1 s1 hl tz => ?_⟩
    walk_at "go"
    refine ⟨len0, fun q hq => ?_⟩
    have s2 : Same H1 (upd H1 q (.lst [])) := same_new hq
    refine x_eqL0 (dp_list (s2 _ _ hl) (tpa_keep (kp_same s2) tz)) (dp_list upd_same .nil) (sh_list (sh_map sh_row _)) (by decide) ?_
    generalize upd H1 q (.lst []) = H2 at *
    have hl2 := s2 _ _ hl
    unfold restFrom at k
    rcases List.eq_nil_or_concat (run L st).rows with hrw | ⟨pre, r, hrw⟩
    · refine x_bl (b := ((run L st).rows.map rowD).isEmpty) ?_
      rw [show ((run L st).rows.map rowD).isEmpty = true by rw [hrw]; rfl]
      walk_at "go"
      have k := k H2 (s1.trans s2)
      rw [hrw] at k
      exact k
    · rw [List.concat_eq_append] at hrw
      refine x_bl (b := ((run L st).rows.map rowD).isEmpty) ?_
      rw [show ((run L st).rows.map rowD).isEmpty = false by rw [hrw]; simp]
      rw [hrw, List.map_append] at tz
      obtain ⟨ws, v, rfl, _, tv⟩ := tpa_last tz
      obtain ⟨pa, x1, x2, x3, rfl, hpa, t1', t2', t3'⟩ := tp_trip (tp_keep (kp_same s2) tv)
      cases tp_int t1'
      walk_at "go"
      refine x_ixL hl2 (atI_last _ _) ?_
      walk_at "go"
      have k := k H2 (s1.trans s2)
      rw [hrw, List.getLast?_append] at k
      exact k

def sp_shares (cB : Addr) : Sp := fun vs H Q _ => ∃ (vb vst : V) (L : List Int) (st : List (Str × Int)), vs = [vb, vst] ∧ Bk cB H vb L ∧ Tp H vst (stD st) ∧ Good L st ∧ ∀ p H', Same H H' → H' p = some (.tup [.int (shares L st).1, .int (shares L st).2]) → Q (.ref p) H'
/-- slots of shares: 0 book 1 standing 2 rest 3 length -/
abbrev s_shares : Stmt := top 45
theorem sc_shares : FnScope ["book", "standing", "rest", "length"] ["book", "standing"] (defScope s_shares) := ⟨rfl, rfl, rfl, by decide +kernel, rfl, by decide +kernel, by decide +kernel⟩
theorem ok_shares {cB f fg ff ft : Addr} {fd fdg fdf fdt : FuncData} (F : Fun K "shares" "shares" s_shares f fd) (D_goings_of : FC P w K mg base 4 "goings_of" ["book", "standing"] (sp_goings_of cB) fg fdg)
    (D_fraction : FC P w K mg base 2 "fraction" ["top", "bottom"] sp_fraction ff fdf) (D_total : FC P w K mg base 3 "total" ["fractions"] sp_total ft fdt) : FnOk P w K mg base CX0 5 f fd ["book", "standing"] (sp_shares cB) := by
  refine F.ok sc_shares (fun vs H Q E h => ?_) (fun cdv A outer s H vs Q E hr h => ?_)
  · obtain ⟨_, _, _, _, rfl, _⟩ := h
    rfl
  · refine ⟨_, (pss_one (ps_ret (pe_f D_total hr (by decide) (pa_cons (pe_lc (own := [("rest", 2), ("length", 3)]) (g := (gTup K 2 (gCons (gName 2) (gCons (gName 3) gNil)))) rfl sc_shares.nd (pi_list (pe_f D_goings_of hr (by decide) (pa_cons (pv 0) (pa_cons (pv 1) pa_nil)))) (blkOk_by (N := ["book", "standing", "rest", "length"]) (sc := defScope s_shares) (by decide +kernel)) (fun _ _ _ _ _ => (pg_tup (n := 2) rfl (pgs_cons (pg_name (i := 2) sc_shares.nd rfl (Or.inl rfl)) (pgs_cons (pg_name (i := 3) sc_shares.nd rfl (Or.inl rfl)) pgs_nil)))) (fun _ _ _ _ _ => pts_nil) (fun _ _ _ _ _ => (pe_f D_fraction hr (by decide) (pa_cons pe_int (pa_cons (pv 3) pa_nil))))) pa_nil)))), ?_⟩
    obtain ⟨vb, vst, L, st, rfl, bk, tst, G, k⟩ := h
    walk_at "go"
    refine ⟨vb, vst, L, st, rfl, bk, tst, G, fun l zs H1 s1 hl tz => ?_⟩
    have hgl := go_len G
    have hgg := go_gg G
    walk_at "go"
    intro D hD
    refine lc_list tz (by omega) (fun g => some (goD (frac 1 g.2))) hD (fun g x H2 Kb Kf hg s2 tx kb kf => ?_) (fun H2 acc s2 hacc tacc => ?_) hl
    · obtain ⟨p, rfl, hp⟩ := tp_go tx
      obtain ⟨_, g1, g2⟩ := hgg g hg
      walk_at "go"
      refine ⟨rfl, ?_⟩
      walk_at "go"
      refine ⟨1, g.2, rfl, by decide, g1, ?_, fun q H3 s3 hq => ?_⟩
      · have h1 : g.2.natAbs < 2 ^ 30 := by omega
        exact Nat.lt_of_lt_of_le h1 (Nat.pow_le_pow_right (by decide) (by decide))
      · exact kb _ _ _ rfl s3 (mk_go hq)
    · rw [fm_some] at tacc
      have e : (goingsOf L st).map (fun g => goD (frac 1 g.2)) = ((goingsOf L st).map fun g => frac 1 g.2).map goD := by rw [List.map_map]; rfl
      rw [e] at tacc
      walk_at "go"
      refine ⟨D, acc, (goingsOf L st).map fun g => frac 1 g.2, rfl, hacc, tacc, by rw [List.length_map]; omega, fun f hf => ?_, fun p H3 s3 hp => ?_⟩
      · obtain ⟨g, hg, rfl⟩ := List.mem_map.mp hf
        obtain ⟨_, g1, g2⟩ := hgg g hg
        rw [frac_one g1]
        exact ⟨rfl, g1, g2⟩
      · exact k p H3 ((s1.trans s2).trans s3) hp

def prI (p : Nat × Nat) : PyData := .tuple [.int (p.1 : Int), .int (p.2 : Int)]
def row1 (n i : Nat) : List (Nat × Nat) := (List.range' (i + 1) (n - (i + 1))).map fun j => (i, j)
theorem pairs_row (n : Nat) : pairsOf n = (List.range n).flatMap (row1 n) := rfl
theorem rows_len (n : Nat) : ∀ i, ((List.range i).flatMap (row1 n)).length ≤ i * n
  | 0 => by simp
  | i + 1 => by
    rw [List.range_succ, List.flatMap_append, List.length_append]
    have h1 := rows_len n i
    have h2 : ([i].flatMap (row1 n)).length ≤ n := by
      simp only [List.flatMap_cons, List.flatMap_nil, List.append_nil]
      unfold row1
      rw [List.length_map, List.length_range']
      omega
    rw [Nat.succ_mul]
    omega
def sp_pairs_of : Sp := fun vs H Q _ => ∃ (a : Addr) (xs : List V), vs = [.ref a] ∧ H a = some (.lst xs) ∧ xs.length ≤ 100 ∧ ∀ l zs H', Same H H' → H' l = some (.lst zs) → TpAll H' zs ((pairsOf xs.length).map prI) → Q (.ref l) H'
/-- slots of pairs_of: 0 things 1 i 2 j -/
abbrev s_pairs_of : Stmt := top 42
theorem sc_pairs_of : FnScope ["things", "i", "j"] ["things"] (defScope s_pairs_of) := ⟨rfl, rfl, rfl, by decide +kernel, rfl, by decide +kernel, by decide +kernel⟩
theorem ok_pairs_of {f : Addr} {fd : FuncData} (T : BtT mg t1 t2) (F : Fun K "pairs_of" "pairs_of" s_pairs_of f fd) : FnOk P w K mg base CX0 1 f fd ["things"] sp_pairs_of := by
  refine F.ok sc_pairs_of (fun vs H Q E h => ?_) (fun cdv A outer s H vs Q E hr h => ?_)
  · obtain ⟨_, _, rfl, _⟩ := h
    rfl
  · refine ⟨_, (pss_one (ps_ret (pe_lc2 (own := [("i", 1), ("j", 2)]) (vs1 := [2]) (g := (gName 1)) (g1 := (gName 2)) rfl sc_pairs_of.nd (pi_range1 rfl T.range (pa_cons (pe_callB (kLen (K := K) rfl) (by rfl) T.len (by decide +kernel) (pa_cons (pv 0) pa_nil)) pa_nil)) (blkOk_by (N := ["things", "i", "j"]) (sc := defScope s_pairs_of) (by decide +kernel)) (by decide) (fun _ _ _ _ _ => (pg_name (i := 1) sc_pairs_of.nd rfl (Or.inl rfl))) (fun _ _ _ _ _ => pts_nil) (fun _ _ _ _ _ => (pi_range2 rfl T.range (pa_cons (pe_op op_add (pv 1) pe_int) (pa_cons (pe_callB (kLen (K := K) rfl) (by rfl) T.len (by decide +kernel) (pa_cons (pv 0) pa_nil)) pa_nil)))) (fun _ _ _ _ _ => (pg_name (i := 2) sc_pairs_of.nd rfl (Or.inl rfl))) (fun _ _ _ _ _ => pts_nil) (fun _ _ _ _ _ => (pe_tup (pa_cons (pv 1) (pa_cons (pv 2) pa_nil))))))), ?_⟩
    obtain ⟨a, xs, rfl, ha, hsz, k⟩ := h
    walk_at "go"
    refine ⟨xs.length, rfl, by omega, by omega, fun D hD => ?_⟩
    refine ⟨fun i m H' => m = xs.length - i ∧ i ≤ xs.length ∧ Same H H' ∧ ∃ acc, H' D = some (.lst acc) ∧ TpAll H' acc (((List.range i).flatMap (row1 xs.length)).map prI), ⟨xs.length, by omega, Nat.zero_le _, same_new hD, [], upd_same, .nil⟩, ?_⟩
    rintro i m H1 ⟨rfl, hi, s1, acc, hacc, tac⟩
    by_cases hlt : i < xs.length
    · refine .inr ⟨by show i < (xs.length : Int).toNat; omega, fun H' => Same H H' ∧ ∃ acc, H' D = some (.lst acc) ∧ TpAll H' acc (((List.range (i + 1)).flatMap (row1 xs.length)).map prI), fun H' p => ⟨xs.length - (i + 1), by omega, rfl, by omega, p⟩, ?_⟩
      rintro x H2 ⟨rfl, rfl⟩
      have ha1 := s1 _ _ ha
      walk_at "go"
      refine ⟨rfl, ?_⟩
      walk_at "go"
      refine ⟨0 + (i : Int) + 1, xs.length, rfl, ⟨by omega, by omega, by omega, by omega⟩, ?_⟩
      refine ⟨fun j k H' => k = xs.length - (i + 1) - j ∧ j ≤ xs.length - (i + 1) ∧ Same H H' ∧ ∃ acc, H' D = some (.lst acc) ∧ TpAll H' acc (((List.range i).flatMap (row1 xs.length) ++ (List.range' (i + 1) j).map fun j => (i, j)).map prI), ⟨xs.length - (i + 1), by omega, Nat.zero_le _, s1, acc, hacc, by simpa using tac⟩, ?_⟩
      rintro j k' H3 ⟨rfl, hj, s3, acc3, hacc3, tac3⟩
      by_cases hlt2 : j < xs.length - (i + 1)
      · refine .inr ⟨by show j < ((xs.length : Int) - (0 + (i : Int) + 1)).toNat; omega, fun H' => Same H H' ∧ ∃ acc, H' D = some (.lst acc) ∧ TpAll H' acc (((List.range i).flatMap (row1 xs.length) ++ (List.range' (i + 1) (j + 1)).map fun j => (i, j)).map prI), fun H' p => ⟨xs.length - (i + 1) - (j + 1), by omega, rfl, by omega, p⟩, ?_⟩
        rintro x H4 ⟨rfl, rfl⟩
        walk_at "go"
        refine ⟨rfl, ?_⟩
        walk_at "go"
        refine ⟨len2, fun z hz => ?_⟩
        have s4 : Same H4 (upd H4 z (.tup [.int (0 + (i : Int)), .int (0 + (i : Int) + 1 + (j : Int))])) := same_new hz
        have hz4 : (upd H4 z (.tup [.int (0 + (i : Int)), .int (0 + (i : Int) + 1 + (j : Int))])) z = some (.tup [.int (0 + (i : Int)), .int (0 + (i : Int) + 1 + (j : Int))]) := upd_same
        generalize upd H4 z (.tup [.int (0 + (i : Int)), .int (0 + (i : Int) + 1 + (j : Int))]) = H5 at *
        have hal := data_len tac3
        have hrl := rows_len xs.length i
        have hrm : i * xs.length ≤ 100 * 100 := Nat.mul_le_mul (by omega) hsz
        refine ⟨acc3, s4 _ _ hacc3, ?_, same_mut (s3.trans s4) hD, _, upd_same, ?_⟩
        · rw [hal, List.length_append, List.length_map, List.length_range']
          exact sz100' (by omega)
        · have kp5 : Kp H5 (upd H5 D (.lst (acc3 ++ [.ref z]))) := kp_mut (s4 _ _ hacc3) (fun _ z => nomatch z)
          have er : List.range' (i + 1) (j + 1) = List.range' (i + 1) j ++ [i + 1 + j] := by rw [List.range'_concat]; simp
          rw [er]
          simp only [List.map_append] at tac3 ⊢
          rw [← List.append_assoc]
          refine tpa_app (tpa_keep (Kp.trans (kp_same s4) kp5) tac3) (tpa_one ?_)
          have e1 : (0 : Int) + (i : Int) = (i : Int) := by omega
          have e2 : (0 : Int) + (i : Int) + 1 + (j : Int) = ((i + 1 + j : Nat) : Int) := by omega
          rw [e2, e1] at hz4
          exact tp_keep kp5 (mk_pair hz4 (.int _) (.int _))
      · have ej : j = xs.length - (i + 1) := by omega
        subst ej
        refine .inl ⟨by show ((xs.length : Int) - (0 + (i : Int) + 1)).toNat ≤ _; omega, s3, acc3, hacc3, ?_⟩
        rw [List.range_succ, List.flatMap_append]
        simp only [List.flatMap_cons, List.flatMap_nil, List.append_nil]
        exact tac3
    · have e : i = xs.length := by omega
      subst e
      exact .inl ⟨by show (xs.length : Int).toNat ≤ _; omega, k D acc H1 s1 hacc tac⟩

theorem pairs_lt {n : Nat} {p : Nat × Nat} (h : p ∈ pairsOf n) : p.1 < n ∧ p.2 < n := by
  unfold pairsOf at h
  obtain ⟨i, hi, h⟩ := List.mem_flatMap.mp h
  obtain ⟨j, hj, rfl⟩ := List.mem_map.mp h
  have h1 := List.mem_range.mp hi
  have h2 := List.mem_range'.mp hj
  obtain ⟨k, hk, e⟩ := h2
  exact ⟨h1, by show j < n; omega⟩
def sp_is_at_rest (cB : Addr) : Sp := fun vs H Q _ => ∃ (vb vst : V) (L : List Int) (st : List (Str × Int)), vs = [vb, vst] ∧ Bk cB H vb L ∧ Tp H vst (stD st) ∧ Good L st ∧ ∀ H', Same H H' → Q (.bl (atRest L st)) H'
/-- slots of is_at_rest: 0 book 1 standing 2 goings 3 i 4 j -/
abbrev s_is_at_rest : Stmt := top 43
theorem sc_is_at_rest : FnScope ["book", "standing", "goings", "i", "j"] ["book", "standing"] (defScope s_is_at_rest) := ⟨rfl, rfl, rfl, by decide +kernel, rfl, by decide +kernel, by decide +kernel⟩
theorem ok_is_at_rest {cB f fg fp fq : Addr} {fd fdg fdp fdq : FuncData} (T : BtT mg t1 t2) (F : Fun K "is_at_rest" "is_at_rest" s_is_at_rest f fd) (D_goings_of : FC P w K mg base 4 "goings_of" ["book", "standing"] (sp_goings_of cB) fg fdg)
    (D_pairs_of : FC P w K mg base 1 "pairs_of" ["things"] sp_pairs_of fp fdp) (D_parting_of : FC P w K mg base 2 "parting_of" ["one", "other"] sp_parting_of fq fdq) : FnOk P w K mg base CX0 5 f fd ["book", "standing"] (sp_is_at_rest cB) := by
  refine F.ok sc_is_at_rest (fun vs H Q E h => ?_) (fun cdv A outer s H vs Q E hr h => ?_)
  · obtain ⟨_, _, _, _, rfl, _⟩ := h
    rfl
  · refine ⟨_, (pss_cons (ps_set (i := 2) sc_is_at_rest.nd rfl (Or.inr rfl) (pe_f D_goings_of hr (by decide) (pa_cons (pv 0) (pa_cons (pv 1) pa_nil))))
      (pss_one (ps_ret (pe_callB (kAll (K := K) rfl rfl) (by rfl) T.all (by decide +kernel) (pa_cons (pe_lc (own := [("i", 3), ("j", 4)]) (g := (gTup K 2 (gCons (gName 3) (gCons (gName 4) gNil)))) rfl sc_is_at_rest.nd (pi_list (pe_f D_pairs_of hr (by decide) (pa_cons (pv 2) pa_nil))) (blkOk_by (N := ["book", "standing", "goings", "i", "j"]) (sc := defScope s_is_at_rest) (by decide +kernel)) (fun _ _ _ _ _ => (pg_tup (n := 2) rfl (pgs_cons (pg_name (i := 3) sc_is_at_rest.nd rfl (Or.inl rfl)) (pgs_cons (pg_name (i := 4) sc_is_at_rest.nd rfl (Or.inl rfl)) pgs_nil)))) (fun _ _ _ _ _ => pts_nil) (fun _ _ _ _ _ => (pe_cmpR op_notN (pe_f D_parting_of hr (by decide) (pa_cons (pe_ix (kIxL (K := K) rfl) (pv 2) (pv 3) (fun _ _ => rfl)) (pa_cons (pe_ix (kIxL (K := K) rfl) (pv 2) (pv 4) (fun _ _ => rfl)) pa_nil))) pe_non (nomark _)))) pa_nil))))), ?_⟩
    obtain ⟨vb, vst, L, st, rfl, bk, tst, G, k⟩ := h
    walk_at "go"
    refine ⟨vb, vst, L, st, rfl, bk, tst, G, fun l zs H1 s1 hl tz => ?_⟩
    have hgl := go_len G
    have hgg := go_gg G
    have hlz := data_len tz
    walk_at "go"
    refine ⟨l, zs, rfl, hl, by omega, fun pl pzs H2 s2 hpl tpz => ?_⟩
    have hl2 := s2 _ _ hl
    have tz2 := tpa_keep (kp_same s2) tz
    have hpn : (pairsOf zs.length).length ≤ 100000 := by
      have := rows_len zs.length zs.length
      rw [pairs_row]
      have h2 : zs.length * zs.length ≤ 40 * 40 := Nat.mul_le_mul (by omega) (by omega)
      omega
    rw [hlz] at tpz hpn
    walk_at "go"
    intro D hD
    refine lc_list tpz hpn (fun p => some (.bool (restPair (goingsOf L st) p))) hD (fun p x H3 Kb Kf hp s3 tx kb kf => ?_) (fun H3 acc s3 hacc tacc => ?_) hpl
    · obtain ⟨pa, x1, x2, rfl, hpa, h1', h2'⟩ := tp_pair tx
      cases tp_int h1'
      cases tp_int h2'
      obtain ⟨l1, l2⟩ := pairs_lt hp
      have hl3 := s3 _ _ hl2
      have tz3 := tpa_keep (kp_same s3) tz2
      have g1 : (goingsOf L st)[p.1]? = some ((goingsOf L st)[p.1]'l1) := List.getElem?_eq_getElem l1
      have g2 : (goingsOf L st)[p.2]? = some ((goingsOf L st)[p.2]'l2) := List.getElem?_eq_getElem l2
      generalize (goingsOf L st)[p.1]'l1 = ga at g1
      generalize (goingsOf L st)[p.2]'l2 = gb at g2
      obtain ⟨va, hva, tva⟩ := tpa_at tz3 (i := p.1) (d := goD ga) (by rw [List.getElem?_map, g1]; rfl)
      obtain ⟨vb', hvb, tvb⟩ := tpa_at tz3 (i := p.2) (d := goD gb) (by rw [List.getElem?_map, g2]; rfl)
      walk_at "go"
      refine ⟨rfl, ?_⟩
      walk_at "go"
      refine x_ixL hl3 (atI_nat hva) ?_
      walk_at "go"
      refine x_ixL hl3 (atI_nat hvb) ?_
      walk_at "go"
      refine ⟨va, vb', ga, gb, rfl, tva, tvb, (hgg ga (List.mem_of_getElem? g1)).2, (hgg gb (List.mem_of_getElem? g2)).2, ?_⟩
      walk_at "go"
      rw [optV_none]
      refine kb _ _ _ ?_ (Same.refl _) (.bl _)
      unfold restPair
      rw [g1, g2]
    · rw [fm_some] at tacc
      have e1 : (pairsOf (goingsOf L st).length).map (fun p => PyData.bool (restPair (goingsOf L st) p)) = ((pairsOf (goingsOf L st).length).map (restPair (goingsOf L st))).map PyData.bool := by rw [List.map_map]; rfl
      rw [e1] at tacc
      have e2 := tpa_bools tacc
      subst e2
      walk_at "go"
      refine ⟨D, _, rfl, sql hacc, ?_⟩
      have k := k H3 ((s1.trans s2).trans s3)
      unfold atRest at k
      rw [List.all_map]
      exact k
end
end Sl

set_option Elab.async false
set_option linter.all false
set_option maxRecDepth 100000
set_option maxHeartbeats 4000000
/-! The walks: a round. -/
namespace Sl
open PySem L2
local macro_rules | `(tactic| walk_at "go1") => `(tactic| first
  | with_reducible refine x_seq ?_
  | with_reducible refine x_asg ?_
  | with_reducible refine x_name ?_
  | with_reducible refine x_ret ?_
  | with_reducible refine x_if ?_
  | ((with_reducible refine' x_var ?hv ?_); (case hv => rfl))
  | with_reducible refine x_c ?_
  | with_reducible refine' x_non ?_
  | with_reducible refine x_yes ?_
  | with_reducible refine' iteT ?_
  | with_reducible refine' iteF ?_
  | with_reducible refine x_op ?_
  | with_reducible refine x_I0 ?_
  | with_reducible refine x_test ?_
  | with_reducible refine' x_bl ?_
  | with_reducible refine x_eqI ?_
  | with_reducible refine x_neI ?_
  | with_reducible refine x_cons ?_
  | with_reducible refine x_nil ?_
  | with_reducible refine x_call ?_
  | with_reducible refine x_cb ?_
  | with_reducible refine x_par ?_
  | with_reducible refine x_par2 ?_
  | with_reducible refine x_gcons ?_
  | with_reducible refine x_gnil ?_
  | with_reducible refine x_next ?_
  | with_reducible refine x_drop ?_
  | with_reducible refine x_bm ?_
  | with_reducible refine x_fld ?_
  | with_reducible refine x_dget ?_
  | with_reducible refine x_lc ?_
  | with_reducible refine x_sfld ?_
  | with_reducible refine x_meth ?_
  | with_reducible refine x_augS ?_
  | with_reducible refine x_gsub ?_
  | with_reducible refine x_ipI ?_
  | ((with_reducible refine' x_ixLc ?ha ?hk ?_); (case ha => assumption); (case hk => rfl))
  | with_reducible refine x_lc2 ?_
  | with_reducible refine x_rng1 ?_
  | with_reducible refine x_rng2 ?_
  | with_reducible refine x_un ?_
  | with_reducible refine x_unI ?_
  | with_reducible refine x_zip ?_
  | with_reducible refine x_sl ?_
  | with_reducible refine x_nopart ?_
  | with_reducible refine x_part ?_
  | with_reducible refine' x_partI ?_
  | ((with_reducible refine' x_slL ?ha ?_); (case ha => assumption))
  | with_reducible refine' x_min2 ?_
  | with_reducible refine' x_max2 ?_
  | with_reducible refine x_lv ?_
  | with_reducible refine x_dc ?_
  | with_reducible refine x_dcT ?_
  | with_reducible refine x_iKeys ?_
  | with_reducible refine x_itemsT ?_
  | ((with_reducible refine' x_itemsTI ?ha ?_); (case ha => assumption))
  | ((with_reducible refine' x_keysK ?ha ?_); (case ha => assumption))
  | ((with_reducible refine' x_keysT ?ha ?_); (case ha => assumption))
  | with_reducible refine x_dput ?_
  | with_reducible refine x_faug ?_
  | with_reducible refine x_add ?_
  | with_reducible refine x_items ?_
  | ((with_reducible refine' x_itemsI ?ha ?_); (case ha => assumption))
  | ((with_reducible refine' x_faugI ?ha ?hc ?hn ?hl ?_); (case ha => assumption); (case hc => assumption); (case hn => assumption); (case hl => rfl))
  | with_reducible refine x_make ?_
  | with_reducible refine x_andV ?_
  | with_reducible refine x_orV ?_
  | with_reducible refine x_notV ?_
  | with_reducible refine x_chain ?_
  | with_reducible refine x_notT ?_
  | with_reducible refine x_andT ?_
  | with_reducible refine x_orT ?_
  | with_reducible refine x_tB ?_
  | with_reducible refine' iteNT ?_
  | with_reducible refine' iteNF ?_
  | with_reducible refine x_isiI ?_
  | with_reducible refine x_isiB ?_
  | ((with_reducible refine' x_isiL ?ha ?_); (case ha => assumption))
  | ((with_reducible refine' x_len ?ha ?_); (case ha => assumption))
  | ((with_reducible refine' x_lenT ?ha ?_); (case ha => assumption))
  | ((with_reducible refine' x_fldI ?ha ?hc ?hn ?hl ?_); (case ha => assumption); (case hc => assumption); (case hn => assumption); (case hl => rfl))
  | ((with_reducible refine' x_sfldI ?ha ?hc ?hn ?hl ?_); (case ha => assumption); (case hc => assumption); (case hn => assumption); (case hl => first | (with_unfolding_all decide) | (simp only [List.length_cons, List.length_nil]; omega)))
  | ((with_reducible refine' x_methI ?ha ?hl ?_); (case ha => assumption); (case hl => rfl))
  | with_reducible refine x_for ?_
  | with_reducible refine x_dset ?_
  | ((with_reducible refine' x_isD ?ha ?_); (case ha => assumption))
  | with_reducible refine x_iL ?_
  | with_reducible refine x_iT ?_
  | with_reducible refine x_dK ?_
  | with_reducible refine x_dT ?_
  | ((with_reducible refine' x_tyl ?ha ?_); (case ha => assumption))
  | ((with_reducible refine' x_lct ?ha ?_); (case ha => assumption))
  | ((with_reducible refine' x_tct ?ha ?_); (case ha => assumption))
  | ((with_reducible refine' x_gtup ?ha ?hn ?_); (case ha => assumption); (case hn => rfl))
  | ((with_reducible refine' x_ixT ?ha ?hk ?_); (case ha => assumption); (case hk => rfl))
  | (with_reducible refine x_tup ?_)
  | (with_reducible refine x_lst ?_))
local macro_rules | `(tactic| walk_at "go") => `(tactic| (repeat walk_at "go1"))
section
variable {P : Program} {w : World} {K : PySem.W.Frag} {mg : Str → Option Value} {base : Heap} {t1 t2 : Tok}
theorem good_far {L : List Int} {st : List (Str × Int)} (G : Good L st) (h : ∀ e ∈ st, 0 ≤ e.2) {b : Int} (hb : 0 ≤ b) : Good L (far L st b) := by
  have hl := far_len (k := 1) (by decide) G h hb
  exact ⟨G.l1, G.l40, G.pos, G.top, by rw [hl]; exact G.sz⟩
def sp_round_of (cB : Addr) : Sp := fun vs H Q _ => ∃ (vb vst : V) (L : List Int) (st : List (Str × Int)), vs = [vb, vst] ∧ BS cB H vb vst L st ∧ ∀ p H', Same H H' → H' p = some (.tup [.int (roundOf L st).1, .int (roundOf L st).2]) → Q (.ref p) H'
/-- slots of round_of: 0 book 1 standing 2 lead 3 length 4 late 5 rest 6 sleep -/
abbrev s_round_of : Stmt := top 46
theorem sc_round_of : FnScope ["book", "standing", "lead", "length", "late", "rest", "sleep"] ["book", "standing"] (defScope s_round_of) := ⟨rfl, rfl, rfl, by decide +kernel, rfl, by decide +kernel, by decide +kernel⟩
theorem ok_round_of {cB f fr ff fg fm : Addr} {fd fdr fdf fdg fdm : FuncData} (T : BtT mg t1 t2) (F : Fun K "round_of" "round_of" s_round_of f fd) (D_rest_from : FC P w K mg base 10 "rest_from" ["book", "standing"] (sp_rest_from cB) fr fdr)
    (D_far : FC P w K mg base 9 "far" ["book", "standing", "beats"] (sp_far cB) ff fdf) (D_goings_of : FC P w K mg base 4 "goings_of" ["book", "standing"] (sp_goings_of cB) fg fdg) (D_multiple : FC P w K mg base 2 "multiple" ["one", "other"] sp_multiple fm fdm) : FnOk P w K mg base CX0 11 f fd ["book", "standing"] (sp_round_of cB) := by
  refine F.ok sc_round_of (fun vs H Q E h => ?_) (fun cdv A outer s H vs Q E hr h => ?_)
  · obtain ⟨_, _, _, _, rfl, _⟩ := h
    rfl
  · refine ⟨_, (pss_cons (ps_set (i := 2) sc_round_of.nd rfl (Or.inl rfl) (pe_f D_rest_from hr (by decide) (pa_cons (pv 0) (pa_cons (pv 1) pa_nil))))
      (pss_cons (ps_set (i := 3) sc_round_of.nd rfl (Or.inl rfl) pe_int)
      (pss_cons (ps_set (i := 4) sc_round_of.nd rfl (Or.inl rfl) pe_int)
      (pss_cons (ps_for PassesOwn.never rfl (pi_list (pe_f D_goings_of hr (by decide) (pa_cons (pv 0) (pa_cons (pe_f D_far hr (by decide) (pa_cons (pv 0) (pa_cons (pv 1) (pa_cons (pv 2) pa_nil)))) pa_nil)))) (pg_tup (n := 2) rfl (pgs_cons (pg_name (i := 5) sc_round_of.nd rfl (Or.inl rfl)) (pgs_cons (pg_name (i := 6) sc_round_of.nd rfl (Or.inl rfl)) pgs_nil))) (pss_cons (ps_set (i := 4) sc_round_of.nd rfl (Or.inl rfl) (pe_callB (kMax2 rfl) (by rfl) T.max (by decide +kernel) (pa_cons (pv 4) (pa_cons (pe_op op_sub (pv 5) (pv 6)) pa_nil))))
      (pss_one (ps_set (i := 3) sc_round_of.nd rfl (Or.inl rfl) (pe_f D_multiple hr (by decide) (pa_cons (pv 3) (pa_cons (pv 6) pa_nil)))))))
      (pss_one (ps_ret (pe_tup (pa_cons (pe_op op_add (pv 2) (pv 4)) (pa_cons (pv 3) pa_nil))))))))), ?_⟩
    obtain ⟨vb, vst, L, st, rfl, bs, k⟩ := h
    walk_at "go"
    refine ⟨vb, vst, L, st, rfl, bs, fun H1 s1 => ?_⟩
    have h0 := restFrom_nn (k := 1) (by decide) bs.good bs.nn
    have bs1 := bs_same s1 bs
    walk_at "go"
    refine ⟨vb, vst, restFrom L st, L, st, rfl, bs1, h0, fun fv H2 s2 tf => ?_⟩
    have G2 := good_far bs.good bs.nn h0
    walk_at "go"
    refine ⟨vb, fv, L, far L st (restFrom L st), rfl, bk_same s2 bs1.bk, tf, G2, fun l zs H3 s3 hl tz => ?_⟩
    have hgg := go_gg G2
    have hrd : roundOf L st = (restFrom L st + ((goingsOf L (far L st (restFrom L st))).foldl rdStep (0, 1)).1, ((goingsOf L (far L st (restFrom L st))).foldl rdStep (0, 1)).2) := rfl
    generalize goingsOf L (far L st (restFrom L st)) = gs at *
    walk_at "go"
    refine for_list tz (fun i σ H' => (∃ u v, σ = [some vb, some vst, some (.int (restFrom L st)), some (.int ((gs.take i).foldl rdStep (0, 1)).2), some (.int ((gs.take i).foldl rdStep (0, 1)).1), u, v]) ∧ H' = H3 ∧ 0 < ((gs.take i).foldl rdStep (0, 1)).2)
      ⟨⟨_, _, rfl⟩, rfl, by show (0 : Int) < 1; decide⟩ (fun i g x σ H4 hg ⟨⟨u, v, es⟩, eh, hp⟩ tx => ?_) (fun σ H4 ⟨⟨u, v, es⟩, eh, hp⟩ => ?_) hl (fun i σ H4 ⟨_, eh, _⟩ => by subst eh; exact ⟨hl, Kp.refl _⟩)
    · subst es
      subst eh
      obtain ⟨p, rfl, hpx⟩ := tp_go tx
      obtain ⟨_, g1, g2⟩ := hgg g (List.mem_of_getElem? hg)
      walk_at "go"
      refine ⟨_, g.2, rfl, hp, g1, g2, ?_⟩
      have e : (gs.take (i + 1)).foldl rdStep (0, 1) = rdStep ((gs.take i).foldl rdStep (0, 1)) g := by rw [take_snoc hg, List.foldl_append]; rfl
      rw [e]
      exact ⟨⟨_, _, rfl⟩, rfl, mult_pos hp g1⟩
    · subst es
      subst eh
      rw [List.take_length]
      walk_at "go"
      refine ⟨len2, fun z hz => ?_⟩
      refine k z _ (((s1.trans s2).trans s3).trans (same_new hz)) ?_
      rw [upd_same, hrd]
end
end Sl

set_option Elab.async false
set_option linter.all false
set_option maxRecDepth 100000
set_option maxHeartbeats 4000000
/-! The walks: the law's bag. -/
namespace Sl
open PySem L2
local macro_rules | `(tactic| walk_at "go1") => `(tactic| first
  | with_reducible refine x_seq ?_
  | with_reducible refine x_asg ?_
  | with_reducible refine x_name ?_
  | with_reducible refine x_ret ?_
  | with_reducible refine x_if ?_
  | ((with_reducible refine' x_var ?hv ?_); (case hv => rfl))
  | with_reducible refine x_c ?_
  | with_reducible refine' x_non ?_
  | with_reducible refine x_yes ?_
  | with_reducible refine' iteT ?_
  | with_reducible refine' iteF ?_
  | with_reducible refine x_op ?_
  | with_reducible refine x_I0 ?_
  | with_reducible refine x_test ?_
  | with_reducible refine' x_bl ?_
  | with_reducible refine x_eqI ?_
  | with_reducible refine x_neI ?_
  | with_reducible refine x_cons ?_
  | with_reducible refine x_nil ?_
  | with_reducible refine x_call ?_
  | with_reducible refine x_cb ?_
  | with_reducible refine x_par ?_
  | with_reducible refine x_par2 ?_
  | with_reducible refine x_gcons ?_
  | with_reducible refine x_gnil ?_
  | with_reducible refine x_next ?_
  | with_reducible refine x_drop ?_
  | with_reducible refine x_bm ?_
  | with_reducible refine x_fld ?_
  | with_reducible refine x_dget ?_
  | with_reducible refine x_lc ?_
  | with_reducible refine x_sfld ?_
  | with_reducible refine x_meth ?_
  | with_reducible refine x_augS ?_
  | with_reducible refine x_gsub ?_
  | with_reducible refine x_ipI ?_
  | ((with_reducible refine' x_ixLc ?ha ?hk ?_); (case ha => assumption); (case hk => rfl))
  | with_reducible refine x_lc2 ?_
  | with_reducible refine x_rng1 ?_
  | with_reducible refine x_rng2 ?_
  | with_reducible refine x_un ?_
  | with_reducible refine x_unI ?_
  | with_reducible refine x_zip ?_
  | with_reducible refine x_sl ?_
  | with_reducible refine x_nopart ?_
  | with_reducible refine x_part ?_
  | with_reducible refine' x_partI ?_
  | ((with_reducible refine' x_slL ?ha ?_); (case ha => assumption))
  | with_reducible refine' x_min2 ?_
  | with_reducible refine' x_max2 ?_
  | with_reducible refine x_lv ?_
  | with_reducible refine x_dc ?_
  | with_reducible refine x_dcT ?_
  | with_reducible refine x_iKeys ?_
  | with_reducible refine x_itemsT ?_
  | ((with_reducible refine' x_itemsTI ?ha ?_); (case ha => assumption))
  | ((with_reducible refine' x_keysK ?ha ?_); (case ha => assumption))
  | ((with_reducible refine' x_keysT ?ha ?_); (case ha => assumption))
  | with_reducible refine x_dput ?_
  | with_reducible refine x_faug ?_
  | with_reducible refine x_add ?_
  | with_reducible refine x_items ?_
  | ((with_reducible refine' x_itemsI ?ha ?_); (case ha => assumption))
  | ((with_reducible refine' x_faugI ?ha ?hc ?hn ?hl ?_); (case ha => assumption); (case hc => assumption); (case hn => assumption); (case hl => rfl))
  | with_reducible refine x_make ?_
  | with_reducible refine x_andV ?_
  | with_reducible refine x_orV ?_
  | with_reducible refine x_notV ?_
  | with_reducible refine x_chain ?_
  | with_reducible refine x_notT ?_
  | with_reducible refine x_andT ?_
  | with_reducible refine x_orT ?_
  | with_reducible refine x_tB ?_
  | with_reducible refine' iteNT ?_
  | with_reducible refine' iteNF ?_
  | with_reducible refine x_isiI ?_
  | with_reducible refine x_isiB ?_
  | ((with_reducible refine' x_isiL ?ha ?_); (case ha => assumption))
  | ((with_reducible refine' x_len ?ha ?_); (case ha => assumption))
  | ((with_reducible refine' x_lenT ?ha ?_); (case ha => assumption))
  | ((with_reducible refine' x_fldI ?ha ?hc ?hn ?hl ?_); (case ha => assumption); (case hc => assumption); (case hn => assumption); (case hl => rfl))
  | ((with_reducible refine' x_sfldI ?ha ?hc ?hn ?hl ?_); (case ha => assumption); (case hc => assumption); (case hn => assumption); (case hl => first | (with_unfolding_all decide) | (simp only [List.length_cons, List.length_nil]; omega)))
  | ((with_reducible refine' x_methI ?ha ?hl ?_); (case ha => assumption); (case hl => rfl))
  | with_reducible refine x_for ?_
  | with_reducible refine x_dset ?_
  | ((with_reducible refine' x_isD ?ha ?_); (case ha => assumption))
  | with_reducible refine x_iL ?_
  | with_reducible refine x_iT ?_
  | with_reducible refine x_dK ?_
  | with_reducible refine x_dT ?_
  | ((with_reducible refine' x_tyl ?ha ?_); (case ha => assumption))
  | ((with_reducible refine' x_lct ?ha ?_); (case ha => assumption))
  | ((with_reducible refine' x_tct ?ha ?_); (case ha => assumption))
  | ((with_reducible refine' x_gtup ?ha ?hn ?_); (case ha => assumption); (case hn => rfl))
  | ((with_reducible refine' x_ixT ?ha ?hk ?_); (case ha => assumption); (case hk => rfl))
  | (with_reducible refine x_tup ?_)
  | (with_reducible refine x_lst ?_))
local macro_rules | `(tactic| walk_at "go") => `(tactic| (repeat walk_at "go1"))
section
variable {P : Program} {w : World} {K : PySem.W.Frag} {mg : Str → Option Value} {base : Heap} {t1 t2 : Tok}
structure Bag (a c : Addr) (H : Hp) (b0 b1 b2 : Int) (cells : List Int) : Prop where
  hl : H a = some (.lst [.int b0, .int b1, .int b2, .ref c])
  hc : H c = some (.lst (cells.map V.int))
  ne : a ≠ c
  p0 : 0 ≤ b0
  p1 : 0 ≤ b1
  p2 : 0 ≤ b2
  pc : ∀ x ∈ cells, 0 ≤ x
def BagO (a c : Addr) (H : Hp) : Prop := ∃ b0 b1 b2 cells, Bag a c H b0 b1 b2 cells
def sp_law_take : Sp := fun vs H Q _ => ∃ (a c : Addr) (m : Int), vs = [.ref a, .int m] ∧ BagO a c H ∧ 0 < m ∧ m.natAbs < 2 ^ 128 ∧ ∀ v H', 0 ≤ v → v < m → SX [a] H H' → BagO a c H' → Q (.int v) H'
/-- slots of _law_take: 0 _law_bag_here 1 _law_many 2 _law_cell 3 _law_value 4 _law_first 5 _law_second -/
abbrev s_law_take : Stmt := top 49
theorem sc_law_take : FnScope ["_law_bag_here", "_law_many", "_law_cell", "_law_value", "_law_first", "_law_second"] ["_law_bag_here", "_law_many"] (defScope s_law_take) := ⟨rfl, rfl, rfl, by decide +kernel, rfl, by decide +kernel, by decide +kernel⟩
theorem ok_law_take {f : Addr} {fd : FuncData} (T : BtT mg t1 t2) (F : Fun K "_law_take" "_law_take" s_law_take f fd) : FnOk P w K mg base CX0 1 f fd ["_law_bag_here", "_law_many"] sp_law_take := by
  refine F.ok sc_law_take (fun vs H Q E h => ?_) (fun cdv A outer s H vs Q E hr h => ?_)
  · obtain ⟨_, _, _, rfl, _⟩ := h
    rfl
  · refine ⟨_, (pss_cons (ps_if (pt_cmpR op_eq (pe_ix (kIxL (K := K) rfl) (pv 0) pe_int (fun _ _ => rfl)) pe_int (nomark _)) (pss_cons (ps_set (i := 2) sc_law_take.nd rfl (Or.inl rfl) pe_int)
      (pss_cons (ps_if (pt_cmpR op_lt (pe_ix (kIxL (K := K) rfl) (pv 0) pe_int (fun _ _ => rfl)) (pe_callB (kLen (K := K) rfl) (by rfl) T.len (by decide +kernel) (pa_cons (pe_ix (kIxL (K := K) rfl) (pv 0) pe_int (fun _ _ => rfl)) pa_nil)) (nomark _)) (pss_one (ps_set (i := 2) sc_law_take.nd rfl (Or.inl rfl) (pe_ix (kIxL (K := K) rfl) (pe_ix (kIxL (K := K) rfl) (pv 0) pe_int (fun _ _ => rfl)) (pe_ix (kIxL (K := K) rfl) (pv 0) pe_int (fun _ _ => rfl)) (fun _ _ => rfl)))) pss_nil)
      (pss_cons (ps_augS (pv 0) pe_int (pget_listK (K := K) rfl) pe_int ip_add set_list)
      (pss_cons (ps_if (pt_cmpR op_ge (pv 2) pe_int (nomark _)) (pss_one (ps_asg (pv 2) (pg_sub (pv 0) pe_int set_list))) pss_nil)
      (pss_one (ps_asg (pe_op op_modN (pe_op op_add (pe_op op_add (pe_op op_mul (pe_ix (kIxL (K := K) rfl) (pv 0) pe_int (fun _ _ => rfl)) pe_int) (pe_op op_modN (pv 2) pe_int)) (pe_op op_mul pe_int (pe_ix (kIxL (K := K) rfl) (pv 0) pe_int (fun _ _ => rfl)))) pe_int) (pg_sub (pv 0) pe_int set_list))))))) pss_nil)
      (pss_cons (ps_if (pt_cmpR op_gt (pe_ix (kIxL (K := K) rfl) (pv 0) pe_int (fun _ _ => rfl)) pe_int (nomark _)) (pss_cons (ps_set (i := 3) sc_law_take.nd rfl (Or.inl rfl) (pe_op op_modN (pe_ix (kIxL (K := K) rfl) (pv 0) pe_int (fun _ _ => rfl)) (pv 1)))
      (pss_cons (ps_asg (pe_op op_fdivW (pe_ix (kIxL (K := K) rfl) (pv 0) pe_int (fun _ _ => rfl)) (pv 1)) (pg_sub (pv 0) pe_int set_list))
      (pss_one (ps_ret (pv 3))))) pss_nil)
      (pss_cons (ps_set (i := 4) sc_law_take.nd rfl (Or.inl rfl) (pe_op op_modN (pe_op op_mul (pe_op op_add (pe_ix (kIxL (K := K) rfl) (pv 0) pe_int (fun _ _ => rfl)) pe_int) pe_int) pe_int))
      (pss_cons (ps_set (i := 5) sc_law_take.nd rfl (Or.inl rfl) (pe_op op_modN (pe_op op_mul (pe_op op_modN (pe_op op_mul (pv 4) (pv 4)) pe_int) pe_int) pe_int))
      (pss_cons (ps_if (pt_cmpR op_gt (pv 1) pe_int (nomark _)) (pss_one (ps_ret (pe_op op_modN (pe_op op_add (pe_op op_mul (pv 5) pe_int) (pv 4)) (pv 1)))) pss_nil)
      (pss_one (ps_ret (pe_op op_modN (pe_op op_fdivN (pv 5) pe_int) (pv 1))))))))), ?_⟩
    obtain ⟨a, c, m, rfl, ⟨b0, b1, b2, cells, bag⟩, hm, hm2, k⟩ := h
    with_reducible refine' x_seqM ?M ?ha ?hb
    case M => exact (fun σ' H' => ∃ u, σ' = [some (.ref a), some (.int m), u, none, none, none] ∧ SX [a] H H' ∧ BagO a c H')
    · intro N hN
      have hl := bag.hl
      have hc := bag.hc
      walk_at "go"
      refine x_dec (fun c0 => ?_) (fun c0 => ?_)
      · with_reducible refine x_seq ?_
        with_reducible refine x_asg ?_
        with_reducible refine x_c ?_
        with_reducible refine x_name ?_
        with_reducible refine' x_seqM ?M2 ?ha2 ?hb2
        case M2 => exact (fun σ' H' => ∃ cell : Int, 0 ≤ cell ∧ σ' = [some (.ref a), some (.int m), some (.int cell), none, none, none] ∧ H' = H)
        · intro N2 hN2
          walk_at "go"
          rw [List.length_map]
          refine x_dec (fun c1 => ?_) (fun c1 => ?_)
          · walk_at "go"
            have p2 := bag.p2
            have hb : b2.toNat < cells.length := by omega
            have hat : atI (cells.map V.int) b2 = some (.int (cells[b2.toNat]'hb)) := by
              have h1 : atI (cells.map V.int) ((b2.toNat : Nat) : Int) = some (.int (cells[b2.toNat]'hb)) := by
                refine atI_nat ?_
                rw [List.getElem?_map, List.getElem?_eq_getElem hb]
                rfl
              rwa [Int.toNat_of_nonneg p2] at h1
            refine x_ixL hc hat ?_
            walk_at "go"
            exact hN2 _ _ ⟨_, bag.pc _ (List.getElem_mem hb), rfl, rfl⟩
          · walk_at "go"
            exact hN2 _ _ ⟨0, by decide, rfl, rfl⟩
        · rintro σ2 H2 ⟨cell, hcell, rfl, rfl⟩
          walk_at "go"
          refine x_getL (i := 2) hl rfl ?_
          walk_at "go"
          refine x_setL (j := 2) hl rfl ?_
          have sx3 : SX [a] H2 (upd H2 a (.lst ([.int b0, .int b1, .int b2, .ref c].set 2 (.int (b2 + 1))))) := sx_mut (by simp)
          have hl3 : (upd H2 a (.lst ([.int b0, .int b1, .int b2, .ref c].set 2 (.int (b2 + 1))))) a = some (.lst [.int b0, .int b1, .int (b2 + 1), .ref c]) := upd_same
          generalize upd H2 a (.lst ([.int b0, .int b1, .int b2, .ref c].set 2 (.int (b2 + 1)))) = H3 at *
          with_reducible refine' x_seqM ?M3 ?ha3 ?hb3
          case M3 => exact (fun σ' H' => ∃ b0' : Int, 0 ≤ b0' ∧ σ' = [some (.ref a), some (.int m), some (.int cell), none, none, none] ∧ SX [a] H2 H' ∧ H' a = some (.lst [.int b0', .int b1, .int (b2 + 1), .ref c]))
          · intro N3 hN3
            walk_at "go"
            refine x_dec (fun c2 => ?_) (fun c2 => ?_)
            · walk_at "go"
              refine x_setL (j := 0) hl3 rfl ?_
              exact hN3 _ _ ⟨cell, hcell, rfl, sx3.mut (by simp), upd_same⟩
            · walk_at "go"
              exact hN3 _ _ ⟨b0, bag.p0, rfl, sx3, hl3⟩
          · rintro σ4 H4 ⟨b0', hb0, rfl, sx4, hl4⟩
            have p1 := bag.p1
            have p2 := bag.p2
            walk_at "go"
            refine x_mulR (by omega) (by omega) ?_
            walk_at "go"
            refine x_mod (by decide) ?_
            walk_at "go"
            refine x_mulL (by omega) (by omega) ?_
            walk_at "go"
            refine x_mod (by decide) ?_
            walk_at "go"
            refine x_setL (j := 1) hl4 rfl ?_
            have sx5 : SX [a] H2 (upd H4 a (.lst ([.int b0', .int b1, .int (b2 + 1), .ref c].set 1 (.int ((b1 * 48271 + cell % 2147483647 + 7919 * (b2 + 1)) % 2147483647))))) := sx4.mut (by simp)
            refine hN _ _ ⟨_, rfl, sx5, b0', _, b2 + 1, cells, upd_same, ?_, bag.ne, hb0, Int.emod_nonneg _ (by decide), by omega, bag.pc⟩
            exact sx5 _ _ (by simp; exact fun z => bag.ne z.symm) hc
      · walk_at "go"
        exact hN _ _ ⟨_, rfl, SX.refl _ _, b0, b1, b2, cells, bag⟩
    · rintro σ2 H2 ⟨u, rfl, sx, b0', b1', b2', cells', bag'⟩
      have hl := bag'.hl
      have hc := bag'.hc
      have p0 := bag'.p0
      have p1 := bag'.p1
      walk_at "go"
      refine x_dec (fun c0 => ?_) (fun c0 => ?_)
      · walk_at "go"
        refine x_mod hm ?_
        walk_at "go"
        refine x_divW hm (n := 128) (by decide) (by decide) hm2 ?_
        walk_at "go"
        refine x_setL (j := 0) hl rfl ?_
        walk_at "go"
        have sx5 : SX [a] H (upd H2 a (.lst ([.int b0', .int b1', .int b2', .ref c].set 0 (.int (b0' / m))))) := sx.mut (by simp)
        refine k (b0' % m) _ (Int.emod_nonneg _ (Int.ne_of_gt hm)) (Int.emod_lt_of_pos _ hm) sx5 ⟨b0' / m, b1', b2', cells', upd_same, ?_, bag'.ne, Int.ediv_nonneg p0 (Int.le_of_lt hm), p1, bag'.p2, bag'.pc⟩
        rw [upd_ne (fun z => bag'.ne z.symm)]
        exact hc
      · have hk : ∀ v : Int, 0 ≤ v → v < m → Q (.int v) H2 := fun v h1 h2 => k v H2 h1 h2 sx ⟨b0', b1', b2', cells', bag'⟩
        walk_at "go"
        refine x_mulR (by omega) (by omega) ?_
        walk_at "go"
        refine x_mod (by decide) ?_
        walk_at "go"
        have f1 : 0 ≤ (b1' + 1) * 39373 % 1000000007 := Int.emod_nonneg _ (by decide)
        have f2 : (b1' + 1) * 39373 % 1000000007 < 1000000007 := Int.emod_lt_of_pos _ (by decide)
        generalize (b1' + 1) * 39373 % 1000000007 = fi at *
        refine x_mulL (by omega) (by omega) ?_
        walk_at "go"
        refine x_mod (by decide) ?_
        walk_at "go"
        refine x_mulR (by omega) (by omega) ?_
        walk_at "go"
        refine x_mod (by decide) ?_
        walk_at "go"
        have g1 : 0 ≤ fi * fi % 998244353 * 30011 % 998244353 := Int.emod_nonneg _ (by decide)
        generalize fi * fi % 998244353 * 30011 % 998244353 = se at *
        refine x_dec (fun c1 => ?_) (fun c1 => ?_)
        · walk_at "go"
          refine x_mulR (by omega) (by omega) ?_
          walk_at "go"
          refine x_mod hm ?_
          exact hk _ (Int.emod_nonneg _ (Int.ne_of_gt hm)) (Int.emod_lt_of_pos _ hm)
        · walk_at "go"
          refine x_div (by decide) (by decide) ?_
          walk_at "go"
          refine x_mod hm ?_
          exact hk _ (Int.emod_nonneg _ (Int.ne_of_gt hm)) (Int.emod_lt_of_pos _ hm)
end
end Sl

set_option Elab.async false
set_option linter.all false
set_option maxRecDepth 100000
set_option maxHeartbeats 4000000
/-! Steps that the law's own defs ask. -/
namespace Sl
open PySem L2
section
variable {σ : L2.St} {H H' : Hp} {Q : VK} {D : Ends} {te : TE} {K : PySem.W.Frag} {a p : Addr} {o : HO}
def rAddT : R2 := fun x y H Q => ∃ i j, x = .str i ∧ y = .str j ∧ i.length + j.length ≤ sizeLine ∧ Q (.str (i ++ j)) H
theorem kAddT {X : Cx} : OpR X (binaryOp .Add) rAddT := op_add_str
theorem x_addT {i j : Str} (hz : i.length + j.length ≤ sizeLine) (h : Q (.str (i ++ j)) H) : rAddT (.str i) (.str j) H Q := ⟨i, j, rfl, rfl, hz, h⟩
theorem len_app (i j : Str) : (i ++ j).length = i.length + j.length := by
  show (i.cps ++ j.cps).size = _
  rw [Array.size_append]
  rfl
abbrev abc : Str := "abcdefghijklmnopqrstuvwxyz"
theorem abc_len : abc.cps.toList.length = 26 := by decide +kernel
theorem x_abc {i : Int} (h0 : 0 ≤ i) (h1 : i < 26) (h : ∀ z : Str, z.length = 1 → Q (.str z) H) : rIxS (.str abc) (.int i) H Q := by
  have hl : i.toNat < abc.cps.toList.length := by rw [abc_len]; omega
  refine ⟨abc, i, abc.cps.toList[i.toNat]'hl, rfl, rfl, ?_, ?_, h _ rfl⟩
  · have : abc.length = 26 := by decide +kernel
    rw [this]
    exact sz100 (by decide)
  · have e := atI_nat (xs := abc.cps.toList) (j := i.toNat) (List.getElem?_eq_getElem hl)
    rwa [Int.toNat_of_nonneg h0] at e
theorem x_mulS {z : Str} {k : Int} (hz : z.length ≤ 16) (h0 : 0 ≤ k) (h1 : k ≤ 1000) (h : ∀ z' : Str, (z'.length : Int) = z.length * k → Q (.str z') H) : rMulS (.str z) (.int k) H Q := ⟨z, k, rfl, rfl, hz, h0, h1, h⟩
def rAbs : List V → Hp → VK → Prop := fun xs H Q => ∃ i, xs = [V.int i] ∧ Q (.int (if i < 0 then -i else i)) H
theorem kAbs {X : Cx} : CallR X (.builtin "abs") rAbs := call_abs
theorem x_absI {i : Int} (h : ∀ j, 0 ≤ j → Q (.int j) H) : rAbs [.int i] H Q := ⟨i, rfl, h _ (by split <;> omega)⟩
def rLenD : List V → Hp → VK → Prop := fun xs H Q => ∃ a kvs, xs = [V.ref a] ∧ H a = some (.dK kvs) ∧ Q (.int kvs.length) H
theorem kLenD {X : Cx} : CallR X (.builtin "len") rLenD := call_lenD
theorem x_lenD {kvs : List (Key × V)} (ha : H a = some (.dK kvs)) (h : Q (.int kvs.length) H) : rLenD [.ref a] H Q := ⟨a, kvs, rfl, ha, h⟩
def rSortDS : List V → Hp → VK → Prop := fun xs H Q => ∃ (a : Addr) (kvs : List (Key × V)) (ks : List Str), xs = [.ref a] ∧ Rd H a (.dK kvs) ∧ kvs.map (·.1) = ks.map Sum.inr ∧ ks.length < 64 ∧
    ∀ ys p, ys.Perm ks → PyProof.Rows.sortedS ys = true → H p = none → Q (.ref p) (upd H p (.lst (ys.map V.str)))
theorem kSortDS {X : Cx} (hc : X.calm = true) : CallR X (.builtin "sorted") rSortDS := call_sortedD hc
def rInt1 : List V → Hp → VK → Prop := fun xs H Q => (∃ i, xs = [V.int i] ∧ Q (.int i) H) ∨ ∃ k, xs = [V.bl k] ∧ Q (.int (if k then 1 else 0)) H
theorem kInt1 {X : Cx} : CallR X (.type "int") rInt1 := call_int1
theorem x_intB {k : Bool} (h : Q (.int (if k then 1 else 0)) H) : rInt1 [.bl k] H Q := .inr ⟨k, rfl, h⟩
/-- an item of a list of numbers that stand between two -/
theorem x_pick {xs : List Int} {lo hi k : Int} (ha : H a = some (.lst (xs.map V.int))) (h0 : 0 ≤ k) (h1 : k < xs.length) (hb : ∀ x ∈ xs, lo ≤ x ∧ x ≤ hi) (h : ∀ x, lo ≤ x → x ≤ hi → Q (.int x) H) : rIxL K (.ref a) (.int k) H Q := by
  have hl : k.toNat < xs.length := by omega
  have hx := hb _ (List.getElem_mem hl)
  refine ⟨a, _, k, _, rfl, rfl, sql ha, ?_, h (xs[k.toNat]'hl) hx.1 hx.2⟩
  have e := atI_nat (xs := xs.map V.int) (j := k.toNat) (v := .int (xs[k.toNat]'hl)) (by rw [List.getElem?_map, List.getElem?_eq_getElem hl]; rfl)
  rwa [Int.toNat_of_nonneg h0] at e
theorem x_take {E : XK} {m : Int} {c : Addr} (bag : BagO a c H) (hm : 0 < m) (hm2 : m < 2 ^ 127) (k : ∀ v H', 0 ≤ v → v < m → SX [a] H H' → BagO a c H' → Q (.int v) H') : sp_law_take ([.ref a, .int m] ++ []) H Q E := ⟨a, c, m, rfl, bag, hm, by omega, k⟩
theorem bag_same {c : Addr} (s : Same H H') (b : BagO a c H) : BagO a c H' := by
  obtain ⟨b0, b1, b2, cells, b⟩ := b
  exact ⟨b0, b1, b2, cells, s _ _ b.hl, s _ _ b.hc, b.ne, b.p0, b.p1, b.p2, b.pc⟩
theorem bag_lst {c : Addr} (b : BagO a c H) : (∃ xs, H a = some (.lst xs)) ∧ ∃ xs, H c = some (.lst xs) := by
  obtain ⟨b0, b1, b2, cells, b⟩ := b
  exact ⟨⟨_, b.hl⟩, _, b.hc⟩
/-- a new address is none of the bag's -/
theorem bag_fresh {c : Addr} (b : BagO a c H) (h : H p = none) : a ≠ p ∧ c ≠ p := by
  obtain ⟨⟨xs, h1⟩, ys, h2⟩ := bag_lst b
  exact ⟨ne_of_none h1 h, ne_of_none h2 h⟩
theorem bag_mut {c : Addr} (b : BagO a c H) (h : a ≠ p ∧ c ≠ p) : BagO a c (upd H p o) := by
  obtain ⟨b0, b1, b2, cells, b⟩ := b
  exact ⟨b0, b1, b2, cells, by rw [upd_ne h.1]; exact b.hl, by rw [upd_ne h.2]; exact b.hc, b.ne, b.p0, b.p1, b.p2, b.pc⟩
theorem bag_kp {c : Addr} (b : BagO a c H) (s : SX [a] H H') : Kp H H' := by
  obtain ⟨⟨xs, h⟩, _⟩ := bag_lst b
  exact sx_kp s fun c hc ys z => by rw [List.mem_singleton.mp hc, h] at z; cases z
theorem bag_bk {c cB : Addr} {v : V} {L : List Int} (b : BagO a c H) (s : SX [a] H H') (h : Bk cB H v L) : Bk cB H' v L := by
  obtain ⟨⟨xs, hx⟩, _⟩ := bag_lst b
  obtain ⟨bb, bdx, r, rfl, h1, h2⟩ := h
  exact ⟨bb, bdx, r, rfl, s _ _ (by simp; exact ne_of h1 hx (fun z => nomatch z)) h1, s _ _ (by simp; exact ne_of h2 hx (fun z => nomatch z)) h2⟩
end
end Sl

set_option Elab.async false
set_option linter.all false
set_option maxRecDepth 100000
set_option maxHeartbeats 4000000
/-! The walks: what the law draws. -/
namespace Sl
open PySem L2
local macro_rules | `(tactic| walk_at "go1") => `(tactic| first
  | with_reducible refine x_seq ?_
  | with_reducible refine x_asg ?_
  | with_reducible refine x_name ?_
  | with_reducible refine x_ret ?_
  | with_reducible refine x_if ?_
  | ((with_reducible refine' x_var ?hv ?_); (case hv => rfl))
  | with_reducible refine x_c ?_
  | with_reducible refine' x_non ?_
  | with_reducible refine x_yes ?_
  | with_reducible refine' iteT ?_
  | with_reducible refine' iteF ?_
  | with_reducible refine x_op ?_
  | with_reducible refine x_I0 ?_
  | with_reducible refine x_test ?_
  | with_reducible refine' x_bl ?_
  | with_reducible refine x_eqI ?_
  | with_reducible refine x_neI ?_
  | with_reducible refine x_cons ?_
  | with_reducible refine x_nil ?_
  | with_reducible refine x_call ?_
  | with_reducible refine x_cb ?_
  | with_reducible refine x_par ?_
  | with_reducible refine x_par2 ?_
  | with_reducible refine x_gcons ?_
  | with_reducible refine x_gnil ?_
  | with_reducible refine x_next ?_
  | with_reducible refine x_drop ?_
  | with_reducible refine x_bm ?_
  | with_reducible refine x_fld ?_
  | with_reducible refine x_dget ?_
  | with_reducible refine x_lc ?_
  | with_reducible refine x_sfld ?_
  | with_reducible refine x_meth ?_
  | with_reducible refine x_augS ?_
  | with_reducible refine x_gsub ?_
  | with_reducible refine x_ipI ?_
  | ((with_reducible refine' x_ixLc ?ha ?hk ?_); (case ha => assumption); (case hk => rfl))
  | with_reducible refine x_lc2 ?_
  | with_reducible refine x_rng1 ?_
  | with_reducible refine x_rng2 ?_
  | with_reducible refine x_un ?_
  | with_reducible refine x_unI ?_
  | with_reducible refine x_zip ?_
  | with_reducible refine x_sl ?_
  | with_reducible refine x_nopart ?_
  | with_reducible refine x_part ?_
  | with_reducible refine' x_partI ?_
  | ((with_reducible refine' x_slL ?ha ?_); (case ha => assumption))
  | with_reducible refine' x_min2 ?_
  | with_reducible refine' x_max2 ?_
  | with_reducible refine x_lv ?_
  | with_reducible refine x_dc ?_
  | with_reducible refine x_dcT ?_
  | with_reducible refine x_iKeys ?_
  | with_reducible refine x_itemsT ?_
  | ((with_reducible refine' x_itemsTI ?ha ?_); (case ha => assumption))
  | ((with_reducible refine' x_keysK ?ha ?_); (case ha => assumption))
  | ((with_reducible refine' x_keysT ?ha ?_); (case ha => assumption))
  | with_reducible refine x_dput ?_
  | with_reducible refine x_faug ?_
  | with_reducible refine x_add ?_
  | with_reducible refine x_items ?_
  | ((with_reducible refine' x_itemsI ?ha ?_); (case ha => assumption))
  | ((with_reducible refine' x_faugI ?ha ?hc ?hn ?hl ?_); (case ha => assumption); (case hc => assumption); (case hn => assumption); (case hl => rfl))
  | with_reducible refine x_make ?_
  | with_reducible refine x_andV ?_
  | with_reducible refine x_orV ?_
  | with_reducible refine x_notV ?_
  | with_reducible refine x_chain ?_
  | with_reducible refine x_notT ?_
  | with_reducible refine x_andT ?_
  | with_reducible refine x_orT ?_
  | with_reducible refine x_tB ?_
  | with_reducible refine' iteNT ?_
  | with_reducible refine' iteNF ?_
  | with_reducible refine x_isiI ?_
  | with_reducible refine x_isiB ?_
  | ((with_reducible refine' x_isiL ?ha ?_); (case ha => assumption))
  | ((with_reducible refine' x_len ?ha ?_); (case ha => assumption))
  | ((with_reducible refine' x_lenT ?ha ?_); (case ha => assumption))
  | ((with_reducible refine' x_fldI ?ha ?hc ?hn ?hl ?_); (case ha => assumption); (case hc => assumption); (case hn => assumption); (case hl => rfl))
  | ((with_reducible refine' x_sfldI ?ha ?hc ?hn ?hl ?_); (case ha => assumption); (case hc => assumption); (case hn => assumption); (case hl => first | (with_unfolding_all decide) | (simp only [List.length_cons, List.length_nil]; omega)))
  | ((with_reducible refine' x_methI ?ha ?hl ?_); (case ha => assumption); (case hl => rfl))
  | with_reducible refine x_for ?_
  | with_reducible refine x_dset ?_
  | ((with_reducible refine' x_isD ?ha ?_); (case ha => assumption))
  | with_reducible refine x_iL ?_
  | with_reducible refine x_iT ?_
  | with_reducible refine x_dK ?_
  | with_reducible refine x_dT ?_
  | ((with_reducible refine' x_tyl ?ha ?_); (case ha => assumption))
  | ((with_reducible refine' x_lct ?ha ?_); (case ha => assumption))
  | ((with_reducible refine' x_tct ?ha ?_); (case ha => assumption))
  | ((with_reducible refine' x_gtup ?ha ?hn ?_); (case ha => assumption); (case hn => rfl))
  | ((with_reducible refine' x_ixT ?ha ?hk ?_); (case ha => assumption); (case hk => rfl))
  | (with_reducible refine x_tup ?_)
  | (with_reducible refine x_lst ?_))
local macro_rules | `(tactic| walk_at "go") => `(tactic| (repeat walk_at "go1"))
section
variable {P : Program} {w : World} {K : PySem.W.Frag} {mg : Str → Option Value} {base : Heap} {t1 t2 : Tok}
def sp_law_bag (K : PySem.W.Frag) : Sp := fun vs H Q _ => ∃ (a : Addr) (ns : List Int), vs = [.ref a] ∧ SqL K H a (ns.map V.int) ∧ ∀ p c H', Same H H' → H p = none → H c = none → BagO p c H' → Q (.ref p) H'
/-- slots of _law_bag: 0 _law_script 1 _law_cell -/
abbrev s_law_bag : Stmt := top 48
theorem sc_law_bag : FnScope ["_law_script", "_law_cell"] ["_law_script"] (defScope s_law_bag) := ⟨rfl, rfl, rfl, by decide +kernel, rfl, by decide +kernel, by decide +kernel⟩
theorem ok_law_bag {f : Addr} {fd : FuncData} (T : BtT mg t1 t2) (F : Fun K "_law_bag" "_law_bag" s_law_bag f fd) : FnOk P w K mg base CX0 1 f fd ["_law_script"] (sp_law_bag K) := by
  refine F.ok sc_law_bag (fun vs H Q E h => ?_) (fun cdv A outer s H vs Q E hr h => ?_)
  · obtain ⟨_, _, rfl, _⟩ := h
    rfl
  · refine ⟨_, (pss_one (ps_ret (pe_lst (pa_cons pe_int (pa_cons pe_int (pa_cons pe_int (pa_cons (pe_lc (own := [("_law_cell", 1)]) (g := (gName 1)) rfl sc_law_bag.nd (pi_list (pe_slice (slistK (K := K) rfl) (pv 0) po_none (po_some pe_int))) (blkOk_by (N := ["_law_script", "_law_cell"]) (sc := defScope s_law_bag) (by decide +kernel)) (fun _ _ _ _ _ => (pg_name (i := 1) sc_law_bag.nd rfl (Or.inl rfl))) (fun _ _ _ _ _ => pts_nil) (fun _ _ _ _ _ => (pe_callB kAbs (by rfl) T.abs (by decide +kernel) (pa_cons (pv 1) pa_nil)))) pa_nil))))))), ?_⟩
    obtain ⟨a, ns, rfl, hs, k⟩ := h
    walk_at "go"
    refine x_slS hs fun p hp => ?_
    have ecut : cutV (ns.map V.int) none (some 63) = (ns.take 63).map V.int := by
      rw [List.map_take]
      exact cut_to (k := 63)
    rw [ecut]
    have s1 : Same H (upd H p (.lst ((ns.take 63).map V.int))) := same_new hp
    have hp1 : (upd H p (.lst ((ns.take 63).map V.int))) p = some (.lst ((ns.take 63).map V.int)) := upd_same
    generalize upd H p (.lst ((ns.take 63).map V.int)) = H1 at *
    walk_at "go"
    intro D hD
    have tn : TpAll H1 ((ns.take 63).map V.int) ((ns.take 63).map PyData.int) := tpa_of_ints _ _
    refine lc_list tn (by rw [List.length_take]; omega) (fun i => some (.int (if i < 0 then -i else i))) hD (fun i x H2 Kb Kf hi s2 tx kb kf => ?_) (fun H2 acc s2 hacc tacc => ?_) hp1
    · cases tp_int tx
      walk_at "go"
      refine ⟨rfl, ?_⟩
      walk_at "go"
      refine ⟨i, rfl, ?_⟩
      exact kb _ _ _ rfl (Same.refl _) (.int _)
    · rw [fm_some] at tacc
      have e1 : (ns.take 63).map (fun i => PyData.int (if i < 0 then -i else i)) = ((ns.take 63).map fun i => if i < 0 then -i else i).map PyData.int := by rw [List.map_map]; rfl
      rw [e1] at tacc
      have e2 := tpa_ints tacc
      subst e2
      walk_at "go"
      refine ⟨by show 4 ≤ sizeLine; decide, fun q hq => ?_⟩
      have s3 := same_new (o := .lst [.int 0, .int 1234567891, .int 0, .ref D]) hq
      refine k q D _ ((s1.trans s2).trans s3) (none_back (s1.trans s2) hq) (none_back s1 hD) ⟨0, 1234567891, 0, _, upd_same, s3 _ _ hacc, fun z => (by rw [z, hacc] at hq; cases hq), by decide, by decide, by decide, fun x hx => ?_⟩
      obtain ⟨i, _, rfl⟩ := List.mem_map.mp hx
      show 0 ≤ if i < 0 then -i else i
      split <;> omega

def sp_law_names : Sp := fun vs H Q _ => ∃ (a c : Addr) (n : Nat), vs = [.ref a, .int (n : Int)] ∧ BagO a c H ∧ n ≤ 1000 ∧ ∀ l (ks : List Str) H', SX [a] H H' → BagO a c H' → H l = none → H' l = some (.lst (ks.map V.str)) → ks.length = n → Q (.ref l) H'
/-- slots of _law_names: 0 _law_bag_here 1 _law_many 2 _law_letters 3 _law_turn 4 _law_tail 5 _law_way 6 _law_found 7 _law_k 8 _law_head -/
abbrev s_law_names : Stmt := top 50
theorem sc_law_names : FnScope ["_law_bag_here", "_law_many", "_law_letters", "_law_turn", "_law_tail", "_law_way", "_law_found", "_law_k", "_law_head"] ["_law_bag_here", "_law_many"] (defScope s_law_names) := ⟨rfl, rfl, rfl, by decide +kernel, rfl, by decide +kernel, by decide +kernel⟩
theorem ok_law_names {f ft : Addr} {fd fdt : FuncData} (T : BtT mg t1 t2) (F : Fun K "_law_names" "_law_names" s_law_names f fd) (D_law_take : FC P w K mg base 1 "_law_take" ["_law_bag_here", "_law_many"] sp_law_take ft fdt) : FnOk P w K mg base CX0 2 f fd ["_law_bag_here", "_law_many"] sp_law_names := by
  refine F.ok sc_law_names (fun vs H Q E h => ?_) (fun cdv A outer s H vs Q E hr h => ?_)
  · obtain ⟨_, _, _, rfl, _⟩ := h
    rfl
  · refine ⟨_, (pss_cons (ps_set (i := 2) sc_law_names.nd rfl (Or.inl rfl) pe_str)
      (pss_cons (ps_set (i := 3) sc_law_names.nd rfl (Or.inl rfl) (pe_f D_law_take hr (by decide) (pa_cons (pv 0) (pa_cons pe_int pa_nil))))
      (pss_cons (ps_set (i := 4) sc_law_names.nd rfl (Or.inl rfl) (pe_op op_mulS (pe_ix ix_str (pv 2) (pe_f D_law_take hr (by decide) (pa_cons (pv 0) (pa_cons pe_int pa_nil))) (fun _ _ => rfl)) (pe_f D_law_take hr (by decide) (pa_cons (pv 0) (pa_cons pe_int pa_nil)))))
      (pss_cons (ps_set (i := 5) sc_law_names.nd rfl (Or.inl rfl) (pe_f D_law_take hr (by decide) (pa_cons (pv 0) (pa_cons pe_int pa_nil))))
      (pss_cons (ps_set (i := 6) sc_law_names.nd rfl (Or.inl rfl) (pe_lst pa_nil))
      (pss_cons (ps_for PassesOwn.never rfl (pi_range1 rfl T.range (pa_cons (pv 1) pa_nil)) (pg_name (i := 7) sc_law_names.nd rfl (Or.inl rfl)) (pss_cons (ps_set (i := 8) sc_law_names.nd rfl (Or.inl rfl) (pe_ix ix_str (pv 2) (pe_op op_modN (pe_op op_add (pv 3) (pv 7)) pe_int) (fun _ _ => rfl)))
      (pss_one (ps_expr (pe_bm PySem.F.plainAttrs_list PySem.F.slot_list_append PySem.F.type_list_append mt_append (pv 6) (pa_cons (pe_op kAddT (pe_ix (kIxL (K := K) rfl) (pe_lst (pa_cons (pe_op kAddT (pv 8) (pv 4)) (pa_cons (pe_op kAddT (pv 4) (pv 8)) pa_nil))) (pv 5) (fun _ _ => rfl)) (pe_op op_mulS pe_str (pe_op op_fdivN (pv 7) pe_int))) pa_nil))))))
      (pss_one (ps_ret (pv 6))))))))), ?_⟩
    obtain ⟨a, c, n, rfl, bag, hn, k⟩ := h
    walk_at "go"
    refine x_take bag (by decide) (by decide) fun turn H1 u0 u1 sx1 bag1 => ?_
    walk_at "go"
    refine x_take bag1 (by decide) (by decide) fun v1 H2 w0 w1 sx2 bag2 => ?_
    refine x_abc w0 w1 fun z1 hz1 => ?_
    walk_at "go"
    refine x_take bag2 (by decide) (by decide) fun v2 H3 y0 y1 sx3 bag3 => ?_
    refine x_mulS (by omega) y0 (by omega) fun tail htl => ?_
    rw [hz1] at htl
    walk_at "go"
    refine x_take bag3 (by decide) (by decide) fun way H4 x0 x1 sx4 bag4 => ?_
    walk_at "go"
    refine ⟨len0, fun fp hfp => ?_⟩
    have sxA : SX [a] H H4 := ((sx1.trans sx2).trans sx3).trans sx4
    have bf := bag_fresh bag4 hfp
    have bag5 := bag_mut (o := .lst []) bag4 bf
    have fp0 : H fp = none := sx_none sxA (by simp; exact fun z => bf.1 z.symm) hfp
    have sx5 : SX [a] H (upd H4 fp (.lst [])) := sxA.new hfp
    have hfp5 : (upd H4 fp (.lst [])) fp = some (.lst []) := upd_same
    generalize upd H4 fp (.lst []) = H5 at *
    walk_at "go"
    refine ⟨n, rfl, by omega, by omega, ?_⟩
    rw [Int.toNat_natCast]
    refine for_it walk_range (fun i σ H' => (∃ u v, σ = [some (.ref a), some (.int (n : Int)), some (.str abc), some (.int turn), some (.str tail), some (.int way), some (.ref fp), u, v]) ∧ SX [a] H H' ∧ BagO a c H' ∧ ∃ ks : List Str, H' fp = some (.lst (ks.map V.str)) ∧ ks.length = i)
      ⟨⟨_, _, rfl⟩, sx5, bag5, [], hfp5, rfl⟩ (fun _ _ _ _ _ => True.intro) (fun i x σ H6 H7 hi ⟨⟨u, v, es⟩, sx6, bag6, ks, hks, hkl⟩ y => ?_) (fun σ H6 ⟨⟨u, v, es⟩, sx6, bag6, ks, hks, hkl⟩ => ?_)
    · subst es
      obtain ⟨rfl, rfl⟩ := y
      walk_at "go"
      refine x_mod (by decide) ?_
      refine x_abc (Int.emod_nonneg _ (by decide)) (Int.emod_lt_of_pos _ (by decide)) fun hd hhd => ?_
      walk_at "go"
      refine x_addT (sz100 (by omega)) ?_
      walk_at "go"
      refine x_addT (sz100 (by omega)) ?_
      walk_at "go"
      refine ⟨len2, fun p hp => ?_⟩
      have s7 := same_new (o := .lst [.str (hd ++ tail), .str (tail ++ hd)]) hp
      have hks7 := s7 _ _ hks
      have hp7 : (upd H7 p (.lst [.str (hd ++ tail), .str (tail ++ hd)])) p = some (.lst [.str (hd ++ tail), .str (tail ++ hd)]) := upd_same
      have bag7 := bag_same s7 bag6
      generalize upd H7 p (.lst [.str (hd ++ tail), .str (tail ++ hd)]) = H8 at *
      have pick : ∃ z : Str, z.length ≤ 10 ∧ atI [V.str (hd ++ tail), V.str (tail ++ hd)] way = some (.str z) := by
        have hw : way = 0 ∨ way = 1 := by omega
        rcases hw with h | h
        · subst h
          exact ⟨hd ++ tail, by rw [len_app]; omega, rfl⟩
        · subst h
          exact ⟨tail ++ hd, by rw [len_app]; omega, rfl⟩
      obtain ⟨z, hzl, hz⟩ := pick
      walk_at "go"
      refine x_ixL hp7 hz ?_
      walk_at "go"
      refine x_div (by decide) (by decide) ?_
      refine x_mulS (by decide +kernel) (by omega) (by omega) fun bs hbs => ?_
      refine x_addT ?_ ?_
      · have e1 : ((Str.ofString "b").length : Int) = 1 := by decide +kernel
        rw [e1] at hbs
        exact sz100 (by omega)
      walk_at "go"
      refine x_app hks7 (by rw [List.length_map]; exact sz100' (by omega)) ?_
      have bf7 : a ≠ fp ∧ c ≠ fp := bf
      refine ⟨⟨_, _, rfl⟩, fun b o hb ho => ?_, bag_mut bag7 bf7, ks ++ [z ++ bs], by rw [upd_same, List.map_append]; rfl, by rw [List.length_append, hkl]; rfl⟩
      rw [upd_ne (ne_of_none ho fp0)]
      exact s7 _ _ (sx6 _ _ hb ho)
    · subst es
      walk_at "go"
      exact k fp ks H6 sx6 bag6 fp0 hks hkl
end
end Sl

set_option Elab.async false
set_option linter.all false
set_option maxRecDepth 100000
set_option maxHeartbeats 4000000
/-! The walks: lengths and rests drawn. -/
namespace Sl
open PySem L2
local macro_rules | `(tactic| walk_at "go1") => `(tactic| first
  | with_reducible refine x_seq ?_
  | with_reducible refine x_asg ?_
  | with_reducible refine x_name ?_
  | with_reducible refine x_ret ?_
  | with_reducible refine x_if ?_
  | ((with_reducible refine' x_var ?hv ?_); (case hv => rfl))
  | with_reducible refine x_c ?_
  | with_reducible refine' x_non ?_
  | with_reducible refine x_yes ?_
  | with_reducible refine' iteT ?_
  | with_reducible refine' iteF ?_
  | with_reducible refine x_op ?_
  | with_reducible refine x_I0 ?_
  | with_reducible refine x_test ?_
  | with_reducible refine' x_bl ?_
  | with_reducible refine x_eqI ?_
  | with_reducible refine x_neI ?_
  | with_reducible refine x_cons ?_
  | with_reducible refine x_nil ?_
  | with_reducible refine x_call ?_
  | with_reducible refine x_cb ?_
  | with_reducible refine x_par ?_
  | with_reducible refine x_par2 ?_
  | with_reducible refine x_gcons ?_
  | with_reducible refine x_gnil ?_
  | with_reducible refine x_next ?_
  | with_reducible refine x_drop ?_
  | with_reducible refine x_bm ?_
  | with_reducible refine x_fld ?_
  | with_reducible refine x_dget ?_
  | with_reducible refine x_lc ?_
  | with_reducible refine x_sfld ?_
  | with_reducible refine x_meth ?_
  | with_reducible refine x_augS ?_
  | with_reducible refine x_gsub ?_
  | with_reducible refine x_ipI ?_
  | ((with_reducible refine' x_ixLc ?ha ?hk ?_); (case ha => assumption); (case hk => rfl))
  | with_reducible refine x_lc2 ?_
  | with_reducible refine x_rng1 ?_
  | with_reducible refine x_rng2 ?_
  | with_reducible refine x_un ?_
  | with_reducible refine x_unI ?_
  | with_reducible refine x_zip ?_
  | with_reducible refine x_sl ?_
  | with_reducible refine x_nopart ?_
  | with_reducible refine x_part ?_
  | with_reducible refine' x_partI ?_
  | ((with_reducible refine' x_slL ?ha ?_); (case ha => assumption))
  | with_reducible refine' x_min2 ?_
  | with_reducible refine' x_max2 ?_
  | with_reducible refine x_lv ?_
  | with_reducible refine x_dc ?_
  | with_reducible refine x_dcT ?_
  | with_reducible refine x_iKeys ?_
  | with_reducible refine x_itemsT ?_
  | ((with_reducible refine' x_itemsTI ?ha ?_); (case ha => assumption))
  | ((with_reducible refine' x_keysK ?ha ?_); (case ha => assumption))
  | ((with_reducible refine' x_keysT ?ha ?_); (case ha => assumption))
  | with_reducible refine x_dput ?_
  | with_reducible refine x_faug ?_
  | with_reducible refine x_add ?_
  | with_reducible refine x_items ?_
  | ((with_reducible refine' x_itemsI ?ha ?_); (case ha => assumption))
  | ((with_reducible refine' x_faugI ?ha ?hc ?hn ?hl ?_); (case ha => assumption); (case hc => assumption); (case hn => assumption); (case hl => rfl))
  | with_reducible refine x_make ?_
  | with_reducible refine x_andV ?_
  | with_reducible refine x_orV ?_
  | with_reducible refine x_notV ?_
  | with_reducible refine x_chain ?_
  | with_reducible refine x_notT ?_
  | with_reducible refine x_andT ?_
  | with_reducible refine x_orT ?_
  | with_reducible refine x_tB ?_
  | with_reducible refine' iteNT ?_
  | with_reducible refine' iteNF ?_
  | with_reducible refine x_isiI ?_
  | with_reducible refine x_isiB ?_
  | ((with_reducible refine' x_isiL ?ha ?_); (case ha => assumption))
  | ((with_reducible refine' x_len ?ha ?_); (case ha => assumption))
  | ((with_reducible refine' x_lenT ?ha ?_); (case ha => assumption))
  | ((with_reducible refine' x_fldI ?ha ?hc ?hn ?hl ?_); (case ha => assumption); (case hc => assumption); (case hn => assumption); (case hl => rfl))
  | ((with_reducible refine' x_sfldI ?ha ?hc ?hn ?hl ?_); (case ha => assumption); (case hc => assumption); (case hn => assumption); (case hl => first | (with_unfolding_all decide) | (simp only [List.length_cons, List.length_nil]; omega)))
  | ((with_reducible refine' x_methI ?ha ?hl ?_); (case ha => assumption); (case hl => rfl))
  | with_reducible refine x_for ?_
  | with_reducible refine x_dset ?_
  | ((with_reducible refine' x_isD ?ha ?_); (case ha => assumption))
  | with_reducible refine x_iL ?_
  | with_reducible refine x_iT ?_
  | with_reducible refine x_dK ?_
  | with_reducible refine x_dT ?_
  | ((with_reducible refine' x_tyl ?ha ?_); (case ha => assumption))
  | ((with_reducible refine' x_lct ?ha ?_); (case ha => assumption))
  | ((with_reducible refine' x_tct ?ha ?_); (case ha => assumption))
  | ((with_reducible refine' x_gtup ?ha ?hn ?_); (case ha => assumption); (case hn => rfl))
  | ((with_reducible refine' x_ixT ?ha ?hk ?_); (case ha => assumption); (case hk => rfl))
  | (with_reducible refine x_tup ?_)
  | (with_reducible refine x_lst ?_))
local macro_rules | `(tactic| walk_at "go") => `(tactic| (repeat walk_at "go1"))
section
variable {P : Program} {w : World} {K : PySem.W.Frag} {mg : Str → Option Value} {base : Heap} {t1 t2 : Tok}
def Btw (lo hi : Int) (xs : List Int) : Prop := ∀ x ∈ xs, lo ≤ x ∧ x ≤ hi
theorem btw_nil {lo hi : Int} : Btw lo hi [] := fun x h => by simp at h
theorem btw_cons {lo hi x : Int} {xs : List Int} (h : lo ≤ x ∧ x ≤ hi) (t : Btw lo hi xs) : Btw lo hi (x :: xs) := fun y hy => by
  rcases List.mem_cons.mp hy with e | e
  · rw [e]; exact h
  · exact t y e
theorem btw_snoc {lo hi x : Int} {xs : List Int} (t : Btw lo hi xs) (h : lo ≤ x ∧ x ≤ hi) : Btw lo hi (xs ++ [x]) := fun y hy => by
  rcases List.mem_append.mp hy with e | e
  · exact t y e
  · rw [List.mem_singleton.mp e]; exact h
def sp_law_spans : Sp := fun vs H Q _ => ∃ (a c : Addr) (n : Nat) (m : Int), vs = [.ref a, .int (n : Int), .int m] ∧ BagO a c H ∧ n ≤ 40 ∧ 1 ≤ m ∧ m ≤ 1000000 ∧ ∀ l (L : List Int) H', SX [a] H H' → BagO a c H' → H l = none → H' l = some (.lst (L.map V.int)) → L.length = n → Btw 1 1000000 L → Q (.ref l) H'
/-- slots of _law_spans: 0 _law_bag_here 1 _law_many 2 _law_most 3 _law_way 4 _law_one 5 _law_found 6 _law_k 7 _law_some -/
abbrev s_law_spans : Stmt := top 51
theorem sc_law_spans : FnScope ["_law_bag_here", "_law_many", "_law_most", "_law_way", "_law_one", "_law_found", "_law_k", "_law_some"] ["_law_bag_here", "_law_many", "_law_most"] (defScope s_law_spans) := ⟨rfl, rfl, rfl, by decide +kernel, rfl, by decide +kernel, by decide +kernel⟩
theorem ok_law_spans {f ft : Addr} {fd fdt : FuncData} (T : BtT mg t1 t2) (F : Fun K "_law_spans" "_law_spans" s_law_spans f fd) (D_law_take : FC P w K mg base 1 "_law_take" ["_law_bag_here", "_law_many"] sp_law_take ft fdt) : FnOk P w K mg base CX0 2 f fd ["_law_bag_here", "_law_many", "_law_most"] sp_law_spans := by
  refine F.ok sc_law_spans (fun vs H Q E h => ?_) (fun cdv A outer s H vs Q E hr h => ?_)
  · obtain ⟨_, _, _, _, rfl, _⟩ := h
    rfl
  · refine ⟨_, (pss_cons (ps_set (i := 3) sc_law_spans.nd rfl (Or.inl rfl) (pe_f D_law_take hr (by decide) (pa_cons (pv 0) (pa_cons pe_int pa_nil))))
      (pss_cons (ps_if (pt_cmpR op_lt (pv 3) pe_int (nomark _)) (pss_one (ps_ret (pe_lc (own := [("_law_k", 6)]) (g := (gName 6)) rfl sc_law_spans.nd (pi_range1 rfl T.range (pa_cons (pv 1) pa_nil)) (blkOk_by (N := ["_law_bag_here", "_law_many", "_law_most", "_law_way", "_law_one", "_law_found", "_law_k", "_law_some"]) (sc := defScope s_law_spans) (by decide +kernel)) (fun _ _ _ _ _ => (pg_name (i := 6) sc_law_spans.nd rfl (Or.inl rfl))) (fun _ _ _ _ _ => pts_nil) (fun _ _ _ _ _ => (pe_op op_add (pv 6) pe_int))))) pss_nil)
      (pss_cons (ps_set (i := 4) sc_law_spans.nd rfl (Or.inl rfl) (pe_op op_add pe_int (pe_f D_law_take hr (by decide) (pa_cons (pv 0) (pa_cons (pv 2) pa_nil)))))
      (pss_cons (ps_set (i := 5) sc_law_spans.nd rfl (Or.inl rfl) (pe_lst pa_nil))
      (pss_cons (ps_for PassesOwn.never rfl (pi_range1 rfl T.range (pa_cons (pv 1) pa_nil)) (pg_name (i := 6) sc_law_spans.nd rfl (Or.inl rfl)) (pss_cons (ps_set (i := 7) sc_law_spans.nd rfl (Or.inl rfl) (pe_lst (pa_cons (pe_op op_add pe_int (pe_f D_law_take hr (by decide) (pa_cons (pv 0) (pa_cons (pe_callB (kMin2 rfl) (by rfl) T.min (by decide +kernel) (pa_cons pe_int (pa_cons (pv 2) pa_nil))) pa_nil)))) (pa_cons (pe_op op_add pe_int (pe_f D_law_take hr (by decide) (pa_cons (pv 0) (pa_cons (pv 2) pa_nil)))) (pa_cons (pv 4) (pa_cons (pe_ix (kIxL (K := K) rfl) (pe_lst (pa_cons pe_int (pa_cons (pv 2) pa_nil))) (pe_f D_law_take hr (by decide) (pa_cons (pv 0) (pa_cons pe_int pa_nil))) (fun _ _ => rfl)) pa_nil))))))
      (pss_one (ps_expr (pe_bm PySem.F.plainAttrs_list PySem.F.slot_list_append PySem.F.type_list_append mt_append (pv 5) (pa_cons (pe_ix (kIxL (K := K) rfl) (pv 7) (pe_op op_sub (pv 3) pe_int) (fun _ _ => rfl)) pa_nil))))))
      (pss_one (ps_ret (pv 5)))))))), ?_⟩
    obtain ⟨a, c, n, m, rfl, bag, hn, hm, hm2, k⟩ := h
    walk_at "go"
    refine x_take bag (by decide) (by decide) fun way H1 u0 u1 sx1 bag1 => ?_
    walk_at "go"
    refine x_dec (fun c0 => ?_) (fun c0 => ?_)
    · walk_at "go"
      refine ⟨n, rfl, by omega, by omega, fun D hD => ?_⟩
      rw [Int.toNat_natCast]
      have bf := bag_fresh bag1 hD
      refine lc_tp walk_range (fun i => some (.int ((i : Int) + 1))) hD (by omega) (fun _ _ => True.intro) (fun i x H2 H3 Kb Kf hi s2 y kb kf => ?_) (fun H2 acc s2 hacc tacc => ?_)
      · obtain ⟨rfl, rfl⟩ := y
        walk_at "go"
        refine ⟨rfl, ?_⟩
        walk_at "go"
        have e : (0 : Int) + (i : Int) = (i : Int) := by omega
        rw [e]
        exact kb _ _ _ rfl (Same.refl _) (.int _)
      · rw [fm_some] at tacc
        have e1 : (List.range n).map (fun i : Nat => PyData.int ((i : Int) + 1)) = ((List.range n).map fun i : Nat => (i : Int) + 1).map PyData.int := by rw [List.map_map]; rfl
        rw [e1] at tacc
        have e2 := tpa_ints tacc
        subst e2
        refine k D _ H2 (sx1.same s2) (bag_same s2 bag1) (sx_none sx1 (by simp; exact fun z => bf.1 z.symm) hD) hacc (by rw [List.length_map, List.length_range]) fun x hx => ?_
        obtain ⟨i, hi, rfl⟩ := List.mem_map.mp hx
        have := List.mem_range.mp hi
        show 1 ≤ (i : Int) + 1 ∧ (i : Int) + 1 ≤ 1000000
        omega
    · walk_at "go"
      refine x_take bag1 (by omega) (by omega) fun one0 H2 w0 w1 sx2 bag2 => ?_
      walk_at "go"
      refine ⟨len0, fun fp hfp => ?_⟩
      have sxA : SX [a] H H2 := sx1.trans sx2
      have bf := bag_fresh bag2 hfp
      have bag3 := bag_mut (o := .lst []) bag2 bf
      have fp0 : H fp = none := sx_none sxA (by simp; exact fun z => bf.1 z.symm) hfp
      have sx3 : SX [a] H (upd H2 fp (.lst [])) := sxA.new hfp
      have hfp3 : (upd H2 fp (.lst [])) fp = some (.lst []) := upd_same
      generalize upd H2 fp (.lst []) = H3 at *
      walk_at "go"
      refine ⟨n, rfl, by omega, by omega, ?_⟩
      rw [Int.toNat_natCast]
      refine for_it walk_range (fun i σ H' => (∃ u v, σ = [some (.ref a), some (.int (n : Int)), some (.int m), some (.int way), some (.int (1 + one0)), some (.ref fp), u, v]) ∧ SX [a] H H' ∧ BagO a c H' ∧ ∃ L : List Int, H' fp = some (.lst (L.map V.int)) ∧ L.length = i ∧ Btw 1 1000000 L)
        ⟨⟨_, _, rfl⟩, sx3, bag3, [], hfp3, rfl, btw_nil⟩ (fun _ _ _ _ _ => True.intro) (fun i x σ H6 H7 hi ⟨⟨u, v, es⟩, sx6, bag6, L, hL, hLl, hLb⟩ y => ?_) (fun σ H6 ⟨⟨u, v, es⟩, sx6, bag6, L, hL, hLl, hLb⟩ => ?_)
      · subst es
        obtain ⟨rfl, rfl⟩ := y
        walk_at "go"
        have hmn : 0 < min 4 m := by omega
        refine x_take bag6 hmn (by omega) fun x1 G1 y0 y1 sg1 bg1 => ?_
        walk_at "go"
        refine x_take bg1 (by omega) (by omega) fun x2 G2 y2 y3 sg2 bg2 => ?_
        walk_at "go"
        refine ⟨len2, fun p hp => ?_⟩
        have bfp := bag_fresh bg2 hp
        have sg3 := same_new (o := .lst [.int 1, .int m]) hp
        have hp3 : (upd G2 p (.lst [.int 1, .int m])) p = some (.lst ([1, m].map V.int)) := upd_same
        have bg3 := bag_same sg3 bg2
        generalize upd G2 p (.lst [.int 1, .int m]) = G3 at *
        walk_at "go"
        refine x_take bg3 (by decide) (by decide) fun x3 G4 y4 y5 sg4 bg4 => ?_
        have hp4 := sg4 _ _ (by simp; exact fun z => bfp.1 z.symm) hp3
        refine x_pick (lo := 1) (hi := 1000000) hp4 y4 (by show x3 < 2; omega) (btw_cons ⟨by omega, by omega⟩ (btw_cons ⟨by omega, by omega⟩ btw_nil)) fun x4 y6 y7 => ?_
        walk_at "go"
        refine ⟨by show 4 ≤ sizeLine; decide, fun q hq => ?_⟩
        have sg5 := same_new (o := .lst [.int (1 + x1), .int (1 + x2), .int (1 + one0), .int x4]) hq
        have hq5 : (upd G4 q (.lst [.int (1 + x1), .int (1 + x2), .int (1 + one0), .int x4])) q = some (.lst ([1 + x1, 1 + x2, 1 + one0, x4].map V.int)) := upd_same
        have bg5 := bag_same sg5 bg4
        generalize upd G4 q (.lst [.int (1 + x1), .int (1 + x2), .int (1 + one0), .int x4]) = G5 at *
        have sgA : SX [a] H7 G5 := ((((sg1.trans sg2).same sg3).trans sg4).same sg5)
        have hL5 := sgA _ _ (by simp; exact fun z => bf.1 z.symm) hL
        walk_at "go"
        refine x_pick (lo := 1) (hi := 1000000) hq5 (by omega) (by show way - 2 < 4; omega) (btw_cons ⟨by omega, by omega⟩ (btw_cons ⟨by omega, by omega⟩ (btw_cons ⟨by omega, by omega⟩ (btw_cons ⟨by omega, by omega⟩ btw_nil)))) fun x5 y8 y9 => ?_
        walk_at "go"
        refine x_app hL5 (by rw [List.length_map]; exact sz100' (by omega)) ?_
        refine ⟨⟨_, _, rfl⟩, fun b o hb ho => ?_, bag_mut bg5 bf, L ++ [x5], by rw [upd_same, List.map_append]; rfl, by rw [List.length_append, hLl]; rfl, btw_snoc hLb ⟨y8, y9⟩⟩
        rw [upd_ne (ne_of_none ho fp0)]
        exact sgA _ _ hb (sx6 _ _ hb ho)
      · subst es
        walk_at "go"
        exact k fp L H6 sx6 bag6 fp0 hL hLl hLb

def sp_law_rests : Sp := fun vs H Q _ => ∃ (a c : Addr) (n : Nat) (m : Int), vs = [.ref a, .int (n : Int), .int m] ∧ BagO a c H ∧ n ≤ 40 ∧ 1 ≤ m ∧ m ≤ 1000000000000000000 ∧ ∀ l (L : List Int) H', SX [a] H H' → BagO a c H' → H l = none → H' l = some (.lst (L.map V.int)) → L.length = n → Btw 1 1000000000000000000 L → Q (.ref l) H'
/-- slots of _law_rests: 0 _law_bag_here 1 _law_many 2 _law_most 3 _law_way 4 _law_one 5 _law_other 6 _law_found 7 _law_k 8 _law_some -/
abbrev s_law_rests : Stmt := top 52
theorem sc_law_rests : FnScope ["_law_bag_here", "_law_many", "_law_most", "_law_way", "_law_one", "_law_other", "_law_found", "_law_k", "_law_some"] ["_law_bag_here", "_law_many", "_law_most"] (defScope s_law_rests) := ⟨rfl, rfl, rfl, by decide +kernel, rfl, by decide +kernel, by decide +kernel⟩
theorem ok_law_rests {f ft : Addr} {fd fdt : FuncData} (T : BtT mg t1 t2) (F : Fun K "_law_rests" "_law_rests" s_law_rests f fd) (D_law_take : FC P w K mg base 1 "_law_take" ["_law_bag_here", "_law_many"] sp_law_take ft fdt) : FnOk P w K mg base CX0 2 f fd ["_law_bag_here", "_law_many", "_law_most"] sp_law_rests := by
  refine F.ok sc_law_rests (fun vs H Q E h => ?_) (fun cdv A outer s H vs Q E hr h => ?_)
  · obtain ⟨_, _, _, _, rfl, _⟩ := h
    rfl
  · refine ⟨_, (pss_cons (ps_set (i := 3) sc_law_rests.nd rfl (Or.inl rfl) (pe_f D_law_take hr (by decide) (pa_cons (pv 0) (pa_cons pe_int pa_nil))))
      (pss_cons (ps_par (i := 4) (j := 5) (by rfl) sc_law_rests.nd rfl rfl (by decide) rfl rfl (pa_cons (pe_op op_add pe_int (pe_f D_law_take hr (by decide) (pa_cons (pv 0) (pa_cons (pv 2) pa_nil)))) (pa_cons (pe_op op_add pe_int (pe_f D_law_take hr (by decide) (pa_cons (pv 0) (pa_cons (pv 2) pa_nil)))) pa_nil)) (by rfl))
      (pss_cons (ps_set (i := 6) sc_law_rests.nd rfl (Or.inl rfl) (pe_lst pa_nil))
      (pss_cons (ps_for PassesOwn.never rfl (pi_range1 rfl T.range (pa_cons (pv 1) pa_nil)) (pg_name (i := 7) sc_law_rests.nd rfl (Or.inl rfl)) (pss_cons (ps_set (i := 8) sc_law_rests.nd rfl (Or.inl rfl) (pe_lst (pa_cons (pe_op op_add pe_int (pe_f D_law_take hr (by decide) (pa_cons (pv 0) (pa_cons (pv 2) pa_nil)))) (pa_cons (pe_op op_add pe_int (pe_f D_law_take hr (by decide) (pa_cons (pv 0) (pa_cons (pe_callB (kMin2 rfl) (by rfl) T.min (by decide +kernel) (pa_cons pe_int (pa_cons (pv 2) pa_nil))) pa_nil)))) (pa_cons (pv 4) (pa_cons (pe_ix (kIxL (K := K) rfl) (pe_lst (pa_cons (pv 4) (pa_cons (pv 5) pa_nil))) (pe_f D_law_take hr (by decide) (pa_cons (pv 0) (pa_cons pe_int pa_nil))) (fun _ _ => rfl)) pa_nil))))))
      (pss_one (ps_expr (pe_bm PySem.F.plainAttrs_list PySem.F.slot_list_append PySem.F.type_list_append mt_append (pv 6) (pa_cons (pe_ix (kIxL (K := K) rfl) (pv 8) (pv 3) (fun _ _ => rfl)) pa_nil))))))
      (pss_one (ps_ret (pv 6))))))), ?_⟩
    obtain ⟨a, c, n, m, rfl, bag, hn, hm, hm2, k⟩ := h
    walk_at "go"
    refine x_take bag (by decide) (by decide) fun way H1 u0 u1 sx1 bag1 => ?_
    walk_at "go"
    refine x_take bag1 (by omega) (by omega) fun one0 H2 w0 w1 sx2 bag2 => ?_
    walk_at "go"
    refine x_take bag2 (by omega) (by omega) fun oth0 H2b z0 z1 sx2b bag2b => ?_
    walk_at "go"
    refine ⟨len0, fun fp hfp => ?_⟩
    have sxA : SX [a] H H2b := (sx1.trans sx2).trans sx2b
    have bf := bag_fresh bag2b hfp
    have bag3 := bag_mut (o := .lst []) bag2b bf
    have fp0 : H fp = none := sx_none sxA (by simp; exact fun z => bf.1 z.symm) hfp
    have sx3 : SX [a] H (upd H2b fp (.lst [])) := sxA.new hfp
    have hfp3 : (upd H2b fp (.lst [])) fp = some (.lst []) := upd_same
    generalize upd H2b fp (.lst []) = H3 at *
    walk_at "go"
    refine ⟨n, rfl, by omega, by omega, ?_⟩
    rw [Int.toNat_natCast]
    refine for_it walk_range (fun i σ H' => (∃ u v, σ = [some (.ref a), some (.int (n : Int)), some (.int m), some (.int way), some (.int (1 + one0)), some (.int (1 + oth0)), some (.ref fp), u, v]) ∧ SX [a] H H' ∧ BagO a c H' ∧ ∃ L : List Int, H' fp = some (.lst (L.map V.int)) ∧ L.length = i ∧ Btw 1 1000000000000000000 L)
      ⟨⟨_, _, rfl⟩, sx3, bag3, [], hfp3, rfl, btw_nil⟩ (fun _ _ _ _ _ => True.intro) (fun i x σ H6 H7 hi ⟨⟨u, v, es⟩, sx6, bag6, L, hL, hLl, hLb⟩ y => ?_) (fun σ H6 ⟨⟨u, v, es⟩, sx6, bag6, L, hL, hLl, hLb⟩ => ?_)
    · subst es
      obtain ⟨rfl, rfl⟩ := y
      walk_at "go"
      refine x_take bag6 (by omega) (by omega) fun x1 G1 y0 y1 sg1 bg1 => ?_
      walk_at "go"
      have hmn : 0 < min 3 m := by omega
      refine x_take bg1 hmn (by omega) fun x2 G2 y2 y3 sg2 bg2 => ?_
      walk_at "go"
      refine ⟨len2, fun p hp => ?_⟩
      have bfp := bag_fresh bg2 hp
      have sg3 := same_new (o := .lst [.int (1 + one0), .int (1 + oth0)]) hp
      have hp3 : (upd G2 p (.lst [.int (1 + one0), .int (1 + oth0)])) p = some (.lst ([1 + one0, 1 + oth0].map V.int)) := upd_same
      have bg3 := bag_same sg3 bg2
      generalize upd G2 p (.lst [.int (1 + one0), .int (1 + oth0)]) = G3 at *
      walk_at "go"
      refine x_take bg3 (by decide) (by decide) fun x3 G4 y4 y5 sg4 bg4 => ?_
      have hp4 := sg4 _ _ (by simp; exact fun z => bfp.1 z.symm) hp3
      refine x_pick (lo := 1) (hi := 1000000000000000000) hp4 y4 (by show x3 < 2; omega) (btw_cons ⟨by omega, by omega⟩ (btw_cons ⟨by omega, by omega⟩ btw_nil)) fun x4 y6 y7 => ?_
      walk_at "go"
      refine ⟨by show 4 ≤ sizeLine; decide, fun q hq => ?_⟩
      have sg5 := same_new (o := .lst [.int (1 + x1), .int (1 + x2), .int (1 + one0), .int x4]) hq
      have hq5 : (upd G4 q (.lst [.int (1 + x1), .int (1 + x2), .int (1 + one0), .int x4])) q = some (.lst ([1 + x1, 1 + x2, 1 + one0, x4].map V.int)) := upd_same
      have bg5 := bag_same sg5 bg4
      generalize upd G4 q (.lst [.int (1 + x1), .int (1 + x2), .int (1 + one0), .int x4]) = G5 at *
      have sgA : SX [a] H7 G5 := ((((sg1.trans sg2).same sg3).trans sg4).same sg5)
      have hL5 := sgA _ _ (by simp; exact fun z => bf.1 z.symm) hL
      walk_at "go"
      refine x_pick (lo := 1) (hi := 1000000000000000000) hq5 u0 (by show way < 4; omega) (btw_cons ⟨by omega, by omega⟩ (btw_cons ⟨by omega, by omega⟩ (btw_cons ⟨by omega, by omega⟩ (btw_cons ⟨by omega, by omega⟩ btw_nil)))) fun x5 y8 y9 => ?_
      walk_at "go"
      refine x_app hL5 (by rw [List.length_map]; exact sz100' (by omega)) ?_
      refine ⟨⟨_, _, rfl⟩, fun b o hb ho => ?_, bag_mut bg5 bf, L ++ [x5], by rw [upd_same, List.map_append]; rfl, by rw [List.length_append, hLl]; rfl, btw_snoc hLb ⟨y8, y9⟩⟩
      rw [upd_ne (ne_of_none ho fp0)]
      exact sgA _ _ hb (sx6 _ _ hb ho)
    · subst es
      walk_at "go"
      exact k fp L H6 sx6 bag6 fp0 hL hLl hLb
end
end Sl

set_option Elab.async false
set_option linter.all false
set_option maxRecDepth 100000
set_option maxHeartbeats 4000000
/-! Dicts of names and rests. -/
namespace Sl
open PySem L2
theorem x_pw {H : Hp} {Q : VK} {i j r : Int} (hc : CPow i j) (e : i ^ j.toNat = r) (h : Q (.int r) H) : rI CPow (fun i j => .int (i ^ j.toNat)) (.int i) (.int j) H Q := ⟨i, j, rfl, rfl, hc, by show Q (.int (i ^ j.toNat)) H; rw [e]; exact h⟩
theorem x_dz {K : PySem.W.Frag} {σ : L2.St} {H : Hp} {Q : VK} {ta : TA} (h : ta σ H fun vs H1 => ∃ (a b : Addr) (ks : List Str) (xs : List V), vs = [.ref a, .ref b] ∧ SqL K H1 a (ks.map V.str) ∧ SqL K H1 b xs ∧ ks.length = xs.length ∧
  ∀ p, H1 p = none → Q (.ref p) (upd H1 p (.dK (mergeK [] ((ks.map Sum.inr).zip xs))))) : tDictZip K ta σ H Q := h
def kvS (st : List (Str × Int)) : List (Key × V) := st.map fun e => (.inr e.1, .int e.2)
structure StD (n : Nat) (st : List (Str × Int)) : Prop where
  nd : (st.map (·.1)).Nodup
  len : st.length ≤ n
  bd : ∀ e ∈ st, 1 ≤ e.2 ∧ e.2 ≤ 1000000000000000000
theorem kvS_val (st : List (Str × Int)) (k : Str) : valV (kvS st) (.inr k) = (st.lookup k).map V.int := by
  induction st with
  | nil => rfl
  | cons e t ih =>
    unfold kvS
    rw [List.map_cons, List.lookup_cons]
    by_cases h : e.1 = k
    · rw [valV_pos (by rw [h]), beq_iff_eq.mpr h.symm]
      rfl
    · have h2 : (k == e.1) = false := by rw [beq_eq_false_iff_ne]; exact fun z => h z.symm
      rw [valV_neg (fun z => h (Sum.inr.inj z)), h2]
      exact ih
theorem std_put {n : Nat} {st : List (Str × Int)} (s : StD n st) {k : Str} {r : Int} (hr : 1 ≤ r ∧ r ≤ 1000000000000000000) : ∃ st', putK (kvS st) (.inr k) (.int r) = kvS st' ∧ StD (n + 1) st' := by
  by_cases h : k ∈ st.map (·.1)
  · refine ⟨st.map fun e => if e.1 = k then (e.1, r) else e, ?_, ?_, ?_, ?_⟩
    · unfold putK
      have ha : ((kvS st).any fun kv => decide (kv.1 = Sum.inr k)) = true := by
        obtain ⟨e, he, rfl⟩ := List.mem_map.mp h
        refine List.any_eq_true.mpr ⟨(.inr e.1, .int e.2), List.mem_map.mpr ⟨e, he, rfl⟩, ?_⟩
        simp
      rw [if_pos ha]
      unfold kvS
      rw [List.map_map, List.map_map]
      refine List.map_congr_left fun e _ => ?_
      show (if (Sum.inr e.1 : Key) = Sum.inr k then ((Sum.inr e.1 : Key), V.int r) else (Sum.inr e.1, V.int e.2)) = _
      by_cases c : e.1 = k
      · rw [if_pos (by rw [c])]
        show _ = ((Sum.inr (if e.1 = k then (e.1, r) else e).1 : Key), V.int (if e.1 = k then (e.1, r) else e).2)
        rw [if_pos c]
      · rw [if_neg (fun z => c (Sum.inr.inj z))]
        show _ = ((Sum.inr (if e.1 = k then (e.1, r) else e).1 : Key), V.int (if e.1 = k then (e.1, r) else e).2)
        rw [if_neg c]
    · rw [List.map_map]
      have e : (fun x : Str × Int => x.1) ∘ (fun e => if e.1 = k then (e.1, r) else e) = fun x => x.1 := by
        funext x
        show (if x.1 = k then (x.1, r) else x).1 = x.1
        split <;> rfl
      rw [e]
      exact s.nd
    · rw [List.length_map]; have := s.len; omega
    · intro e he
      obtain ⟨x, hx, rfl⟩ := List.mem_map.mp he
      split
      · exact hr
      · exact s.bd x hx
  · refine ⟨st ++ [(k, r)], ?_, ?_, ?_, ?_⟩
    · rw [putK_new _ (valV_get.mpr (fun z => h (by
        unfold kvS at z
        rw [List.map_map] at z
        obtain ⟨e, he, z⟩ := List.mem_map.mp z
        exact List.mem_map.mpr ⟨e, he, Sum.inr.inj z⟩)))]
      unfold kvS
      rw [List.map_append]
      rfl
    · rw [List.map_append, List.nodup_append]
      refine ⟨s.nd, by simp, fun x hx y hy z => h ?_⟩
      simp at hy
      rw [← hy, ← z]
      exact hx
    · rw [List.length_append]; have := s.len; simp; omega
    · intro e he
      rcases List.mem_append.mp he with he | he
      · exact s.bd e he
      · rw [List.mem_singleton.mp he]; exact hr
theorem merge_ok : ∀ (ks : List Str) (R : List Int) {n : Nat} {st : List (Str × Int)}, StD n st → (∀ x ∈ R, 1 ≤ x ∧ x ≤ 1000000000000000000) → ∃ st', mergeK (kvS st) ((ks.map (Sum.inr : Str → Key)).zip (R.map V.int)) = kvS st' ∧ StD (n + ks.length) st'
  | [], R, n, st, s, _ => ⟨st, rfl, s⟩
  | k :: ks, [], n, st, s, _ => ⟨st, rfl, s.nd, by have := s.len; rw [List.length_cons]; omega, s.bd⟩
  | k :: ks, r :: R, n, st, s, h => by
    obtain ⟨st1, e1, s1⟩ := std_put s (k := k) (h r List.mem_cons_self)
    obtain ⟨st2, e2, s2⟩ := merge_ok ks R s1 fun x hx => h x (List.mem_cons_of_mem _ hx)
    refine ⟨st2, ?_, by rw [List.length_cons]; have e : n + (ks.length + 1) = n + 1 + ks.length := by omega
                        rw [e]; exact s2⟩
    rw [← e2, ← e1]
    rfl
end Sl

set_option Elab.async false
set_option linter.all false
set_option maxRecDepth 100000
set_option maxHeartbeats 4000000
/-! The walks: halls, standings, moments. -/
namespace Sl
open PySem L2
local macro_rules | `(tactic| walk_at "go1") => `(tactic| first
  | with_reducible refine x_seq ?_
  | with_reducible refine x_asg ?_
  | with_reducible refine x_name ?_
  | with_reducible refine x_ret ?_
  | with_reducible refine x_if ?_
  | ((with_reducible refine' x_var ?hv ?_); (case hv => rfl))
  | with_reducible refine x_c ?_
  | with_reducible refine' x_non ?_
  | with_reducible refine x_yes ?_
  | with_reducible refine' iteT ?_
  | with_reducible refine' iteF ?_
  | with_reducible refine x_op ?_
  | with_reducible refine x_I0 ?_
  | with_reducible refine x_test ?_
  | with_reducible refine' x_bl ?_
  | with_reducible refine x_eqI ?_
  | with_reducible refine x_neI ?_
  | with_reducible refine x_cons ?_
  | with_reducible refine x_nil ?_
  | with_reducible refine x_call ?_
  | with_reducible refine x_cb ?_
  | with_reducible refine x_par ?_
  | with_reducible refine x_par2 ?_
  | with_reducible refine x_gcons ?_
  | with_reducible refine x_gnil ?_
  | with_reducible refine x_next ?_
  | with_reducible refine x_drop ?_
  | with_reducible refine x_bm ?_
  | with_reducible refine x_fld ?_
  | with_reducible refine x_dget ?_
  | with_reducible refine x_lc ?_
  | with_reducible refine x_sfld ?_
  | with_reducible refine x_meth ?_
  | with_reducible refine x_augS ?_
  | with_reducible refine x_gsub ?_
  | with_reducible refine x_ipI ?_
  | ((with_reducible refine' x_ixLc ?ha ?hk ?_); (case ha => assumption); (case hk => rfl))
  | with_reducible refine x_lc2 ?_
  | with_reducible refine x_rng1 ?_
  | with_reducible refine x_rng2 ?_
  | with_reducible refine x_un ?_
  | with_reducible refine x_unI ?_
  | with_reducible refine x_zip ?_
  | with_reducible refine x_sl ?_
  | with_reducible refine x_nopart ?_
  | with_reducible refine x_part ?_
  | with_reducible refine' x_partI ?_
  | ((with_reducible refine' x_slL ?ha ?_); (case ha => assumption))
  | with_reducible refine' x_min2 ?_
  | with_reducible refine' x_max2 ?_
  | with_reducible refine x_lv ?_
  | with_reducible refine x_dc ?_
  | with_reducible refine x_dcT ?_
  | with_reducible refine x_iKeys ?_
  | with_reducible refine x_itemsT ?_
  | ((with_reducible refine' x_itemsTI ?ha ?_); (case ha => assumption))
  | ((with_reducible refine' x_keysK ?ha ?_); (case ha => assumption))
  | ((with_reducible refine' x_keysT ?ha ?_); (case ha => assumption))
  | with_reducible refine x_dput ?_
  | with_reducible refine x_faug ?_
  | with_reducible refine x_add ?_
  | with_reducible refine x_items ?_
  | ((with_reducible refine' x_itemsI ?ha ?_); (case ha => assumption))
  | ((with_reducible refine' x_faugI ?ha ?hc ?hn ?hl ?_); (case ha => assumption); (case hc => assumption); (case hn => assumption); (case hl => rfl))
  | with_reducible refine x_make ?_
  | with_reducible refine x_andV ?_
  | with_reducible refine x_orV ?_
  | with_reducible refine x_notV ?_
  | with_reducible refine x_chain ?_
  | with_reducible refine x_notT ?_
  | with_reducible refine x_andT ?_
  | with_reducible refine x_orT ?_
  | with_reducible refine x_tB ?_
  | with_reducible refine' iteNT ?_
  | with_reducible refine' iteNF ?_
  | with_reducible refine x_isiI ?_
  | with_reducible refine x_isiB ?_
  | ((with_reducible refine' x_isiL ?ha ?_); (case ha => assumption))
  | ((with_reducible refine' x_len ?ha ?_); (case ha => assumption))
  | ((with_reducible refine' x_lenT ?ha ?_); (case ha => assumption))
  | ((with_reducible refine' x_fldI ?ha ?hc ?hn ?hl ?_); (case ha => assumption); (case hc => assumption); (case hn => assumption); (case hl => rfl))
  | ((with_reducible refine' x_sfldI ?ha ?hc ?hn ?hl ?_); (case ha => assumption); (case hc => assumption); (case hn => assumption); (case hl => first | (with_unfolding_all decide) | (simp only [List.length_cons, List.length_nil]; omega)))
  | ((with_reducible refine' x_methI ?ha ?hl ?_); (case ha => assumption); (case hl => rfl))
  | with_reducible refine x_for ?_
  | with_reducible refine x_dset ?_
  | ((with_reducible refine' x_isD ?ha ?_); (case ha => assumption))
  | with_reducible refine x_iL ?_
  | with_reducible refine x_iT ?_
  | with_reducible refine x_dK ?_
  | with_reducible refine x_dT ?_
  | ((with_reducible refine' x_tyl ?ha ?_); (case ha => assumption))
  | ((with_reducible refine' x_lct ?ha ?_); (case ha => assumption))
  | ((with_reducible refine' x_tct ?ha ?_); (case ha => assumption))
  | ((with_reducible refine' x_gtup ?ha ?hn ?_); (case ha => assumption); (case hn => rfl))
  | ((with_reducible refine' x_ixT ?ha ?hk ?_); (case ha => assumption); (case hk => rfl))
  | (with_reducible refine x_tup ?_)
  | (with_reducible refine x_lst ?_))
local macro_rules | `(tactic| walk_at "go") => `(tactic| (repeat walk_at "go1"))
section
variable {P : Program} {w : World} {K : PySem.W.Frag} {mg : Str → Option Value} {base : Heap} {t1 t2 : Tok}
def sp_law_hall : Sp := fun vs H Q _ => ∃ (a c : Addr) (n m g : Int), vs = [.ref a, .int n, .int m, .int g] ∧ BagO a c H ∧ 1 ≤ n ∧ n ≤ 40 ∧ 1 ≤ m ∧ m ≤ 1000000 ∧ 1 ≤ g ∧ g ≤ 1000000000000000000 ∧
  ∀ p l d (L : List Int) (st : List (Str × Int)) H', SX [a] H H' → BagO a c H' → H l = none → H d = none → H' p = some (.tup [.ref l, .ref d]) → H' l = some (.lst (L.map V.int)) → 1 ≤ L.length → L.length ≤ 40 → Btw 1 1000000 L → H' d = some (.dK (kvS st)) → StD L.length st → Q (.ref p) H'
/-- slots of _law_hall: 0 _law_bag_here 1 _law_many 2 _law_most 3 _law_longest 4 _law_size 5 _law_spans_here 6 _law_there -/
abbrev s_law_hall : Stmt := top 53
theorem sc_law_hall : FnScope ["_law_bag_here", "_law_many", "_law_most", "_law_longest", "_law_size", "_law_spans_here", "_law_there"] ["_law_bag_here", "_law_many", "_law_most", "_law_longest"] (defScope s_law_hall) := ⟨rfl, rfl, rfl, by decide +kernel, rfl, by decide +kernel, by decide +kernel⟩
theorem ok_law_hall {f ft fs fn fr : Addr} {fd fdt fds fdn fdr : FuncData} (T : BtT mg t1 t2) (F : Fun K "_law_hall" "_law_hall" s_law_hall f fd) (D_law_take : FC P w K mg base 1 "_law_take" ["_law_bag_here", "_law_many"] sp_law_take ft fdt) (D_law_spans : FC P w K mg base 2 "_law_spans" ["_law_bag_here", "_law_many", "_law_most"] sp_law_spans fs fds)
    (D_law_names : FC P w K mg base 2 "_law_names" ["_law_bag_here", "_law_many"] sp_law_names fn fdn) (D_law_rests : FC P w K mg base 2 "_law_rests" ["_law_bag_here", "_law_many", "_law_most"] sp_law_rests fr fdr) : FnOk P w K mg base CX0 3 f fd ["_law_bag_here", "_law_many", "_law_most", "_law_longest"] sp_law_hall := by
  refine F.ok sc_law_hall (fun vs H Q E h => ?_) (fun cdv A outer s H vs Q E hr h => ?_)
  · obtain ⟨_, _, _, _, _, rfl, _⟩ := h
    rfl
  · refine ⟨_, (pss_cons (ps_set (i := 4) sc_law_hall.nd rfl (Or.inl rfl) (pe_op op_add pe_int (pe_f D_law_take hr (by decide) (pa_cons (pv 0) (pa_cons (pv 1) pa_nil)))))
      (pss_cons (ps_set (i := 5) sc_law_hall.nd rfl (Or.inl rfl) (pe_f D_law_spans hr (by decide) (pa_cons (pv 0) (pa_cons (pv 4) (pa_cons (pv 2) pa_nil)))))
      (pss_cons (ps_set (i := 6) sc_law_hall.nd rfl (Or.inl rfl) (pe_ix (kIxL (K := K) rfl) (pe_lst (pa_cons (pe_f D_law_take hr (by decide) (pa_cons (pv 0) (pa_cons (pe_op op_add (pv 4) pe_int) pa_nil))) (pa_cons (pv 4) pa_nil))) (pe_callTy (T := "int") kInt1 (by rfl) T.int (by decide +kernel) (pa_cons (pe_cmpR op_eq (pe_f D_law_take hr (by decide) (pa_cons (pv 0) (pa_cons pe_int pa_nil))) pe_int (nomark _)) pa_nil)) (fun _ _ => rfl)))
      (pss_one (ps_ret (pe_tup (pa_cons (pv 5) (pa_cons (pe_dictZip rfl (pa_cons (pe_f D_law_names hr (by decide) (pa_cons (pv 0) (pa_cons (pv 6) pa_nil))) (pa_cons (pe_f D_law_rests hr (by decide) (pa_cons (pv 0) (pa_cons (pv 6) (pa_cons (pv 3) pa_nil)))) pa_nil)) (by rfl) T.dict (by rfl) T.zip) pa_nil)))))))), ?_⟩
    obtain ⟨a, c, n, m, g, rfl, bag, hn, hn2, hm, hm2, hg, hg2, k⟩ := h
    walk_at "go"
    refine x_take bag (by omega) (by omega) fun s0 H1 u0 u1 sx1 bag1 => ?_
    walk_at "go"
    obtain ⟨sz, hsz⟩ : ∃ sz : Nat, 1 + s0 = (sz : Int) := ⟨(1 + s0).toNat, by omega⟩
    rw [hsz]
    refine ⟨a, c, sz, m, rfl, bag1, by omega, hm, hm2, fun l L H2 sx2 bag2 hl0 hl hLl hLb => ?_⟩
    walk_at "go"
    refine x_take bag2 (by omega) (by omega) fun x1 H3 y0 y1 sx3 bag3 => ?_
    walk_at "go"
    refine ⟨len2, fun p hp => ?_⟩
    have bfp := bag_fresh bag3 hp
    have s4 := same_new (o := .lst [.int x1, .int (sz : Int)]) hp
    have hp4 : (upd H3 p (.lst [.int x1, .int (sz : Int)])) p = some (.lst ([x1, (sz : Int)].map V.int)) := upd_same
    have bag4 := bag_same s4 bag3
    generalize upd H3 p (.lst [.int x1, .int (sz : Int)]) = H4 at *
    walk_at "go"
    refine x_take bag4 (by decide) (by decide) fun x2 H5 y2 y3 sx5 bag5 => ?_
    have hp5 := sx5 _ _ (by simp; exact fun z => bfp.1 z.symm) hp4
    walk_at "go"
    refine x_intB ?_
    have hpick : ∀ z : Int, 0 ≤ (if z = 1 then (1 : Int) else 0) := fun z => by split <;> omega
    refine x_pick (lo := 0) (hi := (sz : Int)) hp5 (by split <;> omega) (by show (if decide (x2 = 0) = true then (1 : Int) else 0) < 2; split <;> omega) (btw_cons ⟨by omega, by omega⟩ (btw_cons ⟨by omega, by omega⟩ btw_nil)) fun th t0 t1' => ?_
    obtain ⟨tn, htn⟩ : ∃ tn : Nat, th = (tn : Int) := ⟨th.toNat, by omega⟩
    subst htn
    have sxA : SX [a] H1 H5 := ((sx2.trans sx3).same s4).trans sx5
    have lna : l ≠ a := fun z => by
      obtain ⟨⟨xs, h1⟩, _⟩ := bag_lst bag1
      rw [z, h1] at hl0; cases hl0
    have hl5 : H5 l = some (.lst (L.map V.int)) := sx5 _ _ (by simp [lna]) (s4 _ _ (sx3 _ _ (by simp [lna]) hl))
    walk_at "go"
    refine x_dz ?_
    walk_at "go"
    refine ⟨a, c, tn, rfl, bag5, by omega, fun l2 ks H6 sx6 bag6 hl20 hl2 hks => ?_⟩
    walk_at "go"
    refine ⟨a, c, tn, g, rfl, bag6, by omega, hg, hg2, fun l3 R H7 sx7 bag7 hl30 hl3 hRl hRb => ?_⟩
    have l2na : l2 ≠ a := fun z => by
      obtain ⟨⟨xs, h1⟩, _⟩ := bag_lst bag5
      rw [z, h1] at hl20; cases hl20
    have hl27 := sx7 _ _ (by simp [l2na]) hl2
    walk_at "go"
    refine ⟨l2, l3, ks, R.map V.int, rfl, sql hl27, sql hl3, by rw [List.length_map, hks, hRl], fun d hd => ?_⟩
    obtain ⟨st, est, hst⟩ := merge_ok ks R (n := 0) (st := []) ⟨List.nodup_nil, Nat.le_refl _, fun e h => by simp at h⟩ hRb
    rw [show mergeK [] ((ks.map (Sum.inr : Str → Key)).zip (R.map V.int)) = kvS st from est]
    have s8 := same_new (o := .dK (kvS st)) hd
    have hd8 : (upd H7 d (.dK (kvS st))) d = some (.dK (kvS st)) := upd_same
    have sxB : SX [a] H5 H7 := sx6.trans sx7
    have sxC : SX [a] H H7 := (sx1.trans sxA).trans sxB
    have dna : a ≠ d := (bag_fresh bag7 hd).1
    have hd0 : H d = none := sx_none sxC (by simp; exact fun z => dna z.symm) hd
    have hl8 := s8 _ _ (sxB _ _ (by simp [lna]) hl5)
    have bag8 := bag_same s8 bag7
    generalize upd H7 d (.dK (kvS st)) = H8 at *
    walk_at "go"
    refine ⟨len2, fun q hq => ?_⟩
    have s9 := same_new (o := .tup [.ref l, .ref d]) hq
    refine k q l d L st _ ((sxC.same s8).same s9) (bag_same s9 bag8) (sx_none sx1 (by simp [lna]) hl0) hd0 upd_same (s9 _ _ hl8) (by omega) (by omega) hLb (s9 _ _ hd8) ⟨hst.nd, by have := hst.len; omega, hst.bd⟩

def sp_law_stand : Sp := fun vs H Q _ => ∃ (d : Addr) (st : List (Str × Int)), vs = [.ref d] ∧ H d = some (.dK (kvS st)) ∧ StD 1000 st ∧ ∀ v H', Same H H' → Tp H' v (stD (st.mergeSort leP)) → Q v H'
/-- slots of _law_stand: 0 _law_rests_here 1 _law_name -/
abbrev s_law_stand : Stmt := top 54
theorem sc_law_stand : FnScope ["_law_rests_here", "_law_name"] ["_law_rests_here"] (defScope s_law_stand) := ⟨rfl, rfl, rfl, by decide +kernel, rfl, by decide +kernel, by decide +kernel⟩
theorem ok_law_stand {f : Addr} {fd : FuncData} (T : BtT mg t1 t2) (F : Fun K "_law_stand" "_law_stand" s_law_stand f fd) : FnOk P w K mg base CX0 1 f fd ["_law_rests_here"] sp_law_stand := by
  refine F.ok sc_law_stand (fun vs H Q E h => ?_) (fun cdv A outer s H vs Q E hr h => ?_)
  · obtain ⟨_, _, rfl, _⟩ := h
    rfl
  · have hu := hu_of hr
    refine ⟨_, (pss_one (ps_ret (pe_callTy (T := "tuple") (kTuple (K := K) rfl) (by rfl) T.tuple (by decide +kernel) (pa_cons (pe_callB (kSortedTp (K := K) rfl hr.units) (by rfl) T.sorted (by decide +kernel) (pa_cons (pe_lock (pe_lc (own := [("_law_name", 1)]) (g := (gName 1)) rfl sc_law_stand.nd (pi_keys (pv 0)) (blkOk_by (N := ["_law_rests_here", "_law_name"]) (sc := defScope s_law_stand) (by decide +kernel)) (fun _ _ _ _ _ => (pg_name (i := 1) sc_law_stand.nd rfl (Or.inl rfl))) (fun _ _ _ _ _ => pts_nil) (fun _ _ _ _ _ => (pe_tup (pa_cons (pv 1) (pa_cons (pe_dget hu (pv 0) (pv 1) (fun _ _ => rfl)) pa_nil)))))) pa_nil)) pa_nil)))), ?_⟩
    obtain ⟨d, st, rfl, hd, hst, k⟩ := h
    walk_at "go"
    refine x_lockE hd True.intro fun od => ?_
    have hdl : (upd H d (.frz od (.dK (kvS st)))) d = some (.frz od (.dK (kvS st))) := upd_same
    walk_at "go"
    intro D hD
    have hlen := hst.len
    refine lc_tp walk_keys (fun i => st[i]?.bind fun e => some (prD e)) hD (by unfold kvS; rw [List.length_map]; omega) (fun H' s' => s' _ _ hdl) (fun i x H1 H2 Kb Kf hi s1 y kb kf => ?_) (fun H1 acc s1 hacc tacc => ?_)
    · obtain ⟨rfl, key, v, hk, rfl⟩ := y
      unfold kvS at hk
      rw [List.getElem?_map] at hk
      cases he : st[i]? with
      | none => rw [he] at hk; cases hk
      | some e =>
        rw [he] at hk
        have hk : ((Sum.inr e.1 : Key), V.int e.2) = (key, v) := Option.some.inj hk
        have hk1 : (Sum.inr e.1 : Key) = key := congrArg Prod.fst hk
        have hk2 : V.int e.2 = v := congrArg Prod.snd hk
        subst hk1
        subst hk2
        have hd1 := s1 _ _ hdl
        have hv : valV (kvS st) (.inr e.1) = some (.int e.2) := by
          refine valV_nth (i := i) ?_ ?_
          · have e0 : (kvS st).map (·.1) = (st.map (·.1)).map Sum.inr := by unfold kvS; rw [List.map_map, List.map_map]; rfl
            rw [e0]
            exact nd_map (f := (Sum.inr : Str → Key)) (fun _ _ z => Sum.inr.inj z) hst.nd
          · unfold kvS
            rw [List.getElem?_map, he]
            rfl
        walk_at "go"
        refine ⟨rfl, ?_⟩
        walk_at "go"
        refine x_dgF (k := .inr e.1) hd1 hv ?_
        walk_at "go"
        refine ⟨len2, fun z hz => ?_⟩
        exact kb _ _ _ (by rw [he]; rfl) (same_new hz) (mk_pr upd_same)
    · rw [show (kvS st).length = st.length by unfold kvS; rw [List.length_map], fm_bind, fm_some] at tacc
      have hd1 := s1 _ _ hdl
      refine ⟨hd1, ?_⟩
      have sH := same_unlock hd s1
      have hDd : D ≠ d := fun z => by rw [z] at hD; rw [upd_same] at hD; cases hD
      have hacc2 : (upd H1 d (.dK (kvS st))) D = some (.lst acc) := by rw [upd_ne hDd]; exact hacc
      have tacc2 := tpa_keep (kp_unl (u := .dK (kvS st)) s1) tacc
      generalize upd H1 d (.dK (kvS st)) = H2 at *
      walk_at "go"
      refine ⟨D, acc, _, rfl, sql hacc2, tacc2, pr_alike _, pr_sortable _, pr_depth _, fun q ys hq ty => ?_⟩
      walk_at "go"
      refine x_tupL upd_same fun q2 hq2 => ?_
      rw [pr_sort] at ty
      exact k _ _ ((sH.trans (same_new hq)).trans (same_new hq2)) (mk_st upd_same (tpa_keep (kp_same ((same_new hq).trans (same_new hq2))) ty))
end
end Sl

set_option Elab.async false
set_option linter.all false
set_option maxRecDepth 100000
set_option maxHeartbeats 4000000
/-! The walks: moments, sums. -/
namespace Sl
open PySem L2
local macro_rules | `(tactic| walk_at "go1") => `(tactic| first
  | with_reducible refine x_seq ?_
  | with_reducible refine x_asg ?_
  | with_reducible refine x_name ?_
  | with_reducible refine x_ret ?_
  | with_reducible refine x_if ?_
  | ((with_reducible refine' x_var ?hv ?_); (case hv => rfl))
  | with_reducible refine x_c ?_
  | with_reducible refine' x_non ?_
  | with_reducible refine x_yes ?_
  | with_reducible refine' iteT ?_
  | with_reducible refine' iteF ?_
  | with_reducible refine x_op ?_
  | with_reducible refine x_I0 ?_
  | with_reducible refine x_test ?_
  | with_reducible refine' x_bl ?_
  | with_reducible refine x_eqI ?_
  | with_reducible refine x_neI ?_
  | with_reducible refine x_cons ?_
  | with_reducible refine x_nil ?_
  | with_reducible refine x_call ?_
  | with_reducible refine x_cb ?_
  | with_reducible refine x_par ?_
  | with_reducible refine x_par2 ?_
  | with_reducible refine x_gcons ?_
  | with_reducible refine x_gnil ?_
  | with_reducible refine x_next ?_
  | with_reducible refine x_drop ?_
  | with_reducible refine x_bm ?_
  | with_reducible refine x_fld ?_
  | with_reducible refine x_dget ?_
  | with_reducible refine x_lc ?_
  | with_reducible refine x_sfld ?_
  | with_reducible refine x_meth ?_
  | with_reducible refine x_augS ?_
  | with_reducible refine x_gsub ?_
  | with_reducible refine x_ipI ?_
  | ((with_reducible refine' x_ixLc ?ha ?hk ?_); (case ha => assumption); (case hk => rfl))
  | with_reducible refine x_lc2 ?_
  | with_reducible refine x_rng1 ?_
  | with_reducible refine x_rng2 ?_
  | with_reducible refine x_un ?_
  | with_reducible refine x_unI ?_
  | with_reducible refine x_zip ?_
  | with_reducible refine x_sl ?_
  | with_reducible refine x_nopart ?_
  | with_reducible refine x_part ?_
  | with_reducible refine' x_partI ?_
  | ((with_reducible refine' x_slL ?ha ?_); (case ha => assumption))
  | with_reducible refine' x_min2 ?_
  | with_reducible refine' x_max2 ?_
  | with_reducible refine x_lv ?_
  | with_reducible refine x_dc ?_
  | with_reducible refine x_dcT ?_
  | with_reducible refine x_iKeys ?_
  | with_reducible refine x_itemsT ?_
  | ((with_reducible refine' x_itemsTI ?ha ?_); (case ha => assumption))
  | ((with_reducible refine' x_keysK ?ha ?_); (case ha => assumption))
  | ((with_reducible refine' x_keysT ?ha ?_); (case ha => assumption))
  | with_reducible refine x_dput ?_
  | with_reducible refine x_faug ?_
  | with_reducible refine x_add ?_
  | with_reducible refine x_items ?_
  | ((with_reducible refine' x_itemsI ?ha ?_); (case ha => assumption))
  | ((with_reducible refine' x_faugI ?ha ?hc ?hn ?hl ?_); (case ha => assumption); (case hc => assumption); (case hn => assumption); (case hl => rfl))
  | with_reducible refine x_make ?_
  | with_reducible refine x_andV ?_
  | with_reducible refine x_orV ?_
  | with_reducible refine x_notV ?_
  | with_reducible refine x_chain ?_
  | with_reducible refine x_notT ?_
  | with_reducible refine x_andT ?_
  | with_reducible refine x_orT ?_
  | with_reducible refine x_tB ?_
  | with_reducible refine' iteNT ?_
  | with_reducible refine' iteNF ?_
  | with_reducible refine x_isiI ?_
  | with_reducible refine x_isiB ?_
  | ((with_reducible refine' x_isiL ?ha ?_); (case ha => assumption))
  | ((with_reducible refine' x_len ?ha ?_); (case ha => assumption))
  | ((with_reducible refine' x_lenT ?ha ?_); (case ha => assumption))
  | ((with_reducible refine' x_fldI ?ha ?hc ?hn ?hl ?_); (case ha => assumption); (case hc => assumption); (case hn => assumption); (case hl => rfl))
  | ((with_reducible refine' x_sfldI ?ha ?hc ?hn ?hl ?_); (case ha => assumption); (case hc => assumption); (case hn => assumption); (case hl => first | (with_unfolding_all decide) | (simp only [List.length_cons, List.length_nil]; omega)))
  | ((with_reducible refine' x_methI ?ha ?hl ?_); (case ha => assumption); (case hl => rfl))
  | with_reducible refine x_for ?_
  | with_reducible refine x_dset ?_
  | ((with_reducible refine' x_isD ?ha ?_); (case ha => assumption))
  | with_reducible refine x_iL ?_
  | with_reducible refine x_iT ?_
  | with_reducible refine x_dK ?_
  | with_reducible refine x_dT ?_
  | ((with_reducible refine' x_tyl ?ha ?_); (case ha => assumption))
  | ((with_reducible refine' x_lct ?ha ?_); (case ha => assumption))
  | ((with_reducible refine' x_tct ?ha ?_); (case ha => assumption))
  | ((with_reducible refine' x_gtup ?ha ?hn ?_); (case ha => assumption); (case hn => rfl))
  | ((with_reducible refine' x_ixT ?ha ?hk ?_); (case ha => assumption); (case hk => rfl))
  | (with_reducible refine x_tup ?_)
  | (with_reducible refine x_lst ?_))
local macro_rules | `(tactic| walk_at "go") => `(tactic| (repeat walk_at "go1"))
section
variable {P : Program} {w : World} {K : PySem.W.Frag} {mg : Str → Option Value} {base : Heap} {t1 t2 : Tok}
theorem x_pickA {K : PySem.W.Frag} {H : Hp} {Q : VK} {a : Addr} {xs : List Int} {k : Int} (ha : H a = some (.lst (xs.map V.int))) (h0 : 0 ≤ k) (h1 : k < xs.length) (h : ∀ x, Q (.int x) H) : rIxL K (.ref a) (.int k) H Q := by
  have hl : k.toNat < xs.length := by omega
  refine ⟨a, _, k, _, rfl, rfl, sql ha, ?_, h (xs[k.toNat]'hl)⟩
  have e := atI_nat (xs := xs.map V.int) (j := k.toNat) (v := .int (xs[k.toNat]'hl)) (by rw [List.getElem?_map, List.getElem?_eq_getElem hl]; rfl)
  rwa [Int.toNat_of_nonneg h0] at e
theorem rows_na {a c rl : Addr} {H : Hp} {zs : List V} {rows : List (Int × Nm × Nm)} (bag : BagO a c H) (hl : H rl = some (.lst zs)) (t : TpAll H zs (rows.map rowD)) : rl ≠ a := fun z => by
  obtain ⟨b0, b1, b2, cells, b⟩ := bag
  have h := b.hl
  rw [z, h] at hl
  have e : [V.int b0, .int b1, .int b2, .ref c] = zs := by
    have := Option.some.inj hl
    injection this
  subst e
  cases rows with
  | nil => exact nomatch (tpa_nil t)
  | cons r rs =>
    obtain ⟨x, y, e, h1, _⟩ := tpa_cons t
    have e1 : V.int b0 = x := (List.cons.inj e).1
    subst e1
    exact nomatch h1
def sp_law_moment : Sp := fun vs H Q _ => ∃ (a c rl : Addr) (zs : List V) (rows : List (Int × Nm × Nm)) (b : Int), vs = [.ref a, .ref rl, .int b] ∧ BagO a c H ∧ H rl = some (.lst zs) ∧ TpAll H zs (rows.map rowD) ∧ rows.length ≤ 1000 ∧ 1 ≤ b ∧ b ≤ 1000 ∧ ∀ v H', 0 ≤ v → SX [a] H H' → BagO a c H' → Q (.int v) H'
/-- slots of _law_moment: 0 _law_bag_here 1 _law_rows 2 _law_by 3 _law_near -/
abbrev s_law_moment : Stmt := top 55
theorem sc_law_moment : FnScope ["_law_bag_here", "_law_rows", "_law_by", "_law_near"] ["_law_bag_here", "_law_rows", "_law_by"] (defScope s_law_moment) := ⟨rfl, rfl, rfl, by decide +kernel, rfl, by decide +kernel, by decide +kernel⟩
theorem ok_law_moment {f ft : Addr} {fd fdt : FuncData} (T : BtT mg t1 t2) (F : Fun K "_law_moment" "_law_moment" s_law_moment f fd) (D_law_take : FC P w K mg base 1 "_law_take" ["_law_bag_here", "_law_many"] sp_law_take ft fdt) : FnOk P w K mg base CX0 2 f fd ["_law_bag_here", "_law_rows", "_law_by"] sp_law_moment := by
  refine F.ok sc_law_moment (fun vs H Q E h => ?_) (fun cdv A outer s H vs Q E hr h => ?_)
  · obtain ⟨_, _, _, _, _, _, rfl, _⟩ := h
    rfl
  · refine ⟨_, (pss_cons (ps_set (i := 3) sc_law_moment.nd rfl (Or.inl rfl) pe_int)
      (pss_cons (ps_if (pt_cmpR (kNeD (K := K) rfl hr.units) (pv 1) (pe_lst pa_nil) (nomark _)) (pss_one (ps_set (i := 3) sc_law_moment.nd rfl (Or.inl rfl) (pe_op op_sub (pe_op op_add (pe_ix (kIxT (K := K) rfl) (pe_ix (kIxL (K := K) rfl) (pv 1) (pe_f D_law_take hr (by decide) (pa_cons (pv 0) (pa_cons (pe_callB (kLen (K := K) rfl) (by rfl) T.len (by decide +kernel) (pa_cons (pv 1) pa_nil)) pa_nil))) (fun _ _ => rfl)) pe_int (fun _ _ => rfl)) (pe_f D_law_take hr (by decide) (pa_cons (pv 0) (pa_cons pe_int pa_nil)))) pe_int))) pss_nil)
      (pss_one (ps_ret (pe_callB (kMax2 rfl) (by rfl) T.max (by decide +kernel) (pa_cons pe_int (pa_cons (pe_ix (kIxL (K := K) rfl) (pe_lst (pa_cons (pv 3) (pa_cons (pe_f D_law_take hr (by decide) (pa_cons (pv 0) (pa_cons pe_int pa_nil))) (pa_cons (pe_f D_law_take hr (by decide) (pa_cons (pv 0) (pa_cons (pe_op op_sub (pe_op op_fdivN (pe_op op_pow pe_int pe_int) (pv 2)) pe_int) pa_nil))) pa_nil)))) (pe_f D_law_take hr (by decide) (pa_cons (pv 0) (pa_cons pe_int pa_nil))) (fun _ _ => rfl)) pa_nil))))))), ?_⟩
    obtain ⟨a, c, rl, zs, rows, b, rfl, bag, hl, tz, hsz, hb, hb2, k⟩ := h
    have hna := rows_na bag hl tz
    have hlz := data_len tz
    with_reducible refine x_seq ?_
    with_reducible refine x_asg ?_
    with_reducible refine x_c ?_
    with_reducible refine x_name ?_
    with_reducible refine' x_seqM ?M ?ha ?hb
    case M => exact (fun σ' H' => ∃ near : Int, σ' = [some (.ref a), some (.ref rl), some (.int b), some (.int near)] ∧ SX [a] H H' ∧ BagO a c H')
    · intro N hN
      walk_at "go"
      refine ⟨len0, fun q hq => ?_⟩
      have s1 : Same H (upd H q (.lst [])) := same_new hq
      refine x_neL0 (dp_list (s1 _ _ hl) (tpa_keep (kp_same s1) tz)) (dp_list upd_same .nil) (sh_list (sh_map sh_row _)) (by decide) ?_
      have bag1 := bag_same s1 bag
      generalize upd H q (.lst []) = H1 at *
      have hl1 := s1 _ _ hl
      have tz1 := tpa_keep (kp_same s1) tz
      refine x_bl ?_
      cases hrw : rows with
      | nil =>
        rw [show (!(([] : List (Int × Nm × Nm)).map rowD).isEmpty) = false from rfl]
        walk_at "go"
        exact hN _ _ ⟨0, rfl, sx_of s1, bag1⟩
      | cons r0 rr =>
        rw [show (!((r0 :: rr).map rowD).isEmpty) = true from rfl]
        have hpos : 0 < zs.length := by rw [hlz, hrw]; simp
        walk_at "go"
        refine x_take bag1 (by omega) (by omega) fun v H2 u0 u1 sx2 bag2 => ?_
        have hl2 := sx2 _ _ (by simp [hna]) hl1
        have kp2 := bag_kp bag1 sx2
        have hvl : v.toNat < zs.length := by omega
        have hzv : zs[v.toNat]? = some (zs[v.toNat]'hvl) := List.getElem?_eq_getElem hvl
        obtain ⟨r, hr', tr⟩ := data_at (tpa_keep kp2 tz1) hzv
        obtain ⟨pa, x1, x2, x3, ep, hpa, t1', t2', t3'⟩ := tp_trip tr
        have hat := atI_nat hzv
        rw [Int.toNat_of_nonneg u0, ep] at hat
        cases tp_int t1'
        refine x_ixL hl2 hat ?_
        walk_at "go"
        refine x_take bag2 (by decide) (by decide) fun v3 H3 w0 w1 sx3 bag3 => ?_
        walk_at "go"
        exact hN _ _ ⟨_, rfl, ((sx_of s1).trans sx2).trans sx3, bag3⟩
    · rintro σ2 H2 ⟨near, rfl, sx, bag2⟩
      walk_at "go"
      refine x_take bag2 (by decide) (by decide) fun x1 H3 y0 y1 sx3 bag3 => ?_
      walk_at "go"
      refine x_pw (r := 1000000000000000000000000000000) ⟨by decide, by decide, by decide⟩ (by decide +kernel) ?_
      walk_at "go"
      refine x_div (by omega) (by omega) ?_
      have d1 : 3 ≤ 1000000000000000000000000000000 / b := Int.le_ediv_of_mul_le (by omega) (by omega)
      have d2 : 1000000000000000000000000000000 / b ≤ 1000000000000000000000000000000 := Int.ediv_le_self _ (by decide)
      walk_at "go"
      refine x_take bag3 (by omega) (by omega) fun x2 H4 y2 y3 sx4 bag4 => ?_
      walk_at "go"
      refine ⟨len3, fun p hp => ?_⟩
      have bfp := bag_fresh bag4 hp
      have s5 := same_new (o := .lst [.int near, .int x1, .int x2]) hp
      have hp5 : (upd H4 p (.lst [.int near, .int x1, .int x2])) p = some (.lst ([near, x1, x2].map V.int)) := upd_same
      have bag5 := bag_same s5 bag4
      generalize upd H4 p (.lst [.int near, .int x1, .int x2]) = H5 at *
      walk_at "go"
      refine x_take bag5 (by decide) (by decide) fun x3 H6 y4 y5 sx6 bag6 => ?_
      have hp6 := sx6 _ _ (by simp; exact fun z => bfp.1 z.symm) hp5
      refine x_pickA hp6 y4 y5 fun x => ?_
      walk_at "go"
      exact k _ H6 (by omega) ((((sx.trans sx3).trans sx4).same s5).trans sx6) bag6

def sums (L : List Int) (st : List (Str × Int)) (b : Int) : Int × Int × Int := (sumS oneUp (spansOf (run L st).sps b), sumS manyUp (spansOf (run L st).sps b), sumS givenUp (spansOf (run L st).sps b))
def sp_law_sums (cB : Addr) : Sp := fun vs H Q _ => ∃ (vb vst : V) (b : Int) (L : List Int) (st : List (Str × Int)), vs = [vb, vst, .int b] ∧ BS cB H vb vst L st ∧ ∀ p H', Same H H' → H' p = some (.tup [.int (sums L st b).1, .int (sums L st b).2.1, .int (sums L st b).2.2]) → Q (.ref p) H'
/-- slots of _law_sums: 0 _law_book 1 _law_stand_here 2 _law_many -/
abbrev s_law_sums : Stmt := top 56
theorem sc_law_sums : FnScope ["_law_book", "_law_stand_here", "_law_many"] ["_law_book", "_law_stand_here", "_law_many"] (defScope s_law_sums) := ⟨rfl, rfl, rfl, by decide +kernel, rfl, by decide +kernel, by decide +kernel⟩
theorem ok_law_sums {cB f fb fa fg : Addr} {fd fdb fda fdg : FuncData} (F : Fun K "_law_sums" "_law_sums" s_law_sums f fd) (D_beats_with : FC P w K mg base 9 "beats_with" ["book", "standing", "beats"] (sp_beats_with cB) fb fdb)
    (D_all_told : FC P w K mg base 9 "all_told" ["book", "standing", "beats"] (sp_all_told cB) fa fda) (D_given_over : FC P w K mg base 9 "given_over" ["book", "standing", "beats"] (sp_given_over cB) fg fdg) : FnOk P w K mg base CX0 10 f fd ["_law_book", "_law_stand_here", "_law_many"] (sp_law_sums cB) := by
  refine F.ok sc_law_sums (fun vs H Q E h => ?_) (fun cdv A outer s H vs Q E hr h => ?_)
  · obtain ⟨_, _, _, _, _, rfl, _⟩ := h
    rfl
  · refine ⟨_, (pss_one (ps_ret (pe_tup (pa_cons (pe_f D_beats_with hr (by decide) (pa_cons (pv 0) (pa_cons (pv 1) (pa_cons (pv 2) pa_nil)))) (pa_cons (pe_f D_all_told hr (by decide) (pa_cons (pv 0) (pa_cons (pv 1) (pa_cons (pv 2) pa_nil)))) (pa_cons (pe_f D_given_over hr (by decide) (pa_cons (pv 0) (pa_cons (pv 1) (pa_cons (pv 2) pa_nil)))) pa_nil)))))), ?_⟩
    obtain ⟨vb, vst, b, L, st, rfl, bs, k⟩ := h
    walk_at "go"
    refine ⟨vb, vst, b, L, st, rfl, bs, fun H1 s1 => ?_⟩
    walk_at "go"
    refine ⟨vb, vst, b, L, st, rfl, bs_same s1 bs, fun H2 s2 => ?_⟩
    walk_at "go"
    refine ⟨vb, vst, b, L, st, rfl, bs_same (s1.trans s2) bs, fun H3 s3 => ?_⟩
    walk_at "go"
    exact ⟨len3, fun p hp => k p _ (((s1.trans s2).trans s3).trans (same_new hp)) upd_same⟩
end
end Sl

set_option Elab.async false
set_option linter.all false
set_option maxRecDepth 100000
set_option maxHeartbeats 4000000
/-! The walks: what the law asks of two halls. -/
namespace Sl
open PySem L2
local macro_rules | `(tactic| walk_at "go1") => `(tactic| first
  | with_reducible refine x_seq ?_
  | with_reducible refine x_asg ?_
  | with_reducible refine x_name ?_
  | with_reducible refine x_ret ?_
  | with_reducible refine x_if ?_
  | ((with_reducible refine' x_var ?hv ?_); (case hv => rfl))
  | with_reducible refine x_c ?_
  | with_reducible refine' x_non ?_
  | with_reducible refine x_yes ?_
  | with_reducible refine' iteT ?_
  | with_reducible refine' iteF ?_
  | with_reducible refine x_op ?_
  | with_reducible refine x_I0 ?_
  | with_reducible refine x_test ?_
  | with_reducible refine' x_bl ?_
  | with_reducible refine x_eqI ?_
  | with_reducible refine x_neI ?_
  | with_reducible refine x_cons ?_
  | with_reducible refine x_nil ?_
  | with_reducible refine x_call ?_
  | with_reducible refine x_cb ?_
  | with_reducible refine x_par ?_
  | with_reducible refine x_par2 ?_
  | with_reducible refine x_gcons ?_
  | with_reducible refine x_gnil ?_
  | with_reducible refine x_next ?_
  | with_reducible refine x_drop ?_
  | with_reducible refine x_bm ?_
  | with_reducible refine x_fld ?_
  | with_reducible refine x_dget ?_
  | with_reducible refine x_lc ?_
  | with_reducible refine x_sfld ?_
  | with_reducible refine x_meth ?_
  | with_reducible refine x_augS ?_
  | with_reducible refine x_gsub ?_
  | with_reducible refine x_ipI ?_
  | ((with_reducible refine' x_ixLc ?ha ?hk ?_); (case ha => assumption); (case hk => rfl))
  | with_reducible refine x_lc2 ?_
  | with_reducible refine x_rng1 ?_
  | with_reducible refine x_rng2 ?_
  | with_reducible refine x_un ?_
  | with_reducible refine x_unI ?_
  | with_reducible refine x_zip ?_
  | with_reducible refine x_sl ?_
  | with_reducible refine x_nopart ?_
  | with_reducible refine x_part ?_
  | with_reducible refine' x_partI ?_
  | ((with_reducible refine' x_slL ?ha ?_); (case ha => assumption))
  | with_reducible refine' x_min2 ?_
  | with_reducible refine' x_max2 ?_
  | with_reducible refine x_lv ?_
  | with_reducible refine x_dc ?_
  | with_reducible refine x_dcT ?_
  | with_reducible refine x_iKeys ?_
  | with_reducible refine x_itemsT ?_
  | ((with_reducible refine' x_itemsTI ?ha ?_); (case ha => assumption))
  | ((with_reducible refine' x_keysK ?ha ?_); (case ha => assumption))
  | ((with_reducible refine' x_keysT ?ha ?_); (case ha => assumption))
  | with_reducible refine x_dput ?_
  | with_reducible refine x_faug ?_
  | with_reducible refine x_add ?_
  | with_reducible refine x_items ?_
  | ((with_reducible refine' x_itemsI ?ha ?_); (case ha => assumption))
  | ((with_reducible refine' x_faugI ?ha ?hc ?hn ?hl ?_); (case ha => assumption); (case hc => assumption); (case hn => assumption); (case hl => rfl))
  | with_reducible refine x_make ?_
  | with_reducible refine x_andV ?_
  | with_reducible refine x_orV ?_
  | with_reducible refine x_notV ?_
  | with_reducible refine x_chain ?_
  | with_reducible refine x_notT ?_
  | with_reducible refine x_andT ?_
  | with_reducible refine x_orT ?_
  | with_reducible refine x_tB ?_
  | with_reducible refine' iteNT ?_
  | with_reducible refine' iteNF ?_
  | with_reducible refine x_isiI ?_
  | with_reducible refine x_isiB ?_
  | ((with_reducible refine' x_isiL ?ha ?_); (case ha => assumption))
  | ((with_reducible refine' x_len ?ha ?_); (case ha => assumption))
  | ((with_reducible refine' x_lenT ?ha ?_); (case ha => assumption))
  | ((with_reducible refine' x_fldI ?ha ?hc ?hn ?hl ?_); (case ha => assumption); (case hc => assumption); (case hn => assumption); (case hl => rfl))
  | ((with_reducible refine' x_sfldI ?ha ?hc ?hn ?hl ?_); (case ha => assumption); (case hc => assumption); (case hn => assumption); (case hl => first | (with_unfolding_all decide) | (simp only [List.length_cons, List.length_nil]; omega)))
  | ((with_reducible refine' x_methI ?ha ?hl ?_); (case ha => assumption); (case hl => rfl))
  | with_reducible refine x_for ?_
  | with_reducible refine x_dset ?_
  | ((with_reducible refine' x_isD ?ha ?_); (case ha => assumption))
  | with_reducible refine x_iL ?_
  | with_reducible refine x_iT ?_
  | with_reducible refine x_dK ?_
  | with_reducible refine x_dT ?_
  | ((with_reducible refine' x_tyl ?ha ?_); (case ha => assumption))
  | ((with_reducible refine' x_lct ?ha ?_); (case ha => assumption))
  | ((with_reducible refine' x_tct ?ha ?_); (case ha => assumption))
  | ((with_reducible refine' x_gtup ?ha ?hn ?_); (case ha => assumption); (case hn => rfl))
  | ((with_reducible refine' x_ixT ?ha ?hk ?_); (case ha => assumption); (case hk => rfl))
  | (with_reducible refine x_tup ?_)
  | (with_reducible refine x_lst ?_))
local macro_rules | `(tactic| walk_at "go") => `(tactic| (repeat walk_at "go1"))
section
variable {P : Program} {w : World} {K : PySem.W.Frag} {mg : Str → Option Value} {base : Heap} {t1 t2 : Tok}
theorem sums_k {k : Int} (hk : 0 < k) {L : List Int} {st : List (Str × Int)} (G : Good L st) {b e : Int} (h0 : 0 ≤ e) (h1 : e < k) : sums (kL k L) (kS k st) (b * k + e) = ((sums L st b).1, (sums L st b).2.1, (sums L st b).2.2 * k) := by
  have hp : ∀ x ∈ (run L st).sps, ∀ p ∈ x.2, 0 < p.1.2 := fun x hx p hp => G.pos _ ((run_ok G).str x hx p hp).1
  unfold sums
  rw [run_k hk G, sps_k]
  have e1 := spans_k hk (f := oneUp) (c := 1) (fun _ _ => rfl) (fun ns l t => by show t = t * 1; rw [Int.mul_one]) (b := b) h0 h1 hp
  have e2 := spans_k hk (f := manyUp) (c := 1) (fun _ _ => by show (_ : Int) * 0 = 0; rw [Int.mul_zero]) (fun ns l t => by show (ns.length : Int) * t = (ns.length : Int) * t * 1; rw [Int.mul_one]) (b := b) h0 h1 hp
  have e3 := spans_k hk (f := givenUp) (c := k) (fun _ _ => by show (_ : Int) * 0 = 0; rw [Int.mul_zero]) (fun ns l t => by
    show (ns.length : Int) * (l * k) * t = (ns.length : Int) * l * t * k
    rw [← Int.mul_assoc, Int.mul_right_comm]) (b := b) h0 h1 hp
  rw [e1, e2, e3, Int.mul_one, Int.mul_one]
theorem isUp_k {k : Int} (hk : 0 < k) {L : List Int} {st : List (Str × Int)} (G : Good L st) (nm : Str) (b : Int) : sumS (isUp nm) (spansOf (run (kL k L) (kS k st)).sps (b * k)) = sumS (isUp nm) (spansOf (run L st).sps b) := by
  have hp : ∀ x ∈ (run L st).sps, ∀ p ∈ x.2, 0 < p.1.2 := fun x hx p hp => G.pos _ ((run_ok G).str x hx p hp).1
  rw [run_k hk G, sps_k]
  have e1 := spans_k hk (f := isUp nm) (c := 1) (fun ns l => by unfold isUp; split <;> rfl) (fun ns l t => by unfold isUp; rw [Int.mul_one]) (b := b) (e := 0) (Int.le_refl 0) hk hp
  rw [Int.add_zero, Int.mul_one] at e1
  exact e1
theorem far_k0 {k : Int} (hk : 0 < k) {L : List Int} {st : List (Str × Int)} (G : Good L st) (h : ∀ e ∈ st, 0 ≤ e.2) {b : Int} (hb : 0 ≤ b) : far (kL k L) (kS k st) (b * k) = kS k (far L st b) := by
  have := far_in hk G h hb (e := 0) (Int.le_refl 0) hk
  rw [Int.add_zero] at this
  rw [this]
  unfold kS
  refine List.map_congr_left fun x _ => ?_
  rw [Int.sub_zero]
/-- two halls, one so many times as slow -/
structure Two (cB : Addr) (H : Hp) (q s : Addr) (k : Int) (vb vst wb wst : V) (L : List Int) (st : List (Str × Int)) : Prop where
  hq : H q = some (.tup [vb, vst])
  hs : H s = some (.tup [wb, wst])
  b1 : BS cB H vb vst L st
  b2 : BS cB H wb wst (kL k L) (kS k st)
  k1 : 1 ≤ k
  k2 : k ≤ 1000
theorem two_same {cB : Addr} {H H' : Hp} {q s : Addr} {k : Int} {vb vst wb wst : V} {L : List Int} {st : List (Str × Int)} (e : Same H H') (t : Two cB H q s k vb vst wb wst L st) : Two cB H' q s k vb vst wb wst L st := ⟨e _ _ t.hq, e _ _ t.hs, bs_same e t.b1, bs_same e t.b2, t.k1, t.k2⟩
def sp_law_at_right (cB : Addr) : Sp := fun vs H Q _ => ∃ (q s : Addr) (k m e : Int) (vb vst wb wst : V) (L : List Int) (st : List (Str × Int)), vs = [.ref q, .ref s, .int k, .int m, .int e] ∧ Two cB H q s k vb vst wb wst L st ∧ 0 ≤ m ∧ 0 ≤ e ∧ e < k ∧ ∀ H', Same H H' → Q (.bl true) H'
/-- slots of _law_at_right: 0 _law_quick 1 _law_slow 2 _law_by 3 _law_many 4 _law_between 5 _law_book 6 _law_stand_here 7 _law_there 8 _law_late 9 _law_sums_here 10 _law_due 11 _law_name 12 _law_rest 13 _law_when 14 _law_names_here -/
abbrev s_law_at_right : Stmt := top 57
theorem sc_law_at_right : FnScope ["_law_quick", "_law_slow", "_law_by", "_law_many", "_law_between", "_law_book", "_law_stand_here", "_law_there", "_law_late", "_law_sums_here", "_law_due", "_law_name", "_law_rest", "_law_when", "_law_names_here"] ["_law_quick", "_law_slow", "_law_by", "_law_many", "_law_between"] (defScope s_law_at_right) := ⟨rfl, rfl, rfl, by decide +kernel, rfl, by decide +kernel, by decide +kernel⟩
theorem ok_law_at_right {cB f ff fs fu fm fp : Addr} {fd fdf fds fdu fdm fdp : FuncData} (T : BtT mg t1 t2) (F : Fun K "_law_at_right" "_law_at_right" s_law_at_right f fd) (D_far : FC P w K mg base 9 "far" ["book", "standing", "beats"] (sp_far cB) ff fdf) (D_slower_standing : FC P w K mg base 1 "slower_standing" ["standing", "by"] sp_slower_standing fs fds)
    (D_up_at : FC P w K mg base 9 "up_at" ["book", "standing", "beat"] (sp_up_at cB) fu fdu) (D_law_sums : FC P w K mg base 10 "_law_sums" ["_law_book", "_law_stand_here", "_law_many"] (sp_law_sums cB) fm fdm) (D_ups_from : FC P w K mg base 9 "ups_from" ["book", "standing", "beat", "many"] (sp_ups_from cB) fp fdp) :
    FnOk P w K mg base CX0 11 f fd ["_law_quick", "_law_slow", "_law_by", "_law_many", "_law_between"] (sp_law_at_right cB) := by
  refine F.ok sc_law_at_right (fun vs H Q E h => ?_) (fun cdv A outer s H vs Q E hr h => ?_)
  · obtain ⟨_, _, _, _, _, _, _, _, _, _, _, rfl, _⟩ := h
    rfl
  · refine ⟨_, (pss_cons (ps_asg (pv 0) (pg_tup (n := 2) rfl (pgs_cons (pg_name (i := 5) sc_law_at_right.nd rfl (Or.inl rfl)) (pgs_cons (pg_name (i := 6) sc_law_at_right.nd rfl (Or.inl rfl)) pgs_nil))))
      (pss_cons (ps_set (i := 7) sc_law_at_right.nd rfl (Or.inl rfl) (pe_f D_far hr (by decide) (pa_cons (pv 5) (pa_cons (pv 6) (pa_cons (pv 3) pa_nil)))))
      (pss_cons (ps_if (pt_cmpR (kNeD (K := K) rfl hr.units) (pe_f D_far hr (by decide) (pa_cons (pe_ix (kIxT (K := K) rfl) (pv 1) pe_int (fun _ _ => rfl)) (pa_cons (pe_ix (kIxT (K := K) rfl) (pv 1) pe_int (fun _ _ => rfl)) (pa_cons (pe_op op_mul (pv 3) (pv 2)) pa_nil)))) (pe_f D_slower_standing hr (by decide) (pa_cons (pv 7) (pa_cons (pv 2) pa_nil))) (nomark _)) (pss_one (ps_ret pe_bl)) pss_nil)
      (pss_cons (ps_set (i := 8) sc_law_at_right.nd rfl (Or.inl rfl) (pe_callTy (T := "tuple") (kTuple (K := K) rfl) (by rfl) T.tuple (by decide +kernel) (pa_cons (pe_lc (own := [("_law_name", 11), ("_law_rest", 12)]) (g := (gTup K 2 (gCons (gName 11) (gCons (gName 12) gNil)))) rfl sc_law_at_right.nd (pi_tup (pv 7)) (blkOk_by (N := ["_law_quick", "_law_slow", "_law_by", "_law_many", "_law_between", "_law_book", "_law_stand_here", "_law_there", "_law_late", "_law_sums_here", "_law_due", "_law_name", "_law_rest", "_law_when", "_law_names_here"]) (sc := defScope s_law_at_right) (by decide +kernel)) (fun _ _ _ _ _ => (pg_tup (n := 2) rfl (pgs_cons (pg_name (i := 11) sc_law_at_right.nd rfl (Or.inl rfl)) (pgs_cons (pg_name (i := 12) sc_law_at_right.nd rfl (Or.inl rfl)) pgs_nil)))) (fun _ _ _ _ _ => pts_nil) (fun _ _ _ _ _ => (pe_tup (pa_cons (pv 11) (pa_cons (pe_op op_sub (pe_op op_mul (pv 12) (pv 2)) (pv 4)) pa_nil))))) pa_nil)))
      (pss_cons (ps_if (pt_cmpR (kNeD (K := K) rfl hr.units) (pe_f D_far hr (by decide) (pa_cons (pe_ix (kIxT (K := K) rfl) (pv 1) pe_int (fun _ _ => rfl)) (pa_cons (pe_ix (kIxT (K := K) rfl) (pv 1) pe_int (fun _ _ => rfl)) (pa_cons (pe_op op_add (pe_op op_mul (pv 3) (pv 2)) (pv 4)) pa_nil)))) (pv 8) (nomark _)) (pss_one (ps_ret pe_bl)) pss_nil)
      (pss_cons (ps_if (pt_cmpR (kNeD (K := K) rfl hr.units) (pe_f D_up_at hr (by decide) (pa_cons (pe_ix (kIxT (K := K) rfl) (pv 1) pe_int (fun _ _ => rfl)) (pa_cons (pe_ix (kIxT (K := K) rfl) (pv 1) pe_int (fun _ _ => rfl)) (pa_cons (pe_op op_mul (pe_op op_add (pv 3) pe_int) (pv 2)) pa_nil)))) (pe_f D_up_at hr (by decide) (pa_cons (pv 5) (pa_cons (pv 6) (pa_cons (pe_op op_add (pv 3) pe_int) pa_nil)))) (nomark _)) (pss_one (ps_ret pe_bl)) pss_nil)
      (pss_cons (ps_if (PW.pt (pw_and (pt_cmpR op_gt (pv 4) pe_int (nomark _)) (pw_and1 (pt_cmpR (kNeD (K := K) rfl hr.units) (pe_f D_up_at hr (by decide) (pa_cons (pe_ix (kIxT (K := K) rfl) (pv 1) pe_int (fun _ _ => rfl)) (pa_cons (pe_ix (kIxT (K := K) rfl) (pv 1) pe_int (fun _ _ => rfl)) (pa_cons (pe_op op_add (pe_op op_mul (pv 3) (pv 2)) (pv 4)) pa_nil)))) (pe_lst pa_nil) (nomark _))))) (pss_one (ps_ret pe_bl)) pss_nil)
      (pss_cons (ps_set (i := 9) sc_law_at_right.nd rfl (Or.inl rfl) (pe_f D_law_sums hr (by decide) (pa_cons (pv 5) (pa_cons (pv 6) (pa_cons (pv 3) pa_nil)))))
      (pss_cons (ps_if (pt_cmpR (kNeD (K := K) rfl hr.units) (pe_f D_law_sums hr (by decide) (pa_cons (pe_ix (kIxT (K := K) rfl) (pv 1) pe_int (fun _ _ => rfl)) (pa_cons (pe_ix (kIxT (K := K) rfl) (pv 1) pe_int (fun _ _ => rfl)) (pa_cons (pe_op op_add (pe_op op_mul (pv 3) (pv 2)) (pv 4)) pa_nil)))) (pe_tup (pa_cons (pe_ix (kIxT (K := K) rfl) (pv 9) pe_int (fun _ _ => rfl)) (pa_cons (pe_ix (kIxT (K := K) rfl) (pv 9) pe_int (fun _ _ => rfl)) (pa_cons (pe_op op_mul (pe_ix (kIxT (K := K) rfl) (pv 9) pe_int (fun _ _ => rfl)) (pv 2)) pa_nil)))) (nomark _)) (pss_one (ps_ret pe_bl)) pss_nil)
      (pss_cons (ps_setLc (i := 10) (own := [("_law_when", 13), ("_law_names_here", 14)]) (g := (gTup K 2 (gCons (gName 13) (gCons (gName 14) gNil)))) rfl sc_law_at_right.nd rfl rfl (sw_true rfl rfl rfl (by decide +kernel)) (pi_list (pe_f D_ups_from hr (by decide) (pa_cons (pv 5) (pa_cons (pv 6) (pa_cons (pe_op op_add (pv 3) pe_int) (pa_cons pe_int pa_nil)))))) (blkOk_by (N := ["_law_quick", "_law_slow", "_law_by", "_law_many", "_law_between", "_law_book", "_law_stand_here", "_law_there", "_law_late", "_law_sums_here", "_law_due", "_law_name", "_law_rest", "_law_when", "_law_names_here"]) (sc := defScope s_law_at_right) (by decide +kernel)) (fun _ _ _ _ _ => (pg_tup (n := 2) rfl (pgs_cons (pg_name (i := 13) sc_law_at_right.nd rfl (Or.inl rfl)) (pgs_cons (pg_name (i := 14) sc_law_at_right.nd rfl (Or.inl rfl)) pgs_nil)))) (fun _ _ _ _ _ => pts_nil) (fun _ _ _ _ _ => (pe_tup (pa_cons (pe_op op_mul (pv 13) (pv 2)) (pa_cons (pv 14) pa_nil)))))
      (pss_one (ps_ret (pe_cmpR (kEqD (K := K) rfl hr.units) (pe_f D_ups_from hr (by decide) (pa_cons (pe_ix (kIxT (K := K) rfl) (pv 1) pe_int (fun _ _ => rfl)) (pa_cons (pe_ix (kIxT (K := K) rfl) (pv 1) pe_int (fun _ _ => rfl)) (pa_cons (pe_op op_add (pe_op op_mul (pv 3) (pv 2)) pe_int) (pa_cons pe_int pa_nil))))) (pv 10) (nomark _)))))))))))))), ?_⟩
    obtain ⟨q, sl, k, m, e, vb, vst, wb, wst, L, st, rfl, two, hm, he0, he1, kQ⟩ := h
    have k1 := two.k1
    have k2 := two.k2
    have hk : 0 < k := by omega
    have G := two.b1.good
    have nn := two.b1.nn
    have hmk : 0 ≤ m * k := Int.mul_nonneg hm (by omega)
    have hq := two.hq
    have hs := two.hs
    walk_at "go"
    refine ⟨vb, vst, m, L, st, rfl, two.b1, hm, fun v1 H1 s1 tv1 => ?_⟩
    have two1 := two_same s1 two
    have hs1 := two1.hs
    walk_at "go"
    refine x_mulR (by omega) (by omega) ?_
    walk_at "go"
    refine ⟨wb, wst, m * k, _, _, rfl, two1.b2, hmk, fun v2 H2 s2 tv2 => ?_⟩
    have flen : (far L st m).length ≤ 1000 := by
      rw [far_len hk G nn hm]
      have := len40 G
      omega
    walk_at "go"
    refine ⟨v1, far L st m, k, rfl, tp_keep (kp_same s2) tv1, flen, by omega, k2, fun v3 H3 s3 tv3 => ?_⟩
    rw [far_k0 hk G nn hm] at tv2
    refine x_neS (tp_dp (tp_keep (kp_same s3) tv2)) (tp_dp tv3) (sh_st _) (by decide) ?_
    have s13 : Same H H3 := (s1.trans s2).trans s3
    have tv1' := tp_keep (kp_same (s2.trans s3)) tv1
    have two3 := two_same s13 two
    have hs3 := two3.hs
    obtain ⟨ta, txs, rfl, hta, tta⟩ := tp_st tv1'
    walk_at "go"
    intro D hD
    refine lc_tup tta (by omega) (fun x => some (prD (x.1, x.2 * k - e))) hD (fun x v H4 Kb Kf hx s4 tx kb kf => ?_) (fun H4 acc s4 hacc tacc => ?_) hta
    · obtain ⟨p, rfl, hp⟩ := tp_stt tx
      walk_at "go"
      refine ⟨rfl, ?_⟩
      walk_at "go"
      refine x_mulR (by omega) (by omega) ?_
      walk_at "go"
      exact ⟨len2, fun z hz => kb _ _ _ rfl (same_new hz) (mk_pr upd_same)⟩
    · rw [fm_some] at tacc
      have e1 : (far L st m).map (fun x => prD (x.1, x.2 * k - e)) = ((far L st m).map fun x => (x.1, x.2 * k - e)).map prD := by rw [List.map_map]; rfl
      rw [e1, ← far_in hk G nn hm he0 he1] at tacc
      walk_at "go"
      refine x_tupL hacc fun lt hlt => ?_
      have s5 := same_new (o := .tup acc) hlt
      have hlt5 : (upd H4 lt (.tup acc)) lt = some (.tup acc) := upd_same
      have tl5 : Tp (upd H4 lt (.tup acc)) (.ref lt) (stD (far (kL k L) (kS k st) (m * k + e))) := mk_st hlt5 (tpa_keep (kp_same s5) tacc)
      generalize upd H4 lt (.tup acc) = H5 at *
      have s15 : Same H H5 := (s13.trans s4).trans s5
      have two5 := two_same s15 two
      have hs5 := two5.hs
      walk_at "go"
      refine x_mulR (by omega) (by omega) ?_
      walk_at "go"
      refine ⟨wb, wst, m * k + e, _, _, rfl, two5.b2, by omega, fun v6 H6 s6 tv6 => ?_⟩
      walk_at "go"
      refine x_neS (tp_dp tv6) (tp_dp (tp_keep (kp_same s6) tl5)) (sh_st _) (by decide) ?_
      have s16 := s15.trans s6
      have two6 := two_same s16 two
      have hs6 := two6.hs
      walk_at "go"
      refine x_mulR (by omega) (by omega) ?_
      walk_at "go"
      have hup1 : 1 ≤ (m + 1) * k := by
        have := Int.mul_le_mul (show (1 : Int) ≤ m + 1 by omega) k1 (by omega) (by omega)
        omega
      refine ⟨wb, wst, (m + 1) * k, _, _, rfl, two6.b2, hup1, fun u1 H7 s7 hu1 => ?_⟩
      have two7 := two_same (s16.trans s7) two
      walk_at "go"
      refine ⟨vb, vst, m + 1, L, st, rfl, two7.b1, by omega, fun u2 H8 s8 hu2 => ?_⟩
      rw [upAt_k hk G nn hm] at hu1
      have tu : ∀ H : Hp, TpAll H ((upAt L st (m + 1)).map V.str) ((upAt L st (m + 1)).map PyData.str) := fun H => tpa_of_strs H _
      refine x_neS (dp_list (s8 _ _ hu1) (tu _)) (dp_list hu2 (tu _)) (sh_list (n := 0) (sh_map (fun x => sh_str x) _)) (by decide) ?_
      have s18 := (s16.trans s7).trans s8
      with_reducible refine' x_bl ?_
      with_reducible refine' iteF ?_
      with_reducible refine x_next ?_
      with_reducible refine' x_seqM ?M ?ha ?hb
      case M => exact (fun σ' H' => σ' = [some (.ref q), some (.ref sl), some (.int k), some (.int m), some (.int e), some vb, some vst, some (.ref ta), some (.ref lt), none, none, none, none, none, none] ∧ Same H H')
      · intro N hN
        have two8 := two_same s18 two
        have hs8 := two8.hs
        walk_at "go"
        refine x_dec (fun c => ?_) (fun c => ?_)
        · walk_at "go"
          refine x_mulR (by omega) (by omega) ?_
          walk_at "go"
          refine ⟨wb, wst, m * k + e, _, _, rfl, two8.b2, by omega, fun u3 H9 s9 hu3 => ?_⟩
          rw [upAt_none hk G nn hm c he1] at hu3
          walk_at "go"
          refine ⟨len0, fun z hz => ?_⟩
          refine x_neS (d := .list []) (n := 1) (dp_list ((same_new hz) _ _ hu3) .nil) (dp_list upd_same .nil) (sh_list (n := 0) (fun d hd => by simp at hd)) (by decide) ?_
          walk_at "go"
          exact hN _ _ ⟨rfl, (s18.trans s9).trans (same_new hz)⟩
        · walk_at "go"
          exact hN _ _ ⟨rfl, s18⟩
      · rintro σ9 H9 ⟨rfl, s9⟩
        have two9 := two_same s9 two
        have hs9 := two9.hs
        walk_at "go"
        refine ⟨vb, vst, m, L, st, rfl, two9.b1, fun p1 H10 s10 hp1 => ?_⟩
        have two10 := two_same (s9.trans s10) two
        have hs10 := two10.hs
        walk_at "go"
        refine x_mulR (by omega) (by omega) ?_
        walk_at "go"
        refine ⟨wb, wst, m * k + e, _, _, rfl, two10.b2, fun p2 H11 s11 hp2 => ?_⟩
        rw [sums_k hk G he0 he1] at hp2
        have hp1' := s11 _ _ hp1
        walk_at "go"
        refine x_mulR (by omega) (by omega) ?_
        walk_at "go"
        refine ⟨len3, fun z hz => ?_⟩
        have s12 := same_new (o := .tup [.int (sums L st m).1, .int (sums L st m).2.1, .int ((sums L st m).2.2 * k)]) hz
        refine x_neS (d := .tuple [.int (sums L st m).1, .int (sums L st m).2.1, .int ((sums L st m).2.2 * k)]) (tp_dp (mk_trip (s12 _ _ hp2) (.int _) (.int _) (.int _))) (tp_dp (mk_trip upd_same (.int _) (.int _) (.int _))) (sh_three (sh_int _) (sh_int _) (sh_int (n := 0) _)) (by decide) ?_
        generalize upd H11 z (.tup [.int (sums L st m).1, .int (sums L st m).2.1, .int ((sums L st m).2.2 * k)]) = H12 at *
        have sB := ((s9.trans s10).trans s11).trans s12
        have two12 := two_same sB two
        walk_at "go"
        refine ⟨vb, vst, m + 1, 3, L, st, rfl, two12.b1, by omega, by decide, fun l zs H13 s13' hl tz => ?_⟩
        have ulen : (upsFrom L st (m + 1) 3).length ≤ 100000 := by
          unfold upsFrom
          split
          · exact Nat.zero_le _
          · have : ∀ (n : Nat) (a : Int), (upsN (run L st).sps n a).length = n := by
              intro n
              induction n with
              | zero => intro a; rfl
              | succ n ih => intro a; show ((_ :: upsN _ n _).length) = n + 1; rw [List.length_cons, ih]
            rw [this]
            decide
        walk_at "go"
        intro D2 hD2
        refine lc_list tz ulen (fun u => some (upD (u.1 * k, u.2))) hD2 (fun u v H14 Kb Kf hu s14 tx kb kf => ?_) (fun H14 acc14 s14 hacc14 tacc14 => ?_) hl
        · obtain ⟨pa, x1, x2, rfl, hpa, h1', h2'⟩ := tp_pair tx
          cases tp_int h1'
          walk_at "go"
          refine ⟨rfl, ?_⟩
          walk_at "go"
          refine x_mulR (by omega) (by omega) ?_
          walk_at "go"
          exact ⟨len2, fun z' hz' => kb _ _ _ rfl (same_new hz') (mk_pair upd_same (.int _) (tp_keep (kp_same (same_new hz')) h2'))⟩
        · rw [fm_some] at tacc14
          have e2 : (upsFrom L st (m + 1) 3).map (fun u => upD (u.1 * k, u.2)) = ((upsFrom L st (m + 1) 3).map fun u => (u.1 * k, u.2)).map upD := by rw [List.map_map]; rfl
          rw [e2, ← upsFrom_k hk G nn hm 3] at tacc14
          have sC := (sB.trans s13').trans s14
          have two14 := two_same sC two
          have hs14 := two14.hs
          walk_at "go"
          refine x_mulR (by omega) (by omega) ?_
          walk_at "go"
          refine ⟨wb, wst, m * k + 1, 3, _, _, rfl, two14.b2, by omega, by decide, fun l2 zs2 H15 s15' hl2 tz2 => ?_⟩
          walk_at "go"
          refine x_eqS (dp_list hl2 tz2) (dp_list (s15' _ _ hacc14) (tpa_keep (kp_same s15') tacc14)) (sh_list (sh_map sh_up _)) (by decide) ?_
          exact kQ H15 (sC.trans s15')
end
end Sl

set_option Elab.async false
set_option linter.all false
set_option maxRecDepth 100000
set_option maxHeartbeats 4000000
/-! The walks: rests of two halls. -/
namespace Sl
open PySem L2
local macro_rules | `(tactic| walk_at "go1") => `(tactic| first
  | with_reducible refine x_seq ?_
  | with_reducible refine x_asg ?_
  | with_reducible refine x_name ?_
  | with_reducible refine x_ret ?_
  | with_reducible refine x_if ?_
  | ((with_reducible refine' x_var ?hv ?_); (case hv => rfl))
  | with_reducible refine x_c ?_
  | with_reducible refine' x_non ?_
  | with_reducible refine x_yes ?_
  | with_reducible refine' iteT ?_
  | with_reducible refine' iteF ?_
  | with_reducible refine x_op ?_
  | with_reducible refine x_I0 ?_
  | with_reducible refine x_test ?_
  | with_reducible refine' x_bl ?_
  | with_reducible refine x_eqI ?_
  | with_reducible refine x_neI ?_
  | with_reducible refine x_cons ?_
  | with_reducible refine x_nil ?_
  | with_reducible refine x_call ?_
  | with_reducible refine x_cb ?_
  | with_reducible refine x_par ?_
  | with_reducible refine x_par2 ?_
  | with_reducible refine x_gcons ?_
  | with_reducible refine x_gnil ?_
  | with_reducible refine x_next ?_
  | with_reducible refine x_drop ?_
  | with_reducible refine x_bm ?_
  | with_reducible refine x_fld ?_
  | with_reducible refine x_dget ?_
  | with_reducible refine x_lc ?_
  | with_reducible refine x_sfld ?_
  | with_reducible refine x_meth ?_
  | with_reducible refine x_augS ?_
  | with_reducible refine x_gsub ?_
  | with_reducible refine x_ipI ?_
  | ((with_reducible refine' x_ixLc ?ha ?hk ?_); (case ha => assumption); (case hk => rfl))
  | with_reducible refine x_lc2 ?_
  | with_reducible refine x_rng1 ?_
  | with_reducible refine x_rng2 ?_
  | with_reducible refine x_un ?_
  | with_reducible refine x_unI ?_
  | with_reducible refine x_zip ?_
  | with_reducible refine x_sl ?_
  | with_reducible refine x_nopart ?_
  | with_reducible refine x_part ?_
  | with_reducible refine' x_partI ?_
  | ((with_reducible refine' x_slL ?ha ?_); (case ha => assumption))
  | with_reducible refine' x_min2 ?_
  | with_reducible refine' x_max2 ?_
  | with_reducible refine x_lv ?_
  | with_reducible refine x_dc ?_
  | with_reducible refine x_dcT ?_
  | with_reducible refine x_iKeys ?_
  | with_reducible refine x_itemsT ?_
  | ((with_reducible refine' x_itemsTI ?ha ?_); (case ha => assumption))
  | ((with_reducible refine' x_keysK ?ha ?_); (case ha => assumption))
  | ((with_reducible refine' x_keysT ?ha ?_); (case ha => assumption))
  | with_reducible refine x_dput ?_
  | with_reducible refine x_faug ?_
  | with_reducible refine x_add ?_
  | with_reducible refine x_items ?_
  | ((with_reducible refine' x_itemsI ?ha ?_); (case ha => assumption))
  | ((with_reducible refine' x_faugI ?ha ?hc ?hn ?hl ?_); (case ha => assumption); (case hc => assumption); (case hn => assumption); (case hl => rfl))
  | with_reducible refine x_make ?_
  | with_reducible refine x_andV ?_
  | with_reducible refine x_orV ?_
  | with_reducible refine x_notV ?_
  | with_reducible refine x_chain ?_
  | with_reducible refine x_notT ?_
  | with_reducible refine x_andT ?_
  | with_reducible refine x_orT ?_
  | with_reducible refine x_tB ?_
  | with_reducible refine' iteNT ?_
  | with_reducible refine' iteNF ?_
  | with_reducible refine x_isiI ?_
  | with_reducible refine x_isiB ?_
  | ((with_reducible refine' x_isiL ?ha ?_); (case ha => assumption))
  | ((with_reducible refine' x_len ?ha ?_); (case ha => assumption))
  | ((with_reducible refine' x_lenT ?ha ?_); (case ha => assumption))
  | ((with_reducible refine' x_fldI ?ha ?hc ?hn ?hl ?_); (case ha => assumption); (case hc => assumption); (case hn => assumption); (case hl => rfl))
  | ((with_reducible refine' x_sfldI ?ha ?hc ?hn ?hl ?_); (case ha => assumption); (case hc => assumption); (case hn => assumption); (case hl => first | (with_unfolding_all decide) | (simp only [List.length_cons, List.length_nil]; omega)))
  | ((with_reducible refine' x_methI ?ha ?hl ?_); (case ha => assumption); (case hl => rfl))
  | with_reducible refine x_for ?_
  | with_reducible refine x_dset ?_
  | ((with_reducible refine' x_isD ?ha ?_); (case ha => assumption))
  | with_reducible refine x_iL ?_
  | with_reducible refine x_iT ?_
  | with_reducible refine x_dK ?_
  | with_reducible refine x_dT ?_
  | ((with_reducible refine' x_tyl ?ha ?_); (case ha => assumption))
  | ((with_reducible refine' x_lct ?ha ?_); (case ha => assumption))
  | ((with_reducible refine' x_tct ?ha ?_); (case ha => assumption))
  | ((with_reducible refine' x_gtup ?ha ?hn ?_); (case ha => assumption); (case hn => rfl))
  | ((with_reducible refine' x_ixT ?ha ?hk ?_); (case ha => assumption); (case hk => rfl))
  | (with_reducible refine x_tup ?_)
  | (with_reducible refine x_lst ?_))
local macro_rules | `(tactic| walk_at "go") => `(tactic| (repeat walk_at "go1"))
section
variable {P : Program} {w : World} {K : PySem.W.Frag} {mg : Str → Option Value} {base : Heap} {t1 t2 : Tok}
theorem shares_bd {L : List Int} {st : List (Str × Int)} (G : Good L st) : 0 ≤ (shares L st).1 ∧ 0 < (shares L st).2 ∧ (shares L st).2 ≤ 2 ^ 1200 := by
  have hgg := go_gg G
  have hgl := go_len G
  have h := tot_bd ((goingsOf L st).map fun g => frac 1 g.2) (0, 1) 0 (fun f hf => by
    obtain ⟨g, hg, rfl⟩ := List.mem_map.mp hf
    obtain ⟨_, g1, g2⟩ := hgg g hg
    rw [frac_one g1]
    exact ⟨rfl, g1, g2⟩) (Int.le_refl 0) (by decide) (by decide)
  refine ⟨h.1, h.2.1, Int.le_trans h.2.2 (ipow_le ?_)⟩
  rw [List.length_map]
  omega
theorem x_tIfM {σ : L2.St} {H : Hp} {Q : VK} {tc : TT} {ta tb : TE} (M : V → Hp → Prop) (h1 : ∀ N : VK, (∀ v H', M v H' → N v H') → tc σ H fun b H1 => if b = true then ta σ H1 N else tb σ H1 N) (h2 : ∀ v H', M v H' → Q v H') : tIf tc ta tb σ H Q := h1 Q h2
def sp_law_rest_right (cB : Addr) : Sp := fun vs H Q _ => ∃ (q s : Addr) (k : Int) (vb vst wb wst : V) (L : List Int) (st : List (Str × Int)), vs = [.ref q, .ref s, .int k] ∧ Two cB H q s k vb vst wb wst L st ∧ ∀ H', Same H H' → Q (.bl true) H'
/-- slots of _law_rest_right: 0 _law_quick 1 _law_slow 2 _law_by 3 _law_book 4 _law_stand_here 5 _law_top 6 _law_bottom 7 _law_lead 8 _law_length 9 _law_due -/
abbrev s_law_rest_right : Stmt := top 58
theorem sc_law_rest_right : FnScope ["_law_quick", "_law_slow", "_law_by", "_law_book", "_law_stand_here", "_law_top", "_law_bottom", "_law_lead", "_law_length", "_law_due"] ["_law_quick", "_law_slow", "_law_by"] (defScope s_law_rest_right) := ⟨rfl, rfl, rfl, by decide +kernel, rfl, by decide +kernel, by decide +kernel⟩
theorem ok_law_rest_right {cB f fr fa fs fo ff : Addr} {fd fdr fda fds fdo fdf : FuncData} (T : BtT mg t1 t2) (F : Fun K "_law_rest_right" "_law_rest_right" s_law_rest_right f fd) (D_rest_from : FC P w K mg base 10 "rest_from" ["book", "standing"] (sp_rest_from cB) fr fdr) (D_is_at_rest : FC P w K mg base 5 "is_at_rest" ["book", "standing"] (sp_is_at_rest cB) fa fda)
    (D_shares : FC P w K mg base 5 "shares" ["book", "standing"] (sp_shares cB) fs fds) (D_round_of : FC P w K mg base 11 "round_of" ["book", "standing"] (sp_round_of cB) fo fdo) (D_fraction : FC P w K mg base 2 "fraction" ["top", "bottom"] sp_fraction ff fdf) : FnOk P w K mg base CX0 12 f fd ["_law_quick", "_law_slow", "_law_by"] (sp_law_rest_right cB) := by
  refine F.ok sc_law_rest_right (fun vs H Q E h => ?_) (fun cdv A outer s H vs Q E hr h => ?_)
  · obtain ⟨_, _, _, _, _, _, _, _, _, rfl, _⟩ := h
    rfl
  · refine ⟨_, (pss_cons (ps_asg (pv 0) (pg_tup (n := 2) rfl (pgs_cons (pg_name (i := 3) sc_law_rest_right.nd rfl (Or.inl rfl)) (pgs_cons (pg_name (i := 4) sc_law_rest_right.nd rfl (Or.inl rfl)) pgs_nil))))
      (pss_cons (ps_if (pt_cmpR op_ne (pe_f D_rest_from hr (by decide) (pa_cons (pe_ix (kIxT (K := K) rfl) (pv 1) pe_int (fun _ _ => rfl)) (pa_cons (pe_ix (kIxT (K := K) rfl) (pv 1) pe_int (fun _ _ => rfl)) pa_nil))) (pe_op op_mul (pe_f D_rest_from hr (by decide) (pa_cons (pv 3) (pa_cons (pv 4) pa_nil))) (pv 2)) (nomark _)) (pss_one (ps_ret pe_bl)) pss_nil)
      (pss_cons (ps_if (pt_cmpR (kNeD (K := K) rfl hr.units) (pe_f D_is_at_rest hr (by decide) (pa_cons (pe_ix (kIxT (K := K) rfl) (pv 1) pe_int (fun _ _ => rfl)) (pa_cons (pe_ix (kIxT (K := K) rfl) (pv 1) pe_int (fun _ _ => rfl)) pa_nil))) (pe_f D_is_at_rest hr (by decide) (pa_cons (pv 3) (pa_cons (pv 4) pa_nil))) (nomark _)) (pss_one (ps_ret pe_bl)) pss_nil)
      (pss_cons (ps_asg (pe_f D_shares hr (by decide) (pa_cons (pv 3) (pa_cons (pv 4) pa_nil))) (pg_tup (n := 2) rfl (pgs_cons (pg_name (i := 5) sc_law_rest_right.nd rfl (Or.inl rfl)) (pgs_cons (pg_name (i := 6) sc_law_rest_right.nd rfl (Or.inl rfl)) pgs_nil))))
      (pss_cons (ps_asg (pe_f D_round_of hr (by decide) (pa_cons (pv 3) (pa_cons (pv 4) pa_nil))) (pg_tup (n := 2) rfl (pgs_cons (pg_name (i := 7) sc_law_rest_right.nd rfl (Or.inl rfl)) (pgs_cons (pg_name (i := 8) sc_law_rest_right.nd rfl (Or.inl rfl)) pgs_nil))))
      (pss_cons (ps_set (i := 9) sc_law_rest_right.nd rfl (Or.inl rfl) (pe_ifExp (pt_cmpR (kNeD (K := K) rfl hr.units) (pv 4) (pe_tup pa_nil) (nomark _)) (pe_tup (pa_cons (pe_op op_mul (pv 7) (pv 2)) (pa_cons (pe_op op_mul (pv 8) (pv 2)) pa_nil))) (pe_tup (pa_cons pe_int (pa_cons pe_int pa_nil)))))
      (pss_one (ps_ret (pe_and (pe_cmpR (kEqD (K := K) rfl hr.units) (pe_f D_shares hr (by decide) (pa_cons (pe_ix (kIxT (K := K) rfl) (pv 1) pe_int (fun _ _ => rfl)) (pa_cons (pe_ix (kIxT (K := K) rfl) (pv 1) pe_int (fun _ _ => rfl)) pa_nil))) (pe_f D_fraction hr (by decide) (pa_cons (pv 5) (pa_cons (pe_op op_mul (pv 6) (pv 2)) pa_nil))) (nomark _)) (pe_one (pe_cmpR (kEqD (K := K) rfl hr.units) (pe_f D_round_of hr (by decide) (pa_cons (pe_ix (kIxT (K := K) rfl) (pv 1) pe_int (fun _ _ => rfl)) (pa_cons (pe_ix (kIxT (K := K) rfl) (pv 1) pe_int (fun _ _ => rfl)) pa_nil))) (pv 9) (nomark _)))))))))))), ?_⟩
    obtain ⟨q, sl, k, vb, vst, wb, wst, L, st, rfl, two, kQ⟩ := h
    have k1 := two.k1
    have k2 := two.k2
    have hk : 0 < k := by omega
    have G := two.b1.good
    have nn := two.b1.nn
    have G2 := two.b2.good
    have hq := two.hq
    have hs := two.hs
    walk_at "go"
    refine ⟨wb, wst, _, _, rfl, two.b2, fun H1 s1 => ?_⟩
    have two1 := two_same s1 two
    walk_at "go"
    refine ⟨vb, vst, L, st, rfl, two1.b1, fun H2 s2 => ?_⟩
    have s12 := s1.trans s2
    have two2 := two_same s12 two
    have hs2 := two2.hs
    rw [restFrom_k hk G]
    walk_at "go"
    refine x_mulR (by omega) (by omega) ?_
    refine x_neI ?_
    rw [decide_eq_true (rfl : restFrom L st * k = restFrom L st * k)]
    walk_at "go"
    refine ⟨wb, wst, _, _, rfl, two2.b2.bk, two2.b2.tst, G2, fun H3 s3 => ?_⟩
    have two3 := two_same (s12.trans s3) two
    walk_at "go"
    refine ⟨vb, vst, L, st, rfl, two3.b1.bk, two3.b1.tst, G, fun H4 s4 => ?_⟩
    rw [atRest_k hk G]
    refine x_neS (d := .bool (atRest L st)) (n := 0) (.bl _) (.bl _) (sh_bool _) (by decide) ?_
    have s14 := (s12.trans s3).trans s4
    have two4 := two_same s14 two
    walk_at "go"
    refine ⟨vb, vst, L, st, rfl, two4.b1.bk, two4.b1.tst, G, fun p H5 s5 hp => ?_⟩
    have two5 := two_same (s14.trans s5) two
    walk_at "go"
    refine ⟨vb, vst, L, st, rfl, two5.b1, fun p2 H6 s6 hp2 => ?_⟩
    have s16 := (s14.trans s5).trans s6
    have two6 := two_same s16 two
    walk_at "go"
    with_reducible refine' x_tIfM ?M ?ha ?hb
    case M => exact (fun v H' => Same H6 H' ∧ Tp H' v (goD (roundOf (kL k L) (kS k st))))
    · intro N hN
      walk_at "go"
      refine ⟨len0, fun z hz => ?_⟩
      have s7 := same_new (o := .tup []) hz
      refine x_neT0 (tp_dp (tp_keep (kp_same s7) two6.b1.tst)) (.tup (sqt upd_same) .nil) (sh_st st) (by decide) ?_
      generalize upd H6 z (.tup []) = H7 at *
      refine x_bl ?_
      by_cases hst : st = []
      · rw [show (!(st.map prD).isEmpty) = false by rw [hst]; rfl]
        walk_at "go"
        refine ⟨len2, fun z2 hz2 => hN _ _ ⟨s7.trans (same_new hz2), ?_⟩⟩
        have e : roundOf (kL k L) (kS k st) = (0, 1) := by rw [hst]; exact round_nil _
        rw [e]
        exact mk_go upd_same
      · rw [show (!(st.map prD).isEmpty) = true by
          obtain ⟨e0, er, h⟩ := List.exists_cons_of_ne_nil hst
          rw [h]; rfl]
        walk_at "go"
        refine x_mulR (by omega) (by omega) ?_
        walk_at "go"
        refine x_mulR (by omega) (by omega) ?_
        walk_at "go"
        refine ⟨len2, fun z2 hz2 => hN _ _ ⟨s7.trans (same_new hz2), ?_⟩⟩
        rw [roundOf_k hk G nn hst]
        exact mk_go upd_same
    · rintro v H8 ⟨s8, tv8⟩
      have s18 := s16.trans s8
      have two8 := two_same s18 two
      have hs8 := two8.hs
      obtain ⟨h1, h2, h3⟩ := shares_bd G
      walk_at "go"
      refine ⟨wb, wst, _, _, rfl, two8.b2.bk, two8.b2.tst, G2, fun p9 H9 s9 hp9 => ?_⟩
      rw [shares_k hk G] at hp9
      walk_at "go"
      refine x_mulR (by omega) (by omega) ?_
      have hb1 : 0 < (shares L st).2 * k := Int.mul_pos h2 hk
      have hb2 : ((shares L st).2 * k).natAbs < 2 ^ 8000 := by
        have g1 : (shares L st).2 * k ≤ 2 ^ 1200 * 2 ^ 10 := Int.mul_le_mul h3 (by omega) (by omega) (Int.le_of_lt (Int.pow_pos (by decide)))
        have g7 : (2 : Int) ^ 1200 * 2 ^ 10 < 2 ^ 8000 := by rw [← Int.pow_add]; exact ipow_lt (by decide)
        have g6 : ((2 ^ 8000 : Nat) : Int) = (2 : Int) ^ 8000 := (ipow _).symm
        generalize (shares L st).2 * k = Z at *
        generalize (2 : Int) ^ 1200 * 2 ^ 10 = Y at *
        generalize (2 : Int) ^ 8000 = W at *
        generalize (2 : Nat) ^ 8000 = U at *
        omega
      walk_at "go"
      refine ⟨(shares L st).1, (shares L st).2 * k, rfl, h1, hb1, hb2, fun p10 H10 s10 hp10 => ?_⟩
      refine x_eqS (tp_dp (mk_go (s10 _ _ hp9))) (tp_dp (mk_go hp10)) (sh_two (sh_int _) (sh_int (n := 0) _)) (by decide) ?_
      have s1A := (s18.trans s9).trans s10
      have twoA := two_same s1A two
      have hsA := twoA.hs
      walk_at "go"
      refine ⟨wb, wst, _, _, rfl, twoA.b2, fun p11 H11 s11 hp11 => ?_⟩
      walk_at "go"
      refine x_eqS (tp_dp (mk_go hp11)) (tp_dp (tp_keep (kp_same ((s9.trans s10).trans s11)) tv8)) (sh_two (sh_int _) (sh_int (n := 0) _)) (by decide) ?_
      exact kQ H11 (s1A.trans s11)
end
end Sl

set_option Elab.async false
set_option linter.all false
set_option maxRecDepth 100000
set_option maxHeartbeats 8000000
/-! The walk of the law. -/
namespace Sl
open PySem L2
local macro_rules | `(tactic| walk_at "go1") => `(tactic| first
  | with_reducible refine x_seq ?_
  | with_reducible refine x_asg ?_
  | with_reducible refine x_name ?_
  | with_reducible refine x_ret ?_
  | with_reducible refine x_if ?_
  | ((with_reducible refine' x_var ?hv ?_); (case hv => rfl))
  | with_reducible refine x_c ?_
  | with_reducible refine' x_non ?_
  | with_reducible refine x_yes ?_
  | with_reducible refine' iteT ?_
  | with_reducible refine' iteF ?_
  | with_reducible refine x_op ?_
  | with_reducible refine x_I0 ?_
  | with_reducible refine x_test ?_
  | with_reducible refine' x_bl ?_
  | with_reducible refine x_eqI ?_
  | with_reducible refine x_neI ?_
  | with_reducible refine x_cons ?_
  | with_reducible refine x_nil ?_
  | with_reducible refine x_call ?_
  | with_reducible refine x_cb ?_
  | with_reducible refine x_par ?_
  | with_reducible refine x_par2 ?_
  | with_reducible refine x_gcons ?_
  | with_reducible refine x_gnil ?_
  | with_reducible refine x_next ?_
  | with_reducible refine x_drop ?_
  | with_reducible refine x_bm ?_
  | with_reducible refine x_fld ?_
  | with_reducible refine x_dget ?_
  | with_reducible refine x_lc ?_
  | with_reducible refine x_sfld ?_
  | with_reducible refine x_meth ?_
  | with_reducible refine x_augS ?_
  | with_reducible refine x_gsub ?_
  | with_reducible refine x_ipI ?_
  | ((with_reducible refine' x_ixLc ?ha ?hk ?_); (case ha => assumption); (case hk => rfl))
  | with_reducible refine x_lc2 ?_
  | with_reducible refine x_rng1 ?_
  | with_reducible refine x_rng2 ?_
  | with_reducible refine x_un ?_
  | with_reducible refine x_unI ?_
  | with_reducible refine x_zip ?_
  | with_reducible refine x_sl ?_
  | with_reducible refine x_nopart ?_
  | with_reducible refine x_part ?_
  | with_reducible refine' x_partI ?_
  | ((with_reducible refine' x_slL ?ha ?_); (case ha => assumption))
  | with_reducible refine' x_min2 ?_
  | with_reducible refine' x_max2 ?_
  | with_reducible refine x_lv ?_
  | with_reducible refine x_dc ?_
  | with_reducible refine x_dcT ?_
  | with_reducible refine x_iKeys ?_
  | with_reducible refine x_itemsT ?_
  | ((with_reducible refine' x_itemsTI ?ha ?_); (case ha => assumption))
  | ((with_reducible refine' x_keysK ?ha ?_); (case ha => assumption))
  | ((with_reducible refine' x_keysT ?ha ?_); (case ha => assumption))
  | with_reducible refine x_dput ?_
  | with_reducible refine x_faug ?_
  | with_reducible refine x_add ?_
  | with_reducible refine x_items ?_
  | ((with_reducible refine' x_itemsI ?ha ?_); (case ha => assumption))
  | ((with_reducible refine' x_faugI ?ha ?hc ?hn ?hl ?_); (case ha => assumption); (case hc => assumption); (case hn => assumption); (case hl => rfl))
  | with_reducible refine x_make ?_
  | with_reducible refine x_andV ?_
  | with_reducible refine x_orV ?_
  | with_reducible refine x_notV ?_
  | with_reducible refine x_chain ?_
  | with_reducible refine x_notT ?_
  | with_reducible refine x_andT ?_
  | with_reducible refine x_orT ?_
  | with_reducible refine x_tB ?_
  | with_reducible refine' iteNT ?_
  | with_reducible refine' iteNF ?_
  | with_reducible refine x_isiI ?_
  | with_reducible refine x_isiB ?_
  | ((with_reducible refine' x_isiL ?ha ?_); (case ha => assumption))
  | ((with_reducible refine' x_len ?ha ?_); (case ha => assumption))
  | ((with_reducible refine' x_lenT ?ha ?_); (case ha => assumption))
  | ((with_reducible refine' x_fldI ?ha ?hc ?hn ?hl ?_); (case ha => assumption); (case hc => assumption); (case hn => assumption); (case hl => rfl))
  | ((with_reducible refine' x_sfldI ?ha ?hc ?hn ?hl ?_); (case ha => assumption); (case hc => assumption); (case hn => assumption); (case hl => first | (with_unfolding_all decide) | (simp only [List.length_cons, List.length_nil]; omega)))
  | ((with_reducible refine' x_methI ?ha ?hl ?_); (case ha => assumption); (case hl => rfl))
  | with_reducible refine x_for ?_
  | with_reducible refine x_dset ?_
  | ((with_reducible refine' x_isD ?ha ?_); (case ha => assumption))
  | with_reducible refine x_iL ?_
  | with_reducible refine x_iT ?_
  | with_reducible refine x_dK ?_
  | with_reducible refine x_dT ?_
  | ((with_reducible refine' x_tyl ?ha ?_); (case ha => assumption))
  | ((with_reducible refine' x_lct ?ha ?_); (case ha => assumption))
  | ((with_reducible refine' x_tct ?ha ?_); (case ha => assumption))
  | ((with_reducible refine' x_gtup ?ha ?hn ?_); (case ha => assumption); (case hn => rfl))
  | ((with_reducible refine' x_ixT ?ha ?hk ?_); (case ha => assumption); (case hk => rfl))
  | (with_reducible refine x_tup ?_)
  | (with_reducible refine x_lst ?_))
local macro_rules | `(tactic| walk_at "go") => `(tactic| (repeat walk_at "go1"))
section
variable {P : Program} {w : World} {K : PySem.W.Frag} {mg : Str → Option Value} {base : Heap} {t1 t2 : Tok}
theorem mk_bookN {cB l : Addr} {H : Hp} {L : List Int} {N : Addr → Hp → Prop} {E : XK} (hl : H l = some (.lst (L.map V.int))) (h1 : 1 ≤ L.length) (h40 : L.length ≤ 40) (hL : ∀ x ∈ L, 1 ≤ x ∧ x ≤ 1000000000) (k : ∀ b H', Same H H' → Bk cB H' (.ref b) L → N b H') :
    ∀ x dx, H x = none → H dx = none → dx ≠ x → sp_Book_init cB (.ref x :: ([.ref l] ++ [])) (upd (upd H dx (.own x)) x (.ins cB dx [])) (fun v H2 => v = .non ∧ N x H2) E := by
  intro x dx hx hdx hne
  have s0 : Same H (upd (upd H dx (.own x)) x (.ins cB dx [])) := same_mut (same_new hdx) hx
  refine ⟨x, l, dx, L, rfl, upd_same, s0 _ _ hl, h1, h40, hL, fun H' s b => ⟨rfl, k x H' (fun a u ha => ?_) b⟩⟩
  exact s a u (ne_of_none ha hx) (s0 _ _ ha)
theorem two_sx {a c cB : Addr} {H H' : Hp} {q s : Addr} {k : Int} {vb vst wb wst : V} {L : List Int} {st : List (Str × Int)} (bag : BagO a c H) (sx : SX [a] H H') (t : Two cB H q s k vb vst wb wst L st) : Two cB H' q s k vb vst wb wst L st := by
  have kp := bag_kp bag sx
  exact ⟨kp _ _ t.hq, kp _ _ t.hs, ⟨bag_bk bag sx t.b1.bk, tp_keep kp t.b1.tst, t.b1.good, t.b1.nn⟩, ⟨bag_bk bag sx t.b2.bk, tp_keep kp t.b2.tst, t.b2.good, t.b2.nn⟩, t.k1, t.k2⟩
theorem good_of {L : List Int} {st : List (Str × Int)} (h1 : 1 ≤ L.length) (h40 : L.length ≤ 40) (hb : Btw 1 1000000 L) (hs : StD L.length st) : Good L (st.mergeSort leP) ∧ ∀ e ∈ st.mergeSort leP, 0 ≤ e.2 :=
  ⟨⟨h1, h40, fun l hl => by have := (hb l hl).1; omega, fun l hl => by have := (hb l hl).2; omega, by rw [List.length_mergeSort]; exact hs.len⟩, fun e he => by
    have := (hs.bd e (List.mem_mergeSort.mp he)).1
    omega⟩
theorem good_kk {L : List Int} {st : List (Str × Int)} {k : Int} (k1 : 1 ≤ k) (k2 : k ≤ 1000) (h1 : 1 ≤ L.length) (h40 : L.length ≤ 40) (hb : Btw 1 1000000 L) (hsz : st.length ≤ L.length) (nn : ∀ e ∈ st, 0 ≤ e.2) : Good (kL k L) (kS k st) ∧ ∀ e ∈ kS k st, 0 ≤ e.2 := by
  have e1 : (kL k L).length = L.length := by unfold kL; rw [List.length_map]
  have e2 : (kS k st).length = st.length := by unfold kS; rw [List.length_map]
  have key : ∀ x ∈ kL k L, 1 ≤ x ∧ x ≤ 1000000000 := fun x hx => by
    unfold kL at hx
    obtain ⟨l, hl, rfl⟩ := List.mem_map.mp hx
    obtain ⟨b1, b2⟩ := hb l hl
    have h3 : l * k ≤ 1000000 * 1000 := Int.mul_le_mul b2 k2 (by omega) (by omega)
    have h4 : 1 * 1 ≤ l * k := Int.mul_le_mul b1 k1 (by omega) (by omega)
    omega
  refine ⟨⟨by omega, by omega, fun l hl => by have := (key l hl).1; omega, fun l hl => (key l hl).2, by omega⟩, fun e he => ?_⟩
  unfold kS at he
  obtain ⟨x, hx, rfl⟩ := List.mem_map.mp he
  exact Int.mul_nonneg (nn x hx) (by omega)
def sp_law (K : PySem.W.Frag) : Sp := fun vs H Q _ => ∃ (a : Addr) (ns : List Int), vs = [.ref a] ∧ SqL K H a (ns.map V.int) ∧ ∀ H', Q (.bl true) H'
/-- slots of law: 0 _law_script 1 _law_bag_here 2 _law_k 3 _law_most 4 _law_longest 5 _law_spans_here 6 _law_rests_here 7 _law_by 8 _law_quick 9 _law_slow 10 _law_rows 11 _law_turn 12 _law_many 13 _law_name 14 _law_when 15 _law_up 16 _law_met -/
abbrev s_law : Stmt := top 59
theorem sc_law : FnScope ["_law_script", "_law_bag_here", "_law_k", "_law_most", "_law_longest", "_law_spans_here", "_law_rests_here", "_law_by", "_law_quick", "_law_slow", "_law_rows", "_law_turn", "_law_many", "_law_name", "_law_when", "_law_up", "_law_met"] ["_law_script"] (defScope s_law) := ⟨rfl, rfl, rfl, by decide +kernel, rfl, by decide +kernel, by decide +kernel⟩
theorem ok_law {cB f fb ft fh fk fi fst fsb fss ff fm far' fto frr : Addr} {fd fdb fdt fdh fdk fdi fdst fdsb fdss fdf fdm fda fdo fdr : FuncData} (T : BtT mg t1 t2) (F : Fun K "law" "law" s_law f fd) (D_law_bag : FC P w K mg base 1 "_law_bag" ["_law_script"] (sp_law_bag K) fb fdb)
    (D_law_take : FC P w K mg base 1 "_law_take" ["_law_bag_here", "_law_many"] sp_law_take ft fdt) (D_law_hall : FC P w K mg base 3 "_law_hall" ["_law_bag_here", "_law_many", "_law_most", "_law_longest"] sp_law_hall fh fdh) (D_Book : MK P w K mg base cB 4 "Book" ["self", "lengths"] (sp_Book_init cB) fi fdi)
    (D_law_stand : FC P w K mg base 1 "_law_stand" ["_law_rests_here"] sp_law_stand fst fdst) (D_slower_book : FC P w K mg base 6 "slower_book" ["book", "by"] (sp_slower_book cB) fsb fdsb) (D_slower_standing : FC P w K mg base 1 "slower_standing" ["standing", "by"] sp_slower_standing fss fdss)
    (D_fallings : FC P w K mg base 9 "fallings" ["book", "standing"] (sp_fallings cB) ff fdf) (D_law_moment : FC P w K mg base 2 "_law_moment" ["_law_bag_here", "_law_rows", "_law_by"] sp_law_moment fm fdm) (D_law_at_right : FC P w K mg base 11 "_law_at_right" ["_law_quick", "_law_slow", "_law_by", "_law_many", "_law_between"] (sp_law_at_right cB) far' fda)
    (D_times_of : FC P w K mg base 9 "times_of" ["book", "standing", "name", "beats"] (sp_times_of cB) fto fdo) (D_law_rest_right : FC P w K mg base 12 "_law_rest_right" ["_law_quick", "_law_slow", "_law_by"] (sp_law_rest_right cB) frr fdr) : FnOk P w K mg base CX0 13 f fd ["_law_script"] (sp_law K) := by
  refine F.ok sc_law (fun vs H Q E h => ?_) (fun cdv A outer s H vs Q E hr h => ?_)
  · obtain ⟨_, _, rfl, _⟩ := h
    rfl
  · refine ⟨_, (pss_cons (ps_set (i := 1) sc_law.nd rfl (Or.inl rfl) (pe_f D_law_bag hr (by decide) (pa_cons (pv 0) pa_nil)))
      (pss_cons (ps_for PassesOwn.never rfl (pi_range1 rfl T.range (pa_cons pe_int pa_nil)) (pg_name (i := 2) sc_law.nd rfl (Or.inl rfl)) (pss_cons (ps_par (i := 3) (j := 4) (by rfl) sc_law.nd rfl rfl (by decide) rfl rfl (pa_cons (pe_ix (kIxL (K := K) rfl) (pe_lst (pa_cons pe_int (pa_cons pe_int (pa_cons pe_int (pa_cons (pe_op op_pow pe_int pe_int) pa_nil))))) (pe_f D_law_take hr (by decide) (pa_cons (pv 1) (pa_cons pe_int pa_nil))) (fun _ _ => rfl)) (pa_cons (pe_ix (kIxL (K := K) rfl) (pe_lst (pa_cons pe_int (pa_cons pe_int (pa_cons (pe_op op_pow pe_int pe_int) pa_nil)))) (pe_f D_law_take hr (by decide) (pa_cons (pv 1) (pa_cons pe_int pa_nil))) (fun _ _ => rfl)) pa_nil)) (by rfl))
      (pss_cons (ps_asg (pe_f D_law_hall hr (by decide) (pa_cons (pv 1) (pa_cons (pe_ix (kIxL (K := K) rfl) (pe_lst (pa_cons pe_int (pa_cons pe_int (pa_cons pe_int pa_nil)))) (pe_f D_law_take hr (by decide) (pa_cons (pv 1) (pa_cons pe_int pa_nil))) (fun _ _ => rfl)) (pa_cons (pv 3) (pa_cons (pv 4) pa_nil))))) (pg_tup (n := 2) rfl (pgs_cons (pg_name (i := 5) sc_law.nd rfl (Or.inl rfl)) (pgs_cons (pg_name (i := 6) sc_law.nd rfl (Or.inl rfl)) pgs_nil))))
      (pss_cons (ps_set (i := 7) sc_law.nd rfl (Or.inr rfl) (pe_ix (kIxL (K := K) rfl) (pe_lst (pa_cons pe_int (pa_cons pe_int (pa_cons pe_int (pa_cons (pe_op op_add pe_int (pe_f D_law_take hr (by decide) (pa_cons (pv 1) (pa_cons pe_int pa_nil)))) pa_nil))))) (pe_f D_law_take hr (by decide) (pa_cons (pv 1) (pa_cons pe_int pa_nil))) (fun _ _ => rfl)))
      (pss_cons (ps_set (i := 8) sc_law.nd rfl (Or.inl rfl) (pe_tup (pa_cons (pe_mk D_Book hr (by decide) (pa_cons (pe_callTy (T := "list") (kList (K := K) rfl) (by rfl) T.list (by decide +kernel) (pa_cons (pv 5) pa_nil)) pa_nil)) (pa_cons (pe_f D_law_stand hr (by decide) (pa_cons (pv 6) pa_nil)) pa_nil))))
      (pss_cons (ps_set (i := 9) sc_law.nd rfl (Or.inl rfl) (pe_tup (pa_cons (pe_f D_slower_book hr (by decide) (pa_cons (pe_ix (kIxT (K := K) rfl) (pv 8) pe_int (fun _ _ => rfl)) (pa_cons (pv 7) pa_nil))) (pa_cons (pe_f D_slower_standing hr (by decide) (pa_cons (pe_ix (kIxT (K := K) rfl) (pv 8) pe_int (fun _ _ => rfl)) (pa_cons (pv 7) pa_nil))) pa_nil))))
      (pss_cons (ps_set (i := 10) sc_law.nd rfl (Or.inl rfl) (pe_f D_fallings hr (by decide) (pa_cons (pe_ix (kIxT (K := K) rfl) (pv 8) pe_int (fun _ _ => rfl)) (pa_cons (pe_ix (kIxT (K := K) rfl) (pv 8) pe_int (fun _ _ => rfl)) pa_nil))))
      (pss_cons (ps_if (pt_cmpR (kNeD (K := K) rfl hr.units) (pe_f D_fallings hr (by decide) (pa_cons (pe_ix (kIxT (K := K) rfl) (pv 9) pe_int (fun _ _ => rfl)) (pa_cons (pe_ix (kIxT (K := K) rfl) (pv 9) pe_int (fun _ _ => rfl)) pa_nil))) (pe_lc (own := [("_law_when", 14), ("_law_up", 15), ("_law_met", 16)]) (g := (gTup K 3 (gCons (gName 14) (gCons (gName 15) (gCons (gName 16) gNil))))) rfl sc_law.nd (pi_list (pv 10)) (blkOk_by (N := ["_law_script", "_law_bag_here", "_law_k", "_law_most", "_law_longest", "_law_spans_here", "_law_rests_here", "_law_by", "_law_quick", "_law_slow", "_law_rows", "_law_turn", "_law_many", "_law_name", "_law_when", "_law_up", "_law_met"]) (sc := defScope s_law) (by decide +kernel)) (fun _ _ _ _ _ => (pg_tup (n := 3) rfl (pgs_cons (pg_name (i := 14) sc_law.nd rfl (Or.inl rfl)) (pgs_cons (pg_name (i := 15) sc_law.nd rfl (Or.inl rfl)) (pgs_cons (pg_name (i := 16) sc_law.nd rfl (Or.inl rfl)) pgs_nil))))) (fun _ _ _ _ _ => pts_nil) (fun _ _ _ _ _ => (pe_tup (pa_cons (pe_op op_mul (pv 14) (pv 7)) (pa_cons (pv 15) (pa_cons (pv 16) pa_nil)))))) (nomark _)) (pss_one (ps_ret pe_bl)) pss_nil)
      (pss_cons (ps_for PassesOwn.never rfl (pi_range1 rfl T.range (pa_cons pe_int pa_nil)) (pg_name (i := 11) sc_law.nd rfl (Or.inl rfl)) (pss_one (ps_if (pt_not (pt_val (pe_f D_law_at_right hr (by decide) (pa_cons (pv 8) (pa_cons (pv 9) (pa_cons (pv 7) (pa_cons (pe_f D_law_moment hr (by decide) (pa_cons (pv 1) (pa_cons (pv 10) (pa_cons (pv 7) pa_nil)))) (pa_cons (pe_f D_law_take hr (by decide) (pa_cons (pv 1) (pa_cons (pv 7) pa_nil))) pa_nil)))))))) (pss_one (ps_ret pe_bl)) pss_nil)))
      (pss_cons (ps_set (i := 12) sc_law.nd rfl (Or.inl rfl) (pe_f D_law_moment hr (by decide) (pa_cons (pv 1) (pa_cons (pv 10) (pa_cons (pv 7) pa_nil)))))
      (pss_cons (ps_for PassesOwn.never rfl (pi_list (pe_slice (slistK (K := K) rfl) (pe_slice (slistK (K := K) rfl) (pe_callB (kSortDS rfl) (by rfl) T.sorted (by decide +kernel) (pa_cons (pv 6) pa_nil)) (po_some (pe_f D_law_take hr (by decide) (pa_cons (pv 1) (pa_cons (pe_callB (kMax2 rfl) (by rfl) T.max (by decide +kernel) (pa_cons pe_int (pa_cons (pe_callB kLenD (by rfl) T.len (by decide +kernel) (pa_cons (pv 6) pa_nil)) pa_nil))) pa_nil)))) po_none) po_none (po_some pe_int))) (pg_name (i := 13) sc_law.nd rfl (Or.inl rfl)) (pss_one (ps_if (pt_cmpR op_ne (pe_f D_times_of hr (by decide) (pa_cons (pe_ix (kIxT (K := K) rfl) (pv 9) pe_int (fun _ _ => rfl)) (pa_cons (pe_ix (kIxT (K := K) rfl) (pv 9) pe_int (fun _ _ => rfl)) (pa_cons (pv 13) (pa_cons (pe_op op_mul (pv 12) (pv 7)) pa_nil))))) (pe_f D_times_of hr (by decide) (pa_cons (pe_ix (kIxT (K := K) rfl) (pv 8) pe_int (fun _ _ => rfl)) (pa_cons (pe_ix (kIxT (K := K) rfl) (pv 8) pe_int (fun _ _ => rfl)) (pa_cons (pv 13) (pa_cons (pv 12) pa_nil))))) (nomark _)) (pss_one (ps_ret pe_bl)) pss_nil)))
      (pss_one (ps_if (pt_not (pt_val (pe_f D_law_rest_right hr (by decide) (pa_cons (pv 8) (pa_cons (pv 9) (pa_cons (pv 7) pa_nil)))))) (pss_one (ps_ret pe_bl)) pss_nil)))))))))))))
      (pss_one (ps_ret pe_bl)))), ?_⟩
    obtain ⟨sa, ns, rfl, hsq, kQ⟩ := h
    walk_at "go"
    refine ⟨sa, ns, rfl, hsq, fun a c H1 s1 _ _ bag1 => ?_⟩
    walk_at "go"
    refine ⟨2, rfl, by decide, by decide, ?_⟩
    refine for_it walk_range (fun i σ H' => (∃ u2 u3 u4 u5 u6 u7 u8 u9 u10 u11 u12 u13, σ = [some (.ref sa), some (.ref a), u2, u3, u4, u5, u6, u7, u8, u9, u10, u11, u12, u13, none, none, none]) ∧ BagO a c H')
      ⟨⟨_, _, _, _, _, _, _, _, _, _, _, _, rfl⟩, bag1⟩ (fun _ _ _ _ _ => True.intro) (fun i x σ H2 H3 hi ⟨⟨u2, u3, u4, u5, u6, u7, u8, u9, u10, u11, u12, u13, es⟩, bag2⟩ y => ?_) (fun σ H2 ⟨⟨u2, u3, u4, u5, u6, u7, u8, u9, u10, u11, u12, u13, es⟩, bag2⟩ => ?_)
    · subst es
      obtain ⟨rfl, rfl⟩ := y
      walk_at "go"
      refine x_pw (r := 1000000) ⟨by decide, by decide, by decide⟩ (by decide) ?_
      walk_at "go"
      refine ⟨by show 4 ≤ sizeLine; decide, fun p1 hp1 => ?_⟩
      have bf1 := bag_fresh bag2 hp1
      have hq1 : (upd H3 p1 (.lst [.int 6, .int 12, .int 1000, .int 1000000])) p1 = some (.lst (([6, 12, 1000, 1000000] : List Int).map V.int)) := upd_same
      have bag3 := bag_mut (o := .lst [.int 6, .int 12, .int 1000, .int 1000000]) bag2 bf1
      generalize upd H3 p1 (.lst [.int 6, .int 12, .int 1000, .int 1000000]) = G1 at *
      walk_at "go"
      refine x_take bag3 (by decide) (by decide) fun v1 G2 a0 a1 sx2 bag4 => ?_
      refine x_pick (lo := 1) (hi := 1000000) (sx2 _ _ (by simp; exact fun z => bf1.1 z.symm) hq1) a0 a1 (by decide) fun most m0 m1 => ?_
      walk_at "go"
      refine x_pw (r := 1000000000000000000) ⟨by decide, by decide, by decide⟩ (by decide) ?_
      walk_at "go"
      refine ⟨len3, fun p2 hp2 => ?_⟩
      have bf2 := bag_fresh bag4 hp2
      have hq2 : (upd G2 p2 (.lst [.int 6, .int 40, .int 1000000000000000000])) p2 = some (.lst (([6, 40, 1000000000000000000] : List Int).map V.int)) := upd_same
      have bag5 := bag_mut (o := .lst [.int 6, .int 40, .int 1000000000000000000]) bag4 bf2
      generalize upd G2 p2 (.lst [.int 6, .int 40, .int 1000000000000000000]) = G3 at *
      walk_at "go"
      refine x_take bag5 (by decide) (by decide) fun v2 G4 a2 a3 sx4 bag6 => ?_
      refine x_pick (lo := 1) (hi := 1000000000000000000) (sx4 _ _ (by simp; exact fun z => bf2.1 z.symm) hq2) a2 a3 (by decide) fun lng l0 l1 => ?_
      walk_at "go"
      refine ⟨len3, fun p3 hp3 => ?_⟩
      have bf3 := bag_fresh bag6 hp3
      have hq3 : (upd G4 p3 (.lst [.int 6, .int 12, .int 40])) p3 = some (.lst (([6, 12, 40] : List Int).map V.int)) := upd_same
      have bag7 := bag_mut (o := .lst [.int 6, .int 12, .int 40]) bag6 bf3
      generalize upd G4 p3 (.lst [.int 6, .int 12, .int 40]) = G5 at *
      walk_at "go"
      refine x_take bag7 (by decide) (by decide) fun v3 G6 a4 a5 sx6 bag8 => ?_
      refine x_pick (lo := 1) (hi := 40) (sx6 _ _ (by simp; exact fun z => bf3.1 z.symm) hq3) a4 a5 (by decide) fun nmax n0 n1 => ?_
      walk_at "go"
      refine ⟨a, c, nmax, most, lng, rfl, bag8, n0, n1, m0, m1, l0, l1, fun hp l d L st H7 sx7 bag9 hl0 hd0 hhp hl hL1 hL40 hLb hd hst => ?_⟩
      have lna : l ≠ a := fun z => by
        obtain ⟨⟨xs, h1⟩, _⟩ := bag_lst bag8
        rw [z, h1] at hl0; cases hl0
      have dna : d ≠ a := fun z => by
        obtain ⟨⟨xs, h1⟩, _⟩ := bag_lst bag8
        rw [z, h1] at hd0; cases hd0
      walk_at "go"
      refine x_take bag9 (by decide) (by decide) fun v4 G8 a6 a7 sx8 bag10 => ?_
      walk_at "go"
      refine ⟨by show 4 ≤ sizeLine; decide, fun p4 hp4 => ?_⟩
      have bf4 := bag_fresh bag10 hp4
      have hq4 : (upd G8 p4 (.lst [.int 2, .int 3, .int 1000, .int (1 + v4)])) p4 = some (.lst ([2, 3, 1000, 1 + v4].map V.int)) := upd_same
      have s9 := same_new (o := .lst [.int 2, .int 3, .int 1000, .int (1 + v4)]) hp4
      have bag11 := bag_mut (o := .lst [.int 2, .int 3, .int 1000, .int (1 + v4)]) bag10 bf4
      generalize upd G8 p4 (.lst [.int 2, .int 3, .int 1000, .int (1 + v4)]) = G9 at *
      walk_at "go"
      refine x_take bag11 (by decide) (by decide) fun v5 G10 a8 a9 sx10 bag12 => ?_
      refine x_pick (lo := 1) (hi := 1000) (sx10 _ _ (by simp; exact fun z => bf4.1 z.symm) hq4) a8 a9 (btw_cons ⟨by decide, by decide⟩ (btw_cons ⟨by decide, by decide⟩ (btw_cons ⟨by decide, by decide⟩ (btw_cons ⟨by omega, by omega⟩ btw_nil)))) fun k k1 k2 => ?_
      have hl10 : G10 l = some (.lst (L.map V.int)) := sx10 _ _ (by simp [lna]) (s9 _ _ (sx8 _ _ (by simp [lna]) hl))
      have hd10 : G10 d = some (.dK (kvS st)) := sx10 _ _ (by simp [dna]) (s9 _ _ (sx8 _ _ (by simp [dna]) hd))
      walk_at "go"
      refine x_listL hl10 fun l2 hl2 => ?_
      have s11 := same_new (o := .lst (L.map V.int)) hl2
      have hl11 : (upd G10 l2 (.lst (L.map V.int))) l2 = some (.lst (L.map V.int)) := upd_same
      generalize upd G10 l2 (.lst (L.map V.int)) = G11 at *
      walk_at "go"
      refine mk_bookN hl11 hL1 hL40 (fun x hx => by have := hLb x hx; omega) fun bk H12 s12 hbk => ?_
      have bag12' := bag_same (s11.trans s12) bag12
      have hd12 := s12 _ _ (s11 _ _ hd10)
      obtain ⟨G0, nn0⟩ := good_of hL1 hL40 hLb hst
      walk_at "go"
      refine ⟨d, st, rfl, hd12, ⟨hst.nd, by have := hst.len; omega, hst.bd⟩, fun sv H13 s13 tsv => ?_⟩
      have hlen0 : (st.mergeSort leP).length ≤ L.length := by rw [List.length_mergeSort]; exact hst.len
      have hks : st.map (·.1) = st.map (·.1) := rfl
      generalize hS : st.mergeSort leP = S at *
      have bag13 := bag_same s13 bag12'
      have bs13 : BS cB H13 (.ref bk) sv L S := ⟨bk_same s13 hbk, tsv, G0, nn0⟩
      have hd13 := s13 _ _ hd12
      walk_at "go"
      refine ⟨len2, fun q hq => ?_⟩
      have s14 := same_new (o := .tup [.ref bk, sv]) hq
      have hq14 : (upd H13 q (.tup [.ref bk, sv])) q = some (.tup [.ref bk, sv]) := upd_same
      have bag14 := bag_same s14 bag13
      have bs14 := bs_same s14 bs13
      have hd14 := s14 _ _ hd13
      generalize upd H13 q (.tup [.ref bk, sv]) = H14 at *
      walk_at "go"
      refine ⟨.ref bk, k, L, rfl, bs14.bk, k1, k2, hL1, hL40, hLb, fun wbk H15 s15 _ hwb => ?_⟩
      have bs15 := bs_same s15 bs14
      have hq15 := s15 _ _ hq14
      walk_at "go"
      refine ⟨sv, S, k, rfl, bs15.tst, by omega, by omega, k2, fun wsv H16 s16 twsv => ?_⟩
      walk_at "go"
      refine ⟨len2, fun sl hsl => ?_⟩
      have s17 := same_new (o := .tup [.ref wbk, wsv]) hsl
      have hs17 : (upd H16 sl (.tup [.ref wbk, wsv])) sl = some (.tup [.ref wbk, wsv]) := upd_same
      obtain ⟨G2, nn2⟩ := good_kk k1 k2 hL1 hL40 hLb hlen0 nn0
      have two17 : Two cB (upd H16 sl (.tup [.ref wbk, wsv])) q sl k (.ref bk) sv (.ref wbk) wsv L S := ⟨s17 _ _ (s16 _ _ hq15), hs17, bs_same (s16.trans s17) bs15, ⟨bk_same (s16.trans s17) hwb, tp_keep (kp_same s17) twsv, G2, nn2⟩, k1, k2⟩
      have bag17 := bag_same ((s15.trans s16).trans s17) bag14
      have hd17 := ((s15.trans s16).trans s17) _ _ hd14
      generalize upd H16 sl (.tup [.ref wbk, wsv]) = H17 at *
      have hqq17 := two17.hq
      walk_at "go"
      refine ⟨_, _, L, S, rfl, two17.b1, fun rl zs H18 s18 hrl trl => ?_⟩
      have two18 := two_same s18 two17
      have bag18 := bag_same s18 bag17
      have hd18 := s18 _ _ hd17
      have hsl18 := two18.hs
      have ok := run_ok G0
      have hrs : (run L S).rows.length ≤ 1000 := by have := ok.rsz; have := ok.big; omega
      have hk : 0 < k := by omega
      have erow : (run (kL k L) (kS k S)).rows = (run L S).rows.map fun e => (e.1 * k, e.2) := by rw [run_k hk G0]; rfl
      generalize (run L S).rows = rows at *
      walk_at "go"
      refine ⟨_, _, _, _, rfl, two18.b2, fun rl2 zs2 H19 s19 hrl2 trl2 => ?_⟩
      have two19 := two_same s19 two18
      have bag19 := bag_same s19 bag18
      have hd19 := s19 _ _ hd18
      have hrl19 := s19 _ _ hrl
      have trl19 := tpa_keep (kp_same s19) trl
      walk_at "go"
      intro D hD
      refine lc_list trl19 (by omega) (fun r => some (rowD (r.1 * k, r.2))) hD (fun r v H20 Kb Kf hr' s20 tx kb kf => ?_) (fun H20 acc s20 hacc tacc => ?_) hrl19
      · obtain ⟨pa, x1, x2, x3, rfl, hpa, t1', t2', t3'⟩ := tp_trip tx
        cases tp_int t1'
        walk_at "go"
        refine ⟨rfl, ?_⟩
        walk_at "go"
        refine x_mulR (by omega) (by omega) ?_
        walk_at "go"
        exact ⟨len3, fun z hz => kb _ _ _ rfl (same_new hz) (mk_trip upd_same (.int _) (tp_keep (kp_same (same_new hz)) t2') (tp_keep (kp_same (same_new hz)) t3'))⟩
      · rw [fm_some] at tacc
        have e1 : rows.map (fun r => rowD (r.1 * k, r.2)) = (rows.map fun e => (e.1 * k, e.2)).map rowD := by rw [List.map_map]; rfl
        rw [e1, ← erow] at tacc
        refine x_neS (dp_list (s20 _ _ hrl2) (tpa_keep (kp_same s20) trl2)) (dp_list hacc tacc) (sh_list (sh_map sh_row _)) (by decide) ?_
        have two20 := two_same s20 two19
        have bag20 := bag_same s20 bag19
        have hd20 := s20 _ _ hd19
        have hrl20 := s20 _ _ hrl19
        have trl20 := tpa_keep (kp_same s20) trl19
        have rna := rows_na bag20 hrl20 trl20
        walk_at "go"
        refine ⟨3, rfl, by decide, by decide, ?_⟩
        refine for_it walk_range (fun j σ H' => (∃ u11, σ = [some (.ref sa), some (.ref a), some (.int (0 + (i : Int))), some (.int most), some (.int lng), some (.ref l), some (.ref d), some (.int k), some (.ref q), some (.ref sl), some (.ref rl), u11, u12, u13, none, none, none]) ∧ BagO a c H' ∧ Two cB H' q sl k (.ref bk) sv (.ref wbk) wsv L S ∧ H' d = some (.dK (kvS st)) ∧ H' rl = some (.lst zs) ∧ TpAll H' zs (rows.map rowD))
          ⟨⟨_, rfl⟩, bag20, two20, hd20, hrl20, trl20⟩ (fun _ _ _ _ _ => True.intro) (fun j x σ H21 H22 hj ⟨⟨u11', es⟩, bag21, two21, hd21, hrl21, trl21⟩ y => ?_) (fun σ H21 ⟨⟨u11', es⟩, bag21, two21, hd21, hrl21, trl21⟩ => ?_)
        · subst es
          obtain ⟨rfl, rfl⟩ := y
          walk_at "go"
          refine ⟨a, c, rl, zs, rows, k, rfl, bag21, hrl21, trl21, hrs, k1, k2, fun mo J1 mo0 sj1 bj1 => ?_⟩
          walk_at "go"
          refine x_take bj1 hk (by omega) fun be J2 be0 be1 sj2 bj2 => ?_
          have sj := sj1.trans sj2
          have twoj := two_sx bag21 sj two21
          have hdj := sj _ _ (by simp [dna]) hd21
          have hrlj := sj _ _ (by simp [rna]) hrl21
          have trlj := tpa_keep (bag_kp bag21 sj) trl21
          walk_at "go"
          refine ⟨q, sl, k, mo, be, _, _, _, _, L, S, rfl, twoj, mo0, be0, be1, fun J3 sj3 => ?_⟩
          walk_at "go"
          exact ⟨⟨_, rfl⟩, bag_same sj3 bj2, two_same sj3 twoj, sj3 _ _ hdj, sj3 _ _ hrlj, tpa_keep (kp_same sj3) trlj⟩
        · subst es
          walk_at "go"
          refine ⟨a, c, rl, zs, rows, k, rfl, bag21, hrl21, trl21, hrs, k1, k2, fun mo J1 mo0 sj1 bj1 => ?_⟩
          have twoj := two_sx bag21 sj1 two21
          have hdj := sj1 _ _ (by simp [dna]) hd21
          walk_at "go"
          refine ⟨d, kvS st, st.map (·.1), rfl, .inl hdj, by unfold kvS; rw [List.map_map, List.map_map]; rfl, by rw [List.length_map]; have := hst.len; omega, fun ys p5 _ _ hp5 => ?_⟩
          have bf5 := bag_fresh bj1 hp5
          have s22 := same_new (o := .lst (ys.map V.str)) hp5
          have hp522 : (upd J1 p5 (.lst (ys.map V.str))) p5 = some (.lst (ys.map V.str)) := upd_same
          have bj2 := bag_same s22 bj1
          have twoj2 := two_same s22 twoj
          have hdj2 := s22 _ _ hdj
          generalize upd J1 p5 (.lst (ys.map V.str)) = J2 at *
          walk_at "go"
          refine x_lenD hdj2 ?_
          walk_at "go"
          have hmx : 0 < max 1 ((kvS st).length : Int) := by omega
          have hmx2 : max 1 ((kvS st).length : Int) < 2 ^ 127 := by
            have : (kvS st).length = st.length := by unfold kvS; rw [List.length_map]
            have := hst.len
            omega
          refine x_take bj2 hmx hmx2 fun at0 J3 c0 c1 sj3 bj3 => ?_
          have hp53 := sj3 _ _ (by simp; exact fun z => bf5.1 z.symm) hp522
          have twoj3 := two_sx bj2 sj3 twoj2
          walk_at "go"
          intro p6 hp6
          have bf6 := bag_fresh bj3 hp6
          have ecut : cutV (ys.map V.str) (some at0) none = (ys.drop at0.toNat).map V.str := by
            have h1 := cut_from (xs := ys.map V.str) (k := at0.toNat)
            rw [Int.toNat_of_nonneg c0] at h1
            rw [h1, List.map_drop]
          rw [ecut]
          have s23 := same_new (o := .lst ((ys.drop at0.toNat).map V.str)) hp6
          have hp623 : (upd J3 p6 (.lst ((ys.drop at0.toNat).map V.str))) p6 = some (.lst ((ys.drop at0.toNat).map V.str)) := upd_same
          have bj4 := bag_same s23 bj3
          have twoj4 := two_same s23 twoj3
          generalize upd J3 p6 (.lst ((ys.drop at0.toNat).map V.str)) = J4 at *
          walk_at "go"
          intro p7 hp7
          have ecut2 : cutV ((ys.drop at0.toNat).map V.str) none (some 2) = ((ys.drop at0.toNat).take 2).map V.str := by
            rw [List.map_take]
            exact cut_to (k := 2)
          rw [ecut2]
          have s24 := same_new (o := .lst (((ys.drop at0.toNat).take 2).map V.str)) hp7
          have hp724 : (upd J4 p7 (.lst (((ys.drop at0.toNat).take 2).map V.str))) p7 = some (.lst (((ys.drop at0.toNat).take 2).map V.str)) := upd_same
          have bj5 := bag_same s24 bj4
          have twoj5 := two_same s24 twoj4
          generalize upd J4 p7 (.lst (((ys.drop at0.toNat).take 2).map V.str)) = J5 at *
          generalize (ys.drop at0.toNat).take 2 = nms at *
          walk_at "go"
          have tn : TpAll J5 (nms.map V.str) (nms.map PyData.str) := tpa_of_strs _ _
          refine for_list tn (fun j σ H' => (∃ u13', σ = [some (.ref sa), some (.ref a), some (.int (0 + (i : Int))), some (.int most), some (.int lng), some (.ref l), some (.ref d), some (.int k), some (.ref q), some (.ref sl), some (.ref rl), u11', some (.int mo), u13', none, none, none]) ∧ Same J5 H')
            ⟨⟨_, rfl⟩, Same.refl _⟩ (fun j nm x σ J6 hnm ⟨⟨u13', es⟩, s25⟩ tx => ?_) (fun σ J6 ⟨⟨u13', es⟩, s25⟩ => ?_) hp724 (fun j σ J6 ⟨_, s25⟩ => ⟨s25 _ _ hp724, kp_same s25⟩)
          · subst es
            cases tp_str tx
            have two6 := two_same s25 twoj5
            have hq6 := two6.hq
            have hs6 := two6.hs
            walk_at "go"
            refine x_mulR (by omega) (by omega) ?_
            walk_at "go"
            refine ⟨_, _, nm, mo * k, _, _, rfl, two6.b2, fun J7 s26 => ?_⟩
            have two7 := two_same s26 two6
            have hq7 := two7.hq
            walk_at "go"
            refine ⟨_, _, nm, mo, L, S, rfl, two7.b1, fun J8 s27 => ?_⟩
            rw [isUp_k hk G0]
            refine x_neI ?_
            rw [decide_eq_true rfl]
            walk_at "go"
            exact ⟨⟨_, rfl⟩, (s25.trans s26).trans s27⟩
          · subst es
            have two6 := two_same s25 twoj5
            walk_at "go"
            refine ⟨q, sl, k, _, _, _, _, L, S, rfl, two6, fun J7 s26 => ?_⟩
            walk_at "go"
            exact ⟨⟨_, _, _, _, _, _, _, _, _, _, _, _, rfl⟩, bag_same (s25.trans s26) bj5⟩
    · subst es
      walk_at "go"
      exact kQ _
end
end Sl

set_option Elab.async false
set_option linter.all false
set_option maxRecDepth 100000
set_option maxHeartbeats 8000000
/-! What the top has written; the head. -/
namespace Sl
open PySem L2 PyProof.Rows PySem.Spec
theorem mg_long {p : Program} {mg : Str → Option Value} {h : Heap} (x : PySem.W.XL p [("MOST_LENGTH", PySem.W.WData.int 1000000000)] mg h) : ∃ t, mg "MOST_LENGTH" = some (.int 1000000000 t) := by
  obtain ⟨v, h1, h2⟩ := x.2.val _ List.mem_cons_self
  cases h2
  exact ⟨_, h1⟩

theorem all_mk {P : Program} {w : World} {K : PySem.W.Frag} {h : Heap} {mg : Str → Option Value} {fa cB cR f_rest_behind f_divisor f_multiple f_fraction f_times_up f_last_up f_inverse f_meeting f_falling_in f_parting_of f_next_up f_total f_slower_standing f_groups_of f_is_whole f_is_between f_is_length f_Book_init f_Book_lengths f_Book_sleep f_slower_book f_come_in f_fall_in f_Run_init f_parts_at f_spans f_fallings f_far f_up_at f_ups_from f_beats_with f_all_told f_given_over f_times_of f_goings_of f_rest_from f_shares f_pairs_of f_is_at_rest f_round_of f_law_take f_law_bag f_law_names f_law_spans f_law_rests f_law_hall f_law_stand f_law_moment f_law_sums f_law_at_right f_law_rest_right f_law : Addr} {tS tL : Tok} (X : K.In h) (G : h.Ns mainGlobals mg) (hfa : mg "law" = some (.ref fa)) (hML : mg "MOST_LENGTH" = some (.int 1000000000 tL))
    {od_rest_behind an_rest_behind od_divisor an_divisor od_multiple an_multiple od_fraction an_fraction od_times_up an_times_up od_last_up an_last_up od_inverse an_inverse od_meeting an_meeting od_falling_in an_falling_in od_parting_of an_parting_of od_next_up an_next_up od_total an_total od_slower_standing an_slower_standing od_groups_of an_groups_of od_is_whole an_is_whole od_is_between an_is_between od_is_length an_is_length od_Book_init an_Book_init od_Book_lengths an_Book_lengths od_Book_sleep an_Book_sleep od_slower_book an_slower_book od_come_in an_come_in od_fall_in an_fall_in od_Run_init an_Run_init od_parts_at an_parts_at od_spans an_spans od_fallings an_fallings od_far an_far od_up_at an_up_at od_ups_from an_ups_from od_beats_with an_beats_with od_all_told an_all_told od_given_over an_given_over od_times_of an_times_of od_goings_of an_goings_of od_rest_from an_rest_from od_shares an_shares od_pairs_of an_pairs_of od_is_at_rest an_is_at_rest od_round_of an_round_of od_law_take an_law_take od_law_bag an_law_bag od_law_names an_law_names od_law_spans an_law_spans od_law_rests an_law_rests od_law_hall an_law_hall od_law_stand an_law_stand od_law_moment an_law_moment od_law_sums an_law_sums od_law_at_right an_law_at_right od_law_rest_right an_law_rest_right od_law an_law : Option Addr} {sl_rest_behind sl_divisor sl_multiple sl_fraction sl_times_up sl_last_up sl_inverse sl_meeting sl_falling_in sl_parting_of sl_next_up sl_total sl_slower_standing sl_groups_of sl_is_whole sl_is_between sl_is_length sl_Book_init sl_Book_lengths sl_Book_sleep sl_slower_book sl_come_in sl_fall_in sl_Run_init sl_parts_at sl_spans sl_fallings sl_far sl_up_at sl_ups_from sl_beats_with sl_all_told sl_given_over sl_times_of sl_goings_of sl_rest_from sl_shares sl_pairs_of sl_is_at_rest sl_round_of sl_law_take sl_law_bag sl_law_names sl_law_spans sl_law_rests sl_law_hall sl_law_stand sl_law_moment sl_law_sums sl_law_at_right sl_law_rest_right sl_law : Array (Option Value)} {oc_rest_behind kV_rest_behind dc_rest_behind pm_rest_behind cd_rest_behind ct_rest_behind oc_divisor kV_divisor dc_divisor pm_divisor cd_divisor ct_divisor oc_multiple kV_multiple dc_multiple pm_multiple cd_multiple ct_multiple oc_fraction kV_fraction dc_fraction pm_fraction cd_fraction ct_fraction oc_times_up kV_times_up dc_times_up pm_times_up cd_times_up ct_times_up oc_last_up kV_last_up dc_last_up pm_last_up cd_last_up ct_last_up oc_inverse kV_inverse dc_inverse pm_inverse cd_inverse ct_inverse oc_meeting kV_meeting dc_meeting pm_meeting cd_meeting ct_meeting oc_falling_in kV_falling_in dc_falling_in pm_falling_in cd_falling_in ct_falling_in oc_parting_of kV_parting_of dc_parting_of pm_parting_of cd_parting_of ct_parting_of oc_next_up kV_next_up dc_next_up pm_next_up cd_next_up ct_next_up oc_total kV_total dc_total pm_total cd_total ct_total oc_slower_standing kV_slower_standing dc_slower_standing pm_slower_standing cd_slower_standing ct_slower_standing oc_groups_of kV_groups_of dc_groups_of pm_groups_of cd_groups_of ct_groups_of oc_is_whole kV_is_whole dc_is_whole pm_is_whole cd_is_whole ct_is_whole oc_is_between kV_is_between dc_is_between pm_is_between cd_is_between ct_is_between oc_is_length kV_is_length dc_is_length pm_is_length cd_is_length ct_is_length oc_Book_init kV_Book_init dc_Book_init pm_Book_init cd_Book_init ct_Book_init oc_Book_lengths kV_Book_lengths dc_Book_lengths pm_Book_lengths cd_Book_lengths ct_Book_lengths oc_Book_sleep kV_Book_sleep dc_Book_sleep pm_Book_sleep cd_Book_sleep ct_Book_sleep oc_slower_book kV_slower_book dc_slower_book pm_slower_book cd_slower_book ct_slower_book oc_come_in kV_come_in dc_come_in pm_come_in cd_come_in ct_come_in oc_fall_in kV_fall_in dc_fall_in pm_fall_in cd_fall_in ct_fall_in oc_Run_init kV_Run_init dc_Run_init pm_Run_init cd_Run_init ct_Run_init oc_parts_at kV_parts_at dc_parts_at pm_parts_at cd_parts_at ct_parts_at oc_spans kV_spans dc_spans pm_spans cd_spans ct_spans oc_fallings kV_fallings dc_fallings pm_fallings cd_fallings ct_fallings oc_far kV_far dc_far pm_far cd_far ct_far oc_up_at kV_up_at dc_up_at pm_up_at cd_up_at ct_up_at oc_ups_from kV_ups_from dc_ups_from pm_ups_from cd_ups_from ct_ups_from oc_beats_with kV_beats_with dc_beats_with pm_beats_with cd_beats_with ct_beats_with oc_all_told kV_all_told dc_all_told pm_all_told cd_all_told ct_all_told oc_given_over kV_given_over dc_given_over pm_given_over cd_given_over ct_given_over oc_times_of kV_times_of dc_times_of pm_times_of cd_times_of ct_times_of oc_goings_of kV_goings_of dc_goings_of pm_goings_of cd_goings_of ct_goings_of oc_rest_from kV_rest_from dc_rest_from pm_rest_from cd_rest_from ct_rest_from oc_shares kV_shares dc_shares pm_shares cd_shares ct_shares oc_pairs_of kV_pairs_of dc_pairs_of pm_pairs_of cd_pairs_of ct_pairs_of oc_is_at_rest kV_is_at_rest dc_is_at_rest pm_is_at_rest cd_is_at_rest ct_is_at_rest oc_round_of kV_round_of dc_round_of pm_round_of cd_round_of ct_round_of oc_law_take kV_law_take dc_law_take pm_law_take cd_law_take ct_law_take oc_law_bag kV_law_bag dc_law_bag pm_law_bag cd_law_bag ct_law_bag oc_law_names kV_law_names dc_law_names pm_law_names cd_law_names ct_law_names oc_law_spans kV_law_spans dc_law_spans pm_law_spans cd_law_spans ct_law_spans oc_law_rests kV_law_rests dc_law_rests pm_law_rests cd_law_rests ct_law_rests oc_law_hall kV_law_hall dc_law_hall pm_law_hall cd_law_hall ct_law_hall oc_law_stand kV_law_stand dc_law_stand pm_law_stand cd_law_stand ct_law_stand oc_law_moment kV_law_moment dc_law_moment pm_law_moment cd_law_moment ct_law_moment oc_law_sums kV_law_sums dc_law_sums pm_law_sums cd_law_sums ct_law_sums oc_law_at_right kV_law_at_right dc_law_at_right pm_law_at_right cd_law_at_right ct_law_at_right oc_law_rest_right kV_law_rest_right dc_law_rest_right pm_law_rest_right cd_law_rest_right ct_law_rest_right oc_law kV_law dc_law pm_law cd_law ct_law : Value}
    (a_Book : PySem.W.nsIn K mainGlobals "Book" = some (some (.ref cB)))
    (pg_Book : PySem.W.plainGet K cB Str.empty = true)
    (hd_Book : PySem.W.hasDictIn K cB = true)
    (po_Book : PySem.W.plainOver K cB = true)
    (sa_Book : PySem.W.findIn K (.ref cB) "__setattr__" = some (some (.builtin "object.__setattr__")))
    (mk_Book : PySem.W.makesIn K cB = true)
    (kc_Book : PySem.W.keepIn K (.ref cB) = true)
    (n_Book_rows : PySem.W.findIn K (.ref cB) "rows" = some none)
    (a_Run : PySem.W.nsIn K mainGlobals "Run" = some (some (.ref cR)))
    (pg_Run : PySem.W.plainGet K cR Str.empty = true)
    (hd_Run : PySem.W.hasDictIn K cR = true)
    (po_Run : PySem.W.plainOver K cR = true)
    (sa_Run : PySem.W.findIn K (.ref cR) "__setattr__" = some (some (.builtin "object.__setattr__")))
    (mk_Run : PySem.W.makesIn K cR = true)
    (kc_Run : PySem.W.keepIn K (.ref cR) = true)
    (n_Run_book : PySem.W.findIn K (.ref cR) "book" = some none)
    (n_Run_many : PySem.W.findIn K (.ref cR) "many" = some none)
    (n_Run_parts : PySem.W.findIn K (.ref cR) "parts" = some none)
    (n_Run_pairs : PySem.W.findIn K (.ref cR) "pairs" = some none)
    (n_Run_rows : PySem.W.findIn K (.ref cR) "rows" = some none)
    (n_Run_stretches : PySem.W.findIn K (.ref cR) "stretches" = some none)
    (z_len : PySem.W.nsIn K mainGlobals "len" = some none)
    (z_min : PySem.W.nsIn K mainGlobals "min" = some none)
    (z_max : PySem.W.nsIn K mainGlobals "max" = some none)
    (z_sum : PySem.W.nsIn K mainGlobals "sum" = some none)
    (z_all : PySem.W.nsIn K mainGlobals "all" = some none)
    (z_abs : PySem.W.nsIn K mainGlobals "abs" = some none)
    (z_sorted : PySem.W.nsIn K mainGlobals "sorted" = some none)
    (z_list : PySem.W.nsIn K mainGlobals "list" = some none)
    (z_tuple : PySem.W.nsIn K mainGlobals "tuple" = some none)
    (z_dict : PySem.W.nsIn K mainGlobals "dict" = some none)
    (z_zip : PySem.W.nsIn K mainGlobals "zip" = some none)
    (z_enumerate : PySem.W.nsIn K mainGlobals "enumerate" = some none)
    (z_range : PySem.W.nsIn K mainGlobals "range" = some none)
    (z_int : PySem.W.nsIn K mainGlobals "int" = some none)
    (z_bool : PySem.W.nsIn K mainGlobals "bool" = some none)
    (z_isinstance : PySem.W.nsIn K mainGlobals "isinstance" = some none)
    (a_MS : PySem.W.nsIn K mainGlobals "MOST_SLEEPERS" = some (some (.int 40 tS)))
    (a_rest_behind : PySem.W.nsIn K mainGlobals "rest_behind" = some (some (.ref f_rest_behind)))
    (l_rest_behind : K.lookup f_rest_behind = some ⟨oc_rest_behind, od_rest_behind, .func (PySem.W.fnOf "rest_behind" "rest_behind" (defArgs s_rest_behind) (defBody s_rest_behind) (defScope s_rest_behind) .none kV_rest_behind dc_rest_behind pm_rest_behind an_rest_behind cd_rest_behind ct_rest_behind), sl_rest_behind⟩)
    (c_rest_behind : PySem.W.codeIn K cd_rest_behind "rest_behind" = true)
    (k_rest_behind : PySem.W.keepIn K (.ref f_rest_behind) = true)
    (a_divisor : PySem.W.nsIn K mainGlobals "divisor" = some (some (.ref f_divisor)))
    (l_divisor : K.lookup f_divisor = some ⟨oc_divisor, od_divisor, .func (PySem.W.fnOf "divisor" "divisor" (defArgs s_divisor) (defBody s_divisor) (defScope s_divisor) .none kV_divisor dc_divisor pm_divisor an_divisor cd_divisor ct_divisor), sl_divisor⟩)
    (c_divisor : PySem.W.codeIn K cd_divisor "divisor" = true)
    (k_divisor : PySem.W.keepIn K (.ref f_divisor) = true)
    (a_multiple : PySem.W.nsIn K mainGlobals "multiple" = some (some (.ref f_multiple)))
    (l_multiple : K.lookup f_multiple = some ⟨oc_multiple, od_multiple, .func (PySem.W.fnOf "multiple" "multiple" (defArgs s_multiple) (defBody s_multiple) (defScope s_multiple) .none kV_multiple dc_multiple pm_multiple an_multiple cd_multiple ct_multiple), sl_multiple⟩)
    (c_multiple : PySem.W.codeIn K cd_multiple "multiple" = true)
    (k_multiple : PySem.W.keepIn K (.ref f_multiple) = true)
    (a_fraction : PySem.W.nsIn K mainGlobals "fraction" = some (some (.ref f_fraction)))
    (l_fraction : K.lookup f_fraction = some ⟨oc_fraction, od_fraction, .func (PySem.W.fnOf "fraction" "fraction" (defArgs s_fraction) (defBody s_fraction) (defScope s_fraction) .none kV_fraction dc_fraction pm_fraction an_fraction cd_fraction ct_fraction), sl_fraction⟩)
    (c_fraction : PySem.W.codeIn K cd_fraction "fraction" = true)
    (k_fraction : PySem.W.keepIn K (.ref f_fraction) = true)
    (a_times_up : PySem.W.nsIn K mainGlobals "times_up" = some (some (.ref f_times_up)))
    (l_times_up : K.lookup f_times_up = some ⟨oc_times_up, od_times_up, .func (PySem.W.fnOf "times_up" "times_up" (defArgs s_times_up) (defBody s_times_up) (defScope s_times_up) .none kV_times_up dc_times_up pm_times_up an_times_up cd_times_up ct_times_up), sl_times_up⟩)
    (c_times_up : PySem.W.codeIn K cd_times_up "times_up" = true)
    (k_times_up : PySem.W.keepIn K (.ref f_times_up) = true)
    (a_last_up : PySem.W.nsIn K mainGlobals "last_up" = some (some (.ref f_last_up)))
    (l_last_up : K.lookup f_last_up = some ⟨oc_last_up, od_last_up, .func (PySem.W.fnOf "last_up" "last_up" (defArgs s_last_up) (defBody s_last_up) (defScope s_last_up) .none kV_last_up dc_last_up pm_last_up an_last_up cd_last_up ct_last_up), sl_last_up⟩)
    (c_last_up : PySem.W.codeIn K cd_last_up "last_up" = true)
    (k_last_up : PySem.W.keepIn K (.ref f_last_up) = true)
    (a_inverse : PySem.W.nsIn K mainGlobals "inverse" = some (some (.ref f_inverse)))
    (l_inverse : K.lookup f_inverse = some ⟨oc_inverse, od_inverse, .func (PySem.W.fnOf "inverse" "inverse" (defArgs s_inverse) (defBody s_inverse) (defScope s_inverse) .none kV_inverse dc_inverse pm_inverse an_inverse cd_inverse ct_inverse), sl_inverse⟩)
    (c_inverse : PySem.W.codeIn K cd_inverse "inverse" = true)
    (k_inverse : PySem.W.keepIn K (.ref f_inverse) = true)
    (a_meeting : PySem.W.nsIn K mainGlobals "meeting" = some (some (.ref f_meeting)))
    (l_meeting : K.lookup f_meeting = some ⟨oc_meeting, od_meeting, .func (PySem.W.fnOf "meeting" "meeting" (defArgs s_meeting) (defBody s_meeting) (defScope s_meeting) .none kV_meeting dc_meeting pm_meeting an_meeting cd_meeting ct_meeting), sl_meeting⟩)
    (c_meeting : PySem.W.codeIn K cd_meeting "meeting" = true)
    (k_meeting : PySem.W.keepIn K (.ref f_meeting) = true)
    (a_falling_in : PySem.W.nsIn K mainGlobals "falling_in" = some (some (.ref f_falling_in)))
    (l_falling_in : K.lookup f_falling_in = some ⟨oc_falling_in, od_falling_in, .func (PySem.W.fnOf "falling_in" "falling_in" (defArgs s_falling_in) (defBody s_falling_in) (defScope s_falling_in) .none kV_falling_in dc_falling_in pm_falling_in an_falling_in cd_falling_in ct_falling_in), sl_falling_in⟩)
    (c_falling_in : PySem.W.codeIn K cd_falling_in "falling_in" = true)
    (k_falling_in : PySem.W.keepIn K (.ref f_falling_in) = true)
    (a_parting_of : PySem.W.nsIn K mainGlobals "parting_of" = some (some (.ref f_parting_of)))
    (l_parting_of : K.lookup f_parting_of = some ⟨oc_parting_of, od_parting_of, .func (PySem.W.fnOf "parting_of" "parting_of" (defArgs s_parting_of) (defBody s_parting_of) (defScope s_parting_of) .none kV_parting_of dc_parting_of pm_parting_of an_parting_of cd_parting_of ct_parting_of), sl_parting_of⟩)
    (c_parting_of : PySem.W.codeIn K cd_parting_of "parting_of" = true)
    (k_parting_of : PySem.W.keepIn K (.ref f_parting_of) = true)
    (a_next_up : PySem.W.nsIn K mainGlobals "next_up" = some (some (.ref f_next_up)))
    (l_next_up : K.lookup f_next_up = some ⟨oc_next_up, od_next_up, .func (PySem.W.fnOf "next_up" "next_up" (defArgs s_next_up) (defBody s_next_up) (defScope s_next_up) .none kV_next_up dc_next_up pm_next_up an_next_up cd_next_up ct_next_up), sl_next_up⟩)
    (c_next_up : PySem.W.codeIn K cd_next_up "next_up" = true)
    (k_next_up : PySem.W.keepIn K (.ref f_next_up) = true)
    (a_total : PySem.W.nsIn K mainGlobals "total" = some (some (.ref f_total)))
    (l_total : K.lookup f_total = some ⟨oc_total, od_total, .func (PySem.W.fnOf "total" "total" (defArgs s_total) (defBody s_total) (defScope s_total) .none kV_total dc_total pm_total an_total cd_total ct_total), sl_total⟩)
    (c_total : PySem.W.codeIn K cd_total "total" = true)
    (k_total : PySem.W.keepIn K (.ref f_total) = true)
    (a_slower_standing : PySem.W.nsIn K mainGlobals "slower_standing" = some (some (.ref f_slower_standing)))
    (l_slower_standing : K.lookup f_slower_standing = some ⟨oc_slower_standing, od_slower_standing, .func (PySem.W.fnOf "slower_standing" "slower_standing" (defArgs s_slower_standing) (defBody s_slower_standing) (defScope s_slower_standing) .none kV_slower_standing dc_slower_standing pm_slower_standing an_slower_standing cd_slower_standing ct_slower_standing), sl_slower_standing⟩)
    (c_slower_standing : PySem.W.codeIn K cd_slower_standing "slower_standing" = true)
    (k_slower_standing : PySem.W.keepIn K (.ref f_slower_standing) = true)
    (a_groups_of : PySem.W.nsIn K mainGlobals "groups_of" = some (some (.ref f_groups_of)))
    (l_groups_of : K.lookup f_groups_of = some ⟨oc_groups_of, od_groups_of, .func (PySem.W.fnOf "groups_of" "groups_of" (defArgs s_groups_of) (defBody s_groups_of) (defScope s_groups_of) .none kV_groups_of dc_groups_of pm_groups_of an_groups_of cd_groups_of ct_groups_of), sl_groups_of⟩)
    (c_groups_of : PySem.W.codeIn K cd_groups_of "groups_of" = true)
    (k_groups_of : PySem.W.keepIn K (.ref f_groups_of) = true)
    (a_is_whole : PySem.W.nsIn K mainGlobals "is_whole" = some (some (.ref f_is_whole)))
    (l_is_whole : K.lookup f_is_whole = some ⟨oc_is_whole, od_is_whole, .func (PySem.W.fnOf "is_whole" "is_whole" (defArgs s_is_whole) (defBody s_is_whole) (defScope s_is_whole) .none kV_is_whole dc_is_whole pm_is_whole an_is_whole cd_is_whole ct_is_whole), sl_is_whole⟩)
    (c_is_whole : PySem.W.codeIn K cd_is_whole "is_whole" = true)
    (k_is_whole : PySem.W.keepIn K (.ref f_is_whole) = true)
    (a_is_between : PySem.W.nsIn K mainGlobals "is_between" = some (some (.ref f_is_between)))
    (l_is_between : K.lookup f_is_between = some ⟨oc_is_between, od_is_between, .func (PySem.W.fnOf "is_between" "is_between" (defArgs s_is_between) (defBody s_is_between) (defScope s_is_between) .none kV_is_between dc_is_between pm_is_between an_is_between cd_is_between ct_is_between), sl_is_between⟩)
    (c_is_between : PySem.W.codeIn K cd_is_between "is_between" = true)
    (k_is_between : PySem.W.keepIn K (.ref f_is_between) = true)
    (a_is_length : PySem.W.nsIn K mainGlobals "is_length" = some (some (.ref f_is_length)))
    (l_is_length : K.lookup f_is_length = some ⟨oc_is_length, od_is_length, .func (PySem.W.fnOf "is_length" "is_length" (defArgs s_is_length) (defBody s_is_length) (defScope s_is_length) .none kV_is_length dc_is_length pm_is_length an_is_length cd_is_length ct_is_length), sl_is_length⟩)
    (c_is_length : PySem.W.codeIn K cd_is_length "is_length" = true)
    (k_is_length : PySem.W.keepIn K (.ref f_is_length) = true)
    (a_Book_init : PySem.W.findIn K (.ref cB) "__init__" = some (some (.ref f_Book_init)))
    (i_Book_init : PySem.W.isFn K (.ref f_Book_init) = true)
    (l_Book_init : K.lookup f_Book_init = some ⟨oc_Book_init, od_Book_init, .func (PySem.W.fnOf "__init__" "Book.__init__" (defArgs s_Book_init) (defBody s_Book_init) (defScope s_Book_init) .none kV_Book_init dc_Book_init pm_Book_init an_Book_init cd_Book_init ct_Book_init), sl_Book_init⟩)
    (c_Book_init : PySem.W.codeIn K cd_Book_init "Book.__init__" = true)
    (k_Book_init : PySem.W.keepIn K (.ref f_Book_init) = true)
    (a_Book_lengths : PySem.W.findIn K (.ref cB) "lengths" = some (some (.ref f_Book_lengths)))
    (i_Book_lengths : PySem.W.isFn K (.ref f_Book_lengths) = true)
    (l_Book_lengths : K.lookup f_Book_lengths = some ⟨oc_Book_lengths, od_Book_lengths, .func (PySem.W.fnOf "lengths" "Book.lengths" (defArgs s_Book_lengths) (defBody s_Book_lengths) (defScope s_Book_lengths) .none kV_Book_lengths dc_Book_lengths pm_Book_lengths an_Book_lengths cd_Book_lengths ct_Book_lengths), sl_Book_lengths⟩)
    (c_Book_lengths : PySem.W.codeIn K cd_Book_lengths "Book.lengths" = true)
    (k_Book_lengths : PySem.W.keepIn K (.ref f_Book_lengths) = true)
    (a_Book_sleep : PySem.W.findIn K (.ref cB) "sleep" = some (some (.ref f_Book_sleep)))
    (i_Book_sleep : PySem.W.isFn K (.ref f_Book_sleep) = true)
    (l_Book_sleep : K.lookup f_Book_sleep = some ⟨oc_Book_sleep, od_Book_sleep, .func (PySem.W.fnOf "sleep" "Book.sleep" (defArgs s_Book_sleep) (defBody s_Book_sleep) (defScope s_Book_sleep) .none kV_Book_sleep dc_Book_sleep pm_Book_sleep an_Book_sleep cd_Book_sleep ct_Book_sleep), sl_Book_sleep⟩)
    (c_Book_sleep : PySem.W.codeIn K cd_Book_sleep "Book.sleep" = true)
    (k_Book_sleep : PySem.W.keepIn K (.ref f_Book_sleep) = true)
    (a_slower_book : PySem.W.nsIn K mainGlobals "slower_book" = some (some (.ref f_slower_book)))
    (l_slower_book : K.lookup f_slower_book = some ⟨oc_slower_book, od_slower_book, .func (PySem.W.fnOf "slower_book" "slower_book" (defArgs s_slower_book) (defBody s_slower_book) (defScope s_slower_book) .none kV_slower_book dc_slower_book pm_slower_book an_slower_book cd_slower_book ct_slower_book), sl_slower_book⟩)
    (c_slower_book : PySem.W.codeIn K cd_slower_book "slower_book" = true)
    (k_slower_book : PySem.W.keepIn K (.ref f_slower_book) = true)
    (a_come_in : PySem.W.findIn K (.ref cR) "come_in" = some (some (.ref f_come_in)))
    (i_come_in : PySem.W.isFn K (.ref f_come_in) = true)
    (l_come_in : K.lookup f_come_in = some ⟨oc_come_in, od_come_in, .func (PySem.W.fnOf "come_in" "Run.come_in" (defArgs s_Run_come_in) (defBody s_Run_come_in) (defScope s_Run_come_in) .none kV_come_in dc_come_in pm_come_in an_come_in cd_come_in ct_come_in), sl_come_in⟩)
    (c_come_in : PySem.W.codeIn K cd_come_in "Run.come_in" = true)
    (k_come_in : PySem.W.keepIn K (.ref f_come_in) = true)
    (a_fall_in : PySem.W.findIn K (.ref cR) "fall_in" = some (some (.ref f_fall_in)))
    (i_fall_in : PySem.W.isFn K (.ref f_fall_in) = true)
    (l_fall_in : K.lookup f_fall_in = some ⟨oc_fall_in, od_fall_in, .func (PySem.W.fnOf "fall_in" "Run.fall_in" (defArgs s_Run_fall_in) (defBody s_Run_fall_in) (defScope s_Run_fall_in) .none kV_fall_in dc_fall_in pm_fall_in an_fall_in cd_fall_in ct_fall_in), sl_fall_in⟩)
    (c_fall_in : PySem.W.codeIn K cd_fall_in "Run.fall_in" = true)
    (k_fall_in : PySem.W.keepIn K (.ref f_fall_in) = true)
    (a_Run_init : PySem.W.findIn K (.ref cR) "__init__" = some (some (.ref f_Run_init)))
    (i_Run_init : PySem.W.isFn K (.ref f_Run_init) = true)
    (l_Run_init : K.lookup f_Run_init = some ⟨oc_Run_init, od_Run_init, .func (PySem.W.fnOf "__init__" "Run.__init__" (defArgs s_Run_init) (defBody s_Run_init) (defScope s_Run_init) .none kV_Run_init dc_Run_init pm_Run_init an_Run_init cd_Run_init ct_Run_init), sl_Run_init⟩)
    (c_Run_init : PySem.W.codeIn K cd_Run_init "Run.__init__" = true)
    (k_Run_init : PySem.W.keepIn K (.ref f_Run_init) = true)
    (a_parts_at : PySem.W.findIn K (.ref cR) "parts_at" = some (some (.ref f_parts_at)))
    (i_parts_at : PySem.W.isFn K (.ref f_parts_at) = true)
    (l_parts_at : K.lookup f_parts_at = some ⟨oc_parts_at, od_parts_at, .func (PySem.W.fnOf "parts_at" "Run.parts_at" (defArgs s_Run_parts_at) (defBody s_Run_parts_at) (defScope s_Run_parts_at) .none kV_parts_at dc_parts_at pm_parts_at an_parts_at cd_parts_at ct_parts_at), sl_parts_at⟩)
    (c_parts_at : PySem.W.codeIn K cd_parts_at "Run.parts_at" = true)
    (k_parts_at : PySem.W.keepIn K (.ref f_parts_at) = true)
    (a_spans : PySem.W.findIn K (.ref cR) "spans" = some (some (.ref f_spans)))
    (i_spans : PySem.W.isFn K (.ref f_spans) = true)
    (l_spans : K.lookup f_spans = some ⟨oc_spans, od_spans, .func (PySem.W.fnOf "spans" "Run.spans" (defArgs s_Run_spans) (defBody s_Run_spans) (defScope s_Run_spans) .none kV_spans dc_spans pm_spans an_spans cd_spans ct_spans), sl_spans⟩)
    (c_spans : PySem.W.codeIn K cd_spans "Run.spans" = true)
    (k_spans : PySem.W.keepIn K (.ref f_spans) = true)
    (a_fallings : PySem.W.nsIn K mainGlobals "fallings" = some (some (.ref f_fallings)))
    (l_fallings : K.lookup f_fallings = some ⟨oc_fallings, od_fallings, .func (PySem.W.fnOf "fallings" "fallings" (defArgs s_fallings) (defBody s_fallings) (defScope s_fallings) .none kV_fallings dc_fallings pm_fallings an_fallings cd_fallings ct_fallings), sl_fallings⟩)
    (c_fallings : PySem.W.codeIn K cd_fallings "fallings" = true)
    (k_fallings : PySem.W.keepIn K (.ref f_fallings) = true)
    (a_far : PySem.W.nsIn K mainGlobals "far" = some (some (.ref f_far)))
    (l_far : K.lookup f_far = some ⟨oc_far, od_far, .func (PySem.W.fnOf "far" "far" (defArgs s_far) (defBody s_far) (defScope s_far) .none kV_far dc_far pm_far an_far cd_far ct_far), sl_far⟩)
    (c_far : PySem.W.codeIn K cd_far "far" = true)
    (k_far : PySem.W.keepIn K (.ref f_far) = true)
    (a_up_at : PySem.W.nsIn K mainGlobals "up_at" = some (some (.ref f_up_at)))
    (l_up_at : K.lookup f_up_at = some ⟨oc_up_at, od_up_at, .func (PySem.W.fnOf "up_at" "up_at" (defArgs s_up_at) (defBody s_up_at) (defScope s_up_at) .none kV_up_at dc_up_at pm_up_at an_up_at cd_up_at ct_up_at), sl_up_at⟩)
    (c_up_at : PySem.W.codeIn K cd_up_at "up_at" = true)
    (k_up_at : PySem.W.keepIn K (.ref f_up_at) = true)
    (a_ups_from : PySem.W.nsIn K mainGlobals "ups_from" = some (some (.ref f_ups_from)))
    (l_ups_from : K.lookup f_ups_from = some ⟨oc_ups_from, od_ups_from, .func (PySem.W.fnOf "ups_from" "ups_from" (defArgs s_ups_from) (defBody s_ups_from) (defScope s_ups_from) .none kV_ups_from dc_ups_from pm_ups_from an_ups_from cd_ups_from ct_ups_from), sl_ups_from⟩)
    (c_ups_from : PySem.W.codeIn K cd_ups_from "ups_from" = true)
    (k_ups_from : PySem.W.keepIn K (.ref f_ups_from) = true)
    (a_beats_with : PySem.W.nsIn K mainGlobals "beats_with" = some (some (.ref f_beats_with)))
    (l_beats_with : K.lookup f_beats_with = some ⟨oc_beats_with, od_beats_with, .func (PySem.W.fnOf "beats_with" "beats_with" (defArgs s_beats_with) (defBody s_beats_with) (defScope s_beats_with) .none kV_beats_with dc_beats_with pm_beats_with an_beats_with cd_beats_with ct_beats_with), sl_beats_with⟩)
    (c_beats_with : PySem.W.codeIn K cd_beats_with "beats_with" = true)
    (k_beats_with : PySem.W.keepIn K (.ref f_beats_with) = true)
    (a_all_told : PySem.W.nsIn K mainGlobals "all_told" = some (some (.ref f_all_told)))
    (l_all_told : K.lookup f_all_told = some ⟨oc_all_told, od_all_told, .func (PySem.W.fnOf "all_told" "all_told" (defArgs s_all_told) (defBody s_all_told) (defScope s_all_told) .none kV_all_told dc_all_told pm_all_told an_all_told cd_all_told ct_all_told), sl_all_told⟩)
    (c_all_told : PySem.W.codeIn K cd_all_told "all_told" = true)
    (k_all_told : PySem.W.keepIn K (.ref f_all_told) = true)
    (a_given_over : PySem.W.nsIn K mainGlobals "given_over" = some (some (.ref f_given_over)))
    (l_given_over : K.lookup f_given_over = some ⟨oc_given_over, od_given_over, .func (PySem.W.fnOf "given_over" "given_over" (defArgs s_given_over) (defBody s_given_over) (defScope s_given_over) .none kV_given_over dc_given_over pm_given_over an_given_over cd_given_over ct_given_over), sl_given_over⟩)
    (c_given_over : PySem.W.codeIn K cd_given_over "given_over" = true)
    (k_given_over : PySem.W.keepIn K (.ref f_given_over) = true)
    (a_times_of : PySem.W.nsIn K mainGlobals "times_of" = some (some (.ref f_times_of)))
    (l_times_of : K.lookup f_times_of = some ⟨oc_times_of, od_times_of, .func (PySem.W.fnOf "times_of" "times_of" (defArgs s_times_of) (defBody s_times_of) (defScope s_times_of) .none kV_times_of dc_times_of pm_times_of an_times_of cd_times_of ct_times_of), sl_times_of⟩)
    (c_times_of : PySem.W.codeIn K cd_times_of "times_of" = true)
    (k_times_of : PySem.W.keepIn K (.ref f_times_of) = true)
    (a_goings_of : PySem.W.nsIn K mainGlobals "goings_of" = some (some (.ref f_goings_of)))
    (l_goings_of : K.lookup f_goings_of = some ⟨oc_goings_of, od_goings_of, .func (PySem.W.fnOf "goings_of" "goings_of" (defArgs s_goings_of) (defBody s_goings_of) (defScope s_goings_of) .none kV_goings_of dc_goings_of pm_goings_of an_goings_of cd_goings_of ct_goings_of), sl_goings_of⟩)
    (c_goings_of : PySem.W.codeIn K cd_goings_of "goings_of" = true)
    (k_goings_of : PySem.W.keepIn K (.ref f_goings_of) = true)
    (a_rest_from : PySem.W.nsIn K mainGlobals "rest_from" = some (some (.ref f_rest_from)))
    (l_rest_from : K.lookup f_rest_from = some ⟨oc_rest_from, od_rest_from, .func (PySem.W.fnOf "rest_from" "rest_from" (defArgs s_rest_from) (defBody s_rest_from) (defScope s_rest_from) .none kV_rest_from dc_rest_from pm_rest_from an_rest_from cd_rest_from ct_rest_from), sl_rest_from⟩)
    (c_rest_from : PySem.W.codeIn K cd_rest_from "rest_from" = true)
    (k_rest_from : PySem.W.keepIn K (.ref f_rest_from) = true)
    (a_shares : PySem.W.nsIn K mainGlobals "shares" = some (some (.ref f_shares)))
    (l_shares : K.lookup f_shares = some ⟨oc_shares, od_shares, .func (PySem.W.fnOf "shares" "shares" (defArgs s_shares) (defBody s_shares) (defScope s_shares) .none kV_shares dc_shares pm_shares an_shares cd_shares ct_shares), sl_shares⟩)
    (c_shares : PySem.W.codeIn K cd_shares "shares" = true)
    (k_shares : PySem.W.keepIn K (.ref f_shares) = true)
    (a_pairs_of : PySem.W.nsIn K mainGlobals "pairs_of" = some (some (.ref f_pairs_of)))
    (l_pairs_of : K.lookup f_pairs_of = some ⟨oc_pairs_of, od_pairs_of, .func (PySem.W.fnOf "pairs_of" "pairs_of" (defArgs s_pairs_of) (defBody s_pairs_of) (defScope s_pairs_of) .none kV_pairs_of dc_pairs_of pm_pairs_of an_pairs_of cd_pairs_of ct_pairs_of), sl_pairs_of⟩)
    (c_pairs_of : PySem.W.codeIn K cd_pairs_of "pairs_of" = true)
    (k_pairs_of : PySem.W.keepIn K (.ref f_pairs_of) = true)
    (a_is_at_rest : PySem.W.nsIn K mainGlobals "is_at_rest" = some (some (.ref f_is_at_rest)))
    (l_is_at_rest : K.lookup f_is_at_rest = some ⟨oc_is_at_rest, od_is_at_rest, .func (PySem.W.fnOf "is_at_rest" "is_at_rest" (defArgs s_is_at_rest) (defBody s_is_at_rest) (defScope s_is_at_rest) .none kV_is_at_rest dc_is_at_rest pm_is_at_rest an_is_at_rest cd_is_at_rest ct_is_at_rest), sl_is_at_rest⟩)
    (c_is_at_rest : PySem.W.codeIn K cd_is_at_rest "is_at_rest" = true)
    (k_is_at_rest : PySem.W.keepIn K (.ref f_is_at_rest) = true)
    (a_round_of : PySem.W.nsIn K mainGlobals "round_of" = some (some (.ref f_round_of)))
    (l_round_of : K.lookup f_round_of = some ⟨oc_round_of, od_round_of, .func (PySem.W.fnOf "round_of" "round_of" (defArgs s_round_of) (defBody s_round_of) (defScope s_round_of) .none kV_round_of dc_round_of pm_round_of an_round_of cd_round_of ct_round_of), sl_round_of⟩)
    (c_round_of : PySem.W.codeIn K cd_round_of "round_of" = true)
    (k_round_of : PySem.W.keepIn K (.ref f_round_of) = true)
    (a_law_take : PySem.W.nsIn K mainGlobals "_law_take" = some (some (.ref f_law_take)))
    (l_law_take : K.lookup f_law_take = some ⟨oc_law_take, od_law_take, .func (PySem.W.fnOf "_law_take" "_law_take" (defArgs s_law_take) (defBody s_law_take) (defScope s_law_take) .none kV_law_take dc_law_take pm_law_take an_law_take cd_law_take ct_law_take), sl_law_take⟩)
    (c_law_take : PySem.W.codeIn K cd_law_take "_law_take" = true)
    (k_law_take : PySem.W.keepIn K (.ref f_law_take) = true)
    (a_law_bag : PySem.W.nsIn K mainGlobals "_law_bag" = some (some (.ref f_law_bag)))
    (l_law_bag : K.lookup f_law_bag = some ⟨oc_law_bag, od_law_bag, .func (PySem.W.fnOf "_law_bag" "_law_bag" (defArgs s_law_bag) (defBody s_law_bag) (defScope s_law_bag) .none kV_law_bag dc_law_bag pm_law_bag an_law_bag cd_law_bag ct_law_bag), sl_law_bag⟩)
    (c_law_bag : PySem.W.codeIn K cd_law_bag "_law_bag" = true)
    (k_law_bag : PySem.W.keepIn K (.ref f_law_bag) = true)
    (a_law_names : PySem.W.nsIn K mainGlobals "_law_names" = some (some (.ref f_law_names)))
    (l_law_names : K.lookup f_law_names = some ⟨oc_law_names, od_law_names, .func (PySem.W.fnOf "_law_names" "_law_names" (defArgs s_law_names) (defBody s_law_names) (defScope s_law_names) .none kV_law_names dc_law_names pm_law_names an_law_names cd_law_names ct_law_names), sl_law_names⟩)
    (c_law_names : PySem.W.codeIn K cd_law_names "_law_names" = true)
    (k_law_names : PySem.W.keepIn K (.ref f_law_names) = true)
    (a_law_spans : PySem.W.nsIn K mainGlobals "_law_spans" = some (some (.ref f_law_spans)))
    (l_law_spans : K.lookup f_law_spans = some ⟨oc_law_spans, od_law_spans, .func (PySem.W.fnOf "_law_spans" "_law_spans" (defArgs s_law_spans) (defBody s_law_spans) (defScope s_law_spans) .none kV_law_spans dc_law_spans pm_law_spans an_law_spans cd_law_spans ct_law_spans), sl_law_spans⟩)
    (c_law_spans : PySem.W.codeIn K cd_law_spans "_law_spans" = true)
    (k_law_spans : PySem.W.keepIn K (.ref f_law_spans) = true)
    (a_law_rests : PySem.W.nsIn K mainGlobals "_law_rests" = some (some (.ref f_law_rests)))
    (l_law_rests : K.lookup f_law_rests = some ⟨oc_law_rests, od_law_rests, .func (PySem.W.fnOf "_law_rests" "_law_rests" (defArgs s_law_rests) (defBody s_law_rests) (defScope s_law_rests) .none kV_law_rests dc_law_rests pm_law_rests an_law_rests cd_law_rests ct_law_rests), sl_law_rests⟩)
    (c_law_rests : PySem.W.codeIn K cd_law_rests "_law_rests" = true)
    (k_law_rests : PySem.W.keepIn K (.ref f_law_rests) = true)
    (a_law_hall : PySem.W.nsIn K mainGlobals "_law_hall" = some (some (.ref f_law_hall)))
    (l_law_hall : K.lookup f_law_hall = some ⟨oc_law_hall, od_law_hall, .func (PySem.W.fnOf "_law_hall" "_law_hall" (defArgs s_law_hall) (defBody s_law_hall) (defScope s_law_hall) .none kV_law_hall dc_law_hall pm_law_hall an_law_hall cd_law_hall ct_law_hall), sl_law_hall⟩)
    (c_law_hall : PySem.W.codeIn K cd_law_hall "_law_hall" = true)
    (k_law_hall : PySem.W.keepIn K (.ref f_law_hall) = true)
    (a_law_stand : PySem.W.nsIn K mainGlobals "_law_stand" = some (some (.ref f_law_stand)))
    (l_law_stand : K.lookup f_law_stand = some ⟨oc_law_stand, od_law_stand, .func (PySem.W.fnOf "_law_stand" "_law_stand" (defArgs s_law_stand) (defBody s_law_stand) (defScope s_law_stand) .none kV_law_stand dc_law_stand pm_law_stand an_law_stand cd_law_stand ct_law_stand), sl_law_stand⟩)
    (c_law_stand : PySem.W.codeIn K cd_law_stand "_law_stand" = true)
    (k_law_stand : PySem.W.keepIn K (.ref f_law_stand) = true)
    (a_law_moment : PySem.W.nsIn K mainGlobals "_law_moment" = some (some (.ref f_law_moment)))
    (l_law_moment : K.lookup f_law_moment = some ⟨oc_law_moment, od_law_moment, .func (PySem.W.fnOf "_law_moment" "_law_moment" (defArgs s_law_moment) (defBody s_law_moment) (defScope s_law_moment) .none kV_law_moment dc_law_moment pm_law_moment an_law_moment cd_law_moment ct_law_moment), sl_law_moment⟩)
    (c_law_moment : PySem.W.codeIn K cd_law_moment "_law_moment" = true)
    (k_law_moment : PySem.W.keepIn K (.ref f_law_moment) = true)
    (a_law_sums : PySem.W.nsIn K mainGlobals "_law_sums" = some (some (.ref f_law_sums)))
    (l_law_sums : K.lookup f_law_sums = some ⟨oc_law_sums, od_law_sums, .func (PySem.W.fnOf "_law_sums" "_law_sums" (defArgs s_law_sums) (defBody s_law_sums) (defScope s_law_sums) .none kV_law_sums dc_law_sums pm_law_sums an_law_sums cd_law_sums ct_law_sums), sl_law_sums⟩)
    (c_law_sums : PySem.W.codeIn K cd_law_sums "_law_sums" = true)
    (k_law_sums : PySem.W.keepIn K (.ref f_law_sums) = true)
    (a_law_at_right : PySem.W.nsIn K mainGlobals "_law_at_right" = some (some (.ref f_law_at_right)))
    (l_law_at_right : K.lookup f_law_at_right = some ⟨oc_law_at_right, od_law_at_right, .func (PySem.W.fnOf "_law_at_right" "_law_at_right" (defArgs s_law_at_right) (defBody s_law_at_right) (defScope s_law_at_right) .none kV_law_at_right dc_law_at_right pm_law_at_right an_law_at_right cd_law_at_right ct_law_at_right), sl_law_at_right⟩)
    (c_law_at_right : PySem.W.codeIn K cd_law_at_right "_law_at_right" = true)
    (k_law_at_right : PySem.W.keepIn K (.ref f_law_at_right) = true)
    (a_law_rest_right : PySem.W.nsIn K mainGlobals "_law_rest_right" = some (some (.ref f_law_rest_right)))
    (l_law_rest_right : K.lookup f_law_rest_right = some ⟨oc_law_rest_right, od_law_rest_right, .func (PySem.W.fnOf "_law_rest_right" "_law_rest_right" (defArgs s_law_rest_right) (defBody s_law_rest_right) (defScope s_law_rest_right) .none kV_law_rest_right dc_law_rest_right pm_law_rest_right an_law_rest_right cd_law_rest_right ct_law_rest_right), sl_law_rest_right⟩)
    (c_law_rest_right : PySem.W.codeIn K cd_law_rest_right "_law_rest_right" = true)
    (k_law_rest_right : PySem.W.keepIn K (.ref f_law_rest_right) = true)
    (a_law : PySem.W.nsIn K mainGlobals "law" = some (some (.ref f_law)))
    (l_law : K.lookup f_law = some ⟨oc_law, od_law, .func (PySem.W.fnOf "law" "law" (defArgs s_law) (defBody s_law) (defScope s_law) .none kV_law dc_law pm_law an_law cd_law ct_law), sl_law⟩)
    (c_law : PySem.W.codeIn K cd_law "law" = true)
    (k_law : PySem.W.keepIn K (.ref f_law) = true)
    : ∃ fd : FuncData, (∀ (s : Shared) (v : Value), BindsTo s fd ⟨[v], []⟩ [("_law_script", v)]) ∧ ∀ base : Heap, K.In base → base.Ns mainGlobals mg → FnOk P w K mg base CX0 13 fa fd ["_law_script"] (sp_law K) := by
  have e := hfa.symm.trans (PySem.W.mg_of X G a_law)
  cases e
  have T : BtT mg tS tL := ⟨PySem.W.mg_none_of X G z_len, PySem.W.mg_none_of X G z_min, PySem.W.mg_none_of X G z_max, PySem.W.mg_none_of X G z_sum, PySem.W.mg_none_of X G z_all, PySem.W.mg_none_of X G z_abs, PySem.W.mg_none_of X G z_sorted, PySem.W.mg_none_of X G z_list, PySem.W.mg_none_of X G z_tuple, PySem.W.mg_none_of X G z_dict, PySem.W.mg_none_of X G z_zip, PySem.W.mg_none_of X G z_enumerate, PySem.W.mg_none_of X G z_range, PySem.W.mg_none_of X G z_int, PySem.W.mg_none_of X G z_bool, PySem.W.mg_none_of X G z_isinstance, PySem.W.mg_of X G a_MS, hML⟩
  have B : BkC K cB := ⟨⟨pg_Book, hd_Book, po_Book, sa_Book⟩, n_Book_rows⟩
  have C : RunC K cR := ⟨⟨pg_Run, hd_Run, po_Run, sa_Run⟩, n_Run_book, n_Run_many, n_Run_parts, n_Run_pairs, n_Run_rows, n_Run_stretches⟩
  have F_rest_behind := fun_mk (st := s_rest_behind) l_rest_behind c_rest_behind k_rest_behind
  have b_rest_behind := F_rest_behind.binds (ps := ["going", "beats"]) fun _ _ _ _ _ _ us hl => match us, hl with | [_, _], _ => rfl
  have F_divisor := fun_mk (st := s_divisor) l_divisor c_divisor k_divisor
  have b_divisor := F_divisor.binds (ps := ["one", "other"]) fun _ _ _ _ _ _ us hl => match us, hl with | [_, _], _ => rfl
  have F_multiple := fun_mk (st := s_multiple) l_multiple c_multiple k_multiple
  have b_multiple := F_multiple.binds (ps := ["one", "other"]) fun _ _ _ _ _ _ us hl => match us, hl with | [_, _], _ => rfl
  have F_fraction := fun_mk (st := s_fraction) l_fraction c_fraction k_fraction
  have b_fraction := F_fraction.binds (ps := ["top", "bottom"]) fun _ _ _ _ _ _ us hl => match us, hl with | [_, _], _ => rfl
  have F_times_up := fun_mk (st := s_times_up) l_times_up c_times_up k_times_up
  have b_times_up := F_times_up.binds (ps := ["going", "beats"]) fun _ _ _ _ _ _ us hl => match us, hl with | [_, _], _ => rfl
  have F_last_up := fun_mk (st := s_last_up) l_last_up c_last_up k_last_up
  have b_last_up := F_last_up.binds (ps := ["going", "beat"]) fun _ _ _ _ _ _ us hl => match us, hl with | [_, _], _ => rfl
  have F_inverse := fun_mk (st := s_inverse) l_inverse c_inverse k_inverse
  have b_inverse := F_inverse.binds (ps := ["number", "base"]) fun _ _ _ _ _ _ us hl => match us, hl with | [_, _], _ => rfl
  have F_meeting := fun_mk (st := s_meeting) l_meeting c_meeting k_meeting
  have b_meeting := F_meeting.binds (ps := ["one", "other"]) fun _ _ _ _ _ _ us hl => match us, hl with | [_, _], _ => rfl
  have F_falling_in := fun_mk (st := s_falling_in) l_falling_in c_falling_in k_falling_in
  have b_falling_in := F_falling_in.binds (ps := ["one", "other"]) fun _ _ _ _ _ _ us hl => match us, hl with | [_, _], _ => rfl
  have F_parting_of := fun_mk (st := s_parting_of) l_parting_of c_parting_of k_parting_of
  have b_parting_of := F_parting_of.binds (ps := ["one", "other"]) fun _ _ _ _ _ _ us hl => match us, hl with | [_, _], _ => rfl
  have F_next_up := fun_mk (st := s_next_up) l_next_up c_next_up k_next_up
  have b_next_up := F_next_up.binds (ps := ["goings", "beat"]) fun _ _ _ _ _ _ us hl => match us, hl with | [_, _], _ => rfl
  have F_total := fun_mk (st := s_total) l_total c_total k_total
  have b_total := F_total.binds (ps := ["fractions"]) fun _ _ _ _ _ _ us hl => match us, hl with | [_], _ => rfl
  have F_slower_standing := fun_mk (st := s_slower_standing) l_slower_standing c_slower_standing k_slower_standing
  have b_slower_standing := F_slower_standing.binds (ps := ["standing", "by"]) fun _ _ _ _ _ _ us hl => match us, hl with | [_, _], _ => rfl
  have F_groups_of := fun_mk (st := s_groups_of) l_groups_of c_groups_of k_groups_of
  have b_groups_of := F_groups_of.binds (ps := ["standing"]) fun _ _ _ _ _ _ us hl => match us, hl with | [_], _ => rfl
  have F_is_whole := fun_mk (st := s_is_whole) l_is_whole c_is_whole k_is_whole
  have b_is_whole := F_is_whole.binds (ps := ["thing"]) fun _ _ _ _ _ _ us hl => match us, hl with | [_], _ => rfl
  have F_is_between := fun_mk (st := s_is_between) l_is_between c_is_between k_is_between
  have b_is_between := F_is_between.binds (ps := ["thing", "low", "high"]) fun _ _ _ _ _ _ us hl => match us, hl with | [_, _, _], _ => rfl
  have F_is_length := fun_mk (st := s_is_length) l_is_length c_is_length k_is_length
  have b_is_length := F_is_length.binds (ps := ["thing"]) fun _ _ _ _ _ _ us hl => match us, hl with | [_], _ => rfl
  have F_Book_init := fun_mk (st := s_Book_init) l_Book_init c_Book_init k_Book_init
  have b_Book_init := F_Book_init.binds (ps := ["self", "lengths"]) fun _ _ _ _ _ _ us hl => match us, hl with | [_, _], _ => rfl
  have F_Book_lengths := fun_mk (st := s_Book_lengths) l_Book_lengths c_Book_lengths k_Book_lengths
  have b_Book_lengths := F_Book_lengths.binds (ps := ["self"]) fun _ _ _ _ _ _ us hl => match us, hl with | [_], _ => rfl
  have F_Book_sleep := fun_mk (st := s_Book_sleep) l_Book_sleep c_Book_sleep k_Book_sleep
  have b_Book_sleep := F_Book_sleep.binds (ps := ["self", "many"]) fun _ _ _ _ _ _ us hl => match us, hl with | [_, _], _ => rfl
  have F_slower_book := fun_mk (st := s_slower_book) l_slower_book c_slower_book k_slower_book
  have b_slower_book := F_slower_book.binds (ps := ["book", "by"]) fun _ _ _ _ _ _ us hl => match us, hl with | [_, _], _ => rfl
  have F_come_in := fun_mk (st := s_Run_come_in) l_come_in c_come_in k_come_in
  have b_come_in := F_come_in.binds (ps := ["self", "first", "names"]) fun _ _ _ _ _ _ us hl => match us, hl with | [_, _, _], _ => rfl
  have F_fall_in := fun_mk (st := s_Run_fall_in) l_fall_in c_fall_in k_fall_in
  have b_fall_in := F_fall_in.binds (ps := ["self"]) fun _ _ _ _ _ _ us hl => match us, hl with | [_], _ => rfl
  have F_Run_init := fun_mk (st := s_Run_init) l_Run_init c_Run_init k_Run_init
  have b_Run_init := F_Run_init.binds (ps := ["self", "book", "standing"]) fun _ _ _ _ _ _ us hl => match us, hl with | [_, _, _], _ => rfl
  have F_parts_at := fun_mk (st := s_Run_parts_at) l_parts_at c_parts_at k_parts_at
  have b_parts_at := F_parts_at.binds (ps := ["self", "beat"]) fun _ _ _ _ _ _ us hl => match us, hl with | [_, _], _ => rfl
  have F_spans := fun_mk (st := s_Run_spans) l_spans c_spans k_spans
  have b_spans := F_spans.binds (ps := ["self", "beats"]) fun _ _ _ _ _ _ us hl => match us, hl with | [_, _], _ => rfl
  have F_fallings := fun_mk (st := s_fallings) l_fallings c_fallings k_fallings
  have b_fallings := F_fallings.binds (ps := ["book", "standing"]) fun _ _ _ _ _ _ us hl => match us, hl with | [_, _], _ => rfl
  have F_far := fun_mk (st := s_far) l_far c_far k_far
  have b_far := F_far.binds (ps := ["book", "standing", "beats"]) fun _ _ _ _ _ _ us hl => match us, hl with | [_, _, _], _ => rfl
  have F_up_at := fun_mk (st := s_up_at) l_up_at c_up_at k_up_at
  have b_up_at := F_up_at.binds (ps := ["book", "standing", "beat"]) fun _ _ _ _ _ _ us hl => match us, hl with | [_, _, _], _ => rfl
  have F_ups_from := fun_mk (st := s_ups_from) l_ups_from c_ups_from k_ups_from
  have b_ups_from := F_ups_from.binds (ps := ["book", "standing", "beat", "many"]) fun _ _ _ _ _ _ us hl => match us, hl with | [_, _, _, _], _ => rfl
  have F_beats_with := fun_mk (st := s_beats_with) l_beats_with c_beats_with k_beats_with
  have b_beats_with := F_beats_with.binds (ps := ["book", "standing", "beats"]) fun _ _ _ _ _ _ us hl => match us, hl with | [_, _, _], _ => rfl
  have F_all_told := fun_mk (st := s_all_told) l_all_told c_all_told k_all_told
  have b_all_told := F_all_told.binds (ps := ["book", "standing", "beats"]) fun _ _ _ _ _ _ us hl => match us, hl with | [_, _, _], _ => rfl
  have F_given_over := fun_mk (st := s_given_over) l_given_over c_given_over k_given_over
  have b_given_over := F_given_over.binds (ps := ["book", "standing", "beats"]) fun _ _ _ _ _ _ us hl => match us, hl with | [_, _, _], _ => rfl
  have F_times_of := fun_mk (st := s_times_of) l_times_of c_times_of k_times_of
  have b_times_of := F_times_of.binds (ps := ["book", "standing", "name", "beats"]) fun _ _ _ _ _ _ us hl => match us, hl with | [_, _, _, _], _ => rfl
  have F_goings_of := fun_mk (st := s_goings_of) l_goings_of c_goings_of k_goings_of
  have b_goings_of := F_goings_of.binds (ps := ["book", "standing"]) fun _ _ _ _ _ _ us hl => match us, hl with | [_, _], _ => rfl
  have F_rest_from := fun_mk (st := s_rest_from) l_rest_from c_rest_from k_rest_from
  have b_rest_from := F_rest_from.binds (ps := ["book", "standing"]) fun _ _ _ _ _ _ us hl => match us, hl with | [_, _], _ => rfl
  have F_shares := fun_mk (st := s_shares) l_shares c_shares k_shares
  have b_shares := F_shares.binds (ps := ["book", "standing"]) fun _ _ _ _ _ _ us hl => match us, hl with | [_, _], _ => rfl
  have F_pairs_of := fun_mk (st := s_pairs_of) l_pairs_of c_pairs_of k_pairs_of
  have b_pairs_of := F_pairs_of.binds (ps := ["things"]) fun _ _ _ _ _ _ us hl => match us, hl with | [_], _ => rfl
  have F_is_at_rest := fun_mk (st := s_is_at_rest) l_is_at_rest c_is_at_rest k_is_at_rest
  have b_is_at_rest := F_is_at_rest.binds (ps := ["book", "standing"]) fun _ _ _ _ _ _ us hl => match us, hl with | [_, _], _ => rfl
  have F_round_of := fun_mk (st := s_round_of) l_round_of c_round_of k_round_of
  have b_round_of := F_round_of.binds (ps := ["book", "standing"]) fun _ _ _ _ _ _ us hl => match us, hl with | [_, _], _ => rfl
  have F_law_take := fun_mk (st := s_law_take) l_law_take c_law_take k_law_take
  have b_law_take := F_law_take.binds (ps := ["_law_bag_here", "_law_many"]) fun _ _ _ _ _ _ us hl => match us, hl with | [_, _], _ => rfl
  have F_law_bag := fun_mk (st := s_law_bag) l_law_bag c_law_bag k_law_bag
  have b_law_bag := F_law_bag.binds (ps := ["_law_script"]) fun _ _ _ _ _ _ us hl => match us, hl with | [_], _ => rfl
  have F_law_names := fun_mk (st := s_law_names) l_law_names c_law_names k_law_names
  have b_law_names := F_law_names.binds (ps := ["_law_bag_here", "_law_many"]) fun _ _ _ _ _ _ us hl => match us, hl with | [_, _], _ => rfl
  have F_law_spans := fun_mk (st := s_law_spans) l_law_spans c_law_spans k_law_spans
  have b_law_spans := F_law_spans.binds (ps := ["_law_bag_here", "_law_many", "_law_most"]) fun _ _ _ _ _ _ us hl => match us, hl with | [_, _, _], _ => rfl
  have F_law_rests := fun_mk (st := s_law_rests) l_law_rests c_law_rests k_law_rests
  have b_law_rests := F_law_rests.binds (ps := ["_law_bag_here", "_law_many", "_law_most"]) fun _ _ _ _ _ _ us hl => match us, hl with | [_, _, _], _ => rfl
  have F_law_hall := fun_mk (st := s_law_hall) l_law_hall c_law_hall k_law_hall
  have b_law_hall := F_law_hall.binds (ps := ["_law_bag_here", "_law_many", "_law_most", "_law_longest"]) fun _ _ _ _ _ _ us hl => match us, hl with | [_, _, _, _], _ => rfl
  have F_law_stand := fun_mk (st := s_law_stand) l_law_stand c_law_stand k_law_stand
  have b_law_stand := F_law_stand.binds (ps := ["_law_rests_here"]) fun _ _ _ _ _ _ us hl => match us, hl with | [_], _ => rfl
  have F_law_moment := fun_mk (st := s_law_moment) l_law_moment c_law_moment k_law_moment
  have b_law_moment := F_law_moment.binds (ps := ["_law_bag_here", "_law_rows", "_law_by"]) fun _ _ _ _ _ _ us hl => match us, hl with | [_, _, _], _ => rfl
  have F_law_sums := fun_mk (st := s_law_sums) l_law_sums c_law_sums k_law_sums
  have b_law_sums := F_law_sums.binds (ps := ["_law_book", "_law_stand_here", "_law_many"]) fun _ _ _ _ _ _ us hl => match us, hl with | [_, _, _], _ => rfl
  have F_law_at_right := fun_mk (st := s_law_at_right) l_law_at_right c_law_at_right k_law_at_right
  have b_law_at_right := F_law_at_right.binds (ps := ["_law_quick", "_law_slow", "_law_by", "_law_many", "_law_between"]) fun _ _ _ _ _ _ us hl => match us, hl with | [_, _, _, _, _], _ => rfl
  have F_law_rest_right := fun_mk (st := s_law_rest_right) l_law_rest_right c_law_rest_right k_law_rest_right
  have b_law_rest_right := F_law_rest_right.binds (ps := ["_law_quick", "_law_slow", "_law_by"]) fun _ _ _ _ _ _ us hl => match us, hl with | [_, _, _], _ => rfl
  have F_law := fun_mk (st := s_law) l_law c_law k_law
  have b_law := F_law.binds (ps := ["_law_script"]) fun _ _ _ _ _ _ us hl => match us, hl with | [_], _ => rfl
  refine ⟨PySem.W.fnOf "law" "law" (defArgs s_law) (defBody s_law) (defScope s_law) .none kV_law dc_law pm_law an_law cd_law ct_law, fun s v => .of_eq rfl, fun base _ _ => ?_⟩
  have o_rest_behind := ok_rest_behind (P := P) (w := w) (mg := mg) (base := base) F_rest_behind
  have D_rest_behind : FC P w K mg base 1 "rest_behind" ["going", "beats"] sp_rest_behind f_rest_behind _ := ⟨o_rest_behind, PySem.W.mg_of X G a_rest_behind, k_rest_behind, b_rest_behind⟩
  have o_divisor := ok_divisor (P := P) (w := w) (mg := mg) (base := base) F_divisor
  have D_divisor : FC P w K mg base 1 "divisor" ["one", "other"] sp_divisor f_divisor _ := ⟨o_divisor, PySem.W.mg_of X G a_divisor, k_divisor, b_divisor⟩
  have o_multiple := ok_multiple (P := P) (w := w) (mg := mg) (base := base) F_multiple D_divisor
  have D_multiple : FC P w K mg base 2 "multiple" ["one", "other"] sp_multiple f_multiple _ := ⟨o_multiple, PySem.W.mg_of X G a_multiple, k_multiple, b_multiple⟩
  have o_fraction := ok_fraction (P := P) (w := w) (mg := mg) (base := base) F_fraction D_divisor
  have D_fraction : FC P w K mg base 2 "fraction" ["top", "bottom"] sp_fraction f_fraction _ := ⟨o_fraction, PySem.W.mg_of X G a_fraction, k_fraction, b_fraction⟩
  have o_times_up := ok_times_up (P := P) (w := w) (mg := mg) (base := base) F_times_up
  have D_times_up : FC P w K mg base 1 "times_up" ["going", "beats"] sp_times_up f_times_up _ := ⟨o_times_up, PySem.W.mg_of X G a_times_up, k_times_up, b_times_up⟩
  have o_last_up := ok_last_up (P := P) (w := w) (mg := mg) (base := base) F_last_up
  have D_last_up : FC P w K mg base 1 "last_up" ["going", "beat"] sp_last_up f_last_up _ := ⟨o_last_up, PySem.W.mg_of X G a_last_up, k_last_up, b_last_up⟩
  have o_inverse := ok_inverse (P := P) (w := w) (mg := mg) (base := base) F_inverse
  have D_inverse : FC P w K mg base 1 "inverse" ["number", "base"] sp_inverse f_inverse _ := ⟨o_inverse, PySem.W.mg_of X G a_inverse, k_inverse, b_inverse⟩
  have o_meeting := ok_meeting (P := P) (w := w) (mg := mg) (base := base) F_meeting D_divisor D_multiple D_inverse
  have D_meeting : FC P w K mg base 3 "meeting" ["one", "other"] sp_meeting f_meeting _ := ⟨o_meeting, PySem.W.mg_of X G a_meeting, k_meeting, b_meeting⟩
  have o_falling_in := ok_falling_in (P := P) (w := w) (mg := mg) (base := base) T F_falling_in D_meeting D_last_up
  have D_falling_in : FC P w K mg base 4 "falling_in" ["one", "other"] sp_falling_in f_falling_in _ := ⟨o_falling_in, PySem.W.mg_of X G a_falling_in, k_falling_in, b_falling_in⟩
  have o_parting_of := ok_parting_of (P := P) (w := w) (mg := mg) (base := base) F_parting_of D_divisor
  have D_parting_of : FC P w K mg base 2 "parting_of" ["one", "other"] sp_parting_of f_parting_of _ := ⟨o_parting_of, PySem.W.mg_of X G a_parting_of, k_parting_of, b_parting_of⟩
  have o_next_up := ok_next_up (P := P) (w := w) (mg := mg) (base := base) T F_next_up D_rest_behind
  have D_next_up : FC P w K mg base 2 "next_up" ["goings", "beat"] sp_next_up f_next_up _ := ⟨o_next_up, PySem.W.mg_of X G a_next_up, k_next_up, b_next_up⟩
  have o_total := ok_total (P := P) (w := w) (mg := mg) (base := base) T F_total D_fraction
  have D_total : FC P w K mg base 3 "total" ["fractions"] sp_total f_total _ := ⟨o_total, PySem.W.mg_of X G a_total, k_total, b_total⟩
  have o_slower_standing := ok_slower_standing (P := P) (w := w) (mg := mg) (base := base) T F_slower_standing
  have D_slower_standing : FC P w K mg base 1 "slower_standing" ["standing", "by"] sp_slower_standing f_slower_standing _ := ⟨o_slower_standing, PySem.W.mg_of X G a_slower_standing, k_slower_standing, b_slower_standing⟩
  have o_groups_of := ok_groups_of (P := P) (w := w) (mg := mg) (base := base) T F_groups_of
  have D_groups_of : FC P w K mg base 1 "groups_of" ["standing"] sp_groups_of f_groups_of _ := ⟨o_groups_of, PySem.W.mg_of X G a_groups_of, k_groups_of, b_groups_of⟩
  have o_is_whole := ok_is_whole (P := P) (w := w) (mg := mg) (base := base) T F_is_whole
  have D_is_whole : FC P w K mg base 1 "is_whole" ["thing"] sp_is_whole f_is_whole _ := ⟨o_is_whole, PySem.W.mg_of X G a_is_whole, k_is_whole, b_is_whole⟩
  have o_is_between := ok_is_between (P := P) (w := w) (mg := mg) (base := base) F_is_between D_is_whole
  have D_is_between : FC P w K mg base 2 "is_between" ["thing", "low", "high"] sp_is_between f_is_between _ := ⟨o_is_between, PySem.W.mg_of X G a_is_between, k_is_between, b_is_between⟩
  have o_is_length := ok_is_length (P := P) (w := w) (mg := mg) (base := base) T F_is_length D_is_between
  have D_is_length : FC P w K mg base 3 "is_length" ["thing"] sp_is_length f_is_length _ := ⟨o_is_length, PySem.W.mg_of X G a_is_length, k_is_length, b_is_length⟩
  have o_Book_init := ok_Book_init (P := P) (w := w) (mg := mg) (base := base) (cB := cB) T B F_Book_init D_is_length
  have D_Book : MK P w K mg base cB 4 "Book" ["self", "lengths"] (sp_Book_init cB) f_Book_init _ := ⟨o_Book_init, ⟨mk_Book, a_Book_init, i_Book_init, kc_Book⟩, b_Book_init, PySem.W.mg_of X G a_Book⟩
  have o_Book_lengths := ok_Book_lengths (P := P) (w := w) (mg := mg) (base := base) (cB := cB) T B F_Book_lengths
  have D_Book_lengths : MC P w K mg base cB 1 "lengths" ["self"] (sp_Book_lengths cB) f_Book_lengths _ := ⟨o_Book_lengths, ⟨a_Book_lengths, i_Book_lengths, k_Book_lengths⟩, b_Book_lengths⟩
  have o_Book_sleep := ok_Book_sleep (P := P) (w := w) (mg := mg) (base := base) (cB := cB) T B F_Book_sleep D_is_between
  have D_Book_sleep : MC P w K mg base cB 3 "sleep" ["self", "many"] (sp_Book_sleep cB) f_Book_sleep _ := ⟨o_Book_sleep, ⟨a_Book_sleep, i_Book_sleep, k_Book_sleep⟩, b_Book_sleep⟩
  have o_slower_book := ok_slower_book (P := P) (w := w) (mg := mg) (base := base) (cB := cB) T F_slower_book B D_Book D_Book_lengths
  have D_slower_book : FC P w K mg base 6 "slower_book" ["book", "by"] (sp_slower_book cB) f_slower_book _ := ⟨o_slower_book, PySem.W.mg_of X G a_slower_book, k_slower_book, b_slower_book⟩
  have o_come_in := ok_come_in (P := P) (w := w) (mg := mg) (base := base) (cB := cB) T B C F_come_in D_Book_sleep D_falling_in
  have D_Run_come_in : MC P w K mg base cR 5 "come_in" ["self", "first", "names"] (sp_come_in cB cR) f_come_in _ := ⟨o_come_in, ⟨a_come_in, i_come_in, k_come_in⟩, b_come_in⟩
  have o_fall_in := ok_fall_in (P := P) (w := w) (mg := mg) (base := base) (cB := cB) T B C F_fall_in D_Run_come_in D_meeting D_last_up
  have D_Run_fall_in : MC P w K mg base cR 6 "fall_in" ["self"] (sp_fall_in cB cR) f_fall_in _ := ⟨o_fall_in, ⟨a_fall_in, i_fall_in, k_fall_in⟩, b_fall_in⟩
  have o_Run_init := ok_Run_init (P := P) (w := w) (mg := mg) (base := base) (cB := cB) T C F_Run_init D_groups_of D_Run_come_in D_Run_fall_in
  have D_Run : MK P w K mg base cR 7 "Run" ["self", "book", "standing"] (sp_Run_init cB cR) f_Run_init _ := ⟨o_Run_init, ⟨mk_Run, a_Run_init, i_Run_init, kc_Run⟩, b_Run_init, PySem.W.mg_of X G a_Run⟩
  have o_parts_at := ok_parts_at (P := P) (w := w) (mg := mg) (base := base) (cB := cB) T C F_parts_at
  have D_Run_parts_at : MC P w K mg base cR 1 "parts_at" ["self", "beat"] (sp_parts_at cB cR) f_parts_at _ := ⟨o_parts_at, ⟨a_parts_at, i_parts_at, k_parts_at⟩, b_parts_at⟩
  have o_spans := ok_spans (P := P) (w := w) (mg := mg) (base := base) (cB := cB) T C F_spans D_times_up
  have D_Run_spans : MC P w K mg base cR 2 "spans" ["self", "beats"] (sp_spans cB cR) f_spans _ := ⟨o_spans, ⟨a_spans, i_spans, k_spans⟩, b_spans⟩
  have o_fallings := ok_fallings (P := P) (w := w) (mg := mg) (base := base) (cB := cB) T C F_fallings D_Run
  have D_fallings : FC P w K mg base 9 "fallings" ["book", "standing"] (sp_fallings cB) f_fallings _ := ⟨o_fallings, PySem.W.mg_of X G a_fallings, k_fallings, b_fallings⟩
  have o_far := ok_far (P := P) (w := w) (mg := mg) (base := base) (cB := cB) T C F_far D_Run D_Run_parts_at D_rest_behind
  have D_far : FC P w K mg base 9 "far" ["book", "standing", "beats"] (sp_far cB) f_far _ := ⟨o_far, PySem.W.mg_of X G a_far, k_far, b_far⟩
  have o_up_at := ok_up_at (P := P) (w := w) (mg := mg) (base := base) (cB := cB) T C F_up_at D_Run D_Run_parts_at D_rest_behind
  have D_up_at : FC P w K mg base 9 "up_at" ["book", "standing", "beat"] (sp_up_at cB) f_up_at _ := ⟨o_up_at, PySem.W.mg_of X G a_up_at, k_up_at, b_up_at⟩
  have o_ups_from := ok_ups_from (P := P) (w := w) (mg := mg) (base := base) (cB := cB) T C F_ups_from D_Run D_Run_parts_at D_next_up
  have D_ups_from : FC P w K mg base 9 "ups_from" ["book", "standing", "beat", "many"] (sp_ups_from cB) f_ups_from _ := ⟨o_ups_from, PySem.W.mg_of X G a_ups_from, k_ups_from, b_ups_from⟩
  have o_beats_with := ok_beats_with (P := P) (w := w) (mg := mg) (base := base) (cB := cB) T C F_beats_with D_Run D_Run_spans
  have D_beats_with : FC P w K mg base 9 "beats_with" ["book", "standing", "beats"] (sp_beats_with cB) f_beats_with _ := ⟨o_beats_with, PySem.W.mg_of X G a_beats_with, k_beats_with, b_beats_with⟩
  have o_all_told := ok_all_told (P := P) (w := w) (mg := mg) (base := base) (cB := cB) T C F_all_told D_Run D_Run_spans
  have D_all_told : FC P w K mg base 9 "all_told" ["book", "standing", "beats"] (sp_all_told cB) f_all_told _ := ⟨o_all_told, PySem.W.mg_of X G a_all_told, k_all_told, b_all_told⟩
  have o_given_over := ok_given_over (P := P) (w := w) (mg := mg) (base := base) (cB := cB) T C F_given_over D_Run D_Run_spans
  have D_given_over : FC P w K mg base 9 "given_over" ["book", "standing", "beats"] (sp_given_over cB) f_given_over _ := ⟨o_given_over, PySem.W.mg_of X G a_given_over, k_given_over, b_given_over⟩
  have o_times_of := ok_times_of (P := P) (w := w) (mg := mg) (base := base) (cB := cB) T C F_times_of D_Run D_Run_spans
  have D_times_of : FC P w K mg base 9 "times_of" ["book", "standing", "name", "beats"] (sp_times_of cB) f_times_of _ := ⟨o_times_of, PySem.W.mg_of X G a_times_of, k_times_of, b_times_of⟩
  have o_goings_of := ok_goings_of (P := P) (w := w) (mg := mg) (base := base) (cB := cB) T B F_goings_of D_groups_of D_Book_sleep
  have D_goings_of : FC P w K mg base 4 "goings_of" ["book", "standing"] (sp_goings_of cB) f_goings_of _ := ⟨o_goings_of, PySem.W.mg_of X G a_goings_of, k_goings_of, b_goings_of⟩
  have o_rest_from := ok_rest_from (P := P) (w := w) (mg := mg) (base := base) (cB := cB) F_rest_from D_fallings
  have D_rest_from : FC P w K mg base 10 "rest_from" ["book", "standing"] (sp_rest_from cB) f_rest_from _ := ⟨o_rest_from, PySem.W.mg_of X G a_rest_from, k_rest_from, b_rest_from⟩
  have o_shares := ok_shares (P := P) (w := w) (mg := mg) (base := base) (cB := cB) F_shares D_goings_of D_fraction D_total
  have D_shares : FC P w K mg base 5 "shares" ["book", "standing"] (sp_shares cB) f_shares _ := ⟨o_shares, PySem.W.mg_of X G a_shares, k_shares, b_shares⟩
  have o_pairs_of := ok_pairs_of (P := P) (w := w) (mg := mg) (base := base) T F_pairs_of
  have D_pairs_of : FC P w K mg base 1 "pairs_of" ["things"] sp_pairs_of f_pairs_of _ := ⟨o_pairs_of, PySem.W.mg_of X G a_pairs_of, k_pairs_of, b_pairs_of⟩
  have o_is_at_rest := ok_is_at_rest (P := P) (w := w) (mg := mg) (base := base) (cB := cB) T F_is_at_rest D_goings_of D_pairs_of D_parting_of
  have D_is_at_rest : FC P w K mg base 5 "is_at_rest" ["book", "standing"] (sp_is_at_rest cB) f_is_at_rest _ := ⟨o_is_at_rest, PySem.W.mg_of X G a_is_at_rest, k_is_at_rest, b_is_at_rest⟩
  have o_round_of := ok_round_of (P := P) (w := w) (mg := mg) (base := base) (cB := cB) T F_round_of D_rest_from D_far D_goings_of D_multiple
  have D_round_of : FC P w K mg base 11 "round_of" ["book", "standing"] (sp_round_of cB) f_round_of _ := ⟨o_round_of, PySem.W.mg_of X G a_round_of, k_round_of, b_round_of⟩
  have o_law_take := ok_law_take (P := P) (w := w) (mg := mg) (base := base) T F_law_take
  have D_law_take : FC P w K mg base 1 "_law_take" ["_law_bag_here", "_law_many"] sp_law_take f_law_take _ := ⟨o_law_take, PySem.W.mg_of X G a_law_take, k_law_take, b_law_take⟩
  have o_law_bag := ok_law_bag (P := P) (w := w) (mg := mg) (base := base) T F_law_bag
  have D_law_bag : FC P w K mg base 1 "_law_bag" ["_law_script"] (sp_law_bag K) f_law_bag _ := ⟨o_law_bag, PySem.W.mg_of X G a_law_bag, k_law_bag, b_law_bag⟩
  have o_law_names := ok_law_names (P := P) (w := w) (mg := mg) (base := base) T F_law_names D_law_take
  have D_law_names : FC P w K mg base 2 "_law_names" ["_law_bag_here", "_law_many"] sp_law_names f_law_names _ := ⟨o_law_names, PySem.W.mg_of X G a_law_names, k_law_names, b_law_names⟩
  have o_law_spans := ok_law_spans (P := P) (w := w) (mg := mg) (base := base) T F_law_spans D_law_take
  have D_law_spans : FC P w K mg base 2 "_law_spans" ["_law_bag_here", "_law_many", "_law_most"] sp_law_spans f_law_spans _ := ⟨o_law_spans, PySem.W.mg_of X G a_law_spans, k_law_spans, b_law_spans⟩
  have o_law_rests := ok_law_rests (P := P) (w := w) (mg := mg) (base := base) T F_law_rests D_law_take
  have D_law_rests : FC P w K mg base 2 "_law_rests" ["_law_bag_here", "_law_many", "_law_most"] sp_law_rests f_law_rests _ := ⟨o_law_rests, PySem.W.mg_of X G a_law_rests, k_law_rests, b_law_rests⟩
  have o_law_hall := ok_law_hall (P := P) (w := w) (mg := mg) (base := base) T F_law_hall D_law_take D_law_spans D_law_names D_law_rests
  have D_law_hall : FC P w K mg base 3 "_law_hall" ["_law_bag_here", "_law_many", "_law_most", "_law_longest"] sp_law_hall f_law_hall _ := ⟨o_law_hall, PySem.W.mg_of X G a_law_hall, k_law_hall, b_law_hall⟩
  have o_law_stand := ok_law_stand (P := P) (w := w) (mg := mg) (base := base) T F_law_stand
  have D_law_stand : FC P w K mg base 1 "_law_stand" ["_law_rests_here"] sp_law_stand f_law_stand _ := ⟨o_law_stand, PySem.W.mg_of X G a_law_stand, k_law_stand, b_law_stand⟩
  have o_law_moment := ok_law_moment (P := P) (w := w) (mg := mg) (base := base) T F_law_moment D_law_take
  have D_law_moment : FC P w K mg base 2 "_law_moment" ["_law_bag_here", "_law_rows", "_law_by"] sp_law_moment f_law_moment _ := ⟨o_law_moment, PySem.W.mg_of X G a_law_moment, k_law_moment, b_law_moment⟩
  have o_law_sums := ok_law_sums (P := P) (w := w) (mg := mg) (base := base) (cB := cB) F_law_sums D_beats_with D_all_told D_given_over
  have D_law_sums : FC P w K mg base 10 "_law_sums" ["_law_book", "_law_stand_here", "_law_many"] (sp_law_sums cB) f_law_sums _ := ⟨o_law_sums, PySem.W.mg_of X G a_law_sums, k_law_sums, b_law_sums⟩
  have o_law_at_right := ok_law_at_right (P := P) (w := w) (mg := mg) (base := base) (cB := cB) T F_law_at_right D_far D_slower_standing D_up_at D_law_sums D_ups_from
  have D_law_at_right : FC P w K mg base 11 "_law_at_right" ["_law_quick", "_law_slow", "_law_by", "_law_many", "_law_between"] (sp_law_at_right cB) f_law_at_right _ := ⟨o_law_at_right, PySem.W.mg_of X G a_law_at_right, k_law_at_right, b_law_at_right⟩
  have o_law_rest_right := ok_law_rest_right (P := P) (w := w) (mg := mg) (base := base) (cB := cB) T F_law_rest_right D_rest_from D_is_at_rest D_shares D_round_of D_fraction
  have D_law_rest_right : FC P w K mg base 12 "_law_rest_right" ["_law_quick", "_law_slow", "_law_by"] (sp_law_rest_right cB) f_law_rest_right _ := ⟨o_law_rest_right, PySem.W.mg_of X G a_law_rest_right, k_law_rest_right, b_law_rest_right⟩
  clear a_Book pg_Book hd_Book po_Book sa_Book mk_Book kc_Book n_Book_rows a_Run pg_Run hd_Run po_Run sa_Run mk_Run kc_Run n_Run_book n_Run_many n_Run_parts n_Run_pairs n_Run_rows n_Run_stretches z_len z_min z_max z_sum z_all z_abs z_sorted z_list z_tuple z_dict z_zip z_enumerate z_range z_int z_bool z_isinstance a_MS a_rest_behind l_rest_behind c_rest_behind k_rest_behind a_divisor l_divisor c_divisor k_divisor a_multiple l_multiple c_multiple k_multiple a_fraction l_fraction c_fraction k_fraction a_times_up l_times_up c_times_up k_times_up a_last_up l_last_up c_last_up k_last_up a_inverse l_inverse c_inverse k_inverse a_meeting l_meeting c_meeting k_meeting a_falling_in l_falling_in c_falling_in k_falling_in a_parting_of l_parting_of c_parting_of k_parting_of a_next_up l_next_up c_next_up k_next_up a_total l_total c_total k_total a_slower_standing l_slower_standing c_slower_standing k_slower_standing a_groups_of l_groups_of c_groups_of k_groups_of a_is_whole l_is_whole c_is_whole k_is_whole a_is_between l_is_between c_is_between k_is_between a_is_length l_is_length c_is_length k_is_length a_Book_init i_Book_init l_Book_init c_Book_init k_Book_init a_Book_lengths i_Book_lengths l_Book_lengths c_Book_lengths k_Book_lengths a_Book_sleep i_Book_sleep l_Book_sleep c_Book_sleep k_Book_sleep a_slower_book l_slower_book c_slower_book k_slower_book a_come_in i_come_in l_come_in c_come_in k_come_in a_fall_in i_fall_in l_fall_in c_fall_in k_fall_in a_Run_init i_Run_init l_Run_init c_Run_init k_Run_init a_parts_at i_parts_at l_parts_at c_parts_at k_parts_at a_spans i_spans l_spans c_spans k_spans a_fallings l_fallings c_fallings k_fallings a_far l_far c_far k_far a_up_at l_up_at c_up_at k_up_at a_ups_from l_ups_from c_ups_from k_ups_from a_beats_with l_beats_with c_beats_with k_beats_with a_all_told l_all_told c_all_told k_all_told a_given_over l_given_over c_given_over k_given_over a_times_of l_times_of c_times_of k_times_of a_goings_of l_goings_of c_goings_of k_goings_of a_rest_from l_rest_from c_rest_from k_rest_from a_shares l_shares c_shares k_shares a_pairs_of l_pairs_of c_pairs_of k_pairs_of a_is_at_rest l_is_at_rest c_is_at_rest k_is_at_rest a_round_of l_round_of c_round_of k_round_of a_law_take l_law_take c_law_take k_law_take a_law_bag l_law_bag c_law_bag k_law_bag a_law_names l_law_names c_law_names k_law_names a_law_spans l_law_spans c_law_spans k_law_spans a_law_rests l_law_rests c_law_rests k_law_rests a_law_hall l_law_hall c_law_hall k_law_hall a_law_stand l_law_stand c_law_stand k_law_stand a_law_moment l_law_moment c_law_moment k_law_moment a_law_sums l_law_sums c_law_sums k_law_sums a_law_at_right l_law_at_right c_law_at_right k_law_at_right a_law_rest_right l_law_rest_right c_law_rest_right k_law_rest_right a_law l_law c_law k_law hfa hML X G B C b_rest_behind b_divisor b_multiple b_fraction b_times_up b_last_up b_inverse b_meeting b_falling_in b_parting_of b_next_up b_total b_slower_standing b_groups_of b_is_whole b_is_between b_is_length b_Book_init b_Book_lengths b_Book_sleep b_slower_book b_come_in b_fall_in b_Run_init b_parts_at b_spans b_fallings b_far b_up_at b_ups_from b_beats_with b_all_told b_given_over b_times_of b_goings_of b_rest_from b_shares b_pairs_of b_is_at_rest b_round_of b_law_take b_law_bag b_law_names b_law_spans b_law_rests b_law_hall b_law_stand b_law_moment b_law_sums b_law_at_right b_law_rest_right b_law F_rest_behind F_divisor F_multiple F_fraction F_times_up F_last_up F_inverse F_meeting F_falling_in F_parting_of F_next_up F_total F_slower_standing F_groups_of F_is_whole F_is_between F_is_length F_Book_init F_Book_lengths F_Book_sleep F_slower_book F_come_in F_fall_in F_Run_init F_parts_at F_spans F_fallings F_far F_up_at F_ups_from F_beats_with F_all_told F_given_over F_times_of F_goings_of F_rest_from F_shares F_pairs_of F_is_at_rest F_round_of F_law_take F_law_bag F_law_names F_law_spans F_law_rests F_law_hall F_law_stand F_law_moment F_law_sums F_law_at_right F_law_rest_right o_rest_behind o_divisor o_multiple o_fraction o_times_up o_last_up o_inverse o_meeting o_falling_in o_parting_of o_next_up o_total o_slower_standing o_groups_of o_is_whole o_is_between o_is_length o_Book_init o_Book_lengths o_Book_sleep o_slower_book o_come_in o_fall_in o_Run_init o_parts_at o_spans o_fallings o_far o_up_at o_ups_from o_beats_with o_all_told o_given_over o_times_of o_goings_of o_rest_from o_shares o_pairs_of o_is_at_rest o_round_of o_law_take o_law_bag o_law_names o_law_spans o_law_rests o_law_hall o_law_stand o_law_moment o_law_sums o_law_at_right o_law_rest_right
  exact ok_law (fk := fa) (fdk := PySem.W.fnOf "law" "law" (defArgs s_law) (defBody s_law) (defScope s_law) .none kV_law dc_law pm_law an_law cd_law ct_law) (P := P) (w := w) (mg := mg) (base := base) (cB := cB) T F_law D_law_bag D_law_take D_law_hall D_Book D_law_stand D_slower_book D_slower_standing D_fallings D_law_moment D_law_at_right D_times_of D_law_rest_right
/-- the law's call, from its promise and what the ground tells of the loose names -/
theorem law_walk {l : PySem.W.OpenLaw} {q : Program} {lo : List Str} {XP : (Str → Option Value) → Heap → Prop} {YP : World → Heap → Prop} {d : DefRec} {K : Params → PySem.W.Frag} (most : l.most = some 63) (plain : d.params.defaults = []) (inY : ∀ (w : World) (h : Heap), YP w h → (K w.params).In h)
    (FN : ∀ (w : World) (mg : Str → Option Value) (fa : Addr) (h : Heap), XP mg h → (K w.params).In h → h.Ns mainGlobals mg → mg d.name = some (.ref fa) → ∃ fd : FuncData, (∀ (s : Shared) (u : Value), BindsTo s fd ⟨[u], []⟩ [("_law_script", u)]) ∧ ∀ base : Heap, (K w.params).In base → base.Ns mainGlobals mg → FnOk l.prog w (K w.params) mg base CX0 13 fa fd ["_law_script"] (sp_law (K w.params))) :
    PySem.W.WalkO q lo XP YP l.row.toRowW d [] (fun f us => PySem.call f us) := by
  refine Att.attach_call most plain ?_
  intro w s0 s1 mg mb fa ob pm cd doc ad us ns Gr Yp ho hd hcd hmg hobj hints hlen hg
  have inK := inY w _ Yp
  obtain ⟨fd, bd, ok⟩ := FN w mg fa _ Gr.X inK Gr.T.g hmg
  refine law_call inK Gr.T.g Gr.T.b Gr.T.builtins Gr.T.nolimit hg hobj hints (Nat.le_trans hlen (by decide)) ⟨rfl, by decide, by decide⟩ ok bd (fun H _ hS => ?_) fun H e s' => ?_
  · exact ⟨ad, ns, rfl, hS, fun _ => rfl⟩
  · exact fun z => z
end Sl

set_option Elab.async false
set_option maxRecDepth 100000
open PySem PySem.W PyProof.Rows
set_option maxRecDepth 100000 in
set_option maxHeartbeats 0 in
theorem PySem.Challenge.cw_sleepmany_k09_whole_slower_leaps_holds : PySem.Challenge.rw_sleepmany_k09_whole_slower_leaps.Holds := by
  w_on; o_law; k_head; (case hw => w_witness2)
  k_fill
  refine Sl.law_walk (l := PySem.Challenge.rw_sleepmany_k09_whole_slower_leaps) rfl rfl (fun w h Y => PySem.W.kIn_of Y) ?FN
  case FN =>
    intro w mg fa h XX KX G hmg
    obtain ⟨tL, hML⟩ := Sl.mg_long XX
    refine' Sl.all_mk KX G hmg hML ?a_Book ?pg_Book ?hd_Book ?po_Book ?sa_Book ?mk_Book ?kc_Book ?n_Book_rows ?a_Run ?pg_Run ?hd_Run ?po_Run ?sa_Run ?mk_Run ?kc_Run ?n_Run_book ?n_Run_many ?n_Run_parts ?n_Run_pairs ?n_Run_rows ?n_Run_stretches ?z_len ?z_min ?z_max ?z_sum ?z_all ?z_abs ?z_sorted ?z_list ?z_tuple ?z_dict ?z_zip ?z_enumerate ?z_range ?z_int ?z_bool ?z_isinstance ?a_MS ?a_rest_behind ?l_rest_behind ?c_rest_behind ?k_rest_behind ?a_divisor ?l_divisor ?c_divisor ?k_divisor ?a_multiple ?l_multiple ?c_multiple ?k_multiple ?a_fraction ?l_fraction ?c_fraction ?k_fraction ?a_times_up ?l_times_up ?c_times_up ?k_times_up ?a_last_up ?l_last_up ?c_last_up ?k_last_up ?a_inverse ?l_inverse ?c_inverse ?k_inverse ?a_meeting ?l_meeting ?c_meeting ?k_meeting ?a_falling_in ?l_falling_in ?c_falling_in ?k_falling_in ?a_parting_of ?l_parting_of ?c_parting_of ?k_parting_of ?a_next_up ?l_next_up ?c_next_up ?k_next_up ?a_total ?l_total ?c_total ?k_total ?a_slower_standing ?l_slower_standing ?c_slower_standing ?k_slower_standing ?a_groups_of ?l_groups_of ?c_groups_of ?k_groups_of ?a_is_whole ?l_is_whole ?c_is_whole ?k_is_whole ?a_is_between ?l_is_between ?c_is_between ?k_is_between ?a_is_length ?l_is_length ?c_is_length ?k_is_length ?a_Book_init ?i_Book_init ?l_Book_init ?c_Book_init ?k_Book_init ?a_Book_lengths ?i_Book_lengths ?l_Book_lengths ?c_Book_lengths ?k_Book_lengths ?a_Book_sleep ?i_Book_sleep ?l_Book_sleep ?c_Book_sleep ?k_Book_sleep ?a_slower_book ?l_slower_book ?c_slower_book ?k_slower_book ?a_come_in ?i_come_in ?l_come_in ?c_come_in ?k_come_in ?a_fall_in ?i_fall_in ?l_fall_in ?c_fall_in ?k_fall_in ?a_Run_init ?i_Run_init ?l_Run_init ?c_Run_init ?k_Run_init ?a_parts_at ?i_parts_at ?l_parts_at ?c_parts_at ?k_parts_at ?a_spans ?i_spans ?l_spans ?c_spans ?k_spans ?a_fallings ?l_fallings ?c_fallings ?k_fallings ?a_far ?l_far ?c_far ?k_far ?a_up_at ?l_up_at ?c_up_at ?k_up_at ?a_ups_from ?l_ups_from ?c_ups_from ?k_ups_from ?a_beats_with ?l_beats_with ?c_beats_with ?k_beats_with ?a_all_told ?l_all_told ?c_all_told ?k_all_told ?a_given_over ?l_given_over ?c_given_over ?k_given_over ?a_times_of ?l_times_of ?c_times_of ?k_times_of ?a_goings_of ?l_goings_of ?c_goings_of ?k_goings_of ?a_rest_from ?l_rest_from ?c_rest_from ?k_rest_from ?a_shares ?l_shares ?c_shares ?k_shares ?a_pairs_of ?l_pairs_of ?c_pairs_of ?k_pairs_of ?a_is_at_rest ?l_is_at_rest ?c_is_at_rest ?k_is_at_rest ?a_round_of ?l_round_of ?c_round_of ?k_round_of ?a_law_take ?l_law_take ?c_law_take ?k_law_take ?a_law_bag ?l_law_bag ?c_law_bag ?k_law_bag ?a_law_names ?l_law_names ?c_law_names ?k_law_names ?a_law_spans ?l_law_spans ?c_law_spans ?k_law_spans ?a_law_rests ?l_law_rests ?c_law_rests ?k_law_rests ?a_law_hall ?l_law_hall ?c_law_hall ?k_law_hall ?a_law_stand ?l_law_stand ?c_law_stand ?k_law_stand ?a_law_moment ?l_law_moment ?c_law_moment ?k_law_moment ?a_law_sums ?l_law_sums ?c_law_sums ?k_law_sums ?a_law_at_right ?l_law_at_right ?c_law_at_right ?k_law_at_right ?a_law_rest_right ?l_law_rest_right ?c_law_rest_right ?k_law_rest_right ?a_law ?l_law ?c_law ?k_law
    (case a_Book => k_is)
    (case pg_Book => k_is)
    (case hd_Book => k_is)
    (case po_Book => k_is)
    (case sa_Book => k_is)
    (case mk_Book => k_is)
    (case kc_Book => k_is)
    (case n_Book_rows => k_is)
    (case a_Run => k_is)
    (case pg_Run => k_is)
    (case hd_Run => k_is)
    (case po_Run => k_is)
    (case sa_Run => k_is)
    (case mk_Run => k_is)
    (case kc_Run => k_is)
    (case n_Run_book => k_is)
    (case n_Run_many => k_is)
    (case n_Run_parts => k_is)
    (case n_Run_pairs => k_is)
    (case n_Run_rows => k_is)
    (case n_Run_stretches => k_is)
    (case z_len => k_is)
    (case z_min => k_is)
    (case z_max => k_is)
    (case z_sum => k_is)
    (case z_all => k_is)
    (case z_abs => k_is)
    (case z_sorted => k_is)
    (case z_list => k_is)
    (case z_tuple => k_is)
    (case z_dict => k_is)
    (case z_zip => k_is)
    (case z_enumerate => k_is)
    (case z_range => k_is)
    (case z_int => k_is)
    (case z_bool => k_is)
    (case z_isinstance => k_is)
    (case a_MS => k_is)
    (case a_rest_behind => k_is)
    (case l_rest_behind => k_is)
    (case c_rest_behind => k_is)
    (case k_rest_behind => k_is)
    (case a_divisor => k_is)
    (case l_divisor => k_is)
    (case c_divisor => k_is)
    (case k_divisor => k_is)
    (case a_multiple => k_is)
    (case l_multiple => k_is)
    (case c_multiple => k_is)
    (case k_multiple => k_is)
    (case a_fraction => k_is)
    (case l_fraction => k_is)
    (case c_fraction => k_is)
    (case k_fraction => k_is)
    (case a_times_up => k_is)
    (case l_times_up => k_is)
    (case c_times_up => k_is)
    (case k_times_up => k_is)
    (case a_last_up => k_is)
    (case l_last_up => k_is)
    (case c_last_up => k_is)
    (case k_last_up => k_is)
    (case a_inverse => k_is)
    (case l_inverse => k_is)
    (case c_inverse => k_is)
    (case k_inverse => k_is)
    (case a_meeting => k_is)
    (case l_meeting => k_is)
    (case c_meeting => k_is)
    (case k_meeting => k_is)
    (case a_falling_in => k_is)
    (case l_falling_in => k_is)
    (case c_falling_in => k_is)
    (case k_falling_in => k_is)
    (case a_parting_of => k_is)
    (case l_parting_of => k_is)
    (case c_parting_of => k_is)
    (case k_parting_of => k_is)
    (case a_next_up => k_is)
    (case l_next_up => k_is)
    (case c_next_up => k_is)
    (case k_next_up => k_is)
    (case a_total => k_is)
    (case l_total => k_is)
    (case c_total => k_is)
    (case k_total => k_is)
    (case a_slower_standing => k_is)
    (case l_slower_standing => k_is)
    (case c_slower_standing => k_is)
    (case k_slower_standing => k_is)
    (case a_groups_of => k_is)
    (case l_groups_of => k_is)
    (case c_groups_of => k_is)
    (case k_groups_of => k_is)
    (case a_is_whole => k_is)
    (case l_is_whole => k_is)
    (case c_is_whole => k_is)
    (case k_is_whole => k_is)
    (case a_is_between => k_is)
    (case l_is_between => k_is)
    (case c_is_between => k_is)
    (case k_is_between => k_is)
    (case a_is_length => k_is)
    (case l_is_length => k_is)
    (case c_is_length => k_is)
    (case k_is_length => k_is)
    (case a_Book_init => k_is)
    (case i_Book_init => k_is)
    (case l_Book_init => k_is)
    (case c_Book_init => k_is)
    (case k_Book_init => k_is)
    (case a_Book_lengths => k_is)
    (case i_Book_lengths => k_is)
    (case l_Book_lengths => k_is)
    (case c_Book_lengths => k_is)
    (case k_Book_lengths => k_is)
    (case a_Book_sleep => k_is)
    (case i_Book_sleep => k_is)
    (case l_Book_sleep => k_is)
    (case c_Book_sleep => k_is)
    (case k_Book_sleep => k_is)
    (case a_slower_book => k_is)
    (case l_slower_book => k_is)
    (case c_slower_book => k_is)
    (case k_slower_book => k_is)
    (case a_come_in => k_is)
    (case i_come_in => k_is)
    (case l_come_in => k_is)
    (case c_come_in => k_is)
    (case k_come_in => k_is)
    (case a_fall_in => k_is)
    (case i_fall_in => k_is)
    (case l_fall_in => k_is)
    (case c_fall_in => k_is)
    (case k_fall_in => k_is)
    (case a_Run_init => k_is)
    (case i_Run_init => k_is)
    (case l_Run_init => k_is)
    (case c_Run_init => k_is)
    (case k_Run_init => k_is)
    (case a_parts_at => k_is)
    (case i_parts_at => k_is)
    (case l_parts_at => k_is)
    (case c_parts_at => k_is)
    (case k_parts_at => k_is)
    (case a_spans => k_is)
    (case i_spans => k_is)
    (case l_spans => k_is)
    (case c_spans => k_is)
    (case k_spans => k_is)
    (case a_fallings => k_is)
    (case l_fallings => k_is)
    (case c_fallings => k_is)
    (case k_fallings => k_is)
    (case a_far => k_is)
    (case l_far => k_is)
    (case c_far => k_is)
    (case k_far => k_is)
    (case a_up_at => k_is)
    (case l_up_at => k_is)
    (case c_up_at => k_is)
    (case k_up_at => k_is)
    (case a_ups_from => k_is)
    (case l_ups_from => k_is)
    (case c_ups_from => k_is)
    (case k_ups_from => k_is)
    (case a_beats_with => k_is)
    (case l_beats_with => k_is)
    (case c_beats_with => k_is)
    (case k_beats_with => k_is)
    (case a_all_told => k_is)
    (case l_all_told => k_is)
    (case c_all_told => k_is)
    (case k_all_told => k_is)
    (case a_given_over => k_is)
    (case l_given_over => k_is)
    (case c_given_over => k_is)
    (case k_given_over => k_is)
    (case a_times_of => k_is)
    (case l_times_of => k_is)
    (case c_times_of => k_is)
    (case k_times_of => k_is)
    (case a_goings_of => k_is)
    (case l_goings_of => k_is)
    (case c_goings_of => k_is)
    (case k_goings_of => k_is)
    (case a_rest_from => k_is)
    (case l_rest_from => k_is)
    (case c_rest_from => k_is)
    (case k_rest_from => k_is)
    (case a_shares => k_is)
    (case l_shares => k_is)
    (case c_shares => k_is)
    (case k_shares => k_is)
    (case a_pairs_of => k_is)
    (case l_pairs_of => k_is)
    (case c_pairs_of => k_is)
    (case k_pairs_of => k_is)
    (case a_is_at_rest => k_is)
    (case l_is_at_rest => k_is)
    (case c_is_at_rest => k_is)
    (case k_is_at_rest => k_is)
    (case a_round_of => k_is)
    (case l_round_of => k_is)
    (case c_round_of => k_is)
    (case k_round_of => k_is)
    (case a_law_take => k_is)
    (case l_law_take => k_is)
    (case c_law_take => k_is)
    (case k_law_take => k_is)
    (case a_law_bag => k_is)
    (case l_law_bag => k_is)
    (case c_law_bag => k_is)
    (case k_law_bag => k_is)
    (case a_law_names => k_is)
    (case l_law_names => k_is)
    (case c_law_names => k_is)
    (case k_law_names => k_is)
    (case a_law_spans => k_is)
    (case l_law_spans => k_is)
    (case c_law_spans => k_is)
    (case k_law_spans => k_is)
    (case a_law_rests => k_is)
    (case l_law_rests => k_is)
    (case c_law_rests => k_is)
    (case k_law_rests => k_is)
    (case a_law_hall => k_is)
    (case l_law_hall => k_is)
    (case c_law_hall => k_is)
    (case k_law_hall => k_is)
    (case a_law_stand => k_is)
    (case l_law_stand => k_is)
    (case c_law_stand => k_is)
    (case k_law_stand => k_is)
    (case a_law_moment => k_is)
    (case l_law_moment => k_is)
    (case c_law_moment => k_is)
    (case k_law_moment => k_is)
    (case a_law_sums => k_is)
    (case l_law_sums => k_is)
    (case c_law_sums => k_is)
    (case k_law_sums => k_is)
    (case a_law_at_right => k_is)
    (case l_law_at_right => k_is)
    (case c_law_at_right => k_is)
    (case k_law_at_right => k_is)
    (case a_law_rest_right => k_is)
    (case l_law_rest_right => k_is)
    (case c_law_rest_right => k_is)
    (case k_law_rest_right => k_is)
    (case a_law => k_is)
    (case l_law => k_is)
    (case c_law => k_is)
    (case k_law => k_is)
