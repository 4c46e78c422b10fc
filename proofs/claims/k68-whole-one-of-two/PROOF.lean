import PyProof.Rows.All
import Wide.All
import OpenK.AllK
import Wide.FinOn
import KE.KStateDown
import KE.SortData
import HandS.ForMost
import HandS.More
import HandS.WordsExc
import HandS.Conv
import HandS.DictComp
import HandS.Zip
import HandS.IsInst
import HandS.Style
import HandS.TupAny
import HandS.SortInts
import HandS.Flow
import HandS.Walk
import HandS.RaiseMore
import HandS.Defaults
import HandS.Head0
import HandS.Head1
import HandS.Head2
import HandS.HeadEnd
import HandS.HeadHook1
import HandS.HeadHook2
import PySem.Challenge.RW_anycritical_k68_whole_one_of_two
import KE.GoesEnum
import KE.KDictOf
import KE.KDictCopyH
import HandS.Steps
import HandS.Evl
set_option Elab.async false
set_option linter.all false
set_option maxRecDepth 100000
set_option maxHeartbeats 4000000
/-! The text by places. -/
namespace A68
open PySem PySem.Spec PyProof.Rows L2
def top (i : Nat) : Stmt := PySem.Challenge.pw_anycritical_k68_whole_one_of_two.main.body.getD i (.Pass ⟨0, 0, 0, 0⟩)
abbrev s_p_begin_of : Stmt := top 1
abbrev s_p_end_of : Stmt := top 2
abbrev s_p_is_end : Stmt := top 3
abbrev s_p_owner_of : Stmt := top 4
abbrev s_p_all_bounds : Stmt := top 5
abbrev s_c_init : Stmt := inClass (top 7) 0
abbrev s_c_offer_most : Stmt := inClass (top 7) 1
abbrev s_c_offer_wait : Stmt := inClass (top 7) 2
abbrev s_c_add_up : Stmt := inClass (top 7) 3
abbrev s_c_use_most : Stmt := inClass (top 7) 4
abbrev s_c_use_wait : Stmt := inClass (top 7) 5
abbrev s_c_close_once : Stmt := inClass (top 7) 6
abbrev s_c_table : Stmt := inClass (top 7) 7
abbrev s_p_lines_in : Stmt := top 9
abbrev s_p_renumbered : Stmt := top 10
abbrev s_p_lines_up_to : Stmt := top 11
abbrev s_p_find_refutation : Stmt := top 12
abbrev s_p_find_table : Stmt := top 14
abbrev s_l_open : Stmt := top 16
abbrev s_l_spread : Stmt := top 17
abbrev s_l_take : Stmt := top 18
abbrev s_l_same : Stmt := top 19
abbrev s_l_one_of : Stmt := top 20
abbrev s_l_between : Stmt := top 21
abbrev s_l_owner : Stmt := top 22
abbrev s_l_is_end : Stmt := top 23
abbrev s_l_bounds : Stmt := top 24
abbrev s_l_gives_alone : Stmt := top 25
abbrev s_l_gives : Stmt := top 26
abbrev s_l_are_lines : Stmt := top 27
abbrev s_l_is_refutation : Stmt := top 28
abbrev s_l_is_closed : Stmt := top 29
abbrev s_l_is_table : Stmt := top 30
abbrev s_l_draw_project : Stmt := top 31
abbrev s_l_draw_nominal : Stmt := top 32
abbrev s_l_draw_limits : Stmt := top 33
abbrev s_l_draw_brief : Stmt := top 34
abbrev s_l_law : Stmt := top 35
abbrev St := L2.St
end A68
set_option maxRecDepth 100000
set_option maxHeartbeats 4000000
/-! enumerate over a tuple that is read. -/
namespace A68
open PySem PySem.Spec PyProof.Rows L2
/-- enumerate with no count, over anything that begins -/
theorem enumNew1 {v : Value} {ob : Obj} {Hh : Heap → Prop} (B : Begins v ob Hh) :
    Meets (Builtin.«enumerate.__new__» ⟨[.type "enumerate", v], []⟩) (fun _ R s => Hh s.heap ∧
      R (.ok (.ret (.ref (s.heap.push ob).objs.size)))
        { s with heap := (s.heap.push ob).push { cls := .type "enumerate", data := .fields #[.none, .bool false, .ref s.heap.objs.size, rawInt 0, .none, .none] } }) :=
  .of_wp fun prog w A R s h => by
    obtain ⟨hp, gs, dr, tk, os⟩ := s
    obtain ⟨hB, hR⟩ := h
    have sb := PySem.sub_enumerate
    have it : ∀ {A' : Around} {E : Value → Shared → Prop} {Q : Value → Shared → Prop}, Q (.ref hp.objs.size) ⟨hp.push ob, gs, dr, tk, os⟩ → wpAny (model prog w) A' (pyIter v) Q E ⟨hp, gs, dr, tk, os⟩ :=
      fun z => B.iter prog w _ _ ⟨hp, gs, dr, tk, os⟩ _ hB z
    wp_walk using it
    refine wpAny_stack_any fun st => wpAny_pure ?_
    split
    next c _ _ _ _ _ =>
      cases (c == Value.type "enumerate") <;> (wp_walk using it; exact ⟨_, rfl, hR⟩)
    next => (wp_walk using it; exact ⟨_, rfl, hR⟩)
theorem enumCall1 {prog : Program} {w : World} {A : Around} {E : Value → Shared → Prop} {s : Shared} {v : Value} {ob : Obj} {Hh : Heap → Prop} {Q : Value → Shared → Prop} (B : Begins v ob Hh) (h1 : Hh s.heap)
    (k : ∀ h', IsEnum h' (s.heap.objs.size + 1) s.heap.objs.size 0 .none → h'.get? s.heap.objs.size = some ob →
      (∀ b o, s.heap.get? b = some o → h'.get? b = some o) → Q (.ref (s.heap.objs.size + 1)) { s with heap := h' }) :
    wpAny (model prog w) A (call (.type "enumerate") [v]) Q E s := by
  refine callType_new F.called_enumerate (by decide) (F.typeCall_enumerate_1 _) (F.newCall_enumerate_1 _) (fun x => F.args_object_init_2 x _) F.entry_enumerate_new (enumNew1 B) ⟨h1, ?_⟩
  have sz : (s.heap.push ob).objs.size = s.heap.objs.size + 1 := Heap.size_push ..
  have e2 : IsEnum ((s.heap.push ob).push { cls := .type "enumerate", data := .fields #[.none, .bool false, .ref s.heap.objs.size, rawInt 0, .none, .none] }) (s.heap.objs.size + 1) s.heap.objs.size 0 .none := by
    have z := Heap.get?_push_size (s.heap.push ob) (o := { cls := .type "enumerate", data := .fields #[.none, .bool false, .ref s.heap.objs.size, rawInt 0, .none, .none] }) rfl
    rw [sz] at z
    exact z
  show _ ∧ _
  rw [sz]
  exact ⟨⟨_, e2, rfl⟩, k _ e2 (Heap.get?_push_of_some _ (Heap.get?_push_size _ B.free)) fun b o x => Heap.get?_push_of_some _ (Heap.get?_push_of_some _ x)⟩
/-- the tuple at a, each of its items with its number in a new pair -/
def ItE (K : PySem.W.Frag) (a : Addr) : It where
  go i H := ∃ (xs : List V) (x : V), SqT K H a xs ∧ xs[i]? = some x
  yld i H v H' := ∃ T x, v = .ref T ∧ H T = none ∧ H' = upd H T (.tup [.int (i : Nat), x]) ∧ ∀ ys, SqT K H a ys → ys[i]? = some x
  stop i H := ∃ xs : List V, SqT K H a xs ∧ xs.length = i
theorem isTup_to {h : Heap} {a : Addr} {its : Array Value} (p : IsTup h a its) : h.IsTuple a its := p
theorem turnE {P : Program} {w : World} {K : PySem.W.Frag} {elts : List Expr} {x1 : Nat} {tp : Pos} (a e it : Addr) :
    Turn P w K (.Tuple elts x1 tp) (ItE K a) [e, it] e (fun i h => (∃ old, IsEnum h e it ((i : Nat) : Int) old) ∧ h.IsTupleIter it a i ∧ e ≠ it) where
  mem := List.mem_cons_self ..
  obj i h st b hb := by
    obtain ⟨⟨old, hE⟩, ⟨ob, h1, h2, h3⟩, _⟩ := st
    rcases List.mem_cons.mp hb with rfl | hb
    · exact ⟨_, hE, fun v z => nomatch z⟩
    · rw [List.mem_singleton.mp hb]
      refine ⟨ob, h1, fun v z => ?_⟩
      rw [h3] at z
      cases z
  keep i h h' st kp := ⟨⟨st.1.choose, kp e (by simp) _ st.1.choose_spec⟩, st.2.1.at fun o z => kp it (by simp) o z, st.2.2⟩
  item := by
    intro X eP eW eK cal i pins s σ H E I ff st go
    subst eP eW eK
    obtain ⟨⟨old, hE⟩, hI, ne⟩ := st
    obtain ⟨xs, x, hx, hxi⟩ := go
    obtain ⟨its, rv, tp, _⟩ := I.tuple hx
    obtain ⟨u, hu, ru⟩ := rv.get hxi
    have le_ : e < s.heap.objs.size := Heap.lt_size hE
    have li_ : it < s.heap.objs.size := let ⟨_, z, _⟩ := hI; Heap.lt_size z
    have ha : ∃ ob, s.heap.get? a = some ob ∧ ob.cls = .type "tuple" := let ⟨ob, z, z2, _⟩ := tp; ⟨ob, z, z2⟩
    have nae : a ≠ e := fun z => by
      obtain ⟨ob, z1, z2⟩ := ha
      rw [z] at z1
      have z3 := Option.some.inj (hE.symm.trans z1)
      rw [← z3] at z2
      exact absurd (Value.type.inj z2) (by decide)
    have nai : a ≠ it := fun z => by
      obtain ⟨ob, z1, z2⟩ := ha
      obtain ⟨o3, z3, z4, _⟩ := hI
      rw [z, z3] at z1
      rw [Option.some.inj z1] at z4
      exact absurd (Value.type.inj (z4.symm.trans z2)) (by decide)
    have D := Draws.tuple (prog := X.prog) (w := X.w) (A := X.A.in1) (I.ok.hd cal) it a nai its.toArray
    have lt : i < its.toArray.size := by
      have := (List.getElem?_eq_some_iff.mp hu).1
      simpa using this
    refine wpAny_pyNext_enum_itemD D hE ⟨hI, isTup_to tp⟩ lt ne (by simp [ne, Ne.symm nae]) fun y h' tk hy hO hS hT hz hk => ?_
    have ey : y = u := by
      have z : its.toArray[i]? = some u := by simpa using hu
      exact Option.some.inj (hy.symm.trans z)
    subst ey
    refine ⟨_, rfl, wpAny_letOwnedTupleGo_enum (s := { s with heap := h', toks := tk + 1 }) hO fun h'' hE2 sb => ?_⟩
    have hT2 : h''.get? s.heap.objs.size = some { cls := .type "tuple", data := .seq #[.int i tk, y] } := (sb.2 _ (Nat.ne_of_gt le_)).trans hT
    have nw : ObjOk X.prog X.w (upd H s.heap.objs.size (.tup [.int (i : Nat), x])) h'' s.heap.objs.size (.tup [.int (i : Nat), x]) :=
      ⟨by show 2 ≤ sizeLine; decide, [.int i tk, y], .cons ⟨_, rfl⟩ (.cons ru .nil), ⟨_, hT2, rfl, _, rfl⟩⟩
    have J : Inv X pins σ (upd H s.heap.objs.size (.tup [.int (i : Nat), x])) { s with heap := h'', toks := tk + 1 } :=
      I.turnedNew (t' := tk + 1) (ch := [e, it]) (fun b ob nb z => (sb.2 b fun q => nb (by simp [q])).trans (hk b ob (fun q => nb (by simp [q])) (fun q => nb (by simp [q])) z)) ff (Nat.le_refl _) nw
    refine ⟨.ref s.heap.objs.size, _, J, rfl, ⟨_, x, rfl, I.hok.fresh (Nat.le_refl _), rfl, fun ys hy => ?_⟩, ⟨⟨y, ?_⟩, hS.1.at fun o z => (sb.2 it (Ne.symm ne)).trans z, ne⟩, fun b hb => ?_⟩
    · rw [I.tuple_inj hy hx]
      exact hxi
    · have : ((i + 1 : Nat) : Int) = (i : Int) + 1 := by omega
      rw [this]
      exact hE2
    · have lb : b < s.heap.objs.size := by
        rcases List.mem_cons.mp hb with z | z
        · rw [z]; exact le_
        · rw [List.mem_singleton.mp z]; exact li_
      rw [upd_ne (Nat.ne_of_lt lb)]
      exact (ff b hb).1
  done := by
    intro X eP eW eK cal i pins s σ H E I ff st sp
    subst eP eW eK
    obtain ⟨⟨old, hE⟩, hI, ne⟩ := st
    obtain ⟨xs, hx, hl⟩ := sp
    obtain ⟨its, rv, tp, _⟩ := I.tuple hx
    obtain ⟨ob, z1, z2, _⟩ := id tp
    have nai : a ≠ it := fun z => by
      obtain ⟨o3, z3, z4, _⟩ := hI
      rw [z, z3] at z1
      rw [Option.some.inj z1] at z4
      exact absurd (Value.type.inj (z4.symm.trans z2)) (by decide)
    obtain ⟨g0, g1, g2, g3, g4, g5⟩ := ff it (by simp)
    have en := rv.length
    have D := Draws.tuple (prog := X.prog) (w := X.w) (A := X.A.in1) (I.ok.hd cal) it a nai its.toArray
    have ei : its.toArray.size = i := by simp; omega
    have hI2 : s.heap.IsTupleIter it a its.toArray.size := by rw [ei]; exact hI
    refine wpAny_pyNext_enum_endD (i := i) D hE ⟨hI2, isTup_to tp⟩ fun h' eb => ⟨rfl, I.turned (t' := s.toks) (fun b o nb z => eb b o nb z) g0 g1 g3 g4 g5⟩
  self A i s Q E st h := wpAny_pyIter_enum st.1.choose_spec h
def tiEnumT (K : PySem.W.Frag) (ta : TA) : TI := fun σ H R => ta σ H fun vs H1 => ∃ (a : Addr) (xs : List V), vs = [.ref a] ∧ SqT K H1 a xs ∧ R (ItE K a) H1
theorem pi_enumT {X : Cx} {e : Expr} {ta : TA} {p pos tp : Pos} {elts : List Expr} {x1 : Nat} (hg : Gl X "enumerate") (hm : X.mg "enumerate" = none) (ha : PA X [e] ta)
    (one : starEach [e] X.env = [(false, eval e X.env)] := by rfl) : PI X (.Tuple elts x1 tp) (.Call (.Name "enumerate" p) [e] [] pos) (tiEnumT X.K ta) where
  run pins s σ H R I h := by
    refine Call_ (ld_blt I hg hm boot_enumerate (PyProof.Rows.callWith_type1 (thn (ha.run pos pins s σ H _ I h) fun us s1 ⟨vs, H1, I1, r1, q1⟩ => ?_) one rfl))
    obtain ⟨a, xs, rfl, hq, q⟩ := q1
    obtain ⟨u, rfl, ru⟩ := vals1 r1
    cases ru
    obtain ⟨its, rv, tp', _⟩ := I1.tuple hq
    refine enumCall1 (begins_tuple a its.toArray) (isTup_to tp') fun h' hE hI kp => wpAny_pyIter_enum hE ?_
    refine ⟨s1.heap.objs.size + 1, [s1.heap.objs.size + 1, s1.heap.objs.size], _, _, H1, rfl, I1.kept (t' := s1.toks) kp, turnE a (s1.heap.objs.size + 1) s1.heap.objs.size, ⟨⟨.none, hE⟩, ⟨_, hI, rfl, rfl⟩, Nat.succ_ne_self _⟩, fun b hb => ?_, q⟩
    have hle : s1.heap.objs.size ≤ b := by
      rcases List.mem_cons.mp hb with z | z
      · rw [z]; exact Nat.le_succ _
      · rw [List.mem_singleton.mp z]; exact Nat.le_refl _
    exact I1.fpOk hle (I1.hok.fresh hle)
theorem walk_enumT {K : PySem.W.Frag} {a : Addr} {xs : List V} : Walk (ItE K a) xs.length (fun H => SqT K H a xs) (YPair (fun i => some (.int (i : Nat))) (fun i => xs[i]?)) where
  goes i H lt h := ⟨xs, xs[i], h, List.getElem?_eq_getElem lt⟩
  stops H h := ⟨xs, h, rfl⟩
  yields i H v H' lt h y := by
    obtain ⟨T, x, rfl, n, rfl, q⟩ := y
    exact ⟨T, _, x, rfl, n, rfl, rfl, q xs h⟩
end A68
set_option maxRecDepth 100000
set_option maxHeartbeats 4000000
/-! repr of data; sorted of texts and of a dict's int keys, of any number. -/
namespace A68
open PySem PySem.Spec PyProof.Rows L2
section
variable {X : Cx}
def rReprD (K : PySem.W.Frag) : List V → Hp → VK → Prop := fun xs H Q => ∃ (a : Addr) (d : PyData), xs = [V.ref a] ∧ Dp K H (.ref a) d ∧ d.showable = true ∧ d.hasDict = false ∧ d.depth ≤ 60 ∧ d.shown.length ≤ sizeLine ∧ Q (.str d.shown) H
theorem call_reprD (hg : X.A.guards = some []) (hu : X.A.units + 64 < cLine) : CallR X (.builtin "repr") (rReprD X.K) := by
  intro pins s σ H xs us Q I r h
  obtain ⟨a, d, rfl, hd, h1, h2, h3, h4, q⟩ := h
  obtain ⟨u, rfl, ru⟩ := vals1 r
  obtain ⟨as, rd⟩ := Dp.reads I d _ _ hd ru
  cases ru
  exact repr_of_reads' rd h1 (fun z => by rw [h2] at z; cases z) hg (by omega) (fun _ _ e => e)
    (fun h' t tk kp => ⟨.str d.shown, H, I.kept (t' := tk) kp, ⟨t, rfl⟩, q⟩) h4
/-- the order in which texts are sorted -/
def strLe (a b : Str) : Bool := PySem.W.dataLe false (fun x : Str => PyData.str x) a b
def rSortedT (K : PySem.W.Frag) : List V → Hp → VK → Prop := fun vs H Q => ∃ (a : Addr) (xs : List Str), vs = [V.ref a] ∧ SqL K H a (xs.map V.str) ∧
  ∀ p : Addr, H p = none → Q (.ref p) (upd H p (.lst ((xs.mergeSort strLe).map V.str)))
theorem each_strs : ∀ {xs : List Str} {us : List Value}, Vals (xs.map V.str) us → PySem.W.EachIs (fun (v : Value) (b : Str) => ∃ t, v = Value.str b t) us xs
  | [], _, h => by
    rw [Vals.zero h]
    exact .nil
  | x :: xs, _, h => by
    cases h with
    | cons r t => exact .cons r (each_strs t)
theorem vals_each : ∀ {us : List Value} {xs : List Str}, PySem.W.EachIs (fun (v : Value) (b : Str) => ∃ t, v = Value.str b t) us xs → Vals (xs.map V.str) us
  | _, _, .nil => .nil
  | _, _, .cons r t => .cons r (vals_each t)
theorem each_reads {h : Heap} : ∀ {us : List Value} {xs : List Str}, PySem.W.EachIs (fun (v : Value) (b : Str) => ∃ t, v = Value.str b t) us xs →
    PySem.W.EachIs (fun v b => ∃ as, Reads h v (PyData.str b) as) us xs
  | _, _, .nil => .nil
  | _, _, .cons r t => .cons (let ⟨_, e⟩ := r; ⟨[], by rw [e]; exact .str _ _⟩) (each_reads t)
theorem cr_sortedT (hu : X.A.units + 64 < cLine) : CallR X (.builtin "sorted") (rSortedT X.K) := by
  intro pins s σ H vs us Q I r h
  obtain ⟨a, xs, rfl, hs, q⟩ := h
  obtain ⟨its, rv, hl, hz⟩ := I.list hs
  rw [Vals.ref1 r]
  have e := each_strs rv
  have zl : xs.length ≤ sizeLine := by
    rw [List.length_map] at hz
    exact hz
  refine PySem.W.sorted_data (enc := fun x : Str => PyData.str x) hl.isList e (each_reads e) (PySem.W.AllAlike.of fun _ _ => by simp [PySem.W.alike]) (PySem.W.Sortable.others fun _ => ⟨fun z => (nomatch z), fun _ z => (nomatch z)⟩) zl
    (fun b _ => by show X.A.units + 2 + 0 < cLine; omega) fun out ho eo => ?_
  obtain ⟨ep, he⟩ := PyProof.Rows.sortedAll_at s.heap its out.toArray
  have hlen : ((xs.mergeSort strLe).map V.str).length ≤ sizeLine := by
    rw [List.length_map, List.length_mergeSort]
    exact zl
  exact ⟨.ref _, upd H (s.heap.objs.size + 1) (.lst ((xs.mergeSort strLe).map V.str)), I.laid (t' := s.toks) (fun _ _ => PyProof.Rows.sortedAll_old) (Nat.le_succ _) ⟨hlen, out, ep, vals_each eo, he⟩, rfl, q _ (I.hok.fresh (Nat.le_succ _))⟩
/-- sorted(d), all keys ints, any number of them -/
def rSortedDI : List V → Hp → VK → Prop := fun xs H Q => ∃ (a : Addr) (kvs : List (Key × V)) (ks : List Int), xs = [V.ref a] ∧ Rd H a (.dK kvs) ∧ kvs.map (·.1) = ks.map Sum.inl ∧
  ∀ (ys : List Int) (p : Addr), ys.Perm ks → ys.Pairwise (· ≤ ·) → H p = none → Q (.ref p) (upd H p (.lst (ys.map V.int)))
theorem ints_of_at : ∀ {us : List Value} {ks : List Int}, us.length = ks.length → (∀ (j : Nat) (v : Value), us[j]? = some v → ∃ k t, ks[j]? = some k ∧ v = Value.int k t) → IntsAre us ks
  | [], [], _, _ => .nil
  | [], _ :: _, l, _ => nomatch l
  | _ :: _, [], l, _ => nomatch l
  | u :: us, k :: ks, l, f => by
    obtain ⟨k', t, e1, e2⟩ := f 0 u rfl
    cases Option.some.inj e1
    rw [e2]
    exact .cons _ _ (ints_of_at (Nat.succ.inj l) fun j v e => f (j + 1) v e)
theorem cr_sortedDI (cal : X.calm = true) : CallR X (.builtin "sorted") rSortedDI := by
  intro pins s σ H xs us Q I r h
  obtain ⟨a, kvs, ks, rfl, hd, hks, q⟩ := h
  rw [Vals.ref1 r]
  obtain ⟨z, nsys, ps, rel, dd⟩ := dk_rd I.hok hd
  obtain ⟨ep, at_⟩ := dd.dictAt
  have keys : ps.map (·.1) = ks.map Sum.inl := rel.keys.symm.trans hks
  have len : ps.length = ks.length := by simpa using congrArg List.length keys
  have zp : ps.length ≤ sizeLine := by rw [← rel.length]; exact z
  refine Calls.call_function_entry PyProof.Rows.kind_sorted PyProof.Rows.plain_sorted PyProof.Rows.entry_sorted (PyProof.Rows.args_sorted1 _) ?_
  unfold Builtin.«sorted»
  refine wpAny_bind (m := checkCount "sorted" 1 1 _) (wpAny_pure ?_)
  refine wpAny_bind (PySem.W.kdu_collect (A := X.A.in1) (PySem.W.kdl_dict (knd := mixKind X.prog X.w) (kvs := ps) (ep := ep) nsys) (I.ok.hd cal) at_ zp fun h' tk got kp hgot => ?_)
  have lg : got.toList.length = ks.length := by rw [Array.length_toList, hgot.1, len]
  have intsG : IntsAre got.toList ks := ints_of_at lg fun j v e => by
    obtain ⟨k, x, e1, e2⟩ := hgot.2 j v (by rw [← Array.getElem?_toList]; exact e)
    have e3 : (ks.map Sum.inl)[j]? = some k := by rw [← keys, List.getElem?_map, e1]; rfl
    rw [List.getElem?_map] at e3
    obtain ⟨i, e4, e5⟩ := Option.map_eq_some_iff.mp e3
    rw [← e5] at e2
    obtain ⟨t, et⟩ := Value.isInt_shape (k := i) (v := v) e2
    exact ⟨i, t, e4, et⟩
  have J : Inv X pins σ H { s with heap := h', toks := tk } := I.kept kp
  have zg : got.toList.length ≤ sizeLine := by rw [lg, ← len]; exact zp
  refine wpAny_bind (wpAny_newList ?_ zg)
  have hoL : (h'.push (seqObj "list" got.toList.toArray 0)).get? h'.objs.size = some (seqObj "list" got.toList.toArray 0) := Heap.get?_push_size _ rfl
  show wpAny _ _ _ _ _ { s with heap := h'.push (seqObj "list" got.toList.toArray 0), toks := tk }
  refine wpAny_bind (wpAny_holding (wpAny_call_entry PyProof.Rows.slot_list_sort ⟨_, hoL, rfl⟩ PyProof.Rows.entry_list_sort
    (SrtO.list_sort_ord (s := { s with heap := h'.push (seqObj "list" got.toList.toArray 0), toks := tk }) SrtO.swo_int hoL zg (fun h2 => SrtO.ints_sortable intsG h2) fun out o1 o2 => ⟨_, rfl, ?_⟩) (PyProof.Rows.args_list_sort _)))
  obtain ⟨k1, k2, k3⟩ := SrtO.ints_out intsG o1 o2
  obtain ⟨e', he'⟩ := PyProof.Rows.sortedHeap_at (vs := got.toList) (out := out.toArray) hoL
  have hlen : ((out.map SrtO.iv).map V.int).length ≤ sizeLine := by
    rw [List.length_map, k2.length_eq, ← lg]
    exact zg
  refine wpAny_pure ⟨_, rfl, .ref h'.objs.size, upd H h'.objs.size (.lst ((out.map SrtO.iv).map V.int)), J.laid (t' := tk) (fun b u e => ?_) (Nat.le_refl _)
    (show ObjOk X.prog X.w _ _ _ (.lst ((out.map SrtO.iv).map V.int)) from ⟨hlen, out, e', vals_of_ints k1, he'⟩), rfl, q _ _ k2 k3 (J.hok.fresh (Nat.le_refl _))⟩
  have lb : b < h'.objs.size := Heap.lt_size e
  rw [PyProof.Rows.sortedHeap_old (Nat.ne_of_lt lb) (by rw [size_push']; exact Nat.lt_succ_of_lt lb)]
  exact Heap.get?_push_of_some _ e
end
end A68
set_option maxRecDepth 100000
set_option maxHeartbeats 4000000
/-! dict(d) of a dict whose keys are pairs of small numbers. -/
namespace A68
open PySem PySem.Spec PyProof.Rows L2
/-- the key (a, b) -/
abbrev kk (a b : Int) : List Key := [.inl a, .inl b]
def gh (a b : Nat) : Int := reduceHash (Builtin.Tuple.tupleHashOf [hashInt (a : Int), hashInt (b : Int)])
theorem gh_all : ((List.range 81).map fun i => gh (i / 9) (i % 9)).Nodup := by decide +kernel
theorem gh_inj {a b c d : Nat} (ha : a < 9) (hb : b < 9) (hc : c < 9) (hd : d < 9) (h : gh a b = gh c d) : a = c ∧ b = d := by
  have e : ∀ {x y : Nat}, x < 9 → y < 9 → ((List.range 81).map fun i => gh (i / 9) (i % 9))[9 * x + y]? = some (gh x y) := fun {x y} hx hy => by
    have l : 9 * x + y < 81 := by omega
    have e1 : (9 * x + y) / 9 = x := by omega
    have e2 : (9 * x + y) % 9 = y := by omega
    rw [List.getElem?_map, List.getElem?_range l]
    show some (gh ((9 * x + y) / 9) ((9 * x + y) % 9)) = _
    rw [e1, e2]
  have h1 := e ha hb
  have h2 := e hc hd
  rw [h] at h1
  have z : 9 * a + b = 9 * c + d := by
    obtain ⟨l1, g1⟩ := List.getElem?_eq_some_iff.mp h1
    obtain ⟨l2, g2⟩ := List.getElem?_eq_some_iff.mp h2
    exact (List.getElem_inj gh_all).mp (g1.trans g2.symm)
  omega
/-- a pair below nine -/
def Pair9 (k : List Key) : Prop := ∃ a b : Nat, a < 9 ∧ b < 9 ∧ k = kk a b
theorem hash9 {P : Program} {w : World} : ∀ {ks : List (List Key)}, ks.Nodup → (∀ k ∈ ks, Pair9 k) → (ks.map (tupleKind (mixKind P w)).hash).Nodup
  | [], _, _ => List.nodup_nil
  | k :: ks, nd, h => by
    obtain ⟨n1, n2⟩ := List.nodup_cons.mp nd
    refine List.nodup_cons.mpr ⟨fun hm => ?_, hash9 n2 fun x hx => h x (List.mem_cons_of_mem _ hx)⟩
    obtain ⟨j, hj, e⟩ := List.mem_map.mp hm
    obtain ⟨a, b, ha, hb, rfl⟩ := h k (List.mem_cons_self ..)
    obtain ⟨c, d, hc, hd, rfl⟩ := h j (List.mem_cons_of_mem _ hj)
    have e' : gh c d = gh a b := e
    obtain ⟨rfl, rfl⟩ := gh_inj hc hd ha hb e'
    exact n1 hj
section
variable {X : Cx}
def rDictT : List V → Hp → VK → Prop := fun xs H Q => ∃ (d : Addr) (kvs : List (List Key × V)), xs = [V.ref d] ∧ Rd H d (.dT kvs) ∧ (∀ kv ∈ kvs, Pair9 kv.1) ∧ ∀ p, H p = none → Q (.ref p) (upd H p (.dT kvs))
theorem kt_keys {H : Hp} : ∀ {kvs : List (List Key × V)} {xs : List (List Key × Addr × Value)}, KT H kvs xs → kvs.map (·.1) = xs.map (·.1)
  | _, _, .nil => rfl
  | _, _, .cons h t => by
    rw [List.map_cons, List.map_cons, h.1, kt_keys t]
theorem kt_tup {H : Hp} : ∀ {kvs : List (List Key × V)} {xs : List (List Key × Addr × Value)}, KT H kvs xs → ∀ x ∈ xs, ∃ ys, H x.2.1 = some (.tup ys)
  | _, _, .nil, x, hx => nomatch hx
  | _, _, .cons h t, x, hx => by
    rcases List.mem_cons.mp hx with e | hx
    · rw [e]
      exact ⟨_, h.2.1⟩
    · exact kt_tup t x hx
theorem call_dictT (hu : X.A.units + 64 < cLine) : CallR X (.type "dict") rDictT := by
  intro pins s σ H xs us Q I r h
  obtain ⟨d, kvs, rfl, hd, h9, q⟩ := h
  rw [Vals.ref1 r]
  obtain ⟨z, nsys, ts, kt, dd⟩ := dt_rd I.hok hd
  obtain ⟨o, es, ep, h1, h2, h3, h4, h5, h6⟩ := id dd
  have zt : ts.length ≤ sizeLine := by rw [← Paired.length kt]; exact z
  have ne : s.heap.objs.size ≠ d := fun e => absurd (Heap.lt_size h1) (by rw [e]; exact Nat.lt_irrefl _)
  have nw : Heap.DictOfH (tupleKind (mixKind X.prog X.w)) (s.heap.push { cls := .type "dict", data := .dict #[] }) s.heap.objs.size [] :=
    ⟨_, #[], 0, Heap.get?_push_size _ rfl, ⟨rfl, rfl, rfl⟩, rfl, rfl, fun x hx => (nomatch hx), List.nodup_nil⟩
  have dd2 : Heap.DictOfH (tupleKind (mixKind X.prog X.w)) (s.heap.push { cls := .type "dict", data := .dict #[] }) d ts := by
    refine ⟨o, es, ep, Heap.get?_push_of_some _ h1, h2, h3, h4, fun x hx => ?_, h6⟩
    obtain ⟨o', its, n, e1, e2, e3, e4⟩ := h5 x hx
    exact ⟨o', its, n, Heap.get?_push_of_some _ e1, e2, e3, e4⟩
  refine callType_codes (Q₁ := fun obj s₁ => obj = .ref s.heap.objs.size ∧ s₁ = { s with heap := s.heap.push { cls := .type "dict", data := .dict #[] } }) F.kt_called_dict (F.kt_typeCall_dict_1 _) F.entry_dict_init (kt_code_dict_new _ ⟨rfl, rfl⟩) ?_
  rintro _ _ ⟨rfl, rfl⟩
  refine ⟨nw.typeIs, F.args_dict_init_2 _ _, ?_⟩
  unfold Builtin.«dict.__init__»
  refine wpAny_bind ?_
  unfold Builtin.Dict.selfAndRest
  refine wpAny_bind (wpAny_notOrdered_dict nw.typeIs ?_)
  show wpAny _ _ (pure (s.heap.objs.size, [Value.ref d])) _ _ _
  refine wpAny_pure ?_
  show wpAny _ _ (Builtin.Dict.updateFrom "dict.__init__" s.heap.objs.size (.ref d) [] .none) _ _ _
  have hash : (ts.map fun x => (tupleKind (mixKind X.prog X.w)).hash x.1).Nodup := by
    have e := hash9 (P := X.prog) (w := X.w) h6 fun k hk => by
      rw [← kt_keys kt] at hk
      obtain ⟨kv, hkv, rfl⟩ := List.mem_map.mp hk
      exact h9 kv hkv
    rw [List.map_map] at e
    exact e
  have tys : ∀ x ∈ ts, Shared.TypeIs { s with heap := s.heap.push { cls := .type "dict", data := .dict #[] } } (.ref x.2.1) "tuple" := fun x hx => by
    obtain ⟨o', its, n, e1, e2, e3, e4⟩ := h5 x hx
    exact ⟨o', Heap.get?_push_of_some _ e1, e2⟩
  refine updateFrom_dictH (s := { s with heap := s.heap.push { cls := .type "dict", data := .dict #[] } }) .none (show X.A.units + 1 + 1 < cLine by omega) ne nsys nw dd2 (.inr ⟨tys, hash⟩) (by simpa using zt) fun h' hd' _ sb => ?_
  rw [storedAllH_nil_of_nodup ts h6] at hd'
  obtain ⟨o', es', ep', g1, g2, g3, g4, g5, g6⟩ := hd'
  have hp : H s.heap.objs.size = none := I.hok.fresh (Nat.le_refl _)
  refine ⟨rfl, .ref s.heap.objs.size, upd H s.heap.objs.size (.dT kvs), I.laid (t' := s.toks) (fun b u e => ?_) (Nat.le_refl _)
    (show ObjOk X.prog X.w _ _ _ (.dT kvs) from ⟨z, ?_, ts, kt.keeps fun b ys e => ?_, o', es', ep', g1, g2, g3, g4, g6⟩), rfl, q _ hp⟩
  · exact (sb.2 b (Nat.ne_of_lt (Heap.lt_size e))).trans (Heap.get?_push_of_some _ e)
  · exact beq_eq_false_iff_ne.mpr fun e => absurd I.big (by rw [← e]; exact Nat.lt_irrefl _)
  · rw [upd_ne (ne_of_none e hp)]
    exact e
end
end A68
set_option maxRecDepth 100000
set_option maxHeartbeats 4000000
/-! A dict made by two fors, its keys pairs: {(..): e for t0 in i0 for t1 in i1}. -/
namespace A68
open PySem PySem.Spec PyProof.Rows L2
/-- the expression -/
abbrev dc2 (kx vx t0 i0 t1 i1 : Expr) (sc : Scope) (pos : Pos) : Expr := .DictComp kx vx [⟨t0, i0, [], 0⟩, ⟨t1, i1, [], 0⟩] sc pos
theorem dc2_turn0 (kx vx t0 i0 t1 i1 : Expr) (sc : Scope) (pos : Pos) (it : Value) (D : Addr) (env : Env) :
    compTurn (dc2 kx vx t0 i0 t1 i1 sc pos) 0 it (.ref D) env =
      (do
        standAt i0.pos
        match ← pyNext it with
        | none => pure (.done .next)
        | some v =>
          letOwnedTupleGo t0 it v
          assign t0 env v
          let x ← eval i1 env
          standAt i1.pos
          let x ← foldedSetIterable i1 env x
          let _ ← runOwn (.compStart (dc2 kx vx t0 i0 t1 i1 sc pos) 1 (← holding [x] (pyIter x)) (.ref D) env) env
          again (.compLoop (dc2 kx vx t0 i0 t1 i1 sc pos) 0 it (.ref D) env)) := by rfl
theorem dc2_turn1 (kx vx t0 i0 t1 i1 : Expr) (sc : Scope) (pos : Pos) (it : Value) (D : Addr) (env : Env) :
    compTurn (dc2 kx vx t0 i0 t1 i1 sc pos) 1 it (.ref D) env =
      (do
        standAt i1.pos
        match ← pyNext it with
        | none => pure (.done .next)
        | some v =>
          letOwnedTupleGo t1 it v
          assign t1 env v
          (do
            let kv ← eval kx env
            let vv ← holding [kv] (eval vx env)
            standAt { kx.pos with endLine := vx.pos.endLine, endCol := vx.pos.endCol }
            holding [kv, vv] (dictSet D kv vv))
          again (.compLoop (dc2 kx vx t0 i0 t1 i1 sc pos) 1 it (.ref D) env)) := by rfl
section
variable {P : Program} {w : World} {A : Around} {R : Result → Shared → Prop} {s : Shared} {kx vx t0 i0 t1 i1 : Expr} {sc : Scope} {pos : Pos} {it : Value} {D : Addr} {env : Env}
/-- the outer loop, nothing raised -/
theorem dc2_loop0 (fs : ∀ x, foldedSetIterable i1 env x = pure x) (J : Nat → Shared → Prop)
    (turn : ∀ n s, J n s → wpAny (model P w) A (pyNext it) (fun r s1 => match r with
      | none => R (.ok .next) s1
      | some v => wpAny (model P w) A (letOwnedTupleGo t0 it v) (fun _ s2 => wpAny (model P w) A (assign t0 env v) (fun _ s3 =>
          wpAny (model P w) A (eval i1 env) (fun x s4 => wpAny (model P w) A (pyIter x) (fun jt s5 =>
            codeAny (model P w) A (.compStart (dc2 kx vx t0 i0 t1 i1 sc pos) 1 jt (.ref D) env) (fun r s' => match r with
              | .ok _ => ∃ m, m < n ∧ J m s'
              | .error _ => False) s5) (fun _ _ => False) s4) (fun _ _ => False) s3) (fun _ _ => False) s2) (fun _ _ => False) s1) (fun _ _ => False) s)
    (n : Nat) (h : J n s) : codeAny (model P w) A (.compLoop (dc2 kx vx t0 i0 t1 i1 sc pos) 0 it (.ref D) env) R s := by
  refine codeAny_loop rfl J (fun n s hJ => ?_) n h
  show wpAny _ A ((compTurn (dc2 kx vx t0 i0 t1 i1 sc pos) 0 it (.ref D) env).onRaise (fun x => do noteFrame x env; theTreesLotGoes x)) _ _ s
  refine wpAny_noted ?_
  rw [dc2_turn0]
  refine wpAny_bind (wpAny_standAt (wpAny_bind (thnF (turn n s hJ) fun r s1 h1 => ?_)))
  match r, h1 with
  | none, h1 => exact wpAny_pure h1
  | some v, h1 =>
    refine wpAny_bind (thnF h1 fun _ s2 h2 => wpAny_bind (thnF h2 fun _ s3 h3 => wpAny_bind (thnF h3 fun x s4 h4 => ?_)))
    refine wpAny_bind (wpAny_standAt (wpAny_bind (wpAny_of_eq (fs x) (wpAny_bind (wpAny_holding (thnF h4 fun jt s5 h5 => ?_))))))
    refine wpAny_bind (wpAny_runOwn ?_)
    rw [Around.mark_none]
    refine codeAny_mono h5 fun r s' hr => ?_
    match r, hr with
    | .ok f, hr => first | exact wpAny_pure ⟨rfl, hr⟩ | exact wpAny_bind (wpAny_pure (wpAny_pure ⟨rfl, hr⟩))
    | .error e, hr => exact hr.elim
/-- the inner loop -/
theorem dc2_loop1 (J : Nat → Shared → Prop)
    (turn : ∀ n s, J n s → wpAny (model P w) A (pyNext it) (fun r s1 => match r with
      | none => R (.ok .next) s1
      | some v => wpAny (model P w) A (letOwnedTupleGo t1 it v) (fun _ s2 => wpAny (model P w) A (assign t1 env v) (fun _ s3 =>
          wpAny (model P w) A (eval kx env) (fun kv s4 => wpAny (model P w) A (eval vx env) (fun vv s5 =>
            wpAny (model P w) A (dictSet D kv vv) (fun _ s6 => ∃ m, m < n ∧ J m s6) (fun _ _ => False) s5) (fun _ _ => False) s4) (fun _ _ => False) s3) (fun _ _ => False) s2) (fun _ _ => False) s1) (fun _ _ => False) s)
    (n : Nat) (h : J n s) : codeAny (model P w) A (.compLoop (dc2 kx vx t0 i0 t1 i1 sc pos) 1 it (.ref D) env) R s := by
  refine codeAny_loop rfl J (fun n s hJ => ?_) n h
  show wpAny _ A ((compTurn (dc2 kx vx t0 i0 t1 i1 sc pos) 1 it (.ref D) env).onRaise (fun x => do noteFrame x env; theTreesLotGoes x)) _ _ s
  refine wpAny_noted ?_
  rw [dc2_turn1]
  refine wpAny_bind (wpAny_standAt (wpAny_bind (thnF (turn n s hJ) fun r s1 h1 => ?_)))
  match r, h1 with
  | none, h1 => exact wpAny_pure h1
  | some v, h1 =>
    refine wpAny_bind (thnF h1 fun _ s2 h2 => wpAny_bind (thnF h2 fun _ s3 h3 => ?_))
    exact wpAny_bind (wpAny_bind (thnF h3 fun kv s4 h4 => wpAny_bind (wpAny_holding (thnF h4 fun vv s5 h5 => wpAny_bind (wpAny_standAt (wpAny_holding (thnF h5 fun _ s6 h6 => wpAny_pure ⟨rfl, h6⟩)))))))
/-- the inner loop's start -/
theorem dc2_start1 (h0 : codeAny (model P w) A (.compLoop (dc2 kx vx t0 i0 t1 i1 sc pos) 1 it (.ref D) env) R s)
    (h : wpAny (model P w) A (pyIter it) (fun jt s' => codeAny (model P w) A (.compLoop (dc2 kx vx t0 i0 t1 i1 sc pos) 1 jt (.ref D) env) R s') (notedBy (model P w) A env fun x s' => R (.error x) s') s) :
    codeAny (model P w) A (.compStart (dc2 kx vx t0 i0 t1 i1 sc pos) 1 it (.ref D) env) R s := by
  refine codeAny_of_tree ?_
  show wpAny _ _ ((compStart (dc2 kx vx t0 i0 t1 i1 sc pos) 1 it (.ref D) env).onRaise (fun x => do noteFrame x env; standAt theWindowsPlace)) _ _ s
  refine wpAny_notedAt ?_
  unfold compStart
  show wpAny _ _ (ask >>= _) _ _ s
  refine wpAny_bind (wpAny_askSetting (wpAny_ite ?_))
  split
  · first
      | exact wpAny_bind (wpAny_pure (wpAny_pure ⟨rfl, h0⟩))
      | exact wpAny_pure ⟨rfl, h0⟩
  · first
      | exact wpAny_bind (wpAny_rule (wpAny_bind (wpAny_standAt (wpAny_bind (wpAny_mono h (fun jt s' z => wpAny_pure ⟨rfl, z⟩) fun _ _ x => x)))))
      | (refine wpAny_bind (wpAny_rule ?_); show wpAny _ _ (standAt i1.pos >>= _) _ _ s; exact wpAny_bind (wpAny_standAt (wpAny_bind (wpAny_mono h (fun jt s' z => wpAny_pure ⟨rfl, z⟩) fun _ _ x => x))))
end
/-- D[(..)] = v, D a dict of tuple keys -/
theorem dictSetT {X : Cx} {pins : List (Addr × Obj)} {σ : St} {H : Hp} {s : Shared} {E : Value → Shared → Prop} {D b : Addr} {kvs : List (List Key × V)} {k : List Key} {v : V} {r : Value} {Q : Unit → Shared → Prop}
    (hu : X.A.units + 1 < cLine) (I : Inv X pins σ H s) (hD : H D = some (.dT kvs)) (hb : H b = some (.tup (k.map kV))) (hz : kvs.length < sizeLine) (rv : RelV v r)
    (q : ∀ s', Inv X pins σ (upd H D (.dT (putK kvs k v))) s' → Q () s') : wpAny (model X.prog X.w) X.A (dictSet D (.ref b) r) Q E s := by
  obtain ⟨z, ns, xs, kt, dd⟩ := dt_of I.hok hD
  have z1 : (putK kvs k v).length ≤ sizeLine := by
    have := length_putK kvs k v
    omega
  refine wpAny_dictSet_heap (hsz := by rw [← Paired.length kt]; exact z) (show X.A.units < cLine by omega) (key_of I.hok hb) dd fun h' dd' sb => q _ ?_
  obtain ⟨o', es, ep, g1, g2, g3, g4, _, g5⟩ := dd'
  refine d_write I (by rw [hD]; exact True.intro) sb ⟨o', g1⟩ ⟨z1, ns, _, (kt.put k hb rv).keeps fun c ys ec => ?_, o', es, ep, g1, g2, g3, g4, g5⟩
  rw [upd_ne (ne_of ec hD fun z => (nomatch z))]
  exact ec
/-- what is asked of it: the outer walk's turns, each with the inner walk's turns -/
def tDc2 (wi : TI) (g : TG) (wi1 : TI) (g1 : TG) (tk tv : TE) (vs vs1 : List Nat) : TE := fun σ H Q => wi σ H fun J H1 => ∀ D, H1 D = none →
  ∃ W : Nat → Nat → Hp → Prop, (∃ m, W 0 m (upd H1 D (.dT []))) ∧ ∀ i m H, W i m H →
    (J.stop i H ∧ Q (.ref D) H) ∨ (J.go i H ∧ ∃ Nx : Hp → Prop, (∀ H', Nx H' → ∃ m', m' < m ∧ W (i + 1) m' H') ∧ ∀ x H', J.yld i H x H' → g x (wipe σ vs) H' fun σ2 H2 => wipe σ2 vs = wipe σ vs ∧
      wi1 σ2 H2 fun J1 H3 => ∃ W1 : Nat → Nat → Hp → Prop, (∃ m, W1 0 m H3) ∧ ∀ j k H, W1 j k H →
        (J1.stop j H ∧ Nx H) ∨ (J1.go j H ∧ ∃ Nx1 : Hp → Prop, (∀ H', Nx1 H' → ∃ k', k' < k ∧ W1 (j + 1) k' H') ∧ ∀ x H', J1.yld j H x H' → g1 x (wipe σ2 vs1) H' fun σ3 H4 => wipe σ3 vs1 = wipe σ2 vs1 ∧
          tk σ3 H4 fun y H5 => tv σ3 H5 fun z H6 => ∃ (kvs : List (List Key × V)) (k : List Key) (b : Addr), y = .ref b ∧ H6 b = some (.tup (k.map kV)) ∧ H6 D = some (.dT kvs) ∧ kvs.length < sizeLine ∧ Nx1 (upd H6 D (.dT (putK kvs k z)))))
section
variable {X : Cx}
/-- the records at fp are as they were at s7, behind what ran since -/
theorem pinsBack {Y : Cx} {ps : List (Addr × Obj)} {fp : List Addr} {h7 : Heap} {σ : St} {H : Hp} {s : Shared} (I : Inv Y (ps ++ pinsAt fp h7) σ H s) : ∀ b ∈ fp, ∀ o, h7.get? b = some o → s.heap.get? b = some o ∧ H b = none := fun b hb o e =>
  have z := I.pin (b, o) (List.mem_append_right _ (List.mem_append_right _ (mem_pinsAt hb e)))
  ⟨z.1, z.2.1⟩
abbrev InBlk (X : Cx) (sc : Scope) {α : Type} (judge : Cx → α → Prop) (a : α) : Prop := ∀ (s : Shared) (H : Hp) (C : Addr) (cl : List (Str × Addr)) (fp : List Addr), judge (X.blk s H sc (compEnvC sc cl C X.env) fp) a
theorem dc2_core {pins : List (Addr × Obj)} {s : Shared} {σ : St} {H : Hp} {Q : VK} {use : Option (Value → Sem Unit)} {Qf : Value → Shared → Prop} {pos' : Pos} {kx vx t0 i0 t1 i1 : Expr} {sc : Scope} {own : List (Str × Nat)} {vs1 : List Nat} {pos : Pos} {wi wi1 : TI} {g g1 : TG} {tk tv : TE}
    (cal : X.calm = true) (nd : X.N.Nodup) (hu : X.A.units + 1 < cLine) (w0 : PI X t0 i0 wi) (bk : BlkOk X.N X.env.scope sc own) (sub : ∀ i ∈ vs1, i ∈ own.map (·.2))
    (p0 : ∀ (s : Shared) (H : Hp) (C : Addr) (cl : List (Str × Addr)) (fp : List Addr), PG (X.blk s H sc (compEnvC sc cl C X.env) fp) t0 g)
    (w1 : ∀ (s : Shared) (H : Hp) (C : Addr) (cl : List (Str × Addr)) (fp : List Addr), PI (X.blk s H sc (compEnvC sc cl C X.env) fp) t1 i1 wi1)
    (p1 : ∀ (s : Shared) (H : Hp) (C : Addr) (cl : List (Str × Addr)) (fp : List Addr), PG (X.blk s H sc (compEnvC sc cl C X.env) fp) t1 g1)
    (pk : ∀ (s : Shared) (H : Hp) (C : Addr) (cl : List (Str × Addr)) (fp : List Addr), PE (X.blk s H sc (compEnvC sc cl C X.env) fp) kx tk)
    (pv_ : ∀ (s : Shared) (H : Hp) (C : Addr) (cl : List (Str × Addr)) (fp : List Addr), PE (X.blk s H sc (compEnvC sc cl C X.env) fp) vx tv)
    (fs0 : ∀ x, foldedSetIterable i0 X.env x = pure x) (fs1 : ∀ env x, foldedSetIterable i1 env x = pure x)
    (I : Inv X pins σ H s) (h : tDc2 wi g wi1 g1 tk tv (own.map (·.2)) vs1 σ H Q)
    (hRR : ∀ D C s' m H', Inv X pins σ H' s' → Q (.ref D) H' → s'.heap.Ns C m → FpOk X pins H' C → compPost (model X.prog X.w) X.A X.xe use Qf (.ref D) C (.ok .next) s') :
    wpAny (model X.prog X.w) X.A (comprehension (dc2 kx vx t0 i0 t1 i1 sc pos) sc X.env pos' newDict false (eval i0 X.env) use) Qf X.xe s := by
  have fre : ∀ y ∈ sc.names, y.2 = .free → ∃ c, X.env.cells.lookup y.1 = some c := fun y hy e => I.ok.has _ ((bk.free y hy e).elim Or.inl Or.inr)
  refine wpAny_comprehension_free (use := use) rfl fs0 (closure_ok fre) bk.kind (fun y hy e => by rw [bk.uniq y hy, e]) (thn (w0.run pins s σ H _ I h) fun xv sA hA => thn hA fun itv s2 h2 => ?_)
  obtain ⟨it, fp, tn, J, H2, rfl, I2, T, st2, f2, q⟩ := h2
  refine wpAny_newObj_type (newEnv_comp ?_)
  generalize eD : s2.heap.objs.size = D
  have nD : H2 D = none := I2.hok.fresh (Nat.le_of_eq eD)
  obtain ⟨W, ⟨m0, wS⟩, turn⟩ := q D nD
  generalize e3 : ({ s2 with heap := s2.heap.push { cls := .type "dict", data := .dict #[] } } : Shared) = s3
  have h3 : s3.heap = s2.heap.push { cls := .type "dict", data := .dict #[] } := by rw [← e3]
  have I3 : Inv X pins σ (upd H2 D (.dT [])) s3 := by
    rw [← e3, ← eD]
    exact I2.laid (t' := s2.toks) (fun b o e => Heap.get?_push_of_some _ e) (Nat.le_refl _) (dt_empty s2.heap I2.big)
  have lt2 : ∀ b ∈ fp, b < s2.heap.objs.size := fun b hb => Heap.lt_size (T.obj _ _ st2 b hb).choose_spec.1
  have f3 : ∀ b ∈ fp, FpOk X pins (upd H2 D (.dT [])) b ∧ b < s3.heap.objs.size := fun b hb => by
    have lb := lt2 b hb
    have nb : b ≠ D := by rw [← eD]; exact Nat.ne_of_lt lb
    exact ⟨⟨(upd_ne nb).trans (f2 b hb).1, (f2 b hb).2⟩, by rw [h3, Heap.size_push]; exact Nat.lt_succ_of_lt lb⟩
  have st3 : tn 0 s3.heap := T.keep _ _ _ st2 fun b _ o e => by rw [h3]; exact Heap.get?_push_of_some _ e
  have I4 := block_start I3 bk nd f3
  show codeAny _ _ (.compStart (dc2 kx vx t0 i0 t1 i1 sc pos) 0 (.ref it) (.ref D) (compEnvC sc (cellsFrom (s3.heap.objs.size + 1) sc.names (cloFrom X.env.cells sc.names [])) s3.heap.objs.size X.env)) (compPost (model X.prog X.w) X.A X.xe use Qf (.ref D) s3.heap.objs.size) { s3 with heap := pushCells (s3.heap.push { cls := .type "dict", data := .dict #[] }) sc.names }
  have P0 := p0 s3 (upd H2 D (.dT [])) s3.heap.objs.size (cellsFrom (s3.heap.objs.size + 1) sc.names (cloFrom X.env.cells sc.names [])) fp
  have W1 := w1 s3 (upd H2 D (.dT [])) s3.heap.objs.size (cellsFrom (s3.heap.objs.size + 1) sc.names (cloFrom X.env.cells sc.names [])) fp
  have P1 := p1 s3 (upd H2 D (.dT [])) s3.heap.objs.size (cellsFrom (s3.heap.objs.size + 1) sc.names (cloFrom X.env.cells sc.names [])) fp
  have PK := pk s3 (upd H2 D (.dT [])) s3.heap.objs.size (cellsFrom (s3.heap.objs.size + 1) sc.names (cloFrom X.env.cells sc.names [])) fp
  have PV := pv_ s3 (upd H2 D (.dT [])) s3.heap.objs.size (cellsFrom (s3.heap.objs.size + 1) sc.names (cloFrom X.env.cells sc.names [])) fp
  have nfp : ∀ b ∈ fp, (upd H2 D (.dT [])) b = none := fun b hb => (f3 b hb).1.1
  generalize ee : compEnvC sc (cellsFrom (s3.heap.objs.size + 1) sc.names (cloFrom X.env.cells sc.names [])) s3.heap.objs.size X.env = ce at I4 P0 W1 P1 PK PV ⊢
  have cL : ce.locals = s3.heap.objs.size := by rw [← ee]; rfl
  generalize eH : upd H2 D (.dT []) = H3 at I3 I4 P0 W1 P1 PK PV wS nfp f3
  generalize e4 : ({ s3 with heap := pushCells (s3.heap.push { cls := .type "dict", data := .dict #[] }) sc.names } : Shared) = s4 at I4 ⊢
  have st4 : tn 0 s4.heap := T.keep _ _ _ st3 fun b _ o e => by rw [← e4]; exact pushCells_keeps _ _ _ _ (Heap.get?_push_of_some _ e)
  have stat : ∀ {σ' : St} {H' : Hp} {s' : Shared}, Inv (X.blk s3 H3 sc ce fp) [] σ' H' s' → (∀ b ∈ fp, H' b = none) → ∀ b ∈ fp, FpOk (X.blk s3 H3 sc ce fp) [] H' b := fun {σ' H' s'} I' hn b hb =>
    ⟨hn b hb, (I'.ok.exf b hb).1, I'.ok.exfs b hb, Or.inl hb, (fun x c e => (I'.ok.exf b hb).2 x c e), fun p hp => absurd (show p ∈ ([] : List (Addr × Obj)) ++ [] from hp) (by simp)⟩
  -- the outer walk's word
  let Wd : Nat → Shared → Prop := fun n s' => ∃ i H', Inv (X.blk s3 H3 sc ce fp) [] (wipe σ (own.map (·.2))) H' s' ∧ tn i s'.heap ∧ (∀ b ∈ fp, H' b = none) ∧ W i n H'
  refine codeAny_compStart_dict ?l (T.self X.A 0 _ _ _ st4 ?l)
  refine dc2_loop0 (fs1 ce) Wd ?_ m0 ⟨0, H3, I4, st4, nfp, wS⟩
  rintro n s5 ⟨i, H5, I5, st5, n5, w5⟩
  rcases turn i n H5 w5 with ⟨stop, fin⟩ | ⟨go, Nx, hNx, step⟩
  · refine thnF (T.done (X.blk s3 H3 sc ce fp) rfl rfl rfl cal i [] s5 _ H5 (fun _ _ => False) I5 (stat I5 n5) st5 stop) fun r s6 ⟨er, I6⟩ => ?_
    rw [er]
    have I7 : Inv X pins σ H5 s6 := I3.call' (ch := fp) I6.os I6.base I6.hok I6.bare fun b hb => ⟨(f3 b hb).1.2.2.2.1, (f3 b hb).1.2.1, (f3 b hb).1.2.2.2.2.1, (f3 b hb).1.2.2.2.2.2⟩
    have nC : H5 s3.heap.objs.size = none := by
      have z : H5 ce.locals = none := I6.free
      rwa [cL] at z
    obtain ⟨m, hn, _⟩ := I6.loc
    have hn : s6.heap.Ns ce.locals m := hn
    rw [cL] at hn
    exact hRR D s3.heap.objs.size s6 m H5 I7 fin hn (I3.fpOk (Nat.le_refl _) nC)
  · refine thnF (T.item (X.blk s3 H3 sc ce fp) rfl rfl rfl cal i [] s5 _ H5 (fun _ _ => False) I5 (stat I5 n5) st5 go) fun r s6 ⟨u, er, h6⟩ => ?_
    rw [er]
    refine thnF h6 fun _ s7 ⟨x, H7, I7, r7, y7, st7, n7⟩ => ?_
    have I7' := I7.pinned (stat I7 n7) (T.obj _ _ st7)
    refine thnF (P0.run _ s7 _ H7 x u _ I7' r7 (step x H7 y7)) fun _ s8 ⟨σ8, H8, I8, hw, q8⟩ => ?_
    refine thnF (W1.run _ s8 σ8 H8 _ I8 q8) fun xv s9 h9 => thnF h9 fun jtv s10 h10 => ?_
    obtain ⟨jt, fp1, tn1, J1, H10, rfl, I10, T1, st10, f10, V, ⟨m1, v0⟩, turn1⟩ := h10
    have back : ∀ {σ9 : St} {s' : Shared} {H' : Hp}, Inv (X.blk s3 H3 sc ce fp) ([] ++ pinsAt fp s7.heap) σ9 H' s' → (wipe σ (own.map (·.2))).length = σ9.length →
        (∀ (j : Nat) v, (wipe σ (own.map (·.2)))[j]? = some (some v) → σ9[j]? = some (some v)) → Nx H' → ∃ m, m < n ∧ Wd m s' := fun {σ9 s' H'} I' hl hk nx => by
      obtain ⟨m', hm, w'⟩ := hNx H' nx
      refine ⟨m', hm, i + 1, H', (I'.unpinned (pins := [])).weak hl hk, T.keep _ _ _ st7 fun b hb o e => (pinsBack I' b hb o e).1, fun b hb => ?_, w'⟩
      obtain ⟨o, e, _⟩ := T.obj _ _ st7 b hb
      exact (pinsBack I' b hb o e).2
    have hl8 : (wipe σ (own.map (·.2))).length = (wipe σ8 vs1).length := by rw [← hw, wipe_length, wipe_length]
    have hk8 : ∀ (j : Nat) v, (wipe σ (own.map (·.2)))[j]? = some (some v) → (wipe σ8 vs1)[j]? = some (some v) := fun j v e => by
      rw [← hw] at e
      obtain ⟨e1, e2⟩ := wipe_some e
      rw [wipe_out fun z => e2 (sub j z)]
      exact e1
    have stat1 : ∀ {H' : Hp}, (∀ b ∈ fp1, H' b = none) → ∀ b ∈ fp1, FpOk (X.blk s3 H3 sc ce fp) ([] ++ pinsAt fp s7.heap) H' b := fun hn b hb => ⟨hn b hb, (f10 b hb).2⟩
    have inner : codeAny (model X.prog X.w) X.A (.compLoop (dc2 kx vx t0 i0 t1 i1 sc pos) 1 (.ref jt) (.ref D) ce) (fun r s' => match r with
        | .ok _ => ∃ m, m < n ∧ Wd m s'
        | .error _ => False) s10 := by
      refine dc2_loop1 (fun k s' => ∃ j H', Inv (X.blk s3 H3 sc ce fp) ([] ++ pinsAt fp s7.heap) (wipe σ8 vs1) H' s' ∧ tn1 j s'.heap ∧ (∀ b ∈ fp1, H' b = none) ∧ V j k H') ?_ m1
        ⟨0, H10, I10.weak (wipe_length _ _) (fun j v e => (wipe_some e).1), st10, fun b hb => (f10 b hb).1, v0⟩
      rintro k s12 ⟨j, H12, I12, st12, n12, v12⟩
      rcases turn1 j k H12 v12 with ⟨stop1, nx⟩ | ⟨go1, Ny, hNy, step1⟩
      · refine thnF (T1.done (X.blk s3 H3 sc ce fp) rfl rfl rfl cal j _ s12 (wipe σ8 vs1) H12 (fun _ _ => False) I12 (stat1 n12) st12 stop1) fun r s13 ⟨er, I13⟩ => ?_
        rw [er]
        exact back I13 hl8 hk8 nx
      · refine thnF (T1.item (X.blk s3 H3 sc ce fp) rfl rfl rfl cal j _ s12 (wipe σ8 vs1) H12 (fun _ _ => False) I12 (stat1 n12) st12 go1) fun r s13 ⟨u1, er, h13⟩ => ?_
        rw [er]
        refine thnF h13 fun _ s14 ⟨y, H14, I14, r14, y14, st14, n14⟩ => ?_
        have I14' := I14.pinned (stat1 n14) (T1.obj _ _ st14)
        refine thnF (P1.run _ s14 (wipe σ8 vs1) H14 y u1 _ I14' r14 (step1 y H14 y14)) fun _ s15 ⟨σ15, H15, I15, hw1, q15⟩ => ?_
        refine thnF (PK.run _ s15 σ15 H15 _ I15 q15) fun kv s16 ⟨yk, H16, I16, r16, q16⟩ => ?_
        refine thnF (PV.run _ s16 σ15 H16 _ I16 q16) fun vv s17 ⟨yv, H17, I17, r17, kvs, ks, b, ek, hb, hD, hz, ny⟩ => ?_
        rw [ek] at r16
        cases (show kv = Value.ref b from r16)
        refine dictSetT (X := X.blk s3 H3 sc ce fp) hu I17 hD hb hz r17 fun s18 I18 => ?_
        obtain ⟨m', hm, v'⟩ := hNy _ ny
        refine ⟨m', hm, j + 1, _, I18.unpinned.weak (by rw [← hw1, wipe_length]) (fun j' v e => by rw [← hw1] at e; exact (wipe_some e).1), T1.keep _ _ _ st14 fun c hc o e => (pinsBack I18 c hc o e).1, fun c hc => ?_, v'⟩
        obtain ⟨o, e, _⟩ := T1.obj _ _ st14 c hc
        exact (pinsBack I18 c hc o e).2
    exact dc2_start1 inner (T1.self X.A 0 _ _ _ st10 inner)
theorem pe_dc2 {kx vx t0 i0 t1 i1 : Expr} {sc : Scope} {own : List (Str × Nat)} {vs1 : List Nat} {pos : Pos} {wi wi1 : TI} {g g1 : TG} {tk tv : TE}
    (cal : X.calm = true) (nd : X.N.Nodup) (hu : X.A.units + 1 < cLine) (w0 : PI X t0 i0 wi) (bk : BlkOk X.N X.env.scope sc own) (sub : ∀ i ∈ vs1, i ∈ own.map (·.2))
    (p0 : ∀ (s : Shared) (H : Hp) (C : Addr) (cl : List (Str × Addr)) (fp : List Addr), PG (X.blk s H sc (compEnvC sc cl C X.env) fp) t0 g)
    (w1 : ∀ (s : Shared) (H : Hp) (C : Addr) (cl : List (Str × Addr)) (fp : List Addr), PI (X.blk s H sc (compEnvC sc cl C X.env) fp) t1 i1 wi1)
    (p1 : ∀ (s : Shared) (H : Hp) (C : Addr) (cl : List (Str × Addr)) (fp : List Addr), PG (X.blk s H sc (compEnvC sc cl C X.env) fp) t1 g1)
    (pk : ∀ (s : Shared) (H : Hp) (C : Addr) (cl : List (Str × Addr)) (fp : List Addr), PE (X.blk s H sc (compEnvC sc cl C X.env) fp) kx tk)
    (pv_ : ∀ (s : Shared) (H : Hp) (C : Addr) (cl : List (Str × Addr)) (fp : List Addr), PE (X.blk s H sc (compEnvC sc cl C X.env) fp) vx tv)
    (fs0 : ∀ x, foldedSetIterable i0 X.env x = pure x := by intro _; rfl) (fs1 : ∀ env x, foldedSetIterable i1 env x = pure x := by intro _ _; rfl) :
    PE X (dc2 kx vx t0 i0 t1 i1 sc pos) (tDc2 wi g wi1 g1 tk tv (own.map (·.2)) vs1) := by
  refine ⟨fun pins s σ H Q I h => ?_⟩
  rw [arm_eval_DictComp]
  refine dc2_core cal nd hu w0 bk sub p0 w1 p1 pk pv_ fs0 fs1 I h fun D C s' m H' I' q hn f => ⟨m, hn, fun h'' sb => ?_⟩
  obtain ⟨f0, f1, f2, f3, f4, f5⟩ := f
  exact ⟨.ref D, H', I'.turned (t' := s'.toks) (fun b o hb e => (sb.2 b hb).trans e) f0 f1 f3 f4 f5, rfl, q⟩
/-- what stores the new dict in the comprehension's own frame -/
theorem storeIn {i : Nat} {y : Str} {py : Pos} {pins : List (Addr × Obj)} {σ : St} {H' : Hp} {D : Ends} {L C : Addr} {m : Str → Option Value} {s' : Shared} (nd : X.N.Nodup) (hy : X.N[i]? = some y) (hyl : X.env.scope.names.lookup y = some .local)
    (I' : Inv X pins σ H' s') (q : gName i (.ref L) σ H' D.nx) (hn : s'.heap.Ns C m) (f : FpOk X pins H' C) : compPost (model X.prog X.w) X.A X.xe (some (assign (.Name y py) X.env)) (fun _ s' => SP X pins D .next s') (.ref L) C (.ok .next) s' := by
  show wpAny _ _ (assign (.Name y py) X.env (.ref L)) _ _ _
  refine wpAny_assign_Name (store_ok2 (v := V.ref L) I' nd hy (.inl hyl) rfl (fun s2 I2 ⟨a, sb, ha⟩ => ?_) (.inr hyl))
  obtain ⟨f0, f1, f2, f3, f4, f5⟩ := f
  have haC : C ≠ a := by
    rcases ha with z | z
    · rw [z]; exact f1
    · exact fun e => f4 y a z e.symm
  refine ⟨m, hn.sameBut sb haC, fun h3 sb3 => ?_⟩
  exact ⟨_, H', I2.turned (t' := s2.toks) (fun b o hb e => (sb3.2 b hb).trans e) f0 f1 f3 f4 f5, q⟩
theorem ps_setDc2 {i : Nat} {y : Str} {py spos : Pos} {kx vx t0 i0 t1 i1 : Expr} {sc : Scope} {own : List (Str × Nat)} {vs1 : List Nat} {pos : Pos} {wi wi1 : TI} {g g1 : TG} {tk tv : TE}
    (hy : X.N[i]? = some y) (hyl : X.env.scope.names.lookup y = some .local) (hsw : swapsWith (dc2 kx vx t0 i0 t1 i1 sc pos) (some (.Name y py)) spos.line X.env = pure true) (cal : X.calm = true) (nd : X.N.Nodup) (hu : X.A.units + 1 < cLine) (w0 : PI X t0 i0 wi) (bk : BlkOk X.N X.env.scope sc own) (sub : ∀ i ∈ vs1, i ∈ own.map (·.2))
    (p0 : ∀ (s : Shared) (H : Hp) (C : Addr) (cl : List (Str × Addr)) (fp : List Addr), PG (X.blk s H sc (compEnvC sc cl C X.env) fp) t0 g)
    (w1 : ∀ (s : Shared) (H : Hp) (C : Addr) (cl : List (Str × Addr)) (fp : List Addr), PI (X.blk s H sc (compEnvC sc cl C X.env) fp) t1 i1 wi1)
    (p1 : ∀ (s : Shared) (H : Hp) (C : Addr) (cl : List (Str × Addr)) (fp : List Addr), PG (X.blk s H sc (compEnvC sc cl C X.env) fp) t1 g1)
    (pk : ∀ (s : Shared) (H : Hp) (C : Addr) (cl : List (Str × Addr)) (fp : List Addr), PE (X.blk s H sc (compEnvC sc cl C X.env) fp) kx tk)
    (pv_ : ∀ (s : Shared) (H : Hp) (C : Addr) (cl : List (Str × Addr)) (fp : List Addr), PE (X.blk s H sc (compEnvC sc cl C X.env) fp) vx tv)
    (fs0 : ∀ x, foldedSetIterable i0 X.env x = pure x := by intro _; rfl) (fs1 : ∀ env x, foldedSetIterable i1 env x = pure x := by intro _ _; rfl) :
    PS X (.Assign [.Name y py] (dc2 kx vx t0 i0 t1 i1 sc pos) spos) (tAsg (tDc2 wi g wi1 g1 tk tv (own.map (·.2)) vs1) (gName i)) := by
  refine ⟨fun pins s σ H D I h => ?_⟩
  rw [exec_Assign_Name_used _ _ _ _ hsw]
  refine wpAny_bind (wpAny_standAt (wpAny_bind ?_))
  show wpAny _ X.A (do let _ ← comprehension (dc2 kx vx t0 i0 t1 i1 sc pos) sc X.env (firstIterPos [⟨t0, i0, [], 0⟩, ⟨t1, i1, [], 0⟩] pos) newDict false (eval i0 X.env) (some (assign (.Name y py) X.env))) _ _ s
  have h : tDc2 wi g wi1 g1 tk tv (own.map (·.2)) vs1 σ H (fun x H1 => gName i x σ H1 D.nx) := h
  exact wpAny_bind (thn (dc2_core (Qf := fun _ s' => SP X pins D .next s') cal nd hu w0 bk sub p0 w1 p1 pk pv_ fs0 fs1 I h fun L C s' m H' I' q hn f => storeIn nd hy hyl I' q hn f) fun _ s' hq => wpAny_pure (wpAny_pure hq))
theorem sw_trueD {kx vx : Expr} {gs : List Comprehension} {scope : Scope} {pos py : Pos} {y : Str} {l : Nat} {env : Env} (hk : env.scope.kind = .function) (hy : env.scope.names.lookup y = some .local) (hl : (py.line == pos.line) = true)
    (ha : (scope.names.any fun (n, k) => n == y && (k == .local || k == .cell)) = false) : swapsWith (.DictComp kx vx gs scope pos) (some (.Name y py)) l env = pure true := by
  have ky : env.kindOf y = some .local := hy
  have hb : env.blockKind = .function := by unfold Env.blockKind; rw [hk]; rfl
  unfold swapsWith
  simp only [hb, ky, ha, Expr.pos, hl]
  rfl
/-- the same with one for -/
theorem ps_setDc {i : Nat} {y : Str} {py spos : Pos} {kx vx tg iter : Expr} {ifs : List Expr} {scope : Scope} {own : List (Str × Nat)} {pos : Pos} {wi : TI} {g : TG} {tt : TT} {tk tv : TE} (hy : X.N[i]? = some y) (hyl : X.env.scope.names.lookup y = some .local)
    (hsw : swapsWith (.DictComp kx vx [⟨tg, iter, ifs, 0⟩] scope pos) (some (.Name y py)) spos.line X.env = pure true) (hc : X.calm = true) (hN : X.N.Nodup) (hi : PI X tg iter wi) (ok : BlkOk X.N X.env.scope scope own)
    (hg : ∀ (s : Shared) (H : Hp) (C : Addr) (cl : List (Str × Addr)) (fp : List Addr), PG (X.blk s H scope (compEnvC scope cl C X.env) fp) tg g) (ht : ∀ (s : Shared) (H : Hp) (C : Addr) (cl : List (Str × Addr)) (fp : List Addr), PTs (X.blk s H scope (compEnvC scope cl C X.env) fp) ifs tt)
    (hk : ∀ (s : Shared) (H : Hp) (C : Addr) (cl : List (Str × Addr)) (fp : List Addr), PE (X.blk s H scope (compEnvC scope cl C X.env) fp) kx tk)
    (he : ∀ (s : Shared) (H : Hp) (C : Addr) (cl : List (Str × Addr)) (fp : List Addr), PE (X.blk s H scope (compEnvC scope cl C X.env) fp) vx tv) (hs : ∀ x, foldedSetIterable iter X.env x = pure x := by intro _; rfl) :
    PS X (.Assign [.Name y py] (.DictComp kx vx [⟨tg, iter, ifs, 0⟩] scope pos) spos) (tAsg (tDc wi g tt tk tv (own.map (·.2))) (gName i)) := by
  refine ⟨fun pins s σ H D I h => ?_⟩
  rw [exec_Assign_Name_used _ _ _ _ hsw]
  refine wpAny_bind (wpAny_standAt (wpAny_bind ?_))
  show wpAny _ X.A (do let _ ← comprehension (.DictComp kx vx [⟨tg, iter, ifs, 0⟩] scope pos) scope X.env (firstIterPos [⟨tg, iter, ifs, 0⟩] pos) newDict false (eval iter X.env) (some (assign (.Name y py) X.env))) _ _ s
  have h : tDc wi g tt tk tv (own.map (·.2)) σ H (fun x H1 => gName i x σ H1 D.nx) := h
  exact wpAny_bind (thn (dc_core (Qf := fun _ s' => SP X pins D .next s') hc hN I hi ok hg ht hk he hs h fun L C s' m H' I' q hn f => storeIn hN hy hyl I' q hn f) fun _ s' hq => wpAny_pure (wpAny_pure hq))
end
end A68
set_option maxRecDepth 100000
set_option maxHeartbeats 4000000
/-! Defs that are called where no repr is under way (repr wants to know), and the law's end for such a def. -/
namespace A68
open PySem PySem.Spec PyProof.Rows L2
/-- as FnOk, for callers within no repr -/
structure FnG (P : Program) (w : World) (K : PySem.W.Frag) (mg : Str → Option Value) (base : Heap) (k : Nat) (f : Addr) (fd : FuncData) (ps : List Str) (sp : Sp) : Prop where
  len : ∀ vs H Q E, sp vs H Q E → vs.length = ps.length
  run : ∀ (A : Around) (outer : List Env) (s : Shared) (H : Hp) (args : Args) (us : List Value) (vs : List V) (Q : VK) (E : XK), Room k A → A.guards = some [] → Env0 P w K mg base A outer s H →
    BindsTo s fd args (ps.zip us) → Vals vs us → sp vs H Q E → codeAny (model P w) A (.call (.ref f) args) (CR CX0 outer P w H s Q E) s
section
variable {P : Program} {w : World} {K : PySem.W.Frag} {mg : Str → Option Value} {base : Heap}
theorem okG {x qual : Str} {params : Arguments} {body : List Stmt} {sc : Scope} {f : Addr} {fd : FuncData} {N ps : List Str} {k : Nat} {sp : Sp} (F : FunD K x qual params body sc [] [] f fd) (S : FnScope N ps sc)
    (len : ∀ vs H Q E, sp vs H Q E → vs.length = ps.length)
    (bd : ∀ (cdv : Value) (A : Around) (outer : List Env) (s : Shared) (H : Hp) (vs : List V) (Q : VK) (E : XK), Room k (A.deeper (envOfC qual sc s.heap.objs.size f cdv)) → A.guards = some [] → sp vs H Q E →
      ∃ t, PSs (cxOf CX0 P w K mg base N qual sc f cdv A outer s H E) body t ∧ t { nx := fun _ H' => Q .non H', rt := Q } (start N vs) H) : FnG P w K mg base (k + 1) f fd ps sp where
  len := len
  run A outer s H args us vs Q E hr hg e0 hb rv hsp := by
    obtain ⟨oc, od, dV, kV, doc, pm, an, cdv, ct, osl, rfl, lk, hcd, _, _⟩ := F.ex
    have KX : K.In s.heap := e0.mod.kin.keeps fun b o e => (e0.bs b o e).1
    have nl : s.heap.NoLimit := e0.mod.nolimit.keeps fun b o e => (e0.bs b o e).1
    have kinds : ∀ y ∈ ps.zip us, sc.names.lookup y.1 = some .local ∨ (sc.names.lookup y.1 = some .cell ∧ ((cellsFrom (s.heap.objs.size + 1) sc.names []).lookup y.1).isSome = true) := fun y hy =>
      (S.par y.1 (List.of_mem_zip hy).1).imp id fun c => ⟨c, PySem.W.cellsFrom_some _ _ _ (.inl c)⟩
    refine codeAny_call_function hr.depth (KX _ _ lk) rfl S.co S.gen rfl (PySem.W.codeRec_of KX hcd) (hb _ _ _ _ ?_)
    refine wpAny_newFunctionEnv_cells S.kind kinds fun env he s1 x => ?_
    subst he
    refine ⟨nl.keeps x.toInCall.keep, codeAny_func ?_⟩
    obtain ⟨t, ht, hq⟩ := bd cdv A outer s H vs Q E (hr.deeper _) hg hsp
    refine wpAny_mono (ht.run [] s1 (start N vs) H _ (inv_start S hr.hd e0 (len _ _ _ _ hsp) rv x) hq) (fun fl s' hs => ?_) fun e s' hs => hs
    match fl, hs with
    | .ret u, ⟨v, σ', H', J, ru, q⟩ => exact ⟨v, H', J.os, J.bare, J.base, J.hok, ru, q⟩
    | .next, ⟨σ', H', J, q⟩ => exact ⟨V.non, H', J.os, J.bare, J.base, J.hok, rfl, q⟩
    | .brk, ⟨_, _, _, q⟩ => exact q.elim
    | .cont, ⟨_, _, _, q⟩ => exact q.elim
end
section
variable {X : Cx} {k : Nat} {f : Addr} {fd : FuncData} {ps : List Str} {sp : Sp} {x : Str} {p pos : Pos} {e : Expr} {es : List Expr} {t : TA}
theorem pe_callG (F : FnG X.prog X.w X.K X.mg X.base k f fd ps sp) (hr : Room k X.A) (gd : X.A.guards = some []) (hg : Gl X x) (hm : X.mg x = some (.ref f)) (hk : PySem.W.keepIn X.K (.ref f) = true) (hb : Binds X.K fd ps [])
    (ha : PA X (e :: es) t) (hdb : (x == ("__debug__" : Str)) = false := by decide) (he : starEach (e :: es) X.env = (false, eval e X.env) :: starEach es X.env := by rfl) (hpl : (backTo pos (starEach es X.env)).any (·.1) = false := by rfl) :
    PE X (.Call (.Name x p) (e :: es) [] pos) (tCall sp [] E0 t) := by
  refine ⟨fun pins s σ H Q I h => ?_⟩
  refine wpAny_Call_Name_kw (ld_glob I hg hm ?_ hdb)
  refine PySem.W.callWith_K (h₀ := X.base) I.ok.mod.kin hk (thn (ha.run pos pins s σ H _ I h) fun us s1 ⟨vs, H1, I1, r, q⟩ => ⟨I1.kIn, ?_⟩) he hpl
  have r2 : Vals (vs ++ []) us := by rw [List.append_nil]; exact r
  have hl : (us ++ []).length = ps.length := by rw [List.append_nil, ← r2.length]; exact F.len _ _ _ _ q
  have bd := hb s1 us I1.kIn hl
  rw [List.append_nil] at bd
  refine wpAny_call (codeAny_mono (F.run X.A X.stack s1 H1 ⟨us, []⟩ us (vs ++ []) Q E0 hr gd I1.env0 bd r2 q) fun r s' z => ?_)
  match r, z with
  | .error e, z => exact z.elim
  | .ok (.ret u), z => exact I1.after z
  | .ok .next, z => exact False.elim z
  | .ok .brk, z => exact False.elim z
  | .ok .cont, z => exact False.elim z
end
/-- the law's call from the harness, over a base -/
theorem lawG {P : Program} {w : World} {K : PySem.W.Frag} {mg mb : Str → Option Value} {k : Nat} {fa a : Addr} {fd : FuncData} {x : Str} {sp : Sp} {s1 : Shared} {vs : List Value} {ns : List Int}
    (KX : K.In s1.heap) (G : s1.heap.Ns mainGlobals mg) (B : s1.heap.Ns builtinsNs mb) (BB : ∀ x : Str, x ≠ "__name__" → mb x = bootBuiltins x) (NL : s1.heap.NoLimit) (gs : s1.gens = #[])
    (ha : s1.heap.get? a = some { cls := .type "list", data := .seq vs.toArray }) (hi : IntsAre vs ns) (hl : ns.length ≤ sizeLine) (hr : Room k callerA)
    (F : ∀ base : Heap, K.In base → base.Ns mainGlobals mg → FnG P w K mg base k fa fd [x] sp) (bnd : ∀ (s : Shared) (u : Value), BindsTo s fd ⟨[u], []⟩ [(x, u)])
    (hsp : ∀ H : Hp, Only H → SqL K H a (ns.map V.int) → sp [.ref a] H (fun v _ => v = .bl true) fun _ _ _ => False) :
    codeAny (model P w) callerA (.call (.ref fa) ⟨[.ref a], []⟩) (fun r s' => r = .ok (.ret (.bool true)) ∧ OldK s1.heap s'.heap ∧ s'.os = s1.os ∧ AllBare s'.gens) s1 := by
  -- from any abstract heap that tracks the script at most
  have main : ∀ H : Hp, Only H → SqL K H a (ns.map V.int) → HOk P w H s1.heap → (∀ b u, H b = some u → b = a ∧ K.lookup a = none) →
      codeAny (model P w) callerA (.call (.ref fa) ⟨[.ref a], []⟩) (fun r s' => r = .ok (.ret (.bool true)) ∧ OldK s1.heap s'.heap ∧ s'.os = s1.os ∧ AllBare s'.gens) s1 := by
    intro H only sq hok tracked
    have ns_ : ∀ {b : Addr} {m : Str → Option Value}, s1.heap.Ns b m → (hidT s1.heap H).Ns b m := by
      rintro b m ⟨o, es, ep, e, d, r⟩
      refine ⟨o, es, ep, hidT_get e ?_, d, r⟩
      cases q : H b with
      | none => rfl
      | some u =>
        rw [(tracked b u q).1, ha] at e
        rw [← Option.some.inj e] at d
        exact nomatch (show Data.seq vs.toArray _ = Data.dict es ep from d)
    have kb : K.In (hidT s1.heap H) := fun b o e => hidT_get (KX b o e) (by
      cases q : H b with
      | none => rfl
      | some u =>
        obtain ⟨z1, z2⟩ := tracked b u q
        rw [z1, z2] at e
        cases e)
    have md : Mod K mg (hidT s1.heap H) := ⟨kb, ns_ G, ⟨mb, ns_ B, BB⟩, let ⟨mc, z1, z2⟩ := NL; ⟨mc, ns_ z1, z2⟩⟩
    have e0 : Env0 P w K mg (hidT s1.heap H) callerA [] s1 H := ⟨rfl, md, fun b o e => of_hidT e, Nat.le_of_eq (hidT_size _ _), trivial, fun b hb => absurd (show b ∈ ([] : List Addr) from hb) (by simp), hok, .of_eq gs⟩
    refine codeAny_mono ((F _ kb (ns_ G)).run callerA [] s1 H ⟨[.ref a], []⟩ [.ref a] [.ref a] _ _ hr rfl e0 (bnd s1 (.ref a)) (.cons rfl .nil) (hsp H only sq)) fun r s' z => ?_
    match r, z with
    | .error e, z => exact z.elim
    | .ok .next, z => exact False.elim z
    | .ok .brk, z => exact False.elim z
    | .ok .cont, z => exact False.elim z
    | .ok (.ret u), ⟨v, H', os, bare, un, hok', ru, q⟩ =>
      rw [show v = .bl true from q] at ru
      cases (show u = Value.bool true from ru)
      refine ⟨rfl, OldK.of_keep fun b o e => ?_, os, bare⟩
      rcases only b with n | ⟨ob, xs, fz⟩
      · exact un.keep b o e n (fun z => absurd (show b ∈ ([] : List Addr) from z) (by simp)) (by simp)
      · have h1 := (hok b _ fz).1
        have h2 := (hok' b _ (un.frzs b ob _ fz)).1
        rw [Option.some.inj (e.symm.trans h1)]
        exact h2
  have rv := vals_ints hi
  have ln := hi.length
  by_cases kc : K.lookup a = none
  · have he : (fun b => if b = a then some (HO.frz { cls := .type "list", data := .seq vs.toArray } (.lst (ns.map V.int))) else none : Hp) a = some (HO.frz { cls := .type "list", data := .seq vs.toArray } (.lst (ns.map V.int))) := if_pos rfl
    refine main (fun b => if b = a then some (HO.frz { cls := .type "list", data := .seq vs.toArray } (.lst (ns.map V.int))) else none) (fun b => ?_) (.inl (.inr ⟨_, he⟩)) (fun b u z => ?_) fun b u z => ?_
    · by_cases hb : b = a
      · exact .inr ⟨_, _, if_pos hb⟩
      · exact .inl (if_neg hb)
    · by_cases hb : b = a
      · rw [← Option.some.inj ((if_pos hb).symm.trans z), hb]
        exact ⟨ha, by rw [List.length_map]; exact hl, vs, 0, rv, ha⟩
      · exact nomatch (if_neg hb).symm.trans z
    · by_cases hb : b = a
      · exact ⟨hb, kc⟩
      · exact nomatch (if_neg hb).symm.trans z
  · obtain ⟨o, ho⟩ := Option.ne_none_iff_exists'.mp kc
    have e := KX a o ho
    rw [ha] at e
    rw [← Option.some.inj e] at ho
    exact main (fun _ => none) (fun _ => .inl rfl) (.inr ⟨_, vs.toArray, 0, ho, rfl, rfl, rfl, by rw [List.size_toArray, ln]; exact hl, by simpa using rv⟩) (fun b u z => nomatch z) fun b u z => nomatch z
/-- the row's end -/
theorem walkG {l : PySem.W.OpenLaw} {n k : Nat} {q : Program} {loose : List Str} {XP : (Str → Option Value) → Heap → Prop} {YP : World → Heap → Prop} {d : DefRec} {x : Str}
    (hn : l.most = some n) (hn2 : n ≤ sizeLine) (hdf : d.params.defaults = []) (hr : Room k callerA)
    (F : ∀ (w : World) (mg : Str → Option Value) (fa : Addr) (h : Heap), YP w h → h.Ns mainGlobals mg → mg d.name = some (.ref fa) →
      ∃ (K : PySem.W.Frag) (fd : FuncData) (sp : Sp), K.In h ∧ (∀ (s : Shared) (u : Value), BindsTo s fd ⟨[u], []⟩ [(x, u)]) ∧
        (∀ (H : Hp) (a : Addr) (ns : List Int), ns.length ≤ n → Only H → SqL K H a (ns.map V.int) → sp [.ref a] H (fun v _ => v = .bl true) fun _ _ _ => False) ∧
        ∀ base : Heap, K.In base → base.Ns mainGlobals mg → FnG l.prog w K mg base k fa fd [x] sp) :
    PySem.W.WalkO q loose XP YP l.row.toRowW d [] (fun f vs => PySem.call f vs) := by
  refine Att.attach_call hn hdf fun w s0 s1 mg mb fa o pm cd doc a vs ns G Y ho hd hcd hmg hobj ints_ hlen hg => ?_
  obtain ⟨K, fd, sp, KX, hb, hsp, hF⟩ := F w mg fa _ Y G.T.g hmg
  exact lawG KX G.T.g G.T.b G.T.builtins G.T.nolimit hg hobj ints_ (Nat.le_trans hlen hn2) hr hF hb fun H hO hS => hsp H a ns hlen hO hS
end A68
set_option maxRecDepth 100000
set_option maxHeartbeats 4000000
/-! Readings, one step each; heaps that grow; data that stays. -/
namespace A68
open PySem PySem.Spec PyProof.Rows L2
/-! ### one step of a reading -/
section
variable {σ : St} {H : Hp} {Q : VK} {D : Ends} {K : PySem.W.Frag} {te ta tb : TE} {tt tu : TT} {v x y : V} {i j : Int}
theorem rVar {n : Nat} (h : σ[n]? = some (some v)) (q : Q v H) : tVar n σ H Q := ⟨v, h, q⟩
theorem rC (q : Q v H) : tC v σ H Q := q
theorem rOp {r : R2} (q : ta σ H fun x H1 => tb σ H1 fun y H2 => r x y H2 Q) : tOp r ta tb σ H Q := q
theorem rUn {r : V → Hp → VK → Prop} (q : ta σ H fun x H1 => r x H1 Q) : tUn r ta σ H Q := q
theorem rI0i {g : Int → Int → V} (q : Q (g i j) H) : rI0 g (.int i) (.int j) H Q := ⟨i, j, rfl, rfl, q⟩
theorem rIi {C : Int → Int → Prop} {g : Int → Int → V} (c : C i j) (q : Q (g i j) H) : rI C g (.int i) (.int j) H Q := ⟨i, j, rfl, rfl, c, q⟩
theorem rMulL (h1 : -(2 ^ 64) < i) (h2 : i < 2 ^ 64) (q : Q (.int (i * j)) H) : rI CMul (fun i j => .int (i * j)) (.int i) (.int j) H Q := ⟨i, j, rfl, rfl, .inl ⟨h1, h2⟩, q⟩
theorem rMulR (h1 : -(2 ^ 64) < j) (h2 : j < 2 ^ 64) (q : Q (.int (i * j)) H) : rI CMul (fun i j => .int (i * j)) (.int i) (.int j) H Q := ⟨i, j, rfl, rfl, .inr ⟨h1, h2⟩, q⟩
theorem rModP (h1 : 0 < j) (q : Q (.int (i % j)) H) : rI (fun _ j => 0 < j) (fun i j => .int (i % j)) (.int i) (.int j) H Q := ⟨i, j, rfl, rfl, h1, q⟩
theorem rDivP (h1 : 0 < j) (h2 : j < 1073741824) (q : Q (.int (i / j)) H) : rI CDiv (fun i j => .int (i / j)) (.int i) (.int j) H Q := ⟨i, j, rfl, rfl, ⟨h1, h2⟩, q⟩
theorem rPowL (h1 : 0 ≤ j) (h2 : j ≤ 1000000) (h3 : i.natAbs < 2 ^ 64) (q : Q (.int (i ^ j.toNat)) H) : rI CPow (fun i j => .int (i ^ j.toNat)) (.int i) (.int j) H Q := ⟨i, j, rfl, rfl, ⟨h1, h2, h3⟩, q⟩
theorem rUi {g : Int → V} (q : Q (g i) H) : rU g (.int i) H Q := ⟨i, rfl, q⟩
theorem rEqI (q : Q (.bl (decide (i = j))) H) : rEq (.int i) (.int j) H Q := ⟨rfl, by
  rw [show decide (V.int i = V.int j) = decide (i = j) by rw [decide_eq_decide]; exact ⟨V.int.inj, congrArg _⟩]
  exact q⟩
theorem rNeI (q : Q (.bl (!decide (i = j))) H) : rNe (.int i) (.int j) H Q := ⟨rfl, by
  rw [show decide (V.int i = V.int j) = decide (i = j) by rw [decide_eq_decide]; exact ⟨V.int.inj, congrArg _⟩]
  exact q⟩
theorem rEqB {b c : Bool} (q : Q (.bl (decide (b = c))) H) : rEq (.bl b) (.bl c) H Q := ⟨rfl, by
  rw [show decide (V.bl b = V.bl c) = decide (b = c) by rw [decide_eq_decide]; exact ⟨V.bl.inj, congrArg _⟩]
  exact q⟩
theorem rNeB {b c : Bool} (q : Q (.bl (!decide (b = c))) H) : rNe (.bl b) (.bl c) H Q := ⟨rfl, by
  rw [show decide (V.bl b = V.bl c) = decide (b = c) by rw [decide_eq_decide]; exact ⟨V.bl.inj, congrArg _⟩]
  exact q⟩
theorem rEqS {a b : Str} {r : Bool} (e : decide (a = b) = r) (q : Q (.bl r) H) : rEq (.str a) (.str b) H Q := ⟨rfl, by
  rw [show decide (V.str a = V.str b) = decide (a = b) by rw [decide_eq_decide]; exact ⟨V.str.inj, congrArg _⟩, e]
  exact q⟩
theorem rNeS {a b : Str} {r : Bool} (e : (!decide (a = b)) = r) (q : Q (.bl r) H) : rNe (.str a) (.str b) H Q := ⟨rfl, by
  rw [show decide (V.str a = V.str b) = decide (a = b) by rw [decide_eq_decide]; exact ⟨V.str.inj, congrArg _⟩, e]
  exact q⟩
theorem rIsNi (q : Q (.bl false) H) : rIsN (.int i) .non H Q := ⟨rfl, q⟩
theorem rIsNn (q : Q (.bl true) H) : rIsN .non .non H Q := ⟨rfl, q⟩
theorem rIsNr {a : Addr} (q : Q (.bl false) H) : rIsN (.ref a) .non H Q := ⟨rfl, q⟩
theorem rNotNi (q : Q (.bl true) H) : rNotN (.int i) .non H Q := ⟨rfl, q⟩
theorem rNotNn (q : Q (.bl false) H) : rNotN .non .non H Q := ⟨rfl, q⟩
theorem rNotNr {a : Addr} (q : Q (.bl true) H) : rNotN (.ref a) .non H Q := ⟨rfl, q⟩
theorem rTest {k : Bool → Hp → Prop} (q : te σ H fun x H1 => ∃ c, x = .bl c ∧ k c H1) : tTest te σ H k := q
theorem rTB {k : Bool → Hp → Prop} (q : te σ H fun x H1 => ∃ c, x = .bl c ∧ k c H1) : tB te σ H k := q
theorem rBl {b : Bool} {k : Bool → Hp → Prop} (q : k b H) : ∃ c, V.bl b = .bl c ∧ k c H := ⟨b, rfl, q⟩
theorem rAnd {k : Bool → Hp → Prop} (q : tt σ H fun c H1 => if c = true then tu σ H1 k else k false H1) : tAnd tt tu σ H k := q
theorem rOr {k : Bool → Hp → Prop} (q : tt σ H fun c H1 => if c = true then k true H1 else tu σ H1 k) : tOr tt tu σ H k := q
theorem rNot {k : Bool → Hp → Prop} (q : tt σ H fun c H1 => k (!c) H1) : tNot tt σ H k := q
theorem rAndV (q : ta σ H fun x H1 => ∃ c, x = .bl c ∧ if c = true then tb σ H1 Q else Q (.bl false) H1) : tAndV ta tb σ H Q := q
theorem rOrV (q : ta σ H fun x H1 => ∃ c, x = .bl c ∧ if c = true then Q (.bl true) H1 else tb σ H1 Q) : tOrV ta tb σ H Q := q
theorem rNotV (q : ta σ H fun x H1 => ∃ c, x = .bl c ∧ Q (.bl (!c)) H1) : tNotV ta σ H Q := q
theorem rBlV {b : Bool} {k : Bool → Prop} (q : k b) : ∃ c, V.bl b = .bl c ∧ k c := ⟨b, rfl, q⟩
theorem rIf (q : tt σ H fun c H1 => if c = true then ta σ H1 Q else tb σ H1 Q) : tIf tt ta tb σ H Q := q
theorem rNil {k : List V → Hp → Prop} (q : k [] H) : tNil σ H k := q
theorem rCons {ts : TA} {k : List V → Hp → Prop} (q : ta σ H fun x H1 => ts σ H1 fun xs H2 => k (x :: xs) H2) : tCons ta ts σ H k := q
/-- a new tuple, a new list comes, and then .. -/
def NewT (xs : List V) (H : Hp) (Q : VK) : Prop := ∀ p, H p = none → Q (.ref p) (upd H p (.tup xs))
def NewL (xs : List V) (H : Hp) (Q : VK) : Prop := ∀ p, H p = none → Q (.ref p) (upd H p (.lst xs))
theorem rTup {ts : TA} (q : ts σ H fun xs H1 => xs.length ≤ sizeLine ∧ NewT xs H1 Q) : tTup ts σ H Q := q
theorem rLst {ts : TA} (q : ts σ H fun xs H1 => xs.length ≤ sizeLine ∧ NewL xs H1 Q) : tLst ts σ H Q := q
theorem rCB {r : List V → Hp → VK → Prop} {ts : TA} (q : ts σ H fun vs H1 => r vs H1 Q) : tCB r ts σ H Q := q
theorem rCall {sp : Sp} {dvs : List V} {E : XK} {ts : TA} (q : ts σ H fun vs H1 => sp (vs ++ dvs) H1 Q E) : tCall sp dvs E ts σ H Q := q
/-! statements -/
theorem rSeq {t u : TS} (q : t { D with nx := u D } σ H) : tSeq t u D σ H := q
theorem rAsg {g : TG} (q : te σ H fun x H1 => g x σ H1 D.nx) : tAsg te g D σ H := q
theorem rName {n : Nat} {k : St → Hp → Prop} (q : k (σ.set n (some v)) H) : gName n v σ H k := q
theorem rDrop (q : te σ H fun _ H1 => D.nx σ H1) : tDrop te D σ H := q
theorem rRet (q : te σ H D.rt) : tRet te D σ H := q
theorem rIfS {t u : TS} (q : tt σ H fun b H1 => if b = true then t D σ H1 else u D σ H1) : tIfS tt t u D σ H := q
theorem rNext (q : D.nx σ H) : tNext D σ H := q
theorem rPar {m n : Nat} {ts : TA} (q : ts σ H fun vs H1 => ∃ v w, vs = [v, w] ∧ D.nx ((σ.set m (some v)).set n (some w)) H1) : tPar m n ts D σ H := q
theorem rPar2 {k : V → V → Prop} (q : k x y) : ∃ v w, [x, y] = [v, w] ∧ k v w := ⟨x, y, rfl, q⟩
theorem rCut {t u : TS} {D : Ends} {σ : St} {H : Hp} (Mid : St → Hp → Prop) (h : t { D with nx := Mid } σ H) (k : ∀ σ' H', Mid σ' H' → u D σ' H') : Evl.tCut t u D σ H := ⟨Mid, h, k⟩
theorem ok100 {n : Nat} (h : Nat.ble n 100 = true) : n ≤ 100 := Nat.le_of_ble_eq_true h
/-! ways -/
theorem ifT {A B : Prop} (h : A) : if true = true then A else B := iteT h
theorem ifF {A B : Prop} (h : B) : if false = true then A else B := iteF h
theorem ifD {p A B : Prop} [Decidable p] (h1 : p → A) (h2 : ¬ p → B) : if decide p = true then A else B := by
  by_cases h : p
  · rw [decide_eq_true h]; exact iteT (h1 h)
  · rw [decide_eq_false h]; exact iteF (h2 h)
theorem ifDt {p A B : Prop} [Decidable p] (hp : p) (h : A) : if decide p = true then A else B := by
  rw [decide_eq_true hp]; exact iteT h
theorem ifDf {p A B : Prop} [Decidable p] (hp : ¬ p) (h : B) : if decide p = true then A else B := by
  rw [decide_eq_false hp]; exact iteF h
theorem ifN {p A B : Prop} [Decidable p] (h1 : p → B) (h2 : ¬ p → A) : if (!decide p) = true then A else B := by
  by_cases h : p
  · rw [decide_eq_true h]; exact iteF (h1 h)
  · rw [decide_eq_false h]; exact iteT (h2 h)
theorem ifNt {p A B : Prop} [Decidable p] (hp : p) (h : B) : if (!decide p) = true then A else B := by
  rw [decide_eq_true hp]; exact iteF h
theorem ifNf {p A B : Prop} [Decidable p] (hp : ¬ p) (h : A) : if (!decide p) = true then A else B := by
  rw [decide_eq_false hp]; exact iteT h
theorem ifNT {A B : Prop} (h : B) : if (!true) = true then A else B := iteF h
theorem ifNF {A B : Prop} (h : A) : if (!false) = true then A else B := iteT h
theorem ifBool {b : Bool} {A B : Prop} (h1 : b = true → A) (h2 : b = false → B) : if b = true then A else B := by
  cases b with
  | true => exact iteT (h1 rfl)
  | false => exact iteF (h2 rfl)
/-! places -/
theorem rIxLn {p : Addr} {xs : List V} {n : Nat} (h : SqL K H p xs) (e : xs[n]? = some v) (q : Q v H) : rIxL K (.ref p) (.int (n : Int)) H Q := ⟨p, xs, _, v, rfl, rfl, h, atI_nat e, q⟩
theorem rIxTn {p : Addr} {xs : List V} {n : Nat} (h : SqT K H p xs) (e : xs[n]? = some v) (q : Q v H) : rIxT K (.ref p) (.int (n : Int)) H Q := ⟨p, xs, _, v, rfl, rfl, h, atI_nat e, q⟩
theorem rIxLi {p : Addr} {xs : List V} (h : SqL K H p xs) (h0 : 0 ≤ i) (e : xs[i.toNat]? = some v) (q : Q v H) : rIxL K (.ref p) (.int i) H Q := by
  have z : ((i.toNat : Nat) : Int) = i := by omega
  rw [← z]
  exact rIxLn h e q
theorem rIxTi {p : Addr} {xs : List V} (h : SqT K H p xs) (h0 : 0 ≤ i) (e : xs[i.toNat]? = some v) (q : Q v H) : rIxT K (.ref p) (.int i) H Q := by
  have z : ((i.toNat : Nat) : Int) = i := by omega
  rw [← z]
  exact rIxTn h e q
/-- t[n] of a written tuple, n a numeral -/
theorem rIxTl {p : Addr} {xs : List V} (h : H p = some (.tup xs)) (e : atI xs i = some v) (q : Q v H) : rIxT K (.ref p) (.int i) H Q := ⟨p, xs, i, v, rfl, rfl, SqT.of h, e, q⟩
theorem rFld {a C dx : Addr} {fs : List (Str × V)} {f : Str} (ho : H a = some (.ins C dx fs)) (c : Cls K C) (n : NoAttr K C f) (l : fs.lookup f = some v) (q : Q v H) : ∃ a' C dx fs v, V.ref a = .ref a' ∧ H a' = some (.ins C dx fs) ∧ Cls K C ∧ NoAttr K C f ∧ fs.lookup f = some v ∧ Q v H :=
  ⟨a, C, dx, fs, v, rfl, ho, c, n, l, q⟩
theorem rFldS {f : Str} (q : ta σ H fun x H1 => ∃ a C dx fs v, x = .ref a ∧ H1 a = some (.ins C dx fs) ∧ Cls K C ∧ NoAttr K C f ∧ fs.lookup f = some v ∧ Q v H1) : tFld K ta f σ H Q := q
end
/-! ### built-ins' readings, by names -/
def rLenS (K : PySem.W.Frag) : List V → Hp → VK → Prop := fun xs H Q => ∃ p ys, xs = [.ref p] ∧ (SqL K H p ys ∨ SqT K H p ys) ∧ Q (.int ys.length) H
theorem call_lenS {X : Cx} : CallR X (.builtin "len") (rLenS X.K) := call_len_seq
theorem rLenL {K : PySem.W.Frag} {H : Hp} {Q : VK} {a : Addr} {xs : List V} (h : SqL K H a xs) (q : Q (.int (xs.length : Nat)) H) : rLenS K [.ref a] H Q := ⟨a, xs, rfl, .inl h, q⟩
theorem rLenT {K : PySem.W.Frag} {H : Hp} {Q : VK} {a : Addr} {xs : List V} (h : H a = some (.tup xs)) (q : Q (.int (xs.length : Nat)) H) : rLenS K [.ref a] H Q := ⟨a, xs, rfl, .inr (SqT.of h), q⟩
def rMin2 : List V → Hp → VK → Prop := fun xs H Q => ∃ i j, xs = [.int i, .int j] ∧ Q (.int (if j < i then j else i)) H
theorem call_min2n {X : Cx} (hc : X.calm = true) : CallR X (.builtin "min") rMin2 := call_min2 hc
theorem rMin2i {H : Hp} {Q : VK} {i j : Int} (q : Q (.int (min i j)) H) : rMin2 [.int i, .int j] H Q := ⟨i, j, rfl, by
  have e : (if j < i then j else i) = min i j := by split <;> omega
  rw [e]
  exact q⟩
def rMax2 : List V → Hp → VK → Prop := fun xs H Q => ∃ i j, xs = [.int i, .int j] ∧ Q (.int (if j > i then j else i)) H
theorem call_max2n {X : Cx} (hc : X.calm = true) : CallR X (.builtin "max") rMax2 := call_max2 hc
theorem rMax2i {H : Hp} {Q : VK} {i j : Int} (q : Q (.int (max i j)) H) : rMax2 [.int i, .int j] H Q := ⟨i, j, rfl, by
  have e : (if j > i then j else i) = max i j := by split <;> omega
  rw [e]
  exact q⟩
def rInt1 : List V → Hp → VK → Prop := fun xs H Q => (∃ i, xs = [.int i] ∧ Q (.int i) H) ∨ ∃ k, xs = [.bl k] ∧ Q (.int (if k then 1 else 0)) H
theorem call_int1n {X : Cx} : CallR X (.type "int") rInt1 := call_int1
theorem rInt1i {H : Hp} {Q : VK} {i : Int} (q : Q (.int i) H) : rInt1 [.int i] H Q := .inl ⟨i, rfl, q⟩
def rListOf (K : PySem.W.Frag) : List V → Hp → VK → Prop := fun xs H Q => ∃ p ys, xs = [.ref p] ∧ (SqL K H p ys ∨ SqT K H p ys) ∧ ∀ l, H l = none → Q (.ref l) (upd H l (.lst ys))
theorem call_listN {X : Cx} : CallR X (.type "list") (rListOf X.K) := call_list_of
theorem rListOfi {K : PySem.W.Frag} {H : Hp} {Q : VK} {a : Addr} {xs : List V} (h : SqL K H a xs ∨ SqT K H a xs) (q : NewL xs H Q) : rListOf K [.ref a] H Q := ⟨a, xs, rfl, h, q⟩
def rTupleOf (K : PySem.W.Frag) : List V → Hp → VK → Prop := fun xs H Q => ∃ p ys, xs = [.ref p] ∧ ((SqL K H p ys ∧ ∀ l, H l = none → Q (.ref l) (upd H l (.tup ys))) ∨ (SqT K H p ys ∧ Q (.ref p) H))
theorem call_tupleN {X : Cx} : CallR X (.type "tuple") (rTupleOf X.K) := call_tuple_of
theorem rTupleOfL {K : PySem.W.Frag} {H : Hp} {Q : VK} {a : Addr} {xs : List V} (h : SqL K H a xs) (q : NewT xs H Q) : rTupleOf K [.ref a] H Q := ⟨a, xs, rfl, .inl ⟨h, q⟩⟩
def rListD (K : PySem.W.Frag) : List V → Hp → VK → Prop := fun xs H Q => ∃ d kvs, xs = [V.ref d] ∧ Rd H d (.dT kvs) ∧ ∀ p bs, H p = none → IsKeys H kvs bs → Q (.ref p) (upd H p (.lst (bs.map V.ref)))
theorem call_listD {X : Cx} (hc : X.calm = true) : CallR X (.type "list") (rListD X.K) := call_list_dT hc
theorem rListDi {K : PySem.W.Frag} {H : Hp} {Q : VK} {d : Addr} {kvs : List (List Key × V)} (h : H d = some (.dT kvs)) (q : ∀ bs, IsKeys H kvs bs → NewL (bs.map V.ref) H Q) : rListD K [.ref d] H Q := ⟨d, kvs, rfl, .inl h, fun p bs n i => q bs i p n⟩
theorem rSlLi {K : PySem.W.Frag} {H : Hp} {Q : VK} {a : Addr} {xs : List V} {lo hi : Option Int} (h : SqL K H a xs) (q : NewL (cutV xs lo hi) H Q) : rSlL K (.ref a) lo hi H Q := ⟨a, xs, rfl, h, q⟩
theorem rCati {H : Hp} {Q : VK} {a b : Addr} {xs ys : List V} (h1 : H a = some (.lst xs)) (h2 : H b = some (.lst ys)) (z : xs.length + ys.length ≤ sizeLine) (q : NewL (xs ++ ys) H Q) : rCat (.ref a) (.ref b) H Q := ⟨a, b, xs, ys, rfl, rfl, h1, h2, z, q⟩
theorem rAppL {H : Hp} {Q : VK} {a : Addr} {xs : List V} {y : V} (h : H a = some (.lst xs)) (z : xs.length < sizeLine) (q : Q .non (upd H a (.lst (xs ++ [y])))) : rAppend (.ref a) [y] H Q := ⟨a, xs, y, rfl, rfl, h, z, q⟩
theorem tyL {K : PySem.W.Frag} {H : Hp} {a : Addr} {xs : List V} (h : H a = some (.lst xs)) : tyV K "list" (.ref a) H := .inl ⟨rfl, _, SqL.of h⟩
theorem rBM {K : PySem.W.Frag} {T : String} {r : V → List V → Hp → VK → Prop} {to : TE} {t : TA} {σ : St} {H : Hp} {Q : VK} (q : to σ H fun x H1 => tyV K T x H1 ∧ t σ H1 fun xs H2 => r x xs H2 Q) : tBM K T r to t σ H Q := q
theorem rPartN {k : Option Int → Hp → Prop} {σ : St} {H : Hp} (q : k none H) : tNoPart σ H k := q
theorem rPart {te : TE} {k : Option Int → Hp → Prop} {σ : St} {H : Hp} (q : te σ H fun x H1 => ∃ i, x = .int i ∧ k (some i) H1) : tPart te σ H k := q
theorem rInt {i : Int} {k : Int → Prop} (q : k i) : ∃ j, V.int i = .int j ∧ k j := ⟨i, rfl, q⟩
theorem rSlS {r : V → Option Int → Option Int → Hp → VK → Prop} {te : TE} {tl th : TO} {σ : St} {H : Hp} {Q : VK} (q : te σ H fun x H1 => tl σ H1 fun l H2 => th σ H2 fun u H3 => r x l u H3 Q) : tSl r te tl th σ H Q := q
theorem rSFld {K : PySem.W.Frag} {ta tv : TE} {fl : Str} {D : Ends} {σ : St} {H : Hp} (q : tv σ H fun y H1 => ta σ H1 fun x H2 => ∃ a C dx fs, x = .ref a ∧ H2 a = some (.ins C dx fs) ∧ Cls K C ∧ NoAttr K C fl ∧ fs.length < 1000 ∧ D.nx σ (upd H2 a (.ins C dx (putF fl y fs)))) : sFld K ta tv fl D σ H := q
theorem rSDPut {td ty tv : TE} {D : Ends} {σ : St} {H : Hp} (q : tv σ H fun v H1 => td σ H1 fun x H2 => ty σ H2 fun y H3 => ∃ a H4, x = .ref a ∧ DPut H3 a y v H4 ∧ D.nx σ H4) : sDPut td ty tv D σ H := q
theorem rDGet {td ty : TE} {σ : St} {H : Hp} {Q : VK} (q : td σ H fun x H1 => ty σ H1 fun y H2 => ∃ a v, x = .ref a ∧ DGet H2 a y (some v) ∧ Q v H2) : tDGet td ty σ H Q := q
theorem rDIn {ty td : TE} {σ : St} {H : Hp} {Q : VK} (q : ty σ H fun y H1 => td σ H1 fun x H2 => ∃ a o, x = .ref a ∧ DGet H2 a y o ∧ Q (.bl o.isSome) H2) : tDIn ty td σ H Q := q
theorem rDNotIn {ty td : TE} {σ : St} {H : Hp} {Q : VK} (q : ty σ H fun y H1 => td σ H1 fun x H2 => ∃ a o, x = .ref a ∧ DGet H2 a y o ∧ Q (.bl (!o.isSome)) H2) : tDNotIn ty td σ H Q := q
/-! ### heaps -/
/-- what was stays, but at S; tuples stay; nothing is forgotten -/
structure Fm (S : List Addr) (H H' : Hp) : Prop where
  tup : ∀ b xs, H b = some (.tup xs) → H' b = some (.tup xs)
  oth : ∀ b o, b ∉ S → H b = some o → H' b = some o
  fre : ∀ b, H' b = none → H b = none
section
variable {S S' : List Addr} {H H1 H2 : Hp} {p : Addr} {o o' : HO}
theorem Fm.refl : Fm S H H := ⟨fun _ _ h => h, fun _ _ _ h => h, fun _ h => h⟩
theorem Fm.trans (a : Fm S H H1) (b : Fm S H1 H2) : Fm S H H2 := ⟨fun c xs h => b.tup c xs (a.tup c xs h), fun c u n h => b.oth c u n (a.oth c u n h), fun c h => a.fre c (b.fre c h)⟩
theorem Fm.mono (a : Fm S H H1) (s : ∀ b ∈ S, b ∈ S') : Fm S' H H1 := ⟨a.tup, fun c u n h => a.oth c u (fun z => n (s c z)) h, a.fre⟩
theorem Fm.up (a : Fm [] H H1) : Fm S H H1 := a.mono fun b z => nomatch z
theorem Fm.new (h : H p = none) : Fm S H (upd H p o) := ⟨fun b xs e => by rw [upd_ne (ne_of_none e h)]; exact e, fun b u _ e => by rw [upd_ne (ne_of_none e h)]; exact e, fun b e => by
  by_cases z : b = p
  · rw [z]; exact h
  · rwa [upd_ne z] at e⟩
theorem Fm.wr (m : p ∈ S) (h : H p = some o') (nt : ∀ xs, o' ≠ .tup xs) : Fm S H (upd H p o) := ⟨fun b xs e => by rw [upd_ne (ne_of e h (fun z => nt xs z.symm))]; exact e, fun b u n e => by rw [upd_ne (fun z => n (by rw [z]; exact m))]; exact e, fun b e => by
  by_cases z : b = p
  · rw [z, upd_same] at e; cases e
  · rwa [upd_ne z] at e⟩
/-- changes at objects that the first heap did not know are no changes of it -/
theorem Fm.drop {L : List Addr} (a : Fm (L ++ S) H H1) (n : ∀ b ∈ L, H b = none) : Fm S H H1 := ⟨a.tup, fun b u nb h => a.oth b u (fun z => (List.mem_append.mp z).elim (fun z => by rw [n b z] at h; cases h) nb) h, a.fre⟩
theorem Fm.same (a : Fm [] H H1) : Same H H1 := fun b u h => a.oth b u (fun z => nomatch z) h
theorem Same.fm (a : Same H H1) : Fm S H H1 := ⟨fun b xs h => a b _ h, fun b u _ h => a b u h, fun b h => a.free h⟩
theorem Fm.sqT {K : PySem.W.Frag} {a : Addr} {xs : List V} (f : Fm S H H1) (h : H a = some (.tup xs)) : SqT K H1 a xs := SqT.of (f.tup _ _ h)
end
/-- a new tuple, a new list: any later heap that has it -/
theorem rNewT {H : Hp} {Q : VK} {xs : List V} (hl : xs.length ≤ 100) (q : ∀ p H', H p = none → Fm [] H H' → H' p = some (.tup xs) → Q (.ref p) H') : xs.length ≤ sizeLine ∧ NewT xs H Q :=
  ⟨Nat.le_trans hl (by rw [sizeLine_eq]; decide), fun p n => q p _ n (Fm.new n) upd_same⟩
theorem rNewL {H : Hp} {Q : VK} {xs : List V} (hl : xs.length ≤ 100) (q : ∀ p H', H p = none → Fm [] H H' → H' p = some (.lst xs) → Q (.ref p) H') : xs.length ≤ sizeLine ∧ NewL xs H Q :=
  ⟨Nat.le_trans hl (by rw [sizeLine_eq]; decide), fun p n => q p _ n (Fm.new n) upd_same⟩
theorem rNewL0 {H : Hp} {Q : VK} {xs : List V} (q : ∀ p H', H p = none → Fm [] H H' → H' p = some (.lst xs) → Q (.ref p) H') : NewL xs H Q :=
  fun p n => q p _ n (Fm.new n) upd_same
theorem rNewT0 {H : Hp} {Q : VK} {xs : List V} (q : ∀ p H', H p = none → Fm [] H H' → H' p = some (.tup xs) → Q (.ref p) H') : NewT xs H Q :=
  fun p n => q p _ n (Fm.new n) upd_same
theorem line9 {n : Nat} (h : n ≤ 1000000) : n ≤ sizeLine := Nat.le_trans h (by rw [sizeLine_eq]; decide)
theorem line9l {n : Nat} (h : n ≤ 1000000) : n < sizeLine := Nat.lt_of_le_of_lt h (by rw [sizeLine_eq]; decide)
/-! ### data: a reference to a tuple; rows of them -/
def TRef (H : Hp) (v : V) (r : List V) : Prop := ∃ a, v = .ref a ∧ H a = some (.tup r)
abbrev Rows (H : Hp) : List V → List (List V) → Prop := Paired (TRef H)
section
variable {S : List Addr} {H H1 : Hp}
theorem TRef.fm (f : Fm S H H1) {v : V} {r : List V} : TRef H v r → TRef H1 v r := fun ⟨a, e, h⟩ => ⟨a, e, f.tup a r h⟩
theorem Rows.fm (f : Fm S H H1) : ∀ {vs : List V} {rs : List (List V)}, Rows H vs rs → Rows H1 vs rs
  | _, _, .nil => .nil
  | _, _, .cons h t => .cons (h.fm f) (Rows.fm f t)
theorem Rows.len : ∀ {vs : List V} {rs : List (List V)}, Rows H vs rs → vs.length = rs.length := Paired.length
theorem Rows.get : ∀ {vs : List V} {rs : List (List V)} {i : Nat} {r : List V}, Rows H vs rs → rs[i]? = some r → ∃ a, vs[i]? = some (.ref a) ∧ H a = some (.tup r)
  | _, _, 0, _, .cons ⟨a, e, h⟩ _, q => by
    cases Option.some.inj q
    exact ⟨a, by rw [e]; rfl, h⟩
  | _, _, i + 1, _, .cons _ t, q => Rows.get (i := i) t q
  | _, _, i, _, .nil, q => by simp at q
theorem Rows.app : ∀ {vs ws : List V} {rs qs : List (List V)}, Rows H vs rs → Rows H ws qs → Rows H (vs ++ ws) (rs ++ qs)
  | _, _, _, _, .nil, b => b
  | _, _, _, _, .cons h t, b => .cons h (Rows.app t b)
theorem Rows.one {p : Addr} {r : List V} (h : H p = some (.tup r)) : Rows H [.ref p] [r] := .cons ⟨p, rfl, h⟩ .nil
theorem Rows.of_get {vs : List V} {rs : List (List V)} (R : Rows H vs rs) {i : Nat} {v : V} (h : vs[i]? = some v) : ∃ a r, v = .ref a ∧ rs[i]? = some r ∧ H a = some (.tup r) := by
  have l := R.len
  have hi := (List.getElem?_eq_some_iff.mp h).1
  obtain ⟨a, e1, e2⟩ := R.get (i := i) (r := rs[i]'(by omega)) (List.getElem?_eq_getElem _)
  rw [h] at e1
  exact ⟨a, _, Option.some.inj e1, List.getElem?_eq_getElem _, e2⟩
end
/-! ### a def that may be called -/
section
variable (P : Program) (w : World) (K : PySem.W.Frag) (mg : Str → Option Value) (base : Heap)
/-- the module's def x, parameters ps, at level k keeps the promise sp -/
def Cal (x : Str) (ps : List Str) (k : Nat) (sp : Sp) : Prop :=
  ∃ (f : Addr) (fd : FuncData), FnOk P w K mg base CX0 k f fd ps sp ∧ mg x = some (.ref f) ∧ PySem.W.keepIn K (.ref f) = true ∧ Binds K fd ps []
/-- the method m of the class at C -/
def CalM (C : Addr) (m : Str) (ps : List Str) (k : Nat) (sp : Sp) : Prop :=
  ∃ (f : Addr) (fd : FuncData), FnOk P w K mg base CX0 k f fd ps sp ∧ Meth K C m f ∧ Binds K fd ps []
end
section
variable {X : Cx} {x m : Str} {ps : List Str} {k : Nat} {sp : Sp} {p pos apos : Pos} {e o : Expr} {es : List Expr} {t : TA} {ta : TE}
theorem pe_cal (c : Cal X.prog X.w X.K X.mg X.base x ps k sp) (hr : Room k X.A) (hg : Gl X x) (ha : PA X (e :: es) t) (hdb : (x == ("__debug__" : Str)) = false := by decide)
    (he : starEach (e :: es) X.env = (false, eval e X.env) :: starEach es X.env := by rfl) (hpl : (backTo pos (starEach es X.env)).any (·.1) = false := by rfl) : PE X (.Call (.Name x p) (e :: es) [] pos) (tCall sp [] E0 t) := by
  obtain ⟨f, fd, F, g, kp, b⟩ := c
  exact pe_call F hr hg g kp b .nil pass0 ha hdb he hpl
end
/-- what the walk asks of the class as the top has made it -/
structure Tx (K : PySem.W.Frag) (mg : Str → Option Value) (C : Addr) : Prop where
  cl : Cls K C
  n1 : NoAttr K C "tasks"
  n2 : NoAttr K C "every"
  n3 : NoAttr K C "lines"
  n4 : NoAttr K C "mosts"
  n5 : NoAttr K C "waits"
  n6 : NoAttr K C "fault"
  mgC : mg "Closing" = some (.ref C)
/-- the built-ins' names are free -/
structure Fr0 (mg : Str → Option Value) : Prop where
  list : mg "list" = none
  range : mg "range" = none
  len : mg "len" = none
  enumerate : mg "enumerate" = none
  min : mg "min" = none
  max : mg "max" = none
  any : mg "any" = none
  sorted : mg "sorted" = none
  tuple : mg "tuple" = none
  int : mg "int" = none
  isinstance : mg "isinstance" = none
  bool : mg "bool" = none
  str : mg "str" = none
  zip : mg "zip" = none
  repr : mg "repr" = none
  dict : mg "dict" = none
end A68
set_option maxRecDepth 100000
set_option maxHeartbeats 4000000
/-! begin_of, end_of, is_end, owner_of; the law's owner, is_end. -/
namespace A68
open PySem PySem.Spec PyProof.Rows L2
local macro_rules | `(tactic| walk_at "rd1") => `(tactic| first
  | ((with_reducible refine' rVar ?hx ?_); (case hx => rfl))
  | (with_reducible refine rC ?_)
  | (with_reducible refine rOp ?_)
  | (with_reducible refine rUn ?_)
  | (with_reducible refine rI0i ?_)
  | (with_reducible refine rUi ?_)
  | ((with_reducible refine rMulL ?a ?b ?_); (case a => decide); (case b => decide))
  | ((with_reducible refine rMulR ?a ?b ?_); (case a => decide); (case b => decide))
  | ((with_reducible refine rModP ?a ?_); (case a => decide))
  | ((with_reducible refine rDivP ?a ?b ?_); (case a => decide); (case b => decide))
  | ((with_reducible refine rPowL ?a ?b ?c ?_); (case a => decide); (case b => decide); (case c => decide))
  | (with_reducible refine rEqI ?_)
  | (with_reducible refine rNeI ?_)
  | (with_reducible refine rIsNi ?_)
  | (with_reducible refine rIsNn ?_)
  | (with_reducible refine rIsNr ?_)
  | (with_reducible refine rNotNi ?_)
  | (with_reducible refine rNotNn ?_)
  | (with_reducible refine rNotNr ?_)
  | (with_reducible refine rTest ?_)
  | (with_reducible refine rTB ?_)
  | (with_reducible refine rBlV ?_)
  | (with_reducible refine rAnd ?_)
  | (with_reducible refine rOr ?_)
  | (with_reducible refine rNot ?_)
  | (with_reducible refine rAndV ?_)
  | (with_reducible refine rOrV ?_)
  | (with_reducible refine rNotV ?_)
  | (with_reducible refine rIf ?_)
  | (with_reducible refine rNil ?_)
  | (with_reducible refine rCons ?_)
  | (with_reducible refine rTup ?_)
  | (with_reducible refine rLst ?_)
  | (with_reducible refine rCB ?_)
  | (with_reducible refine rCall ?_)
  | (with_reducible refine rBM ?_)
  | (with_reducible refine rMin2i ?_)
  | (with_reducible refine rMax2i ?_)
  | (with_reducible refine rInt1i ?_)
  | (with_reducible refine rPartN ?_)
  | (with_reducible refine rPart ?_)
  | (with_reducible refine rInt ?_)
  | (with_reducible refine rSlS ?_)
  | (with_reducible refine rSFld ?_)
  | (with_reducible refine rSDPut ?_)
  | (with_reducible refine rDGet ?_)
  | (with_reducible refine rDIn ?_)
  | (with_reducible refine rDNotIn ?_)
  | (with_reducible refine rSeq ?_)
  | (with_reducible refine rAsg ?_)
  | (with_reducible refine rName ?_)
  | (with_reducible refine rDrop ?_)
  | (with_reducible refine rRet ?_)
  | (with_reducible refine rIfS ?_)
  | (with_reducible refine rNext ?_)
  | (with_reducible refine rPar ?_)
  | (with_reducible refine rPar2 ?_)
  | (with_reducible refine rMeth ?_)
  | (with_reducible refine rGCons ?_)
  | (with_reducible refine rGNil ?_)
  | (with_reducible refine rForS ?_)
  | (with_reducible refine rLcS ?_)
  | (with_reducible refine rIL ?_)
  | (with_reducible refine rIT ?_)
  | (with_reducible refine rIE ?_)
  | (with_reducible refine rYes ?_)
  | (with_reducible refine rIR1 ?_)
  | (with_reducible refine rIR2 ?_)
  | (with_reducible refine rIET ?_)
  | (with_reducible refine ifSn ?_)
  | (with_reducible refine ifNn ?_)
  | (with_reducible refine ifSs ?_)
  | (with_reducible refine ifNs ?_)
  | (with_reducible refine rNotNfs ?_)
  | (with_reducible refine rNotNfn ?_)
  | (with_reducible refine rIsNfs ?_)
  | (with_reducible refine rIsNfn ?_)
  | (with_reducible refine ifT ?_)
  | (with_reducible refine ifF ?_)
  | (with_reducible refine ifNT ?_)
  | (with_reducible refine ifNF ?_))
local macro_rules | `(tactic| walk_at "rd") => `(tactic| (repeat walk_at "rd1"))
section
variable {P : Program} {w : World} {K : PySem.W.Frag} {mg : Str → Option Value} {base : Heap} {f : Addr} {fd : FuncData}
abbrev FD (K : PySem.W.Frag) (x q : Str) (st : Stmt) (f : Addr) (fd : FuncData) : Prop := FunD K x q (defArgs st) (defBody st) (defScope st) [] [] f fd
/-- one int in, a value out, the heap as it is -/
def spI1 (g : Int → V) : Sp := fun vs H Q _ => ∃ n : Int, vs = [.int n] ∧ Q (g n) H
theorem rSpI1 {g : Int → V} {n : Int} {H : Hp} {Q : VK} {E : XK} (q : Q (g n) H) : spI1 g [.int n] H Q E := ⟨n, rfl, q⟩
abbrev N_p_begin_of : List Str := ["task"]
theorem sc_p_begin_of : FnScope N_p_begin_of ["task"] (defScope s_p_begin_of) := ⟨rfl, rfl, rfl, by decide +kernel, rfl, by decide +kernel, by decide +kernel⟩
theorem ok_begin_of (F : FD K "begin_of" "begin_of" s_p_begin_of f fd) : FnOk P w K mg base CX0 1 f fd ["task"] (spI1 fun n => .int (2 * n + 1)) := by
  refine F.ok sc_p_begin_of (fun vs H Q E h => ?_) (fun cdv A outer s H vs Q E hr h => ?_)
  · obtain ⟨n, rfl, _⟩ := h
    rfl
  · obtain ⟨n, rfl, k⟩ := h
    refine ⟨_, PSs.nox (pss_one (ps_ret (pe_op op_add (pe_op op_mul pe_int (pv 0)) pe_int))), ?_⟩
    walk_at "rd"
    exact k
theorem sc_p_end_of : FnScope ["task"] ["task"] (defScope s_p_end_of) := ⟨rfl, rfl, rfl, by decide +kernel, rfl, by decide +kernel, by decide +kernel⟩
theorem ok_end_of (F : FD K "end_of" "end_of" s_p_end_of f fd) : FnOk P w K mg base CX0 1 f fd ["task"] (spI1 fun n => .int (2 * n + 2)) := by
  refine F.ok sc_p_end_of (fun vs H Q E h => ?_) (fun cdv A outer s H vs Q E hr h => ?_)
  · obtain ⟨n, rfl, _⟩ := h
    rfl
  · obtain ⟨n, rfl, k⟩ := h
    refine ⟨_, PSs.nox (pss_one (ps_ret (pe_op op_add (pe_op op_mul pe_int (pv 0)) pe_int))), ?_⟩
    walk_at "rd"
    exact k
/-- an event (from nought) that is an end -/
def isEndB (n : Int) : Bool := decide (0 < n) && decide (n % 2 = 0)
theorem sc_p_is_end : FnScope ["event"] ["event"] (defScope s_p_is_end) := ⟨rfl, rfl, rfl, by decide +kernel, rfl, by decide +kernel, by decide +kernel⟩
theorem ok_is_end (F : FD K "is_end" "is_end" s_p_is_end f fd) : FnOk P w K mg base CX0 1 f fd ["event"] (spI1 fun n => .bl (isEndB n)) := by
  refine F.ok sc_p_is_end (fun vs H Q E h => ?_) (fun cdv A outer s H vs Q E hr h => ?_)
  · obtain ⟨n, rfl, _⟩ := h
    rfl
  · obtain ⟨n, rfl, k⟩ := h
    refine ⟨_, PSs.nox (pss_one (ps_ret (pe_and (pe_cmpR op_gt (pv 0) pe_int (nomark _)) (pe_one (pe_cmpR op_eq (pe_op op_mod (pv 0) pe_int) pe_int (nomark _)))))), ?_⟩
    replace k : Q (.bl (decide (0 < n) && decide (n % 2 = 0))) H := k
    walk_at "rd"
    refine ifD (fun h => ?_) (fun h => ?_)
    · rw [decide_eq_true h] at k
      walk_at "rd"
      exact k
    · rw [decide_eq_false h] at k
      exact k
def ownV (n : Int) : V := if n = 0 then .non else .int ((n - 1) / 2)
theorem sc_p_owner_of : FnScope ["event"] ["event"] (defScope s_p_owner_of) := ⟨rfl, rfl, rfl, by decide +kernel, rfl, by decide +kernel, by decide +kernel⟩
theorem ok_owner_of (F : FD K "owner_of" "owner_of" s_p_owner_of f fd) : FnOk P w K mg base CX0 1 f fd ["event"] (spI1 ownV) := by
  refine F.ok sc_p_owner_of (fun vs H Q E h => ?_) (fun cdv A outer s H vs Q E hr h => ?_)
  · obtain ⟨n, rfl, _⟩ := h
    rfl
  · obtain ⟨n, rfl, k⟩ := h
    refine ⟨_, PSs.nox (pss_one (ps_ret (pe_ifExp (pt_cmpR op_eq (pv 0) pe_int (nomark _)) pe_non (pe_op op_fdiv (pe_op op_sub (pv 0) pe_int) pe_int)))), ?_⟩
    replace k : Q (if n = 0 then .non else .int ((n - 1) / 2)) H := k
    walk_at "rd"
    refine ifD (fun h => ?_) (fun h => ?_)
    · rw [if_pos h] at k
      exact k
    · rw [if_neg h] at k
      walk_at "rd"
      exact k
end
end A68
set_option maxHeartbeats 4000000
/-! The mathematics: briefs, lines, closed tables; a table that is closed bears out all lines. -/
namespace A68
open PySem L2
structure Br where
  tasks : List (Int × Int)
  arrows : List (Int × Int)
  limits : List (Int × Int × Int)
  dl : Int
namespace Br
def n (B : Br) : Nat := B.tasks.length
def lo (B : Br) (i : Int) : Int := (B.tasks.getD i.toNat (0, 0)).1
def hi (B : Br) (i : Int) : Int := (B.tasks.getD i.toNat (0, 0)).2
def dur (B : Br) (i : Nat) : List (Int × Int × Int) := [(2 * (i : Int) + 1, 2 * (i : Int) + 2, B.hi i), (2 * (i : Int) + 2, 2 * (i : Int) + 1, -B.lo i)]
def head (B : Br) : List (Int × Int × Int) := B.limits ++ B.arrows.map (fun p => (2 * p.2 + 1, 2 * p.1 + 2, 0)) ++ (List.range B.n).map (fun (i : Nat) => (0, 2 * (i : Int) + 2, B.dl)) ++ (List.range B.n).map (fun (i : Nat) => (2 * (i : Int) + 1, 0, 0))
def bounds (B : Br) : List (Int × Int × Int) := B.head ++ (List.range B.n).flatMap B.dur
/-- an event -/
def ev (B : Br) (e : Int) : Prop := 0 ≤ e ∧ e ≤ 2 * (B.n : Int)
/-- a task -/
def tk (B : Br) (i : Int) : Prop := 0 ≤ i ∧ i < (B.n : Int)
structure Ok (B : Br) : Prop where
  n1 : 1 ≤ B.n
  n4 : B.n ≤ 4
  du : ∀ i, B.tk i → 1 ≤ B.lo i ∧ B.lo i ≤ B.hi i ∧ B.hi i ≤ 20
  ar : ∀ p ∈ B.arrows, 0 ≤ p.1 ∧ p.1 < p.2 ∧ p.2 < (B.n : Int)
  an : B.arrows.length ≤ 100
  li : ∀ t ∈ B.limits, B.ev t.1 ∧ B.ev t.2.1 ∧ t.1 ≠ t.2.1 ∧ -60 ≤ t.2.2 ∧ t.2.2 ≤ 60
  ln : B.limits.length ≤ 100
  dl : 1 ≤ B.dl ∧ B.dl ≤ 60
end Br
inductive Rs where
  | bound (k : Nat) | high (k : Nat) | sum (k l : Nat) | delay (k l : Nat) | early (k : Nat) | ahead (k : Nat) | floor (k : Nat)
structure Line where
  most : Bool
  a : Int
  b : Int
  w : Int
  r : Rs
/-- the task of an event from one on -/
def own (e : Int) : Int := (e - 1) / 2
def isEnd (e : Int) : Prop := 0 < e ∧ e % 2 = 0
/-- what is ahead of the reason is what the reason gives, from lines ahead of the m-th -/
def Gives (B : Br) (ls : List Line) (m : Nat) (x : Line) : Prop := match x.r with
  | .bound k => x.most = true ∧ B.bounds[k]? = some (x.a, x.b, x.w)
  | .high k => x.most = false ∧ k < B.n ∧ x.a = k ∧ x.b = 2 * (k : Int) + 2 ∧ x.w = B.hi k
  | .sum k l => k < m ∧ l < m ∧ ∃ y z, ls[k]? = some y ∧ ls[l]? = some z ∧ y.most = true ∧ z.most = true ∧ z.a = y.b ∧ x.most = true ∧ x.a = y.a ∧ x.b = z.b ∧ x.w = y.w + z.w
  | .delay k l => k < m ∧ l < m ∧ ∃ y z, ls[k]? = some y ∧ ls[l]? = some z ∧ y.most = false ∧ z.most = true ∧ z.b = y.b ∧ z.a ≠ 2 * y.a + 2 ∧ x.most = false ∧ x.a = y.a ∧ x.b = z.a ∧ x.w = min (B.hi y.a) (y.w - z.w)
  | .early k => k < m ∧ ∃ y, ls[k]? = some y ∧ y.most = true ∧ isEnd y.a ∧ y.w < 0 ∧ x.most = true ∧ x.a = y.a - 1 ∧ x.b = y.b ∧ x.w = B.lo (own y.a) + y.w
  | .ahead k => k < m ∧ ∃ y, ls[k]? = some y ∧ y.most = false ∧ isEnd y.b ∧ own y.b ≠ y.a ∧ 0 < y.w ∧ x.most = false ∧ x.a = y.a ∧ x.b = y.b - 1 ∧ x.w = y.w - B.lo (own y.b)
  | .floor k => k < m ∧ ∃ y, ls[k]? = some y ∧ y.most = false ∧ x.most = true ∧ x.a = y.b ∧ x.b = 2 * y.a + 1 ∧ x.w = -(min y.w (B.lo y.a))
/-- the events and tasks of a line are such -/
def Fits (B : Br) (x : Line) : Prop := if x.most = true then B.ev x.a ∧ B.ev x.b else B.tk x.a ∧ B.ev x.b
/-- all lines are -/
def Lines (B : Br) (ls : List Line) : Prop := ∀ i x, ls[i]? = some x → Gives B ls i x ∧ Fits B x
structure Closed (B : Br) (M W : Int → Int → Int) : Prop where
  diag : ∀ a, B.ev a → M a a = 0
  bnd : ∀ t ∈ B.bounds, M t.1 t.2.1 ≤ t.2.2
  tri : ∀ a b c, B.ev a → B.ev b → B.ev c → M a c ≤ M a b + M b c
  early : ∀ a b, B.ev a → B.ev b → isEnd a → M a b < 0 → M (a - 1) b ≤ B.lo (own a) + M a b
  top : ∀ i, B.tk i → W i (2 * i + 2) = B.hi i
  floor : ∀ i e, B.tk i → B.ev e → M e (2 * i + 1) ≤ -(min (W i e) (B.lo i))
  ahead : ∀ i e, B.tk i → B.ev e → isEnd e → own e ≠ i → 0 < W i e → W i e - B.lo (own e) ≤ W i (e - 1)
  delay : ∀ i e x, B.tk i → B.ev e → B.ev x → x ≠ 2 * i + 2 → min (B.hi i) (W i e - M x e) ≤ W i x
theorem Closed.bears {B : Br} {M W : Int → Int → Int} (c : Closed B M W) {ls : List Line} (hl : Lines B ls) : ∀ (i : Nat) (x : Line), ls[i]? = some x → if x.most = true then M x.a x.b ≤ x.w else x.w ≤ W x.a x.b := by
  intro i
  induction i using Nat.strongRecOn with
  | ind i ih =>
    intro x hx
    obtain ⟨g, f⟩ := hl i x hx
    obtain ⟨mo, a, b, w, r⟩ := x
    cases r with
    | bound k =>
      obtain ⟨h1, h2⟩ := g
      simp only at h1 h2 ⊢
      rw [if_pos h1]
      exact c.bnd _ (List.mem_of_getElem? h2)
    | high k =>
      obtain ⟨h1, h2, h3, h4, h5⟩ := g
      simp only at h1 h2 h3 h4 h5 ⊢
      rw [if_neg (by rw [h1]; decide), h3, h4, h5]
      exact Int.le_of_eq (c.top _ ⟨by omega, by omega⟩).symm
    | sum k l =>
      obtain ⟨h1, h2, y, z, h3, h4, h5, h6, h7, h8, h9, h10, h11⟩ := g
      simp only at h8 h9 h10 h11 ⊢
      have e1 := ih k h1 y h3
      have e2 := ih l h2 z h4
      rw [if_pos h5] at e1
      rw [if_pos h6] at e2
      have f1 := (hl k y h3).2
      have f2 := (hl l z h4).2
      unfold Fits at f1 f2
      rw [if_pos h5] at f1
      rw [if_pos h6] at f2
      have t := c.tri y.a y.b z.b f1.1 f1.2 f2.2
      rw [h7] at e2
      rw [if_pos h8, h9, h10, h11]
      omega
    | delay k l =>
      obtain ⟨h1, h2, y, z, h3, h4, h5, h6, h7, h8, h9, h10, h11, h12⟩ := g
      simp only at h9 h10 h11 h12 ⊢
      have e1 := ih k h1 y h3
      have e2 := ih l h2 z h4
      rw [if_neg (by rw [h5]; decide)] at e1
      rw [if_pos h6] at e2
      have f1 := (hl k y h3).2
      have f2 := (hl l z h4).2
      unfold Fits at f1 f2
      rw [if_neg (by rw [h5]; decide)] at f1
      rw [if_pos h6] at f2
      have t := c.delay y.a y.b z.a f1.1 f1.2 f2.1 h8
      rw [h7] at e2
      rw [if_neg (by rw [h9]; decide), h10, h11, h12]
      omega
    | early k =>
      obtain ⟨h1, y, h3, h5, h6, h7, h8, h9, h10, h11⟩ := g
      simp only at h8 h9 h10 h11 ⊢
      have e1 := ih k h1 y h3
      rw [if_pos h5] at e1
      have f1 := (hl k y h3).2
      unfold Fits at f1
      rw [if_pos h5] at f1
      have t := c.early y.a y.b f1.1 f1.2 h6 (by omega)
      rw [if_pos h8, h9, h10, h11]
      omega
    | ahead k =>
      obtain ⟨h1, y, h3, h5, h6, h7, h8, h9, h10, h11, h12⟩ := g
      simp only at h9 h10 h11 h12 ⊢
      have e1 := ih k h1 y h3
      rw [if_neg (by rw [h5]; decide)] at e1
      have f1 := (hl k y h3).2
      unfold Fits at f1
      rw [if_neg (by rw [h5]; decide)] at f1
      have t := c.ahead y.a y.b f1.1 f1.2 h6 h7 (by omega)
      rw [if_neg (by rw [h9]; decide), h10, h11, h12]
      omega
    | floor k =>
      obtain ⟨h1, y, h3, h5, h8, h9, h10, h11⟩ := g
      simp only at h8 h9 h10 h11 ⊢
      have e1 := ih k h1 y h3
      rw [if_neg (by rw [h5]; decide)] at e1
      have f1 := (hl k y h3).2
      unfold Fits at f1
      rw [if_neg (by rw [h5]; decide)] at f1
      have t := c.floor y.a y.b f1.1 f1.2
      rw [if_pos h8, h9, h10, h11]
      omega
/-- no closed table beside a refutation -/
theorem Closed.norefute {B : Br} {M W : Int → Int → Int} (c : Closed B M W) {ls : List Line} (hl : Lines B ls) {i : Nat} {x : Line} (hx : ls[i]? = some x) (h1 : x.most = true) (h2 : x.a = x.b) (h3 : x.w < 0) : False := by
  have e := c.bears hl i x hx
  rw [if_pos h1, ← h2] at e
  have f := (hl i x hx).2
  unfold Fits at f
  rw [if_pos h1] at f
  rw [c.diag _ f.1] at e
  omega
end A68
set_option maxHeartbeats 4000000
/-! The state of the closing, what a new line does to it. -/
namespace A68
open PySem L2
structure CS where
  lines : List Line
  mosts : List (List Key × V)
  waits : List (List Key × V)
  fault : Option Nat
def wAt (ls : List Line) : V → Option Int
  | .int k => (ls[k.toNat]?).map (·.w)
  | _ => none
namespace CS
def M (st : CS) (a b : Int) : Option Int := (valV st.mosts (kk a b)).bind (wAt st.lines)
def W (st : CS) (i e : Int) : Option Int := (valV st.waits (kk i e)).bind (wAt st.lines)
def addM (st : CS) (a b w : Int) (r : Rs) : CS := ⟨st.lines ++ [⟨true, a, b, w, r⟩], putK st.mosts (kk a b) (.int st.lines.length), st.waits, if a = b then some st.lines.length else st.fault⟩
def addW (st : CS) (i e w : Int) (r : Rs) : CS := ⟨st.lines ++ [⟨false, i, e, w, r⟩], st.mosts, putK st.waits (kk i e) (.int st.lines.length), st.fault⟩
end CS
theorem kk_inj {a b c d : Int} : kk a b = kk c d ↔ a = c ∧ b = d := by
  constructor
  · intro h
    injection h with h1 h2
    injection h2 with h2 _
    exact ⟨Sum.inl.inj h1, Sum.inl.inj h2⟩
  · rintro ⟨rfl, rfl⟩
    rfl
/-- a dict's entries tell lines of one kind -/
def Tells (ls : List Line) (mo : Bool) (kvs : List (List Key × V)) : Prop :=
  ∀ kv ∈ kvs, ∃ (a b : Int) (n : Nat) (x : Line), kv = (kk a b, .int n) ∧ ls[n]? = some x ∧ x.most = mo ∧ x.a = a ∧ x.b = b
structure Val (B : Br) (st : CS) : Prop where
  ls : Lines B st.lines
  mo : Tells st.lines true st.mosts
  mn : (st.mosts.map (·.1)).Nodup
  wa : Tells st.lines false st.waits
  wn : (st.waits.map (·.1)).Nodup
  hi : ∀ i e w, st.W i e = some w → w ≤ B.hi i
  fl : ∀ k, st.fault = some k → ∃ x, st.lines[k]? = some x ∧ x.most = true ∧ x.a = x.b ∧ x.w < 0
  nf : st.fault = none → ∀ a, valV st.mosts (kk a a) = none
  sz : st.mosts.length ≤ st.lines.length ∧ st.waits.length ≤ st.lines.length
theorem ext_get {α : Type} {ls ext : List α} {k : Nat} {y : α} (h : ls[k]? = some y) : (ls ++ ext)[k]? = some y := by
  rw [List.getElem?_append_left (List.getElem?_eq_some_iff.mp h).1]
  exact h
theorem Gives.ext {B : Br} {ls ext : List Line} {m : Nat} {x : Line} (g : Gives B ls m x) : Gives B (ls ++ ext) m x := by
  unfold Gives at g ⊢
  split at g
  · exact g
  · exact g
  · obtain ⟨h1, h2, y, z, h3, h4, h5⟩ := g
    exact ⟨h1, h2, y, z, ext_get h3, ext_get h4, h5⟩
  · obtain ⟨h1, h2, y, z, h3, h4, h5⟩ := g
    exact ⟨h1, h2, y, z, ext_get h3, ext_get h4, h5⟩
  · obtain ⟨h1, y, h3, h5⟩ := g
    exact ⟨h1, y, ext_get h3, h5⟩
  · obtain ⟨h1, y, h3, h5⟩ := g
    exact ⟨h1, y, ext_get h3, h5⟩
  · obtain ⟨h1, y, h3, h5⟩ := g
    exact ⟨h1, y, ext_get h3, h5⟩
theorem Lines.snoc {B : Br} {ls : List Line} {x : Line} (h : Lines B ls) (g : Gives B ls ls.length x) (f : Fits B x) : Lines B (ls ++ [x]) := by
  intro i y hy
  by_cases hi : i < ls.length
  · rw [List.getElem?_append_left hi] at hy
    exact ⟨(h i y hy).1.ext, (h i y hy).2⟩
  · rw [List.getElem?_append_right (by omega)] at hy
    have e : i = ls.length := by
      have := (List.getElem?_eq_some_iff.mp hy).1
      rw [List.length_singleton] at this
      omega
    subst e
    simp only [Nat.sub_self, List.getElem?_cons_zero, Option.some.injEq] at hy
    subst hy
    exact ⟨g.ext, f⟩
theorem valV_mem {κ : Type} [DecidableEq κ] {kvs : List (κ × V)} {k : κ} {v : V} (h : valV kvs k = some v) : (k, v) ∈ kvs := by
  unfold valV at h
  obtain ⟨kv, h1, h2⟩ := Option.map_eq_some_iff.mp h
  have h3 := List.find?_some h1
  have h4 : kv.1 = k := of_decide_eq_true h3
  rw [← h4, ← h2]
  exact List.mem_of_find?_eq_some h1
theorem mem_valV {κ : Type} [DecidableEq κ] : ∀ {kvs : List (κ × V)} {k : κ} {v : V}, (kvs.map (·.1)).Nodup → (k, v) ∈ kvs → valV kvs k = some v
  | [], _, _, _, h => nomatch h
  | p :: ps, k, v, nd, h => by
    obtain ⟨n1, n2⟩ := List.nodup_cons.mp (show (p.1 :: ps.map (·.1)).Nodup from nd)
    rcases List.mem_cons.mp h with e | h
    · subst e
      exact valV_pos rfl
    · rw [valV_neg fun e => n1 (by rw [e]; exact List.mem_map.mpr ⟨_, h, rfl⟩)]
      exact mem_valV n2 h
theorem putK_keys {κ : Type} [DecidableEq κ] (kvs : List (κ × V)) (k : κ) (v : V) : ∃ ext, (putK kvs k v).map (·.1) = kvs.map (·.1) ++ ext := by
  unfold putK
  split
  · refine ⟨[], ?_⟩
    rw [List.map_map, List.append_nil]
    refine List.map_congr_left fun p _ => ?_
    simp only [Function.comp]
    split <;> simp_all
  · exact ⟨[k], by rw [List.map_append]; rfl⟩
theorem putK_mem {κ : Type} [DecidableEq κ] {kvs : List (κ × V)} {k : κ} {v : V} {p : κ × V} (h : p ∈ putK kvs k v) : p = (k, v) ∨ p ∈ kvs := by
  unfold putK at h
  split at h
  · obtain ⟨q, h1, h2⟩ := List.mem_map.mp h
    split at h2
    · rename_i e
      rw [← h2, e]
      exact .inl rfl
    · rw [← h2]
      exact .inr h1
  · rcases List.mem_append.mp h with h | h
    · exact .inr h
    · exact .inl (List.mem_singleton.mp h)
theorem putK_nd {κ : Type} [DecidableEq κ] {kvs : List (κ × V)} (k : κ) (v : V) (nd : (kvs.map (·.1)).Nodup) : ((putK kvs k v).map (·.1)).Nodup := by
  cases e : valV kvs k with
  | none =>
    rw [putK_new v e, List.map_append]
    refine List.nodup_append.mpr ⟨nd, List.pairwise_singleton _ _, fun a ha b hb => ?_⟩
    have hb' : b = k := List.mem_singleton.mp hb
    rw [hb']
    rintro rfl
    obtain ⟨p, h1, h2⟩ := List.mem_map.mp ha
    have := mem_valV nd (show (a, p.2) ∈ kvs by rw [← h2]; exact h1)
    rw [e] at this
    cases this
  | some u =>
    have : (putK kvs k v).map (·.1) = kvs.map (·.1) := by
      have he : (kvs.any fun kv => decide (kv.1 = k)) = true := by rw [valV_any, e]; rfl
      unfold putK
      rw [if_pos he, List.map_map]
      refine List.map_congr_left fun p _ => ?_
      simp only [Function.comp]
      split <;> simp_all
    rw [this]
    exact nd
/-! ### what an entry tells -/
theorem Tells.at_ {ls : List Line} {mo : Bool} {kvs : List (List Key × V)} (t : Tells ls mo kvs) {a b : Int} {v : V} (h : valV kvs (kk a b) = some v) : ∃ (n : Nat) (x : Line), v = .int n ∧ ls[n]? = some x ∧ x.most = mo ∧ x.a = a ∧ x.b = b := by
  obtain ⟨c, d, n, x, e, h1, h2, h3, h4⟩ := t _ (valV_mem h)
  injection e with e1 e2
  obtain ⟨rfl, rfl⟩ := kk_inj.mp e1
  exact ⟨n, x, e2, h1, h2, h3, h4⟩
theorem wAt_int {ls : List Line} {n : Nat} {x : Line} (h : ls[n]? = some x) : wAt ls (.int n) = some x.w := by
  show (ls[((n : Nat) : Int).toNat]?).map (·.w) = _
  rw [Int.toNat_natCast, h]
  rfl
theorem Tells.w {ls : List Line} {mo : Bool} {kvs : List (List Key × V)} (t : Tells ls mo kvs) {a b : Int} {v : V} (h : valV kvs (kk a b) = some v) : ∃ (n : Nat) (x : Line), v = .int n ∧ ls[n]? = some x ∧ x.most = mo ∧ x.a = a ∧ x.b = b ∧ (valV kvs (kk a b)).bind (wAt ls) = some x.w := by
  obtain ⟨n, x, e, h1, h2, h3, h4⟩ := t.at_ h
  refine ⟨n, x, e, h1, h2, h3, h4, ?_⟩
  rw [h, e]
  exact wAt_int h1
theorem Tells.ext {ls ext : List Line} {mo : Bool} {kvs : List (List Key × V)} (t : Tells ls mo kvs) : Tells (ls ++ ext) mo kvs := fun kv h => by
  obtain ⟨a, b, n, x, e, h1, h2⟩ := t kv h
  exact ⟨a, b, n, x, e, ext_get h1, h2⟩
theorem Tells.put {ls : List Line} {kvs : List (List Key × V)} {x : Line} (t : Tells ls x.most kvs) : Tells (ls ++ [x]) x.most (putK kvs (kk x.a x.b) (.int ls.length)) := fun kv h => by
  rcases putK_mem h with e | h
  · exact ⟨x.a, x.b, ls.length, x, e, by simp, rfl, rfl, rfl⟩
  · exact t.ext kv h
/-- looked up behind a new line -/
theorem Tells.look {ls ext : List Line} {mo : Bool} {kvs : List (List Key × V)} (t : Tells ls mo kvs) (a b : Int) : (valV kvs (kk a b)).bind (wAt (ls ++ ext)) = (valV kvs (kk a b)).bind (wAt ls) := by
  cases e : valV kvs (kk a b) with
  | none => rfl
  | some v =>
    obtain ⟨n, x, ev, h1, _⟩ := t.at_ e
    show wAt (ls ++ ext) v = wAt ls v
    rw [ev, wAt_int h1, wAt_int (ext_get h1)]
theorem look_put {ls : List Line} {kvs : List (List Key × V)} {x : Line} {mo : Bool} (t : Tells ls mo kvs) (a b : Int) :
    (valV (putK kvs (kk x.a x.b) (.int ls.length)) (kk a b)).bind (wAt (ls ++ [x])) = if a = x.a ∧ b = x.b then some x.w else (valV kvs (kk a b)).bind (wAt ls) := by
  rw [valV_put]
  by_cases e : a = x.a ∧ b = x.b
  · rw [if_pos (kk_inj.mpr e), if_pos e]
    exact wAt_int (by simp)
  · rw [if_neg (fun z => e (kk_inj.mp z)), if_neg e]
    exact t.look a b
section
variable {B : Br} {st : CS} {a b w : Int} {r : Rs}
theorem Val.M_addM (v : Val B st) (c d : Int) : (st.addM a b w r).M c d = if c = a ∧ d = b then some w else st.M c d := look_put (x := ⟨true, a, b, w, r⟩) v.mo c d
theorem Val.W_addM (v : Val B st) (c d : Int) : (st.addM a b w r).W c d = st.W c d := v.wa.look c d
theorem Val.W_addW (v : Val B st) (c d : Int) : (st.addW a b w r).W c d = if c = a ∧ d = b then some w else st.W c d := look_put (x := ⟨false, a, b, w, r⟩) v.wa c d
theorem Val.M_addW (v : Val B st) (c d : Int) : (st.addW a b w r).M c d = st.M c d := v.mo.look c d
theorem Val.addM (v : Val B st) (g : Gives B st.lines st.lines.length ⟨true, a, b, w, r⟩) (ea : B.ev a) (eb : B.ev b) (d : a = b → w < 0) : Val B (st.addM a b w r) where
  ls := v.ls.snoc g (by unfold Fits; rw [if_pos rfl]; exact ⟨ea, eb⟩)
  mo := Tells.put (x := ⟨true, a, b, w, r⟩) v.mo
  mn := putK_nd _ _ v.mn
  wa := v.wa.ext
  wn := v.wn
  hi i e x h := v.hi i e x (by rw [v.W_addM] at h; exact h)
  fl k h := by
    change (if a = b then some st.lines.length else st.fault) = some k at h
    show ∃ x, (st.lines ++ [⟨true, a, b, w, r⟩])[k]? = some x ∧ _
    by_cases e : a = b
    · rw [if_pos e] at h
      rw [← Option.some.inj h]
      exact ⟨⟨true, a, b, w, r⟩, by simp, rfl, e, d e⟩
    · rw [if_neg e] at h
      obtain ⟨x, h1, h2⟩ := v.fl k h
      exact ⟨x, ext_get h1, h2⟩
  nf h c := by
    change (if a = b then some st.lines.length else st.fault) = none at h
    by_cases e : a = b
    · rw [if_pos e] at h
      cases h
    · rw [if_neg e] at h
      show valV (putK st.mosts (kk a b) _) (kk c c) = none
      rw [valV_put, if_neg fun z => e ((kk_inj.mp z).1.symm.trans (kk_inj.mp z).2)]
      exact v.nf h c
  sz := by
    have h1 := length_putK st.mosts (kk a b) (.int st.lines.length)
    have h2 := v.sz
    show (putK st.mosts (kk a b) (.int st.lines.length)).length ≤ (st.lines ++ [(⟨true, a, b, w, r⟩ : Line)]).length ∧ st.waits.length ≤ (st.lines ++ [(⟨true, a, b, w, r⟩ : Line)]).length
    rw [List.length_append, List.length_singleton]
    omega
theorem Val.addW (v : Val B st) (g : Gives B st.lines st.lines.length ⟨false, a, b, w, r⟩) (ea : B.tk a) (eb : B.ev b) (d : w ≤ B.hi a) : Val B (st.addW a b w r) where
  ls := v.ls.snoc g (by unfold Fits; rw [if_neg Bool.false_ne_true]; exact ⟨ea, eb⟩)
  mo := v.mo.ext
  mn := v.mn
  wa := Tells.put (x := ⟨false, a, b, w, r⟩) v.wa
  wn := putK_nd _ _ v.wn
  hi i e x h := by
    rw [v.W_addW] at h
    by_cases z : i = a ∧ e = b
    · rw [if_pos z] at h
      rw [← Option.some.inj h, z.1]
      exact d
    · rw [if_neg z] at h
      exact v.hi i e x h
  fl k h := by
    obtain ⟨x, h1, h2⟩ := v.fl k h
    exact ⟨x, ext_get h1, h2⟩
  nf h c := v.nf h c
  sz := by
    have h1 := length_putK st.waits (kk a b) (.int st.lines.length)
    have h2 := v.sz
    show st.mosts.length ≤ (st.lines ++ [(⟨false, a, b, w, r⟩ : Line)]).length ∧ (putK st.waits (kk a b) (.int st.lines.length)).length ≤ (st.lines ++ [(⟨false, a, b, w, r⟩ : Line)]).length
    rw [List.length_append, List.length_singleton]
    omega
end
/-! ### a number that falls with each line -/
def sum1 (p : Nat) (f : Nat → Int) : Int := ((List.range p).map f).sum
theorem sum1_succ (p : Nat) (f : Nat → Int) : sum1 (p + 1) f = sum1 p f + f p := by
  unfold sum1
  rw [List.range_succ, List.map_append, List.sum_append]
  simp
theorem sum1_le {f g : Nat → Int} : ∀ {p : Nat}, (∀ a, a < p → f a ≤ g a) → sum1 p f ≤ sum1 p g
  | 0, _ => Int.le_refl _
  | p + 1, h => by
    rw [sum1_succ, sum1_succ]
    have := sum1_le (p := p) fun a ha => h a (by omega)
    have := h p (by omega)
    omega
theorem sum1_lt {f g : Nat → Int} : ∀ {p : Nat}, (∀ a, a < p → f a ≤ g a) → ∀ a0, a0 < p → f a0 + 1 ≤ g a0 → sum1 p f + 1 ≤ sum1 p g
  | 0, _, _, h, _ => absurd h (by omega)
  | p + 1, h, a0, h0, h1 => by
    rw [sum1_succ, sum1_succ]
    by_cases e : a0 = p
    · have := sum1_le (p := p) fun a ha => h a (by omega)
      rw [e] at h1
      omega
    · have := sum1_lt (p := p) (fun a ha => h a (by omega)) a0 (by omega) h1
      have := h p (by omega)
      omega
theorem sum1_nn {f : Nat → Int} : ∀ {p : Nat}, (∀ a, a < p → 0 ≤ f a) → 0 ≤ sum1 p f
  | 0, _ => Int.le_refl _
  | p + 1, h => by
    rw [sum1_succ]
    have := sum1_nn (p := p) fun a ha => h a (by omega)
    have := h p (by omega)
    omega
theorem sum1_ub {f : Nat → Int} {c : Int} : ∀ {p : Nat}, (∀ a, a < p → f a ≤ c) → sum1 p f ≤ p * c
  | 0, _ => by simp [sum1]
  | p + 1, h => by
    rw [sum1_succ]
    have h1 := sum1_ub (p := p) fun a ha => h a (by omega)
    have h2 := h p (by omega)
    have h3 : ((p + 1 : Nat) : Int) * c = p * c + c := by
      rw [Int.natCast_add, Int.add_mul]
      simp
    omega
def gM (st : CS) (a b : Nat) : Int := if a = b then 0 else (st.M a b).getD 0 + 60
def gW (st : CS) (i e : Nat) : Int := 20 - (st.W i e).getD 0
def Phi (B : Br) (st : CS) : Int := sum1 (2 * B.n + 1) (fun a => sum1 (2 * B.n + 1) (gM st a)) + sum1 B.n (fun i => sum1 (2 * B.n + 1) (gW st i))
def AllP (B : Br) (st : CS) : Prop := (∀ a b, B.ev a → B.ev b → a ≠ b → ∃ w, st.M a b = some w) ∧ ∀ i e, B.tk i → B.ev e → ∃ w, st.W i e = some w
/-- a state and a later one -/
structure R (B : Br) (st st' : CS) : Prop where
  pre : ∃ ext, st'.lines = st.lines ++ ext
  same : st'.lines.length = st.lines.length → st' = st
  flt : st'.fault = none → st.fault = none
  mo : ∀ a b w, st.M a b = some w → ∃ w', st'.M a b = some w' ∧ w' ≤ w
  wa : ∀ i e w, st.W i e = some w → ∃ w', st'.W i e = some w' ∧ w ≤ w'
  kM : ∃ ext, st'.mosts.map (·.1) = st.mosts.map (·.1) ++ ext
  kW : ∃ ext, st'.waits.map (·.1) = st.waits.map (·.1) ++ ext
  pot : AllP B st → st'.fault = none → (st'.lines.length : Int) + Phi B st' ≤ st.lines.length + Phi B st
theorem R.allP {B : Br} {st st' : CS} (mo : ∀ a b w, st.M a b = some w → ∃ w', st'.M a b = some w' ∧ w' ≤ w) (wa : ∀ i e w, st.W i e = some w → ∃ w', st'.W i e = some w' ∧ w ≤ w') (h : AllP B st) : AllP B st' :=
  ⟨fun a b ha hb n => let ⟨w, e⟩ := h.1 a b ha hb n; let ⟨w', e', _⟩ := mo a b w e; ⟨w', e'⟩, fun i e hi he => let ⟨w, q⟩ := h.2 i e hi he; let ⟨w', q', _⟩ := wa i e w q; ⟨w', q'⟩⟩
theorem R.refl {B : Br} (st : CS) : R B st st := ⟨⟨[], (List.append_nil _).symm⟩, fun _ => rfl, id, fun _ _ w h => ⟨w, h, Int.le_refl _⟩, fun _ _ w h => ⟨w, h, Int.le_refl _⟩, ⟨[], (List.append_nil _).symm⟩, ⟨[], (List.append_nil _).symm⟩, fun _ _ => Int.le_refl _⟩
theorem R.le {B : Br} {st st' : CS} (r : R B st st') : st.lines.length ≤ st'.lines.length := by
  obtain ⟨e, h⟩ := r.pre
  rw [h, List.length_append]
  omega
theorem R.trans {B : Br} {a b c : CS} (x : R B a b) (y : R B b c) : R B a c where
  pre := by
    obtain ⟨e, h⟩ := x.pre
    obtain ⟨f, g⟩ := y.pre
    exact ⟨e ++ f, by rw [g, h, List.append_assoc]⟩
  same h := by
    have h1 := x.le
    have h2 := y.le
    have e1 := x.same (by omega)
    have e2 := y.same (by omega)
    rw [e2, e1]
  flt h := x.flt (y.flt h)
  mo p q w h := by
    obtain ⟨w1, h1, l1⟩ := x.mo p q w h
    obtain ⟨w2, h2, l2⟩ := y.mo p q w1 h1
    exact ⟨w2, h2, Int.le_trans l2 l1⟩
  wa p q w h := by
    obtain ⟨w1, h1, l1⟩ := x.wa p q w h
    obtain ⟨w2, h2, l2⟩ := y.wa p q w1 h1
    exact ⟨w2, h2, Int.le_trans l1 l2⟩
  kM := by
    obtain ⟨e, h⟩ := x.kM
    obtain ⟨f, g⟩ := y.kM
    exact ⟨e ++ f, by rw [g, h, List.append_assoc]⟩
  kW := by
    obtain ⟨e, h⟩ := x.kW
    obtain ⟨f, g⟩ := y.kW
    exact ⟨e ++ f, by rw [g, h, List.append_assoc]⟩
  pot h f := by
    have h1 := x.pot h (y.flt f)
    have h2 := y.pot (R.allP x.mo x.wa h) f
    omega
theorem Val.R_addM {B : Br} {st : CS} {a b w : Int} {r : Rs} (v : Val B st) (ha : B.ev a) (hb : B.ev b) (imp : ∀ u, st.M a b = some u → w < u) : R B st (st.addM a b w r) where
  pre := ⟨[⟨true, a, b, w, r⟩], rfl⟩
  same h := by
    have : (st.lines ++ [(⟨true, a, b, w, r⟩ : Line)]).length = st.lines.length := h
    rw [List.length_append, List.length_singleton] at this
    omega
  flt h := by
    change (if a = b then some st.lines.length else st.fault) = none at h
    by_cases e : a = b
    · rw [if_pos e] at h
      cases h
    · rw [if_neg e] at h
      exact h
  mo c d u h := by
    rw [v.M_addM]
    by_cases z : c = a ∧ d = b
    · rw [if_pos z]
      rw [z.1, z.2] at h
      exact ⟨w, rfl, Int.le_of_lt (imp u h)⟩
    · rw [if_neg z]
      exact ⟨u, h, Int.le_refl _⟩
  wa c d u h := ⟨u, by rw [v.W_addM]; exact h, Int.le_refl _⟩
  kM := putK_keys _ _ _
  kW := ⟨[], (List.append_nil _).symm⟩
  pot h f := by
    have n : a ≠ b := fun e => by
      change (if a = b then some st.lines.length else st.fault) = none at f
      rw [if_pos e] at f
      cases f
    obtain ⟨u, hu⟩ := h.1 a b ha hb n
    have lt := imp u hu
    have e1 : ((st.addM a b w r).lines.length : Int) = st.lines.length + 1 := by
      show (((st.lines ++ [(⟨true, a, b, w, r⟩ : Line)]).length : Nat) : Int) = _
      rw [List.length_append, List.length_singleton]
      omega
    have za : ((a.toNat : Nat) : Int) = a := by have := ha.1; omega
    have zb : ((b.toNat : Nat) : Int) = b := by have := hb.1; omega
    have each : ∀ c d : Nat, gM (st.addM a b w r) c d ≤ gM st c d := fun c d => by
      unfold gM
      by_cases e : c = d
      · rw [if_pos e, if_pos e]
        exact Int.le_refl _
      · rw [if_neg e, if_neg e, v.M_addM]
        by_cases z : (c : Int) = a ∧ (d : Int) = b
        · rw [if_pos z, z.1, z.2, hu]
          simp only [Option.getD_some]
          omega
        · rw [if_neg z]
          exact Int.le_refl _
    have one : gM (st.addM a b w r) a.toNat b.toNat + 1 ≤ gM st a.toNat b.toNat := by
      unfold gM
      have e : ¬ a.toNat = b.toNat := fun e => n (by omega)
      rw [if_neg e, if_neg e, v.M_addM, za, zb, if_pos ⟨rfl, rfl⟩, hu]
      simp only [Option.getD_some]
      omega
    have la : a.toNat < 2 * B.n + 1 := by have := ha.2; omega
    have lb : b.toNat < 2 * B.n + 1 := by have := hb.2; omega
    have s1 : sum1 (2 * B.n + 1) (fun c => sum1 (2 * B.n + 1) (gM (st.addM a b w r) c)) + 1 ≤ sum1 (2 * B.n + 1) (fun c => sum1 (2 * B.n + 1) (gM st c)) :=
      sum1_lt (fun c _ => sum1_le fun d _ => each c d) a.toNat la (sum1_lt (fun d _ => each _ d) b.toNat lb one)
    have s2 : sum1 B.n (fun i => sum1 (2 * B.n + 1) (gW (st.addM a b w r) i)) = sum1 B.n (fun i => sum1 (2 * B.n + 1) (gW st i)) := by
      have : gW (st.addM a b w r) = gW st := by
        funext i e
        unfold gW
        rw [v.W_addM]
      rw [this]
    unfold Phi
    omega
theorem Val.R_addW {B : Br} {st : CS} {a b w : Int} {r : Rs} (v : Val B st) (ha : B.tk a) (hb : B.ev b) (imp : ∀ u, st.W a b = some u → u < w) : R B st (st.addW a b w r) where
  pre := ⟨[⟨false, a, b, w, r⟩], rfl⟩
  same h := by
    have : (st.lines ++ [(⟨false, a, b, w, r⟩ : Line)]).length = st.lines.length := h
    rw [List.length_append, List.length_singleton] at this
    omega
  flt h := h
  mo c d u h := ⟨u, by rw [v.M_addW]; exact h, Int.le_refl _⟩
  wa c d u h := by
    rw [v.W_addW]
    by_cases z : c = a ∧ d = b
    · rw [if_pos z]
      rw [z.1, z.2] at h
      exact ⟨w, rfl, Int.le_of_lt (imp u h)⟩
    · rw [if_neg z]
      exact ⟨u, h, Int.le_refl _⟩
  kM := ⟨[], (List.append_nil _).symm⟩
  kW := putK_keys _ _ _
  pot h f := by
    obtain ⟨u, hu⟩ := h.2 a b ha hb
    have lt := imp u hu
    have e1 : ((st.addW a b w r).lines.length : Int) = st.lines.length + 1 := by
      show (((st.lines ++ [(⟨false, a, b, w, r⟩ : Line)]).length : Nat) : Int) = _
      rw [List.length_append, List.length_singleton]
      omega
    have za : ((a.toNat : Nat) : Int) = a := by have := ha.1; omega
    have zb : ((b.toNat : Nat) : Int) = b := by have := hb.1; omega
    have each : ∀ c d : Nat, gW (st.addW a b w r) c d ≤ gW st c d := fun c d => by
      unfold gW
      rw [v.W_addW]
      by_cases z : (c : Int) = a ∧ (d : Int) = b
      · rw [if_pos z, z.1, z.2, hu]
        simp only [Option.getD_some]
        omega
      · rw [if_neg z]
        exact Int.le_refl _
    have one : gW (st.addW a b w r) a.toNat b.toNat + 1 ≤ gW st a.toNat b.toNat := by
      unfold gW
      rw [v.W_addW, za, zb, if_pos ⟨rfl, rfl⟩, hu]
      simp only [Option.getD_some]
      omega
    have la : a.toNat < B.n := by have := ha.1; have := ha.2; omega
    have lb : b.toNat < 2 * B.n + 1 := by have := hb.2; omega
    have s1 : sum1 B.n (fun c => sum1 (2 * B.n + 1) (gW (st.addW a b w r) c)) + 1 ≤ sum1 B.n (fun c => sum1 (2 * B.n + 1) (gW st c)) :=
      sum1_lt (fun c _ => sum1_le fun d _ => each c d) a.toNat la (sum1_lt (fun d _ => each _ d) b.toNat lb one)
    have s2 : sum1 (2 * B.n + 1) (fun i => sum1 (2 * B.n + 1) (gM (st.addW a b w r) i)) = sum1 (2 * B.n + 1) (fun i => sum1 (2 * B.n + 1) (gM st i)) := by
      have : gM (st.addW a b w r) = gM st := by
        funext i e
        unfold gM
        rw [v.M_addW]
      rw [this]
    unfold Phi
    omega
end A68
set_option maxRecDepth 100000
set_option maxHeartbeats 4000000
/-! How lines, briefs and a Closing lie in the heap. -/
namespace A68
open PySem PySem.Spec PyProof.Rows L2
def Rs.vs : Rs → List V
  | .bound k => [.str "bound", .int (k : Nat)]
  | .high k => [.str "high", .int (k : Nat)]
  | .sum k l => [.str "sum", .int (k : Nat), .int (l : Nat)]
  | .delay k l => [.str "delay", .int (k : Nat), .int (l : Nat)]
  | .early k => [.str "early", .int (k : Nat)]
  | .ahead k => [.str "ahead", .int (k : Nat)]
  | .floor k => [.str "floor", .int (k : Nat)]
def kindS (m : Bool) : Str := if m = true then "most" else "wait"
/-- a line -/
def LineAt (H : Hp) (v : V) (x : Line) : Prop := ∃ p q, v = .ref p ∧ H p = some (.tup [.str (kindS x.most), .int x.a, .int x.b, .int x.w, .ref q]) ∧ H q = some (.tup x.r.vs)
abbrev LinesAt (H : Hp) : List V → List Line → Prop := Paired (LineAt H)
section
variable {S : List Addr} {H H1 : Hp}
theorem LineAt.fm (f : Fm S H H1) {v : V} {x : Line} : LineAt H v x → LineAt H1 v x := fun ⟨p, q, e, h1, h2⟩ => ⟨p, q, e, f.tup _ _ h1, f.tup _ _ h2⟩
theorem LinesAt.fm (f : Fm S H H1) : ∀ {vs : List V} {ls : List Line}, LinesAt H vs ls → LinesAt H1 vs ls
  | _, _, .nil => .nil
  | _, _, .cons h t => .cons (h.fm f) (LinesAt.fm f t)
theorem LinesAt.get : ∀ {vs : List V} {ls : List Line} {i : Nat} {x : Line}, LinesAt H vs ls → ls[i]? = some x → ∃ v, vs[i]? = some v ∧ LineAt H v x
  | _, _, 0, _, .cons h _, q => by
    cases Option.some.inj q
    exact ⟨_, rfl, h⟩
  | _, _, i + 1, _, .cons _ t, q => LinesAt.get (i := i) t q
  | _, _, i, _, .nil, q => by simp at q
theorem LinesAt.snoc {x : Line} {v : V} (h : LineAt H v x) : ∀ {vs : List V} {ls : List Line}, LinesAt H vs ls → LinesAt H (vs ++ [v]) (ls ++ [x])
  | _, _, .nil => .cons h .nil
  | _, _, .cons a t => .cons a (LinesAt.snoc h t)
theorem LinesAt.len : ∀ {vs : List V} {ls : List Line}, LinesAt H vs ls → vs.length = ls.length := Paired.length
end
/-! ### a brief -/
structure BA where
  b : Addr
  pr : Addr
  ts : Addr
  ar : Addr
  lm : Addr
  tv : List V
  av : List V
  lv : List V
def rowT (t : Int × Int) : List V := [.int t.1, .int t.2]
def rowL (t : Int × Int × Int) : List V := [.int t.1, .int t.2.1, .int t.2.2]
structure BriefAt (H : Hp) (A : BA) (B : Br) : Prop where
  hb : H A.b = some (.tup [.ref A.pr, .ref A.lm, .int B.dl])
  hp : H A.pr = some (.tup [.ref A.ts, .ref A.ar])
  ht : H A.ts = some (.tup A.tv)
  rt : Rows H A.tv (B.tasks.map rowT)
  ha : H A.ar = some (.tup A.av)
  ra : Rows H A.av (B.arrows.map rowT)
  hl : H A.lm = some (.tup A.lv)
  rl : Rows H A.lv (B.limits.map rowL)
theorem BriefAt.fm {S : List Addr} {H H1 : Hp} {A : BA} {B : Br} (f : Fm S H H1) (h : BriefAt H A B) : BriefAt H1 A B :=
  ⟨f.tup _ _ h.hb, f.tup _ _ h.hp, f.tup _ _ h.ht, h.rt.fm f, f.tup _ _ h.ha, h.ra.fm f, f.tup _ _ h.hl, h.rl.fm f⟩
theorem BriefAt.task {H : Hp} {A : BA} {B : Br} (h : BriefAt H A B) {i : Int} (hi : B.tk i) : ∃ a, A.tv[i.toNat]? = some (.ref a) ∧ H a = some (.tup [.int (B.lo i), .int (B.hi i)]) := by
  have l : i.toNat < B.tasks.length := by
    have := hi.2
    unfold Br.n at this
    have := hi.1
    omega
  have e : (B.tasks.map rowT)[i.toNat]? = some [.int (B.lo i), .int (B.hi i)] := by
    rw [List.getElem?_map, List.getElem?_eq_getElem l]
    unfold Br.lo Br.hi
    rw [List.getD_eq_getElem?_getD, List.getElem?_eq_getElem l]
    rfl
  exact h.rt.get e
/-! ### a Closing -/
/-- where it lies -/
structure CA where
  dx : Addr
  ts : Addr
  ev : Addr
  l : Addr
  m : Addr
  w : Addr
  tv : List V
def fV : Option Nat → V
  | none => .non
  | some k => .int (k : Nat)
def cf (A : CA) (f : V) : List (Str × V) :=
  putF "fault" f (putF "waits" (.ref A.w) (putF "mosts" (.ref A.m) (putF "lines" (.ref A.l) (putF "every" (.ref A.ev) (putF "tasks" (.ref A.ts) [])))))
theorem fne : ¬ (("tasks" : Str) = "fault") ∧ ¬ (("tasks" : Str) = "waits") ∧ ¬ (("tasks" : Str) = "mosts") ∧ ¬ (("tasks" : Str) = "lines") ∧ ¬ (("tasks" : Str) = "every") ∧
    ¬ (("every" : Str) = "fault") ∧ ¬ (("every" : Str) = "waits") ∧ ¬ (("every" : Str) = "mosts") ∧ ¬ (("every" : Str) = "lines") ∧
    ¬ (("lines" : Str) = "fault") ∧ ¬ (("lines" : Str) = "waits") ∧ ¬ (("lines" : Str) = "mosts") ∧
    ¬ (("mosts" : Str) = "fault") ∧ ¬ (("mosts" : Str) = "waits") ∧ ¬ (("waits" : Str) = "fault") := by decide +kernel
theorem cf_fault {A : CA} {f : V} : (cf A f).lookup ("fault" : Str) = some f := by
  unfold cf
  rw [lookup_putF, if_pos rfl]
theorem cf_waits {A : CA} {f : V} : (cf A f).lookup ("waits" : Str) = some (.ref A.w) := by
  unfold cf
  obtain ⟨a1, a2, a3, a4, a5, b1, b2, b3, b4, c1, c2, c3, d1, d2, e1⟩ := fne
  rw [lookup_putF, if_neg e1, lookup_putF, if_pos rfl]
theorem cf_mosts {A : CA} {f : V} : (cf A f).lookup ("mosts" : Str) = some (.ref A.m) := by
  unfold cf
  obtain ⟨a1, a2, a3, a4, a5, b1, b2, b3, b4, c1, c2, c3, d1, d2, e1⟩ := fne
  rw [lookup_putF, if_neg d1, lookup_putF, if_neg d2, lookup_putF, if_pos rfl]
theorem cf_lines {A : CA} {f : V} : (cf A f).lookup ("lines" : Str) = some (.ref A.l) := by
  unfold cf
  obtain ⟨a1, a2, a3, a4, a5, b1, b2, b3, b4, c1, c2, c3, d1, d2, e1⟩ := fne
  rw [lookup_putF, if_neg c1, lookup_putF, if_neg c2, lookup_putF, if_neg c3, lookup_putF, if_pos rfl]
theorem cf_every {A : CA} {f : V} : (cf A f).lookup ("every" : Str) = some (.ref A.ev) := by
  unfold cf
  obtain ⟨a1, a2, a3, a4, a5, b1, b2, b3, b4, c1, c2, c3, d1, d2, e1⟩ := fne
  rw [lookup_putF, if_neg b1, lookup_putF, if_neg b2, lookup_putF, if_neg b3, lookup_putF, if_neg b4, lookup_putF, if_pos rfl]
theorem cf_tasks {A : CA} {f : V} : (cf A f).lookup ("tasks" : Str) = some (.ref A.ts) := by
  unfold cf
  obtain ⟨a1, a2, a3, a4, a5, b1, b2, b3, b4, c1, c2, c3, d1, d2, e1⟩ := fne
  rw [lookup_putF, if_neg a1, lookup_putF, if_neg a2, lookup_putF, if_neg a3, lookup_putF, if_neg a4, lookup_putF, if_neg a5, lookup_putF, if_pos rfl]
theorem cf_none {A : CA} {f : V} {x : Str} (h : ¬ x = "fault" ∧ ¬ x = "waits" ∧ ¬ x = "mosts" ∧ ¬ x = "lines" ∧ ¬ x = "every" ∧ ¬ x = "tasks") : (cf A f).lookup x = none := by
  unfold cf
  rw [lookup_putF, if_neg h.1, lookup_putF, if_neg h.2.1, lookup_putF, if_neg h.2.2.1, lookup_putF, if_neg h.2.2.2.1, lookup_putF, if_neg h.2.2.2.2.1, lookup_putF, if_neg h.2.2.2.2.2]
  rfl
theorem putF_putF (x : Str) (u v : V) : ∀ fs : List (Str × V), putF x v (putF x u fs) = putF x v fs
  | [] => by
    show putF x v [(x, u)] = [(x, v)]
    unfold putF
    rw [if_pos rfl]
  | (g, y) :: r => by
    by_cases e : g = x
    · simp [putF, e]
    · simp [putF, e, putF_putF x u v r]
theorem cf_put {A : CA} {f g : V} : putF "fault" g (cf A f) = cf A g := by
  unfold cf
  rw [putF_putF]
theorem cf_len {A : CA} {f : V} : (cf A f).length < 1000 := by
  unfold cf
  refine Nat.lt_of_le_of_lt (length_putF _ _ _) (Nat.succ_lt_succ (Nat.lt_of_le_of_lt (length_putF _ _ _) (Nat.succ_lt_succ (Nat.lt_of_le_of_lt (length_putF _ _ _) (Nat.succ_lt_succ (Nat.lt_of_le_of_lt (length_putF _ _ _) (Nat.succ_lt_succ (Nat.lt_of_le_of_lt (length_putF _ _ _) (Nat.succ_lt_succ (Nat.lt_of_le_of_lt (length_putF _ _ _) ?_))))))))))
  decide
def evV (B : Br) : List V := rgV 0 (2 * (B.n : Int) + 1)
structure CAt (C : Addr) (B : Br) (H : Hp) (p : Addr) (A : CA) (st : CS) : Prop where
  ob : H p = some (.ins C A.dx (cf A (fV st.fault)))
  ht : H A.ts = some (.tup A.tv)
  rt : Rows H A.tv (B.tasks.map rowT)
  ev : H A.ev = some (.lst (evV B))
  ln : ∃ vs, H A.l = some (.lst vs) ∧ LinesAt H vs st.lines
  mo : H A.m = some (.dT st.mosts)
  wa : H A.w = some (.dT st.waits)
  nl : A.l ≠ A.ev
  nm : A.m ≠ A.w
/-- what the methods may change -/
abbrev CA.ch (A : CA) (p : Addr) : List Addr := [p, A.l, A.m, A.w]
section
variable {C : Addr} {B : Br} {H H1 : Hp} {p : Addr} {A : CA} {st : CS}
theorem CAt.fm {S : List Addr} (f : Fm S H H1) (c : CAt C B H p A st) (n : ∀ b ∈ S, b ≠ p ∧ b ≠ A.ev ∧ b ≠ A.l ∧ b ≠ A.m ∧ b ≠ A.w) : CAt C B H1 p A st := by
  obtain ⟨vs, h1, h2⟩ := c.ln
  exact ⟨f.oth _ _ (fun z => (n _ z).1 rfl) c.ob, f.tup _ _ c.ht, c.rt.fm f, f.oth _ _ (fun z => (n _ z).2.1 rfl) c.ev, ⟨vs, f.oth _ _ (fun z => (n _ z).2.2.1 rfl) h1, h2.fm f⟩, f.oth _ _ (fun z => (n _ z).2.2.2.1 rfl) c.mo, f.oth _ _ (fun z => (n _ z).2.2.2.2 rfl) c.wa, c.nl, c.nm⟩
theorem CAt.f0 (f : Fm [] H H1) (c : CAt C B H p A st) : CAt C B H1 p A st := c.fm f fun b z => nomatch z
/-- a list of one's own is changed -/
theorem CAt.f1 {D : Addr} (f : Fm [D] H H1) (c : CAt C B H p A st) (n : D ≠ A.ev ∧ D ≠ A.l) {xs : List V} (hD : H D = some (.lst xs)) : CAt C B H1 p A st := c.fm f fun b z => by
  rw [List.mem_singleton.mp z]
  exact ⟨ne_of hD c.ob (fun z => nomatch z), n.1, n.2, ne_of hD c.mo (fun z => nomatch z), ne_of hD c.wa (fun z => nomatch z)⟩
theorem CAt.task (c : CAt C B H p A st) {i : Int} (hi : B.tk i) : ∃ a, A.tv[i.toNat]? = some (.ref a) ∧ H a = some (.tup [.int (B.lo i), .int (B.hi i)]) := by
  have l : i.toNat < B.tasks.length := by
    have := hi.2
    unfold Br.n at this
    have := hi.1
    omega
  have e : (B.tasks.map rowT)[i.toNat]? = some [.int (B.lo i), .int (B.hi i)] := by
    rw [List.getElem?_map, List.getElem?_eq_getElem l]
    unfold Br.lo Br.hi
    rw [List.getD_eq_getElem?_getD, List.getElem?_eq_getElem l]
    rfl
  exact c.rt.get e
end
/-! ### readings of a Closing's fields: self stands in slot 0 -/
section
variable {C : Addr} {B : Br} {K : PySem.W.Frag} {mg : Str → Option Value} {H : Hp} {σ : St} {p : Addr} {A : CA} {st : CS} {Q : VK}
theorem fAny {f v : V} {fl : Str} {dx : Addr} (T : Tx K mg C) (ob : H p = some (.ins C dx (cf A f))) (n : NoAttr K C fl) (l : (cf A f).lookup fl = some v) (h0 : σ[0]? = some (some (.ref p))) (q : Q v H) : tFld K (tVar 0) fl σ H Q := ⟨_, h0, rFld ob T.cl n l q⟩
theorem fTasks (T : Tx K mg C) (c : CAt C B H p A st) (h0 : σ[0]? = some (some (.ref p))) (q : Q (.ref A.ts) H) : tFld K (tVar 0) "tasks" σ H Q := ⟨_, h0, rFld c.ob T.cl T.n1 cf_tasks q⟩
theorem fEvery (T : Tx K mg C) (c : CAt C B H p A st) (h0 : σ[0]? = some (some (.ref p))) (q : Q (.ref A.ev) H) : tFld K (tVar 0) "every" σ H Q := ⟨_, h0, rFld c.ob T.cl T.n2 cf_every q⟩
theorem fLines (T : Tx K mg C) (c : CAt C B H p A st) (h0 : σ[0]? = some (some (.ref p))) (q : Q (.ref A.l) H) : tFld K (tVar 0) "lines" σ H Q := ⟨_, h0, rFld c.ob T.cl T.n3 cf_lines q⟩
theorem fMosts (T : Tx K mg C) (c : CAt C B H p A st) (h0 : σ[0]? = some (some (.ref p))) (q : Q (.ref A.m) H) : tFld K (tVar 0) "mosts" σ H Q := ⟨_, h0, rFld c.ob T.cl T.n4 cf_mosts q⟩
theorem fWaits (T : Tx K mg C) (c : CAt C B H p A st) (h0 : σ[0]? = some (some (.ref p))) (q : Q (.ref A.w) H) : tFld K (tVar 0) "waits" σ H Q := ⟨_, h0, rFld c.ob T.cl T.n5 cf_waits q⟩
theorem fFault (T : Tx K mg C) (c : CAt C B H p A st) (h0 : σ[0]? = some (some (.ref p))) (q : Q (fV st.fault) H) : tFld K (tVar 0) "fault" σ H Q := ⟨_, h0, rFld c.ob T.cl T.n6 cf_fault q⟩
/-- lines[k][3] -/
theorem rLineW (c : CAt C B H p A st) {k : Nat} {x : Line} (hk : st.lines[k]? = some x) (q : Q (.int x.w) H) : rIxL K (.ref A.l) (.int (k : Nat)) H fun y H2 => rIxT K y (.int 3) H2 Q := by
  obtain ⟨vs, h1, h2⟩ := c.ln
  obtain ⟨v, e, a, b, rfl, h3, h4⟩ := h2.get hk
  exact rIxLn (SqL.of h1) e (rIxTl h3 rfl q)
/-- a method of the class -/
theorem cf_noM {A : CA} {f : V} : (cf A f).lookup ("offer_most" : Str) = none ∧ (cf A f).lookup ("offer_wait" : Str) = none ∧ (cf A f).lookup ("add_up" : Str) = none ∧ (cf A f).lookup ("use_most" : Str) = none ∧ (cf A f).lookup ("use_wait" : Str) = none ∧
    (cf A f).lookup ("close_once" : Str) = none ∧ (cf A f).lookup ("table" : Str) = none := by
  refine ⟨cf_none ?_, cf_none ?_, cf_none ?_, cf_none ?_, cf_none ?_, cf_none ?_, cf_none ?_⟩ <;> decide +kernel
end
end A68
set_option maxRecDepth 100000
set_option maxHeartbeats 4000000
/-! offer_most, offer_wait. -/
namespace A68
open PySem PySem.Spec PyProof.Rows L2
local macro_rules | `(tactic| walk_at "rd1") => `(tactic| first
  | ((with_reducible refine' rVar ?hx ?_); (case hx => rfl))
  | (with_reducible refine rC ?_)
  | (with_reducible refine rOp ?_)
  | (with_reducible refine rUn ?_)
  | (with_reducible refine rI0i ?_)
  | (with_reducible refine rUi ?_)
  | ((with_reducible refine rMulL ?a ?b ?_); (case a => decide); (case b => decide))
  | ((with_reducible refine rMulR ?a ?b ?_); (case a => decide); (case b => decide))
  | ((with_reducible refine rModP ?a ?_); (case a => decide))
  | ((with_reducible refine rDivP ?a ?b ?_); (case a => decide); (case b => decide))
  | ((with_reducible refine rPowL ?a ?b ?c ?_); (case a => decide); (case b => decide); (case c => decide))
  | (with_reducible refine rEqI ?_)
  | (with_reducible refine rNeI ?_)
  | (with_reducible refine rIsNi ?_)
  | (with_reducible refine rIsNn ?_)
  | (with_reducible refine rIsNr ?_)
  | (with_reducible refine rNotNi ?_)
  | (with_reducible refine rNotNn ?_)
  | (with_reducible refine rNotNr ?_)
  | (with_reducible refine rTest ?_)
  | (with_reducible refine rTB ?_)
  | (with_reducible refine rBlV ?_)
  | (with_reducible refine rAnd ?_)
  | (with_reducible refine rOr ?_)
  | (with_reducible refine rNot ?_)
  | (with_reducible refine rAndV ?_)
  | (with_reducible refine rOrV ?_)
  | (with_reducible refine rNotV ?_)
  | (with_reducible refine rIf ?_)
  | (with_reducible refine rNil ?_)
  | (with_reducible refine rCons ?_)
  | (with_reducible refine rTup ?_)
  | (with_reducible refine rLst ?_)
  | (with_reducible refine rCB ?_)
  | (with_reducible refine rCall ?_)
  | (with_reducible refine rBM ?_)
  | (with_reducible refine rMin2i ?_)
  | (with_reducible refine rMax2i ?_)
  | (with_reducible refine rInt1i ?_)
  | (with_reducible refine rPartN ?_)
  | (with_reducible refine rPart ?_)
  | (with_reducible refine rInt ?_)
  | (with_reducible refine rSlS ?_)
  | (with_reducible refine rSFld ?_)
  | (with_reducible refine rSDPut ?_)
  | (with_reducible refine rDGet ?_)
  | (with_reducible refine rDIn ?_)
  | (with_reducible refine rDNotIn ?_)
  | (with_reducible refine rSeq ?_)
  | (with_reducible refine rAsg ?_)
  | (with_reducible refine rName ?_)
  | (with_reducible refine rDrop ?_)
  | (with_reducible refine rRet ?_)
  | (with_reducible refine rIfS ?_)
  | (with_reducible refine rNext ?_)
  | (with_reducible refine rPar ?_)
  | (with_reducible refine rPar2 ?_)
  | (with_reducible refine rMeth ?_)
  | (with_reducible refine rGCons ?_)
  | (with_reducible refine rGNil ?_)
  | (with_reducible refine rForS ?_)
  | (with_reducible refine rLcS ?_)
  | (with_reducible refine rIL ?_)
  | (with_reducible refine rIT ?_)
  | (with_reducible refine rIE ?_)
  | (with_reducible refine rYes ?_)
  | (with_reducible refine rIR1 ?_)
  | (with_reducible refine rIR2 ?_)
  | (with_reducible refine rIET ?_)
  | (with_reducible refine ifSn ?_)
  | (with_reducible refine ifNn ?_)
  | (with_reducible refine ifSs ?_)
  | (with_reducible refine ifNs ?_)
  | (with_reducible refine rNotNfs ?_)
  | (with_reducible refine rNotNfn ?_)
  | (with_reducible refine rIsNfs ?_)
  | (with_reducible refine rIsNfn ?_)
  | (with_reducible refine ifT ?_)
  | (with_reducible refine ifF ?_)
  | (with_reducible refine ifNT ?_)
  | (with_reducible refine ifNF ?_))
local macro_rules | `(tactic| walk_at "rd") => `(tactic| (repeat walk_at "rd1"))
theorem z2 : (2 : Nat) ≤ sizeLine := by decide
theorem zz {n : Nat} (h : n ≤ 100) : n ≤ sizeLine := line9 (by omega)
theorem CAt.mk' {C : Addr} {B : Br} {H H1 : Hp} {p : Addr} {A : CA} {st st' : CS} (c : CAt C B H p A st) (F : Fm (A.ch p) H H1) (ob : H1 p = some (.ins C A.dx (cf A (fV st'.fault)))) (ln : ∃ vs, H1 A.l = some (.lst vs) ∧ LinesAt H1 vs st'.lines)
    (mo : H1 A.m = some (.dT st'.mosts)) (wa : H1 A.w = some (.dT st'.waits)) : CAt C B H1 p A st' :=
  ⟨ob, F.tup _ _ c.ht, c.rt.fm F, F.oth _ _ (by
    intro z
    rcases List.mem_cons.mp z with z | z
    · exact ne_of c.ev c.ob (fun z => nomatch z) z
    rcases List.mem_cons.mp z with z | z
    · exact c.nl z.symm
    rcases List.mem_cons.mp z with z | z
    · exact ne_of c.ev c.mo (fun z => nomatch z) z
    · exact ne_of c.ev c.wa (fun z => nomatch z) (List.mem_singleton.mp z)) c.ev, ln, mo, wa, c.nl, c.nm⟩
def spOfferM (C : Addr) (B : Br) : Sp := fun vs H Q _ => ∃ (p : Addr) (A : CA) (st : CS) (a b w : Int) (r : Rs) (q : Addr), vs = [.ref p, .int a, .int b, .int w, .ref q] ∧ CAt C B H p A st ∧ Val B st ∧ H q = some (.tup r.vs) ∧
  Gives B st.lines st.lines.length ⟨true, a, b, w, r⟩ ∧ B.ev a ∧ B.ev b ∧ st.lines.length ≤ 100000 ∧
  ∀ (t : Bool) (st' : CS) (H' : Hp), Fm (A.ch p) H H' → CAt C B H' p A st' → Val B st' → R B st st' → st'.lines.length ≤ st.lines.length + 1 → (t = true → st.lines.length < st'.lines.length) → (t = false → st' = st) →
    (st'.fault = none → if a = b then 0 ≤ w else ∃ u, st'.M a b = some u ∧ u ≤ w) → Q (.bl t) H'
def spOfferW (C : Addr) (B : Br) : Sp := fun vs H Q _ => ∃ (p : Addr) (A : CA) (st : CS) (a b w : Int) (r : Rs) (q : Addr), vs = [.ref p, .int a, .int b, .int w, .ref q] ∧ CAt C B H p A st ∧ Val B st ∧ H q = some (.tup r.vs) ∧
  Gives B st.lines st.lines.length ⟨false, a, b, w, r⟩ ∧ B.tk a ∧ B.ev b ∧ w ≤ B.hi a ∧ st.lines.length ≤ 100000 ∧
  ∀ (t : Bool) (st' : CS) (H' : Hp), Fm (A.ch p) H H' → CAt C B H' p A st' → Val B st' → R B st st' → st'.lines.length ≤ st.lines.length + 1 → (t = true → st.lines.length < st'.lines.length) → (t = false → st' = st) →
    st'.mosts = st.mosts → (∀ x y, st'.M x y = st.M x y) → st'.fault = st.fault → (∃ u, st'.W a b = some u ∧ w ≤ u) → Q (.bl t) H'
section
variable {P : Program} {w : World} {K : PySem.W.Frag} {mg : Str → Option Value} {base : Heap} {f : Addr} {fd : FuncData} {C : Addr} {B : Br}
abbrev N_c_offer_most : List Str := ["self", "a", "b", "w", "reason", "known"]
theorem sc_c_offer_most : FnScope N_c_offer_most ["self", "a", "b", "w", "reason"] (defScope s_c_offer_most) := ⟨rfl, rfl, rfl, by decide +kernel, rfl, by decide +kernel, by decide +kernel⟩
-- slots: 0 self, 1 a, 2 b, 3 w, 4 reason, 5 known
theorem ok_offer_most (F : FD K "offer_most" "Closing.offer_most" s_c_offer_most f fd) (T : Tx K mg C) (Z : Fr0 mg) : FnOk P w K mg base CX0 1 f fd ["self", "a", "b", "w", "reason"] (spOfferM C B) := by
  refine F.ok sc_c_offer_most (fun vs H Q E h => ?_) (fun cdv A0 outer s H vs Q E hr h => ?_)
  · obtain ⟨_, _, _, _, _, _, _, _, rfl, _⟩ := h
    rfl
  · obtain ⟨p, A, st, a, b, w, r, q, rfl, c, v, hq, g, ea, eb, z, k⟩ := h
    have hu := hu_of hr
    have nd := sc_c_offer_most.nd
    refine ⟨_, PSs.nox (pss_cons (ps_set (i := 5) nd rfl (by first | exact Or.inl rfl | exact Or.inr rfl) (pe_dget1 hu (pe_fld (pv 0) rfl) (pe_tup (pa_cons (pv 1) (pa_cons (pv 2) pa_nil))) ⟨rfl, rfl, rfl, rfl⟩))
      (Evl.pss_cut (ps_if (PW.pt (pw_or (PW.pt (pw_and (pt_cmpR op_eq (pv 1) (pv 2) (nomark _)) (pw_and1 (pt_cmpR op_ge (pv 3) pe_int (nomark _))))) (pw_or1 (PW.pt (pw_and (pt_cmpR op_notN1 (pv 5) pe_non (nomark _)) (pw_and1 (pt_cmpR op_le (pe_ix ix_tup (pe_ix ix_list (pe_fld (pv 0) rfl) (pv 5) (fun _ _ => rfl)) pe_int (fun _ _ => rfl)) (pv 3) (nomark _)))))))) (pss_one (ps_ret pe_bl)) pss_nil)
      (Evl.pss_cut (ps_if (pt_cmpR op_eq (pv 1) (pv 2) (nomark _)) (pss_one (ps_fld (pv 0) (pe_callB call_lenS (by rfl) Z.len (by decide +kernel) (pa_cons (pe_fld (pv 0) rfl) pa_nil)) rfl)) pss_nil)
      (pss_cons (ps_dput hu (pe_fld (pv 0) rfl) (pe_tup (pa_cons (pv 1) (pa_cons (pv 2) pa_nil))) (pe_callB call_lenS (by rfl) Z.len (by decide +kernel) (pa_cons (pe_fld (pv 0) rfl) pa_nil)) rfl)
      (pss_cons (ps_expr (pe_bm PySem.F.plainAttrs_list PySem.F.slot_list_append PySem.F.type_list_append mt_append (pe_fld (pv 0) rfl) (pa_cons (pe_tup (pa_cons pe_str (pa_cons (pv 1) (pa_cons (pv 2) (pa_cons (pv 3) (pa_cons (pv 4) pa_nil)))))) pa_nil)))
      (pss_one (ps_ret pe_bl))))))), ?_⟩
    walk_at "rd"
    refine fMosts T c rfl ⟨_, rfl, .inr ⟨_, .inl c.mo⟩, ?_⟩
    walk_at "rd"
    refine rNewT (ok100 rfl) fun q1 H1 n1 f1 t1 => ?_
    have c1 := c.f0 f1
    refine ⟨_, DGet.t (k := kk a b) c1.mo t1, ?_⟩
    -- what is known
    have kn : ((valV st.mosts (kk a b)).getD .non = .non ∧ ∀ u, st.M a b ≠ some u) ∨ ∃ n x, (valV st.mosts (kk a b)).getD .non = .int (n : Nat) ∧ st.lines[n]? = some x ∧ st.M a b = some x.w ∧ valV st.mosts (kk a b) ≠ none := by
      cases e : valV st.mosts (kk a b) with
      | none => exact .inl ⟨rfl, fun u z => by unfold CS.M at z; rw [e] at z; cases z⟩
      | some y =>
        obtain ⟨n, x, e1, e2, _, _, _, e3⟩ := v.mo.w e
        exact .inr ⟨n, x, e1, e2, e3, fun z => (nomatch z)⟩
    generalize (valV st.mosts (kk a b)).getD .non = κ at kn ⊢
    walk_at "rd"
    -- what is returned where nothing is taken in
    have no : (st.fault = none → if a = b then 0 ≤ w else ∃ u, st.M a b = some u ∧ u ≤ w) → Q (.bl false) H1 := fun e => k false st H1 f1.up c1 v (R.refl st) (by omega) (fun z => (nomatch z)) (fun _ => rfl) e
    have yes : (a = b → w < 0) → (∀ u, st.M a b = some u → w < u) → ∀ H', Fm (A.ch p) H H' → CAt C B H' p A (st.addM a b w r) → Q (.bl true) H' := fun d imp H' fm' c' =>
      k true _ H' fm' c' (v.addM g ea eb d) (v.R_addM ea eb imp) (by show (st.lines ++ [_]).length ≤ _; rw [List.length_append]; exact Nat.le_refl _) (fun _ => by show _ < (st.lines ++ [_]).length; rw [List.length_append]; exact Nat.lt_succ_self _) (fun z => nomatch z) (fun e => by
        have n : a ≠ b := fun z => by
          change (if a = b then some st.lines.length else st.fault) = none at e
          rw [if_pos z] at e
          cases e
        rw [if_neg n]
        exact ⟨w, by rw [v.M_addM, if_pos ⟨rfl, rfl⟩], Int.le_refl _⟩)
    refine rCut (fun σ' H' => σ' = [some (.ref p), some (.int a), some (.int b), some (.int w), some (.ref q), some κ] ∧ H' = H1 ∧ (a = b → w < 0) ∧ ∀ u, st.M a b = some u → w < u) ?_ ?_
    · have rest : ∀ kq : Bool → Hp → Prop, ((st.fault = none → if a = b then 0 ≤ w else ∃ u, st.M a b = some u ∧ u ≤ w) → kq true H1) → ((∀ u, st.M a b = some u → w < u) → kq false H1) →
          tAnd (tTest (tOp rNotN (tVar 5) (tC V.non))) (tTest (tOp (rI0 fun i j => V.bl (decide (i ≤ j))) (tOp (rIxT K) (tOp (rIxL K) (tFld K (tVar 0) "lines") (tVar 5)) (tC (.int 3))) (tVar 3)))
          [some (.ref p), some (.int a), some (.int b), some (.int w), some (.ref q), some κ] H1 kq := by
        intro kq k1 k2
        rcases kn with ⟨rfl, hM⟩ | ⟨n, x, rfl, hx, hM, nn⟩
        · walk_at "rd"
          exact k2 fun u z => absurd z (hM u)
        · walk_at "rd"
          refine fLines T c1 rfl ?_
          walk_at "rd"
          refine rLineW c1 hx ?_
          walk_at "rd"
          by_cases z : x.w ≤ w
          · rw [decide_eq_true z]
            refine k1 fun z2 => ?_
            by_cases ab : a = b
            · exact absurd (by rw [ab]; exact v.nf z2 b) nn
            · rw [if_neg ab]
              exact ⟨_, hM, z⟩
          · rw [decide_eq_false z]
            refine k2 fun u e => ?_
            rw [hM] at e
            cases e
            exact Int.not_le.mp z
      by_cases ab : a = b
      · walk_at "rd"
        refine ifDt ab ?_
        walk_at "rd"
        by_cases w0 : 0 ≤ w
        · refine ifDt w0 ?_
          walk_at "rd"
          exact no fun _ => by rw [if_pos ab]; exact w0
        · refine ifDf w0 (rest _ (fun e => iteT ?_) fun e => iteF ?_)
          · walk_at "rd"
            exact no e
          · exact ⟨rfl, rfl, fun _ => Int.not_le.mp w0, e⟩
      · walk_at "rd"
        refine ifDf ab (rest _ (fun e => iteT ?_) fun e => iteF ?_)
        · walk_at "rd"
          exact no e
        · exact ⟨rfl, rfl, fun z => absurd z ab, e⟩
    · intro σ' H' hm
      obtain ⟨e1, e2, d, imp⟩ := hm
      rw [e1, e2]
      -- the place where the new line comes
      obtain ⟨vs, l1, l2⟩ := c1.ln
      have el : vs.length = st.lines.length := l2.len
      have npm : A.m ≠ p := ne_of c1.mo c1.ob (fun z => nomatch z)
      have npl : A.l ≠ p := ne_of l1 c1.ob (fun z => nomatch z)
      have npw : A.w ≠ p := ne_of c1.wa c1.ob (fun z => nomatch z)
      have nlm : A.l ≠ A.m := ne_of l1 c1.mo (fun z => nomatch z)
      have nlw : A.l ≠ A.w := ne_of l1 c1.wa (fun z => nomatch z)
      refine rCut (fun σ' H' => σ' = [some (.ref p), some (.int a), some (.int b), some (.int w), some (.ref q), some κ] ∧ Fm (A.ch p) H1 H' ∧ H' p = some (.ins C A.dx (cf A (fV (if a = b then some st.lines.length else st.fault)))) ∧ ∀ x, x ≠ p → H' x = H1 x) ?_ ?_
      · by_cases ab : a = b
        · walk_at "rd"
          refine ifDt ab ?_
          walk_at "rd"
          refine fLines T c1 rfl ?_
          walk_at "rd"
          refine rLenL (SqL.of l1) ?_
          walk_at "rd"
          refine ⟨p, C, _, _, rfl, c1.ob, T.cl, T.n6, cf_len, rfl, Fm.wr (List.mem_cons_self ..) c1.ob (fun _ z => nomatch z), ?_, fun x n => upd_ne n⟩
          rw [upd_same, cf_put, if_pos ab, el]
          rfl
        · walk_at "rd"
          refine ifDf ab ?_
          walk_at "rd"
          exact ⟨rfl, Fm.refl, by rw [if_neg ab]; exact c1.ob, fun _ _ => rfl⟩
      · intro σ2 H2 hm2
        obtain ⟨e3, g2, ob2, oth2⟩ := hm2
        rw [e3]
        walk_at "rd"
        refine fAny T ob2 T.n3 cf_lines rfl ?_
        walk_at "rd"
        refine rLenL (SqL.of ((oth2 _ npl).trans l1)) (fAny T ob2 T.n4 cf_mosts rfl ?_)
        walk_at "rd"
        refine rNewT (ok100 rfl) fun q2 H3 n3 f3 t3 => ?_
        have m3 : H3 A.m = some (.dT st.mosts) := f3.oth _ _ (fun z => nomatch z) ((oth2 _ npm).trans c1.mo)
        refine ⟨_, _, rfl, DPut.t (k := kk a b) m3 t3 (line9l (by have := v.sz; omega)), ?_⟩
        have g3 : Fm (A.ch p) H1 (upd H3 A.m (.dT (putK st.mosts (kk a b) (.int (vs.length : Nat))))) := (g2.trans f3.up).trans (Fm.wr (by simp) m3 (fun _ z => nomatch z))
        generalize eH4 : upd H3 A.m (.dT (putK st.mosts (kk a b) (.int (vs.length : Nat)))) = H4 at g3
        have ob4 : H4 p = some (.ins C A.dx (cf A (fV (if a = b then some st.lines.length else st.fault)))) := by rw [← eH4, upd_ne (Ne.symm npm)]; exact f3.oth _ _ (fun z => nomatch z) ob2
        have l4 : H4 A.l = some (.lst vs) := by rw [← eH4, upd_ne nlm]; exact f3.oth _ _ (fun z => nomatch z) ((oth2 _ npl).trans l1)
        have m4 : H4 A.m = some (.dT (putK st.mosts (kk a b) (.int (vs.length : Nat)))) := by rw [← eH4, upd_same]
        have w4 : H4 A.w = some (.dT st.waits) := by rw [← eH4, upd_ne (Ne.symm c1.nm)]; exact f3.oth _ _ (fun z => nomatch z) ((oth2 _ npw).trans c1.wa)
        walk_at "rd"
        refine fAny T ob4 T.n3 cf_lines rfl ⟨tyL l4, ?_⟩
        walk_at "rd"
        refine rNewT (ok100 rfl) fun q3 H5 n5 f5 t5 => ?_
        walk_at "rd"
        have l5 := f5.oth _ _ (fun z => nomatch z) l4
        refine rAppL l5 (line9l (by omega)) ?_
        walk_at "rd"
        have g6 : Fm (A.ch p) H1 (upd H5 A.l (.lst (vs ++ [.ref q3]))) := (g3.trans f5.up).trans (Fm.wr (by simp) l5 (fun _ z => nomatch z))
        have q6 : H1 q = some (.tup r.vs) := f1.tup _ _ hq
        refine yes d imp _ (f1.up.trans g6) (c1.mk' g6 ?_ ⟨_, upd_same, (l2.fm g6).snoc ⟨q3, q, rfl, ?_, g6.tup _ _ q6⟩⟩ ?_ ?_)
        · rw [upd_ne (Ne.symm npl)]
          exact f5.oth _ _ (fun z => nomatch z) ob4
        · rw [upd_ne (ne_of t5 l5 (fun z => nomatch z))]
          exact t5
        · rw [upd_ne (Ne.symm nlm)]
          have := f5.oth _ _ (fun z => nomatch z) m4
          rw [el] at this
          exact this
        · rw [upd_ne (Ne.symm nlw)]
          exact f5.oth _ _ (fun z => nomatch z) w4
abbrev N_c_offer_wait : List Str := ["self", "task", "event", "w", "reason", "known"]
theorem sc_c_offer_wait : FnScope N_c_offer_wait ["self", "task", "event", "w", "reason"] (defScope s_c_offer_wait) := ⟨rfl, rfl, rfl, by decide +kernel, rfl, by decide +kernel, by decide +kernel⟩
-- slots: 0 self, 1 task, 2 event, 3 w, 4 reason, 5 known
theorem ok_offer_wait (F : FD K "offer_wait" "Closing.offer_wait" s_c_offer_wait f fd) (T : Tx K mg C) (Z : Fr0 mg) : FnOk P w K mg base CX0 1 f fd ["self", "task", "event", "w", "reason"] (spOfferW C B) := by
  refine F.ok sc_c_offer_wait (fun vs H Q E h => ?_) (fun cdv A0 outer s H vs Q E hr h => ?_)
  · obtain ⟨_, _, _, _, _, _, _, _, rfl, _⟩ := h
    rfl
  · obtain ⟨p, A, st, a, b, w, r, q, rfl, c, v, hq, g, ea, eb, hw, z, k⟩ := h
    have hu := hu_of hr
    have nd := sc_c_offer_wait.nd
    refine ⟨_, PSs.nox (pss_cons (ps_set (i := 5) nd rfl (by first | exact Or.inl rfl | exact Or.inr rfl) (pe_dget1 hu (pe_fld (pv 0) rfl) (pe_tup (pa_cons (pv 1) (pa_cons (pv 2) pa_nil))) ⟨rfl, rfl, rfl, rfl⟩))
      (Evl.pss_cut (ps_if (PW.pt (pw_and (pt_cmpR op_notN1 (pv 5) pe_non (nomark _)) (pw_and1 (pt_cmpR op_ge (pe_ix ix_tup (pe_ix ix_list (pe_fld (pv 0) rfl) (pv 5) (fun _ _ => rfl)) pe_int (fun _ _ => rfl)) (pv 3) (nomark _))))) (pss_one (ps_ret pe_bl)) pss_nil)
      (pss_cons (ps_dput hu (pe_fld (pv 0) rfl) (pe_tup (pa_cons (pv 1) (pa_cons (pv 2) pa_nil))) (pe_callB call_lenS (by rfl) Z.len (by decide +kernel) (pa_cons (pe_fld (pv 0) rfl) pa_nil)) rfl)
      (pss_cons (ps_expr (pe_bm PySem.F.plainAttrs_list PySem.F.slot_list_append PySem.F.type_list_append mt_append (pe_fld (pv 0) rfl) (pa_cons (pe_tup (pa_cons pe_str (pa_cons (pv 1) (pa_cons (pv 2) (pa_cons (pv 3) (pa_cons (pv 4) pa_nil)))))) pa_nil)))
      (pss_one (ps_ret pe_bl)))))), ?_⟩
    walk_at "rd"
    refine fWaits T c rfl ⟨_, rfl, .inr ⟨_, .inl c.wa⟩, ?_⟩
    walk_at "rd"
    refine rNewT (ok100 rfl) fun q1 H1 n1 f1 t1 => ?_
    have c1 := c.f0 f1
    refine ⟨_, DGet.t (k := kk a b) c1.wa t1, ?_⟩
    have kn : ((valV st.waits (kk a b)).getD .non = .non ∧ ∀ u, st.W a b ≠ some u) ∨ ∃ n x, (valV st.waits (kk a b)).getD .non = .int (n : Nat) ∧ st.lines[n]? = some x ∧ st.W a b = some x.w := by
      cases e : valV st.waits (kk a b) with
      | none => exact .inl ⟨rfl, fun u z => by unfold CS.W at z; rw [e] at z; cases z⟩
      | some y =>
        obtain ⟨n, x, e1, e2, _, _, _, e3⟩ := v.wa.w e
        exact .inr ⟨n, x, e1, e2, e3⟩
    generalize (valV st.waits (kk a b)).getD .non = κ at kn ⊢
    walk_at "rd"
    have no : (∃ u, st.W a b = some u ∧ w ≤ u) → Q (.bl false) H1 := fun e => k false st H1 f1.up c1 v (R.refl st) (by omega) (fun z => (nomatch z)) (fun _ => rfl) rfl (fun _ _ => rfl) rfl e
    have yes : (∀ u, st.W a b = some u → u < w) → ∀ H', Fm (A.ch p) H H' → CAt C B H' p A (st.addW a b w r) → Q (.bl true) H' := fun imp H' fm' c' =>
      k true _ H' fm' c' (v.addW g ea eb hw) (v.R_addW ea eb imp) (by show (st.lines ++ [_]).length ≤ _; rw [List.length_append]; exact Nat.le_refl _) (fun _ => by show _ < (st.lines ++ [_]).length; rw [List.length_append]; exact Nat.lt_succ_self _) (fun z => nomatch z) rfl (fun x y => v.M_addW x y) rfl
        ⟨w, by rw [v.W_addW, if_pos ⟨rfl, rfl⟩], Int.le_refl _⟩
    refine rCut (fun σ' H' => σ' = [some (.ref p), some (.int a), some (.int b), some (.int w), some (.ref q), some κ] ∧ H' = H1 ∧ ∀ u, st.W a b = some u → u < w) ?_ ?_
    · rcases kn with ⟨rfl, hM⟩ | ⟨n, x, rfl, hx, hM⟩
      · walk_at "rd"
        exact ⟨rfl, rfl, fun u z => absurd z (hM u)⟩
      · walk_at "rd"
        refine fLines T c1 rfl ?_
        walk_at "rd"
        refine rLineW c1 hx ?_
        walk_at "rd"
        by_cases z : w ≤ x.w
        · rw [decide_eq_true z]
          walk_at "rd"
          exact no ⟨_, hM, z⟩
        · rw [decide_eq_false z]
          walk_at "rd"
          refine ⟨rfl, rfl, fun u e => ?_⟩
          rw [hM] at e
          cases e
          exact Int.not_le.mp z
    · intro σ' H' hm
      obtain ⟨e1, e2, imp⟩ := hm
      rw [e1, e2]
      obtain ⟨vs, l1, l2⟩ := c1.ln
      have el : vs.length = st.lines.length := l2.len
      have npw : A.w ≠ p := ne_of c1.wa c1.ob (fun z => nomatch z)
      have npl : A.l ≠ p := ne_of l1 c1.ob (fun z => nomatch z)
      have nlm : A.l ≠ A.m := ne_of l1 c1.mo (fun z => nomatch z)
      have nlw : A.l ≠ A.w := ne_of l1 c1.wa (fun z => nomatch z)
      walk_at "rd"
      refine fLines T c1 rfl ?_
      walk_at "rd"
      refine rLenL (SqL.of l1) (fWaits T c1 rfl ?_)
      walk_at "rd"
      refine rNewT (ok100 rfl) fun q2 H3 n3 f3 t3 => ?_
      have c3 := c1.f0 f3
      have l3 := f3.oth _ _ (fun z => nomatch z) l1
      refine ⟨_, _, rfl, DPut.t (k := kk a b) c3.wa t3 (line9l (by have := v.sz; omega)), ?_⟩
      have g3 : Fm (A.ch p) H1 (upd H3 A.w (.dT (putK st.waits (kk a b) (.int (vs.length : Nat))))) := f3.up.trans (Fm.wr (by simp) c3.wa (fun _ z => nomatch z))
      generalize eH4 : upd H3 A.w (.dT (putK st.waits (kk a b) (.int (vs.length : Nat)))) = H4 at g3
      have ob4 : H4 p = some (.ins C A.dx (cf A (fV st.fault))) := by rw [← eH4, upd_ne (Ne.symm npw)]; exact c3.ob
      have l4 : H4 A.l = some (.lst vs) := by rw [← eH4, upd_ne nlw]; exact l3
      have m4 : H4 A.m = some (.dT st.mosts) := by rw [← eH4, upd_ne c3.nm]; exact c3.mo
      have w4 : H4 A.w = some (.dT (putK st.waits (kk a b) (.int (vs.length : Nat)))) := by rw [← eH4, upd_same]
      walk_at "rd"
      refine fAny T ob4 T.n3 cf_lines rfl ⟨tyL l4, ?_⟩
      walk_at "rd"
      refine rNewT (ok100 rfl) fun q3 H5 n5 f5 t5 => ?_
      walk_at "rd"
      have l5 := f5.oth _ _ (fun z => nomatch z) l4
      refine rAppL l5 (line9l (by omega)) ?_
      walk_at "rd"
      have g6 : Fm (A.ch p) H1 (upd H5 A.l (.lst (vs ++ [.ref q3]))) := (g3.trans f5.up).trans (Fm.wr (by simp) l5 (fun _ z => nomatch z))
      have q6 : H1 q = some (.tup r.vs) := f1.tup _ _ hq
      refine yes imp _ (f1.up.trans g6) (c1.mk' g6 ?_ ⟨_, upd_same, (l2.fm g6).snoc ⟨q3, q, rfl, ?_, g6.tup _ _ q6⟩⟩ ?_ ?_)
      · rw [upd_ne (Ne.symm npl)]
        exact f5.oth _ _ (fun z => nomatch z) ob4
      · rw [upd_ne (ne_of t5 l5 (fun z => nomatch z))]
        exact t5
      · rw [upd_ne (Ne.symm nlm)]
        exact f5.oth _ _ (fun z => nomatch z) m4
      · rw [upd_ne (Ne.symm nlw)]
        have := f5.oth _ _ (fun z => nomatch z) w4
        rw [el] at this
        exact this
end
end A68
set_option maxRecDepth 100000
set_option maxHeartbeats 4000000
/-! Loops, method calls, unpacking: their readings. -/
namespace A68
open PySem PySem.Spec PyProof.Rows L2
def ForJ (J : It) (g : TG) (tb : TS) (D : Ends) (σ : St) (H1 : Hp) : Prop := ∃ W : Nat → Nat → St → Hp → Prop, (∃ m, W 0 m σ H1) ∧ ∀ i m σ H, W i m σ H →
  (J.stop i H ∧ D.nx σ H) ∨ (J.go i H ∧ ∃ N : St → Hp → Prop, (∀ σ' H', N σ' H' → ∃ m', m' < m ∧ W (i + 1) m' σ' H') ∧ ∀ x H', J.yld i H x H' → g x σ H' fun σ2 H2 => tb { D with nx := N, ct := N, bk := D.nx } σ2 H2)
def LcJ (J : It) (g : TG) (tt : TT) (te : TE) (vs : List Nat) (σ : St) (H1 : Hp) (Q : VK) : Prop := ∀ D, H1 D = none → ∃ W : Nat → Nat → Hp → Prop, (∃ m, W 0 m (upd H1 D (.lst []))) ∧ ∀ i m H, W i m H →
  (J.stop i H ∧ Q (.ref D) H) ∨ (J.go i H ∧ ∃ Nx : Hp → Prop, (∀ H', Nx H' → ∃ m', m' < m ∧ W (i + 1) m' H') ∧ ∀ x H', J.yld i H x H' → g x (wipe σ vs) H' fun σ2 H2 => wipe σ2 vs = wipe σ vs ∧ tt σ2 H2 fun b H3 =>
    if b = true then te σ2 H3 fun y H4 => ∃ acc, H4 D = some (.lst acc) ∧ acc.length < sizeLine ∧ Nx (upd H4 D (.lst (acc ++ [y]))) else Nx H3)
section
variable {K : PySem.W.Frag} {J : It} {n : Nat} {G : Hp → Prop} {Y : Nat → Hp → V → Hp → Prop} {g : TG} {tb : TS} {tt : TT} {te tl : TE} {vs : List Nat} {D : Ends} {σ : St} {H : Hp} {Q : VK} {wi : TI} {R : It → Hp → Prop} {ta : TA}
theorem rForS (q : wi σ H fun J H1 => ForJ J g tb D σ H1) : tFor wi g tb D σ H := q
theorem rLcS (q : wi σ H fun J H1 => LcJ J g tt te vs σ H1 Q) : tLc wi g tt te vs σ H Q := q
theorem rIL (q : tl σ H fun x H1 => ∃ a, x = .ref a ∧ (∃ xs, SqL K H1 a xs) ∧ R (Itl K a) H1) : iList K tl σ H R := q
theorem rIT (q : tl σ H fun x H1 => ∃ a, x = .ref a ∧ (∃ xs, SqT K H1 a xs) ∧ R (Itt K a) H1) : iTup K tl σ H R := q
theorem rIE (q : ta σ H fun vs H1 => ∃ a xs, vs = [.ref a] ∧ SqL K H1 a xs ∧ R (Ite K a) H1) : iEnum K ta σ H R := q
theorem forJ (w : Walk J n G Y) (Pv : Nat → St → Hp → Prop) (h0 : Pv 0 σ H) (hG : ∀ i σ H, i ≤ n → Pv i σ H → G H)
    (hs : ∀ i x σ H H', i < n → Pv i σ H → Y i H x H' → g x σ H' fun σ2 H2 => tb { D with nx := Pv (i + 1), ct := Pv (i + 1), bk := D.nx } σ2 H2) (hd : ∀ σ H, Pv n σ H → D.nx σ H) : ForJ J g tb D σ H := for_it w Pv h0 hG hs hd
theorem lcJ (w : Walk J n G Y) (Pv : Addr → Nat → Hp → Prop) (h0 : ∀ D, H D = none → Pv D 0 (upd H D (.lst []))) (hG : ∀ D i H, i ≤ n → Pv D i H → G H)
    (hs : ∀ D i x H H', i < n → Pv D i H → Y i H x H' → g x (wipe σ vs) H' fun σ2 H2 => wipe σ2 vs = wipe σ vs ∧ tt σ2 H2 fun b H3 =>
      if b = true then te σ2 H3 fun y H4 => ∃ acc, H4 D = some (.lst acc) ∧ acc.length < sizeLine ∧ Pv D (i + 1) (upd H4 D (.lst (acc ++ [y]))) else Pv D (i + 1) H3) (hd : ∀ D H, Pv D n H → Q (.ref D) H) : LcJ J g tt te vs σ H Q :=
  fun D hD => lc_it w (Pv D) (h0 D hD) (hG D) (hs D) (hd D)
/-- the same, over a list that stands still -/
theorem forL {a : Addr} {xs : List V} (Pv : Nat → St → Hp → Prop) (h0 : Pv 0 σ H) (hG : ∀ i σ H, i ≤ xs.length → Pv i σ H → SqL K H a xs)
    (hs : ∀ i x σ H, xs[i]? = some x → Pv i σ H → g x σ H fun σ2 H2 => tb { D with nx := Pv (i + 1), ct := Pv (i + 1), bk := D.nx } σ2 H2) (hd : ∀ σ H, Pv xs.length σ H → D.nx σ H) :
    ∃ b, V.ref a = .ref b ∧ (∃ ys, SqL K H b ys) ∧ ForJ (Itl K b) g tb D σ H :=
  ⟨a, rfl, ⟨xs, hG 0 σ H (Nat.zero_le _) h0⟩, forJ walk_list Pv h0 hG (fun i x σ H H' hi p y => by obtain ⟨e, y⟩ := y; rw [e]; exact hs i x σ H y p) hd⟩
theorem lcL {a : Addr} {xs : List V} (Pv : Addr → Nat → Hp → Prop) (h1 : SqL K H a xs) (h0 : ∀ D, H D = none → Pv D 0 (upd H D (.lst []))) (hG : ∀ D i H, i ≤ xs.length → Pv D i H → SqL K H a xs)
    (hs : ∀ D i x H, xs[i]? = some x → Pv D i H → g x (wipe σ vs) H fun σ2 H2 => wipe σ2 vs = wipe σ vs ∧ tt σ2 H2 fun b H3 =>
      if b = true then te σ2 H3 fun y H4 => ∃ acc, H4 D = some (.lst acc) ∧ acc.length < sizeLine ∧ Pv D (i + 1) (upd H4 D (.lst (acc ++ [y]))) else Pv D (i + 1) H3) (hd : ∀ D H, Pv D xs.length H → Q (.ref D) H) :
    ∃ b, V.ref a = .ref b ∧ (∃ ys, SqL K H b ys) ∧ LcJ (Itl K b) g tt te vs σ H Q :=
  ⟨a, rfl, ⟨xs, h1⟩, lcJ walk_list Pv h0 hG (fun D i x H H' hi p y => by obtain ⟨e, y⟩ := y; rw [e]; exact hs D i x H y p) hd⟩
theorem forT {a : Addr} {xs : List V} (Pv : Nat → St → Hp → Prop) (h0 : Pv 0 σ H) (hG : ∀ i σ H, i ≤ xs.length → Pv i σ H → SqT K H a xs)
    (hs : ∀ i x σ H, xs[i]? = some x → Pv i σ H → g x σ H fun σ2 H2 => tb { D with nx := Pv (i + 1), ct := Pv (i + 1), bk := D.nx } σ2 H2) (hd : ∀ σ H, Pv xs.length σ H → D.nx σ H) :
    ∃ b, V.ref a = .ref b ∧ (∃ ys, SqT K H b ys) ∧ ForJ (Itt K b) g tb D σ H :=
  ⟨a, rfl, ⟨xs, hG 0 σ H (Nat.zero_le _) h0⟩, forJ walk_tup Pv h0 hG (fun i x σ H H' hi p y => by obtain ⟨e, y⟩ := y; rw [e]; exact hs i x σ H y p) hd⟩
theorem lcT {a : Addr} {xs : List V} (Pv : Addr → Nat → Hp → Prop) (h1 : SqT K H a xs) (h0 : ∀ D, H D = none → Pv D 0 (upd H D (.lst []))) (hG : ∀ D i H, i ≤ xs.length → Pv D i H → SqT K H a xs)
    (hs : ∀ D i x H, xs[i]? = some x → Pv D i H → g x (wipe σ vs) H fun σ2 H2 => wipe σ2 vs = wipe σ vs ∧ tt σ2 H2 fun b H3 =>
      if b = true then te σ2 H3 fun y H4 => ∃ acc, H4 D = some (.lst acc) ∧ acc.length < sizeLine ∧ Pv D (i + 1) (upd H4 D (.lst (acc ++ [y]))) else Pv D (i + 1) H3) (hd : ∀ D H, Pv D xs.length H → Q (.ref D) H) :
    ∃ b, V.ref a = .ref b ∧ (∃ ys, SqT K H b ys) ∧ LcJ (Itt K b) g tt te vs σ H Q :=
  ⟨a, rfl, ⟨xs, h1⟩, lcJ walk_tup Pv h0 hG (fun D i x H H' hi p y => by obtain ⟨e, y⟩ := y; rw [e]; exact hs D i x H y p) hd⟩
end
/-! unpacking, methods -/
section
variable {K : PySem.W.Frag} {n : Nat} {t : TGs} {u : TG} {σ : St} {H : Hp} {k : St → Hp → Prop} {v : V} {r : List V} {Q : VK}
theorem rGTup {a : Addr} {xs : List V} (h : H a = some (.tup xs)) (l : xs.length = n) (q : t xs σ H k) : gTup K n t (.ref a) σ H k := ⟨a, xs, rfl, SqT.of h, l, q⟩
theorem rGCons (q : u v σ H fun σ' H' => t r σ' H' k) : gCons u t (v :: r) σ H k := ⟨v, r, rfl, q⟩
theorem rGNil (q : k σ H) : gNil [] σ H k := ⟨rfl, q⟩
theorem rMeth {C : Addr} {m : Str} {sp : Sp} {dvs : List V} {E : XK} {ta : TE} {t : TA} (q : ta σ H fun x H1 => ∃ a dx fs, x = .ref a ∧ H1 a = some (.ins C dx fs) ∧ fs.lookup m = none ∧ t σ H1 fun vs H2 => sp (x :: (vs ++ dvs)) H2 Q E) : tMeth C m sp dvs E ta t σ H Q := q
theorem rNotNfs {f : Nat} (q : Q (.bl true) H) : rNotN (fV (some f)) .non H Q := ⟨rfl, q⟩
theorem rNotNfn (q : Q (.bl false) H) : rNotN (fV none) .non H Q := ⟨rfl, q⟩
theorem rIsNfs {f : Nat} (q : Q (.bl false) H) : rIsN (fV (some f)) .non H Q := ⟨rfl, q⟩
theorem rIsNfn (q : Q (.bl true) H) : rIsN (fV none) .non H Q := ⟨rfl, q⟩
theorem ifSn {A B : Prop} {y : V} (h : B) : if (!(some y).isSome) = true then A else B := h
theorem ifNn {A B : Prop} (h : A) : if (!(none : Option V).isSome) = true then A else B := h
theorem ifSs {A B : Prop} {y : V} (h : A) : if (some y).isSome = true then A else B := h
theorem ifNs {A B : Prop} (h : B) : if (none : Option V).isSome = true then A else B := iteF h
theorem rYes {k : Bool → Hp → Prop} (q : k true H) : tYes σ H k := q
theorem rNotInT {a : Addr} {i x y : Int} (h : H a = some (.tup [.int x, .int y])) (q : Q (.bl (!(decide (x = i) || decide (y = i)))) H) : rIn K true (.int i) (.ref a) H Q := by
  refine ⟨a, _, rfl, .inr (SqT.of h), rfl, rfl, ?_⟩
  rw [if_pos rfl]
  have e : inV (.int i) [.int x, .int y] = (decide (x = i) || decide (y = i)) := by
    simp only [inV, List.any_cons, List.any_nil, eqV, Bool.or_false]
    by_cases h1 : x = i <;> by_cases h2 : y = i <;> simp [h1, h2]
  rw [e]
  exact q
end
/-! ### what a call of a Closing's method leaves behind -/
structure Stp (C : Addr) (B : Br) (S : List Addr) (p : Addr) (A : CA) (d : Nat) (st : CS) (H : Hp) (t : Bool) (st' : CS) (H' : Hp) : Prop where
  fm : Fm S H H'
  ca : CAt C B H' p A st'
  va : Val B st'
  rr : R B st st'
  ub : st'.lines.length ≤ st.lines.length + d
  tr : t = true → st.lines.length < st'.lines.length
  fl : t = false → st' = st
section
variable {C : Addr} {B : Br} {S : List Addr} {p : Addr} {A : CA} {d e : Nat} {st st1 st2 : CS} {H H1 H2 : Hp} {t u : Bool}
theorem Stp.refl (c : CAt C B H p A st) (v : Val B st) : Stp C B S p A d st H false st H := ⟨Fm.refl, c, v, R.refl st, Nat.le_add_right _ _, fun z => (nomatch z), fun _ => rfl⟩
theorem Stp.trans (a : Stp C B S p A d st H t st1 H1) (b : Stp C B S p A e st1 H1 u st2 H2) : Stp C B S p A (d + e) st H (t || u) st2 H2 where
  fm := a.fm.trans b.fm
  ca := b.ca
  va := b.va
  rr := a.rr.trans b.rr
  ub := by have := a.ub; have := b.ub; omega
  tr h := by
    have h1 := a.rr.le
    have h2 := b.rr.le
    cases t with
    | true => have := a.tr rfl; omega
    | false => have := b.tr (by simpa using h); omega
  fl h := by
    cases t with
    | true => cases h
    | false => rw [b.fl (by simpa using h), a.fl rfl]
theorem Stp.le (a : Stp C B S p A d st H t st1 H1) (h : d ≤ e) : Stp C B S p A e st H t st1 H1 := { a with ub := Nat.le_trans a.ub (by omega) }
theorem Stp.mono {S' : List Addr} (a : Stp C B S p A d st H t st1 H1) (h : ∀ b ∈ S, b ∈ S') : Stp C B S' p A d st H t st1 H1 := { a with fm := a.fm.mono h }
theorem Stp.pre (f : Fm S H H1) (a : Stp C B S p A d st H1 t st1 H2) : Stp C B S p A d st H t st1 H2 := { a with fm := f.trans a.fm }
/-- then only tuples and the like come -/
theorem Stp.new (a : Stp C B S p A d st H t st1 H1) (f : Fm [] H1 H2) : Stp C B S p A d st H t st1 H2 := { a with fm := a.fm.trans f.up, ca := a.ca.f0 f }
theorem Stp.own {D : Addr} (a : Stp C B S p A d st H t st1 H1) (f : Fm [D] H1 H2) (m : D ∈ S) (n : D ≠ A.ev ∧ D ≠ A.l) {xs : List V} (hD : H1 D = some (.lst xs)) : Stp C B S p A d st H t st1 H2 :=
  { a with fm := a.fm.trans (f.mono fun b z => by rw [List.mem_singleton.mp z]; exact m), ca := a.ca.f1 f n hD }
/-- what a list of one's own is not -/
theorem CAt.neD (c : CAt C B H p A st) {D : Addr} (h : H D = none) : D ≠ A.ev ∧ D ≠ A.l ∧ D ∉ A.ch p := by
  have h0 : ∀ {b o}, H b = some o → D ≠ b := fun e z => by rw [z, e] at h; cases h
  obtain ⟨vs, l, _⟩ := c.ln
  refine ⟨h0 c.ev, h0 l, fun z => ?_⟩
  rcases List.mem_cons.mp z with z | z
  · exact h0 c.ob z
  rcases List.mem_cons.mp z with z | z
  · exact h0 l z
  rcases List.mem_cons.mp z with z | z
  · exact h0 c.mo z
  · exact h0 c.wa (List.mem_singleton.mp z)
end
end A68
set_option maxRecDepth 100000
set_option maxHeartbeats 4000000
/-! add_up, use_most, use_wait. -/
namespace A68
open PySem PySem.Spec PyProof.Rows L2
local macro_rules | `(tactic| walk_at "rd1") => `(tactic| first
  | ((with_reducible refine' rVar ?hx ?_); (case hx => rfl))
  | (with_reducible refine rC ?_)
  | (with_reducible refine rOp ?_)
  | (with_reducible refine rUn ?_)
  | (with_reducible refine rI0i ?_)
  | (with_reducible refine rUi ?_)
  | ((with_reducible refine rMulL ?a ?b ?_); (case a => decide); (case b => decide))
  | ((with_reducible refine rMulR ?a ?b ?_); (case a => decide); (case b => decide))
  | ((with_reducible refine rModP ?a ?_); (case a => decide))
  | ((with_reducible refine rDivP ?a ?b ?_); (case a => decide); (case b => decide))
  | ((with_reducible refine rPowL ?a ?b ?c ?_); (case a => decide); (case b => decide); (case c => decide))
  | (with_reducible refine rEqI ?_)
  | (with_reducible refine rNeI ?_)
  | (with_reducible refine rIsNi ?_)
  | (with_reducible refine rIsNn ?_)
  | (with_reducible refine rIsNr ?_)
  | (with_reducible refine rNotNi ?_)
  | (with_reducible refine rNotNn ?_)
  | (with_reducible refine rNotNr ?_)
  | (with_reducible refine rTest ?_)
  | (with_reducible refine rTB ?_)
  | (with_reducible refine rBlV ?_)
  | (with_reducible refine rAnd ?_)
  | (with_reducible refine rOr ?_)
  | (with_reducible refine rNot ?_)
  | (with_reducible refine rAndV ?_)
  | (with_reducible refine rOrV ?_)
  | (with_reducible refine rNotV ?_)
  | (with_reducible refine rIf ?_)
  | (with_reducible refine rNil ?_)
  | (with_reducible refine rCons ?_)
  | (with_reducible refine rTup ?_)
  | (with_reducible refine rLst ?_)
  | (with_reducible refine rCB ?_)
  | (with_reducible refine rCall ?_)
  | (with_reducible refine rBM ?_)
  | (with_reducible refine rMin2i ?_)
  | (with_reducible refine rMax2i ?_)
  | (with_reducible refine rInt1i ?_)
  | (with_reducible refine rPartN ?_)
  | (with_reducible refine rPart ?_)
  | (with_reducible refine rInt ?_)
  | (with_reducible refine rSlS ?_)
  | (with_reducible refine rSFld ?_)
  | (with_reducible refine rSDPut ?_)
  | (with_reducible refine rDGet ?_)
  | (with_reducible refine rDIn ?_)
  | (with_reducible refine rDNotIn ?_)
  | (with_reducible refine rSeq ?_)
  | (with_reducible refine rAsg ?_)
  | (with_reducible refine rName ?_)
  | (with_reducible refine rDrop ?_)
  | (with_reducible refine rRet ?_)
  | (with_reducible refine rIfS ?_)
  | (with_reducible refine rNext ?_)
  | (with_reducible refine rPar ?_)
  | (with_reducible refine rPar2 ?_)
  | (with_reducible refine rMeth ?_)
  | (with_reducible refine rGCons ?_)
  | (with_reducible refine rGNil ?_)
  | (with_reducible refine rForS ?_)
  | (with_reducible refine rLcS ?_)
  | (with_reducible refine rIL ?_)
  | (with_reducible refine rIT ?_)
  | (with_reducible refine rIE ?_)
  | (with_reducible refine rYes ?_)
  | (with_reducible refine rIR1 ?_)
  | (with_reducible refine rIR2 ?_)
  | (with_reducible refine rIET ?_)
  | (with_reducible refine ifSn ?_)
  | (with_reducible refine ifNn ?_)
  | (with_reducible refine ifSs ?_)
  | (with_reducible refine ifNs ?_)
  | (with_reducible refine rNotNfs ?_)
  | (with_reducible refine rNotNfn ?_)
  | (with_reducible refine rIsNfs ?_)
  | (with_reducible refine rIsNfn ?_)
  | (with_reducible refine ifT ?_)
  | (with_reducible refine ifF ?_)
  | (with_reducible refine ifNT ?_)
  | (with_reducible refine ifNF ?_))
local macro_rules | `(tactic| walk_at "rd") => `(tactic| (repeat walk_at "rd1"))
theorem CS.M_line {st : CS} {B : Br} (v : Val B st) {a b u : Int} (h : st.M a b = some u) : ∃ (n : Nat) (x : Line), valV st.mosts (kk a b) = some (.int n) ∧ st.lines[n]? = some x ∧ x.most = true ∧ x.a = a ∧ x.b = b ∧ x.w = u := by
  unfold CS.M at h
  cases e : valV st.mosts (kk a b) with
  | none => rw [e] at h; cases h
  | some y =>
    obtain ⟨n, x, e1, e2, e3, e4, e5, e6⟩ := v.mo.w e
    rw [h] at e6
    exact ⟨n, x, by rw [e1], e2, e3, e4, e5, (Option.some.inj e6).symm⟩
theorem CS.W_line {st : CS} {B : Br} (v : Val B st) {a b u : Int} (h : st.W a b = some u) : ∃ (n : Nat) (x : Line), valV st.waits (kk a b) = some (.int n) ∧ st.lines[n]? = some x ∧ x.most = false ∧ x.a = a ∧ x.b = b ∧ x.w = u := by
  unfold CS.W at h
  cases e : valV st.waits (kk a b) with
  | none => rw [e] at h; cases h
  | some y =>
    obtain ⟨n, x, e1, e2, e3, e4, e5, e6⟩ := v.wa.w e
    rw [h] at e6
    exact ⟨n, x, by rw [e1], e2, e3, e4, e5, (Option.some.inj e6).symm⟩
theorem CS.M_none {st : CS} {a b : Int} (h : valV st.mosts (kk a b) = none) : st.M a b = none := by
  unfold CS.M
  rw [h]
  rfl
theorem line_lt {ls : List Line} {n : Nat} {x : Line} (h : ls[n]? = some x) : n < ls.length := (List.getElem?_eq_some_iff.mp h).1
def LeM (st : CS) (a b c : Int) : Prop := if a = b then 0 ≤ c else ∃ z, st.M a b = some z ∧ z ≤ c
def GeW (st : CS) (i e c : Int) : Prop := ∃ z, st.W i e = some z ∧ c ≤ z
theorem LeM.mono {B : Br} {st st' : CS} (r : R B st st') {a b c : Int} (h : LeM st a b c) : LeM st' a b c := by
  unfold LeM at h ⊢
  by_cases e : a = b
  · rw [if_pos e] at h ⊢
    exact h
  · rw [if_neg e] at h ⊢
    obtain ⟨z, h1, h2⟩ := h
    obtain ⟨y, h3, h4⟩ := r.mo _ _ _ h1
    exact ⟨y, h3, Int.le_trans h4 h2⟩
theorem GeW.mono {B : Br} {st st' : CS} (r : R B st st') {i e c : Int} (h : GeW st i e c) : GeW st' i e c := by
  obtain ⟨z, h1, h2⟩ := h
  obtain ⟨y, h3, h4⟩ := r.wa _ _ _ h1
  exact ⟨y, h3, Int.le_trans h2 h4⟩
theorem evV_get {B : Br} {j : Nat} {x : V} (h : (evV B)[j]? = some x) : x = .int (j : Nat) ∧ B.ev (j : Nat) ∧ j < 2 * B.n + 1 := by
  have l := (List.getElem?_eq_some_iff.mp h).1
  unfold evV at h l
  rw [rgV_length] at l
  unfold rgV at h
  rw [List.getElem?_map, List.getElem?_range (by omega)] at h
  refine ⟨?_, ⟨by omega, by omega⟩, by omega⟩
  cases h
  show V.int (0 + _) = _
  rw [Int.zero_add]
theorem evV_len {B : Br} : (evV B).length = 2 * B.n + 1 := by
  unfold evV
  rw [rgV_length]
  omega
def spAdd (C : Addr) (B : Br) : Sp := fun vs H Q _ => ∃ (p : Addr) (A : CA) (st : CS) (a b c : Int), vs = [.ref p, .int a, .int b, .int c] ∧ CAt C B H p A st ∧ Val B st ∧ B.ev a ∧ B.ev b ∧ B.ev c ∧ st.lines.length ≤ 100000 ∧
  ∀ (t : Bool) (st' : CS) (H' : Hp), Stp C B (A.ch p) p A 1 st H t st' H' → (st'.fault = none → ∀ u w, st.M a b = some u → st.M b c = some w → if a = c then 0 ≤ u + w else ∃ z, st'.M a c = some z ∧ z ≤ u + w) → Q (.bl t) H'
section
variable {P : Program} {w : World} {K : PySem.W.Frag} {mg : Str → Option Value} {base : Heap} {f : Addr} {fd : FuncData} {C : Addr} {B : Br} {H : Hp} {p : Addr} {A : CA} {st : CS}
abbrev POM : List Str := ["self", "a", "b", "w", "reason"]
abbrev POW : List Str := ["self", "task", "event", "w", "reason"]
abbrev N_c_add_up : List Str := ["self", "a", "b", "c", "k", "other"]
theorem sc_c_add_up : FnScope N_c_add_up ["self", "a", "b", "c"] (defScope s_c_add_up) := ⟨rfl, rfl, rfl, by decide +kernel, rfl, by decide +kernel, by decide +kernel⟩
-- slots: 0 self, 1 a, 2 b, 3 c, 4 k, 5 other
theorem ok_add_up (F : FD K "add_up" "Closing.add_up" s_c_add_up f fd) (T : Tx K mg C) (Z : Fr0 mg) (c_om : CalM P w K mg base C "offer_most" POM 1 (spOfferM C B)) : FnOk P w K mg base CX0 2 f fd ["self", "a", "b", "c"] (spAdd C B) := by
  obtain ⟨f_offer_most, fd_offer_most, F_offer_most, mt_offer_most, bd_offer_most⟩ := c_om
  refine F.ok sc_c_add_up (fun vs H Q E h => ?_) (fun cdv A0 outer s H vs Q E hr h => ?_)
  · obtain ⟨_, _, _, _, _, _, rfl, _⟩ := h
    rfl
  · obtain ⟨p, A, st, a, b, c, rfl, ca, v, ea, eb, ec, z, k⟩ := h
    have hu := hu_of hr
    have nd := sc_c_add_up.nd
    refine ⟨_, PSs.nox (pss_cons (ps_if (PW.pt (pw_or (pt_cmpR op_notN1 (pe_fld (pv 0) rfl) pe_non (nomark _)) (pw_or (pt_cmp (pc_dnotin hu (pe_tup (pa_cons (pv 1) (pa_cons (pv 2) pa_nil))) (pe_fld (pv 0) rfl))) (pw_or1 (pt_cmp (pc_dnotin hu (pe_tup (pa_cons (pv 2) (pa_cons (pv 3) pa_nil))) (pe_fld (pv 0) rfl))))))) (pss_one (ps_ret pe_bl)) pss_nil)
      (pss_cons (ps_par (i := 4) (j := 5) (by rfl) nd rfl rfl (by decide) rfl rfl (pa_cons (pe_dget hu (pe_fld (pv 0) rfl) (pe_tup (pa_cons (pv 1) (pa_cons (pv 2) pa_nil))) (fun _ _ => rfl)) (pa_cons (pe_dget hu (pe_fld (pv 0) rfl) (pe_tup (pa_cons (pv 2) (pa_cons (pv 3) pa_nil))) (fun _ _ => rfl)) pa_nil)) (by rfl))
      (pss_one (ps_ret (pe_meth (pv 0) T.cl mt_offer_most F_offer_most (hr.mono (by decide)) bd_offer_most .nil pass0 (pa_cons (pv 1) (pa_cons (pv 3) (pa_cons (pe_op op_add (pe_ix ix_tup (pe_ix ix_list (pe_fld (pv 0) rfl) (pv 4) (fun _ _ => rfl)) pe_int (fun _ _ => rfl)) (pe_ix ix_tup (pe_ix ix_list (pe_fld (pv 0) rfl) (pv 5) (fun _ _ => rfl)) pe_int (fun _ _ => rfl))) (pa_cons (pe_tup (pa_cons pe_str (pa_cons (pv 4) (pa_cons (pv 5) pa_nil)))) pa_nil))))))))), ?_⟩
    walk_at "rd"
    refine fFault T ca rfl ?_
    have no : ∀ H1, Fm [] H H1 → (st.fault = none → ∀ u w, st.M a b = some u → st.M b c = some w → if a = c then 0 ≤ u + w else ∃ z, st.M a c = some z ∧ z ≤ u + w) → Q (.bl false) H1 := fun H1 f e => k false st H1 ((Stp.refl (d := 1) ca v).new f) e
    cases ef : st.fault with
    | some fl =>
      walk_at "rd"
      exact no H Fm.refl fun z => by rw [ef] at z; cases z
    | none =>
      walk_at "rd"
      refine rNewT (ok100 rfl) fun q1 H1 n1 f1 t1 => ?_
      have c1 := ca.f0 f1
      refine fMosts T c1 rfl ⟨_, _, rfl, DGet.t (k := kk a b) c1.mo t1, ?_⟩
      cases e1 : valV st.mosts (kk a b) with
      | none =>
        walk_at "rd"
        exact no H1 f1 fun _ u w h1 _ => by rw [CS.M_none e1] at h1; cases h1
      | some y1 =>
        walk_at "rd"
        refine rNewT (ok100 rfl) fun q2 H2 n2 f2 t2 => ?_
        have c2 := c1.f0 f2
        refine fMosts T c2 rfl ⟨_, _, rfl, DGet.t (k := kk b c) c2.mo t2, ?_⟩
        cases e2 : valV st.mosts (kk b c) with
        | none =>
          walk_at "rd"
          exact no H2 (f1.trans f2) fun _ u w _ h1 => by rw [CS.M_none e2] at h1; cases h1
        | some y2 =>
          obtain ⟨n1, x1, rfl, g1, m1, a1, b1, w1⟩ := v.mo.w e1
          obtain ⟨n2, x2, rfl, g2, m2, a2, b2, w2⟩ := v.mo.w e2
          walk_at "rd"
          refine fMosts T c2 rfl ?_
          walk_at "rd"
          refine rNewT (ok100 rfl) fun q3 H3 n3 f3 t3 => ?_
          have c3 := c2.f0 f3
          refine ⟨_, _, rfl, by rw [← e1]; exact DGet.t (k := kk a b) c3.mo t3, ?_⟩
          walk_at "rd"
          refine fMosts T c3 rfl ?_
          walk_at "rd"
          refine rNewT (ok100 rfl) fun q4 H4 n4 f4 t4 => ?_
          have c4 := c3.f0 f4
          refine ⟨_, _, rfl, by rw [← e2]; exact DGet.t (k := kk b c) c4.mo t4, ?_⟩
          walk_at "rd"
          refine ⟨_, _, _, rfl, c4.ob, cf_noM.1, ?_⟩
          walk_at "rd"
          refine fLines T c4 rfl ?_
          walk_at "rd"
          refine rLineW c4 g1 ?_
          walk_at "rd"
          refine fLines T c4 rfl ?_
          walk_at "rd"
          refine rLineW c4 g2 ?_
          walk_at "rd"
          refine rNewT (ok100 rfl) fun q5 H5 n5 f5 t5 => ?_
          walk_at "rd"
          have c5 := c4.f0 f5
          have F5 : Fm [] H H5 := (((f1.trans f2).trans f3).trans f4).trans f5
          refine ⟨p, A, st, a, c, x1.w + x2.w, .sum n1 n2, q5, rfl, c5, v, t5, ⟨line_lt g1, line_lt g2, x1, x2, g1, g2, m1, m2, by rw [a2, b1], rfl, a1.symm, b2.symm, rfl⟩, ea, ec, z, ?_⟩
          intro t st' H' fm' ca' v' r' ub' tr' fl' fin
          refine k t st' H' ⟨F5.up.trans fm', ca', v', r', ub', tr', fl'⟩ fun e u w h1 h2 => ?_
          have h1' : (valV st.mosts (kk a b)).bind (wAt st.lines) = some u := h1
          have h2' : (valV st.mosts (kk b c)).bind (wAt st.lines) = some w := h2
          rw [w1] at h1'
          rw [w2] at h2'
          cases h1'
          cases h2'
          exact fin e
def spUseM (C : Addr) (B : Br) : Sp := fun vs H Q _ => ∃ (p : Addr) (A : CA) (st : CS) (a b u : Int), vs = [.ref p, .int a, .int b] ∧ CAt C B H p A st ∧ Val B st ∧ B.ev a ∧ B.ev b ∧ st.M a b = some u ∧ st.lines.length ≤ 100000 ∧
  ∀ (t : Bool) (st' : CS) (H' : Hp), Stp C B (A.ch p) p A 1 st H t st' H' → (st'.fault = none → isEnd a → u < 0 → if a - 1 = b then 0 ≤ B.lo (own a) + u else ∃ z, st'.M (a - 1) b = some z ∧ z ≤ B.lo (own a) + u) → Q (.bl t) H'
theorem own_tk {B : Br} {e : Int} (h : B.ev e) (i : isEnd e) : B.tk (own e) ∧ 2 * own e + 1 = e - 1 ∧ B.ev (e - 1) ∧ 2 * own e + 2 = e := by
  obtain ⟨h1, h2⟩ := h
  obtain ⟨h3, h4⟩ := i
  unfold Br.tk Br.ev own
  omega
theorem ownV_end {e : Int} (i : isEnd e) : ownV e = .int (own e) := by
  unfold ownV
  rw [if_neg (by have := i.1; omega)]
  rfl
theorem isEndB_iff {e : Int} : isEndB e = true ↔ isEnd e := by
  unfold isEndB isEnd
  simp
theorem CAt.lo (c : CAt C B H p A st) {i : Int} (hi : B.tk i) {Q : VK} {K : PySem.W.Frag} (q : Q (.int (B.lo i)) H) : rIxT K (.ref A.ts) (.int i) H fun y H2 => rIxT K y (.int 0) H2 Q := by
  obtain ⟨ad, h1, h2⟩ := c.task hi
  exact rIxTi (SqT.of c.ht) hi.1 h1 (rIxTl h2 rfl q)
abbrev N_c_use_most : List Str := ["self", "a", "b", "k", "w", "task"]
theorem sc_c_use_most : FnScope N_c_use_most ["self", "a", "b"] (defScope s_c_use_most) := ⟨rfl, rfl, rfl, by decide +kernel, rfl, by decide +kernel, by decide +kernel⟩
-- slots: 0 self, 1 a, 2 b, 3 k, 4 w, 5 task
theorem ok_use_most (F : FD K "use_most" "Closing.use_most" s_c_use_most f fd) (T : Tx K mg C) (Z : Fr0 mg) (c_om : CalM P w K mg base C "offer_most" POM 1 (spOfferM C B))
    (k_owner_of : Cal P w K mg base "owner_of" ["event"] 1 (spI1 ownV)) (k_is_end : Cal P w K mg base "is_end" ["event"] 1 (spI1 fun n => .bl (isEndB n))) (k_begin_of : Cal P w K mg base "begin_of" ["task"] 1 (spI1 fun n => .int (2 * n + 1))) :
    FnOk P w K mg base CX0 2 f fd ["self", "a", "b"] (spUseM C B) := by
  obtain ⟨f_offer_most, fd_offer_most, F_offer_most, mt_offer_most, bd_offer_most⟩ := c_om
  refine F.ok sc_c_use_most (fun vs H Q E h => ?_) (fun cdv A0 outer s H vs Q E hr h => ?_)
  · obtain ⟨_, _, _, _, _, _, rfl, _⟩ := h
    rfl
  · obtain ⟨p, A, st, a, b, u, rfl, ca, v, ea, eb, hm, z, k⟩ := h
    have hu := hu_of hr
    have nd := sc_c_use_most.nd
    refine ⟨_, PSs.nox (pss_cons (ps_set (i := 3) nd rfl (by first | exact Or.inl rfl | exact Or.inr rfl) (pe_dget hu (pe_fld (pv 0) rfl) (pe_tup (pa_cons (pv 1) (pa_cons (pv 2) pa_nil))) (fun _ _ => rfl)))
      (pss_cons (ps_par (i := 4) (j := 5) (by rfl) nd rfl rfl (by decide) rfl rfl (pa_cons (pe_ix ix_tup (pe_ix ix_list (pe_fld (pv 0) rfl) (pv 3) (fun _ _ => rfl)) pe_int (fun _ _ => rfl)) (pa_cons (pe_cal k_owner_of (hr.mono (by decide)) (by rfl) (pa_cons (pv 1) pa_nil)) pa_nil)) (by rfl))
      (pss_cons (ps_if (PW.pt (pw_or (pt_cmpR op_notN1 (pe_fld (pv 0) rfl) pe_non (nomark _)) (pw_or (pt_not (pt_val (pe_cal k_is_end (hr.mono (by decide)) (by rfl) (pa_cons (pv 1) pa_nil)))) (pw_or1 (pt_cmpR op_eq (pv 1) (pv 2) (nomark _)))))) (pss_one (ps_ret pe_bl)) pss_nil)
      (pss_one (ps_ret (pe_and (pe_cmpR op_lt (pv 4) pe_int (nomark _)) (pe_one (pe_meth (pv 0) T.cl mt_offer_most F_offer_most (hr.mono (by decide)) bd_offer_most .nil pass0 (pa_cons (pe_cal k_begin_of (hr.mono (by decide)) (by rfl) (pa_cons (pv 5) pa_nil)) (pa_cons (pv 2) (pa_cons (pe_op op_add (pe_ix ix_tup (pe_ix ix_tup (pe_fld (pv 0) rfl) (pv 5) (fun _ _ => rfl)) pe_int (fun _ _ => rfl)) (pv 4)) (pa_cons (pe_tup (pa_cons pe_str (pa_cons (pv 3) pa_nil))) pa_nil)))))))))))), ?_⟩
    obtain ⟨n, x, e1, g1, m1, a1, b1, w1⟩ := CS.M_line v hm
    walk_at "rd"
    refine fMosts T ca rfl ?_
    walk_at "rd"
    refine rNewT (ok100 rfl) fun q1 H1 n1 f1 t1 => ?_
    have c1 := ca.f0 f1
    refine ⟨_, _, rfl, by rw [← e1]; exact DGet.t (k := kk a b) c1.mo t1, ?_⟩
    walk_at "rd"
    refine fLines T c1 rfl ?_
    walk_at "rd"
    refine rLineW c1 g1 ?_
    walk_at "rd"
    refine rSpI1 ?_
    walk_at "rd"
    have no : (st.fault = none → isEnd a → u < 0 → if a - 1 = b then 0 ≤ B.lo (own a) + u else ∃ z, st.M (a - 1) b = some z ∧ z ≤ B.lo (own a) + u) → Q (.bl false) H1 := fun e => k false st H1 ((Stp.refl (d := 1) ca v).new f1) e
    refine fFault T c1 rfl ?_
    cases ef : st.fault with
    | some fl =>
      walk_at "rd"
      exact no fun z => by rw [ef] at z; cases z
    | none =>
      walk_at "rd"
      refine rSpI1 ?_
      walk_at "rd"
      cases ie : isEndB a with
      | false =>
        walk_at "rd"
        exact no fun _ z => by rw [isEndB_iff.mpr z] at ie; cases ie
      | true =>
        have ie' := isEndB_iff.mp ie
        obtain ⟨tk, o1, ev1, o2⟩ := own_tk ea ie'
        rw [ownV_end ie']
        walk_at "rd"
        by_cases ab : a = b
        · refine ifDt ab ?_
          walk_at "rd"
          have nn : valV st.mosts (kk a b) = none := by rw [ab]; exact v.nf ef b
          rw [e1] at nn
          cases nn
        · refine ifDf ab ?_
          walk_at "rd"
          by_cases u0 : x.w < 0
          · refine ifDt u0 ?_
            walk_at "rd"
            refine ⟨_, _, _, rfl, c1.ob, cf_noM.1, ?_⟩
            walk_at "rd"
            refine rSpI1 ?_
            walk_at "rd"
            refine fTasks T c1 rfl ?_
            walk_at "rd"
            refine c1.lo tk ?_
            walk_at "rd"
            refine rNewT (ok100 rfl) fun q5 H5 n5 f5 t5 => ?_
            walk_at "rd"
            have c5 := c1.f0 f5
            refine ⟨p, A, st, 2 * own a + 1, b, B.lo (own a) + x.w, .early n, q5, rfl, c5, v, t5, ⟨line_lt g1, x, g1, m1, by rw [a1]; exact ie', u0, rfl, by rw [a1]; exact o1, b1.symm, by rw [a1]⟩, by rw [o1]; exact ev1, eb, z, ?_⟩
            intro t st' H' fm' ca' v' r' ub' tr' fl' fin
            refine k t st' H' ⟨(f1.trans f5).up.trans fm', ca', v', r', ub', tr', fl'⟩ fun e _ _ => ?_
            rw [o1] at fin
            rw [← w1]
            exact fin e
          · refine ifDf u0 ?_
            exact no fun _ _ z => absurd z (by rw [← w1]; exact u0)
def spUseW (C : Addr) (B : Br) : Sp := fun vs H Q _ => ∃ (p : Addr) (A : CA) (st : CS) (i e w : Int), vs = [.ref p, .int i, .int e] ∧ CAt C B H p A st ∧ Val B st ∧ B.tk i ∧ B.ev e ∧ st.W i e = some w ∧ st.lines.length ≤ 90000 ∧
  ∀ (t : Bool) (st' : CS) (H' : Hp), Stp C B (A.ch p) p A 20 st H t st' H' →
    (st'.fault = none → if e = 2 * i + 1 then 0 ≤ -(min w (B.lo i)) else ∃ z, st'.M e (2 * i + 1) = some z ∧ z ≤ -(min w (B.lo i))) →
    (isEnd e → own e ≠ i → 0 < w → ∃ z, st'.W i (e - 1) = some z ∧ w - B.lo (own e) ≤ z) →
    (∀ x m, B.ev x → x ≠ 2 * i + 2 → x ≠ e → st.M x e = some m → ∃ z, st'.W i x = some z ∧ min (B.hi i) (w - m) ≤ z) → Q (.bl t) H'
abbrev N_c_use_wait : List Str := ["self", "task", "event", "k", "w", "low", "high", "some", "other", "one", "number", "later"]
theorem sc_c_use_wait : FnScope N_c_use_wait ["self", "task", "event"] (defScope s_c_use_wait) := ⟨rfl, rfl, rfl, by decide +kernel, rfl, by decide +kernel, by decide +kernel⟩
-- slots: 0 self, 1 task, 2 event, 3 k, 4 w, 5 low, 6 high, 7 some, 8 other, 9 one, 10 number, 11 later
theorem ok_use_wait (ok : B.Ok) (F : FD K "use_wait" "Closing.use_wait" s_c_use_wait f fd) (T : Tx K mg C) (Z : Fr0 mg) (c_om : CalM P w K mg base C "offer_most" POM 1 (spOfferM C B)) (c_ow : CalM P w K mg base C "offer_wait" POW 1 (spOfferW C B))
    (k_owner_of : Cal P w K mg base "owner_of" ["event"] 1 (spI1 ownV)) (k_is_end : Cal P w K mg base "is_end" ["event"] 1 (spI1 fun n => .bl (isEndB n))) (k_begin_of : Cal P w K mg base "begin_of" ["task"] 1 (spI1 fun n => .int (2 * n + 1))) (k_end_of : Cal P w K mg base "end_of" ["task"] 1 (spI1 fun n => .int (2 * n + 2))) :
    FnOk P w K mg base CX0 2 f fd ["self", "task", "event"] (spUseW C B) := by
  obtain ⟨f_offer_most, fd_offer_most, F_offer_most, mt_offer_most, bd_offer_most⟩ := c_om
  obtain ⟨f_offer_wait, fd_offer_wait, F_offer_wait, mt_offer_wait, bd_offer_wait⟩ := c_ow
  refine F.ok sc_c_use_wait (fun vs H Q E h => ?_) (fun cdv A0 outer s H vs Q E hr h => ?_)
  · obtain ⟨_, _, _, _, _, _, rfl, _⟩ := h
    rfl
  · obtain ⟨p, A, st, i, e, u, rfl, ca, v, ti, ee, hm, z, k⟩ := h
    have hu := hu_of hr
    have nd := sc_c_use_wait.nd
    refine ⟨_, PSs.nox (pss_cons (ps_set (i := 3) nd rfl (by first | exact Or.inl rfl | exact Or.inr rfl) (pe_dget hu (pe_fld (pv 0) rfl) (pe_tup (pa_cons (pv 1) (pa_cons (pv 2) pa_nil))) (fun _ _ => rfl)))
      (pss_cons (ps_asg (pe_tup (pa_cons (pe_ix ix_tup (pe_ix ix_list (pe_fld (pv 0) rfl) (pv 3) (fun _ _ => rfl)) pe_int (fun _ _ => rfl)) (pa_cons (pe_ix ix_tup (pe_fld (pv 0) rfl) (pv 1) (fun _ _ => rfl)) pa_nil))) (pg_tup rfl (pgs_cons (pg_name (i := 4) nd rfl (by first | exact Or.inl rfl | exact Or.inr rfl)) (pgs_cons (pg_tup rfl (pgs_cons (pg_name (i := 5) nd rfl (by first | exact Or.inl rfl | exact Or.inr rfl)) (pgs_cons (pg_name (i := 6) nd rfl (by first | exact Or.inl rfl | exact Or.inr rfl)) pgs_nil))) pgs_nil))))
      (pss_cons (ps_set (i := 7) nd rfl (by first | exact Or.inl rfl | exact Or.inr rfl) (pe_lst (pa_cons (pe_meth (pv 0) T.cl mt_offer_most F_offer_most (hr.mono (by decide)) bd_offer_most .nil pass0 (pa_cons (pv 2) (pa_cons (pe_cal k_begin_of (hr.mono (by decide)) (by rfl) (pa_cons (pv 1) pa_nil)) (pa_cons (pe_un un_neg (pe_callB (call_min2n rfl) (by rfl) Z.min (by decide +kernel) (pa_cons (pv 4) (pa_cons (pv 5) pa_nil)))) (pa_cons (pe_tup (pa_cons pe_str (pa_cons (pv 3) pa_nil))) pa_nil))))) pa_nil)))
      (Evl.pss_cut (ps_if (PW.pt (pw_and (pt_val (pe_cal k_is_end (hr.mono (by decide)) (by rfl) (pa_cons (pv 2) pa_nil))) (pw_and (pt_cmpR op_ne (pe_cal k_owner_of (hr.mono (by decide)) (by rfl) (pa_cons (pv 2) pa_nil)) (pv 1) (nomark _)) (pw_and1 (pt_cmpR op_gt (pv 4) pe_int (nomark _)))))) (pss_cons (ps_set (i := 8) nd rfl (by first | exact Or.inl rfl | exact Or.inr rfl) (pe_cal k_owner_of (hr.mono (by decide)) (by rfl) (pa_cons (pv 2) pa_nil)))
        (pss_one (ps_expr (pe_bm PySem.F.plainAttrs_list PySem.F.slot_list_append PySem.F.type_list_append mt_append (pv 7) (pa_cons (pe_meth (pv 0) T.cl mt_offer_wait F_offer_wait (hr.mono (by decide)) bd_offer_wait .nil pass0 (pa_cons (pv 1) (pa_cons (pe_cal k_begin_of (hr.mono (by decide)) (by rfl) (pa_cons (pv 8) pa_nil)) (pa_cons (pe_op op_sub (pv 4) (pe_ix ix_tup (pe_ix ix_tup (pe_fld (pv 0) rfl) (pv 8) (fun _ _ => rfl)) pe_int (fun _ _ => rfl))) (pa_cons (pe_tup (pa_cons pe_str (pa_cons (pv 3) pa_nil))) pa_nil))))) pa_nil))))) pss_nil)
      (pss_cons (ps_for PassesOwn.never rfl (pi_list (pe_fld (pv 0) rfl)) (pg_name (i := 9) nd rfl (by first | exact Or.inl rfl | exact Or.inr rfl))
        (pss_one (ps_if (PW.pt (pw_and (pt_cmpR op_notIn_seq (pv 9) (pe_tup (pa_cons (pe_cal k_end_of (hr.mono (by decide)) (by rfl) (pa_cons (pv 1) pa_nil)) (pa_cons (pv 2) pa_nil))) (by rfl)) (pw_and1 (pt_cmp (pc_din hu (pe_tup (pa_cons (pv 9) (pa_cons (pv 2) pa_nil))) (pe_fld (pv 0) rfl)))))) (pss_cons (ps_set (i := 10) nd rfl (by first | exact Or.inl rfl | exact Or.inr rfl) (pe_dget hu (pe_fld (pv 0) rfl) (pe_tup (pa_cons (pv 9) (pa_cons (pv 2) pa_nil))) (fun _ _ => rfl)))
          (pss_cons (ps_set (i := 11) nd rfl (by first | exact Or.inl rfl | exact Or.inr rfl) (pe_callB (call_min2n rfl) (by rfl) Z.min (by decide +kernel) (pa_cons (pv 6) (pa_cons (pe_op op_sub (pv 4) (pe_ix ix_tup (pe_ix ix_list (pe_fld (pv 0) rfl) (pv 10) (fun _ _ => rfl)) pe_int (fun _ _ => rfl))) pa_nil))))
          (pss_one (ps_expr (pe_bm PySem.F.plainAttrs_list PySem.F.slot_list_append PySem.F.type_list_append mt_append (pv 7) (pa_cons (pe_meth (pv 0) T.cl mt_offer_wait F_offer_wait (hr.mono (by decide)) bd_offer_wait .nil pass0 (pa_cons (pv 1) (pa_cons (pv 9) (pa_cons (pv 11) (pa_cons (pe_tup (pa_cons pe_str (pa_cons (pv 3) (pa_cons (pv 10) pa_nil)))) pa_nil))))) pa_nil)))))) pss_nil)))
      (pss_one (ps_ret (pe_callB (cr_any rfl) (by rfl) Z.any (by decide +kernel) (pa_cons (pv 7) pa_nil))))))))), ?_⟩
    obtain ⟨n, x, e1, g1, m1, a1, b1, w1⟩ := CS.W_line v hm
    walk_at "rd"
    refine fWaits T ca rfl ?_
    walk_at "rd"
    refine rNewT (ok100 rfl) fun q1 H1 n1 f1 t1 => ?_
    have c1 := ca.f0 f1
    refine ⟨_, _, rfl, by rw [← e1]; exact DGet.t (k := kk i e) c1.wa t1, ?_⟩
    walk_at "rd"
    refine fLines T c1 rfl ?_
    walk_at "rd"
    refine rLineW c1 g1 ?_
    walk_at "rd"
    refine fTasks T c1 rfl ?_
    walk_at "rd"
    obtain ⟨ad, h1, h2⟩ := c1.task ti
    refine rIxTi (SqT.of c1.ht) ti.1 h1 ?_
    walk_at "rd"
    refine rNewT (ok100 rfl) fun q2 H2 n2 f2 t2 => ?_
    have c2 := c1.f0 f2
    refine rGTup t2 rfl ?_
    walk_at "rd"
    refine rGTup (f2.tup _ _ h2) rfl ?_
    walk_at "rd"
    refine ⟨_, _, _, rfl, c2.ob, cf_noM.1, ?_⟩
    walk_at "rd"
    refine rSpI1 ?_
    walk_at "rd"
    refine rNewT (ok100 rfl) fun q3 H3 n3 f3 t3 => ?_
    have c3 := c2.f0 f3
    walk_at "rd"
    have F3 : Fm [] H H3 := (f1.trans f2).trans f3
    refine ⟨p, A, st, e, 2 * i + 1, -(min x.w (B.lo i)), .floor n, q3, rfl, c3, v, t3, ⟨line_lt g1, x, g1, m1, rfl, b1.symm, by rw [a1], by rw [a1]⟩, ee, by obtain ⟨h, h'⟩ := ti; unfold Br.ev; omega, by omega, ?_⟩
    intro t4 st4 H4 fm4 ca4 v4 r4 ub4 tr4 fl4 fin4
    have S4 : Stp C B (A.ch p) p A 1 st H t4 st4 H4 := ⟨F3.up.trans fm4, ca4, v4, r4, ub4, tr4, fl4⟩
    walk_at "rd"
    refine rNewL (ok100 rfl) fun D H5 n5 f5 t5 => ?_
    walk_at "rd"
    have nD := ca4.neD n5
    have D0 : H D = none := S4.fm.fre _ n5
    have SS : ∀ b ∈ A.ch p, b ∈ D :: A.ch p := fun b h => List.mem_cons_of_mem _ h
    have S5 : Stp C B (D :: A.ch p) p A 1 st H t4 st4 H5 := (S4.mono SS).new f5
    have hwi : x.w ≤ B.hi i := by rw [w1]; exact v.hi _ _ _ hm
    rw [← w1] at k
    refine rCut (fun σ' H' => ∃ (o8 : Option V) (bs : List Bool) (st1 : CS), σ' = [some (.ref p), some (.int i), some (.int e), some (.int (n : Nat)), some (.int x.w), some (.int (B.lo i)), some (.int (B.hi i)), some (.ref D), o8, none, none, none] ∧
      Stp C B (D :: A.ch p) p A 2 st H (bs.any id) st1 H' ∧ H' D = some (.lst (bs.map V.bl)) ∧ bs.length ≤ 2 ∧ (st1.fault = none → LeM st1 e (2 * i + 1) (-(min x.w (B.lo i)))) ∧ (isEnd e → own e ≠ i → 0 < x.w → GeW st1 i (e - 1) (x.w - B.lo (own e)))) ?_ ?_
    · have no : (isEnd e → own e ≠ i → 0 < x.w → False) → _ := fun h => show ∃ (o8 : Option V) (bs : List Bool) (st1 : CS), [some (V.ref p), some (.int i), some (.int e), some (.int (n : Nat)), some (.int x.w), some (.int (B.lo i)), some (.int (B.hi i)), some (.ref D), none, none, none, none] = [some (.ref p), some (.int i), some (.int e), some (.int (n : Nat)), some (.int x.w), some (.int (B.lo i)), some (.int (B.hi i)), some (.ref D), o8, none, none, none] ∧
        Stp C B (D :: A.ch p) p A 2 st H (bs.any id) st1 H5 ∧ H5 D = some (.lst (bs.map V.bl)) ∧ bs.length ≤ 2 ∧ (st1.fault = none → LeM st1 e (2 * i + 1) (-(min x.w (B.lo i)))) ∧ (isEnd e → own e ≠ i → 0 < x.w → GeW st1 i (e - 1) (x.w - B.lo (own e))) from
        ⟨none, [t4], st4, rfl, by rw [show [t4].any id = t4 by simp]; exact S5.le (by omega), t5, Nat.le_of_ble_eq_true rfl, fin4, fun z1 z2 z3 => (h z1 z2 z3).elim⟩
      walk_at "rd"
      refine rSpI1 ?_
      walk_at "rd"
      cases ie : isEndB e with
      | false =>
        walk_at "rd"
        exact no fun z _ _ => by rw [isEndB_iff.mpr z] at ie; cases ie
      | true =>
        have ie' := isEndB_iff.mp ie
        obtain ⟨tk, o1, ev1, o2⟩ := own_tk ee ie'
        walk_at "rd"
        refine rSpI1 ?_
        rw [ownV_end ie']
        walk_at "rd"
        by_cases z1 : own e = i
        · refine ifNt z1 ?_
          walk_at "rd"
          exact no fun _ z _ => z z1
        · refine ifNf z1 ?_
          walk_at "rd"
          by_cases z2 : 0 < x.w
          · refine ifDt z2 ?_
            walk_at "rd"
            refine rSpI1 ?_
            rw [ownV_end ie']
            walk_at "rd"
            refine ⟨tyL t5, ?_⟩
            walk_at "rd"
            refine ⟨_, _, _, rfl, S5.ca.ob, cf_noM.2.1, ?_⟩
            walk_at "rd"
            refine rSpI1 ?_
            walk_at "rd"
            refine fTasks T S5.ca rfl ?_
            walk_at "rd"
            refine S5.ca.lo tk ?_
            walk_at "rd"
            refine rNewT (ok100 rfl) fun q6 H6 n6 f6 t6 => ?_
            walk_at "rd"
            have S6 := S5.new f6
            have lo1 := (ok.du _ tk).1
            obtain ⟨ext, pre⟩ := S6.rr.pre
            have g6 : st4.lines[n]? = some x := by rw [pre]; exact ext_get g1
            refine ⟨p, A, st4, i, 2 * own e + 1, x.w - B.lo (own e), .ahead n, q6, rfl, S6.ca, S6.va, t6, ⟨line_lt g6, x, g6, m1, by rw [b1]; exact ie', by rw [b1, a1]; exact z1, z2, rfl, a1.symm, by rw [b1]; exact o1, by rw [b1]⟩, ti, by rw [o1]; exact ev1, by omega, by have := S6.ub; omega, ?_⟩
            intro t7 st7 H7 fm7 ca7 v7 r7 ub7 tr7 fl7 em7 eM7 ef7 fin7
            have S7 : Stp C B (D :: A.ch p) p A 1 st4 H6 t7 st7 H7 := Stp.mono ⟨fm7, ca7, v7, r7, ub7, tr7, fl7⟩ SS
            have h7 : H7 D = some (.lst [V.bl t4]) := fm7.oth _ _ nD.2.2 (f6.oth _ _ (fun z => nomatch z) t5)
            walk_at "rd"
            refine rAppL h7 (line9l (by simp)) ?_
            refine ⟨some (.int (own e)), [t4, t7], st7, rfl, ?_, upd_same, Nat.le_of_ble_eq_true rfl, fun z => LeM.mono r7 (fin4 (r7.flt z)), fun _ _ _ => by rw [o1] at fin7; exact fin7⟩
            rw [show [t4, t7].any id = (t4 || t7) by simp]
            exact (S6.trans S7).own (Fm.wr (by simp) h7 (fun _ z => nomatch z)) (by simp) ⟨nD.1, nD.2.1⟩ h7
          · refine ifDf z2 ?_
            walk_at "rd"
            exact no fun _ _ z => z2 z
    · rintro σ' H' ⟨o8, bs, st1, e', S', hD, lb, fM, fW⟩
      rw [e']
      walk_at "rd"
      refine fEvery T S'.ca rfl ?_
      have F1 : ∀ m x', st.M x' e = some m → ∃ m', st1.M x' e = some m' ∧ m' ≤ m := fun m x' h => S'.rr.mo _ _ _ h
      refine forL (xs := evV B) (fun j σ2 H2 => ∃ (o8 o9 o10 o11 : Option V) (bs : List Bool) (st2 : CS), σ2 = [some (.ref p), some (.int i), some (.int e), some (.int (n : Nat)), some (.int x.w), some (.int (B.lo i)), some (.int (B.hi i)), some (.ref D), o8, o9, o10, o11] ∧
        Stp C B (D :: A.ch p) p A (2 + j) st H (bs.any id) st2 H2 ∧ H2 D = some (.lst (bs.map V.bl)) ∧ bs.length ≤ 2 + j ∧ (st2.fault = none → LeM st2 e (2 * i + 1) (-(min x.w (B.lo i)))) ∧ (isEnd e → own e ≠ i → 0 < x.w → GeW st2 i (e - 1) (x.w - B.lo (own e))) ∧
        ∀ y m, 0 ≤ y → y < (j : Int) → y ≠ 2 * i + 2 → y ≠ e → st.M y e = some m → GeW st2 i y (min (B.hi i) (x.w - m)))
        ⟨o8, none, none, none, bs, st1, rfl, S', hD, lb, fM, fW, fun y m h1 h2 => by omega⟩ ?_ ?_ ?_
      · rintro j σ2 H2 hj ⟨_, _, _, _, _, st2, _, S2, _⟩
        exact SqL.of S2.ca.ev
      · rintro j y σ2 H2 hy ⟨o8, o9, o10, o11, bs, st2, e2, S2, hD2, lb2, fM2, fW2, fD2⟩
        obtain ⟨rfl, ej, lj⟩ := evV_get hy
        rw [e2]
        walk_at "rd"
        refine rSpI1 ?_
        walk_at "rd"
        refine rNewT (ok100 rfl) fun q7 H7 n7 f7 t7 => ?_
        refine rNotInT t7 ?_
        have S7 := S2.new f7
        have hD7 : H7 D = _ := f7.oth _ _ (fun z => nomatch z) hD2
        -- where nothing is offered
        have skip : ∀ H8, Fm [] H7 H8 → ((j : Int) ≠ 2 * i + 2 → (j : Int) ≠ e → ∀ m, st.M j e ≠ some m) → ∃ (o8' o9' o10' o11' : Option V) (bs : List Bool) (st2 : CS), [some (V.ref p), some (.int i), some (.int e), some (.int (n : Nat)), some (.int x.w), some (.int (B.lo i)), some (.int (B.hi i)), some (.ref D), o8, some (.int (j : Nat)), o10, o11] = [some (.ref p), some (.int i), some (.int e), some (.int (n : Nat)), some (.int x.w), some (.int (B.lo i)), some (.int (B.hi i)), some (.ref D), o8', o9', o10', o11'] ∧
            Stp C B (D :: A.ch p) p A (2 + (j + 1)) st H (bs.any id) st2 H8 ∧ H8 D = some (.lst (bs.map V.bl)) ∧ bs.length ≤ 2 + (j + 1) ∧ (st2.fault = none → LeM st2 e (2 * i + 1) (-(min x.w (B.lo i)))) ∧ (isEnd e → own e ≠ i → 0 < x.w → GeW st2 i (e - 1) (x.w - B.lo (own e))) ∧
            ∀ y m, 0 ≤ y → y < ((j + 1 : Nat) : Int) → y ≠ 2 * i + 2 → y ≠ e → st.M y e = some m → GeW st2 i y (min (B.hi i) (x.w - m)) := fun H8 f8 h =>
          ⟨o8, some (.int (j : Nat)), o10, o11, bs, st2, rfl, (S7.new f8).le (by omega), f8.oth _ _ (fun z => nomatch z) hD7, by omega, fM2, fW2, fun y m h1 h2 h3 h4 h5 => by
            by_cases hyj : y = (j : Int)
            · rw [hyj] at h3 h4 h5
              exact absurd h5 (h h3 h4 m)
            · exact fD2 y m h1 (by omega) h3 h4 h5⟩
        by_cases z1 : 2 * i + 2 = (j : Int)
        · rw [decide_eq_true z1, Bool.true_or]
          walk_at "rd"
          exact skip H7 Fm.refl fun z _ => absurd z1.symm z
        · by_cases z2 : e = (j : Int)
          · rw [decide_eq_true z2, Bool.or_true]
            walk_at "rd"
            exact skip H7 Fm.refl fun _ z => absurd z2.symm z
          · rw [decide_eq_false z1, decide_eq_false z2, Bool.or_self]
            walk_at "rd"
            refine rNewT (ok100 rfl) fun q8 H8 n8 f8 t8 => ?_
            have S8 := S7.new f8
            refine fMosts T S8.ca rfl ⟨_, _, rfl, DGet.t (k := kk j e) S8.ca.mo t8, ?_⟩
            cases e8 : valV st2.mosts (kk j e) with
            | none =>
              walk_at "rd"
              refine skip H8 f8 fun _ _ m hm => ?_
              obtain ⟨m', h', _⟩ := S8.rr.mo _ _ _ hm
              rw [CS.M_none e8] at h'
              cases h'
            | some y8 =>
              obtain ⟨n8', x8, rfl, g8, m8, a8, b8, w8⟩ := S8.va.mo.w e8
              walk_at "rd"
              refine fMosts T S8.ca rfl ?_
              walk_at "rd"
              refine rNewT (ok100 rfl) fun q9 H9 n9 f9 t9 => ?_
              have S9 := S8.new f9
              refine ⟨_, _, rfl, by rw [← e8]; exact DGet.t (k := kk j e) S9.ca.mo t9, ?_⟩
              walk_at "rd"
              refine fLines T S9.ca rfl ?_
              walk_at "rd"
              refine rLineW S9.ca g8 ?_
              walk_at "rd"
              have hD9 := f9.oth _ _ (fun z => nomatch z) (f8.oth _ _ (fun z => nomatch z) hD7)
              refine ⟨tyL hD9, ?_⟩
              walk_at "rd"
              refine ⟨_, _, _, rfl, S9.ca.ob, cf_noM.2.1, ?_⟩
              walk_at "rd"
              refine rNewT (ok100 rfl) fun q10 H10 n10 f10 t10 => ?_
              walk_at "rd"
              have S10 := S9.new f10
              obtain ⟨ext, pre⟩ := S10.rr.pre
              have g10 : st2.lines[n]? = some x := by rw [pre]; exact ext_get g1
              refine ⟨p, A, st2, i, j, min (B.hi i) (x.w - x8.w), .delay n n8', q10, rfl, S10.ca, S10.va, t10, ⟨line_lt g10, line_lt g8, x, x8, g10, g8, m1, m8, by rw [b8, b1], by rw [a8, a1]; exact fun z => z1 z.symm, rfl, a1.symm, a8.symm, by rw [a1]⟩, ti, ej, by omega, by have := S10.ub; have := ok.n4; omega, ?_⟩
              intro t11 st11 H11 fm11 ca11 v11 r11 ub11 tr11 fl11 em11 eM11 ef11 fin11
              have S11 : Stp C B (D :: A.ch p) p A 1 st2 H10 t11 st11 H11 := Stp.mono ⟨fm11, ca11, v11, r11, ub11, tr11, fl11⟩ SS
              have h11 := fm11.oth _ _ nD.2.2 (f10.oth _ _ (fun z => nomatch z) hD9)
              walk_at "rd"
              refine rAppL h11 (line9l (by rw [List.length_map]; have := ok.n4; omega)) ?_
              refine ⟨o8, some (.int (j : Nat)), some (.int (n8' : Nat)), some (.int (min (B.hi i) (x.w - x8.w))), bs ++ [t11], st11, rfl, ?_, by rw [upd_same, List.map_append]; rfl, by rw [List.length_append]; simp; omega, fun z => LeM.mono r11 (fM2 (r11.flt z)), fun y1 y2 y3 => GeW.mono r11 (fW2 y1 y2 y3), fun y m h1 h2 h3 h4 h5 => ?_⟩
              · rw [show (bs ++ [t11]).any id = (bs.any id || t11) by simp]
                exact ((S10.trans S11).own (Fm.wr (by simp) h11 (fun _ z => nomatch z)) (by simp) ⟨nD.1, nD.2.1⟩ h11).le (by omega)
              · by_cases hyj : y = (j : Int)
                · rw [hyj] at h5 ⊢
                  obtain ⟨m', h6, h7⟩ := S10.rr.mo _ _ _ h5
                  have h8 : st2.M j e = some x8.w := w8
                  rw [h8] at h6
                  obtain ⟨zz, h9, h10⟩ := fin11
                  exact ⟨zz, h9, by cases h6; omega⟩
                · exact GeW.mono r11 (fD2 y m h1 (by omega) h3 h4 h5)
      · rintro σ2 H2 ⟨o8, o9, o10, o11, bs, st2, e2, S2, hD2, lb2, fM2, fW2, fD2⟩
        rw [e2]
        rw [evV_len] at S2 fD2
        walk_at "rd"
        refine ⟨D, bs, rfl, SqL.of hD2, ?_⟩
        refine k _ st2 H2 (Stp.le { S2 with fm := Fm.drop (L := [D]) S2.fm (fun b h => by rw [List.mem_singleton.mp h]; exact D0) } (by have := ok.n4; omega)) fM2 fW2 fun y m h1 h2 h3 h4 => fD2 y m h1.1 (by have := h1.2; omega) h2 h3 h4
end
end A68
set_option maxRecDepth 100000
set_option maxHeartbeats 4000000
/-! close_once. -/
namespace A68
open PySem PySem.Spec PyProof.Rows L2
local macro_rules | `(tactic| walk_at "rd1") => `(tactic| first
  | ((with_reducible refine' rVar ?hx ?_); (case hx => rfl))
  | (with_reducible refine rC ?_)
  | (with_reducible refine rOp ?_)
  | (with_reducible refine rUn ?_)
  | (with_reducible refine rI0i ?_)
  | (with_reducible refine rUi ?_)
  | ((with_reducible refine rMulL ?a ?b ?_); (case a => decide); (case b => decide))
  | ((with_reducible refine rMulR ?a ?b ?_); (case a => decide); (case b => decide))
  | ((with_reducible refine rModP ?a ?_); (case a => decide))
  | ((with_reducible refine rDivP ?a ?b ?_); (case a => decide); (case b => decide))
  | ((with_reducible refine rPowL ?a ?b ?c ?_); (case a => decide); (case b => decide); (case c => decide))
  | (with_reducible refine rEqI ?_)
  | (with_reducible refine rNeI ?_)
  | (with_reducible refine rIsNi ?_)
  | (with_reducible refine rIsNn ?_)
  | (with_reducible refine rIsNr ?_)
  | (with_reducible refine rNotNi ?_)
  | (with_reducible refine rNotNn ?_)
  | (with_reducible refine rNotNr ?_)
  | (with_reducible refine rTest ?_)
  | (with_reducible refine rTB ?_)
  | (with_reducible refine rBlV ?_)
  | (with_reducible refine rAnd ?_)
  | (with_reducible refine rOr ?_)
  | (with_reducible refine rNot ?_)
  | (with_reducible refine rAndV ?_)
  | (with_reducible refine rOrV ?_)
  | (with_reducible refine rNotV ?_)
  | (with_reducible refine rIf ?_)
  | (with_reducible refine rNil ?_)
  | (with_reducible refine rCons ?_)
  | (with_reducible refine rTup ?_)
  | (with_reducible refine rLst ?_)
  | (with_reducible refine rCB ?_)
  | (with_reducible refine rCall ?_)
  | (with_reducible refine rBM ?_)
  | (with_reducible refine rMin2i ?_)
  | (with_reducible refine rMax2i ?_)
  | (with_reducible refine rInt1i ?_)
  | (with_reducible refine rPartN ?_)
  | (with_reducible refine rPart ?_)
  | (with_reducible refine rInt ?_)
  | (with_reducible refine rSlS ?_)
  | (with_reducible refine rSFld ?_)
  | (with_reducible refine rSDPut ?_)
  | (with_reducible refine rDGet ?_)
  | (with_reducible refine rDIn ?_)
  | (with_reducible refine rDNotIn ?_)
  | (with_reducible refine rSeq ?_)
  | (with_reducible refine rAsg ?_)
  | (with_reducible refine rName ?_)
  | (with_reducible refine rDrop ?_)
  | (with_reducible refine rRet ?_)
  | (with_reducible refine rIfS ?_)
  | (with_reducible refine rNext ?_)
  | (with_reducible refine rPar ?_)
  | (with_reducible refine rPar2 ?_)
  | (with_reducible refine rMeth ?_)
  | (with_reducible refine rGCons ?_)
  | (with_reducible refine rGNil ?_)
  | (with_reducible refine rForS ?_)
  | (with_reducible refine rLcS ?_)
  | (with_reducible refine rIL ?_)
  | (with_reducible refine rIT ?_)
  | (with_reducible refine rIE ?_)
  | (with_reducible refine rYes ?_)
  | (with_reducible refine ifSn ?_)
  | (with_reducible refine ifNn ?_)
  | (with_reducible refine ifSs ?_)
  | (with_reducible refine ifNs ?_)
  | (with_reducible refine rNotNfs ?_)
  | (with_reducible refine rNotNfn ?_)
  | (with_reducible refine rIsNfs ?_)
  | (with_reducible refine rIsNfn ?_)
  | (with_reducible refine ifT ?_)
  | (with_reducible refine ifF ?_)
  | (with_reducible refine ifNT ?_)
  | (with_reducible refine ifNF ?_))
local macro_rules | `(tactic| walk_at "rd") => `(tactic| (walk_at "rd1"; repeat walk_at "rd1"))
theorem lcCalls {C : Addr} {B : Br} {K : PySem.W.Frag} {H : Hp} {p a : Addr} {A : CA} {st : CS} {xs : List V} {d : Nat} {g : TG} {te : TE} {vs : List Nat} {σ : St} {Q : VK} (c : CAt C B H p A st) (v : Val B st) (ha : H a = some (.lst xs)) (na : a ∉ A.ch p) (lx : xs.length ≤ 1000)
    (Fk : Nat → CS → Prop) (F0 : Fk 0 st)
    (step : ∀ j x st1 H1, xs[j]? = some x → CAt C B H1 p A st1 → Val B st1 → R B st st1 → st1.lines.length ≤ st.lines.length + d * j → Fk j st1 → (∀ b ys, H b = some (.tup ys) → H1 b = some (.tup ys)) →
      ∀ Qk : VK, (∀ t st4 H4, Stp C B (A.ch p) p A d st1 H1 t st4 H4 → Fk (j + 1) st4 → Qk (.bl t) H4) → g x (wipe σ vs) H1 fun σ2 H2 => wipe σ2 vs = wipe σ vs ∧ te σ2 H2 Qk)
    (fin : ∀ (D : Addr) (bs : List Bool) (st' : CS) (H' : Hp), H D = none → Stp C B (A.ch p) p A (d * xs.length) st H (bs.any id) st' H' → H' D = some (.lst (bs.map V.bl)) → bs.length = xs.length → Fk xs.length st' → Q (.ref D) H') :
    ∃ b, V.ref a = .ref b ∧ (∃ ys, SqL K H b ys) ∧ LcJ (Itl K b) g tYes te vs σ H Q := by
  have nd : ∀ D, H D = none → a ∉ D :: A.ch p := fun D h z => by
    rcases List.mem_cons.mp z with z | z
    · rw [z, h] at ha
      cases ha
    · exact na z
  refine lcL (xs := xs) (fun D j H' => ∃ (bs : List Bool) (st' : CS), H D = none ∧ Stp C B (D :: A.ch p) p A (d * j) st H (bs.any id) st' H' ∧ H' D = some (.lst (bs.map V.bl)) ∧ bs.length = j ∧ Fk j st') (SqL.of ha) (fun D h => ?_) ?_ ?_ ?_
  · have f : Fm (D :: A.ch p) H (upd H D (.lst [])) := Fm.new h
    exact ⟨[], st, h, (Stp.refl c v).new (Fm.new h), upd_same, rfl, F0⟩
  · rintro D j H' hj ⟨bs, st', h, S, _⟩
    exact SqL.of (S.fm.oth _ _ (nd D h) ha)
  · rintro D j x H' hx ⟨bs, st', h, S, hD, lb, fk⟩
    refine step j x st' H' hx S.ca S.va S.rr S.ub fk (fun b ys z => S.fm.tup b ys z) _ fun t st4 H4 S4 fk4 => ?_
    have nD := c.neD h
    have h4 := S4.fm.oth _ _ nD.2.2 hD
    have lj := (List.getElem?_eq_some_iff.mp hx).1
    refine ⟨bs.map V.bl, h4, line9l (by rw [List.length_map]; omega), bs ++ [t], st4, h, ?_, by rw [upd_same, List.map_append]; rfl, by rw [List.length_append, lb]; rfl, fk4⟩
    rw [show (bs ++ [t]).any id = (bs.any id || t) by simp]
    refine ((S.trans (S4.mono fun b z => List.mem_cons_of_mem _ z)).own (Fm.wr (by simp) h4 (fun _ z => nomatch z)) (by simp) ⟨nD.1, nD.2.1⟩ h4).le ?_
    rw [Nat.mul_succ]
    exact Nat.le_refl _
  · rintro D H' ⟨bs, st', h, S, hD, lb, fk⟩
    exact fin D bs st' H' h { S with fm := Fm.drop (L := [D]) S.fm (fun b z => by rw [List.mem_singleton.mp z]; exact h) } hD lb fk
/-! ### how many keys -/
theorem nodup_lt : ∀ (n : Nat) (l : List Nat), l.Nodup → (∀ x ∈ l, x < n) → l.length ≤ n
  | 0, [], _, _ => Nat.le_refl _
  | 0, x :: _, _, h => absurd (h x (by simp)) (by omega)
  | n + 1, l, nd, h => by
    by_cases m : n ∈ l
    · have e := List.length_erase_of_mem m
      have q := nodup_lt n (l.erase n) (nd.erase n) fun x hx => by
        have h1 := h x (List.mem_of_mem_erase hx)
        have h2 : x ≠ n := ((nd.mem_erase_iff).mp hx).1
        omega
      omega
    · have q := nodup_lt n l nd fun x hx => by
        have h1 := h x hx
        have h2 : x ≠ n := fun z => m (by rw [← z]; exact hx)
        omega
      omega
def codeK : List Key → Nat
  | [.inl a, .inl b] => a.toNat * 9 + b.toNat
  | _ => 0
theorem keys_le {kvs : List (List Key × V)} (nd : (kvs.map (·.1)).Nodup) (h : ∀ kv ∈ kvs, ∃ a b : Int, kv.1 = kk a b ∧ 0 ≤ a ∧ a ≤ 8 ∧ 0 ≤ b ∧ b ≤ 8) : kvs.length ≤ 81 := by
  have q := nodup_lt 81 (kvs.map fun kv => codeK kv.1) ?_ ?_
  · rw [List.length_map] at q
    exact q
  · have p : kvs.Pairwise fun x y => x.1 ≠ y.1 := List.pairwise_map.mp nd
    refine List.pairwise_map.mpr (p.imp_of_mem fun {x y} hx hy n z => n ?_)
    obtain ⟨a, b, e1, h1, h2, h3, h4⟩ := h x hx
    obtain ⟨c, d, e2, h5, h6, h7, h8⟩ := h y hy
    rw [e1, e2] at z ⊢
    have z' : a.toNat * 9 + b.toNat = c.toNat * 9 + d.toNat := z
    rw [kk_inj]
    omega
  · intro x hx
    obtain ⟨kv, h0, rfl⟩ := List.mem_map.mp hx
    obtain ⟨a, b, e1, h1, h2, h3, h4⟩ := h kv h0
    rw [e1]
    show a.toNat * 9 + b.toNat < 81
    omega
section
variable {B : Br} {st st' st'' st1 : CS}
theorem Val.keyM (v : Val B st) (kv : List Key × V) (h : kv ∈ st.mosts) : ∃ a b u, kv.1 = kk a b ∧ B.ev a ∧ B.ev b ∧ st.M a b = some u := by
  obtain ⟨a, b, n, x, e, h1, h2, h3, h4⟩ := v.mo kv h
  have f := (v.ls n x h1).2
  unfold Fits at f
  rw [if_pos h2, h3, h4] at f
  refine ⟨a, b, x.w, by rw [e], f.1, f.2, ?_⟩
  have m := mem_valV v.mn (show (kk a b, V.int (n : Nat)) ∈ st.mosts by rw [← e]; exact h)
  unfold CS.M
  rw [m]
  exact wAt_int h1
theorem Val.keyW (v : Val B st) (kv : List Key × V) (h : kv ∈ st.waits) : ∃ a b u, kv.1 = kk a b ∧ B.tk a ∧ B.ev b ∧ st.W a b = some u := by
  obtain ⟨a, b, n, x, e, h1, h2, h3, h4⟩ := v.wa kv h
  have f := (v.ls n x h1).2
  unfold Fits at f
  rw [if_neg (by rw [h2]; decide), h3, h4] at f
  refine ⟨a, b, x.w, by rw [e], f.1, f.2, ?_⟩
  have m := mem_valV v.wn (show (kk a b, V.int (n : Nat)) ∈ st.waits by rw [← e]; exact h)
  unfold CS.W
  rw [m]
  exact wAt_int h1
theorem Val.lenM (ok : B.Ok) (v : Val B st) : st.mosts.length ≤ 81 := keys_le v.mn fun kv h => by
  obtain ⟨a, b, u, e, ⟨h1, h2⟩, ⟨h3, h4⟩, _⟩ := v.keyM kv h
  have := ok.n4
  exact ⟨a, b, e, h1, by omega, h3, by omega⟩
theorem Val.lenW (ok : B.Ok) (v : Val B st) : st.waits.length ≤ 81 := keys_le v.wn fun kv h => by
  obtain ⟨a, b, u, e, ⟨h1, h2⟩, ⟨h3, h4⟩, _⟩ := v.keyW kv h
  have := ok.n4
  exact ⟨a, b, e, h1, by omega, h3, by omega⟩
theorem W_key {i e w : Int} (h : st.W i e = some w) : ∃ j : Nat, ∃ kv, st.waits[j]? = some kv ∧ kv.1 = kk i e := by
  unfold CS.W at h
  cases q : valV st.waits (kk i e) with
  | none => rw [q] at h; cases h
  | some y =>
    obtain ⟨j, hj⟩ := List.getElem?_of_mem (valV_mem q)
    exact ⟨j, _, hj, rfl⟩
theorem M_key {i e w : Int} (h : st.M i e = some w) : ∃ j : Nat, ∃ kv, st.mosts[j]? = some kv ∧ kv.1 = kk i e := by
  unfold CS.M at h
  cases q : valV st.mosts (kk i e) with
  | none => rw [q] at h; cases h
  | some y =>
    obtain ⟨j, hj⟩ := List.getElem?_of_mem (valV_mem q)
    exact ⟨j, _, hj, rfl⟩
/-! ### what a pass brings about -/
theorem LeM.le {a b c d : Int} (h : LeM st a b c) (l : c ≤ d) : LeM st a b d := by
  unfold LeM at h ⊢
  by_cases e : a = b
  · rw [if_pos e] at h ⊢
    exact Int.le_trans h l
  · rw [if_neg e] at h ⊢
    obtain ⟨z, h1, h2⟩ := h
    exact ⟨z, h1, Int.le_trans h2 l⟩
theorem GeW.le {a b c d : Int} (h : GeW st a b c) (l : d ≤ c) : GeW st a b d := by
  obtain ⟨z, h1, h2⟩ := h
  exact ⟨z, h1, Int.le_trans l h2⟩
def FactW (B : Br) (st st' : CS) (i e : Int) : Prop := ∀ w, st.W i e = some w → (st'.fault = none → LeM st' e (2 * i + 1) (-(min w (B.lo i)))) ∧ (isEnd e → own e ≠ i → 0 < w → GeW st' i (e - 1) (w - B.lo (own e))) ∧
  ∀ x m, B.ev x → x ≠ 2 * i + 2 → x ≠ e → st.M x e = some m → GeW st' i x (min (B.hi i) (w - m))
def FactM (B : Br) (st st' : CS) (a b : Int) : Prop := ∀ u, st.M a b = some u → st'.fault = none → isEnd a → u < 0 → LeM st' (a - 1) b (B.lo (own a) + u)
def FactA (B : Br) (st st' : CS) (a b c : Int) : Prop := ∀ u w, st.M a b = some u → st.M b c = some w → st'.fault = none → LeM st' a c (u + w)
theorem FactW.mono {i e : Int} (r : R B st' st'') (h : FactW B st st' i e) : FactW B st st'' i e := fun w hw =>
  ⟨fun f => ((h w hw).1 (r.flt f)).mono r, fun h1 h2 h3 => ((h w hw).2.1 h1 h2 h3).mono r, fun x m h1 h2 h3 h4 => ((h w hw).2.2 x m h1 h2 h3 h4).mono r⟩
theorem FactM.mono {a b : Int} (r : R B st' st'') (h : FactM B st st' a b) : FactM B st st'' a b := fun u hu f h1 h2 => (h u hu (r.flt f) h1 h2).mono r
theorem FactA.mono {a b c : Int} (r : R B st' st'') (h : FactA B st st' a b c) : FactA B st st'' a b c := fun u w hu hw f => (h u w hu hw (r.flt f)).mono r
theorem FactW.from {i e w1 : Int} (r : R B st st1) (hw : st1.W i e = some w1) (f1 : st'.fault = none → LeM st' e (2 * i + 1) (-(min w1 (B.lo i)))) (f2 : isEnd e → own e ≠ i → 0 < w1 → GeW st' i (e - 1) (w1 - B.lo (own e)))
    (f3 : ∀ x m, B.ev x → x ≠ 2 * i + 2 → x ≠ e → st1.M x e = some m → GeW st' i x (min (B.hi i) (w1 - m))) : FactW B st st' i e := fun w h => by
  obtain ⟨w', h1, h2⟩ := r.wa _ _ _ h
  rw [hw] at h1
  cases h1
  refine ⟨fun f => (f1 f).le (by omega), fun a1 a2 a3 => (f2 a1 a2 (by omega)).le (by omega), fun x m a1 a2 a3 a4 => ?_⟩
  obtain ⟨m', h3, h4⟩ := r.mo _ _ _ a4
  exact (f3 x m' a1 a2 a3 h3).le (by omega)
theorem FactM.from {a b u1 : Int} (r : R B st st1) (hw : st1.M a b = some u1) (f1 : st'.fault = none → isEnd a → u1 < 0 → LeM st' (a - 1) b (B.lo (own a) + u1)) : FactM B st st' a b := fun u h f h1 h2 => by
  obtain ⟨u', h3, h4⟩ := r.mo _ _ _ h
  rw [hw] at h3
  cases h3
  exact (f1 f h1 (by omega)).le (by omega)
theorem FactA.from {a b c : Int} (r : R B st st1) (f1 : st'.fault = none → ∀ u w, st1.M a b = some u → st1.M b c = some w → LeM st' a c (u + w)) : FactA B st st' a b c := fun u w hu hw f => by
  obtain ⟨u', h3, h4⟩ := r.mo _ _ _ hu
  obtain ⟨w', h5, h6⟩ := r.mo _ _ _ hw
  exact (f1 f u' w' h3 h5).le (by omega)
structure Prog (B : Br) (st st' : CS) : Prop where
  fw : ∀ i e, FactW B st st' i e
  fm : ∀ a b, FactM B st st' a b
  fa : ∀ a b c, B.ev a → B.ev b → B.ev c → FactA B st st' a b c
end
def spClose (C : Addr) (B : Br) : Sp := fun vs H Q _ => ∃ (p : Addr) (A : CA) (st : CS), vs = [.ref p] ∧ CAt C B H p A st ∧ Val B st ∧ st.lines.length ≤ 80000 ∧
  ∀ (t : Bool) (st' : CS) (H' : Hp), Stp C B (A.ch p) p A 3000 st H t st' H' → Prog B st st' → Q (.bl t) H'
theorem keys_at {H : Hp} {kvs : List (List Key × V)} {bs : List Addr} (h : IsKeys H kvs bs) : ∀ {j : Nat} {x : V}, (bs.map V.ref)[j]? = some x → ∃ kv b, kvs[j]? = some kv ∧ x = .ref b ∧ H b = some (.tup (kv.1.map kV)) := by
  unfold IsKeys at h
  induction h with
  | nil => intro j x e; simp at e
  | cons h1 h2 ih =>
    intro j x e
    cases j with
    | zero =>
      cases e
      exact ⟨_, _, rfl, rfl, h1⟩
    | succ j => exact ih e
section
variable {P : Program} {w : World} {K : PySem.W.Frag} {mg : Str → Option Value} {base : Heap} {f : Addr} {fd : FuncData} {C : Addr} {B : Br}
abbrev N_c_close_once : List Str := ["self", "some", "b", "a", "task", "event", "c"]
theorem sc_c_close_once : FnScope N_c_close_once ["self"] (defScope s_c_close_once) := ⟨rfl, rfl, rfl, by decide +kernel, rfl, by decide +kernel, by decide +kernel⟩
-- slots: 0 self, 1 some, 2 b, 3 a, 4 task, 5 event, 6 c
theorem ok_close_once (ok : B.Ok) (F : FD K "close_once" "Closing.close_once" s_c_close_once f fd) (T : Tx K mg C) (Z : Fr0 mg) (c_uw : CalM P w K mg base C "use_wait" ["self", "task", "event"] 2 (spUseW C B)) (c_um : CalM P w K mg base C "use_most" ["self", "a", "b"] 2 (spUseM C B))
    (c_au : CalM P w K mg base C "add_up" ["self", "a", "b", "c"] 2 (spAdd C B)) : FnOk P w K mg base CX0 3 f fd ["self"] (spClose C B) := by
  obtain ⟨f_use_wait, fd_use_wait, F_use_wait, mt_use_wait, bd_use_wait⟩ := c_uw
  obtain ⟨f_use_most, fd_use_most, F_use_most, mt_use_most, bd_use_most⟩ := c_um
  obtain ⟨f_add_up, fd_add_up, F_add_up, mt_add_up, bd_add_up⟩ := c_au
  refine F.ok sc_c_close_once (fun vs H Q E h => ?_) (fun cdv A0 outer s H vs Q E hr h => ?_)
  · obtain ⟨_, _, _, rfl, _⟩ := h
    rfl
  · obtain ⟨p, A, st, rfl, ca, v, z, k⟩ := h
    have hu := hu_of hr
    have nd := sc_c_close_once.nd
    refine ⟨_, PSs.nox (pss_cons (ps_setLc (i := 1) (own := [("task", 4), ("event", 5)]) (g := (gTup K 2 (gCons (gName 4) (gCons (gName 5) gNil)))) (tt := tYes) (by rfl) nd rfl rfl (sw_true rfl rfl rfl (by decide +kernel)) (pi_list (pe_callTy (call_listD rfl) (by rfl) Z.list (by decide +kernel) (pa_cons (pe_fld (pv 0) rfl) pa_nil))) (blkOk_by (own := [("task", 4), ("event", 5)]) (N := N_c_close_once) (sc := defScope s_c_close_once) (by decide +kernel)) (fun _ _ _ _ _ => (pg_tup rfl (pgs_cons (pg_name (i := 4) nd rfl (by first | exact Or.inl rfl | exact Or.inr rfl)) (pgs_cons (pg_name (i := 5) nd rfl (by first | exact Or.inl rfl | exact Or.inr rfl)) pgs_nil)))) (fun _ _ _ _ _ => pts_nil) (fun _ _ _ _ _ => (pe_meth (pv 0) T.cl mt_use_wait F_use_wait (hr.mono (by decide)) bd_use_wait .nil pass0 (pa_cons (pv 4) (pa_cons (pv 5) pa_nil)))))
      (pss_cons (ps_set (i := 1) nd rfl (by first | exact Or.inl rfl | exact Or.inr rfl) (pe_op op_cat (pv 1) (pe_lc (own := [("a", 3), ("b", 2)]) (g := (gTup K 2 (gCons (gName 3) (gCons (gName 2) gNil)))) (tt := tYes) (by rfl) nd (pi_list (pe_callTy (call_listD rfl) (by rfl) Z.list (by decide +kernel) (pa_cons (pe_fld (pv 0) rfl) pa_nil))) (blkOk_by (own := [("a", 3), ("b", 2)]) (N := N_c_close_once) (sc := defScope s_c_close_once) (by decide +kernel)) (fun _ _ _ _ _ => (pg_tup rfl (pgs_cons (pg_name (i := 3) nd rfl (by first | exact Or.inl rfl | exact Or.inr rfl)) (pgs_cons (pg_name (i := 2) nd rfl (by first | exact Or.inl rfl | exact Or.inr rfl)) pgs_nil)))) (fun _ _ _ _ _ => pts_nil) (fun _ _ _ _ _ => (pe_meth (pv 0) T.cl mt_use_most F_use_most (hr.mono (by decide)) bd_use_most .nil pass0 (pa_cons (pv 3) (pa_cons (pv 2) pa_nil)))))))
      (pss_cons (ps_for PassesOwn.never rfl (pi_list (pe_fld (pv 0) rfl)) (pg_name (i := 2) nd rfl (by first | exact Or.inl rfl | exact Or.inr rfl))
        (pss_one (ps_for PassesOwn.never rfl (pi_list (pe_fld (pv 0) rfl)) (pg_name (i := 3) nd rfl (by first | exact Or.inl rfl | exact Or.inr rfl))
          (pss_one (ps_set (i := 1) nd rfl (by first | exact Or.inl rfl | exact Or.inr rfl) (pe_op op_cat (pv 1) (pe_lc (own := [("c", 6)]) (g := (gName 6)) (tt := tYes) (by rfl) nd (pi_list (pe_fld (pv 0) rfl)) (blkOk_by (own := [("c", 6)]) (N := N_c_close_once) (sc := defScope s_c_close_once) (by decide +kernel)) (fun _ _ _ _ _ => (pg_name (i := 6) nd rfl (by first | exact Or.inl rfl | exact Or.inr rfl))) (fun _ _ _ _ _ => pts_nil) (fun _ _ _ _ _ => (pe_meth (pv 0) T.cl mt_add_up F_add_up (hr.mono (by decide)) bd_add_up .nil pass0 (pa_cons (pv 3) (pa_cons (pv 2) (pa_cons (pv 6) pa_nil))))))))))))
      (pss_one (ps_ret (pe_callB (cr_any rfl) (by rfl) Z.any (by decide +kernel) (pa_cons (pv 1) pa_nil))))))), ?_⟩
    have n4 := ok.n4
    walk_at "rd"
    refine fWaits T ca rfl ?_
    walk_at "rd"
    refine rListDi ca.wa fun bs ik => ?_
    refine rNewL0 fun q1 H1 n1 f1 t1 => ?_
    have c1 := ca.f0 f1
    have lw := v.lenW ok
    have lb : (bs.map V.ref).length = st.waits.length := by rw [List.length_map]; exact (Paired.length ik).symm
    refine lcCalls (d := 20) (xs := bs.map V.ref) c1 v t1 (ca.neD n1).2.2 (by omega) (fun j st' => ∀ j' kv i e, j' < j → st.waits[j']? = some kv → kv.1 = kk i e → FactW B st st' i e) (fun j' kv i e h => absurd h (by omega)) ?_ ?_
    · intro j x st1 H2 hx c2 v2 r2 ub2 fk2 tp2 Qk kq
      obtain ⟨kv, b, h1, rfl, h2⟩ := keys_at ik hx
      obtain ⟨i, e, u, ek, ti, ee, hw⟩ := v.keyW kv (List.mem_of_getElem? h1)
      rw [ek] at h2
      have h3 : H2 b = some (.tup [.int i, .int e]) := tp2 _ _ (f1.tup _ _ h2)
      refine rGTup h3 rfl ?_
      walk_at "rd"
      refine ⟨rfl, ?_⟩
      walk_at "rd"
      refine ⟨_, _, _, rfl, c2.ob, cf_noM.2.2.2.2.1, ?_⟩
      walk_at "rd"
      obtain ⟨u', hw', _⟩ := r2.wa _ _ _ hw
      have lj := (List.getElem?_eq_some_iff.mp hx).1
      refine ⟨p, A, st1, i, e, u', rfl, c2, v2, ti, ee, hw', by omega, fun t st4 H4 S4 g1 g2 g3 => kq t st4 H4 S4 fun j' kv' i' e' hj hk ek' => ?_⟩
      by_cases hjj : j' = j
      · rw [hjj, h1] at hk
        cases hk
        obtain ⟨rfl, rfl⟩ := kk_inj.mp (ek.symm.trans ek')
        exact FactW.from r2 hw' g1 g2 g3
      · exact (fk2 j' kv' i' e' (by omega) hk ek').mono S4.rr
    · intro L1 bs1 st1 H2 nL1 S1 hL1 lbs1 fk1
      have FW1 : ∀ i e, FactW B st st1 i e := fun i e w h => by
        obtain ⟨j, kv, hj, ek⟩ := W_key h
        exact fk1 j kv i e (by rw [lb]; exact (List.getElem?_eq_some_iff.mp hj).1) hj ek w h
      have S1 : Stp C B (A.ch p) p A 1620 st H (bs1.any id) st1 H2 := (S1.pre f1.up).le (by omega)
      have nL1 := f1.fre _ nL1
      have NL1 := ca.neD nL1
      walk_at "rd"
      refine fMosts T S1.ca rfl ?_
      walk_at "rd"
      refine rListDi S1.ca.mo fun bs ik => ?_
      refine rNewL0 fun q2 H3 n3 f3 t3 => ?_
      have c3 := S1.ca.f0 f3
      have lw2 := S1.va.lenM ok
      have lb2 : (bs.map V.ref).length = st1.mosts.length := by rw [List.length_map]; exact (Paired.length ik).symm
      refine lcCalls (d := 1) (xs := bs.map V.ref) c3 S1.va t3 (S1.ca.neD n3).2.2 (by omega) (fun j st' => ∀ j' kv i e, j' < j → st1.mosts[j']? = some kv → kv.1 = kk i e → FactM B st1 st' i e) (fun j' kv i e h => absurd h (by omega)) ?_ ?_
      · intro j x st1' H2' hx c2 v2 r2 ub2 fk2 tp2 Qk kq
        obtain ⟨kv, b, h1, rfl, h2⟩ := keys_at ik hx
        obtain ⟨i, e, u, ek, ti, ee, hw⟩ := S1.va.keyM kv (List.mem_of_getElem? h1)
        rw [ek] at h2
        have h3 : H2' b = some (.tup [.int i, .int e]) := tp2 _ _ (f3.tup _ _ h2)
        refine rGTup h3 rfl ?_
        walk_at "rd"
        refine ⟨rfl, ?_⟩
        walk_at "rd"
        refine ⟨_, _, _, rfl, c2.ob, cf_noM.2.2.2.1, ?_⟩
        walk_at "rd"
        obtain ⟨u', hw', _⟩ := r2.mo _ _ _ hw
        have lj := (List.getElem?_eq_some_iff.mp hx).1
        have := S1.ub
        refine ⟨p, A, st1', i, e, u', rfl, c2, v2, ti, ee, hw', by omega, fun t st4 H4 S4 g1 => kq t st4 H4 S4 fun j' kv' i' e' hj hk ek' => ?_⟩
        by_cases hjj : j' = j
        · rw [hjj, h1] at hk
          cases hk
          obtain ⟨rfl, rfl⟩ := kk_inj.mp (ek.symm.trans ek')
          exact FactM.from r2 hw' g1
        · exact (fk2 j' kv' i' e' (by omega) hk ek').mono S4.rr
      · intro L2 bs2 st2 H4 nL2 S2 hL2 lbs2 fk2
        have FM1 : ∀ i e, FactM B st st2 i e := fun i e u h => by
          obtain ⟨u', h1, h2⟩ := S1.rr.mo _ _ _ h
          obtain ⟨j, kv, hj, ek⟩ := M_key h1
          have := fk2 j kv i e (by rw [lb2]; exact (List.getElem?_eq_some_iff.mp hj).1) hj ek u' h1
          exact fun f g1 g2 => (this f g1 (by omega)).le (by omega)
        have S2 : Stp C B (A.ch p) p A 81 st1 H2 (bs2.any id) st2 H4 := (S2.pre f3.up).le (by omega)
        have hL1 : H4 L1 = some (.lst (bs1.map V.bl)) := S2.fm.oth _ _ NL1.2.2 hL1
        refine rCati hL1 hL2 (line9 (by rw [List.length_map, List.length_map]; omega)) ?_
        refine rNewL0 fun L3 H5 n5 f5 hL3 => ?_
        have S3 := (S1.trans S2).new f5
        rw [← List.any_append] at S3
        rw [← List.map_append] at hL3
        have l3 : (bs1 ++ bs2).length ≤ 162 := by rw [List.length_append]; omega
        generalize bs1 ++ bs2 = bs3 at S3 hL3 l3
        have NL3 : L3 ∉ A.ch p := (ca.neD (S1.fm.fre _ (S2.fm.fre _ n5))).2.2
        have FW3 : ∀ i e, FactW B st st2 i e := fun i e => (FW1 i e).mono S2.rr
        walk_at "rd"
        refine fEvery T S3.ca rfl ?_
        refine forL (xs := evV B) (fun jb σ' H' => ∃ (L : Addr) (bs : List Bool) (st3 : CS) (o2 o3 : Option V), σ' = [some (.ref p), some (.ref L), o2, o3, none, none, none] ∧ Stp C B (A.ch p) p A (1701 + 81 * jb) st H (bs.any id) st3 H' ∧ H' L = some (.lst (bs.map V.bl)) ∧ L ∉ A.ch p ∧ bs.length ≤ 162 + 81 * jb ∧
          (∀ i e, FactW B st st3 i e) ∧ (∀ a b, FactM B st st3 a b) ∧ ∀ b a c, B.ev b → B.ev a → B.ev c → b < (jb : Int) → FactA B st st3 a b c) ⟨L3, bs3, st2, none, none, rfl, S3.le (by omega), hL3, NL3, by omega, FW3, FM1, fun b a c h1 _ _ h2 => absurd h1.1 (by omega)⟩ ?_ ?_ ?_
        · rintro j σ2 H2 hj ⟨_, _, st3, _, _, _, S, _⟩
          exact SqL.of S.ca.ev
        · rintro jb y σ' H' hy ⟨L, bs, st3, o2, o3, e', S, hL, nL, ll, fW, fM, fA⟩
          obtain ⟨rfl, eb, ljb⟩ := evV_get hy
          rw [e']
          walk_at "rd"
          refine fEvery T S.ca rfl ?_
          refine forL (xs := evV B) (fun ja σ' H' => ∃ (L : Addr) (bs : List Bool) (st3 : CS) (o3 : Option V), σ' = [some (.ref p), some (.ref L), some (.int (jb : Nat)), o3, none, none, none] ∧ Stp C B (A.ch p) p A (1701 + 81 * jb + 9 * ja) st H (bs.any id) st3 H' ∧ H' L = some (.lst (bs.map V.bl)) ∧ L ∉ A.ch p ∧ bs.length ≤ 162 + 81 * jb + 9 * ja ∧
            (∀ i e, FactW B st st3 i e) ∧ (∀ a b, FactM B st st3 a b) ∧ (∀ b a c, B.ev b → B.ev a → B.ev c → b < (jb : Int) → FactA B st st3 a b c) ∧ ∀ a c, B.ev a → B.ev c → a < (ja : Int) → FactA B st st3 a jb c) ⟨L, bs, st3, o3, rfl, S.le (by omega), hL, nL, by omega, fW, fM, fA, fun a c h1 _ h2 => absurd h1.1 (by omega)⟩ ?_ ?_ ?_
          · rintro j σ2 H2 hj ⟨_, _, st3, _, _, S, _⟩
            exact SqL.of S.ca.ev
          · rintro ja y σ' H' hy ⟨L, bs, st3, o3, e', S, hL, nL, ll, fW, fM, fA, fA2⟩
            obtain ⟨rfl, ea, lja⟩ := evV_get hy
            rw [e']
            walk_at "rd"
            refine fEvery T S.ca rfl ?_
            refine lcCalls (d := 1) (xs := evV B) S.ca S.va S.ca.ev ?_ (by rw [evV_len]; omega) (fun jc st' => ∀ c, B.ev c → c < (jc : Int) → FactA B st3 st' ja jb c) (fun c h1 h2 => absurd h1.1 (by omega)) ?_ ?_
            · intro zz
              obtain ⟨vs, l, _⟩ := S.ca.ln
              rcases List.mem_cons.mp zz with zz | zz
              · exact ne_of S.ca.ev S.ca.ob (fun z => nomatch z) zz
              rcases List.mem_cons.mp zz with zz | zz
              · exact S.ca.nl zz.symm
              rcases List.mem_cons.mp zz with zz | zz
              · exact ne_of S.ca.ev S.ca.mo (fun z => nomatch z) zz
              · exact ne_of S.ca.ev S.ca.wa (fun z => nomatch z) (List.mem_singleton.mp zz)
            · intro jc x st4 H6 hx c6 v6 r6 ub6 fk6 tp6 Qk kq
              obtain ⟨rfl, ec, ljc⟩ := evV_get hx
              walk_at "rd"
              refine ⟨rfl, ?_⟩
              walk_at "rd"
              refine ⟨_, _, _, rfl, c6.ob, cf_noM.2.2.1, ?_⟩
              walk_at "rd"
              have := S.ub
              refine ⟨p, A, st4, ja, jb, jc, rfl, c6, v6, ea, eb, ec, by omega, fun t st5 H7 S7 g1 => kq t st5 H7 S7 fun c h1 h2 => ?_⟩
              by_cases hc : c = (jc : Int)
              · rw [hc]
                exact FactA.from r6 g1
              · exact (fk6 c h1 (by omega)).mono S7.rr
            · intro D bs4 st4 H6 nD S6 hD lD fk6
              have hL6 := S6.fm.oth _ _ nL hL
              rw [evV_len] at S6 lD fk6
              refine rCati hL6 hD (line9 (by rw [List.length_map, List.length_map]; omega)) ?_
              refine rNewL0 fun L7 H7 n7 f7 hL7 => ?_
              have S7 := (S.trans S6).new f7
              rw [← List.any_append] at S7
              rw [← List.map_append] at hL7
              walk_at "rd"
              refine ⟨L7, bs ++ bs4, st4, some (.int (ja : Nat)), rfl, S7.le (by omega), hL7, ?_, by rw [List.length_append]; omega, fun i e => (fW i e).mono S6.rr, fun i e => (fM i e).mono S6.rr, fun b a c h1 h2 h3 h4 => (fA b a c h1 h2 h3 h4).mono S6.rr, fun a c h1 h2 h3 => ?_⟩
              · exact (ca.neD (S.fm.fre _ (S6.fm.fre _ n7))).2.2
              · by_cases hc : a = (ja : Int)
                · rw [hc]
                  exact FactA.from S.rr fun f u w h4 h5 => fk6 c h2 (by have := h2.2; omega) u w h4 h5 f
                · exact (fA2 a c h1 h2 (by omega)).mono S6.rr
          · rintro σ' H' ⟨L, bs, st3, o3, e', S, hL, nL, ll, fW, fM, fA, fA2⟩
            rw [e']
            rw [evV_len] at S ll fA2
            refine ⟨L, bs, st3, _, _, rfl, S.le (by omega), hL, nL, by omega, fW, fM, fun b a c h1 h2 h3 h4 => ?_⟩
            by_cases hc : b = (jb : Int)
            · rw [hc]
              exact fA2 a c h2 h3 (by have := h2.2; omega)
            · exact fA b a c h1 h2 h3 (by omega)
        · rintro σ' H' ⟨L, bs, st3, o2, o3, e', S, hL, nL, ll, fW, fM, fA⟩
          rw [e']
          rw [evV_len] at S ll fA
          walk_at "rd"
          exact ⟨L, bs, rfl, SqL.of hL, k _ st3 H' (S.le (by omega)) ⟨fW, fM, fun a b c h1 h2 h3 => fA b a c h2 h1 h3 (by have := h2.2; omega)⟩⟩
end
end A68
set_option maxHeartbeats 4000000
/-! The mathematics: why the closing ends, and that it ends closed. -/
namespace A68
open PySem L2
section
variable {B : Br} {st st' : CS}
theorem Br.bounds_ok (ok : B.Ok) : ∀ t ∈ B.bounds, B.ev t.1 ∧ B.ev t.2.1 ∧ t.1 ≠ t.2.1 := by
  intro t h
  unfold Br.bounds Br.head at h
  have e0 : B.ev 0 := ⟨Int.le_refl _, by omega⟩
  have eb : ∀ i : Nat, i < B.n → B.ev (2 * (i : Int) + 1) ∧ B.ev (2 * (i : Int) + 2) := fun i hi => ⟨⟨by omega, by omega⟩, ⟨by omega, by omega⟩⟩
  rcases List.mem_append.mp h with h | h
  · rcases List.mem_append.mp h with h | h
    · rcases List.mem_append.mp h with h | h
      · rcases List.mem_append.mp h with h | h
        · have := ok.li t h
          exact ⟨this.1, this.2.1, this.2.2.1⟩
        · obtain ⟨p, hp, rfl⟩ := List.mem_map.mp h
          obtain ⟨h1, h2, h3⟩ := ok.ar p hp
          exact ⟨⟨by show 0 ≤ 2 * p.2 + 1; omega, by show 2 * p.2 + 1 ≤ _; omega⟩, ⟨by show 0 ≤ 2 * p.1 + 2; omega, by show 2 * p.1 + 2 ≤ _; omega⟩, by show 2 * p.2 + 1 ≠ 2 * p.1 + 2; omega⟩
      · obtain ⟨i, hi, rfl⟩ := List.mem_map.mp h
        have hi := List.mem_range.mp hi
        exact ⟨e0, (eb i hi).2, by show (0 : Int) ≠ 2 * (i : Int) + 2; omega⟩
    · obtain ⟨i, hi, rfl⟩ := List.mem_map.mp h
      have hi := List.mem_range.mp hi
      exact ⟨(eb i hi).1, e0, by show 2 * (i : Int) + 1 ≠ 0; omega⟩
  · obtain ⟨i, hi, hd⟩ := List.mem_flatMap.mp h
    have hi := List.mem_range.mp hi
    unfold Br.dur at hd
    rcases List.mem_cons.mp hd with rfl | hd
    · exact ⟨(eb i hi).1, (eb i hi).2, by show 2 * (i : Int) + 1 ≠ 2 * (i : Int) + 2; omega⟩
    · rw [List.mem_singleton.mp hd]
      exact ⟨(eb i hi).2, (eb i hi).1, by show 2 * (i : Int) + 2 ≠ 2 * (i : Int) + 1; omega⟩
theorem Br.head_len : B.head.length = B.limits.length + B.arrows.length + B.n + B.n := by
  unfold Br.head
  simp only [List.length_append, List.length_map, List.length_range]
theorem Br.dur_len : ∀ m : Nat, ((List.range m).flatMap B.dur).length = 2 * m
  | 0 => rfl
  | m + 1 => by
    rw [List.range_succ, List.flatMap_append, List.length_append, Br.dur_len m]
    show _ + 2 = _
    omega
theorem Br.bounds_len (ok : B.Ok) : B.bounds.length ≤ 300 := by
  unfold Br.bounds
  rw [List.length_append, Br.head_len, Br.dur_len]
  have := ok.ln
  have := ok.an
  have := ok.n4
  omega
theorem Br.in_dl {i : Int} (h : B.tk i) : (0, 2 * i + 2, B.dl) ∈ B.bounds := by
  unfold Br.bounds Br.head
  refine List.mem_append_left _ (List.mem_append_left _ (List.mem_append_right _ (List.mem_map.mpr ⟨i.toNat, List.mem_range.mpr ?_, ?_⟩)))
  · have := h.1; have := h.2; omega
  · have := h.1
    rw [show ((i.toNat : Nat) : Int) = i by omega]
theorem Br.in_b0 {i : Int} (h : B.tk i) : (2 * i + 1, 0, 0) ∈ B.bounds := by
  unfold Br.bounds Br.head
  refine List.mem_append_left _ (List.mem_append_right _ (List.mem_map.mpr ⟨i.toNat, List.mem_range.mpr ?_, ?_⟩))
  · have := h.1; have := h.2; omega
  · have := h.1
    rw [show ((i.toNat : Nat) : Int) = i by omega]
theorem Br.in_lo {i : Int} (h : B.tk i) : (2 * i + 2, 2 * i + 1, -B.lo i) ∈ B.bounds := by
  unfold Br.bounds
  refine List.mem_append_right _ (List.mem_flatMap.mpr ⟨i.toNat, List.mem_range.mpr ?_, ?_⟩)
  · have := h.1; have := h.2; omega
  · have := h.1
    unfold Br.dur
    rw [show ((i.toNat : Nat) : Int) = i by omega]
    simp
structure InitF (B : Br) (st : CS) : Prop where
  b : st.fault = none → ∀ t ∈ B.bounds, LeM st t.1 t.2.1 t.2.2
  w : ∀ i, B.tk i → GeW st i (2 * i + 2) (B.hi i)
theorem InitF.mono (r : R B st st') (h : InitF B st) : InitF B st' := ⟨fun f t ht => (h.b (r.flt f) t ht).mono r, fun i hi => (h.w i hi).mono r⟩
def P1 (B : Br) (st : CS) : Prop := ∀ x, B.ev x → x ≠ 0 → LeM st x 0 0 ∧ LeM st 0 x 60
def P2 (B : Br) (st : CS) : Prop := ∀ a b, B.ev a → B.ev b → a ≠ b → LeM st a b 60
def P3 (B : Br) (st : CS) : Prop := ∀ i x, B.tk i → B.ev x → GeW st i x (-60)
theorem LeM.get {a b c : Int} (h : LeM st a b c) (n : a ≠ b) : ∃ z, st.M a b = some z ∧ z ≤ c := by
  unfold LeM at h
  rw [if_neg n] at h
  exact h
/-- an event other than nought is a begin or an end of a task -/
theorem Br.ev_cases {x : Int} (h : B.ev x) (n : x ≠ 0) : ∃ i, B.tk i ∧ (x = 2 * i + 1 ∨ x = 2 * i + 2) := by
  obtain ⟨h1, h2⟩ := h
  refine ⟨(x - 1) / 2, ⟨by omega, by omega⟩, by omega⟩
theorem to_P1 (ok : B.Ok) (f : st'.fault = none) (ini : InitF B st) (r : R B st st') (p : Prog B st st') : P1 B st' := by
  intro x hx n
  obtain ⟨i, ti, e⟩ := Br.ev_cases hx n
  have f0 := r.flt f
  have e0 : B.ev 0 := ⟨Int.le_refl _, by omega⟩
  have ex : B.ev (2 * i + 1) ∧ B.ev (2 * i + 2) := ⟨⟨by have := ti.1; omega, by have := ti.2; omega⟩, ⟨by have := ti.1; omega, by have := ti.2; omega⟩⟩
  have l1 := ini.b f0 _ (Br.in_b0 ti)
  have l2 := ini.b f0 _ (Br.in_dl ti)
  have l3 := ini.b f0 _ (Br.in_lo ti)
  have d := ok.du i ti
  have dl := ok.dl
  have i0 := ti.1
  obtain ⟨u1, g1, k1⟩ := l1.get (by show 2 * i + 1 ≠ 0; omega)
  obtain ⟨u2, g2, k2⟩ := l2.get (by show 0 ≠ 2 * i + 2; omega)
  obtain ⟨u3, g3, k3⟩ := l3.get (by show 2 * i + 2 ≠ 2 * i + 1; omega)
  simp only at k1 k2 k3 g1 g2 g3
  rcases e with rfl | rfl
  · exact ⟨l1.mono r, (p.fa 0 (2 * i + 2) (2 * i + 1) e0 ex.2 ex.1 u2 u3 g2 g3 f).le (by omega)⟩
  · exact ⟨(p.fa (2 * i + 2) (2 * i + 1) 0 ex.2 ex.1 e0 u3 u1 g3 g1 f).le (by omega), (l2.mono r).le (by simp only; omega)⟩
theorem to_P2 (f : st'.fault = none) (p1 : P1 B st) (r : R B st st') (p : Prog B st st') : P2 B st' := by
  intro a b ha hb n
  have e0 : B.ev 0 := ⟨Int.le_refl _, by omega⟩
  by_cases a0 : a = 0
  · subst a0
    exact (p1 b hb (fun z => n z.symm)).2.mono r
  · by_cases b0 : b = 0
    · subst b0
      exact ((p1 a ha a0).1.mono r).le (by omega)
    · obtain ⟨u, g1, k1⟩ := (p1 a ha a0).1.get a0
      obtain ⟨w, g2, k2⟩ := (p1 b hb b0).2.get (fun z => b0 z.symm)
      exact (p.fa a 0 b ha e0 hb u w g1 g2 f).le (by omega)
theorem to_P3 (ok : B.Ok) (ini : InitF B st) (p2 : P2 B st) (r : R B st st') (p : Prog B st st') : P3 B st' := by
  intro i x ti hx
  have d := ok.du i ti
  obtain ⟨w, g, k⟩ := ini.w i ti
  by_cases e : x = 2 * i + 2
  · rw [e]
    exact ((ini.w i ti).mono r).le (by omega)
  · have ex : B.ev (2 * i + 2) := ⟨by have := ti.1; omega, by have := ti.2; omega⟩
    obtain ⟨m, g2, k2⟩ := (p2 x (2 * i + 2) hx ex e).get e
    exact (((p.fw i (2 * i + 2)) w g).2.2 x m hx e e g2).le (by omega)
theorem P2.mono (r : R B st st') (h : P2 B st) : P2 B st' := fun a b ha hb n => (h a b ha hb n).mono r
theorem P3.mono (r : R B st st') (h : P3 B st) : P3 B st' := fun i x hi hx => (h i x hi hx).mono r
theorem allP_of (p2 : P2 B st) (p3 : P3 B st) : AllP B st :=
  ⟨fun a b ha hb n => let ⟨z, h, _⟩ := (p2 a b ha hb n).get n; ⟨z, h⟩, fun i e hi he => let ⟨z, h, _⟩ := p3 i e hi he; ⟨z, h⟩⟩
theorem ev_nat {a : Nat} (h : a < 2 * B.n + 1) : B.ev (a : Int) := ⟨by omega, by omega⟩
theorem tk_nat {a : Nat} (h : a < B.n) : B.tk (a : Int) := ⟨by omega, by omega⟩
theorem mulle {a b c d : Int} (h1 : 0 ≤ a) (h2 : a ≤ b) (h3 : 0 ≤ c) (h4 : c ≤ d) : a * c ≤ b * d := Int.mul_le_mul h2 h4 h3 (by omega)
theorem Phi_ub (ok : B.Ok) (p2 : P2 B st) (p3 : P3 B st) : Phi B st ≤ 12600 := by
  have n4 := ok.n4
  have h1 : ∀ a, a < 2 * B.n + 1 → sum1 (2 * B.n + 1) (gM st a) ≤ 1080 := fun a ha => by
    have := sum1_ub (p := 2 * B.n + 1) (f := gM st a) (c := 120) fun b hb => by
      unfold gM
      by_cases e : a = b
      · rw [if_pos e]; omega
      · rw [if_neg e]
        obtain ⟨z, h, l⟩ := (p2 a b (ev_nat ha) (ev_nat hb) (by omega)).get (by omega)
        rw [h]
        simp only [Option.getD_some]
        omega
    omega
  have h2 := sum1_ub (p := 2 * B.n + 1) (f := fun a => sum1 (2 * B.n + 1) (gM st a)) (c := 1080) h1
  have h3 : ∀ i, i < B.n → sum1 (2 * B.n + 1) (gW st i) ≤ 720 := fun i hi => by
    have := sum1_ub (p := 2 * B.n + 1) (f := gW st i) (c := 80) fun b hb => by
      unfold gW
      obtain ⟨z, h, l⟩ := p3 i b (tk_nat hi) (ev_nat hb)
      rw [h]
      simp only [Option.getD_some]
      omega
    omega
  have h4 := sum1_ub (p := B.n) (f := fun i => sum1 (2 * B.n + 1) (gW st i)) (c := 720) h3
  unfold Phi
  omega
/-- the pass shows that what was there is not below -/
theorem Phi_nn (ok : B.Ok) (v : Val B st) (f : st'.fault = none) (p2 : P2 B st) (p3 : P3 B st) (p : Prog B st st') : 0 ≤ Phi B st := by
  have h1 : 0 ≤ sum1 (2 * B.n + 1) (fun a => sum1 (2 * B.n + 1) (gM st a)) := sum1_nn fun a ha => sum1_nn fun b hb => by
    unfold gM
    by_cases e : a = b
    · rw [if_pos e]; omega
    · rw [if_neg e]
      obtain ⟨z, h, l⟩ := (p2 a b (ev_nat ha) (ev_nat hb) (by omega)).get (by omega)
      obtain ⟨y, h', l'⟩ := (p2 b a (ev_nat hb) (ev_nat ha) (by omega)).get (by omega)
      have q := p.fa a b a (ev_nat ha) (ev_nat hb) (ev_nat ha) z y h h' f
      unfold LeM at q
      rw [if_pos rfl] at q
      rw [h]
      simp only [Option.getD_some]
      omega
  have h2 : 0 ≤ sum1 B.n (fun i => sum1 (2 * B.n + 1) (gW st i)) := sum1_nn fun i hi => sum1_nn fun b hb => by
    unfold gW
    obtain ⟨z, h, l⟩ := p3 i b (tk_nat hi) (ev_nat hb)
    rw [h]
    simp only [Option.getD_some]
    have := v.hi _ _ _ h
    have := (ok.du i (tk_nat hi)).2.2
    omega
  unfold Phi
  omega
/-- how far the closing is -/
def Phase (B : Br) (m : Nat) (st : CS) : Prop :=
  (m = 12610 ∧ st.lines.length ≤ 1000) ∨ (m = 12609 ∧ P1 B st ∧ st.lines.length ≤ 4000) ∨ (m = 12608 ∧ P2 B st ∧ st.lines.length ≤ 7000) ∨
  (P2 B st ∧ P3 B st ∧ m = (Phi B st + 1).toNat + 1 ∧ st.lines.length ≤ 26000 ∧ (st.lines.length : Int) + Phi B st ≤ 23000)
structure LW (B : Br) (m : Nat) (st : CS) (ch : Bool) : Prop where
  v : Val B st
  ini : InitF B st
  len : st.lines.length ≤ 30000
  no : ch = false → Prog B st st
  yes : ch = true → st.fault = none → Phase B m st
theorem LW.step (ok : B.Ok) {m : Nat} {t : Bool} (w : LW B m st true) (f : st.fault = none) (v' : Val B st') (r : R B st st') (ub : st'.lines.length ≤ st.lines.length + 3000) (tr : t = true → st.lines.length < st'.lines.length) (fl : t = false → st' = st) (p : Prog B st st') :
    ∃ m', m' < m ∧ LW B m' st' t := by
  have ph := w.yes rfl f
  have m0 : 0 < m ∧ st.lines.length ≤ 26000 := by
    rcases ph with ⟨h, l⟩ | ⟨h, _, l⟩ | ⟨h, _, l⟩ | ⟨_, _, h, l, _⟩ <;> omega
  have ini' := w.ini.mono r
  cases t with
  | false =>
    have e := fl rfl
    subst e
    exact ⟨0, m0.1, v', ini', by omega, fun _ => p, fun z => (nomatch z)⟩
  | true =>
    by_cases f' : st'.fault = none
    · have q : ∃ m', m' < m ∧ Phase B m' st' := by
        rcases ph with ⟨h, l⟩ | ⟨h, p1, l⟩ | ⟨h, p2, l⟩ | ⟨p2, p3, h, l, s⟩
        · exact ⟨12609, by omega, .inr (.inl ⟨rfl, to_P1 ok f' w.ini r p, by omega⟩)⟩
        · exact ⟨12608, by omega, .inr (.inr (.inl ⟨rfl, to_P2 f' p1 r p, by omega⟩))⟩
        · have p2' := P2.mono r p2
          have p3' := to_P3 ok w.ini p2 r p
          have u := Phi_ub ok p2' p3'
          exact ⟨(Phi B st' + 1).toNat + 1, by omega, .inr (.inr (.inr ⟨p2', p3', rfl, by omega, by omega⟩))⟩
        · have nn := Phi_nn ok w.v f' p2 p3 p
          have po := r.pot (allP_of p2 p3) f'
          have := tr rfl
          exact ⟨(Phi B st' + 1).toNat + 1, by omega, .inr (.inr (.inr ⟨P2.mono r p2, P3.mono r p3, rfl, by omega, by omega⟩))⟩
      obtain ⟨m', hm, ph'⟩ := q
      exact ⟨m', hm, v', ini', by omega, fun z => (nomatch z), fun _ _ => ph'⟩
    · exact ⟨0, m0.1, v', ini', by omega, fun z => (nomatch z), fun _ z => absurd z f'⟩
/-! ### what the end shows -/
def Mf (st : CS) (a b : Int) : Int := if a = b then 0 else (st.M a b).getD 0
def Wf (st : CS) (i e : Int) : Int := (st.W i e).getD 0
structure EndT (B : Br) (st : CS) : Prop where
  c : Closed B (Mf st) (Wf st)
  al : AllP B st
  m60 : ∀ a b, B.ev a → B.ev b → -60 ≤ Mf st a b ∧ Mf st a b ≤ 60
  w60 : ∀ i e, B.tk i → B.ev e → -60 ≤ Wf st i e ∧ Wf st i e ≤ B.hi i
theorem endT (ok : B.Ok) (v : Val B st) (ini : InitF B st) (p : Prog B st st) (f : st.fault = none) : EndT B st := by
  have r := R.refl (B := B) st
  have p1 := to_P1 ok f ini r p
  have p2 := to_P2 f p1 r p
  have p3 := to_P3 ok ini p2 r p
  have al := allP_of p2 p3
  have mg : ∀ a b, B.ev a → B.ev b → a ≠ b → st.M a b = some (Mf st a b) ∧ Mf st a b ≤ 60 := fun a b ha hb n => by
    obtain ⟨z, h, l⟩ := (p2 a b ha hb n).get n
    unfold Mf
    rw [if_neg n, h]
    exact ⟨rfl, l⟩
  have m0 : ∀ a, Mf st a a = 0 := fun a => by unfold Mf; rw [if_pos rfl]
  have lem : ∀ {a b c}, LeM st a b c → Mf st a b ≤ c := fun {a b c} h => by
    unfold LeM at h
    unfold Mf
    by_cases e : a = b
    · rw [if_pos e] at h ⊢
      exact h
    · rw [if_neg e] at h ⊢
      obtain ⟨z, h1, h2⟩ := h
      rw [h1]
      exact h2
  have wg : ∀ i e, B.tk i → B.ev e → st.W i e = some (Wf st i e) ∧ -60 ≤ Wf st i e := fun i e hi he => by
    obtain ⟨z, h, l⟩ := p3 i e hi he
    unfold Wf
    rw [h]
    exact ⟨rfl, l⟩
  have gew : ∀ {i e c}, GeW st i e c → c ≤ Wf st i e := fun {i e c} h => by
    obtain ⟨z, h, l⟩ := h
    unfold Wf
    rw [h]
    exact l
  have tri : ∀ a b c, B.ev a → B.ev b → B.ev c → Mf st a c ≤ Mf st a b + Mf st b c := fun a b c ha hb hc => by
    by_cases e1 : a = b
    · rw [e1, m0]; omega
    · by_cases e2 : b = c
      · rw [e2, m0]; omega
      · exact lem (p.fa a b c ha hb hc _ _ (mg a b ha hb e1).1 (mg b c hb hc e2).1 f)
  have wtop : ∀ i, B.tk i → Wf st i (2 * i + 2) = B.hi i := fun i hi => by
    have e : B.ev (2 * i + 2) := ⟨by have := hi.1; omega, by have := hi.2; omega⟩
    exact Int.le_antisymm (v.hi _ _ _ (wg i _ hi e).1) (gew (ini.w i hi))
  refine ⟨⟨fun a _ => m0 a, fun t ht => lem (ini.b f t ht), tri, fun a b ha hb ie neg => ?_, wtop, fun i e hi he => lem ((p.fw i e _ (wg i e hi he).1).1 f), fun i e hi he ie n po => gew ((p.fw i e _ (wg i e hi he).1).2.1 ie n po), fun i e x hi he hx n => ?_⟩, al, fun a b ha hb => ?_, fun i e hi he => ⟨(wg i e hi he).2, v.hi _ _ _ (wg i e hi he).1⟩⟩
  · have n : a ≠ b := fun z => by rw [z, m0] at neg; omega
    exact lem (p.fm a b _ (mg a b ha hb n).1 f ie neg)
  · by_cases e1 : x = e
    · rw [e1, m0]
      omega
    · exact gew ((p.fw i e _ (wg i e hi he).1).2.2 x _ hx n e1 (mg x e hx he e1).1)
  · by_cases e : a = b
    · rw [e, m0]; omega
    · have h1 := mg a b ha hb e
      have h2 := mg b a hb ha (fun z => e z.symm)
      have h3 := tri a b a ha hb ha
      rw [m0] at h3
      omega
end
end A68
set_option maxRecDepth 100000
set_option maxHeartbeats 4000000
/-! all_bounds; comprehensions that make rows. -/
namespace A68
open PySem PySem.Spec PyProof.Rows L2
theorem rIR1 {ta : TA} {σ : St} {H : Hp} {R : It → Hp → Prop} (q : ta σ H fun vs H1 => ∃ j : Int, vs = [.int j] ∧ -(2 ^ 62) ≤ j ∧ j < 2 ^ 62 ∧ R (Itr 0 j.toNat) H1) : iRng1 ta σ H R := q
theorem rIR2 {ta : TA} {σ : St} {H : Hp} {R : It → Hp → Prop} (q : ta σ H fun vs H1 => ∃ i j : Int, vs = [.int i, .int j] ∧ (-(2 ^ 62) ≤ i ∧ i < 2 ^ 62 ∧ -(2 ^ 62) ≤ j ∧ j < 2 ^ 62) ∧ R (Itr i (j - i).toNat) H1) : iRng2 ta σ H R := q
theorem rIET {K : PySem.W.Frag} {ta : TA} {σ : St} {H : Hp} {R : It → Hp → Prop} (q : ta σ H fun vs H1 => ∃ (a : Addr) (xs : List V), vs = [.ref a] ∧ SqT K H1 a xs ∧ R (ItE K a) H1) : tiEnumT K ta σ H R := q
theorem rExt {H : Hp} {Q : VK} {l b : Addr} {xs zs : List V} (h1 : H l = some (.lst xs)) (h2 : H b = some (.lst zs)) (z : xs.length + zs.length ≤ sizeLine) (q : Q .non (upd H l (.lst (xs ++ zs)))) : rExtend (.ref l) [.ref b] H Q := ⟨l, b, xs, zs, rfl, rfl, h1, h2, z, q⟩
local macro_rules | `(tactic| walk_at "rd1") => `(tactic| first
  | ((with_reducible refine' rVar ?hx ?_); (case hx => rfl))
  | (with_reducible refine rC ?_)
  | (with_reducible refine rOp ?_)
  | (with_reducible refine rUn ?_)
  | (with_reducible refine rI0i ?_)
  | (with_reducible refine rUi ?_)
  | ((with_reducible refine rMulL ?a ?b ?_); (case a => decide); (case b => decide))
  | ((with_reducible refine rMulR ?a ?b ?_); (case a => decide); (case b => decide))
  | ((with_reducible refine rModP ?a ?_); (case a => decide))
  | ((with_reducible refine rDivP ?a ?b ?_); (case a => decide); (case b => decide))
  | ((with_reducible refine rPowL ?a ?b ?c ?_); (case a => decide); (case b => decide); (case c => decide))
  | (with_reducible refine rEqI ?_)
  | (with_reducible refine rNeI ?_)
  | (with_reducible refine rIsNi ?_)
  | (with_reducible refine rIsNn ?_)
  | (with_reducible refine rIsNr ?_)
  | (with_reducible refine rNotNi ?_)
  | (with_reducible refine rNotNn ?_)
  | (with_reducible refine rNotNr ?_)
  | (with_reducible refine rTest ?_)
  | (with_reducible refine rTB ?_)
  | (with_reducible refine rBlV ?_)
  | (with_reducible refine rAnd ?_)
  | (with_reducible refine rOr ?_)
  | (with_reducible refine rNot ?_)
  | (with_reducible refine rAndV ?_)
  | (with_reducible refine rOrV ?_)
  | (with_reducible refine rNotV ?_)
  | (with_reducible refine rIf ?_)
  | (with_reducible refine rNil ?_)
  | (with_reducible refine rCons ?_)
  | (with_reducible refine rTup ?_)
  | (with_reducible refine rLst ?_)
  | (with_reducible refine rCB ?_)
  | (with_reducible refine rCall ?_)
  | (with_reducible refine rBM ?_)
  | (with_reducible refine rMin2i ?_)
  | (with_reducible refine rMax2i ?_)
  | (with_reducible refine rInt1i ?_)
  | (with_reducible refine rPartN ?_)
  | (with_reducible refine rPart ?_)
  | (with_reducible refine rInt ?_)
  | (with_reducible refine rSlS ?_)
  | (with_reducible refine rSFld ?_)
  | (with_reducible refine rSDPut ?_)
  | (with_reducible refine rDGet ?_)
  | (with_reducible refine rDIn ?_)
  | (with_reducible refine rDNotIn ?_)
  | (with_reducible refine rSeq ?_)
  | (with_reducible refine rAsg ?_)
  | (with_reducible refine rName ?_)
  | (with_reducible refine rDrop ?_)
  | (with_reducible refine rRet ?_)
  | (with_reducible refine rIfS ?_)
  | (with_reducible refine rNext ?_)
  | (with_reducible refine rPar ?_)
  | (with_reducible refine rPar2 ?_)
  | (with_reducible refine rMeth ?_)
  | (with_reducible refine rGCons ?_)
  | (with_reducible refine rGNil ?_)
  | (with_reducible refine rForS ?_)
  | (with_reducible refine rLcS ?_)
  | (with_reducible refine rIL ?_)
  | (with_reducible refine rIT ?_)
  | (with_reducible refine rIE ?_)
  | (with_reducible refine rYes ?_)
  | (with_reducible refine rIR1 ?_)
  | (with_reducible refine rIR2 ?_)
  | (with_reducible refine rIET ?_)
  | (with_reducible refine ifSn ?_)
  | (with_reducible refine ifNn ?_)
  | (with_reducible refine ifSs ?_)
  | (with_reducible refine ifNs ?_)
  | (with_reducible refine rNotNfs ?_)
  | (with_reducible refine rNotNfn ?_)
  | (with_reducible refine rIsNfs ?_)
  | (with_reducible refine rIsNfn ?_)
  | (with_reducible refine ifT ?_)
  | (with_reducible refine ifF ?_)
  | (with_reducible refine ifNT ?_)
  | (with_reducible refine ifNF ?_))
local macro_rules | `(tactic| walk_at "rd") => `(tactic| (repeat walk_at "rd1"))
theorem walk_enT {K : PySem.W.Frag} {a : Addr} {xs : List V} : Walk (ItE K a) xs.length (fun H => SqT K H a xs) (fun i H v H' => ∃ T x, v = .ref T ∧ xs[i]? = some x ∧ Fm [] H H' ∧ H' T = some (.tup [.int (i : Nat), x])) :=
  walk_enumT.mono (fun _ h => h) fun i H v H' _ _ y => by
    obtain ⟨T, x1, y1, rfl, n, rfl, e1, e2⟩ := y
    cases e1
    exact ⟨T, y1, rfl, e2, Fm.new n, upd_same⟩
theorem walk_enL {K : PySem.W.Frag} {a : Addr} {xs : List V} : Walk (Ite K a) xs.length (fun H => SqL K H a xs) (fun i H v H' => ∃ T x, v = .ref T ∧ xs[i]? = some x ∧ Fm [] H H' ∧ H' T = some (.tup [.int (i : Nat), x])) :=
  walk_enum.mono (fun _ h => h) fun i H v H' _ _ y => by
    obtain ⟨T, x1, y1, rfl, n, rfl, e1, e2⟩ := y
    cases e1
    exact ⟨T, y1, rfl, e2, Fm.new n, upd_same⟩
theorem walk_r0 {n : Nat} : Walk (Itr 0 n) n (fun _ => True) (fun i H x H' => H' = H ∧ x = .int (i : Nat)) :=
  walk_range.mono (fun _ h => h) fun i H x H' _ _ y => ⟨y.1, by rw [y.2]; show V.int (0 + _) = _; rw [Int.zero_add]⟩
/-- a comprehension, each of whose turns makes a new tuple -/
theorem lcRows {J : It} {n : Nat} {G : Hp → Prop} {Y : Nat → Hp → V → Hp → Prop} {g : TG} {te : TE} {vs : List Nat} {σ : St} {H : Hp} {Q : VK} (w : Walk J n G Y) (hG : ∀ H', Fm [] H H' → G H') (hn : n ≤ 1000) (rows : Nat → List V)
    (step : ∀ i x H1 H2, i < n → Fm [] H H1 → Y i H1 x H2 → ∀ Qk : VK, (∀ q H3, Fm [] H1 H3 → H3 q = some (.tup (rows i)) → Qk (.ref q) H3) → g x (wipe σ vs) H2 fun σ2 H2' => wipe σ2 vs = wipe σ vs ∧ te σ2 H2' Qk)
    (fin : ∀ (D : Addr) (ws : List V) (H' : Hp), H D = none → Fm [] H H' → H' D = some (.lst ws) → Rows H' ws ((List.range n).map rows) → Q (.ref D) H') : LcJ J g tYes te vs σ H Q := by
  have dr : ∀ {D H'}, H D = none → Fm [D] H H' → Fm [] H H' := fun {D H'} h f => Fm.drop (L := [D]) f fun b z => by rw [List.mem_singleton.mp z]; exact h
  refine lcJ w (fun D j H' => ∃ ws : List V, H D = none ∧ Fm [D] H H' ∧ H' D = some (.lst ws) ∧ Rows H' ws ((List.range j).map rows)) (fun D h => ⟨[], h, Fm.new h, upd_same, .nil⟩) ?_ ?_ ?_
  · rintro D i H' _ ⟨ws, h, f, _⟩
    exact hG H' (dr h f)
  · rintro D i x H1 H2 hi ⟨ws, h, f, hD, rw_⟩ y
    refine step i x H1 H2 hi (dr h f) y _ fun q H3 f3 hq => ?_
    have h3 := f3.oth _ _ (fun z => nomatch z) hD
    have lw := rw_.len
    rw [List.length_map, List.length_range] at lw
    have f4 : Fm [D] H3 (upd H3 D (.lst (ws ++ [.ref q]))) := Fm.wr (by simp) h3 (fun _ z => nomatch z)
    refine ⟨ws, h3, line9l (by omega), ws ++ [.ref q], h, (f.trans f3.up).trans f4, upd_same, ?_⟩
    rw [List.range_succ, List.map_append]
    exact ((rw_.fm f3).fm f4).app (Rows.one (f4.tup _ _ hq))
  · rintro D H' ⟨ws, h, f, hD, r⟩
    exact fin D ws H' h (dr h f) hD r
def spBounds (B : Br) : Sp := fun vs H Q _ => ∃ A : BA, vs = [.ref A.b] ∧ BriefAt H A B ∧ ∀ (q : Addr) (ws : List V) (H' : Hp), Fm [] H H' → H' q = some (.lst ws) → Rows H' ws (B.bounds.map rowL) → H q = none → Q (.ref q) H'
theorem range_getD {α β : Type} (d : α) (f : α → β) : ∀ l : List α, (List.range l.length).map (fun i => f (l.getD i d)) = l.map f := fun l => by
  apply List.ext_getElem
  · simp
  · intro i h1 h2
    have hi : i < l.length := by simpa using h2
    simp [List.getD_eq_getElem?_getD, List.getElem?_eq_getElem hi]
section
variable {P : Program} {w : World} {K : PySem.W.Frag} {mg : Str → Option Value} {base : Heap} {f : Addr} {fd : FuncData} {B : Br}
abbrev N_p_all_bounds : List Str := ["brief", "tasks", "arrows", "limits", "deadline", "found", "task", "low", "high", "i", "j"]
theorem sc_p_all_bounds : FnScope N_p_all_bounds ["brief"] (defScope s_p_all_bounds) := ⟨rfl, rfl, rfl, by decide +kernel, rfl, by decide +kernel, by decide +kernel⟩
-- slots: 0 brief, 1 tasks, 2 arrows, 3 limits, 4 deadline, 5 found, 6 task, 7 low, 8 high, 9 i, 10 j
theorem ok_all_bounds (ok : B.Ok) (F : FD K "all_bounds" "all_bounds" s_p_all_bounds f fd) (Z : Fr0 mg) (k_begin_of : Cal P w K mg base "begin_of" ["task"] 1 (spI1 fun n => .int (2 * n + 1))) (k_end_of : Cal P w K mg base "end_of" ["task"] 1 (spI1 fun n => .int (2 * n + 2))) :
    FnOk P w K mg base CX0 2 f fd ["brief"] (spBounds B) := by
  refine F.ok sc_p_all_bounds (fun vs H Q E h => ?_) (fun cdv A0 outer s H vs Q E hr h => ?_)
  · obtain ⟨_, rfl, _⟩ := h
    rfl
  · obtain ⟨A, rfl, bf, k⟩ := h
    have hu := hu_of hr
    have nd := sc_p_all_bounds.nd
    refine ⟨_, PSs.nox (pss_cons (ps_asg (pv 0) (pg_tup rfl (pgs_cons (pg_tup rfl (pgs_cons (pg_name (i := 1) nd rfl (by first | exact Or.inl rfl | exact Or.inr rfl)) (pgs_cons (pg_name (i := 2) nd rfl (by first | exact Or.inl rfl | exact Or.inr rfl)) pgs_nil))) (pgs_cons (pg_name (i := 3) nd rfl (by first | exact Or.inl rfl | exact Or.inr rfl)) (pgs_cons (pg_name (i := 4) nd rfl (by first | exact Or.inl rfl | exact Or.inr rfl)) pgs_nil)))))
      (pss_cons (ps_set (i := 5) nd rfl (by first | exact Or.inl rfl | exact Or.inr rfl) (pe_callTy call_listN (by rfl) Z.list (by decide +kernel) (pa_cons (pv 3) pa_nil)))
      (pss_cons (ps_expr (pe_bm PySem.F.plainAttrs_list PySem.F.slot_list_extend PySem.F.type_list_extend mt_extend (pv 5) (pa_cons (pe_lc (own := [("i", 9), ("j", 10)]) (g := (gTup K 2 (gCons (gName 9) (gCons (gName 10) gNil)))) (tt := tYes) (by rfl) nd (pi_tup (pv 2)) (blkOk_by (own := [("i", 9), ("j", 10)]) (N := N_p_all_bounds) (sc := defScope s_p_all_bounds) (by decide +kernel)) (fun _ _ _ _ _ => (pg_tup rfl (pgs_cons (pg_name (i := 9) nd rfl (by first | exact Or.inl rfl | exact Or.inr rfl)) (pgs_cons (pg_name (i := 10) nd rfl (by first | exact Or.inl rfl | exact Or.inr rfl)) pgs_nil)))) (fun _ _ _ _ _ => pts_nil) (fun _ _ _ _ _ => (pe_tup (pa_cons (pe_cal k_begin_of (hr.mono (by decide)) (by rfl) (pa_cons (pv 10) pa_nil)) (pa_cons (pe_cal k_end_of (hr.mono (by decide)) (by rfl) (pa_cons (pv 9) pa_nil)) (pa_cons pe_int pa_nil)))))) pa_nil)))
      (pss_cons (ps_expr (pe_bm PySem.F.plainAttrs_list PySem.F.slot_list_extend PySem.F.type_list_extend mt_extend (pv 5) (pa_cons (pe_lc (own := [("task", 6)]) (g := (gName 6)) (tt := tYes) (by rfl) nd (pi_range1 (by rfl) Z.range (pa_cons (pe_callB call_lenS (by rfl) Z.len (by decide +kernel) (pa_cons (pv 1) pa_nil)) pa_nil)) (blkOk_by (own := [("task", 6)]) (N := N_p_all_bounds) (sc := defScope s_p_all_bounds) (by decide +kernel)) (fun _ _ _ _ _ => (pg_name (i := 6) nd rfl (by first | exact Or.inl rfl | exact Or.inr rfl))) (fun _ _ _ _ _ => pts_nil) (fun _ _ _ _ _ => (pe_tup (pa_cons pe_int (pa_cons (pe_cal k_end_of (hr.mono (by decide)) (by rfl) (pa_cons (pv 6) pa_nil)) (pa_cons (pv 4) pa_nil)))))) pa_nil)))
      (pss_cons (ps_expr (pe_bm PySem.F.plainAttrs_list PySem.F.slot_list_extend PySem.F.type_list_extend mt_extend (pv 5) (pa_cons (pe_lc (own := [("task", 6)]) (g := (gName 6)) (tt := tYes) (by rfl) nd (pi_range1 (by rfl) Z.range (pa_cons (pe_callB call_lenS (by rfl) Z.len (by decide +kernel) (pa_cons (pv 1) pa_nil)) pa_nil)) (blkOk_by (own := [("task", 6)]) (N := N_p_all_bounds) (sc := defScope s_p_all_bounds) (by decide +kernel)) (fun _ _ _ _ _ => (pg_name (i := 6) nd rfl (by first | exact Or.inl rfl | exact Or.inr rfl))) (fun _ _ _ _ _ => pts_nil) (fun _ _ _ _ _ => (pe_tup (pa_cons (pe_cal k_begin_of (hr.mono (by decide)) (by rfl) (pa_cons (pv 6) pa_nil)) (pa_cons pe_int (pa_cons pe_int pa_nil)))))) pa_nil)))
      (pss_cons (ps_for PassesOwn.never rfl (pi_enumT (by rfl) Z.enumerate (pa_cons (pv 1) pa_nil)) (pg_tup rfl (pgs_cons (pg_name (i := 6) nd rfl (by first | exact Or.inl rfl | exact Or.inr rfl)) (pgs_cons (pg_tup rfl (pgs_cons (pg_name (i := 7) nd rfl (by first | exact Or.inl rfl | exact Or.inr rfl)) (pgs_cons (pg_name (i := 8) nd rfl (by first | exact Or.inl rfl | exact Or.inr rfl)) pgs_nil))) pgs_nil)))
        (pss_cons (ps_expr (pe_bm PySem.F.plainAttrs_list PySem.F.slot_list_append PySem.F.type_list_append mt_append (pv 5) (pa_cons (pe_tup (pa_cons (pe_cal k_begin_of (hr.mono (by decide)) (by rfl) (pa_cons (pv 6) pa_nil)) (pa_cons (pe_cal k_end_of (hr.mono (by decide)) (by rfl) (pa_cons (pv 6) pa_nil)) (pa_cons (pv 8) pa_nil)))) pa_nil)))
        (pss_one (ps_expr (pe_bm PySem.F.plainAttrs_list PySem.F.slot_list_append PySem.F.type_list_append mt_append (pv 5) (pa_cons (pe_tup (pa_cons (pe_cal k_end_of (hr.mono (by decide)) (by rfl) (pa_cons (pv 6) pa_nil)) (pa_cons (pe_cal k_begin_of (hr.mono (by decide)) (by rfl) (pa_cons (pv 6) pa_nil)) (pa_cons (pe_un un_neg (pv 7)) pa_nil)))) pa_nil))))))
      (pss_one (ps_ret (pv 5))))))))), ?_⟩
    have n4 := ok.n4
    walk_at "rd"
    refine rGTup bf.hb rfl ?_
    walk_at "rd"
    refine rGTup bf.hp rfl ?_
    walk_at "rd"
    refine rListOfi (.inr (SqT.of bf.hl)) ?_
    refine rNewL0 fun D H1 n1 f1 t1 => ?_
    have dr : ∀ {H'}, Fm [D] H H' → Fm [] H H' := fun {H'} f => Fm.drop (L := [D]) f fun b z => by rw [List.mem_singleton.mp z]; exact n1
    have G1 : Fm [D] H H1 := f1.up
    have R1 := bf.rl.fm f1
    have la := bf.ra.len
    have ll := bf.rl.len
    have lt := bf.rt.len
    rw [List.length_map] at la ll lt
    have aN := ok.an
    have lN := ok.ln
    have lT : A.tv.length ≤ 4 := by rw [lt]; exact n4
    -- the list grows
    have grow : ∀ {H2 H3 : Hp} {D2 : Addr} {ws ws2 : List V} {rs rs2 : List (List V)} {Q : VK}, Fm [D] H H2 → H2 D = some (.lst ws) → Rows H2 ws rs → Fm [] H2 H3 → H3 D2 = some (.lst ws2) → Rows H3 ws2 rs2 → ws.length ≤ 600 → ws2.length ≤ 600 →
        (∀ H4, Fm [D] H H4 → H4 D = some (.lst (ws ++ ws2)) → Rows H4 (ws ++ ws2) (rs ++ rs2) → Q .non H4) → rExtend (.ref D) [.ref D2] H3 Q := fun {H2 H3 D2 ws ws2 rs rs2 Q} g h r g2 h2 r2 l1 l2 q => by
      have h3 := g2.oth _ _ (fun z => nomatch z) h
      have g3 : Fm [D] H3 (upd H3 D (.lst (ws ++ ws2))) := Fm.wr (by simp) h3 (fun _ z => nomatch z)
      exact rExt h3 h2 (line9 (by omega)) (q _ ((g.trans g2.up).trans g3) upd_same (((r.fm g2).fm g3).app (r2.fm g3)))
    walk_at "rd"
    refine ⟨tyL t1, ?_⟩
    walk_at "rd"
    have ha1 := f1.tup _ _ bf.ha
    refine ⟨_, rfl, ⟨_, SqT.of ha1⟩, lcRows (walk_tup (xs := A.av)) (fun H' f => SqT.of (f.tup _ _ ha1)) (by omega) (fun i => rowL ((fun p : Int × Int => (2 * p.2 + 1, 2 * p.1 + 2, (0 : Int))) (B.arrows.getD i (0, 0)))) ?_ ?_⟩
    · rintro i x H2 H2' hi g2 ⟨rfl, hx⟩ Qk kq
      obtain ⟨a, r, rfl, hr1, hr2⟩ := bf.ra.of_get hx
      rw [List.getElem?_map] at hr1
      obtain ⟨p, hp, rfl⟩ := Option.map_eq_some_iff.mp hr1
      have hp' : B.arrows.getD i (0, 0) = p := by rw [List.getD_eq_getElem?_getD, hp]; rfl
      rw [hp'] at kq
      refine rGTup (xs := [.int p.1, .int p.2]) (g2.tup _ _ (f1.tup _ _ hr2)) rfl ?_
      walk_at "rd"
      refine ⟨rfl, ?_⟩
      walk_at "rd"
      refine rSpI1 ?_
      walk_at "rd"
      refine rSpI1 ?_
      walk_at "rd"
      refine rNewT (ok100 rfl) fun q H3 n3 f3 t3 => ?_
      exact kq q H3 f3 t3
    · intro D2 ws2 H2 nD2 g2 hD2 r2
      rw [la, range_getD (0, 0) (fun p : Int × Int => rowL (2 * p.2 + 1, 2 * p.1 + 2, (0 : Int)))] at r2
      have l2 := r2.len
      rw [List.length_map] at l2
      walk_at "rd"
      refine grow G1 t1 R1 g2 hD2 r2 (by omega) (by omega) fun H3 G3 t3 R3 => ?_
      walk_at "rd"
      refine ⟨tyL t3, ?_⟩
      walk_at "rd"
      have ht3 := G3.tup _ _ bf.ht
      refine rLenT ht3 ?_
      walk_at "rd"
      have en : ((A.tv.length : Nat) : Int).toNat = B.n := by rw [lt]; show ((B.n : Nat) : Int).toNat = B.n; omega
      refine ⟨_, rfl, by omega, by omega, lcRows walk_r0 (fun _ _ => trivial) (by rw [en]; omega) (fun i => rowL (0, 2 * (i : Int) + 2, B.dl)) ?_ ?_⟩
      · rintro i x H4 H4' hi g4 ⟨rfl, rfl⟩ Qk kq
        walk_at "rd"
        refine ⟨rfl, ?_⟩
        walk_at "rd"
        refine rSpI1 ?_
        walk_at "rd"
        refine rNewT (ok100 rfl) fun q H5 n5 f5 t5 => ?_
        exact kq q H5 f5 t5
      · intro D4 ws4 H4 nD4 g4 hD4 r4
        rw [en] at r4
        have l4 := r4.len
        rw [List.length_map, List.length_range] at l4
        walk_at "rd"
        refine grow G3 t3 R3 g4 hD4 r4 (by rw [List.length_append]; omega) (by omega) fun H5 G5 t5 R5 => ?_
        walk_at "rd"
        refine ⟨tyL t5, ?_⟩
        walk_at "rd"
        have ht5 := G5.tup _ _ bf.ht
        refine rLenT ht5 ?_
        walk_at "rd"
        refine ⟨_, rfl, by omega, by omega, lcRows walk_r0 (fun _ _ => trivial) (by rw [en]; omega) (fun i => rowL (2 * (i : Int) + 1, 0, 0)) ?_ ?_⟩
        · rintro i x H6 H6' hi g6 ⟨rfl, rfl⟩ Qk kq
          walk_at "rd"
          refine ⟨rfl, ?_⟩
          walk_at "rd"
          refine rSpI1 ?_
          walk_at "rd"
          refine rNewT (ok100 rfl) fun q H7 n7 f7 t7 => ?_
          exact kq q H7 f7 t7
        · intro D6 ws6 H6 nD6 g6 hD6 r6
          rw [en] at r6
          have l6 := r6.len
          rw [List.length_map, List.length_range] at l6
          walk_at "rd"
          refine grow G5 t5 R5 g6 hD6 r6 (by rw [List.length_append, List.length_append]; omega) (by omega) fun H7 G7 t7 R7 => ?_
          walk_at "rd"
          have eh : B.limits.map rowL ++ B.arrows.map (fun p : Int × Int => rowL (2 * p.2 + 1, 2 * p.1 + 2, (0 : Int))) ++ (List.range B.n).map (fun i : Nat => rowL (0, 2 * (i : Int) + 2, B.dl)) ++ (List.range B.n).map (fun i : Nat => rowL (2 * (i : Int) + 1, 0, 0)) = B.head.map rowL := by
            unfold Br.head
            simp only [List.map_append, List.map_map]
            rfl
          rw [eh] at R7
          refine ⟨_, _, rfl, SqT.of (G7.tup _ _ bf.ht), forJ (walk_enT (xs := A.tv)) (fun j σ' H' => ∃ (o6 o7 o8 : Option V) (ws : List V), σ' = [some (.ref A.b), some (.ref A.ts), some (.ref A.ar), some (.ref A.lm), some (.int B.dl), some (.ref D), o6, o7, o8, none, none] ∧ Fm [D] H H' ∧ H' D = some (.lst ws) ∧
            Rows H' ws ((B.head ++ (List.range j).flatMap B.dur).map rowL)) ⟨_, _, _, _, rfl, G7, t7, by rw [show (List.range 0).flatMap B.dur = [] from rfl, List.append_nil]; exact R7⟩ ?_ ?_ ?_⟩
          · rintro j σ' H' _ ⟨_, _, _, ws, _, G, _⟩
            exact SqT.of (G.tup _ _ bf.ht)
          · rintro j x σ' H' H8 hj ⟨o6, o7, o8, ws, rfl, G, hD, R8⟩ ⟨T, x1, rfl, e2, f8, hT⟩
            have hj' : B.tk (j : Int) := ⟨by omega, by have := lt; unfold Br.n; omega⟩
            obtain ⟨a, h1, h2⟩ := bf.task hj'
            rw [show ((j : Nat) : Int).toNat = j by omega, e2] at h1
            cases h1
            have G8 := G.trans f8.up
            have hD8 := f8.oth _ _ (fun z => nomatch z) hD
            refine rGTup hT rfl ?_
            walk_at "rd"
            refine rGTup (G8.tup _ _ h2) rfl ?_
            walk_at "rd"
            refine ⟨tyL hD8, ?_⟩
            walk_at "rd"
            refine rSpI1 ?_
            walk_at "rd"
            refine rSpI1 ?_
            walk_at "rd"
            refine rNewT (ok100 rfl) fun q9 H9 n9 f9 t9 => ?_
            walk_at "rd"
            have hD9 := f9.oth _ _ (fun z => nomatch z) hD8
            have l9 := R8.len
            rw [List.length_map, List.length_append, Br.head_len, Br.dur_len] at l9
            have jn : j < B.n := by unfold Br.n; omega
            refine rAppL hD9 (line9l (by omega)) ?_
            have g9 : Fm [D] H9 (upd H9 D (.lst (ws ++ [.ref q9]))) := Fm.wr (by simp) hD9 (fun _ z => nomatch z)
            generalize eH10 : upd H9 D (.lst (ws ++ [.ref q9])) = H10 at g9
            have hD10 : H10 D = some (.lst (ws ++ [.ref q9])) := by rw [← eH10, upd_same]
            walk_at "rd"
            refine ⟨tyL hD10, ?_⟩
            walk_at "rd"
            refine rSpI1 ?_
            walk_at "rd"
            refine rSpI1 ?_
            walk_at "rd"
            refine rNewT (ok100 rfl) fun q11 H11 n11 f11 t11 => ?_
            walk_at "rd"
            have hD11 := f11.oth _ _ (fun z => nomatch z) hD10
            refine rAppL hD11 (line9l (by rw [List.length_append]; simp; omega)) ?_
            have g11 : Fm [D] H11 (upd H11 D (.lst ((ws ++ [.ref q9]) ++ [.ref q11]))) := Fm.wr (by simp) hD11 (fun _ z => nomatch z)
            walk_at "rd"
            refine ⟨_, _, _, _, rfl, (((G8.trans f9.up).trans g9).trans f11.up).trans g11, upd_same, ?_⟩
            rw [List.range_succ, List.flatMap_append, ← List.append_assoc, List.map_append]
            generalize upd H11 D _ = H12 at g11
            rw [List.append_assoc ws]
            refine ((((R8.fm f8).fm f9).fm g9).fm f11).fm g11 |>.app ?_
            exact .cons ⟨q9, rfl, g11.tup _ _ (f11.tup _ _ (g9.tup _ _ t9))⟩ (.cons ⟨q11, rfl, g11.tup _ _ t11⟩ .nil)
          · rintro σ' H' ⟨o6, o7, o8, ws, rfl, G, hD, R8⟩
            walk_at "rd"
            rw [show A.tv.length = B.n from lt] at R8
            exact k D ws H' (dr G) hD R8 n1
end
end A68
set_option maxRecDepth 100000
set_option maxHeartbeats 4000000
/-! __init__. -/
namespace A68
open PySem PySem.Spec PyProof.Rows L2
theorem rLstRg {te : St → Hp → (Int → Int → Hp → Prop) → Prop} {σ : St} {H : Hp} {Q : VK} (q : te σ H fun a b H1 => RgOk a b ∧ NewL (rgV a b) H1 Q) : tLstRg te σ H Q := q
theorem rRg1 {ta : TE} {σ : St} {H : Hp} {Q : Int → Int → Hp → Prop} (q : ta σ H fun x H1 => ∃ n, x = .int n ∧ Q 0 n H1) : tRg1 ta σ H Q := q
theorem rDNew {σ : St} {H : Hp} {Q : VK} (q : ∀ p H', H p = none → Fm [] H H' → H' p = some (.dT []) → Q (.ref p) H') : tDNewT σ H Q := fun p n => q p _ n (Fm.new n) upd_same
theorem pl0 {f : Str} {v : V} {fs : List (Str × V)} {n : Nat} (h : fs.length ≤ n) : (putF f v fs).length ≤ n + 1 := Nat.le_trans (length_putF _ _ _) (Nat.succ_le_succ h)
theorem pl1 {n : Nat} {fs : List (Str × V)} (h : fs.length ≤ n) (m : Nat.ble n 100 = true := by rfl) : fs.length < 1000 := Nat.lt_of_le_of_lt (Nat.le_trans h (Nat.le_of_ble_eq_true m)) (by decide)
theorem fOwn {K : PySem.W.Frag} {σ : St} {H : Hp} {Q : VK} {p C dx : Addr} {fs : List (Str × V)} {fl : Str} {v : V} (ob : H p = some (.ins C dx fs)) (c : Cls K C) (n : NoAttr K C fl) (l : fs.lookup fl = some v) (h0 : σ[0]? = some (some (.ref p))) (q : Q v H) : tFld K (tVar 0) fl σ H Q := ⟨_, h0, rFld ob c n l q⟩
theorem whJ {c : TT} {tb : TS} {D : Ends} {σ : St} {H : Hp} (W : Nat → St → Hp → Prop) (h0 : ∃ m, W m σ H)
    (hs : ∀ m σ H, W m σ H → c σ H fun b H1 => if b = true then ∃ N : St → Hp → Prop, (∀ σ' H', N σ' H' → ∃ m', m' < m ∧ W m' σ' H') ∧ tb { D with nx := N, ct := N, bk := D.nx } σ H1 else D.nx σ H1) : tWhile c tb D σ H := ⟨W, h0, hs⟩
local macro_rules | `(tactic| walk_at "rd1") => `(tactic| first
  | ((with_reducible refine' rVar ?hx ?_); (case hx => rfl))
  | (with_reducible refine rC ?_)
  | (with_reducible refine rOp ?_)
  | (with_reducible refine rUn ?_)
  | (with_reducible refine rI0i ?_)
  | (with_reducible refine rUi ?_)
  | ((with_reducible refine rMulL ?a ?b ?_); (case a => decide); (case b => decide))
  | ((with_reducible refine rMulR ?a ?b ?_); (case a => decide); (case b => decide))
  | ((with_reducible refine rModP ?a ?_); (case a => decide))
  | ((with_reducible refine rDivP ?a ?b ?_); (case a => decide); (case b => decide))
  | ((with_reducible refine rPowL ?a ?b ?c ?_); (case a => decide); (case b => decide); (case c => decide))
  | (with_reducible refine rEqI ?_)
  | (with_reducible refine rNeI ?_)
  | (with_reducible refine rIsNi ?_)
  | (with_reducible refine rIsNn ?_)
  | (with_reducible refine rIsNr ?_)
  | (with_reducible refine rNotNi ?_)
  | (with_reducible refine rNotNn ?_)
  | (with_reducible refine rNotNr ?_)
  | (with_reducible refine rTest ?_)
  | (with_reducible refine rTB ?_)
  | (with_reducible refine rBlV ?_)
  | (with_reducible refine rAnd ?_)
  | (with_reducible refine rOr ?_)
  | (with_reducible refine rNot ?_)
  | (with_reducible refine rAndV ?_)
  | (with_reducible refine rOrV ?_)
  | (with_reducible refine rNotV ?_)
  | (with_reducible refine rIf ?_)
  | (with_reducible refine rNil ?_)
  | (with_reducible refine rCons ?_)
  | (with_reducible refine rTup ?_)
  | (with_reducible refine rLst ?_)
  | (with_reducible refine rCB ?_)
  | (with_reducible refine rCall ?_)
  | (with_reducible refine rBM ?_)
  | (with_reducible refine rMin2i ?_)
  | (with_reducible refine rMax2i ?_)
  | (with_reducible refine rInt1i ?_)
  | (with_reducible refine rPartN ?_)
  | (with_reducible refine rPart ?_)
  | (with_reducible refine rInt ?_)
  | (with_reducible refine rSlS ?_)
  | (with_reducible refine rSFld ?_)
  | (with_reducible refine rSDPut ?_)
  | (with_reducible refine rDGet ?_)
  | (with_reducible refine rDIn ?_)
  | (with_reducible refine rDNotIn ?_)
  | (with_reducible refine rSeq ?_)
  | (with_reducible refine rAsg ?_)
  | (with_reducible refine rName ?_)
  | (with_reducible refine rDrop ?_)
  | (with_reducible refine rRet ?_)
  | (with_reducible refine rIfS ?_)
  | (with_reducible refine rNext ?_)
  | (with_reducible refine rPar ?_)
  | (with_reducible refine rPar2 ?_)
  | (with_reducible refine rMeth ?_)
  | (with_reducible refine rGCons ?_)
  | (with_reducible refine rGNil ?_)
  | (with_reducible refine rForS ?_)
  | (with_reducible refine rLcS ?_)
  | (with_reducible refine rIL ?_)
  | (with_reducible refine rIT ?_)
  | (with_reducible refine rIE ?_)
  | (with_reducible refine rYes ?_)
  | (with_reducible refine rIR1 ?_)
  | (with_reducible refine rIR2 ?_)
  | (with_reducible refine rIET ?_)
  | (with_reducible refine ifSn ?_)
  | (with_reducible refine ifNn ?_)
  | (with_reducible refine ifSs ?_)
  | (with_reducible refine ifNs ?_)
  | (with_reducible refine rNotNfs ?_)
  | (with_reducible refine rNotNfn ?_)
  | (with_reducible refine rIsNfs ?_)
  | (with_reducible refine rIsNfn ?_)
  | (with_reducible refine ifT ?_)
  | (with_reducible refine ifF ?_)
  | (with_reducible refine ifNT ?_)
  | (with_reducible refine ifNF ?_))
local macro_rules | `(tactic| walk_at "rd") => `(tactic| (repeat walk_at "rd1"))
def spInit (C : Addr) (B : Br) : Sp := fun vs H Q _ => ∃ (p dx : Addr) (Ab : BA), vs = [.ref p, .ref Ab.b] ∧ H p = some (.ins C dx []) ∧ BriefAt H Ab B ∧
  ∀ (A : CA) (st : CS) (H' : Hp), Fm [p] H H' → CAt C B H' p A st → Val B st → InitF B st → st.lines.length ≤ 30000 → (st.fault = none → Prog B st st) → Q .non H'
theorem Val.start {B : Br} : Val B ⟨[], [], [], none⟩ :=
  ⟨fun i x h => by simp at h, fun kv h => (nomatch h), List.nodup_nil, fun kv h => (nomatch h), List.nodup_nil, fun i e w h => by simp [CS.W, valV] at h, fun k h => (nomatch h), fun _ _ => rfl, ⟨Nat.le_refl _, Nat.le_refl _⟩⟩
section
variable {P : Program} {w : World} {K : PySem.W.Frag} {mg : Str → Option Value} {base : Heap} {f : Addr} {fd : FuncData} {C : Addr} {B : Br}
abbrev N_c_init : List Str := ["self", "brief", "k", "a", "b", "w", "task", "low", "high", "is_changed"]
theorem sc_c_init : FnScope N_c_init ["self", "brief"] (defScope s_c_init) := ⟨rfl, rfl, rfl, by decide +kernel, rfl, by decide +kernel, by decide +kernel⟩
-- slots: 0 self, 1 brief, 2 k, 3 a, 4 b, 5 w, 6 task, 7 low, 8 high, 9 is_changed
theorem ok_init (ok : B.Ok) (F : FD K "__init__" "Closing.__init__" s_c_init f fd) (T : Tx K mg C) (Z : Fr0 mg) (c_om : CalM P w K mg base C "offer_most" POM 1 (spOfferM C B)) (c_ow : CalM P w K mg base C "offer_wait" POW 1 (spOfferW C B))
    (c_co : CalM P w K mg base C "close_once" ["self"] 3 (spClose C B)) (k_end_of : Cal P w K mg base "end_of" ["task"] 1 (spI1 fun n => .int (2 * n + 2))) (k_all_bounds : Cal P w K mg base "all_bounds" ["brief"] 2 (spBounds B)) :
    FnOk P w K mg base CX0 4 f fd ["self", "brief"] (spInit C B) := by
  obtain ⟨f_offer_most, fd_offer_most, F_offer_most, mt_offer_most, bd_offer_most⟩ := c_om
  obtain ⟨f_offer_wait, fd_offer_wait, F_offer_wait, mt_offer_wait, bd_offer_wait⟩ := c_ow
  obtain ⟨f_close_once, fd_close_once, F_close_once, mt_close_once, bd_close_once⟩ := c_co
  refine F.ok sc_c_init (fun vs H Q E h => ?_) (fun cdv A0 outer s H vs Q E hr h => ?_)
  · obtain ⟨_, _, _, rfl, _⟩ := h
    rfl
  · obtain ⟨p, dx, Ab, rfl, hp, bf, k⟩ := h
    have hu := hu_of hr
    have nd := sc_c_init.nd
    refine ⟨_, PSs.nox (pss_cons (ps_fld (pv 0) (pe_ix ix_tup (pe_ix ix_tup (pv 1) pe_int (fun _ _ => rfl)) pe_int (fun _ _ => rfl)) rfl)
      (pss_cons (ps_fld (pv 0) (pe_listRg rfl (by rfl) Z.list (prg_1 (by rfl) Z.range (pe_op op_add (pe_op op_mul pe_int (pe_callB call_lenS (by rfl) Z.len (by decide +kernel) (pa_cons (pe_fld (pv 0) rfl) pa_nil))) pe_int))) rfl)
      (pss_cons (ps_fld (pv 0) (pe_lst pa_nil) rfl)
      (pss_cons (ps_fld (pv 0) pe_dnewT rfl)
      (pss_cons (ps_fld (pv 0) pe_dnewT rfl)
      (pss_cons (ps_fld (pv 0) pe_non rfl)
      (pss_cons (ps_for PassesOwn.never rfl (pi_enum (by rfl) Z.enumerate (pa_cons (pe_cal k_all_bounds (hr.mono (by decide)) (by rfl) (pa_cons (pv 1) pa_nil)) pa_nil)) (pg_tup rfl (pgs_cons (pg_name (i := 2) nd rfl (by first | exact Or.inl rfl | exact Or.inr rfl)) (pgs_cons (pg_tup rfl (pgs_cons (pg_name (i := 3) nd rfl (by first | exact Or.inl rfl | exact Or.inr rfl)) (pgs_cons (pg_name (i := 4) nd rfl (by first | exact Or.inl rfl | exact Or.inr rfl)) (pgs_cons (pg_name (i := 5) nd rfl (by first | exact Or.inl rfl | exact Or.inr rfl)) pgs_nil)))) pgs_nil)))
        (pss_one (ps_expr (pe_meth (pv 0) T.cl mt_offer_most F_offer_most (hr.mono (by decide)) bd_offer_most .nil pass0 (pa_cons (pv 3) (pa_cons (pv 4) (pa_cons (pv 5) (pa_cons (pe_tup (pa_cons pe_str (pa_cons (pv 2) pa_nil))) pa_nil))))))))
      (pss_cons (ps_for PassesOwn.never rfl (pi_enumT (by rfl) Z.enumerate (pa_cons (pe_fld (pv 0) rfl) pa_nil)) (pg_tup rfl (pgs_cons (pg_name (i := 6) nd rfl (by first | exact Or.inl rfl | exact Or.inr rfl)) (pgs_cons (pg_tup rfl (pgs_cons (pg_name (i := 7) nd rfl (by first | exact Or.inl rfl | exact Or.inr rfl)) (pgs_cons (pg_name (i := 8) nd rfl (by first | exact Or.inl rfl | exact Or.inr rfl)) pgs_nil))) pgs_nil)))
        (pss_one (ps_expr (pe_meth (pv 0) T.cl mt_offer_wait F_offer_wait (hr.mono (by decide)) bd_offer_wait .nil pass0 (pa_cons (pv 6) (pa_cons (pe_cal k_end_of (hr.mono (by decide)) (by rfl) (pa_cons (pv 6) pa_nil)) (pa_cons (pv 8) (pa_cons (pe_tup (pa_cons pe_str (pa_cons (pv 6) pa_nil))) pa_nil))))))))
      (pss_cons (ps_set (i := 9) nd rfl (by first | exact Or.inl rfl | exact Or.inr rfl) pe_bl)
      (pss_one (ps_while PassesOwn.never (PW.pt (pw_and (pt_val (pv 9)) (pw_and1 (pt_cmpR op_isN1 (pe_fld (pv 0) rfl) pe_non (nomark _)))))
        (pss_one (ps_set (i := 9) nd rfl (by first | exact Or.inl rfl | exact Or.inr rfl) (pe_meth0 (pv 0) T.cl mt_close_once F_close_once (hr.mono (by decide)) bd_close_once .nil pass0)))))))))))))), ?_⟩
    have n4 := ok.n4
    walk_at "rd"
    refine rIxTl bf.hb rfl ?_
    walk_at "rd"
    refine rIxTl bf.hp rfl ?_
    walk_at "rd"
    refine ⟨_, _, _, _, rfl, hp, T.cl, T.n1, by decide, ?_⟩
    have f1 : Fm [p] H (upd H p (.ins C dx (putF "tasks" (.ref Ab.ts) []))) := Fm.wr (by simp) hp (fun _ z => nomatch z)
    have p1 : (upd H p (.ins C dx (putF "tasks" (.ref Ab.ts) []))) p = some (.ins C dx (putF "tasks" (.ref Ab.ts) [])) := upd_same
    generalize upd H p (.ins C dx (putF "tasks" (.ref Ab.ts) [])) = H1 at f1 p1
    walk_at "rd"
    have ht1 := f1.tup _ _ bf.ht
    refine rLstRg (rRg1 ?_)
    walk_at "rd"
    refine fOwn p1 T.cl T.n1 (by rw [lookup_putF, if_pos rfl]) rfl ?_
    walk_at "rd"
    refine rLenT ht1 ?_
    walk_at "rd"
    have lt := bf.rt.len
    rw [List.length_map] at lt
    have lt' : A0 = A0 ∧ Ab.tv.length = B.n := ⟨rfl, lt⟩
    refine ⟨⟨by omega, by omega, by omega, by omega, by omega⟩, rNewL0 fun ev H2 n2 f2 t2 => ?_⟩
    have eV : rgV 0 (2 * ((Ab.tv.length : Nat) : Int) + 1) = evV B := by rw [lt'.2]; rfl
    rw [eV] at t2
    walk_at "rd"
    have p2 := f2.oth _ _ (fun z => nomatch z) p1
    refine ⟨_, _, _, _, rfl, p2, T.cl, T.n2, pl1 (pl0 (Nat.le_refl 0)), ?_⟩
    have g3 : ∀ {H2 : Hp} {fs gs : List (Str × V)}, H2 p = some (.ins C dx fs) → Fm [p] H2 (upd H2 p (.ins C dx gs)) := fun h => Fm.wr (by simp) h (fun _ z => nomatch z)
    have f3 := g3 (gs := putF "every" (.ref ev) (putF "tasks" (.ref Ab.ts) [])) p2
    have p3 : (upd H2 p (.ins C dx (putF "every" (.ref ev) (putF "tasks" (.ref Ab.ts) [])))) p = some (.ins C dx (putF "every" (.ref ev) (putF "tasks" (.ref Ab.ts) []))) := upd_same
    have e3 : (upd H2 p (.ins C dx (putF "every" (.ref ev) (putF "tasks" (.ref Ab.ts) [])))) ev = some (.lst (evV B)) := by rw [upd_ne (ne_of t2 p2 (fun z => nomatch z))]; exact t2
    generalize upd H2 p (.ins C dx (putF "every" (.ref ev) (putF "tasks" (.ref Ab.ts) []))) = H3 at f3 p3 e3
    walk_at "rd"
    refine rNewL (ok100 rfl) fun l H4 n4' f4 t4 => ?_
    walk_at "rd"
    have p4 := f4.oth _ _ (fun z => nomatch z) p3
    have e4 := f4.oth _ _ (fun z => nomatch z) e3
    have nel : l ≠ ev := fun z => by rw [z, e3] at n4'; cases n4'
    refine ⟨_, _, _, _, rfl, p4, T.cl, T.n3, pl1 (pl0 (pl0 (Nat.le_refl 0))), ?_⟩
    have f5 := g3 (gs := putF "lines" (.ref l) (putF "every" (.ref ev) (putF "tasks" (.ref Ab.ts) []))) p4
    have p5 : (upd H4 p (.ins C dx (putF "lines" (.ref l) (putF "every" (.ref ev) (putF "tasks" (.ref Ab.ts) []))))) p = some (.ins C dx (putF "lines" (.ref l) (putF "every" (.ref ev) (putF "tasks" (.ref Ab.ts) [])))) := upd_same
    have e5 : (upd H4 p (.ins C dx (putF "lines" (.ref l) (putF "every" (.ref ev) (putF "tasks" (.ref Ab.ts) []))))) ev = some (.lst (evV B)) := by rw [upd_ne (ne_of e4 p4 (fun z => nomatch z))]; exact e4
    have l5 : (upd H4 p (.ins C dx (putF "lines" (.ref l) (putF "every" (.ref ev) (putF "tasks" (.ref Ab.ts) []))))) l = some (.lst []) := by rw [upd_ne (ne_of t4 p4 (fun z => nomatch z))]; exact t4
    generalize upd H4 p (.ins C dx (putF "lines" (.ref l) (putF "every" (.ref ev) (putF "tasks" (.ref Ab.ts) [])))) = H5 at f5 p5 e5 l5
    walk_at "rd"
    refine rDNew fun m H6 n6 f6 t6 => ?_
    walk_at "rd"
    have p6 := f6.oth _ _ (fun z => nomatch z) p5
    refine ⟨_, _, _, _, rfl, p6, T.cl, T.n4, pl1 (pl0 (pl0 (pl0 (Nat.le_refl 0)))), ?_⟩
    have f7 := g3 (gs := putF "mosts" (.ref m) (putF "lines" (.ref l) (putF "every" (.ref ev) (putF "tasks" (.ref Ab.ts) [])))) p6
    have p7 : (upd H6 p (.ins C dx (putF "mosts" (.ref m) (putF "lines" (.ref l) (putF "every" (.ref ev) (putF "tasks" (.ref Ab.ts) [])))))) p = some (.ins C dx (putF "mosts" (.ref m) (putF "lines" (.ref l) (putF "every" (.ref ev) (putF "tasks" (.ref Ab.ts) []))))) := upd_same
    have q7 : ∀ b, b ≠ p → (upd H6 p (.ins C dx (putF "mosts" (.ref m) (putF "lines" (.ref l) (putF "every" (.ref ev) (putF "tasks" (.ref Ab.ts) [])))))) b = H6 b := fun b n => upd_ne n
    generalize upd H6 p (.ins C dx (putF "mosts" (.ref m) (putF "lines" (.ref l) (putF "every" (.ref ev) (putF "tasks" (.ref Ab.ts) []))))) = H7 at f7 p7 q7
    have e6 := f6.oth _ _ (fun z => nomatch z) e5
    have l6 := f6.oth _ _ (fun z => nomatch z) l5
    have e7 := (q7 _ (ne_of e6 p6 (fun z => nomatch z))).trans e6
    have l7 := (q7 _ (ne_of l6 p6 (fun z => nomatch z))).trans l6
    have m7 := (q7 _ (ne_of t6 p6 (fun z => nomatch z))).trans t6
    walk_at "rd"
    refine rDNew fun wa H8 n8 f8 t8 => ?_
    walk_at "rd"
    have p8 := f8.oth _ _ (fun z => nomatch z) p7
    have nmw : m ≠ wa := fun z => by rw [← z, m7] at n8; cases n8
    refine ⟨_, _, _, _, rfl, p8, T.cl, T.n5, pl1 (pl0 (pl0 (pl0 (pl0 (Nat.le_refl 0))))), ?_⟩
    have f9 := g3 (gs := putF "waits" (.ref wa) (putF "mosts" (.ref m) (putF "lines" (.ref l) (putF "every" (.ref ev) (putF "tasks" (.ref Ab.ts) []))))) p8
    have p9 : (upd H8 p (.ins C dx (putF "waits" (.ref wa) (putF "mosts" (.ref m) (putF "lines" (.ref l) (putF "every" (.ref ev) (putF "tasks" (.ref Ab.ts) []))))))) p = some (.ins C dx (putF "waits" (.ref wa) (putF "mosts" (.ref m) (putF "lines" (.ref l) (putF "every" (.ref ev) (putF "tasks" (.ref Ab.ts) [])))))) := upd_same
    have q9 : ∀ b, b ≠ p → (upd H8 p (.ins C dx (putF "waits" (.ref wa) (putF "mosts" (.ref m) (putF "lines" (.ref l) (putF "every" (.ref ev) (putF "tasks" (.ref Ab.ts) []))))))) b = H8 b := fun b n => upd_ne n
    generalize upd H8 p (.ins C dx (putF "waits" (.ref wa) (putF "mosts" (.ref m) (putF "lines" (.ref l) (putF "every" (.ref ev) (putF "tasks" (.ref Ab.ts) [])))))) = H9 at f9 p9 q9
    walk_at "rd"
    refine ⟨_, _, _, _, rfl, p9, T.cl, T.n6, pl1 (pl0 (pl0 (pl0 (pl0 (pl0 (Nat.le_refl 0)))))), ?_⟩
    have f10 := g3 (gs := (putF "fault" .non (putF "waits" (.ref wa) (putF "mosts" (.ref m) (putF "lines" (.ref l) (putF "every" (.ref ev) (putF "tasks" (.ref Ab.ts) []))))))) p9
    have p10 : (upd H9 p (.ins C dx (putF "fault" .non (putF "waits" (.ref wa) (putF "mosts" (.ref m) (putF "lines" (.ref l) (putF "every" (.ref ev) (putF "tasks" (.ref Ab.ts) [])))))))) p = some (.ins C dx (cf ⟨dx, Ab.ts, ev, l, m, wa, Ab.tv⟩ .non)) := upd_same
    have q10 : ∀ b, b ≠ p → (upd H9 p (.ins C dx (putF "fault" .non (putF "waits" (.ref wa) (putF "mosts" (.ref m) (putF "lines" (.ref l) (putF "every" (.ref ev) (putF "tasks" (.ref Ab.ts) [])))))))) b = H9 b := fun b n => upd_ne n
    generalize upd H9 p (.ins C dx (putF "fault" .non (putF "waits" (.ref wa) (putF "mosts" (.ref m) (putF "lines" (.ref l) (putF "every" (.ref ev) (putF "tasks" (.ref Ab.ts) []))))))) = H10 at f10 p10 q10
    have F10 : Fm [p] H H10 := f1.trans (f2.up.trans (f3.trans (f4.up.trans (f5.trans (f6.up.trans (f7.trans (f8.up.trans (f9.trans f10))))))))
    have st8 : ∀ {b o}, H7 b = some o → b ≠ p → H10 b = some o := fun {b o} h n => by rw [q10 b n, q9 b n]; exact f8.oth _ _ (fun z => nomatch z) h
    have c10 : CAt C B H10 p ⟨dx, Ab.ts, ev, l, m, wa, Ab.tv⟩ ⟨[], [], [], none⟩ := ⟨p10, F10.tup _ _ bf.ht, bf.rt.fm F10, st8 e7 (ne_of e6 p6 (fun z => nomatch z)), ⟨[], st8 l7 (ne_of l6 p6 (fun z => nomatch z)), .nil⟩, st8 m7 (ne_of t6 p6 (fun z => nomatch z)),
      by rw [q10 _ (ne_of t8 p8 (fun z => nomatch z)), q9 _ (ne_of t8 p8 (fun z => nomatch z))]; exact t8, nel, nmw⟩
    have hl0 : H l = none := f1.fre _ (f2.fre _ (f3.fre _ n4'))
    have hm0 : H m = none := f1.fre _ (f2.fre _ (f3.fre _ (f4.fre _ (f5.fre _ n6))))
    have hw0 : H wa = none := f1.fre _ (f2.fre _ (f3.fre _ (f4.fre _ (f5.fre _ (f6.fre _ (f7.fre _ n8))))))
    have bf10 := bf.fm F10
    generalize eA : (⟨dx, Ab.ts, ev, l, m, wa, Ab.tv⟩ : CA) = A at c10
    have eAl : A.l = l := by rw [← eA]
    have eAm : A.m = m := by rw [← eA]
    have eAw : A.w = wa := by rw [← eA]
    have eAt : A.ts = Ab.ts := by rw [← eA]
    have eAv : A.tv = Ab.tv := by rw [← eA]
    -- the frame of all that follows, seen from the entry
    have fin : ∀ {H'}, Fm (A.ch p) H10 H' → Fm [p] H H' := fun {H'} f => by
      refine Fm.drop (L := [l, m, wa]) ((F10.mono (by simp)).trans (f.mono ?_)) ?_
      · intro b hb
        rw [show A.ch p = [p, l, m, wa] by rw [← eAl, ← eAm, ← eAw]] at hb
        simp only [List.mem_cons, List.not_mem_nil, or_false] at hb
        rcases hb with rfl | rfl | rfl | rfl <;> simp
      · intro b hb
        simp only [List.mem_cons, List.not_mem_nil, or_false] at hb
        rcases hb with rfl | rfl | rfl
        · exact hl0
        · exact hm0
        · exact hw0
    walk_at "rd"
    refine ⟨Ab, rfl, bf10, fun q ws H11 f11 hq11 rows11 nq => ?_⟩
    walk_at "rd"
    have c11 := c10.f0 f11
    have nD := c10.neD nq
    have lws := rows11.len
    rw [List.length_map] at lws
    have lbd := Br.bounds_len ok
    refine ⟨_, _, rfl, SqL.of hq11, forJ (walk_enL (xs := ws)) (fun j σ' H' => ∃ (o2 o3 o4 o5 : Option V) (t : Bool) (st : CS), σ' = [some (.ref p), some (.ref Ab.b), o2, o3, o4, o5, none, none, none, none] ∧ Stp C B (A.ch p) p A j ⟨[], [], [], none⟩ H11 t st H' ∧
      (∀ j' x, j' < j → B.bounds[j']? = some x → st.fault = none → LeM st x.1 x.2.1 x.2.2)) ⟨_, _, _, _, false, _, rfl, Stp.refl c11 Val.start, fun j' x h => absurd h (by omega)⟩ ?_ ?_ ?_⟩
    · rintro j σ' H' _ ⟨_, _, _, _, t, st, _, S, _⟩
      exact SqL.of (S.fm.oth _ _ nD.2.2 hq11)
    · rintro j x σ' H' H12 hj ⟨o2, o3, o4, o5, t, st, rfl, S, fb⟩ ⟨T1, y, rfl, hy, f12, hT1⟩
      obtain ⟨a, r, rfl, hr1, hr2⟩ := rows11.of_get hy
      rw [List.getElem?_map] at hr1
      obtain ⟨⟨ba, bb, bw⟩, hb1, rfl⟩ := Option.map_eq_some_iff.mp hr1
      have S12 := S.new f12
      have bo := Br.bounds_ok ok _ (List.mem_of_getElem? hb1)
      refine rGTup hT1 rfl ?_
      walk_at "rd"
      refine rGTup (xs := [.int ba, .int bb, .int bw]) (f12.tup _ _ (S.fm.tup _ _ hr2)) rfl ?_
      walk_at "rd"
      refine ⟨_, _, _, rfl, S12.ca.ob, cf_noM.1, ?_⟩
      walk_at "rd"
      refine rNewT (ok100 rfl) fun q13 H13 n13 f13 t13 => ?_
      walk_at "rd"
      have S13 := S12.new f13
      have ub := S13.ub
      simp only [List.length_nil] at ub
      refine ⟨p, A, st, ba, bb, bw, .bound j, q13, rfl, S13.ca, S13.va, t13, ⟨rfl, hb1⟩, bo.1, bo.2.1, by omega, ?_⟩
      intro t' st' H14 fm' ca' v' r' ub' tr' fl' fin'
      have S14 := S13.trans (⟨fm', ca', v', r', ub', tr', fl'⟩ : Stp C B (A.ch p) p A 1 st H13 t' st' H14)
      walk_at "rd"
      refine ⟨_, _, _, _, _, st', rfl, S14, fun j' x hj' hx ff => ?_⟩
      by_cases e : j' = j
      · rw [e, hb1] at hx
        cases hx
        exact fin' ff
      · exact (fb j' x (by omega) hx (r'.flt ff)).mono r'
    · rintro σ' H' ⟨o2, o3, o4, o5, t, st, rfl, S, fb⟩
      have FB : st.fault = none → ∀ t ∈ B.bounds, LeM st t.1 t.2.1 t.2.2 := fun ff t ht => by
        obtain ⟨j', hj'⟩ := List.getElem?_of_mem ht
        exact fb j' t (by rw [lws]; exact (List.getElem?_eq_some_iff.mp hj').1) hj' ff
      have S : Stp C B (A.ch p) p A 300 ⟨[], [], [], none⟩ H11 t st H' := S.le (by omega)
      walk_at "rd"
      refine fTasks T S.ca rfl ?_
      walk_at "rd"
      have lt2 : A.tv.length = B.n := by rw [eAv]; exact lt
      refine ⟨_, _, rfl, SqT.of S.ca.ht, forJ (walk_enT (xs := A.tv)) (fun j σ' H'' => ∃ (o2 o3 o4 o5 o6 o7 o8 : Option V) (t : Bool) (st' : CS), σ' = [some (.ref p), some (.ref Ab.b), o2, o3, o4, o5, o6, o7, o8, none] ∧ Stp C B (A.ch p) p A j st H' t st' H'' ∧
        ∀ i, 0 ≤ i → i < (j : Int) → GeW st' i (2 * i + 2) (B.hi i)) ⟨_, _, _, _, _, _, _, false, _, rfl, Stp.refl S.ca S.va, fun i h1 h2 => by omega⟩ ?_ ?_ ?_⟩
      · rintro j σ' H'' _ ⟨_, _, _, _, _, _, _, t, st', _, S', _⟩
        exact SqT.of S'.ca.ht
      · rintro j x σ' H'' H12 hj ⟨o2, o3, o4, o5, o6, o7, o8, t2, st', rfl, S', gw⟩ ⟨T1, y, rfl, hy, f12, hT1⟩
        have tj : B.tk (j : Int) := ⟨by omega, by omega⟩
        obtain ⟨a, h1, h2⟩ := S'.ca.task tj
        rw [show ((j : Nat) : Int).toNat = j by omega, hy] at h1
        cases h1
        have S12 := S'.new f12
        refine rGTup hT1 rfl ?_
        walk_at "rd"
        refine rGTup (f12.tup _ _ h2) rfl ?_
        walk_at "rd"
        refine ⟨_, _, _, rfl, S12.ca.ob, cf_noM.2.1, ?_⟩
        walk_at "rd"
        refine rSpI1 ?_
        walk_at "rd"
        refine rNewT (ok100 rfl) fun q13 H13 n13 f13 t13 => ?_
        walk_at "rd"
        have S13 := S12.new f13
        have ub := S13.ub
        have ub2 := S.ub
        simp only [List.length_nil] at ub2
        refine ⟨p, A, st', j, 2 * (j : Int) + 2, B.hi j, .high j, q13, rfl, S13.ca, S13.va, t13, ⟨rfl, by omega, rfl, rfl, rfl⟩, tj, ⟨by omega, by omega⟩, Int.le_refl _, by omega, ?_⟩
        intro t' st2 H14 fm' ca' v' r' ub' tr' fl' _ _ _ fin'
        have S14 := S13.trans (⟨fm', ca', v', r', ub', tr', fl'⟩ : Stp C B (A.ch p) p A 1 st' H13 t' st2 H14)
        walk_at "rd"
        refine ⟨_, _, _, _, _, _, _, _, st2, rfl, S14, fun i h3 h4 => ?_⟩
        by_cases e : i = (j : Int)
        · rw [e]
          exact fin'
        · exact (gw i h3 (by omega)).mono r'
      · rintro σ' H'' ⟨o2, o3, o4, o5, o6, o7, o8, t2, st', rfl, S', gw⟩
        rw [lt2] at S' gw
        have ub := S.ub
        have ub' := S'.ub
        simp only [List.length_nil] at ub
        have ini : InitF B st' := ⟨fun ff t ht => (FB (S'.rr.flt ff) t ht).mono S'.rr, fun i hi => gw i hi.1 hi.2⟩
        walk_at "rd"
        refine whJ (fun m σ' H3 => ∃ (st3 : CS) (ch : Bool), σ' = [some (.ref p), some (.ref Ab.b), o2, o3, o4, o5, o6, o7, o8, some (.bl ch)] ∧ Fm (A.ch p) H10 H3 ∧ CAt C B H3 p A st3 ∧ LW B m st3 ch)
          ⟨12610, st', true, rfl, f11.up.trans (S.fm.trans S'.fm), S'.ca, S'.va, ini, by omega, fun z => (nomatch z), fun _ _ => .inl ⟨rfl, by omega⟩⟩ ?_
        · rintro m σ' H3 ⟨st3, ch, rfl, f3, c3, lw⟩
          walk_at "rd"
          have done : ch = false ∨ st3.fault ≠ none → Q .non H3 := fun h => k A st3 H3 (fin f3) c3 lw.v lw.ini lw.len fun ff => lw.no (by
            rcases h with h | h
            · exact h
            · exact absurd ff h)
          cases ch with
          | false =>
            walk_at "rd"
            exact done (.inl rfl)
          | true =>
            walk_at "rd"
            refine fFault T c3 rfl ?_
            cases ef : st3.fault with
            | some n =>
              walk_at "rd"
              exact done (.inr (by rw [ef]; exact fun z => nomatch z))
            | none =>
              walk_at "rd"
              refine ⟨_, fun _ _ h => h, ?_⟩
              walk_at "rd"
              refine ⟨_, _, _, rfl, c3.ob, cf_noM.2.2.2.2.2.1, ?_⟩
              have := lw.len
              refine ⟨p, A, st3, rfl, c3, lw.v, by omega, fun t st4 H4 S4 pr => ?_⟩
              obtain ⟨m', hm, lw'⟩ := lw.step ok ef S4.va S4.rr S4.ub S4.tr S4.fl pr
              walk_at "rd"
              exact ⟨m', hm, st4, t, rfl, f3.trans S4.fm, S4.ca, lw'⟩
end
end A68
set_option maxRecDepth 100000
set_option maxHeartbeats 4000000
/-! table. -/
namespace A68
open PySem PySem.Spec PyProof.Rows L2
/-! ### a dict comprehension with two fors -/
def InJ (J1 : It) (g1 : TG) (tk tv : TE) (vs1 : List Nat) (σ2 : St) (H3 : Hp) (D : Addr) (Nx : Hp → Prop) : Prop := ∃ W1 : Nat → Nat → Hp → Prop, (∃ m, W1 0 m H3) ∧ ∀ j k H, W1 j k H →
  (J1.stop j H ∧ Nx H) ∨ (J1.go j H ∧ ∃ Nx1 : Hp → Prop, (∀ H', Nx1 H' → ∃ k', k' < k ∧ W1 (j + 1) k' H') ∧ ∀ x H', J1.yld j H x H' → g1 x (wipe σ2 vs1) H' fun σ3 H4 => wipe σ3 vs1 = wipe σ2 vs1 ∧
    tk σ3 H4 fun y H5 => tv σ3 H5 fun z H6 => ∃ (kvs : List (List Key × V)) (k : List Key) (b : Addr), y = .ref b ∧ H6 b = some (.tup (k.map kV)) ∧ H6 D = some (.dT kvs) ∧ kvs.length < sizeLine ∧ Nx1 (upd H6 D (.dT (putK kvs k z))))
def Dc2J (J : It) (g : TG) (wi1 : TI) (g1 : TG) (tk tv : TE) (vs vs1 : List Nat) (σ : St) (H1 : Hp) (Q : VK) : Prop := ∀ D, H1 D = none → ∃ W : Nat → Nat → Hp → Prop, (∃ m, W 0 m (upd H1 D (.dT []))) ∧ ∀ i m H, W i m H →
    (J.stop i H ∧ Q (.ref D) H) ∨ (J.go i H ∧ ∃ Nx : Hp → Prop, (∀ H', Nx H' → ∃ m', m' < m ∧ W (i + 1) m' H') ∧ ∀ x H', J.yld i H x H' → g x (wipe σ vs) H' fun σ2 H2 => wipe σ2 vs = wipe σ vs ∧ wi1 σ2 H2 fun J1 H3 => InJ J1 g1 tk tv vs1 σ2 H3 D Nx)
theorem rDc2 {wi wi1 : TI} {g g1 : TG} {tk tv : TE} {vs vs1 : List Nat} {σ : St} {H : Hp} {Q : VK} (q : wi σ H fun J H1 => Dc2J J g wi1 g1 tk tv vs vs1 σ H1 Q) : tDc2 wi g wi1 g1 tk tv vs vs1 σ H Q := q
section
variable {J : It} {n : Nat} {G : Hp → Prop} {Y : Nat → Hp → V → Hp → Prop} {g g1 : TG} {wi1 : TI} {tk tv : TE} {vs vs1 : List Nat} {σ : St} {H : Hp} {Q : VK}
theorem dc2J (w : Walk J n G Y) (Pv : Addr → Nat → Hp → Prop) (h0 : ∀ D, H D = none → Pv D 0 (upd H D (.dT []))) (hG : ∀ D i H, i ≤ n → Pv D i H → G H)
    (hs : ∀ D i x H H', i < n → Pv D i H → Y i H x H' → g x (wipe σ vs) H' fun σ2 H2 => wipe σ2 vs = wipe σ vs ∧ wi1 σ2 H2 fun J1 H3 => InJ J1 g1 tk tv vs1 σ2 H3 D (Pv D (i + 1))) (hd : ∀ D H, Pv D n H → Q (.ref D) H) : Dc2J J g wi1 g1 tk tv vs vs1 σ H Q := by
  refine fun D hD => ⟨fun i m H => m = n - i ∧ i ≤ n ∧ Pv D i H, ⟨n, by simp, Nat.zero_le _, h0 D hD⟩, ?_⟩
  rintro i m H ⟨rfl, hi, p⟩
  have q := hG D i H hi p
  by_cases hlt : i < n
  · exact .inr ⟨w.goes i H hlt q, Pv D (i + 1), fun H' p' => ⟨n - (i + 1), by omega, rfl, hlt, p'⟩, fun x H' y => hs D i x H H' hlt p (w.yields i H x H' hlt q y)⟩
  · have e : i = n := by omega
    subst e
    exact .inl ⟨w.stops H q, hd D H p⟩
theorem inJ {D : Addr} {Nx : Hp → Prop} (w : Walk J n G Y) (Pv : Nat → Hp → Prop) (h0 : Pv 0 H) (hG : ∀ i H, i ≤ n → Pv i H → G H)
    (hs : ∀ i x H H', i < n → Pv i H → Y i H x H' → g1 x (wipe σ vs1) H' fun σ3 H4 => wipe σ3 vs1 = wipe σ vs1 ∧
      tk σ3 H4 fun y H5 => tv σ3 H5 fun z H6 => ∃ (kvs : List (List Key × V)) (k : List Key) (b : Addr), y = .ref b ∧ H6 b = some (.tup (k.map kV)) ∧ H6 D = some (.dT kvs) ∧ kvs.length < sizeLine ∧ Pv (i + 1) (upd H6 D (.dT (putK kvs k z)))) (hd : ∀ H, Pv n H → Nx H) : InJ J g1 tk tv vs1 σ H D Nx := by
  refine ⟨fun i m H => m = n - i ∧ i ≤ n ∧ Pv i H, ⟨n, by simp, Nat.zero_le _, h0⟩, ?_⟩
  rintro i m H ⟨rfl, hi, p⟩
  have q := hG i H hi p
  by_cases hlt : i < n
  · exact .inr ⟨w.goes i H hlt q, Pv (i + 1), fun H' p' => ⟨n - (i + 1), by omega, rfl, hlt, p'⟩, fun x H' y => hs i x H H' hlt p (w.yields i H x H' hlt q y)⟩
  · have e : i = n := by omega
    subst e
    exact .inl ⟨w.stops H q, hd H p⟩
end
theorem rLock {t : TS} {D : Ends} {σ : St} {H : Hp} {d : Addr} {u : HO} (h : H d = some u) (m : Mut (some u)) (q : ∀ od, t ⟨fun σ' H' => H' d = some (.frz od u) ∧ D.nx σ' (upd H' d u), fun v H' => H' d = some (.frz od u) ∧ D.rt v (upd H' d u), fun σ' H' => H' d = some (.frz od u) ∧ D.bk σ' (upd H' d u), fun σ' H' => H' d = some (.frz od u) ∧ D.ct σ' (upd H' d u)⟩ σ (upd H d (.frz od u))) : tLock t D σ H := ⟨d, u, h, m, q⟩
theorem rLockE {t : TE} {Q : VK} {σ : St} {H : Hp} {d : Addr} {u : HO} (h : H d = some u) (m : Mut (some u)) (q : ∀ od, t σ (upd H d (.frz od u)) fun v H' => H' d = some (.frz od u) ∧ Q v (upd H' d u)) : tLockE t σ H Q := ⟨d, u, h, m, q⟩
theorem rIK {td : TE} {σ : St} {H : Hp} {R : It → Hp → Prop} (q : td σ H fun x H1 => ∃ d o, x = .ref d ∧ ((∃ kvs, H1 d = some (.frz o (.dK kvs)) ∧ R (Itk d o kvs) H1) ∨ ∃ kvs, H1 d = some (.frz o (.dT kvs)) ∧ R (Itkt d o kvs) H1)) : iKeys td σ H R := q
theorem valV_none {κ : Type} [DecidableEq κ] {kvs : List (κ × V)} {k : κ} (h : ∀ kv ∈ kvs, kv.1 ≠ k) : valV kvs k = none := by
  cases e : valV kvs k with
  | none => rfl
  | some v => exact absurd rfl (h _ (valV_mem e))
/-- what happens while a dict is locked, seen from without -/
theorem Fm.lock {S : List Addr} {H H' : Hp} {d : Addr} {od : Obj} {u : HO} (h : H d = some u) (nt : ∀ xs, u ≠ .tup xs) (f : Fm S (upd H d (.frz od u)) H') : Fm S H (upd H' d u) where
  tup b xs e := by
    have n : b ≠ d := ne_of e h (fun z => nt xs z.symm)
    rw [upd_ne n]
    exact f.tup b xs (by rw [upd_ne n]; exact e)
  oth b o nb e := by
    by_cases n : b = d
    · rw [n, upd_same, ← h, ← n, e]
    · rw [upd_ne n]
      exact f.oth b o nb (by rw [upd_ne n]; exact e)
  fre b e := by
    by_cases n : b = d
    · rw [n, upd_same] at e; cases e
    · rw [upd_ne n] at e
      have := f.fre b e
      rwa [upd_ne n] at this
local macro_rules | `(tactic| walk_at "rd1") => `(tactic| first
  | ((with_reducible refine' rVar ?hx ?_); (case hx => rfl))
  | (with_reducible refine rC ?_)
  | (with_reducible refine rOp ?_)
  | (with_reducible refine rUn ?_)
  | (with_reducible refine rI0i ?_)
  | (with_reducible refine rUi ?_)
  | ((with_reducible refine rMulL ?a ?b ?_); (case a => decide); (case b => decide))
  | ((with_reducible refine rMulR ?a ?b ?_); (case a => decide); (case b => decide))
  | ((with_reducible refine rModP ?a ?_); (case a => decide))
  | ((with_reducible refine rDivP ?a ?b ?_); (case a => decide); (case b => decide))
  | ((with_reducible refine rPowL ?a ?b ?c ?_); (case a => decide); (case b => decide); (case c => decide))
  | (with_reducible refine rEqI ?_)
  | (with_reducible refine rNeI ?_)
  | (with_reducible refine rIsNi ?_)
  | (with_reducible refine rIsNn ?_)
  | (with_reducible refine rIsNr ?_)
  | (with_reducible refine rNotNi ?_)
  | (with_reducible refine rNotNn ?_)
  | (with_reducible refine rNotNr ?_)
  | (with_reducible refine rTest ?_)
  | (with_reducible refine rTB ?_)
  | (with_reducible refine rBlV ?_)
  | (with_reducible refine rAnd ?_)
  | (with_reducible refine rOr ?_)
  | (with_reducible refine rNot ?_)
  | (with_reducible refine rAndV ?_)
  | (with_reducible refine rOrV ?_)
  | (with_reducible refine rNotV ?_)
  | (with_reducible refine rIf ?_)
  | (with_reducible refine rNil ?_)
  | (with_reducible refine rCons ?_)
  | (with_reducible refine rTup ?_)
  | (with_reducible refine rLst ?_)
  | (with_reducible refine rCB ?_)
  | (with_reducible refine rCall ?_)
  | (with_reducible refine rBM ?_)
  | (with_reducible refine rMin2i ?_)
  | (with_reducible refine rMax2i ?_)
  | (with_reducible refine rInt1i ?_)
  | (with_reducible refine rPartN ?_)
  | (with_reducible refine rPart ?_)
  | (with_reducible refine rInt ?_)
  | (with_reducible refine rSlS ?_)
  | (with_reducible refine rSFld ?_)
  | (with_reducible refine rSDPut ?_)
  | (with_reducible refine rDGet ?_)
  | (with_reducible refine rDIn ?_)
  | (with_reducible refine rDNotIn ?_)
  | (with_reducible refine rSeq ?_)
  | (with_reducible refine rAsg ?_)
  | (with_reducible refine rName ?_)
  | (with_reducible refine rDrop ?_)
  | (with_reducible refine rRet ?_)
  | (with_reducible refine rIfS ?_)
  | (with_reducible refine rNext ?_)
  | (with_reducible refine rPar ?_)
  | (with_reducible refine rPar2 ?_)
  | (with_reducible refine rMeth ?_)
  | (with_reducible refine rGCons ?_)
  | (with_reducible refine rGNil ?_)
  | (with_reducible refine rForS ?_)
  | (with_reducible refine rLcS ?_)
  | (with_reducible refine rIL ?_)
  | (with_reducible refine rIT ?_)
  | (with_reducible refine rIE ?_)
  | (with_reducible refine rYes ?_)
  | (with_reducible refine rIR1 ?_)
  | (with_reducible refine rIR2 ?_)
  | (with_reducible refine rIET ?_)
  | (with_reducible refine ifSn ?_)
  | (with_reducible refine ifNn ?_)
  | (with_reducible refine ifSs ?_)
  | (with_reducible refine ifNs ?_)
  | (with_reducible refine rNotNfs ?_)
  | (with_reducible refine rNotNfn ?_)
  | (with_reducible refine rIsNfs ?_)
  | (with_reducible refine rIsNfn ?_)
  | (with_reducible refine ifT ?_)
  | (with_reducible refine ifF ?_)
  | (with_reducible refine ifNT ?_)
  | (with_reducible refine ifNF ?_))
local macro_rules | `(tactic| walk_at "rd") => `(tactic| (repeat walk_at "rd1"))
def gridM (B : Br) (st : CS) (j : Nat) : List (List Key × V) := (List.range j).flatMap fun a => (List.range (2 * B.n + 1)).map fun b => (kk (a : Nat) (b : Nat), .int (Mf st a b))
theorem gridM_succ (B : Br) (st : CS) (j : Nat) : gridM B st (j + 1) = gridM B st j ++ (List.range (2 * B.n + 1)).map fun b => (kk (j : Nat) (b : Nat), .int (Mf st j b)) := by
  unfold gridM
  generalize 2 * B.n + 1 = m
  rw [List.range_succ, List.flatMap_append]
  simp
theorem gridM_len (B : Br) (st : CS) (j : Nat) : (gridM B st j).length = j * (2 * B.n + 1) := by
  induction j with
  | zero => rw [Nat.zero_mul]; rfl
  | succ j ih =>
    rw [gridM_succ, List.length_append, ih, List.length_map, List.length_range]
    generalize 2 * B.n + 1 = m
    rw [Nat.succ_mul]
def keepW (st : CS) (kv : List Key × V) : Option (List Key × V) := match kv.1 with
  | [.inl i, .inl e] => if e = 2 * i + 2 then none else some (kk i e, .int (Wf st i e))
  | _ => none
def gridW (st : CS) (l : List (List Key × V)) : List (List Key × V) := l.filterMap (keepW st)
def spTable (C : Addr) (B : Br) : Sp := fun vs H Q _ => ∃ (p : Addr) (A : CA) (st : CS), vs = [.ref p] ∧ CAt C B H p A st ∧ Val B st ∧ EndT B st ∧ st.fault = none ∧ st.lines.length ≤ 30000 ∧
  ∀ (q m w : Addr) (H' : Hp), Fm [] H H' → H' q = some (.tup [.ref m, .ref w]) → H' m = some (.dT (gridM B st (2 * B.n + 1))) → H' w = some (.dT (gridW st st.waits)) → m ≠ w → Q (.ref q) H'
section
variable {P : Program} {w : World} {K : PySem.W.Frag} {mg : Str → Option Value} {base : Heap} {f : Addr} {fd : FuncData} {C : Addr} {B : Br}
abbrev N_c_table : List Str := ["self", "mosts", "waits", "task", "event", "a", "b"]
theorem sc_c_table : FnScope N_c_table ["self"] (defScope s_c_table) := ⟨rfl, rfl, rfl, by decide +kernel, rfl, by decide +kernel, by decide +kernel⟩
-- slots: 0 self, 1 mosts, 2 waits, 3 task, 4 event, 5 a, 6 b
theorem ok_table (ok : B.Ok) (F : FD K "table" "Closing.table" s_c_table f fd) (T : Tx K mg C) (Z : Fr0 mg) (k_end_of : Cal P w K mg base "end_of" ["task"] 1 (spI1 fun n => .int (2 * n + 2))) :
    FnOk P w K mg base CX0 2 f fd ["self"] (spTable C B) := by
  refine F.ok sc_c_table (fun vs H Q E h => ?_) (fun cdv A0 outer s H vs Q E hr h => ?_)
  · obtain ⟨_, _, _, rfl, _⟩ := h
    rfl
  · obtain ⟨p, A, st, rfl, ca, v, en, ef, ll, k⟩ := h
    have hu := hu_of hr
    have nd := sc_c_table.nd
    refine ⟨_, PSs.nox (pss_cons (ps_setDc2 (i := 1) (own := [("a", 5), ("b", 6)]) (vs1 := [6]) (g := (gName 5)) (g1 := (gName 6)) (wi1 := (iList K (tFld K _ "every"))) (tv := (tIf _ _ (tOp (rIxT K) (tOp (rIxL K) (tFld K _ "lines") (tDGet (tFld K _ "mosts") _)) _))) rfl rfl (sw_trueD rfl rfl rfl (by decide +kernel)) (by rfl) nd hu (pi_list (pe_fld (pv 0) rfl)) (blkOk_by (own := [("a", 5), ("b", 6)]) (N := N_c_table) (sc := defScope s_c_table) (by decide +kernel)) (by decide) (fun _ _ _ _ _ => (pg_name (i := 5) nd rfl (by first | exact Or.inl rfl | exact Or.inr rfl))) (fun _ _ _ _ _ => (pi_list (pe_fld (pv 0) rfl))) (fun _ _ _ _ _ => (pg_name (i := 6) nd rfl (by first | exact Or.inl rfl | exact Or.inr rfl))) (fun _ _ _ _ _ => (pe_tup (pa_cons (pv 5) (pa_cons (pv 6) pa_nil)))) (fun _ _ _ _ _ => (pe_ifExp (pt_cmpR op_eq (pv 5) (pv 6) (nomark _)) pe_int (pe_ix ix_tup (pe_ix ix_list (pe_fld (pv 0) rfl) (pe_dget hu (pe_fld (pv 0) rfl) (pe_tup (pa_cons (pv 5) (pa_cons (pv 6) pa_nil))) (fun _ _ => rfl)) (fun _ _ => rfl)) pe_int (fun _ _ => rfl)))))
      (pss_cons (ps_set (i := 2) nd rfl (by first | exact Or.inl rfl | exact Or.inr rfl) pe_dnewT)
      (pss_cons (ps_lock (ps_for PassesOwn.never rfl (pi_keys (pe_fld (pv 0) rfl)) (pg_tup rfl (pgs_cons (pg_name (i := 3) nd rfl (by first | exact Or.inl rfl | exact Or.inr rfl)) (pgs_cons (pg_name (i := 4) nd rfl (by first | exact Or.inl rfl | exact Or.inr rfl)) pgs_nil)))
        (pss_one (ps_if (pt_cmpR op_ne (pv 4) (pe_cal k_end_of (hr.mono (by decide)) (by rfl) (pa_cons (pv 3) pa_nil)) (nomark _)) (pss_one (ps_dput hu (pv 2) (pe_tup (pa_cons (pv 3) (pa_cons (pv 4) pa_nil))) (pe_ix ix_tup (pe_ix ix_list (pe_fld (pv 0) rfl) (pe_dget hu (pe_fld (pv 0) rfl) (pe_tup (pa_cons (pv 3) (pa_cons (pv 4) pa_nil))) (fun _ _ => rfl)) (fun _ _ => rfl)) pe_int (fun _ _ => rfl)) rfl)) pss_nil))))
      (pss_one (ps_ret (pe_tup (pa_cons (pv 1) (pa_cons (pv 2) pa_nil)))))))), ?_⟩
    have n4 := ok.n4
    walk_at "rd"
    refine rDc2 ?_
    walk_at "rd"
    refine fEvery T ca rfl ?_
    have gk : ∀ (j : Nat) (kv : List Key × V), kv ∈ gridM B st j → ∃ a b : Nat, kv.1 = kk a b ∧ a < j ∧ b < 2 * B.n + 1 := fun j kv h => by
      unfold gridM at h
      obtain ⟨a, h1, h2⟩ := List.mem_flatMap.mp h
      obtain ⟨b, h3, rfl⟩ := List.mem_map.mp h2
      exact ⟨a, b, rfl, List.mem_range.mp h1, List.mem_range.mp h3⟩
    have gl := gridM_len B st
    refine ⟨_, rfl, ⟨_, SqL.of ca.ev⟩, dc2J (walk_list (xs := evV B)) (fun D i H' => H D = none ∧ Fm [D] H H' ∧ H' D = some (.dT (gridM B st i))) (fun D h => ⟨h, Fm.new h, upd_same⟩) ?_ ?_ ?_⟩
    · rintro D i H' _ ⟨h, fm, _⟩
      exact SqL.of ((Fm.drop (L := [D]) fm fun b z => by rw [List.mem_singleton.mp z]; exact h : Fm [] H H').oth _ _ (fun z => nomatch z) ca.ev)
    · rintro D i x H1 H1' hi ⟨hD, fm, hd⟩ ⟨rfl, hx⟩
      obtain ⟨rfl, ei, li⟩ := evV_get hx
      have dr : ∀ {H'}, Fm [D] H H' → Fm [] H H' := fun {H'} f => Fm.drop (L := [D]) f fun b z => by rw [List.mem_singleton.mp z]; exact hD
      walk_at "rd"
      refine ⟨rfl, ?_⟩
      walk_at "rd"
      have c1 := ca.f0 (dr fm)
      refine fEvery T c1 rfl ?_
      refine ⟨_, rfl, ⟨_, SqL.of c1.ev⟩, inJ (walk_list (xs := evV B)) (fun j H' => Fm [D] H H' ∧ H' D = some (.dT (gridM B st i ++ (List.range j).map fun b => (kk (i : Nat) (b : Nat), .int (Mf st i b))))) ⟨fm, by rw [hd, List.range_zero, List.map_nil, List.append_nil]⟩ ?_ ?_ ?_⟩
      · rintro j H' _ ⟨fm', _⟩
        exact SqL.of (ca.f0 (dr fm')).ev
      · rintro j y H2 H2' hj ⟨fm2, hd2⟩ ⟨rfl, hy⟩
        obtain ⟨rfl, ej, lj⟩ := evV_get hy
        have c2 := ca.f0 (dr fm2)
        walk_at "rd"
        refine ⟨rfl, ?_⟩
        walk_at "rd"
        refine rNewT (ok100 rfl) fun q3 H3 n3 f3 t3 => ?_
        have c3 := c2.f0 f3
        have hd3 := f3.oth _ _ (fun z => nomatch z) hd2
        -- the entry comes in
        have put : ∀ H4, Fm [] H3 H4 → ∃ (kvs : List (List Key × V)) (k : List Key) (b : Addr), V.ref q3 = .ref b ∧ H4 b = some (.tup (k.map kV)) ∧ H4 D = some (.dT kvs) ∧ kvs.length < sizeLine ∧
            (Fm [D] H (upd H4 D (.dT (putK kvs k (.int (Mf st i j))))) ∧ (upd H4 D (.dT (putK kvs k (.int (Mf st i j))))) D = some (.dT (gridM B st i ++ (List.range (j + 1)).map fun b => (kk (i : Nat) (b : Nat), .int (Mf st i b))))) := fun H4 f4 => by
          have hd4 := f4.oth _ _ (fun z => nomatch z) hd3
          refine ⟨_, kk (i : Nat) (j : Nat), q3, rfl, f4.tup _ _ t3, hd4, line9l ?_, ((fm2.trans f3.up).trans f4.up).trans (Fm.wr (by simp) hd4 (fun _ z => nomatch z)), ?_⟩
          · rw [List.length_append, gl, List.length_map, List.length_range]
            have : i * (2 * B.n + 1) ≤ 9 * 9 := Nat.mul_le_mul (by omega) (by omega)
            omega
          · rw [upd_same, putK_new, List.range_succ, List.map_append, List.append_assoc]
            · rfl
            · refine valV_none fun kv h => ?_
              rcases List.mem_append.mp h with h | h
              · obtain ⟨a, b, e, h1, h2⟩ := gk i kv h
                rw [e]
                intro z
                have := kk_inj.mp z
                omega
              · obtain ⟨b, h1, rfl⟩ := List.mem_map.mp h
                have := List.mem_range.mp h1
                intro z
                have := kk_inj.mp z
                omega
        walk_at "rd"
        by_cases e : (i : Int) = (j : Int)
        · refine ifDt e ?_
          walk_at "rd"
          have := put H3 Fm.refl
          rw [show Mf st i j = 0 by unfold Mf; rw [if_pos e]] at this
          exact this
        · refine ifDf e ?_
          walk_at "rd"
          refine fLines T c3 rfl ?_
          walk_at "rd"
          refine fMosts T c3 rfl ?_
          walk_at "rd"
          refine rNewT (ok100 rfl) fun q4 H4 n4' f4 t4 => ?_
          have c4 := c3.f0 f4
          obtain ⟨u, hu1⟩ := en.al.1 i j ei ej e
          obtain ⟨n, x, e1, g1, m1, a1, b1, w1⟩ := CS.M_line v hu1
          refine ⟨_, _, rfl, by rw [← e1]; exact DGet.t (k := kk (i : Nat) (j : Nat)) c4.mo t4, ?_⟩
          refine rLineW c4 g1 ?_
          rw [show x.w = Mf st i j by unfold Mf; rw [if_neg e, hu1, w1]; rfl]
          exact put H4 f4
      · rintro H' ⟨fm', hd'⟩
        refine ⟨hD, fm', ?_⟩
        rw [hd', evV_len, gridM_succ]
    · rintro D H1 ⟨hD, fm, hd⟩
      have F1 : Fm [] H H1 := Fm.drop (L := [D]) fm fun b z => by rw [List.mem_singleton.mp z]; exact hD
      rw [evV_len] at hd
      walk_at "rd"
      refine rDNew fun wd H2 n2 f2 t2 => ?_
      walk_at "rd"
      have F2 := F1.trans f2
      have c2 := ca.f0 F2
      have hd2 := f2.oth _ _ (fun z => nomatch z) hd
      have hwd : H wd = none := F1.fre _ n2
      have nwD : wd ≠ D := fun z => by rw [z, hd] at n2; cases n2
      have nwp : p ≠ A.w := ne_of c2.ob c2.wa (fun z => nomatch z)
      have nww : wd ≠ A.w := fun z => by have := ca.wa; rw [← z, hwd] at this; cases this
      refine rLock c2.wa trivial fun od => ?_
      generalize eHl : upd H2 A.w (.frz od (.dT st.waits)) = Hl
      have wl : Hl A.w = some (.frz od (.dT st.waits)) := by rw [← eHl, upd_same]
      have ne0 : ∀ {b}, b ≠ A.w → Hl b = H2 b := fun {b} n => by rw [← eHl, upd_ne n]
      have pl : Hl p = some (.ins C A.dx (cf A (fV st.fault))) := by rw [ne0 nwp]; exact c2.ob
      obtain ⟨vs, l2, la2⟩ := c2.ln
      have ll2 : Hl A.l = some (.lst vs) := by rw [ne0 (ne_of l2 c2.wa (fun z => nomatch z))]; exact l2
      have tl : ∀ b xs, H2 b = some (.tup xs) → Hl b = some (.tup xs) := fun b xs h => by rw [ne0 (ne_of h c2.wa (fun z => nomatch z))]; exact h
      have wdl : Hl wd = some (.dT []) := by rw [ne0 nww]; exact t2
      walk_at "rd"
      refine rIK (fAny T pl T.n5 cf_waits rfl ?_)
      have lw := v.lenW ok
      refine ⟨A.w, od, rfl, .inr ⟨st.waits, wl, forJ walk_keysT (fun i σ' H' => ∃ o3 o4 : Option V, σ' = [some (.ref p), some (.ref D), some (.ref wd), o3, o4, none, none] ∧ Fm [wd] Hl H' ∧ H' wd = some (.dT (gridW st (st.waits.take i)))) ⟨none, none, rfl, Fm.refl, wdl⟩ ?_ ?_ ?_⟩⟩
      · rintro i σ' H' _ ⟨o3, o4, _, fm', _⟩
        exact fm'.oth _ _ (by simp; exact nww.symm) wl
      · rintro i x σ' H' H'' hi ⟨o3, o4, rfl, fm3, h3⟩ ⟨rfl, kl, kv, q, hk, rfl, hq⟩
        obtain ⟨a, b, u, ek, ta, eb, hw⟩ := v.keyW (kl, kv) (List.mem_of_getElem? hk)
        obtain rfl : kl = kk a b := ek
        obtain ⟨n, x, e1, g1, m1, a1, b1, w1⟩ := CS.W_line v hw
        have tk : st.waits.take (i + 1) = st.waits.take i ++ [(kk a b, kv)] := by
          rw [List.take_add_one, hk]; rfl
        have gs : gridW st (st.waits.take (i + 1)) = gridW st (st.waits.take i) ++ (if b = 2 * a + 2 then [] else [(kk a b, .int (Wf st a b))]) := by
          rw [tk]
          unfold gridW
          rw [List.filterMap_append]
          congr 1
          by_cases z : b = 2 * a + 2
          · rw [if_pos z]
            simp [keepW, kk, z]
          · rw [if_neg z]
            simp [keepW, kk, z]
        refine rGTup (xs := [.int a, .int b]) hq rfl ?_
        walk_at "rd"
        refine rSpI1 ?_
        walk_at "rd"
        by_cases z : b = 2 * a + 2
        · refine ifNt z ?_
          walk_at "rd"
          refine ⟨_, _, rfl, fm3, ?_⟩
          rw [h3, gs, if_pos z, List.append_nil]
        · refine ifNf z ?_
          walk_at "rd"
          have p3 := fm3.oth _ _ (by simp; exact ne_of pl wdl (fun z => nomatch z)) pl
          have l3 := fm3.oth _ _ (by simp; exact ne_of ll2 wdl (fun z => nomatch z)) ll2
          refine fAny T p3 T.n3 cf_lines rfl ?_
          walk_at "rd"
          refine fAny T p3 T.n5 cf_waits rfl ?_
          walk_at "rd"
          refine rNewT (ok100 rfl) fun q4 H4 n4' f4 t4 => ?_
          have w4 := f4.oth _ _ (fun z => nomatch z) (fm3.oth _ _ (by simp; exact nww.symm) wl)
          refine ⟨_, _, rfl, .inr ⟨st.waits, kk a b, q4, .inr ⟨_, w4⟩, rfl, t4, e1.symm⟩, ?_⟩
          obtain ⟨vv, ev, a', b', rfl, h5, h6⟩ := la2.get g1
          refine rIxLn (SqL.of (f4.oth _ _ (fun z => nomatch z) l3)) ev ?_
          walk_at "rd"
          refine rIxTl (f4.tup _ _ (fm3.tup _ _ (tl _ _ h5))) rfl ?_
          walk_at "rd"
          refine rNewT (ok100 rfl) fun q6 H6 n6 f6 t6 => ?_
          have wd6 := f6.oth _ _ (fun z => nomatch z) (f4.oth _ _ (fun z => nomatch z) h3)
          refine ⟨_, _, rfl, DPut.t (k := kk a b) wd6 t6 (line9l (Nat.le_trans (List.length_filterMap_le _ _) (by rw [List.length_take]; omega))), ?_⟩
          walk_at "rd"
          refine ⟨_, _, rfl, ((fm3.trans f4.up).trans f6.up).trans (Fm.wr (by simp) wd6 (fun _ z => nomatch z)), ?_⟩
          rw [upd_same, gs, if_neg z, putK_new, show Wf st a b = x.w by unfold Wf; rw [hw, w1]; rfl]
          refine valV_none fun kv' h ez => ?_
          unfold gridW at h
          obtain ⟨⟨k0, v0⟩, h1, h2⟩ := List.mem_filterMap.mp h
          have h3' : k0 = kk a b := by
            obtain ⟨a0, b0, u0, ek0, _⟩ := v.keyW (k0, v0) (List.mem_of_mem_take h1)
            obtain rfl : k0 = kk a0 b0 := ek0
            by_cases z0 : b0 = 2 * a0 + 2
            · simp [keepW, kk, z0] at h2
            · have : some (kk a0 b0, V.int (Wf st a0 b0)) = some kv' := by rw [← h2]; simp [keepW, kk, z0]
              cases this
              exact ez
          obtain ⟨j0, hj0, e0⟩ := List.getElem_of_mem h1
          rw [List.getElem_take] at e0
          rw [List.length_take] at hj0
          have hi' : i < st.waits.length := hi
          have pw : st.waits.Pairwise fun x y => x.1 ≠ y.1 := List.pairwise_map.mp v.wn
          have e1' : st.waits[i] = (kk a b, kv) := by
            have := List.getElem?_eq_getElem hi'
            rw [hk] at this
            exact (Option.some.inj this).symm
          have := List.pairwise_iff_getElem.mp pw j0 i (by omega) hi' (by omega)
          rw [e0, e1'] at this
          exact this h3'
      · rintro σ' H3 ⟨o3, o4, rfl, fm3, h3⟩
        rw [List.take_length] at h3
        refine ⟨fm3.oth _ _ (by simp; exact nww.symm) wl, ?_⟩
        rw [← eHl] at fm3
        have f4 := Fm.lock c2.wa (fun _ z => nomatch z) fm3
        have h4 : (upd H3 A.w (.dT st.waits)) wd = some (.dT (gridW st st.waits)) := by rw [upd_ne nww]; exact h3
        generalize upd H3 A.w (.dT st.waits) = H4 at f4 h4
        walk_at "rd"
        refine rNewT (ok100 rfl) fun q5 H5 n5 f5 t5 => ?_
        have F5 : Fm [] H H5 := Fm.drop (L := [wd]) ((F2.up.trans f4).trans f5.up) fun b z => by rw [List.mem_singleton.mp z]; exact hwd
        exact k q5 D wd H5 F5 t5 (f5.oth _ _ (fun z => nomatch z) (f4.oth _ _ (by simp; exact nwD.symm) hd2)) (f5.oth _ _ (fun z => nomatch z) h4) nwD.symm
end
end A68
set_option maxRecDepth 100000
set_option maxHeartbeats 4000000
/-! lines_in, renumbered. -/
namespace A68
open PySem PySem.Spec PyProof.Rows L2
theorem rSlA1 {K : PySem.W.Frag} {H : Hp} {Q : VK} {a : Addr} {xs : List V} {lo hi : Option Int} (h : H a = some (.tup xs)) (n : ¬ (HT.sIx xs.length 0 lo = 0 ∧ HT.sIx xs.length xs.length hi = xs.length)) (q : NewT (cutV xs lo hi) H Q) : rSlA K (.ref a) lo hi H Q :=
  ⟨a, xs, rfl, SqT.of h, fun z => absurd z n, fun _ => q⟩
theorem rCatA1 {K : PySem.W.Frag} {H : Hp} {Q : VK} {a b : Addr} {xs ys : List V} (h1 : H a = some (.tup xs)) (h2 : H b = some (.tup ys)) (l : xs.length + ys.length ≤ 100) (n1 : xs ≠ []) (n2 : ys ≠ []) (q : NewT (xs ++ ys) H Q) : rCatA K (.ref a) (.ref b) H Q :=
  ⟨a, b, xs, ys, rfl, rfl, SqT.of h1, SqT.of h2, line9 (by omega), fun z => absurd z n1, fun _ z => absurd z n2, fun _ _ => q⟩
theorem rInTS {K : PySem.W.Frag} {H : Hp} {Q : VK} {a : Addr} {s : Str} {xs : List V} {r : Bool} (h : H a = some (.tup xs)) (f : xs.all flatV = true) (e : inV (.str s) xs = r) (q : Q (.bl r) H) : rIn K false (.str s) (.ref a) H Q :=
  ⟨a, xs, rfl, .inr (SqT.of h), rfl, f, by rw [if_neg Bool.false_ne_true, e]; exact q⟩
theorem sIx1 {n : Nat} (h : n = 2 ∨ n = 3) : HT.sIx n 0 (some 1) ≠ 0 := by
  rcases h with rfl | rfl <;> decide
theorem sIx5 : ¬ (HT.sIx 5 0 none = 0 ∧ HT.sIx 5 5 (some 4) = 5) := by decide
local macro_rules | `(tactic| walk_at "rd1") => `(tactic| first
  | ((with_reducible refine' rVar ?hx ?_); (case hx => rfl))
  | (with_reducible refine rC ?_)
  | (with_reducible refine rOp ?_)
  | (with_reducible refine rUn ?_)
  | (with_reducible refine rI0i ?_)
  | (with_reducible refine rUi ?_)
  | ((with_reducible refine rMulL ?a ?b ?_); (case a => decide); (case b => decide))
  | ((with_reducible refine rMulR ?a ?b ?_); (case a => decide); (case b => decide))
  | ((with_reducible refine rModP ?a ?_); (case a => decide))
  | ((with_reducible refine rDivP ?a ?b ?_); (case a => decide); (case b => decide))
  | ((with_reducible refine rPowL ?a ?b ?c ?_); (case a => decide); (case b => decide); (case c => decide))
  | (with_reducible refine rEqI ?_)
  | (with_reducible refine rNeI ?_)
  | (with_reducible refine rIsNi ?_)
  | (with_reducible refine rIsNn ?_)
  | (with_reducible refine rIsNr ?_)
  | (with_reducible refine rNotNi ?_)
  | (with_reducible refine rNotNn ?_)
  | (with_reducible refine rNotNr ?_)
  | (with_reducible refine rTest ?_)
  | (with_reducible refine rTB ?_)
  | (with_reducible refine rBlV ?_)
  | (with_reducible refine rAnd ?_)
  | (with_reducible refine rOr ?_)
  | (with_reducible refine rNot ?_)
  | (with_reducible refine rAndV ?_)
  | (with_reducible refine rOrV ?_)
  | (with_reducible refine rNotV ?_)
  | (with_reducible refine rIf ?_)
  | (with_reducible refine rNil ?_)
  | (with_reducible refine rCons ?_)
  | (with_reducible refine rTup ?_)
  | (with_reducible refine rLst ?_)
  | (with_reducible refine rCB ?_)
  | (with_reducible refine rCall ?_)
  | (with_reducible refine rBM ?_)
  | (with_reducible refine rMin2i ?_)
  | (with_reducible refine rMax2i ?_)
  | (with_reducible refine rInt1i ?_)
  | (with_reducible refine rPartN ?_)
  | (with_reducible refine rPart ?_)
  | (with_reducible refine rInt ?_)
  | (with_reducible refine rSlS ?_)
  | (with_reducible refine rSFld ?_)
  | (with_reducible refine rSDPut ?_)
  | (with_reducible refine rDGet ?_)
  | (with_reducible refine rDIn ?_)
  | (with_reducible refine rDNotIn ?_)
  | (with_reducible refine rSeq ?_)
  | (with_reducible refine rAsg ?_)
  | (with_reducible refine rName ?_)
  | (with_reducible refine rDrop ?_)
  | (with_reducible refine rRet ?_)
  | (with_reducible refine rIfS ?_)
  | (with_reducible refine rNext ?_)
  | (with_reducible refine rPar ?_)
  | (with_reducible refine rPar2 ?_)
  | (with_reducible refine rMeth ?_)
  | (with_reducible refine rGCons ?_)
  | (with_reducible refine rGNil ?_)
  | (with_reducible refine rForS ?_)
  | (with_reducible refine rLcS ?_)
  | (with_reducible refine rIL ?_)
  | (with_reducible refine rIT ?_)
  | (with_reducible refine rIE ?_)
  | (with_reducible refine rYes ?_)
  | (with_reducible refine rIR1 ?_)
  | (with_reducible refine rIR2 ?_)
  | (with_reducible refine rIET ?_)
  | (with_reducible refine ifSn ?_)
  | (with_reducible refine ifNn ?_)
  | (with_reducible refine ifSs ?_)
  | (with_reducible refine ifNs ?_)
  | (with_reducible refine rNotNfs ?_)
  | (with_reducible refine rNotNfn ?_)
  | (with_reducible refine rIsNfs ?_)
  | (with_reducible refine rIsNfn ?_)
  | (with_reducible refine ifT ?_)
  | (with_reducible refine ifF ?_)
  | (with_reducible refine ifNT ?_)
  | (with_reducible refine ifNF ?_))
local macro_rules | `(tactic| walk_at "rd") => `(tactic| (repeat walk_at "rd1"))
def Rs.nums : Rs → List Nat
  | .bound _ => []
  | .high _ => []
  | .sum k l => [k, l]
  | .delay k l => [k, l]
  | .early k => [k]
  | .ahead k => [k]
  | .floor k => [k]
def Rs.map (g : Nat → Nat) : Rs → Rs
  | .bound k => .bound k
  | .high k => .high k
  | .sum k l => .sum (g k) (g l)
  | .delay k l => .delay (g k) (g l)
  | .early k => .early (g k)
  | .ahead k => .ahead (g k)
  | .floor k => .floor (g k)
def intN (l : List Nat) : List V := l.map fun (k : Nat) => V.int (k : Nat)
def spLinesIn : Sp := fun vs H Q _ => ∃ (v : V) (x : Line), vs = [v] ∧ LineAt H v x ∧ ∀ (q : Addr) (H' : Hp), Fm [] H H' → H' q = some (.tup (intN x.r.nums)) → Q (.ref q) H'
section
variable {P : Program} {w : World} {K : PySem.W.Frag} {mg : Str → Option Value} {base : Heap} {f : Addr} {fd : FuncData}
abbrev N_p_lines_in : List Str := ["line"]
theorem sc_p_lines_in : FnScope N_p_lines_in ["line"] (defScope s_p_lines_in) := ⟨rfl, rfl, rfl, by decide +kernel, rfl, by decide +kernel, by decide +kernel⟩
-- slots: 0 line
theorem ok_lines_in (F : FD K "lines_in" "lines_in" s_p_lines_in f fd) : FnOk P w K mg base CX0 1 f fd ["line"] spLinesIn := by
  refine F.ok sc_p_lines_in (fun vs H Q E h => ?_) (fun cdv A0 outer s H vs Q E hr h => ?_)
  · obtain ⟨_, _, rfl, _⟩ := h
    rfl
  · obtain ⟨v, ⟨mo, a, b, wt, r⟩, rfl, ⟨p, q, rfl, h1, h2⟩, k⟩ := h
    have hu := hu_of hr
    have nd := sc_p_lines_in.nd
    refine ⟨_, PSs.nox (pss_one (ps_ret (pe_ifExp (pt_cmpR op_in_seq (pe_ix ix_tup (pe_ix ix_tup (pv 0) pe_int (fun _ _ => rfl)) pe_int (fun _ _ => rfl)) (pe_tup (pa_cons pe_str (pa_cons pe_str pa_nil))) (by rfl)) (pe_tup pa_nil) (pe_slice sl_tupA (pe_ix ix_tup (pv 0) pe_int (fun _ _ => rfl)) (po_some pe_int) po_none)))), ?_⟩
    walk_at "rd"
    refine rIxTl h1 rfl ?_
    walk_at "rd"
    cases r
    case bound n =>
      refine rIxTl h2 rfl ?_
      walk_at "rd"
      refine rNewT (ok100 rfl) fun q1 H1 n1 f1 t1 => ?_
      refine rInTS (r := true) t1 rfl (by decide +kernel) ?_
      walk_at "rd"
      exact rNewT (ok100 rfl) fun q2 H2 n2 f2 t2 => k q2 H2 (f1.trans f2) t2
    case high n =>
      refine rIxTl h2 rfl ?_
      walk_at "rd"
      refine rNewT (ok100 rfl) fun q1 H1 n1 f1 t1 => ?_
      refine rInTS (r := true) t1 rfl (by decide +kernel) ?_
      walk_at "rd"
      exact rNewT (ok100 rfl) fun q2 H2 n2 f2 t2 => k q2 H2 (f1.trans f2) t2
    all_goals
      refine rIxTl h2 rfl ?_
      walk_at "rd"
      refine rNewT (ok100 rfl) fun q1 H1 n1 f1 t1 => ?_
      refine rInTS (r := false) t1 rfl (by decide +kernel) ?_
      walk_at "rd"
      refine rIxTl (f1.tup _ _ h1) rfl ?_
      walk_at "rd"
      exact rSlA1 (f1.tup _ _ h2) (fun z => absurd z.1 (sIx1 (by first | exact .inl rfl | exact .inr rfl))) (rNewT0 fun q2 H2 n2 f2 t2 => k q2 H2 (f1.trans f2) t2)
def spRenum : Sp := fun vs H Q _ => ∃ (v : V) (x : Line) (pd : Addr) (pk : List (Key × V)) (g : Nat → Nat), vs = [v, .ref pd] ∧ LineAt H v x ∧ H pd = some (.dK pk) ∧ (∀ n ∈ x.r.nums, valV pk (.inl (n : Nat)) = some (.int (g n : Nat))) ∧
  ∀ (v' : V) (H' : Hp), Fm [] H H' → LineAt H' v' ⟨x.most, x.a, x.b, x.w, x.r.map g⟩ → Q v' H'
theorem dp_ints {K : PySem.W.Frag} {H : Hp} : ∀ l : List Nat, DpAll K H (intN l) (l.map fun k => .int (k : Nat))
  | [] => .nil
  | _ :: l => .cons (.int _) (dp_ints l)
def Rs.word : Rs → Str
  | .bound _ => "bound"
  | .high _ => "high"
  | .sum _ _ => "sum"
  | .delay _ _ => "delay"
  | .early _ => "early"
  | .ahead _ => "ahead"
  | .floor _ => "floor"
theorem Rs.vs_nums {r : Rs} (h : r.nums ≠ []) (g : Nat → Nat) : r.vs = .str r.word :: intN r.nums ∧ (r.map g).vs = .str r.word :: intN (r.nums.map g) := by
  cases r with
  | bound k => exact absurd rfl h
  | high k => exact absurd rfl h
  | sum k l => exact ⟨rfl, rfl⟩
  | delay k l => exact ⟨rfl, rfl⟩
  | early k => exact ⟨rfl, rfl⟩
  | ahead k => exact ⟨rfl, rfl⟩
  | floor k => exact ⟨rfl, rfl⟩
theorem Rs.nums_shaped (r : Rs) : SeqAt.shaped (.tuple (r.nums.map fun k => .int (k : Nat))) = true := by
  cases r <;> rfl
theorem Rs.map_none {r : Rs} (h : r.nums = []) (g : Nat → Nat) : r.map g = r := by
  cases r with
  | bound k => rfl
  | high k => rfl
  | sum k l => cases h
  | delay k l => cases h
  | early k => cases h
  | ahead k => cases h
  | floor k => cases h
theorem Rs.nums_len (r : Rs) : r.nums.length ≤ 2 := by
  cases r <;> exact Nat.le_of_ble_eq_true rfl
abbrev N_p_renumbered : List Str := ["line", "places", "k"]
theorem sc_p_renumbered : FnScope N_p_renumbered ["line", "places"] (defScope s_p_renumbered) := ⟨rfl, rfl, rfl, by decide +kernel, rfl, by decide +kernel, by decide +kernel⟩
-- slots: 0 line, 1 places, 2 k
theorem ok_renumbered (F : FD K "renumbered" "renumbered" s_p_renumbered f fd) (Z : Fr0 mg) (k_lines_in : Cal P w K mg base "lines_in" ["line"] 1 spLinesIn) : FnOk P w K mg base CX0 2 f fd ["line", "places"] spRenum := by
  refine F.ok sc_p_renumbered (fun vs H Q E h => ?_) (fun cdv A0 outer s H vs Q E hr h => ?_)
  · obtain ⟨_, _, _, _, _, rfl, _⟩ := h
    rfl
  · obtain ⟨v, x, pd, pk, g, rfl, hx, hp, hg, k⟩ := h
    have hu := hu_of hr
    have nd := sc_p_renumbered.nd
    refine ⟨_, PSs.nox (pss_cons (ps_if (pt_cmpR (op_eqD hr.units) (pe_cal k_lines_in (hr.mono (by decide)) (by rfl) (pa_cons (pv 0) pa_nil)) (pe_tup pa_nil) (nomark _)) (pss_one (ps_ret (pv 0))) pss_nil)
      (pss_one (ps_ret (pe_op op_catA (pe_slice sl_tupA (pv 0) po_none (po_some pe_int)) (pe_tup (pa_cons (pe_op op_catA (pe_tup (pa_cons (pe_ix ix_tup (pe_ix ix_tup (pv 0) pe_int (fun _ _ => rfl)) pe_int (fun _ _ => rfl)) pa_nil)) (pe_callTy call_tupleN (by rfl) Z.tuple (by decide +kernel) (pa_cons (pe_lc (own := [("k", 2)]) (g := (gName 2)) (tt := tYes) (by rfl) nd (pi_tup (pe_cal k_lines_in (hr.mono (by decide)) (by rfl) (pa_cons (pv 0) pa_nil))) (blkOk_by (own := [("k", 2)]) (N := N_p_renumbered) (sc := defScope s_p_renumbered) (by decide +kernel)) (fun _ _ _ _ _ => (pg_name (i := 2) nd rfl (by first | exact Or.inl rfl | exact Or.inr rfl))) (fun _ _ _ _ _ => pts_nil) (fun _ _ _ _ _ => (pe_dget hu (pv 1) (pv 2) (fun _ _ => rfl)))) pa_nil))) pa_nil)))))), ?_⟩
    walk_at "rd"
    refine ⟨v, x, rfl, hx, fun q1 H1 f1 t1 => ?_⟩
    walk_at "rd"
    refine rNewT (ok100 rfl) fun q2 H2 n2 f2 t2 => ?_
    refine ⟨_, _, .tup (SqT.of (f2.tup _ _ t1)) (dp_ints _), .tup (SqT.of t2) .nil, x.r.nums_shaped, rfl, ?_⟩
    walk_at "rd"
    by_cases e : x.r.nums = []
    · rw [e]
      refine ifT ?_
      walk_at "rd"
      refine k v H2 (f1.trans f2) ?_
      rw [Rs.map_none e]
      exact hx.fm (f1.trans f2)
    · have en : PyData.eqv (.tuple (x.r.nums.map fun k => PyData.int (k : Nat))) (.tuple []) = false := by
        cases q : x.r.nums with
        | nil => exact absurd q e
        | cons a l => rfl
      rw [en]
      walk_at "rd"
      have hx2 := hx.fm (f1.trans f2)
      obtain ⟨p, q, rfl, h1, h2⟩ := hx2
      refine rSlA1 h1 sIx5 (rNewT0 fun q3 H3 n3 f3 t3 => ?_)
      walk_at "rd"
      refine rIxTl (f3.tup _ _ h1) rfl ?_
      walk_at "rd"
      rw [(Rs.vs_nums e g).1] at h2
      refine rIxTl (f3.tup _ _ h2) (show atI (V.str x.r.word :: intN x.r.nums) ((0 : Nat) : Int) = some (V.str x.r.word) from atI_nat rfl) ?_
      walk_at "rd"
      refine rNewT (ok100 rfl) fun q4 H4 n4 f4 t4 => ?_
      walk_at "rd"
      have F4 := ((f1.trans f2).trans f3).trans f4
      refine ⟨_, x, rfl, hx.fm F4, fun q5 H5 f5 t5 => ?_⟩
      have F5 := F4.trans f5
      have nl := x.r.nums_len
      have li : (intN x.r.nums).length = x.r.nums.length := by unfold intN; rw [List.length_map]
      refine lcT (xs := intN x.r.nums) (fun D j H' => H5 D = none ∧ Fm [D] H5 H' ∧ H' D = some (.lst ((intN (x.r.nums.map g)).take j))) (SqT.of t5) (fun D h => ⟨h, Fm.new h, upd_same⟩) ?_ ?_ ?_
      · rintro D j H' _ ⟨_, fm, _⟩
        exact SqT.of (fm.tup _ _ t5)
      · rintro D j y H' hy ⟨hD, fm, hd⟩
        have hj := (List.getElem?_eq_some_iff.mp hy).1
        unfold intN at hy
        rw [List.getElem?_map] at hy
        obtain ⟨n, hn, rfl⟩ := Option.map_eq_some_iff.mp hy
        walk_at "rd"
        refine ⟨rfl, ?_⟩
        walk_at "rd"
        have F' : Fm [] H H' := F5.trans (Fm.drop (L := [D]) fm fun b z => by rw [List.mem_singleton.mp z]; exact hD)
        refine ⟨_, _, rfl, .inl ⟨pk, .inl n, .inl (F'.oth _ _ (fun z => nomatch z) hp), rfl, (hg n (List.mem_of_getElem? hn)).symm⟩, ?_⟩
        refine ⟨_, hd, line9l (by rw [List.length_take]; omega), hD, fm.trans (Fm.wr (by simp) hd (fun _ z => nomatch z)), ?_⟩
        rw [upd_same, List.take_add_one]
        unfold intN
        rw [List.getElem?_map, List.getElem?_map, hn]
        rfl
      · rintro D H' ⟨hD, fm, hd⟩
        have F' : Fm [] H5 H' := Fm.drop (L := [D]) fm fun b z => by rw [List.mem_singleton.mp z]; exact hD
        rw [List.take_of_length_le (by unfold intN; simp)] at hd
        walk_at "rd"
        refine rTupleOfL (SqL.of hd) (rNewT0 fun q6 H6 n6 f6 t6 => ?_)
        have F6 := F'.trans f6
        refine rCatA1 (f6.tup _ _ (F'.tup _ _ (f5.tup _ _ t4))) t6 (by unfold intN; simp; omega) (fun z => nomatch z) (fun z => e (by unfold intN at z; simpa using z)) (rNewT0 fun q7 H7 n7 f7 t7 => ?_)
        walk_at "rd"
        refine rNewT (ok100 rfl) fun q8 H8 n8 f8 t8 => ?_
        have F8 := (F6.trans f7).trans f8
        refine rCatA1 (F8.tup _ _ (f5.tup _ _ (f4.tup _ _ t3))) t8 (ok100 rfl) (fun z => nomatch z) (fun z => nomatch z) (rNewT0 fun q9 H9 n9 f9 t9 => ?_)
        refine k _ H9 ((F5.trans F8).trans f9) ⟨q9, q7, rfl, t9, ?_⟩
        rw [(Rs.vs_nums e g).2]
        exact f9.tup _ _ (f8.tup _ _ t7)
end
end A68
set_option maxHeartbeats 4000000
/-! The mathematics: lines renumbered are lines. -/
namespace A68
open PySem L2
def pick (ls : List Line) (o : Nat) : Line := (ls[o]?).getD ⟨true, 0, 0, 0, .bound 0⟩
def renum (g : Nat → Nat) (x : Line) : Line := ⟨x.most, x.a, x.b, x.w, x.r.map g⟩
theorem pick_of {ls : List Line} {o : Nat} {x : Line} (h : ls[o]? = some x) : pick ls o = x := by
  unfold pick
  rw [h]
  rfl
theorem idx_get {os : List Nat} {n : Nat} (h : n ∈ os) : os[os.idxOf n]? = some n := by
  have hl := List.idxOf_lt_length_iff.mpr h
  rw [List.getElem?_eq_getElem hl]
  congr 1
  exact List.getElem_idxOf hl
theorem inc_lt {os : List Nat} (inc : os.Pairwise (· < ·)) {i j a b : Nat} (hi : os[i]? = some a) (hj : os[j]? = some b) (h : a < b) : i < j := by
  obtain ⟨li, ei⟩ := List.getElem?_eq_some_iff.mp hi
  obtain ⟨lj, ej⟩ := List.getElem?_eq_some_iff.mp hj
  rcases Nat.lt_trichotomy i j with z | z | z
  · exact z
  · subst z
    rw [ei] at ej
    omega
  · have := List.pairwise_iff_getElem.mp inc j i lj li z
    omega
theorem renum_lines {B : Br} {ls : List Line} {os : List Nat} (hl : Lines B ls) (inc : os.Pairwise (· < ·)) (cl : ∀ o ∈ os, ∃ x, ls[o]? = some x ∧ ∀ n ∈ x.r.nums, n ∈ os) : Lines B (os.map fun o => renum os.idxOf (pick ls o)) := by
  intro j x' hx'
  rw [List.getElem?_map] at hx'
  obtain ⟨o, ho, rfl⟩ := Option.map_eq_some_iff.mp hx'
  obtain ⟨x, hx, hn⟩ := cl o (List.mem_of_getElem? ho)
  rw [pick_of hx]
  obtain ⟨g, f⟩ := hl o x hx
  refine ⟨?_, f⟩
  -- a number of it
  have at_ : ∀ k y, k < o → k ∈ x.r.nums → ls[k]? = some y → os.idxOf k < j ∧ (os.map fun o => renum os.idxOf (pick ls o))[os.idxOf k]? = some (renum os.idxOf y) := fun k y hk hm hy => by
    have e := idx_get (hn k hm)
    refine ⟨inc_lt inc e ho hk, ?_⟩
    rw [List.getElem?_map, e]
    show some (renum os.idxOf (pick ls k)) = _
    rw [pick_of hy]
  obtain ⟨mo, a, b, w, r⟩ := x
  cases r with
  | bound k => exact g
  | high k => exact g
  | sum k l =>
    obtain ⟨h1, h2, y, z, h3, h4, h5⟩ := g
    obtain ⟨a1, a2⟩ := at_ k y h1 (by simp [Rs.nums]) h3
    obtain ⟨b1, b2⟩ := at_ l z h2 (by simp [Rs.nums]) h4
    exact ⟨a1, b1, _, _, a2, b2, h5⟩
  | delay k l =>
    obtain ⟨h1, h2, y, z, h3, h4, h5⟩ := g
    obtain ⟨a1, a2⟩ := at_ k y h1 (by simp [Rs.nums]) h3
    obtain ⟨b1, b2⟩ := at_ l z h2 (by simp [Rs.nums]) h4
    exact ⟨a1, b1, _, _, a2, b2, h5⟩
  | early k =>
    obtain ⟨h1, y, h3, h5⟩ := g
    obtain ⟨a1, a2⟩ := at_ k y h1 (by simp [Rs.nums]) h3
    exact ⟨a1, _, a2, h5⟩
  | ahead k =>
    obtain ⟨h1, y, h3, h5⟩ := g
    obtain ⟨a1, a2⟩ := at_ k y h1 (by simp [Rs.nums]) h3
    exact ⟨a1, _, a2, h5⟩
  | floor k =>
    obtain ⟨h1, y, h3, h5⟩ := g
    obtain ⟨a1, a2⟩ := at_ k y h1 (by simp [Rs.nums]) h3
    exact ⟨a1, _, a2, h5⟩
/-- a line's numbers are ahead of it -/
theorem nums_lt {B : Br} {ls : List Line} (hl : Lines B ls) {o : Nat} {x : Line} (hx : ls[o]? = some x) : ∀ n ∈ x.r.nums, n < o := by
  intro n hn
  obtain ⟨g, _⟩ := hl o x hx
  obtain ⟨mo, a, b, w, r⟩ := x
  cases r with
  | bound k => exact (nomatch hn)
  | high k => exact (nomatch hn)
  | sum k l =>
    obtain ⟨h1, h2, _⟩ := g
    have : n = k ∨ n = l := by simpa [Rs.nums] using hn
    omega
  | delay k l =>
    obtain ⟨h1, h2, _⟩ := g
    have : n = k ∨ n = l := by simpa [Rs.nums] using hn
    omega
  | early k =>
    have : n = k := by simpa [Rs.nums] using hn
    rw [this]; exact g.1
  | ahead k =>
    have : n = k := by simpa [Rs.nums] using hn
    rw [this]; exact g.1
  | floor k =>
    have : n = k := by simpa [Rs.nums] using hn
    rw [this]; exact g.1
/-! ### the dict of wanted numbers -/
def wantK (ks : List Nat) : List (Key × V) := ks.map fun n => (.inl (n : Nat), .bl true)
def wantAdd (ks : List Nat) (n : Nat) : List Nat := if n ∈ ks then ks else ks ++ [n]
theorem want_key {ks : List Nat} {n : Nat} : (valV (wantK ks) (.inl (n : Nat))).isSome = decide (n ∈ ks) := by
  by_cases h : n ∈ ks
  · rw [decide_eq_true h]
    cases e : valV (wantK ks) (.inl (n : Nat)) with
    | some v => rfl
    | none =>
      exfalso
      unfold valV at e
      have := (Option.map_eq_none_iff.mp e)
      rw [List.find?_eq_none] at this
      exact this (.inl (n : Nat), .bl true) (List.mem_map.mpr ⟨n, h, rfl⟩) (by simp)
  · rw [decide_eq_false h, valV_none]
    · rfl
    · intro kv hkv
      obtain ⟨m, hm, rfl⟩ := List.mem_map.mp hkv
      intro e
      have e' : (m : Int) = (n : Int) := Sum.inl.inj e
      rw [show m = n by omega] at hm
      exact h hm
theorem want_put {ks : List Nat} {n : Nat} : putK (wantK ks) (.inl (n : Nat)) (.bl true) = wantK (wantAdd ks n) := by
  unfold wantAdd
  by_cases h : n ∈ ks
  · rw [if_pos h]
    have he : ((wantK ks).any fun kv => decide (kv.1 = .inl (n : Nat))) = true := by rw [valV_any, want_key, decide_eq_true h]
    unfold putK
    rw [if_pos he]
    unfold wantK
    rw [List.map_map]
    refine List.map_congr_left fun m _ => ?_
    simp only [Function.comp]
    split <;> rfl
  · rw [if_neg h, putK_new]
    · unfold wantK
      rw [List.map_append]
      rfl
    · have := want_key (ks := ks) (n := n)
      rw [decide_eq_false h] at this
      cases q : valV (wantK ks) (.inl (n : Nat)) with
      | none => rfl
      | some v => rw [q] at this; cases this
theorem wantAdd_mem {ks : List Nat} {n m : Nat} : m ∈ wantAdd ks n ↔ m ∈ ks ∨ m = n := by
  unfold wantAdd
  by_cases h : n ∈ ks
  · rw [if_pos h]
    constructor
    · exact .inl
    · rintro (h' | rfl)
      · exact h'
      · exact h
  · rw [if_neg h, List.mem_append, List.mem_singleton]
theorem wantAdd_nd {ks : List Nat} {n : Nat} (nd : ks.Nodup) : (wantAdd ks n).Nodup := by
  unfold wantAdd
  by_cases h : n ∈ ks
  · rw [if_pos h]; exact nd
  · rw [if_neg h]
    refine List.nodup_append.mpr ⟨nd, List.pairwise_singleton _ _, fun a ha b hb => ?_⟩
    rw [List.mem_singleton.mp hb]
    rintro rfl
    exact h ha
theorem wantAdd_len {ks : List Nat} {n : Nat} : (wantAdd ks n).length ≤ ks.length + 1 := by
  unfold wantAdd
  split
  · omega
  · rw [List.length_append]; exact Nat.le_refl _
/-- what stands while the numbers from `lo` on are done -/
structure Want (ls : List Line) (last lo : Nat) (ks : List Nat) : Prop where
  nd : ks.Nodup
  le : ∀ n ∈ ks, n ≤ last
  mem : last ∈ ks
  cl : ∀ n ∈ ks, lo ≤ n → ∀ x, ls[n]? = some x → ∀ m ∈ x.r.nums, m ∈ ks
theorem nodup_le {ks : List Nat} {n : Nat} (nd : ks.Nodup) (h : ∀ m ∈ ks, m ≤ n) : ks.length ≤ n + 1 := nodup_lt (n + 1) ks nd fun x hx => by have := h x hx; omega
/-- the order: strictly rising, its last the greatest -/
theorem order_of {ks : List Nat} {ys : List Int} (nd : ks.Nodup) (p : ys.Perm (ks.map fun n : Nat => (n : Int))) (s : ys.Pairwise (· ≤ ·)) : ∃ os : List Nat, ys = os.map (fun n : Nat => (n : Int)) ∧ os.Perm ks ∧ os.Pairwise (· < ·) := by
  refine ⟨ys.map Int.toNat, ?_, ?_, ?_⟩
  · rw [List.map_map]
    have : ys = ys.map id := (List.map_id _).symm
    conv => lhs; rw [this]
    refine List.map_congr_left fun y hy => ?_
    obtain ⟨n, _, rfl⟩ := List.mem_map.mp (p.mem_iff.mp hy)
    rfl
  · have := p.map Int.toNat
    rw [List.map_map] at this
    have e : ks.map (Int.toNat ∘ fun n : Nat => (n : Int)) = ks := by
      conv => rhs; rw [← List.map_id ks]
      exact List.map_congr_left fun n _ => rfl
    rw [e] at this
    exact this
  · have nd' : ys.Nodup := p.nodup_iff.mpr (List.pairwise_map.mpr (nd.imp fun {a b} h z => h (by omega)))
    have both : ys.Pairwise fun a b => a ≤ b ∧ a ≠ b := s.and nd'
    refine List.pairwise_map.mpr (both.imp_of_mem fun {a b} ha hb h => ?_)
    obtain ⟨n, _, rfl⟩ := List.mem_map.mp (p.mem_iff.mp ha)
    obtain ⟨m, _, rfl⟩ := List.mem_map.mp (p.mem_iff.mp hb)
    show n < m
    omega
theorem last_of {os : List Nat} {last : Nat} (inc : os.Pairwise (· < ·)) (m : last ∈ os) (le : ∀ n ∈ os, n ≤ last) : os[os.length - 1]? = some last := by
  obtain ⟨i, hi, e⟩ := List.getElem_of_mem m
  have h : i = os.length - 1 := by
    rcases Nat.lt_or_ge i (os.length - 1) with z | z
    · have := List.pairwise_iff_getElem.mp inc i (os.length - 1) hi (by omega) z
      have := le _ (List.getElem_mem (l := os) (n := os.length - 1) (by omega))
      omega
    · omega
  rw [← h, List.getElem?_eq_getElem hi, e]
end A68
set_option maxRecDepth 100000
set_option maxHeartbeats 4000000
/-! lines_up_to. -/
namespace A68
open PySem PySem.Spec PyProof.Rows L2
theorem rIR3 {ta : TA} {σ : St} {H : Hp} {R : It → Hp → Prop} (q : ta σ H fun vs H1 => ∃ (i j c : Int) (n : Nat), vs = [.int i, .int j, .int c] ∧ RgC i j c n ∧ R (Itc i c n) H1) : iRng3 ta σ H R := q
theorem rDisp1 {tk tv : TE} {σ : St} {H : Hp} {Q : VK} {k : Key} {v : V} (q : ∀ p H', H p = none → Fm [] H H' → H' p = some (.dK [(k, v)]) → Q (.ref p) H') (ek : ∀ H' Q', Q' (kV k) H' → tk σ H' Q') (ev : ∀ H' Q', Q' v H' → tv σ H' Q') : tDisp [(tk, tv)] σ H Q := by
  refine fun p n => ek _ _ (ev _ _ ⟨upd_same, [(k, v)], rfl, Nat.le_of_ble_eq_true rfl, q p _ n ?_ upd_same⟩)
  exact ⟨fun b xs e => by rw [upd_ne (ne_of_none e n), upd_ne (ne_of_none e n)]; exact e, fun b u _ e => by rw [upd_ne (ne_of_none e n), upd_ne (ne_of_none e n)]; exact e, fun b e => by
    by_cases z : b = p
    · rw [z]; exact n
    · rw [upd_ne z, upd_ne z] at e; exact e⟩
theorem rDcS {wi : TI} {g : TG} {tt : TT} {tk tv : TE} {vs : List Nat} {σ : St} {H : Hp} {Q : VK} (q : wi σ H fun J H1 => ∀ D, H1 D = none → ∃ W : Nat → Nat → Hp → Prop, (∃ m, W 0 m (upd H1 D (.dK []))) ∧ ∀ i m H, W i m H →
  (J.stop i H ∧ Q (.ref D) H) ∨ (J.go i H ∧ ∃ Nx : Hp → Prop, (∀ H', Nx H' → ∃ m', m' < m ∧ W (i + 1) m' H') ∧ ∀ x H', J.yld i H x H' → g x (wipe σ vs) H' fun σ2 H2 => wipe σ2 vs = wipe σ vs ∧ tt σ2 H2 fun b H3 =>
    if b = true then tk σ2 H3 fun y H4 => tv σ2 H4 fun z H5 => ∃ kvs k, y = kV k ∧ H5 D = some (.dK kvs) ∧ kvs.length < sizeLine ∧ Nx (upd H5 D (.dK (putK kvs k z))) else Nx H3)) : tDc wi g tt tk tv vs σ H Q := q
theorem dcJ {J : It} {n : Nat} {G : Hp → Prop} {Y : Nat → Hp → V → Hp → Prop} {g : TG} {tt : TT} {tk tv : TE} {vs : List Nat} {σ : St} {H : Hp} {D : Addr} {Q : Hp → Prop} (w : Walk J n G Y) (Pv : Nat → Hp → Prop) (h0 : Pv 0 (upd H D (.dK []))) (hG : ∀ i H, i ≤ n → Pv i H → G H)
    (hs : ∀ i x H H', i < n → Pv i H → Y i H x H' → g x (wipe σ vs) H' fun σ2 H2 => wipe σ2 vs = wipe σ vs ∧ tt σ2 H2 fun b H3 =>
      if b = true then tk σ2 H3 fun y H4 => tv σ2 H4 fun z H5 => ∃ kvs k, y = kV k ∧ H5 D = some (.dK kvs) ∧ kvs.length < sizeLine ∧ Pv (i + 1) (upd H5 D (.dK (putK kvs k z))) else Pv (i + 1) H3) (hd : ∀ H, Pv n H → Q H) :
    ∃ W : Nat → Nat → Hp → Prop, (∃ m, W 0 m (upd H D (.dK []))) ∧ ∀ i m H, W i m H →
      (J.stop i H ∧ Q H) ∨ (J.go i H ∧ ∃ Nx : Hp → Prop, (∀ H', Nx H' → ∃ m', m' < m ∧ W (i + 1) m' H') ∧ ∀ x H', J.yld i H x H' → g x (wipe σ vs) H' fun σ2 H2 => wipe σ2 vs = wipe σ vs ∧ tt σ2 H2 fun b H3 =>
        if b = true then tk σ2 H3 fun y H4 => tv σ2 H4 fun z H5 => ∃ kvs k, y = kV k ∧ H5 D = some (.dK kvs) ∧ kvs.length < sizeLine ∧ Nx (upd H5 D (.dK (putK kvs k z))) else Nx H3) := by
  refine ⟨fun i m H => m = n - i ∧ i ≤ n ∧ Pv i H, ⟨n, by simp, Nat.zero_le _, h0⟩, ?_⟩
  rintro i m H ⟨rfl, hi, p⟩
  have q := hG i H hi p
  by_cases hlt : i < n
  · exact .inr ⟨w.goes i H hlt q, Pv (i + 1), fun H' p' => ⟨n - (i + 1), by omega, rfl, hlt, p'⟩, fun x H' y => hs i x H H' hlt p (w.yields i H x H' hlt q y)⟩
  · have e : i = n := by omega
    subst e
    exact .inl ⟨w.stops H q, hd H p⟩
local macro_rules | `(tactic| walk_at "rd1") => `(tactic| first
  | ((with_reducible refine' rVar ?hx ?_); (case hx => rfl))
  | (with_reducible refine rC ?_)
  | (with_reducible refine rOp ?_)
  | (with_reducible refine rUn ?_)
  | (with_reducible refine rI0i ?_)
  | (with_reducible refine rUi ?_)
  | ((with_reducible refine rMulL ?a ?b ?_); (case a => decide); (case b => decide))
  | ((with_reducible refine rMulR ?a ?b ?_); (case a => decide); (case b => decide))
  | ((with_reducible refine rModP ?a ?_); (case a => decide))
  | ((with_reducible refine rDivP ?a ?b ?_); (case a => decide); (case b => decide))
  | ((with_reducible refine rPowL ?a ?b ?c ?_); (case a => decide); (case b => decide); (case c => decide))
  | (with_reducible refine rEqI ?_)
  | (with_reducible refine rNeI ?_)
  | (with_reducible refine rIsNi ?_)
  | (with_reducible refine rIsNn ?_)
  | (with_reducible refine rIsNr ?_)
  | (with_reducible refine rNotNi ?_)
  | (with_reducible refine rNotNn ?_)
  | (with_reducible refine rNotNr ?_)
  | (with_reducible refine rTest ?_)
  | (with_reducible refine rTB ?_)
  | (with_reducible refine rBlV ?_)
  | (with_reducible refine rAnd ?_)
  | (with_reducible refine rOr ?_)
  | (with_reducible refine rNot ?_)
  | (with_reducible refine rAndV ?_)
  | (with_reducible refine rOrV ?_)
  | (with_reducible refine rNotV ?_)
  | (with_reducible refine rIf ?_)
  | (with_reducible refine rNil ?_)
  | (with_reducible refine rCons ?_)
  | (with_reducible refine rTup ?_)
  | (with_reducible refine rLst ?_)
  | (with_reducible refine rCB ?_)
  | (with_reducible refine rCall ?_)
  | (with_reducible refine rBM ?_)
  | (with_reducible refine rMin2i ?_)
  | (with_reducible refine rMax2i ?_)
  | (with_reducible refine rInt1i ?_)
  | (with_reducible refine rPartN ?_)
  | (with_reducible refine rPart ?_)
  | (with_reducible refine rInt ?_)
  | (with_reducible refine rSlS ?_)
  | (with_reducible refine rSFld ?_)
  | (with_reducible refine rSDPut ?_)
  | (with_reducible refine rDGet ?_)
  | (with_reducible refine rDIn ?_)
  | (with_reducible refine rDNotIn ?_)
  | (with_reducible refine rSeq ?_)
  | (with_reducible refine rAsg ?_)
  | (with_reducible refine rName ?_)
  | (with_reducible refine rDrop ?_)
  | (with_reducible refine rRet ?_)
  | (with_reducible refine rIfS ?_)
  | (with_reducible refine rNext ?_)
  | (with_reducible refine rPar ?_)
  | (with_reducible refine rPar2 ?_)
  | (with_reducible refine rMeth ?_)
  | (with_reducible refine rGCons ?_)
  | (with_reducible refine rGNil ?_)
  | (with_reducible refine rForS ?_)
  | (with_reducible refine rLcS ?_)
  | (with_reducible refine rIL ?_)
  | (with_reducible refine rIT ?_)
  | (with_reducible refine rIE ?_)
  | (with_reducible refine rYes ?_)
  | (with_reducible refine rIR1 ?_)
  | (with_reducible refine rIR2 ?_)
  | (with_reducible refine rIET ?_)
  | (with_reducible refine ifSn ?_)
  | (with_reducible refine ifNn ?_)
  | (with_reducible refine ifSs ?_)
  | (with_reducible refine ifNs ?_)
  | (with_reducible refine rNotNfs ?_)
  | (with_reducible refine rNotNfn ?_)
  | (with_reducible refine rIsNfs ?_)
  | (with_reducible refine rIsNfn ?_)
  | (with_reducible refine ifT ?_)
  | (with_reducible refine ifF ?_)
  | (with_reducible refine ifNT ?_)
  | (with_reducible refine ifNF ?_))
local macro_rules | `(tactic| walk_at "rd") => `(tactic| (repeat walk_at "rd1"))
def placeK (os : List Nat) (i : Nat) : List (Key × V) := (List.range i).map fun j => (.inl ((os.getD j 0 : Nat) : Int), .int (j : Nat))
def spUpTo (B : Br) : Sp := fun vs H Q _ => ∃ (L : Addr) (last : Nat) (ls : List Line) (xs : List V) (x : Line), vs = [.ref L, .int (last : Nat)] ∧ H L = some (.lst xs) ∧ LinesAt H xs ls ∧ Lines B ls ∧ ls[last]? = some x ∧ ls.length ≤ 30000 ∧
  ∀ (q : Addr) (ys : List V) (ls' : List Line) (x' : Line) (H' : Hp), Fm [] H H' → H' q = some (.lst ys) → LinesAt H' ys ls' → Lines B ls' → ls'.length ≤ 30001 → ls'[ls'.length - 1]? = some x' → x'.most = x.most ∧ x'.a = x.a ∧ x'.b = x.b ∧ x'.w = x.w → Q (.ref q) H'
section
variable {P : Program} {w : World} {K : PySem.W.Frag} {mg : Str → Option Value} {base : Heap} {f : Addr} {fd : FuncData} {B : Br}
abbrev N_p_lines_up_to : List Str := ["lines", "last", "wanted", "k", "number", "order", "places", "at"]
theorem sc_p_lines_up_to : FnScope N_p_lines_up_to ["lines", "last"] (defScope s_p_lines_up_to) := ⟨rfl, rfl, rfl, by decide +kernel, rfl, by decide +kernel, by decide +kernel⟩
-- slots: 0 lines, 1 last, 2 wanted, 3 k, 4 number, 5 order, 6 places, 7 at
theorem ok_lines_up_to (F : FD K "lines_up_to" "lines_up_to" s_p_lines_up_to f fd) (Z : Fr0 mg) (k_lines_in : Cal P w K mg base "lines_in" ["line"] 1 spLinesIn) (k_renumbered : Cal P w K mg base "renumbered" ["line", "places"] 2 spRenum) :
    FnOk P w K mg base CX0 3 f fd ["lines", "last"] (spUpTo B) := by
  refine F.ok sc_p_lines_up_to (fun vs H Q E h => ?_) (fun cdv A0 outer s H vs Q E hr h => ?_)
  · obtain ⟨_, _, _, _, _, rfl, _⟩ := h
    rfl
  · obtain ⟨L, last, ls, xs, x, rfl, hL, hls, hB, hx, ll, k⟩ := h
    have hu := hu_of hr
    have nd := sc_p_lines_up_to.nd
    refine ⟨_, PSs.nox (pss_cons (ps_set (i := 2) nd rfl (by first | exact Or.inl rfl | exact Or.inr rfl) (pe_disp (pps_cons (pv 1) pe_bl pps_nil) (by rfl) (by rfl) (fun z => by cases z) (by decide)))
      (pss_cons (ps_for PassesOwn.never rfl (pi_range3 (by rfl) Z.range (pa_cons (pv 1) (pa_cons (pe_un un_neg pe_int) (pa_cons (pe_un un_neg pe_int) pa_nil)))) (pg_name (i := 3) nd rfl (by first | exact Or.inl rfl | exact Or.inr rfl))
        (pss_one (ps_if (pt_cmp (pc_din hu (pv 3) (pv 2))) (pss_one (ps_for PassesOwn.never rfl (pi_tup (pe_cal k_lines_in (hr.mono (by decide)) (by rfl) (pa_cons (pe_ix ix_list (pv 0) (pv 3) (fun _ _ => rfl)) pa_nil))) (pg_name (i := 4) nd rfl (by first | exact Or.inl rfl | exact Or.inr rfl))
            (pss_one (ps_dput hu (pv 2) (pv 4) pe_bl rfl)))) pss_nil)))
      (pss_cons (ps_set (i := 5) nd rfl (by first | exact Or.inl rfl | exact Or.inr rfl) (pe_callB (cr_sortedDI rfl) (by rfl) Z.sorted (by decide +kernel) (pa_cons (pv 2) pa_nil)))
      (pss_cons (ps_set (i := 6) nd rfl (by first | exact Or.inl rfl | exact Or.inr rfl) (pe_dc (own := [("at", 7), ("k", 3)]) (g := (gTup K 2 (gCons (gName 7) (gCons (gName 3) gNil)))) (tt := tYes) (by rfl) nd (pi_enum (by rfl) Z.enumerate (pa_cons (pv 5) pa_nil)) (blkOk_by (own := [("at", 7), ("k", 3)]) (N := N_p_lines_up_to) (sc := defScope s_p_lines_up_to) (by decide +kernel)) (fun _ _ _ _ _ => (pg_tup rfl (pgs_cons (pg_name (i := 7) nd rfl (by first | exact Or.inl rfl | exact Or.inr rfl)) (pgs_cons (pg_name (i := 3) nd rfl (by first | exact Or.inl rfl | exact Or.inr rfl)) pgs_nil)))) (fun _ _ _ _ _ => pts_nil) (fun _ _ _ _ _ => (pv 3)) (fun _ _ _ _ _ => (pv 7))))
      (pss_one (ps_ret (pe_lc (own := [("k", 3)]) (g := (gName 3)) (tt := tYes) (te := (tCall _ _ _ (tCons (tOp (rIxL K) _ _) (tCons _ tNil)))) (by rfl) nd (pi_list (pv 5)) (blkOk_by (own := [("k", 3)]) (N := N_p_lines_up_to) (sc := defScope s_p_lines_up_to) (by decide +kernel)) (fun _ _ _ _ _ => (pg_name (i := 3) nd rfl (by first | exact Or.inl rfl | exact Or.inr rfl))) (fun _ _ _ _ _ => pts_nil) (fun _ _ _ _ _ => (pe_cal k_renumbered (hr.mono (by decide)) (by rfl) (pa_cons (pe_ix ix_list (pv 0) (pv 3) (fun _ _ => rfl)) (pa_cons (pv 6) pa_nil))))))))))), ?_⟩
    have lL := line_lt hx
    walk_at "rd"
    refine rDisp1 (k := .inl ((last : Nat) : Int)) (v := .bl true) (fun D H1 n1 f1 t1 => ?_) (fun H' Q' q => ?_) (fun H' Q' q => q)
    · walk_at "rd"
      refine rIR3 ?_
      walk_at "rd"
      refine ⟨_, _, _, _, rfl, RgC.neg (by omega) (by omega) (by omega) (by omega), ?_⟩
      have en : ((last : Int) - -1).toNat = last + 1 := by omega
      rw [en]
      have dr : ∀ {H'}, Fm [D] H1 H' → Fm [] H H' := fun {H'} fm => Fm.drop (L := [D]) (f1.up.trans fm) fun b z => by rw [List.mem_singleton.mp z]; exact n1
      have nDL : L ≠ D := fun z => by rw [z, n1] at hL; cases hL
      refine forJ walk_rangeC (fun i σ' H' => ∃ (o3 o4 : Option V) (ks : List Nat), σ' = [some (.ref L), some (.int (last : Nat)), some (.ref D), o3, o4, none, none, none] ∧ Fm [D] H1 H' ∧ H' D = some (.dK (wantK ks)) ∧ Want ls last (last + 1 - i) ks)
        ⟨none, none, [last], rfl, Fm.refl, t1, by simp, fun n h => by rw [List.mem_singleton.mp h]; exact Nat.le_refl _, by simp, fun n h l => by have := List.mem_singleton.mp h; omega⟩ (fun _ _ _ _ _ => trivial) ?_ ?_
      · rintro i v σ' H' H'' hi ⟨o3, o4, ks, rfl, fm, hD, wa⟩ ⟨rfl, rfl⟩
        have ek : (last : Int) + ((i : Nat) : Int) * -1 = ((last - i : Nat) : Int) := by omega
        show gName 3 (.int ((last : Int) + ((i : Nat) : Int) * -1)) _ _ _
        rw [ek]
        generalize ekk : last - i = kk0
        have lo1 : last + 1 - i = kk0 + 1 := by omega
        have lo2 : last + 1 - (i + 1) = kk0 := by omega
        rw [lo1] at wa
        rw [lo2]
        have kL : kk0 < ls.length := by omega
        walk_at "rd"
        refine ⟨_, _, rfl, DGet.k (k := .inl ((kk0 : Nat) : Int)) hD, ?_⟩
        rw [want_key]
        walk_at "rd"
        by_cases hm : kk0 ∈ ks
        · refine ifDt hm ?_
          walk_at "rd"
          have hls' := hls.fm (dr fm)
          have hx0 := List.getElem?_eq_getElem kL
          generalize ls[kk0] = y0 at hx0
          obtain ⟨v0, hv0, lv0⟩ := hls'.get hx0
          refine rIxLn (SqL.of ((dr fm).oth _ _ (fun z => nomatch z) hL)) hv0 ?_
          walk_at "rd"
          refine ⟨v0, y0, rfl, lv0, fun q2 H2 f2 t2 => ?_⟩
          have lt0 := nums_lt hB hx0
          have nn := y0.r.nums_len
          have li : (intN y0.r.nums).length = y0.r.nums.length := by unfold intN; rw [List.length_map]
          refine forT (xs := intN y0.r.nums) (fun j σ' H' => ∃ (o4 : Option V) (ks' : List Nat), σ' = [some (.ref L), some (.int (last : Nat)), some (.ref D), some (.int (kk0 : Nat)), o4, none, none, none] ∧ Fm [D] H2 H' ∧ H' D = some (.dK (wantK ks')) ∧ Want ls last (kk0 + 1) ks' ∧ kk0 ∈ ks' ∧ ∀ n ∈ y0.r.nums.take j, n ∈ ks')
            ⟨o4, ks, rfl, Fm.refl, f2.oth _ _ (fun z => nomatch z) hD, wa, hm, fun n h => by simp at h⟩ ?_ ?_ ?_
          · rintro j σ' H3 _ ⟨o4, ks', _, fm3, _⟩
            exact SqT.of (fm3.tup _ _ t2)
          · rintro j y σ' H3 hy ⟨o4, ks', rfl, fm3, hD3, wa3, hk3, hj3⟩
            unfold intN at hy
            rw [List.getElem?_map] at hy
            obtain ⟨n, hn, rfl⟩ := Option.map_eq_some_iff.mp hy
            have ln := lt0 n (List.mem_of_getElem? hn)
            walk_at "rd"
            have lks := nodup_le wa3.nd wa3.le
            refine ⟨_, _, rfl, DPut.k (k := .inl ((n : Nat) : Int)) hD3 (line9l (by unfold wantK; rw [List.length_map]; omega)), ?_⟩
            rw [want_put]
            walk_at "rd"
            refine ⟨_, wantAdd ks' n, rfl, fm3.trans (Fm.wr (by simp) hD3 (fun _ z => nomatch z)), upd_same, ⟨wantAdd_nd wa3.nd, fun m hm => ?_, wantAdd_mem.mpr (.inl wa3.mem), fun m hm hl x hx m' hm' => ?_⟩, wantAdd_mem.mpr (.inl hk3), fun m hm => ?_⟩
            · rcases wantAdd_mem.mp hm with h | h
              · exact wa3.le m h
              · omega
            · rcases wantAdd_mem.mp hm with h | h
              · exact wantAdd_mem.mpr (.inl (wa3.cl m h hl x hx m' hm'))
              · omega
            · rw [List.take_add_one, hn] at hm
              rcases List.mem_append.mp hm with h | h
              · exact wantAdd_mem.mpr (.inl (hj3 m h))
              · exact wantAdd_mem.mpr (.inr (by simpa using h))
          · rintro σ' H3 ⟨o4, ks', rfl, fm3, hD3, wa3, hk3, hj3⟩
            refine ⟨_, o4, ks', rfl, (fm.trans f2.up).trans fm3, hD3, wa3.nd, wa3.le, wa3.mem, fun n hn hl x hx m hm => ?_⟩
            by_cases z : n = kk0
            · rw [z, hx0] at hx
              cases hx
              exact hj3 m (by rw [List.take_of_length_le (by omega)]; exact hm)
            · exact wa3.cl n hn (by omega) x hx m hm
        · refine ifDf hm ?_
          walk_at "rd"
          exact ⟨_, o4, ks, rfl, fm, hD, wa.nd, wa.le, wa.mem, fun n hn hl x hx m hm' => wa.cl n hn (by
            have : n ≠ kk0 := fun z => hm (by rw [← z]; exact hn)
            omega) x hx m hm'⟩
      · rintro σ' H2 ⟨o3, o4, ks, rfl, fm, hD, wa⟩
        have lo0 : last + 1 - (last + 1) = 0 := Nat.sub_self _
        rw [lo0] at wa
        have lks := nodup_le wa.nd wa.le
        walk_at "rd"
        refine ⟨D, wantK ks, ks.map fun n : Nat => (n : Int), rfl, .inl hD, by unfold wantK; rw [List.map_map, List.map_map]; rfl, fun ys q3 perm srt n3 => ?_⟩
        obtain ⟨os, rfl, pe, inc⟩ := order_of wa.nd perm srt
        have f3 : Fm [] H2 (upd H2 q3 (.lst ((os.map fun n : Nat => (n : Int)).map V.int))) := Fm.new n3
        have t3 : (upd H2 q3 (.lst ((os.map fun n : Nat => (n : Int)).map V.int))) q3 = some (.lst (intN os)) := by rw [upd_same, List.map_map]; rfl
        generalize upd H2 q3 (.lst ((os.map fun n : Nat => (n : Int)).map V.int)) = H3 at f3 t3
        have F3 : Fm [] H H3 := (dr fm).trans f3
        have los : os.length ≤ 30001 := by rw [pe.length_eq]; omega
        have lio : (intN os).length = os.length := by unfold intN; rw [List.length_map]
        have iget : ∀ {i : Nat} {v : V}, (intN os)[i]? = some v → ∃ n, os[i]? = some n ∧ v = .int (n : Nat) := fun {i v} h => by
          unfold intN at h
          rw [List.getElem?_map] at h
          obtain ⟨n, hn, rfl⟩ := Option.map_eq_some_iff.mp h
          exact ⟨n, hn, rfl⟩
        have gd : ∀ {i n : Nat}, os[i]? = some n → os.getD i 0 = n := fun {i n} h => by rw [List.getD_eq_getElem?_getD, h]; rfl
        walk_at "rd"
        refine rDcS ?_
        walk_at "rd"
        refine ⟨_, _, rfl, SqL.of t3, fun E n4 => dcJ (walk_enL (xs := intN os)) (fun i H' => Fm [E] H3 H' ∧ H' E = some (.dK (placeK os i))) ⟨Fm.new n4, upd_same⟩ ?_ ?_ ?_⟩
        · rintro i H' _ ⟨fm', _⟩
          exact SqL.of ((Fm.drop (L := [E]) fm' fun b z => by rw [List.mem_singleton.mp z]; exact n4 : Fm [] H3 H').oth _ _ (fun z => nomatch z) t3)
        · rintro i v H' H'' hi ⟨fm', hE⟩ ⟨T1, y, rfl, hy, f5, hT1⟩
          obtain ⟨n, hn, rfl⟩ := iget hy
          refine rGTup hT1 rfl ?_
          walk_at "rd"
          refine ⟨rfl, ?_⟩
          walk_at "rd"
          have hE5 := f5.oth _ _ (fun z => nomatch z) hE
          refine ⟨_, .inl ((n : Nat) : Int), rfl, hE5, line9l (by unfold placeK; rw [List.length_map, List.length_range]; omega), (fm'.trans f5.up).trans (Fm.wr (by simp) hE5 (fun _ z => nomatch z)), ?_⟩
          rw [upd_same, putK_new]
          · unfold placeK
            rw [List.range_succ, List.map_append, List.map_singleton, gd hn]
          · refine valV_none fun kv hkv ez => ?_
            unfold placeK at hkv
            obtain ⟨j, hj, rfl⟩ := List.mem_map.mp hkv
            have hj := List.mem_range.mp hj
            have e' : ((os.getD j 0 : Nat) : Int) = (n : Int) := Sum.inl.inj ez
            have lj : j < os.length := by omega
            have := List.pairwise_iff_getElem.mp inc j i lj (by omega) hj
            have h1 := gd (List.getElem?_eq_getElem lj)
            have h2 := (List.getElem?_eq_some_iff.mp hn).2
            omega
        · rintro H4 ⟨fm4, hE⟩
          rw [lio] at hE
          have F4 : Fm [] H3 H4 := Fm.drop (L := [E]) fm4 fun b z => by rw [List.mem_singleton.mp z]; exact n4
          have t4 := F4.oth _ _ (fun z => nomatch z) t3
          have F04 := F3.trans F4
          have pv : ∀ n ∈ os, valV (placeK os os.length) (.inl (n : Nat)) = some (.int (os.idxOf n : Nat)) := fun n hn => by
            refine mem_valV ?_ ?_
            · unfold placeK
              rw [List.map_map]
              refine List.pairwise_map.mpr (List.pairwise_lt_range.imp_of_mem fun {a b} ha hb h ez => ?_)
              have ha := List.mem_range.mp ha
              have hb := List.mem_range.mp hb
              have e' : ((os.getD a 0 : Nat) : Int) = ((os.getD b 0 : Nat) : Int) := Sum.inl.inj ez
              have := List.pairwise_iff_getElem.mp inc a b ha hb h
              rw [gd (List.getElem?_eq_getElem ha), gd (List.getElem?_eq_getElem hb)] at e'
              omega
            · have h1 := idx_get hn
              exact List.mem_map.mpr ⟨os.idxOf n, List.mem_range.mpr (List.getElem?_eq_some_iff.mp h1).1, by rw [gd h1]⟩
          have cl : ∀ o ∈ os, ∃ x, ls[o]? = some x ∧ ∀ n ∈ x.r.nums, n ∈ os := fun o ho => by
            have hk := pe.mem_iff.mp ho
            have := wa.le o hk
            exact ⟨_, List.getElem?_eq_getElem (by omega), fun n hn => pe.mem_iff.mpr (wa.cl o hk (Nat.zero_le _) _ (List.getElem?_eq_getElem (by omega)) n hn)⟩
          walk_at "rd"
          refine lcL (xs := intN os) (fun G j H' => H4 G = none ∧ Fm [G] H4 H' ∧ ∃ ys : List V, H' G = some (.lst ys) ∧ LinesAt H' ys ((os.take j).map fun o => renum os.idxOf (pick ls o)) ∧ ys.length = j) (SqL.of t4) (fun G h => ⟨h, Fm.new h, [], upd_same, .nil, rfl⟩) ?_ ?_ ?_
          · rintro G j H' _ ⟨h, fm', _⟩
            exact SqL.of ((Fm.drop (L := [G]) fm' fun b z => by rw [List.mem_singleton.mp z]; exact h : Fm [] H4 H').oth _ _ (fun z => nomatch z) t4)
          · rintro G j v H' hv ⟨h, fm', ys, hG, la, ly⟩
            obtain ⟨o, ho, rfl⟩ := iget hv
            have jl := (List.getElem?_eq_some_iff.mp ho).1
            have F' : Fm [] H4 H' := Fm.drop (L := [G]) fm' fun b z => by rw [List.mem_singleton.mp z]; exact h
            obtain ⟨y, hy, hyn⟩ := cl o (List.mem_of_getElem? ho)
            obtain ⟨v0, hv0, lv0⟩ := (hls.fm (F04.trans F')).get hy
            walk_at "rd"
            refine ⟨rfl, ?_⟩
            walk_at "rd"
            refine rIxLn (SqL.of ((F04.trans F').oth _ _ (fun z => nomatch z) hL)) hv0 ?_
            walk_at "rd"
            refine ⟨v0, y, E, _, os.idxOf, rfl, lv0, F'.oth _ _ (fun z => nomatch z) hE, fun n hn => pv n (hyn n hn), fun v' H5 f5 lv' => ?_⟩
            have hG5 := f5.oth _ _ (fun z => nomatch z) hG
            have g6 : Fm [G] H5 (upd H5 G (.lst (ys ++ [v']))) := Fm.wr (by simp) hG5 (fun _ z => nomatch z)
            refine ⟨ys, hG5, line9l (by omega), h, (fm'.trans f5.up).trans g6, _, upd_same, ?_, by rw [List.length_append, ly]; rfl⟩
            rw [List.take_add_one, ho, List.map_append]
            refine LinesAt.snoc ?_ ((la.fm f5).fm g6)
            show LineAt _ v' (renum os.idxOf (pick ls o))
            rw [pick_of hy]
            exact lv'.fm g6
          · rintro G H' ⟨h, fm', ys, hG, la, ly⟩
            rw [lio] at la ly
            rw [List.take_length] at la
            have F' : Fm [] H4 H' := Fm.drop (L := [G]) fm' fun b z => by rw [List.mem_singleton.mp z]; exact h
            have lo := last_of inc (pe.mem_iff.mpr wa.mem) (fun n hn => wa.le n (pe.mem_iff.mp hn))
            refine k G ys _ (renum os.idxOf x) H' (F04.trans F') hG la (renum_lines hB inc cl) (by rw [List.length_map]; exact los) ?_ ⟨rfl, rfl, rfl, rfl⟩
            rw [List.length_map, List.getElem?_map, lo]
            show some (renum os.idxOf (pick ls last)) = _
            rw [pick_of hx]
    · exact ⟨_, rfl, q⟩
end
end A68
set_option maxRecDepth 100000
set_option maxHeartbeats 4000000
/-! find_refutation, find_table. -/
namespace A68
open PySem PySem.Spec PyProof.Rows L2
theorem rMake {C : Addr} {sp : Sp} {dvs : List V} {E : XK} {t : TA} {σ : St} {H : Hp} {Q : VK} (q : t σ H fun vs H1 => ∀ x dx, H1 x = none → H1 dx = none → dx ≠ x → sp (.ref x :: (vs ++ dvs)) (upd (upd H1 dx (.own x)) x (.ins C dx [])) (fun v H2 => v = .non ∧ Q (.ref x) H2) E) : tMake C sp dvs E t σ H Q := q
theorem fAt {C dx : Addr} {K : PySem.W.Frag} {H : Hp} {σ : St} {Q : VK} {p : Addr} {fs : List (Str × V)} {v : V} {fl : Str} {n : Nat} (ob : H p = some (.ins C dx fs)) (c : Cls K C) (na : NoAttr K C fl) (l : fs.lookup fl = some v) (h0 : σ[n]? = some (some (.ref p))) (q : Q v H) : tFld K (tVar n) fl σ H Q := ⟨_, h0, rFld ob c na l q⟩
local macro_rules | `(tactic| walk_at "rd1") => `(tactic| first
  | ((with_reducible refine' rVar ?hx ?_); (case hx => rfl))
  | (with_reducible refine rC ?_)
  | (with_reducible refine rOp ?_)
  | (with_reducible refine rUn ?_)
  | (with_reducible refine rI0i ?_)
  | (with_reducible refine rUi ?_)
  | ((with_reducible refine rMulL ?a ?b ?_); (case a => decide); (case b => decide))
  | ((with_reducible refine rMulR ?a ?b ?_); (case a => decide); (case b => decide))
  | ((with_reducible refine rModP ?a ?_); (case a => decide))
  | ((with_reducible refine rDivP ?a ?b ?_); (case a => decide); (case b => decide))
  | ((with_reducible refine rPowL ?a ?b ?c ?_); (case a => decide); (case b => decide); (case c => decide))
  | (with_reducible refine rEqI ?_)
  | (with_reducible refine rNeI ?_)
  | (with_reducible refine rIsNi ?_)
  | (with_reducible refine rIsNn ?_)
  | (with_reducible refine rIsNr ?_)
  | (with_reducible refine rNotNi ?_)
  | (with_reducible refine rNotNn ?_)
  | (with_reducible refine rNotNr ?_)
  | (with_reducible refine rTest ?_)
  | (with_reducible refine rTB ?_)
  | (with_reducible refine rBlV ?_)
  | (with_reducible refine rAnd ?_)
  | (with_reducible refine rOr ?_)
  | (with_reducible refine rNot ?_)
  | (with_reducible refine rAndV ?_)
  | (with_reducible refine rOrV ?_)
  | (with_reducible refine rNotV ?_)
  | (with_reducible refine rIf ?_)
  | (with_reducible refine rNil ?_)
  | (with_reducible refine rCons ?_)
  | (with_reducible refine rTup ?_)
  | (with_reducible refine rLst ?_)
  | (with_reducible refine rCB ?_)
  | (with_reducible refine rCall ?_)
  | (with_reducible refine rBM ?_)
  | (with_reducible refine rMin2i ?_)
  | (with_reducible refine rMax2i ?_)
  | (with_reducible refine rInt1i ?_)
  | (with_reducible refine rPartN ?_)
  | (with_reducible refine rPart ?_)
  | (with_reducible refine rInt ?_)
  | (with_reducible refine rSlS ?_)
  | (with_reducible refine rSFld ?_)
  | (with_reducible refine rSDPut ?_)
  | (with_reducible refine rDGet ?_)
  | (with_reducible refine rDIn ?_)
  | (with_reducible refine rDNotIn ?_)
  | (with_reducible refine rSeq ?_)
  | (with_reducible refine rAsg ?_)
  | (with_reducible refine rName ?_)
  | (with_reducible refine rDrop ?_)
  | (with_reducible refine rRet ?_)
  | (with_reducible refine rIfS ?_)
  | (with_reducible refine rNext ?_)
  | (with_reducible refine rPar ?_)
  | (with_reducible refine rPar2 ?_)
  | (with_reducible refine rMeth ?_)
  | (with_reducible refine rGCons ?_)
  | (with_reducible refine rGNil ?_)
  | (with_reducible refine rForS ?_)
  | (with_reducible refine rLcS ?_)
  | (with_reducible refine rIL ?_)
  | (with_reducible refine rIT ?_)
  | (with_reducible refine rIE ?_)
  | (with_reducible refine rYes ?_)
  | (with_reducible refine rIR1 ?_)
  | (with_reducible refine rIR2 ?_)
  | (with_reducible refine rIET ?_)
  | (with_reducible refine ifSn ?_)
  | (with_reducible refine ifNn ?_)
  | (with_reducible refine ifSs ?_)
  | (with_reducible refine ifNs ?_)
  | (with_reducible refine rNotNfs ?_)
  | (with_reducible refine rNotNfn ?_)
  | (with_reducible refine rIsNfs ?_)
  | (with_reducible refine rIsNfn ?_)
  | (with_reducible refine ifT ?_)
  | (with_reducible refine ifF ?_)
  | (with_reducible refine ifNT ?_)
  | (with_reducible refine ifNF ?_))
local macro_rules | `(tactic| walk_at "rd") => `(tactic| (repeat walk_at "rd1"))
def CalI (P : Program) (w : World) (K : PySem.W.Frag) (mg : Str → Option Value) (base : Heap) (C : Addr) (B : Br) : Prop := ∃ (f : Addr) (fd : FuncData), FnOk P w K mg base CX0 4 f fd ["self", "brief"] (spInit C B) ∧ Mk K C f ∧ Binds K fd ["self", "brief"] []
def Refuted (B : Br) : Prop := ∃ (ls : List Line) (i : Nat) (x : Line), Lines B ls ∧ ls[i]? = some x ∧ x.most = true ∧ x.a = x.b ∧ x.w < 0
def spFindR (B : Br) : Sp := fun vs H Q _ => ∃ Ab : BA, vs = [.ref Ab.b] ∧ BriefAt H Ab B ∧ (∀ H' (M W : Int → Int → Int), Fm [] H H' → Closed B M W → Q .non H') ∧
  ∀ (q : Addr) (ys : List V) (ls : List Line) (x : Line) (H' : Hp), Fm [] H H' → H' q = some (.lst ys) → LinesAt H' ys ls → Lines B ls → ls.length ≤ 30001 → ls[ls.length - 1]? = some x → x.most = true → x.a = x.b → x.w < 0 → Q (.ref q) H'
def spFindT (B : Br) : Sp := fun vs H Q _ => ∃ Ab : BA, vs = [.ref Ab.b] ∧ BriefAt H Ab B ∧ (∀ H', Fm [] H H' → Refuted B → Q .non H') ∧
  ∀ (q m w : Addr) (st : CS) (H' : Hp), Fm [] H H' → H' q = some (.tup [.ref m, .ref w]) → H' m = some (.dT (gridM B st (2 * B.n + 1))) → H' w = some (.dT (gridW st st.waits)) → m ≠ w → Val B st → EndT B st → Q (.ref q) H'
section
variable {P : Program} {w : World} {K : PySem.W.Frag} {mg : Str → Option Value} {base : Heap} {f : Addr} {fd : FuncData} {C : Addr} {B : Br}
/-- the making, read -/
theorem made {H : Hp} {Q : Addr → Hp → Prop} {E : XK} {Ab : BA} (bf : BriefAt H Ab B) (q : ∀ (p : Addr) (A : CA) (st : CS) (H' : Hp), Fm [] H H' → CAt C B H' p A st → Val B st → InitF B st → st.lines.length ≤ 30000 → (st.fault = none → Prog B st st) → Q p H') :
    ∀ x dx, H x = none → H dx = none → dx ≠ x → spInit C B [.ref x, .ref Ab.b] (upd (upd H dx (.own x)) x (.ins C dx [])) (fun v H2 => v = .non ∧ Q x H2) E := fun x dx nx ndx ne => by
  have f1 : Fm [] H (upd (upd H dx (.own x)) x (.ins C dx [])) := Fm.trans (Fm.new ndx) (Fm.new (by rw [upd_ne (Ne.symm ne)]; exact nx))
  refine ⟨x, dx, Ab, rfl, upd_same, bf.fm f1, fun A st H' fm ca v ini ll pr => ⟨rfl, ?_⟩⟩
  exact q x A st H' (Fm.drop (L := [x]) (f1.up.trans fm) fun b z => by rw [List.mem_singleton.mp z]; exact nx) ca v ini ll pr
abbrev N_p_find_refutation : List Str := ["brief", "closing"]
theorem sc_p_find_refutation : FnScope N_p_find_refutation ["brief"] (defScope s_p_find_refutation) := ⟨rfl, rfl, rfl, by decide +kernel, rfl, by decide +kernel, by decide +kernel⟩
-- slots: 0 brief, 1 closing
theorem ok_find_refutation (ok : B.Ok) (F : FD K "find_refutation" "find_refutation" s_p_find_refutation f fd) (T : Tx K mg C) (ci : CalI P w K mg base C B) (k_lines_up_to : Cal P w K mg base "lines_up_to" ["lines", "last"] 3 (spUpTo B)) :
    FnOk P w K mg base CX0 6 f fd ["brief"] (spFindR B) := by
  obtain ⟨fI, fdI, GI, MK, bI⟩ := ci
  refine F.ok sc_p_find_refutation (fun vs H Q E h => ?_) (fun cdv A0 outer s H vs Q E hr h => ?_)
  · obtain ⟨_, rfl, _⟩ := h
    rfl
  · obtain ⟨Ab, rfl, bf, k1, k2⟩ := h
    have hu := hu_of hr
    have nd := sc_p_find_refutation.nd
    refine ⟨_, PSs.nox (pss_cons (ps_set (i := 1) nd rfl (by first | exact Or.inl rfl | exact Or.inr rfl) (pe_make MK GI (hr.mono (by decide)) (by rfl) T.mgC bI .nil pass0 (pa_cons (pv 0) pa_nil)))
      (pss_one (ps_ret (pe_ifExp (pt_cmpR op_isN1 (pe_fld (pv 1) rfl) pe_non (nomark _)) pe_non (pe_cal k_lines_up_to (hr.mono (by decide)) (by rfl) (pa_cons (pe_fld (pv 1) rfl) (pa_cons (pe_fld (pv 1) rfl) pa_nil))))))), ?_⟩
    walk_at "rd"
    refine rMake ?_
    walk_at "rd"
    refine made bf fun p A st H' fm ca v ini ll pr => ?_
    walk_at "rd"
    refine fAt ca.ob T.cl T.n6 cf_fault rfl ?_
    walk_at "rd"
    cases ef : st.fault with
    | none =>
      walk_at "rd"
      exact k1 H' _ _ fm (endT ok v ini (pr ef) ef).c
    | some n =>
      obtain ⟨x, hx, m, ab, wn⟩ := v.fl n ef
      obtain ⟨vs, l1, l2⟩ := ca.ln
      walk_at "rd"
      refine fAt ca.ob T.cl T.n3 cf_lines rfl ?_
      walk_at "rd"
      refine fAt ca.ob T.cl T.n6 cf_fault rfl ?_
      walk_at "rd"
      rw [ef]
      refine ⟨A.l, n, st.lines, vs, x, rfl, l1, l2, v.ls, hx, ll, fun q ys ls' x' H2 f2 hq la lB ll' lst e => ?_⟩
      obtain ⟨e1, e2, e3, e4⟩ := e
      exact k2 q ys ls' x' H2 (fm.trans f2) hq la lB ll' lst (by rw [e1]; exact m) (by rw [e2, e3]; exact ab) (by rw [e4]; exact wn)
abbrev N_p_find_table : List Str := ["brief", "closing"]
theorem sc_p_find_table : FnScope N_p_find_table ["brief"] (defScope s_p_find_table) := ⟨rfl, rfl, rfl, by decide +kernel, rfl, by decide +kernel, by decide +kernel⟩
-- slots: 0 brief, 1 closing
theorem ok_find_table (ok : B.Ok) (F : FD K "find_table" "find_table" s_p_find_table f fd) (T : Tx K mg C) (ci : CalI P w K mg base C B) (c_ta : CalM P w K mg base C "table" ["self"] 2 (spTable C B)) :
    FnOk P w K mg base CX0 6 f fd ["brief"] (spFindT B) := by
  obtain ⟨fI, fdI, GI, MK, bI⟩ := ci
  obtain ⟨f_table, fd_table, F_table, mt_table, bd_table⟩ := c_ta
  refine F.ok sc_p_find_table (fun vs H Q E h => ?_) (fun cdv A0 outer s H vs Q E hr h => ?_)
  · obtain ⟨_, rfl, _⟩ := h
    rfl
  · obtain ⟨Ab, rfl, bf, k1, k2⟩ := h
    have hu := hu_of hr
    have nd := sc_p_find_table.nd
    refine ⟨_, PSs.nox (pss_cons (ps_set (i := 1) nd rfl (by first | exact Or.inl rfl | exact Or.inr rfl) (pe_make MK GI (hr.mono (by decide)) (by rfl) T.mgC bI .nil pass0 (pa_cons (pv 0) pa_nil)))
      (pss_one (ps_ret (pe_ifExp (pt_cmpR op_isN1 (pe_fld (pv 1) rfl) pe_non (nomark _)) (pe_meth0 (pv 1) T.cl mt_table F_table (hr.mono (by decide)) bd_table .nil pass0) pe_non)))), ?_⟩
    walk_at "rd"
    refine rMake ?_
    walk_at "rd"
    refine made bf fun p A st H' fm ca v ini ll pr => ?_
    walk_at "rd"
    refine fAt ca.ob T.cl T.n6 cf_fault rfl ?_
    walk_at "rd"
    cases ef : st.fault with
    | none =>
      walk_at "rd"
      refine ⟨_, _, _, rfl, ca.ob, cf_noM.2.2.2.2.2.2, ?_⟩
      walk_at "rd"
      have en := endT ok v ini (pr ef) ef
      refine ⟨p, A, st, rfl, ca, v, en, ef, ll, fun q m w H2 f2 h1 h2 h3 n => ?_⟩
      exact k2 q m w st H2 (fm.trans f2) h1 h2 h3 n v en
    | some n =>
      obtain ⟨x, hx, m, ab, wn⟩ := v.fl n ef
      walk_at "rd"
      exact k1 H' fm ⟨st.lines, n, x, v.ls, hx, m, ab, wn⟩
end
end A68
set_option maxRecDepth 100000
set_option maxHeartbeats 4000000
/-! The law's owner, is_end, between, bounds, gives_alone. -/
namespace A68
open PySem PySem.Spec PyProof.Rows L2
theorem rIsi1 {K : PySem.W.Frag} {H : Hp} {Q : VK} {x : V} {a T : String} {b : Bool} (t : TyX K H x (.type a)) (h : kitB a T = some b) (q : Q (.bl b) H) : rIsi K [x, .ty T] H Q := ⟨x, .ty T, _, _, b, rfl, .ty T, t, kit_ty h, q⟩
theorem rChain {r r' : R2} {ta tb tc : TE} {σ : St} {H : Hp} {Q : VK} (q : ta σ H fun x H1 => tb σ H1 fun y H2 => r x y H2 fun z H3 => ∃ k, z = .bl k ∧ (if k = true then tc σ H3 fun w' H4 => r' y w' H4 Q else Q (.bl false) H3)) : tChain r r' ta tb tc σ H Q := q
theorem tyi {K : PySem.W.Frag} {H : Hp} (i : Int) : TyX K H (.int i) (.type "int") := .base (.int i)
theorem tys {K : PySem.W.Frag} {H : Hp} (i : Str) : TyX K H (.str i) (.type "str") := .base (.str i)
theorem tyt {K : PySem.W.Frag} {H : Hp} {a : Addr} {xs : List V} (h : H a = some (.tup xs)) : TyX K H (.ref a) (.type "tuple") := .base (.tup h)
theorem tyl {K : PySem.W.Frag} {H : Hp} {a : Addr} {xs : List V} (h : H a = some (.lst xs)) : TyX K H (.ref a) (.type "list") := .base (.lst h)
theorem kb_ii : kitB "int" "int" = some true := by decide +kernel
theorem kb_ib : kitB "int" "bool" = some false := by decide +kernel
theorem kb_tt : kitB "tuple" "tuple" = some true := by decide +kernel
theorem kb_ss : kitB "str" "str" = some true := by decide +kernel
theorem rCatN {H : Hp} {Q : VK} {a b : Addr} {xs ys : List V} (h1 : H a = some (.lst xs)) (h2 : H b = some (.lst ys)) (z : xs.length + ys.length ≤ 1000000) (q : ∀ p H', H p = none → Fm [] H H' → H' p = some (.lst (xs ++ ys)) → Q (.ref p) H') : rCat (.ref a) (.ref b) H Q :=
  rCati h1 h2 (line9 z) (rNewL0 q)
local macro_rules | `(tactic| walk_at "rd1") => `(tactic| first
  | ((with_reducible refine' rVar ?hx ?_); (case hx => rfl))
  | (with_reducible refine rC ?_)
  | (with_reducible refine rOp ?_)
  | (with_reducible refine rUn ?_)
  | (with_reducible refine rI0i ?_)
  | (with_reducible refine rUi ?_)
  | ((with_reducible refine rMulL ?a ?b ?_); (case a => decide); (case b => decide))
  | ((with_reducible refine rMulR ?a ?b ?_); (case a => decide); (case b => decide))
  | ((with_reducible refine rModP ?a ?_); (case a => decide))
  | ((with_reducible refine rDivP ?a ?b ?_); (case a => decide); (case b => decide))
  | ((with_reducible refine rPowL ?a ?b ?c ?_); (case a => decide); (case b => decide); (case c => decide))
  | (with_reducible refine rEqI ?_)
  | (with_reducible refine rNeI ?_)
  | (with_reducible refine rIsNi ?_)
  | (with_reducible refine rIsNn ?_)
  | (with_reducible refine rIsNr ?_)
  | (with_reducible refine rNotNi ?_)
  | (with_reducible refine rNotNn ?_)
  | (with_reducible refine rNotNr ?_)
  | (with_reducible refine rTest ?_)
  | (with_reducible refine rTB ?_)
  | (with_reducible refine rBlV ?_)
  | (with_reducible refine rAnd ?_)
  | (with_reducible refine rOr ?_)
  | (with_reducible refine rNot ?_)
  | (with_reducible refine rAndV ?_)
  | (with_reducible refine rOrV ?_)
  | (with_reducible refine rNotV ?_)
  | (with_reducible refine rIf ?_)
  | (with_reducible refine rNil ?_)
  | (with_reducible refine rCons ?_)
  | (with_reducible refine rTup ?_)
  | (with_reducible refine rLst ?_)
  | (with_reducible refine rCB ?_)
  | (with_reducible refine rCall ?_)
  | (with_reducible refine rBM ?_)
  | (with_reducible refine rMin2i ?_)
  | (with_reducible refine rMax2i ?_)
  | (with_reducible refine rInt1i ?_)
  | (with_reducible refine rPartN ?_)
  | (with_reducible refine rPart ?_)
  | (with_reducible refine rInt ?_)
  | (with_reducible refine rSlS ?_)
  | (with_reducible refine rSFld ?_)
  | (with_reducible refine rSDPut ?_)
  | (with_reducible refine rDGet ?_)
  | (with_reducible refine rDIn ?_)
  | (with_reducible refine rDNotIn ?_)
  | (with_reducible refine rSeq ?_)
  | (with_reducible refine rAsg ?_)
  | (with_reducible refine rName ?_)
  | (with_reducible refine rDrop ?_)
  | (with_reducible refine rRet ?_)
  | (with_reducible refine rIfS ?_)
  | (with_reducible refine rNext ?_)
  | (with_reducible refine rPar ?_)
  | (with_reducible refine rPar2 ?_)
  | (with_reducible refine rMeth ?_)
  | (with_reducible refine rGCons ?_)
  | (with_reducible refine rGNil ?_)
  | (with_reducible refine rForS ?_)
  | (with_reducible refine rLcS ?_)
  | (with_reducible refine rIL ?_)
  | (with_reducible refine rIT ?_)
  | (with_reducible refine rIE ?_)
  | (with_reducible refine rYes ?_)
  | (with_reducible refine rIR1 ?_)
  | (with_reducible refine rIR2 ?_)
  | (with_reducible refine rIET ?_)
  | (with_reducible refine ifSn ?_)
  | (with_reducible refine ifNn ?_)
  | (with_reducible refine ifSs ?_)
  | (with_reducible refine ifNs ?_)
  | (with_reducible refine rNotNfs ?_)
  | (with_reducible refine rNotNfn ?_)
  | (with_reducible refine rIsNfs ?_)
  | (with_reducible refine rIsNfn ?_)
  | (with_reducible refine ifT ?_)
  | (with_reducible refine ifF ?_)
  | (with_reducible refine ifNT ?_)
  | (with_reducible refine ifNF ?_))
local macro_rules | `(tactic| walk_at "rd") => `(tactic| (repeat walk_at "rd1"))
section
variable {P : Program} {w : World} {K : PySem.W.Frag} {mg : Str → Option Value} {base : Heap} {f : Addr} {fd : FuncData} {B : Br}
abbrev N_l_owner : List Str := ["_law_event"]
theorem sc_l_owner : FnScope N_l_owner ["_law_event"] (defScope s_l_owner) := ⟨rfl, rfl, rfl, by decide +kernel, rfl, by decide +kernel, by decide +kernel⟩
-- slots: 0 _law_event
theorem ok_l_owner (F : FD K "_law_owner" "_law_owner" s_l_owner f fd) : FnOk P w K mg base CX0 1 f fd ["_law_event"] (spI1 fun n => .int (own n)) := by
  refine F.ok sc_l_owner (fun vs H Q E h => ?_) (fun cdv A outer s H vs Q E hr h => ?_)
  · obtain ⟨n, rfl, _⟩ := h
    rfl
  · obtain ⟨n, rfl, k⟩ := h
    refine ⟨_, PSs.nox (pss_one (ps_ret (pe_op op_fdiv (pe_op op_sub (pv 0) pe_int) pe_int))), ?_⟩
    walk_at "rd"
    exact k
abbrev N_l_is_end : List Str := ["_law_event"]
theorem sc_l_is_end : FnScope N_l_is_end ["_law_event"] (defScope s_l_is_end) := ⟨rfl, rfl, rfl, by decide +kernel, rfl, by decide +kernel, by decide +kernel⟩
-- slots: 0 _law_event
theorem ok_l_is_end (F : FD K "_law_is_end" "_law_is_end" s_l_is_end f fd) (k_l_owner : Cal P w K mg base "_law_owner" ["_law_event"] 1 (spI1 fun n => .int (own n))) : FnOk P w K mg base CX0 2 f fd ["_law_event"] (spI1 fun n => .bl (isEndB n)) := by
  refine F.ok sc_l_is_end (fun vs H Q E h => ?_) (fun cdv A outer s H vs Q E hr h => ?_)
  · obtain ⟨n, rfl, _⟩ := h
    rfl
  · obtain ⟨n, rfl, k⟩ := h
    refine ⟨_, PSs.nox (pss_one (ps_ret (pe_and (pe_cmpR op_gt (pv 0) pe_int (nomark _)) (pe_one (pe_cmpR op_eq (pe_op op_sub (pv 0) (pe_op op_mul pe_int (pe_cal k_l_owner (hr.mono (by decide)) (by rfl) (pa_cons (pv 0) pa_nil)))) pe_int (nomark _)))))), ?_⟩
    walk_at "rd"
    by_cases h : 0 < n
    · refine ifDt h ?_
      walk_at "rd"
      refine rSpI1 ?_
      walk_at "rd"
      have e : decide (n - 2 * own n = 2) = isEndB n := by
        unfold isEndB own
        rw [decide_eq_true h, Bool.true_and, decide_eq_decide]
        omega
      rw [e]
      exact k
    · refine ifDf h ?_
      have e : isEndB n = false := by
        unfold isEndB
        rw [decide_eq_false h, Bool.false_and]
      replace k : Q (.bl (isEndB n)) H := k
      rw [e] at k
      exact k
def spBetween : Sp := fun vs H Q _ => ∃ v l h : Int, vs = [.int v, .int l, .int h] ∧ Q (.bl (decide (l ≤ v) && decide (v ≤ h))) H
abbrev N_l_between : List Str := ["_law_value", "_law_low", "_law_high"]
theorem sc_l_between : FnScope N_l_between ["_law_value", "_law_low", "_law_high"] (defScope s_l_between) := ⟨rfl, rfl, rfl, by decide +kernel, rfl, by decide +kernel, by decide +kernel⟩
-- slots: 0 _law_value, 1 _law_low, 2 _law_high
theorem ok_l_between (F : FD K "_law_between" "_law_between" s_l_between f fd) (Z : Fr0 mg) : FnOk P w K mg base CX0 1 f fd ["_law_value", "_law_low", "_law_high"] spBetween := by
  refine F.ok sc_l_between (fun vs H Q E h => ?_) (fun cdv A outer s H vs Q E hr h => ?_)
  · obtain ⟨_, _, _, rfl, _⟩ := h
    rfl
  · obtain ⟨v, l, u, rfl, k⟩ := h
    refine ⟨_, PSs.nox (pss_one (ps_ret (pe_and (pe_callB call_isi (by rfl) Z.isinstance (by decide +kernel) (pa_cons (pv 0) (pa_cons (pe_bltn (v := .ty "int") (u := .type "int") (by rfl) Z.int (by decide +kernel) rfl) pa_nil))) (pe_and (pe_not (pe_callB call_isi (by rfl) Z.isinstance (by decide +kernel) (pa_cons (pv 0) (pa_cons (pe_bltn (v := .ty "bool") (u := .type "bool") (by rfl) Z.bool (by decide +kernel) rfl) pa_nil)))) (pe_one (pe_chain op_le op_le (pv 1) (pv 0) (pv 2))))))), ?_⟩
    walk_at "rd"
    refine rIsi1 (tyi v) kb_ii ?_
    walk_at "rd"
    refine rIsi1 (tyi v) kb_ib ?_
    walk_at "rd"
    refine rChain ?_
    walk_at "rd"
    by_cases h : l ≤ v
    · refine ifDt h ?_
      walk_at "rd"
      rw [decide_eq_true h, Bool.true_and] at k
      exact k
    · refine ifDf h ?_
      rw [decide_eq_false h, Bool.false_and] at k
      exact k
abbrev N_l_bounds : List Str := ["_law_brief", "_law_tasks", "_law_arrows", "_law_limits", "_law_deadline", "_law_found", "_law_i", "_law_times", "_law_limit", "_law_j"]
theorem sc_l_bounds : FnScope N_l_bounds ["_law_brief"] (defScope s_l_bounds) := ⟨rfl, rfl, rfl, by decide +kernel, rfl, by decide +kernel, by decide +kernel⟩
-- slots: 0 _law_brief, 1 _law_tasks, 2 _law_arrows, 3 _law_limits, 4 _law_deadline, 5 _law_found, 6 _law_i, 7 _law_times, 8 _law_limit, 9 _law_j
theorem ok_l_bounds (ok : B.Ok) (F : FD K "_law_bounds" "_law_bounds" s_l_bounds f fd) (Z : Fr0 mg) : FnOk P w K mg base CX0 1 f fd ["_law_brief"] (spBounds B) := by
  refine F.ok sc_l_bounds (fun vs H Q E h => ?_) (fun cdv A0 outer s H vs Q E hr h => ?_)
  · obtain ⟨_, rfl, _⟩ := h
    rfl
  · obtain ⟨A, rfl, bf, k⟩ := h
    have hu := hu_of hr
    have nd := sc_l_bounds.nd
    refine ⟨_, PSs.nox (pss_cons (ps_asg (pv 0) (pg_tup rfl (pgs_cons (pg_tup rfl (pgs_cons (pg_name (i := 1) nd rfl (by first | exact Or.inl rfl | exact Or.inr rfl)) (pgs_cons (pg_name (i := 2) nd rfl (by first | exact Or.inl rfl | exact Or.inr rfl)) pgs_nil))) (pgs_cons (pg_name (i := 3) nd rfl (by first | exact Or.inl rfl | exact Or.inr rfl)) (pgs_cons (pg_name (i := 4) nd rfl (by first | exact Or.inl rfl | exact Or.inr rfl)) pgs_nil)))))
      (pss_cons (ps_set (i := 5) nd rfl (by first | exact Or.inl rfl | exact Or.inr rfl) (pe_op op_cat (pe_lc (own := [("_law_limit", 8)]) (g := (gName 8)) (tt := tYes) (by rfl) nd (pi_tup (pv 3)) (blkOk_by (own := [("_law_limit", 8)]) (N := N_l_bounds) (sc := defScope s_l_bounds) (by decide +kernel)) (fun _ _ _ _ _ => (pg_name (i := 8) nd rfl (by first | exact Or.inl rfl | exact Or.inr rfl))) (fun _ _ _ _ _ => pts_nil) (fun _ _ _ _ _ => (pv 8))) (pe_lc (own := [("_law_i", 6), ("_law_j", 9)]) (g := (gTup K 2 (gCons (gName 6) (gCons (gName 9) gNil)))) (tt := tYes) (by rfl) nd (pi_tup (pv 2)) (blkOk_by (own := [("_law_i", 6), ("_law_j", 9)]) (N := N_l_bounds) (sc := defScope s_l_bounds) (by decide +kernel)) (fun _ _ _ _ _ => (pg_tup rfl (pgs_cons (pg_name (i := 6) nd rfl (by first | exact Or.inl rfl | exact Or.inr rfl)) (pgs_cons (pg_name (i := 9) nd rfl (by first | exact Or.inl rfl | exact Or.inr rfl)) pgs_nil)))) (fun _ _ _ _ _ => pts_nil) (fun _ _ _ _ _ => (pe_tup (pa_cons (pe_op op_add (pe_op op_mul pe_int (pv 9)) pe_int) (pa_cons (pe_op op_add (pe_op op_mul pe_int (pv 6)) pe_int) (pa_cons pe_int pa_nil))))))))
      (pss_cons (ps_set (i := 5) nd rfl (by first | exact Or.inl rfl | exact Or.inr rfl) (pe_op op_cat (pv 5) (pe_lc (own := [("_law_i", 6)]) (g := (gName 6)) (tt := tYes) (by rfl) nd (pi_range1 (by rfl) Z.range (pa_cons (pe_callB call_lenS (by rfl) Z.len (by decide +kernel) (pa_cons (pv 1) pa_nil)) pa_nil)) (blkOk_by (own := [("_law_i", 6)]) (N := N_l_bounds) (sc := defScope s_l_bounds) (by decide +kernel)) (fun _ _ _ _ _ => (pg_name (i := 6) nd rfl (by first | exact Or.inl rfl | exact Or.inr rfl))) (fun _ _ _ _ _ => pts_nil) (fun _ _ _ _ _ => (pe_tup (pa_cons pe_int (pa_cons (pe_op op_add (pe_op op_mul pe_int (pv 6)) pe_int) (pa_cons (pv 4) pa_nil))))))))
      (pss_cons (ps_set (i := 5) nd rfl (by first | exact Or.inl rfl | exact Or.inr rfl) (pe_op op_cat (pv 5) (pe_lc (own := [("_law_i", 6)]) (g := (gName 6)) (tt := tYes) (by rfl) nd (pi_range1 (by rfl) Z.range (pa_cons (pe_callB call_lenS (by rfl) Z.len (by decide +kernel) (pa_cons (pv 1) pa_nil)) pa_nil)) (blkOk_by (own := [("_law_i", 6)]) (N := N_l_bounds) (sc := defScope s_l_bounds) (by decide +kernel)) (fun _ _ _ _ _ => (pg_name (i := 6) nd rfl (by first | exact Or.inl rfl | exact Or.inr rfl))) (fun _ _ _ _ _ => pts_nil) (fun _ _ _ _ _ => (pe_tup (pa_cons (pe_op op_add (pe_op op_mul pe_int (pv 6)) pe_int) (pa_cons pe_int (pa_cons pe_int pa_nil))))))))
      (pss_cons (ps_for PassesOwn.never rfl (pi_enumT (by rfl) Z.enumerate (pa_cons (pv 1) pa_nil)) (pg_tup rfl (pgs_cons (pg_name (i := 6) nd rfl (by first | exact Or.inl rfl | exact Or.inr rfl)) (pgs_cons (pg_name (i := 7) nd rfl (by first | exact Or.inl rfl | exact Or.inr rfl)) pgs_nil)))
        (pss_one (ps_set (i := 5) nd rfl (by first | exact Or.inl rfl | exact Or.inr rfl) (pe_op op_cat (pv 5) (pe_lst (pa_cons (pe_tup (pa_cons (pe_op op_add (pe_op op_mul pe_int (pv 6)) pe_int) (pa_cons (pe_op op_add (pe_op op_mul pe_int (pv 6)) pe_int) (pa_cons (pe_ix ix_tup (pv 7) pe_int (fun _ _ => rfl)) pa_nil)))) (pa_cons (pe_tup (pa_cons (pe_op op_add (pe_op op_mul pe_int (pv 6)) pe_int) (pa_cons (pe_op op_add (pe_op op_mul pe_int (pv 6)) pe_int) (pa_cons (pe_un un_neg (pe_ix ix_tup (pv 7) pe_int (fun _ _ => rfl))) pa_nil)))) pa_nil)))))))
      (pss_one (ps_ret (pv 5)))))))), ?_⟩
    have n4 := ok.n4
    walk_at "rd"
    refine rGTup bf.hb rfl ?_
    walk_at "rd"
    refine rGTup bf.hp rfl ?_
    walk_at "rd"
    have la := bf.ra.len
    have ll := bf.rl.len
    have lt := bf.rt.len
    rw [List.length_map] at la ll lt
    have aN := ok.an
    have lN := ok.ln
    have lT : A.tv.length ≤ 4 := by rw [lt]; exact n4
    -- the limits, as they are
    refine lcT (xs := A.lv) (fun D j H' => H D = none ∧ Fm [D] H H' ∧ H' D = some (.lst (A.lv.take j))) (SqT.of bf.hl) (fun D h => ⟨h, Fm.new h, upd_same⟩) ?_ ?_ ?_
    · rintro D j H' _ ⟨_, fm, _⟩
      exact SqT.of (fm.tup _ _ bf.hl)
    · rintro D j x H' hx ⟨h, fm, hd⟩
      walk_at "rd"
      refine ⟨rfl, ?_⟩
      walk_at "rd"
      refine ⟨_, hd, line9l (by rw [List.length_take]; omega), h, fm.trans (Fm.wr (by simp) hd (fun _ z => nomatch z)), ?_⟩
      rw [upd_same, List.take_add_one, hx]
      rfl
    · rintro D1 H1 ⟨nD1, fm1, hd1⟩
      rw [List.take_length] at hd1
      have F1 : Fm [] H H1 := Fm.drop (L := [D1]) fm1 fun b z => by rw [List.mem_singleton.mp z]; exact nD1
      have R1 := bf.rl.fm F1
      have ha1 := F1.tup _ _ bf.ha
      walk_at "rd"
      refine ⟨_, rfl, ⟨_, SqT.of ha1⟩, lcRows (walk_tup (xs := A.av)) (fun H' f => SqT.of (f.tup _ _ ha1)) (by omega) (fun i => rowL ((fun p : Int × Int => (2 * p.2 + 1, 2 * p.1 + 2, (0 : Int))) (B.arrows.getD i (0, 0)))) ?_ ?_⟩
      · rintro i x H2 H2' hi g2 ⟨rfl, hx⟩ Qk kq
        obtain ⟨a, r, rfl, hr1, hr2⟩ := bf.ra.of_get hx
        rw [List.getElem?_map] at hr1
        obtain ⟨p, hp, rfl⟩ := Option.map_eq_some_iff.mp hr1
        have hp' : B.arrows.getD i (0, 0) = p := by rw [List.getD_eq_getElem?_getD, hp]; rfl
        rw [hp'] at kq
        refine rGTup (xs := [.int p.1, .int p.2]) (g2.tup _ _ (F1.tup _ _ hr2)) rfl ?_
        walk_at "rd"
        refine ⟨rfl, ?_⟩
        walk_at "rd"
        exact rNewT (ok100 rfl) fun q H3 n3 f3 t3 => kq q H3 f3 t3
      · intro D2 ws2 H2 nD2 g2 hD2 r2
        rw [la, range_getD (0, 0) (fun p : Int × Int => rowL (2 * p.2 + 1, 2 * p.1 + 2, (0 : Int)))] at r2
        have l2 := r2.len
        rw [List.length_map] at l2
        refine rCatN (g2.oth _ _ (fun z => nomatch z) hd1) hD2 (by omega) fun D3 H3 n3 f3 t3 => ?_
        have R3 := (((R1.fm g2).fm f3).app (r2.fm f3))
        have F3 := (F1.trans g2).trans f3
        walk_at "rd"
        have ht3 := F3.tup _ _ bf.ht
        refine rLenT ht3 ?_
        walk_at "rd"
        have en : ((A.tv.length : Nat) : Int).toNat = B.n := by rw [lt]; show ((B.n : Nat) : Int).toNat = B.n; omega
        refine ⟨_, rfl, by omega, by omega, lcRows walk_r0 (fun _ _ => trivial) (by rw [en]; omega) (fun i => rowL (0, 2 * (i : Int) + 2, B.dl)) ?_ ?_⟩
        · rintro i x H4 H4' hi g4 ⟨rfl, rfl⟩ Qk kq
          walk_at "rd"
          refine ⟨rfl, ?_⟩
          walk_at "rd"
          exact rNewT (ok100 rfl) fun q H5 n5 f5 t5 => kq q H5 f5 t5
        · intro D4 ws4 H4 nD4 g4 hD4 r4
          rw [en] at r4
          have l4 := r4.len
          rw [List.length_map, List.length_range] at l4
          refine rCatN (g4.oth _ _ (fun z => nomatch z) t3) hD4 (by rw [List.length_append]; omega) fun D5 H5 n5 f5 t5 => ?_
          have R5 := (((R3.fm g4).fm f5).app (r4.fm f5))
          have F5 := (F3.trans g4).trans f5
          walk_at "rd"
          have ht5 := F5.tup _ _ bf.ht
          refine rLenT ht5 ?_
          walk_at "rd"
          refine ⟨_, rfl, by omega, by omega, lcRows walk_r0 (fun _ _ => trivial) (by rw [en]; omega) (fun i => rowL (2 * (i : Int) + 1, 0, 0)) ?_ ?_⟩
          · rintro i x H6 H6' hi g6 ⟨rfl, rfl⟩ Qk kq
            walk_at "rd"
            refine ⟨rfl, ?_⟩
            walk_at "rd"
            exact rNewT (ok100 rfl) fun q H7 n7 f7 t7 => kq q H7 f7 t7
          · intro D6 ws6 H6 nD6 g6 hD6 r6
            rw [en] at r6
            have l6 := r6.len
            rw [List.length_map, List.length_range] at l6
            refine rCatN (g6.oth _ _ (fun z => nomatch z) t5) hD6 (by rw [List.length_append, List.length_append]; omega) fun D7 H7 n7 f7 t7 => ?_
            have R7 := (((R5.fm g6).fm f7).app (r6.fm f7))
            have F7 := (F5.trans g6).trans f7
            have nD7 : H D7 = none := (F5.trans g6).fre _ n7
            walk_at "rd"
            have eh : B.limits.map rowL ++ B.arrows.map (fun p : Int × Int => rowL (2 * p.2 + 1, 2 * p.1 + 2, (0 : Int))) ++ (List.range B.n).map (fun i : Nat => rowL (0, 2 * (i : Int) + 2, B.dl)) ++ (List.range B.n).map (fun i : Nat => rowL (2 * (i : Int) + 1, 0, 0)) = B.head.map rowL := by
              unfold Br.head
              simp only [List.map_append, List.map_map]
              rfl
            rw [eh] at R7
            refine ⟨_, _, rfl, SqT.of (F7.tup _ _ bf.ht), forJ (walk_enT (xs := A.tv)) (fun j σ' H' => ∃ (o6 o7 : Option V) (D : Addr) (ws : List V), σ' = [some (.ref A.b), some (.ref A.ts), some (.ref A.ar), some (.ref A.lm), some (.int B.dl), some (.ref D), o6, o7, none, none] ∧ Fm [] H H' ∧ H' D = some (.lst ws) ∧ H D = none ∧
              Rows H' ws ((B.head ++ (List.range j).flatMap B.dur).map rowL)) ⟨_, _, _, _, rfl, F7, t7, nD7, by rw [show (List.range 0).flatMap B.dur = [] from rfl, List.append_nil]; exact R7⟩ ?_ ?_ ?_⟩
            · rintro j σ' H' _ ⟨_, _, _, ws, _, G, _⟩
              exact SqT.of (G.tup _ _ bf.ht)
            · rintro j x σ' H' H8 hj ⟨o6, o7, D, ws, rfl, G, hD, nD, R8⟩ ⟨T, x1, rfl, e2, f8, hT⟩
              have hj' : B.tk (j : Int) := ⟨by omega, by have := lt; unfold Br.n; omega⟩
              obtain ⟨a, h1, h2⟩ := bf.task hj'
              rw [show ((j : Nat) : Int).toNat = j by omega, e2] at h1
              cases h1
              have G8 := G.trans f8
              have hD8 := f8.oth _ _ (fun z => nomatch z) hD
              refine rGTup hT rfl ?_
              walk_at "rd"
              refine rIxTl (G8.tup _ _ h2) rfl ?_
              walk_at "rd"
              refine rNewT (ok100 rfl) fun q9 H9 n9 f9 t9 => ?_
              walk_at "rd"
              refine rIxTl (f9.tup _ _ (G8.tup _ _ h2)) rfl ?_
              walk_at "rd"
              refine rNewT (ok100 rfl) fun q11 H11 n11 f11 t11 => ?_
              walk_at "rd"
              refine rNewL (ok100 rfl) fun q12 H12 n12 f12 t12 => ?_
              have l9 := R8.len
              rw [List.length_map, List.length_append, Br.head_len, Br.dur_len] at l9
              have jn : j < B.n := by unfold Br.n; omega
              have f19 := (f9.trans f11).trans f12
              refine rCatN (f19.oth _ _ (fun z => nomatch z) hD8) t12 (by show ws.length + 2 ≤ _; omega) fun D13 H13 n13 f13 t13 => ?_
              walk_at "rd"
              refine ⟨_, _, _, _, rfl, (G8.trans f19).trans f13, t13, (G8.trans f19).fre _ n13, ?_⟩
              rw [List.range_succ, List.flatMap_append, ← List.append_assoc, List.map_append]
              refine (((R8.fm f8).fm f19).fm f13).app ?_
              exact .cons ⟨q9, rfl, f13.tup _ _ (f12.tup _ _ (f11.tup _ _ t9))⟩ (.cons ⟨q11, rfl, f13.tup _ _ (f12.tup _ _ t11)⟩ .nil)
            · rintro σ' H' ⟨o6, o7, D, ws, rfl, G, hD, nD, R8⟩
              walk_at "rd"
              rw [show A.tv.length = B.n from lt] at R8
              exact k D ws H' G hD R8 nD
/-- what a reason gives, as the law's tuple -/
def rowG (x : Line) : List V := [.str (kindS x.most), .int x.a, .int x.b, .int x.w]
def spAlone (B : Br) : Sp := fun vs H Q _ => ∃ (Ab : BA) (x : Line) (m : Nat) (k : Nat), vs = [.ref Ab.b, .str x.r.word, .int (k : Nat)] ∧ (x.r = .bound k ∨ x.r = .high k) ∧ BriefAt H Ab B ∧ Gives B [] m x ∧ ∀ (q : Addr) (H' : Hp), Fm [] H H' → H' q = some (.tup (rowG x)) → Q (.ref q) H'
abbrev N_l_gives_alone : List Str := ["_law_brief", "_law_word", "_law_k"]
theorem sc_l_gives_alone : FnScope N_l_gives_alone ["_law_brief", "_law_word", "_law_k"] (defScope s_l_gives_alone) := ⟨rfl, rfl, rfl, by decide +kernel, rfl, by decide +kernel, by decide +kernel⟩
-- slots: 0 _law_brief, 1 _law_word, 2 _law_k
theorem ok_l_gives_alone (ok : B.Ok) (F : FD K "_law_gives_alone" "_law_gives_alone" s_l_gives_alone f fd) (Z : Fr0 mg) (k_l_bounds : Cal P w K mg base "_law_bounds" ["_law_brief"] 1 (spBounds B)) (k_l_between : Cal P w K mg base "_law_between" ["_law_value", "_law_low", "_law_high"] 1 spBetween) :
    FnOk P w K mg base CX0 2 f fd ["_law_brief", "_law_word", "_law_k"] (spAlone B) := by
  refine F.ok sc_l_gives_alone (fun vs H Q E h => ?_) (fun cdv A0 outer s H vs Q E hr h => ?_)
  · obtain ⟨_, _, _, _, rfl, _⟩ := h
    rfl
  · obtain ⟨Ab, ⟨mo, a, b, wt, r⟩, m, n, rfl, hk, bf, g, k⟩ := h
    have hu := hu_of hr
    have nd := sc_l_gives_alone.nd
    refine ⟨_, PSs.nox (pss_cons (ps_if (PW.pt (pw_and (pt_cmpR op_eq (pv 1) pe_str (nomark _)) (pw_and1 (pt_val (pe_cal k_l_between (hr.mono (by decide)) (by rfl) (pa_cons (pv 2) (pa_cons pe_int (pa_cons (pe_op op_sub (pe_callB call_lenS (by rfl) Z.len (by decide +kernel) (pa_cons (pe_cal k_l_bounds (hr.mono (by decide)) (by rfl) (pa_cons (pv 0) pa_nil)) pa_nil)) pe_int) pa_nil)))))))) (pss_one (ps_ret (pe_op op_catA (pe_tup (pa_cons pe_str pa_nil)) (pe_ix ix_list (pe_cal k_l_bounds (hr.mono (by decide)) (by rfl) (pa_cons (pv 0) pa_nil)) (pv 2) (fun _ _ => rfl))))) pss_nil)
      (pss_cons (ps_if (PW.pt (pw_and (pt_cmpR op_eq (pv 1) pe_str (nomark _)) (pw_and1 (pt_val (pe_cal k_l_between (hr.mono (by decide)) (by rfl) (pa_cons (pv 2) (pa_cons pe_int (pa_cons (pe_op op_sub (pe_callB call_lenS (by rfl) Z.len (by decide +kernel) (pa_cons (pe_ix ix_tup (pe_ix ix_tup (pv 0) pe_int (fun _ _ => rfl)) pe_int (fun _ _ => rfl)) pa_nil)) pe_int) pa_nil)))))))) (pss_one (ps_ret (pe_tup (pa_cons pe_str (pa_cons (pv 2) (pa_cons (pe_op op_add (pe_op op_mul pe_int (pv 2)) pe_int) (pa_cons (pe_ix ix_tup (pe_ix ix_tup (pe_ix ix_tup (pe_ix ix_tup (pv 0) pe_int (fun _ _ => rfl)) pe_int (fun _ _ => rfl)) (pv 2) (fun _ _ => rfl)) pe_int (fun _ _ => rfl)) pa_nil))))))) pss_nil)
      (pss_one (ps_ret pe_non)))), ?_⟩
    have lt := bf.rt.len
    rw [List.length_map] at lt
    rcases hk with hk | hk
    · obtain rfl : r = .bound n := hk
      obtain ⟨g1, g2⟩ := g
      obtain rfl : mo = true := g1
      walk_at "rd"
      refine rEqS (r := true) (show decide (("bound" : Str) = "bound") = true by decide +kernel) ?_
      walk_at "rd"
      refine ⟨Ab, rfl, bf, fun q1 ws H1 f1 t1 R1 n1 => ?_⟩
      walk_at "rd"
      refine rLenL (SqL.of t1) ?_
      walk_at "rd"
      have lw := R1.len
      rw [List.length_map] at lw
      have hn := (List.getElem?_eq_some_iff.mp g2).1
      refine ⟨_, _, _, rfl, ?_⟩
      rw [decide_eq_true (by omega), decide_eq_true (by omega), Bool.true_and]
      walk_at "rd"
      refine rNewT (ok100 rfl) fun q2 H2 n2 f2 t2 => ?_
      walk_at "rd"
      refine ⟨Ab, rfl, bf.fm (f1.trans f2), fun q3 ws3 H3 f3 t3 R3 n3 => ?_⟩
      walk_at "rd"
      obtain ⟨ad, h1, h2⟩ := R3.get (i := n) (r := [.int a, .int b, .int wt]) (by rw [List.getElem?_map, g2]; rfl)
      refine rIxLn (SqL.of t3) h1 ?_
      refine rCatA1 (f3.tup _ _ t2) h2 (ok100 rfl) (fun z => nomatch z) (fun z => nomatch z) (rNewT0 fun q4 H4 n4 f4 t4 => ?_)
      walk_at "rd"
      exact k q4 H4 (((f1.trans f2).trans f3).trans f4) t4
    · obtain rfl : r = .high n := hk
      obtain ⟨g1, g2, g3, g4, g5⟩ := g
      simp only at g1 g2 g3 g4 g5
      subst g1 g3 g4 g5
      walk_at "rd"
      refine rEqS (r := false) (show decide (("high" : Str) = "bound") = false by decide +kernel) ?_
      walk_at "rd"
      refine rEqS (r := true) (show decide (("high" : Str) = "high") = true by decide +kernel) ?_
      walk_at "rd"
      refine rIxTl bf.hb rfl ?_
      walk_at "rd"
      refine rIxTl bf.hp rfl ?_
      walk_at "rd"
      refine rLenT bf.ht ?_
      walk_at "rd"
      refine ⟨_, _, _, rfl, ?_⟩
      have ltn : Ab.tv.length = B.n := lt
      rw [decide_eq_true (by omega), decide_eq_true (by omega), Bool.true_and]
      walk_at "rd"
      refine rIxTl bf.hb rfl ?_
      walk_at "rd"
      refine rIxTl bf.hp rfl ?_
      walk_at "rd"
      obtain ⟨ad, h1, h2⟩ := bf.task (i := (n : Nat)) ⟨by omega, by omega⟩
      refine rIxTi (SqT.of bf.ht) (by omega) h1 ?_
      walk_at "rd"
      refine rIxTl h2 rfl ?_
      walk_at "rd"
      exact rNewT (ok100 rfl) fun q4 H4 n4 f4 t4 => k q4 H4 f4 t4
end
end A68
set_option maxRecDepth 100000
set_option maxHeartbeats 4000000
/-! The law's gives. -/
namespace A68
open PySem PySem.Spec PyProof.Rows L2
theorem rInLS {K : PySem.W.Frag} {H : Hp} {Q : VK} {a : Addr} {s : Str} {xs : List V} {r : Bool} (h : H a = some (.lst xs)) (f : xs.all flatV = true) (e : inV (.str s) xs = r) (q : Q (.bl r) H) : rIn K false (.str s) (.ref a) H Q :=
  ⟨a, xs, rfl, .inl (SqL.of h), rfl, f, by rw [if_neg Bool.false_ne_true, e]; exact q⟩
theorem inV_rep : ∀ n : Nat, (List.replicate n (V.bl true)).all flatV = true ∧ inV (.bl false) (List.replicate n (V.bl true)) = false
  | 0 => ⟨rfl, rfl⟩
  | n + 1 => by
    obtain ⟨h1, h2⟩ := inV_rep n
    rw [List.replicate_succ]
    exact ⟨by rw [List.all_cons, h1]; rfl, by unfold inV at h2 ⊢; rw [List.any_cons, h2]; rfl⟩
theorem rInBs {K : PySem.W.Frag} {H : Hp} {Q : VK} {a : Addr} {n : Nat} (h : H a = some (.lst (List.replicate n (V.bl true)))) (q : Q (.bl false) H) : rIn K false (.bl false) (.ref a) H Q :=
  ⟨a, _, rfl, .inl (SqL.of h), rfl, (inV_rep n).1, by rw [if_neg Bool.false_ne_true, (inV_rep n).2]; exact q⟩
theorem rNotInBs {K : PySem.W.Frag} {H : Hp} {Q : VK} {a : Addr} {n : Nat} (h : H a = some (.lst (List.replicate n (V.bl true)))) (q : Q (.bl true) H) : rIn K true (.bl false) (.ref a) H Q :=
  ⟨a, _, rfl, .inl (SqL.of h), rfl, (inV_rep n).1, by rw [if_pos rfl, (inV_rep n).2]; exact q⟩
theorem rB1 {d b : Bool} {k : Bool → Prop} (e : d = b) (q : k b) : k d := by rw [e]; exact q
/-- [between(x, 0, m - 1) for x in numbers], all of them true -/
theorem lcTrue {J : It} {n : Nat} {G : Hp → Prop} {Y : Nat → Hp → V → Hp → Prop} {g : TG} {te : TE} {vs : List Nat} {σ : St} {H : Hp} {Q : VK} (w : Walk J n G Y) (hG : ∀ H', Fm [] H H' → G H') (hn : n ≤ 1000)
    (step : ∀ i x H1 H2, i < n → Fm [] H H1 → Y i H1 x H2 → ∀ Qk : VK, (∀ H3, Fm [] H1 H3 → Qk (.bl true) H3) → g x (wipe σ vs) H2 fun σ2 H2' => wipe σ2 vs = wipe σ vs ∧ te σ2 H2' Qk)
    (fin : ∀ (D : Addr) (H' : Hp), H D = none → Fm [] H H' → H' D = some (.lst (List.replicate n (V.bl true))) → Q (.ref D) H') : LcJ J g tYes te vs σ H Q := by
  have dr : ∀ {D H'}, H D = none → Fm [D] H H' → Fm [] H H' := fun {D H'} h f => Fm.drop (L := [D]) f fun b z => by rw [List.mem_singleton.mp z]; exact h
  refine lcJ w (fun D j H' => H D = none ∧ Fm [D] H H' ∧ H' D = some (.lst (List.replicate j (V.bl true)))) (fun D h => ⟨h, Fm.new h, upd_same⟩) ?_ ?_ ?_
  · rintro D i H' _ ⟨h, f, _⟩
    exact hG H' (dr h f)
  · rintro D i x H1 H2 hi ⟨h, f, hD⟩ y
    refine step i x H1 H2 hi (dr h f) y _ fun H3 f3 => ?_
    have h3 := f3.oth _ _ (fun z => nomatch z) hD
    refine ⟨_, h3, line9l (by rw [List.length_replicate]; omega), h, (f.trans f3.up).trans (Fm.wr (by simp) h3 (fun _ z => nomatch z)), ?_⟩
    rw [upd_same, List.replicate_succ']
  · rintro D H' ⟨h, f, hD⟩
    exact fin D H' h (dr h f) hD
theorem lcBetween {K : PySem.W.Frag} {g : TG} {te : TE} {vs : List Nat} {σ : St} {H : Hp} {Q : VK} {a : Addr} {ns : List Nat} {m : Nat} (h : H a = some (.tup (intN ns))) (lt : (∀ n ∈ ns, n < m) ∧ ns.length ≤ 2)
    (step : ∀ (i : Nat) (σ1 : St) (H2 : Hp) (Qk : VK), i < m → Qk (.bl true) H2 → g (.int (i : Nat)) (wipe σ vs) H2 fun σ2 H2' => wipe σ2 vs = wipe σ vs ∧ te σ2 H2' Qk)
    (fin : ∀ (D : Addr) (H' : Hp), Fm [] H H' → H' D = some (.lst (List.replicate ns.length (V.bl true))) → Q (.ref D) H') : ∃ b, V.ref a = .ref b ∧ (∃ ys, SqT K H b ys) ∧ LcJ (Itt K b) g tYes te vs σ H Q := by
  have ll : (intN ns).length = ns.length := by unfold intN; rw [List.length_map]
  refine ⟨a, rfl, ⟨_, SqT.of h⟩, lcTrue (walk_tup (xs := intN ns)) (fun H' f => SqT.of (f.tup _ _ h)) (by omega) ?_ fun D H' _ f t => fin D H' f (by rw [ll] at t; exact t)⟩
  rintro i x H1 H2 hi f ⟨e, hx⟩ Qk kq
  rw [e]
  unfold intN at hx
  rw [List.getElem?_map] at hx
  obtain ⟨n, hn, rfl⟩ := Option.map_eq_some_iff.mp hx
  exact step n σ H1 Qk (lt.1 n (List.mem_of_getElem? hn)) (kq H1 Fm.refl)
local macro_rules | `(tactic| walk_at "rd1") => `(tactic| first
  | ((with_reducible refine' rVar ?hx ?_); (case hx => rfl))
  | (with_reducible refine rC ?_)
  | (with_reducible refine rOp ?_)
  | (with_reducible refine rUn ?_)
  | (with_reducible refine rI0i ?_)
  | (with_reducible refine rUi ?_)
  | ((with_reducible refine rMulL ?a ?b ?_); (case a => decide); (case b => decide))
  | ((with_reducible refine rMulR ?a ?b ?_); (case a => decide); (case b => decide))
  | ((with_reducible refine rModP ?a ?_); (case a => decide))
  | ((with_reducible refine rDivP ?a ?b ?_); (case a => decide); (case b => decide))
  | ((with_reducible refine rPowL ?a ?b ?c ?_); (case a => decide); (case b => decide); (case c => decide))
  | (with_reducible refine rEqI ?_)
  | (with_reducible refine rNeI ?_)
  | (with_reducible refine rIsNi ?_)
  | (with_reducible refine rIsNn ?_)
  | (with_reducible refine rIsNr ?_)
  | (with_reducible refine rNotNi ?_)
  | (with_reducible refine rNotNn ?_)
  | (with_reducible refine rNotNr ?_)
  | (with_reducible refine rTest ?_)
  | (with_reducible refine rTB ?_)
  | (with_reducible refine rBlV ?_)
  | (with_reducible refine rAnd ?_)
  | (with_reducible refine rOr ?_)
  | (with_reducible refine rNot ?_)
  | (with_reducible refine rAndV ?_)
  | (with_reducible refine rOrV ?_)
  | (with_reducible refine rNotV ?_)
  | (with_reducible refine rIf ?_)
  | (with_reducible refine rNil ?_)
  | (with_reducible refine rCons ?_)
  | (with_reducible refine rTup ?_)
  | (with_reducible refine rLst ?_)
  | (with_reducible refine rCB ?_)
  | (with_reducible refine rCall ?_)
  | (with_reducible refine rBM ?_)
  | (with_reducible refine rMin2i ?_)
  | (with_reducible refine rMax2i ?_)
  | (with_reducible refine rInt1i ?_)
  | (with_reducible refine rPartN ?_)
  | (with_reducible refine rPart ?_)
  | (with_reducible refine rInt ?_)
  | (with_reducible refine rSlS ?_)
  | (with_reducible refine rSFld ?_)
  | (with_reducible refine rSDPut ?_)
  | (with_reducible refine rDGet ?_)
  | (with_reducible refine rDIn ?_)
  | (with_reducible refine rDNotIn ?_)
  | (with_reducible refine rSeq ?_)
  | (with_reducible refine rAsg ?_)
  | (with_reducible refine rName ?_)
  | (with_reducible refine rDrop ?_)
  | (with_reducible refine rRet ?_)
  | (with_reducible refine rIfS ?_)
  | (with_reducible refine rNext ?_)
  | (with_reducible refine rPar ?_)
  | (with_reducible refine rPar2 ?_)
  | (with_reducible refine rMeth ?_)
  | (with_reducible refine rGCons ?_)
  | (with_reducible refine rGNil ?_)
  | (with_reducible refine rForS ?_)
  | (with_reducible refine rLcS ?_)
  | (with_reducible refine rIL ?_)
  | (with_reducible refine rIT ?_)
  | (with_reducible refine rIE ?_)
  | (with_reducible refine rYes ?_)
  | (with_reducible refine rIR1 ?_)
  | (with_reducible refine rIR2 ?_)
  | (with_reducible refine rIET ?_)
  | (with_reducible refine ifSn ?_)
  | (with_reducible refine ifNn ?_)
  | (with_reducible refine ifSs ?_)
  | (with_reducible refine ifNs ?_)
  | (with_reducible refine rNotNfs ?_)
  | (with_reducible refine rNotNfn ?_)
  | (with_reducible refine rIsNfs ?_)
  | (with_reducible refine rIsNfn ?_)
  | (with_reducible refine ifT ?_)
  | (with_reducible refine ifF ?_)
  | (with_reducible refine ifNT ?_)
  | (with_reducible refine ifNF ?_))
local macro_rules | `(tactic| walk_at "rd") => `(tactic| (repeat walk_at "rd1"))
def spGives (B : Br) : Sp := fun vs H Q _ => ∃ (Ab : BA) (L q : Addr) (xs : List V) (ls : List Line) (m : Nat) (x : Line), vs = [.ref Ab.b, .ref L, .int (m : Nat), .ref q] ∧ BriefAt H Ab B ∧ H L = some (.lst xs) ∧ LinesAt H xs ls ∧ Lines B ls ∧ Gives B ls m x ∧ H q = some (.tup x.r.vs) ∧
  ∀ (q' : Addr) (H' : Hp), Fm [] H H' → H' q' = some (.tup (rowG x)) → Q (.ref q') H'
section
variable {P : Program} {w : World} {K : PySem.W.Frag} {mg : Str → Option Value} {base : Heap} {f : Addr} {fd : FuncData} {B : Br}
abbrev N_l_gives : List Str := ["_law_brief", "_law_earlier", "_law_many", "_law_reason", "_law_tasks", "_law_word", "_law_k", "_law_kind", "_law_one", "_law_event", "_law_w", "_law_kind_of", "_law_first", "_law_second", "_law_more", "_law_task"]
theorem sc_l_gives : FnScope N_l_gives ["_law_brief", "_law_earlier", "_law_many", "_law_reason"] (defScope s_l_gives) := ⟨rfl, rfl, rfl, by decide +kernel, rfl, by decide +kernel, by decide +kernel⟩
-- slots: 0 _law_brief, 1 _law_earlier, 2 _law_many, 3 _law_reason, 4 _law_tasks, 5 _law_word, 6 _law_k, 7 _law_kind, 8 _law_one, 9 _law_event, 10 _law_w, 11 _law_kind_of, 12 _law_first, 13 _law_second, 14 _law_more, 15 _law_task
theorem ok_l_gives (ok : B.Ok) (F : FD K "_law_gives" "_law_gives" s_l_gives f fd) (Z : Fr0 mg) (k_l_gives_alone : Cal P w K mg base "_law_gives_alone" ["_law_brief", "_law_word", "_law_k"] 2 (spAlone B)) (k_l_between : Cal P w K mg base "_law_between" ["_law_value", "_law_low", "_law_high"] 1 spBetween)
    (k_l_owner : Cal P w K mg base "_law_owner" ["_law_event"] 1 (spI1 fun n => .int (own n))) (k_l_is_end : Cal P w K mg base "_law_is_end" ["_law_event"] 2 (spI1 fun n => .bl (isEndB n))) :
    FnOk P w K mg base CX0 3 f fd ["_law_brief", "_law_earlier", "_law_many", "_law_reason"] (spGives B) := by
  refine F.ok sc_l_gives (fun vs H Q E h => ?_) (fun cdv A0 outer s H vs Q E hr h => ?_)
  · obtain ⟨_, _, _, _, _, _, _, rfl, _⟩ := h
    rfl
  · obtain ⟨Ab, L, q, xs, ls, m, ⟨mo, a, b, wt, r⟩, rfl, bf, hL, hls, hB, g, hq, k⟩ := h
    have hu := hu_of hr
    have nd := sc_l_gives.nd
    refine ⟨_, PSs.nox (pss_cons (ps_set (i := 4) nd rfl (by first | exact Or.inl rfl | exact Or.inr rfl) (pe_ix ix_tup (pe_ix ix_tup (pv 0) pe_int (fun _ _ => rfl)) pe_int (fun _ _ => rfl)))
      (pss_cons (ps_if (PW.pt (pw_or (pt_not (pt_val (pe_callB call_isi (by rfl) Z.isinstance (by decide +kernel) (pa_cons (pv 3) (pa_cons (pe_bltn (v := .ty "tuple") (u := .type "tuple") (by rfl) Z.tuple (by decide +kernel) rfl) pa_nil))))) (pw_or (pt_not (pt_chain op_le op_le pe_int (pe_callB call_lenS (by rfl) Z.len (by decide +kernel) (pa_cons (pv 3) pa_nil)) pe_int)) (pw_or1 (pt_not (pt_val (pe_callB call_isi (by rfl) Z.isinstance (by decide +kernel) (pa_cons (pe_ix ix_tup (pv 3) pe_int (fun _ _ => rfl)) (pa_cons (pe_bltn (v := .ty "str") (u := .type "str") (by rfl) Z.str (by decide +kernel) rfl) pa_nil))))))))) (pss_one (ps_ret pe_non)) pss_nil)
      (pss_cons (ps_par (i := 5) (j := 6) (by rfl) nd rfl rfl (by decide) rfl rfl (pa_cons (pe_ix ix_tup (pv 3) pe_int (fun _ _ => rfl)) (pa_cons (pe_ix ix_tup (pv 3) pe_int (fun _ _ => rfl)) pa_nil)) (by rfl))
      (pss_cons (ps_if (pt_cmpR op_in_seq (pv 5) (pe_lst (pa_cons pe_str (pa_cons pe_str pa_nil))) (by rfl)) (pss_one (ps_ret (pe_ifExp (pt_cmpR op_eq (pe_callB call_lenS (by rfl) Z.len (by decide +kernel) (pa_cons (pv 3) pa_nil)) pe_int (nomark _)) (pe_cal k_l_gives_alone (hr.mono (by decide)) (by rfl) (pa_cons (pv 0) (pa_cons (pv 5) (pa_cons (pv 6) pa_nil)))) pe_non))) pss_nil)
      (pss_cons (ps_if (pt_cmpR op_in_seq pe_bl (pe_lc (own := [("_law_one", 8)]) (g := (gName 8)) (tt := tYes) (by rfl) nd (pi_tup (pe_slice sl_tupA (pv 3) (po_some pe_int) po_none)) (blkOk_by (own := [("_law_one", 8)]) (N := N_l_gives) (sc := defScope s_l_gives) (by decide +kernel)) (fun _ _ _ _ _ => (pg_name (i := 8) nd rfl (by first | exact Or.inl rfl | exact Or.inr rfl))) (fun _ _ _ _ _ => pts_nil) (fun _ _ _ _ _ => (pe_cal k_l_between (hr.mono (by decide)) (by rfl) (pa_cons (pv 8) (pa_cons pe_int (pa_cons (pe_op op_sub (pv 2) pe_int) pa_nil)))))) (by rfl)) (pss_one (ps_ret pe_non)) pss_nil)
      (pss_cons (ps_asg (pe_slice sl_tupA (pe_ix ix_list (pv 1) (pv 6) (fun _ _ => rfl)) po_none (po_some pe_int)) (pg_tup rfl (pgs_cons (pg_name (i := 7) nd rfl (by first | exact Or.inl rfl | exact Or.inr rfl)) (pgs_cons (pg_name (i := 8) nd rfl (by first | exact Or.inl rfl | exact Or.inr rfl)) (pgs_cons (pg_name (i := 9) nd rfl (by first | exact Or.inl rfl | exact Or.inr rfl)) (pgs_cons (pg_name (i := 10) nd rfl (by first | exact Or.inl rfl | exact Or.inr rfl)) pgs_nil))))))
      (pss_cons (ps_if (PW.pt (pw_and (pt_cmpR op_in_seq (pv 5) (pe_lst (pa_cons pe_str (pa_cons pe_str pa_nil))) (by rfl)) (pw_and1 (pt_cmpR op_eq (pe_callB call_lenS (by rfl) Z.len (by decide +kernel) (pa_cons (pv 3) pa_nil)) pe_int (nomark _))))) (pss_cons (ps_asg (pe_slice sl_tupA (pe_ix ix_list (pv 1) (pe_ix ix_tup (pv 3) pe_int (fun _ _ => rfl)) (fun _ _ => rfl)) po_none (po_some pe_int)) (pg_tup rfl (pgs_cons (pg_name (i := 11) nd rfl (by first | exact Or.inl rfl | exact Or.inr rfl)) (pgs_cons (pg_name (i := 12) nd rfl (by first | exact Or.inl rfl | exact Or.inr rfl)) (pgs_cons (pg_name (i := 13) nd rfl (by first | exact Or.inl rfl | exact Or.inr rfl)) (pgs_cons (pg_name (i := 14) nd rfl (by first | exact Or.inl rfl | exact Or.inr rfl)) pgs_nil))))))
        (pss_cons (ps_if (PW.pt (pw_and (pt_cmpR op_eq (pv 5) pe_str (nomark _)) (pw_and (pt_cmpR op_eq (pv 7) pe_str (nomark _)) (pw_and (pt_cmpR op_eq (pv 11) pe_str (nomark _)) (pw_and1 (pt_cmpR op_eq (pv 12) (pv 9) (nomark _))))))) (pss_one (ps_ret (pe_tup (pa_cons pe_str (pa_cons (pv 8) (pa_cons (pv 13) (pa_cons (pe_op op_add (pv 10) (pv 14)) pa_nil))))))) pss_nil)
        (pss_one (ps_if (PW.pt (pw_and (pt_cmpR op_eq (pv 5) pe_str (nomark _)) (pw_and (pt_cmpR op_eq (pv 7) pe_str (nomark _)) (pw_and (pt_cmpR op_eq (pv 11) pe_str (nomark _)) (pw_and (pt_cmpR op_eq (pv 13) (pv 9) (nomark _)) (pw_and1 (pt_cmpR op_ne (pv 12) (pe_op op_add (pe_op op_mul pe_int (pv 8)) pe_int) (nomark _)))))))) (pss_one (ps_ret (pe_tup (pa_cons pe_str (pa_cons (pv 8) (pa_cons (pv 12) (pa_cons (pe_callB (call_min2n rfl) (by rfl) Z.min (by decide +kernel) (pa_cons (pe_ix ix_tup (pe_ix ix_tup (pv 4) (pv 8) (fun _ _ => rfl)) pe_int (fun _ _ => rfl)) (pa_cons (pe_op op_sub (pv 10) (pv 14)) pa_nil))) pa_nil))))))) pss_nil)))) pss_nil)
      (pss_cons (ps_if (pt_cmpR op_eq (pe_callB call_lenS (by rfl) Z.len (by decide +kernel) (pa_cons (pv 3) pa_nil)) pe_int (nomark _)) (pss_one (ps_ret pe_non)) pss_nil)
      (pss_cons (ps_set (i := 15) nd rfl (by first | exact Or.inl rfl | exact Or.inr rfl) (pe_cal k_l_owner (hr.mono (by decide)) (by rfl) (pa_cons (pv 9) pa_nil)))
      (pss_cons (ps_if (PW.pt (pw_and (pt_cmpR op_eq (pv 5) pe_str (nomark _)) (pw_and (pt_cmpR op_eq (pv 7) pe_str (nomark _)) (pw_and (pt_val (pe_cal k_l_is_end (hr.mono (by decide)) (by rfl) (pa_cons (pv 8) pa_nil))) (pw_and1 (pt_cmpR op_lt (pv 10) pe_int (nomark _))))))) (pss_one (ps_ret (pe_tup (pa_cons pe_str (pa_cons (pe_op op_sub (pv 8) pe_int) (pa_cons (pv 9) (pa_cons (pe_op op_add (pe_ix ix_tup (pe_ix ix_tup (pv 4) (pe_cal k_l_owner (hr.mono (by decide)) (by rfl) (pa_cons (pv 8) pa_nil)) (fun _ _ => rfl)) pe_int (fun _ _ => rfl)) (pv 10)) pa_nil))))))) pss_nil)
      (pss_cons (ps_if (PW.pt (pw_and (pt_cmpR op_eq (pv 5) pe_str (nomark _)) (pw_and (pt_cmpR op_eq (pv 7) pe_str (nomark _)) (pw_and (pt_val (pe_cal k_l_is_end (hr.mono (by decide)) (by rfl) (pa_cons (pv 9) pa_nil))) (pw_and (pt_cmpR op_ne (pv 15) (pv 8) (nomark _)) (pw_and1 (pt_cmpR op_gt (pv 10) pe_int (nomark _)))))))) (pss_one (ps_ret (pe_tup (pa_cons pe_str (pa_cons (pv 8) (pa_cons (pe_op op_sub (pv 9) pe_int) (pa_cons (pe_op op_sub (pv 10) (pe_ix ix_tup (pe_ix ix_tup (pv 4) (pv 15) (fun _ _ => rfl)) pe_int (fun _ _ => rfl))) pa_nil))))))) pss_nil)
      (pss_cons (ps_if (PW.pt (pw_and (pt_cmpR op_eq (pv 5) pe_str (nomark _)) (pw_and1 (pt_cmpR op_eq (pv 7) pe_str (nomark _))))) (pss_one (ps_ret (pe_tup (pa_cons pe_str (pa_cons (pv 9) (pa_cons (pe_op op_add (pe_op op_mul pe_int (pv 8)) pe_int) (pa_cons (pe_un un_neg (pe_callB (call_min2n rfl) (by rfl) Z.min (by decide +kernel) (pa_cons (pv 10) (pa_cons (pe_ix ix_tup (pe_ix ix_tup (pv 4) (pv 8) (fun _ _ => rfl)) pe_int (fun _ _ => rfl)) pa_nil)))) pa_nil))))))) pss_nil)
      (pss_one (ps_ret pe_non)))))))))))))), ?_⟩
    cases r
    case bound n =>
      walk_at "rd"
      refine rIxTl bf.hb rfl ?_
      walk_at "rd"
      refine rIxTl bf.hp rfl ?_
      walk_at "rd"
      refine rIsi1 (tyt hq) kb_tt ?_
      walk_at "rd"
      refine rChain ?_
      walk_at "rd"
      refine rLenT hq ?_
      walk_at "rd"
      refine ifDt (show (2 : Int) ≤ ((2 : Nat) : Int) by decide) ?_
      walk_at "rd"
      refine ifNt (show ((2 : Nat) : Int) ≤ 3 by decide) ?_
      walk_at "rd"
      refine rIxTl hq rfl ?_
      walk_at "rd"
      refine rIsi1 (tys _) kb_ss ?_
      walk_at "rd"
      refine rIxTl hq rfl ?_
      walk_at "rd"
      refine rIxTl hq rfl ?_
      walk_at "rd"
      refine rNewL (ok100 rfl) fun q1 H1 n1 f1 t1 => ?_
      refine rInLS (r := true) t1 rfl (show inV (.str "bound") [.str "bound", .str "high"] = true by decide +kernel) ?_
      walk_at "rd"
      refine rLenT (f1.tup _ _ hq) ?_
      walk_at "rd"
      refine ifDt (show ((2 : Nat) : Int) = 2 by decide) ?_
      walk_at "rd"
      exact ⟨Ab, ⟨mo, a, b, wt, .bound n⟩, m, n, rfl, .inl rfl, bf.fm f1, g, fun q2 H2 f2 t2 => k q2 H2 (f1.trans f2) t2⟩
    case high n =>
      walk_at "rd"
      refine rIxTl bf.hb rfl ?_
      walk_at "rd"
      refine rIxTl bf.hp rfl ?_
      walk_at "rd"
      refine rIsi1 (tyt hq) kb_tt ?_
      walk_at "rd"
      refine rChain ?_
      walk_at "rd"
      refine rLenT hq ?_
      walk_at "rd"
      refine ifDt (show (2 : Int) ≤ ((2 : Nat) : Int) by decide) ?_
      walk_at "rd"
      refine ifNt (show ((2 : Nat) : Int) ≤ 3 by decide) ?_
      walk_at "rd"
      refine rIxTl hq rfl ?_
      walk_at "rd"
      refine rIsi1 (tys _) kb_ss ?_
      walk_at "rd"
      refine rIxTl hq rfl ?_
      walk_at "rd"
      refine rIxTl hq rfl ?_
      walk_at "rd"
      refine rNewL (ok100 rfl) fun q1 H1 n1 f1 t1 => ?_
      refine rInLS (r := true) t1 rfl (show inV (.str "high") [.str "bound", .str "high"] = true by decide +kernel) ?_
      walk_at "rd"
      refine rLenT (f1.tup _ _ hq) ?_
      walk_at "rd"
      refine ifDt (show ((2 : Nat) : Int) = 2 by decide) ?_
      walk_at "rd"
      exact ⟨Ab, ⟨mo, a, b, wt, .high n⟩, m, n, rfl, .inr rfl, bf.fm f1, g, fun q2 H2 f2 t2 => k q2 H2 (f1.trans f2) t2⟩
    case sum n l =>
      obtain ⟨h1, h2, y, z, gy, gz, e1, e2, e3, e⟩ := g
      simp only at e
      obtain ⟨rfl, rfl, rfl, rfl⟩ := e
      walk_at "rd"
      refine rIxTl bf.hb rfl ?_
      walk_at "rd"
      refine rIxTl bf.hp rfl ?_
      walk_at "rd"
      refine rIsi1 (tyt hq) kb_tt ?_
      walk_at "rd"
      refine rChain ?_
      walk_at "rd"
      refine rLenT hq ?_
      walk_at "rd"
      refine ifDt (show (2 : Int) ≤ ((3 : Nat) : Int) by decide) ?_
      walk_at "rd"
      refine ifNt (show ((3 : Nat) : Int) ≤ 3 by decide) ?_
      walk_at "rd"
      refine rIxTl hq rfl ?_
      walk_at "rd"
      refine rIsi1 (tys _) kb_ss ?_
      walk_at "rd"
      refine rIxTl hq rfl ?_
      walk_at "rd"
      refine rIxTl hq rfl ?_
      walk_at "rd"
      refine rNewL (ok100 rfl) fun q1 H1 n1 f1 t1 => ?_
      refine rInLS (r := false) t1 rfl (show inV (.str "sum") [.str "bound", .str "high"] = false by decide +kernel) ?_
      walk_at "rd"
      have hq1 := f1.tup _ _ hq
      refine rSlA1 hq1 (fun z => absurd z.1 (sIx1 (by first | exact .inl rfl | exact .inr rfl))) (rNewT0 fun q2 H2 n2 f2 t2 => ?_)
      refine lcBetween (ns := [n, l]) (m := m) t2 (by simp; omega) (fun i σ2 H2 Qk h k => ?_) fun D H3 f3 t3 => ?_
      · walk_at "rd"
        refine ⟨rfl, ?_⟩
        walk_at "rd"
        exact ⟨_, _, _, rfl, by rw [decide_eq_true (by omega), decide_eq_true (by omega)]; exact k⟩
      refine rInBs t3 ?_
      walk_at "rd"
      have F3 := (f1.trans f2).trans f3
      obtain ⟨v1, hv1, la1⟩ := (hls.fm F3).get gy
      obtain ⟨p1, p2, rfl, hp1, hp2⟩ := la1
      refine rIxLn (SqL.of (F3.oth _ _ (fun z => nomatch z) hL)) hv1 ?_
      walk_at "rd"
      refine rSlA1 hp1 sIx5 (rNewT0 fun q4 H4 n4 f4 t4 => ?_)
      refine rGTup (xs := [.str (kindS y.most), .int y.a, .int y.b, .int y.w]) t4 rfl ?_
      walk_at "rd"
      refine rNewL (ok100 rfl) fun q5 H5 n5 f5 t5 => ?_
      have F5 := (F3.trans f4).trans f5
      refine rInLS (r := true) t5 rfl (show inV (.str "sum") [.str "sum", .str "delay"] = true by decide +kernel) ?_
      walk_at "rd"
      have ky : kindS y.most = "most" := by rw [e1]; rfl
      refine rLenT (F5.tup _ _ hq) ?_
      walk_at "rd"
      refine ifDt (show ((3 : Nat) : Int) = 3 by decide) ?_
      walk_at "rd"
      refine rIxTl (F5.tup _ _ hq) rfl ?_
      walk_at "rd"
      obtain ⟨v6, hv6, la6⟩ := (hls.fm F5).get gz
      obtain ⟨p6, p7, rfl, hp6, hp7⟩ := la6
      refine rIxLn (SqL.of (F5.oth _ _ (fun z => nomatch z) hL)) hv6 ?_
      walk_at "rd"
      refine rSlA1 hp6 sIx5 (rNewT0 fun q8 H8 n8 f8 t8 => ?_)
      refine rGTup (xs := [.str (kindS z.most), .int z.a, .int z.b, .int z.w]) t8 rfl ?_
      walk_at "rd"
      have F8 := F5.trans f8
      have kz : kindS z.most = "most" := by rw [e2]; rfl
      refine rEqS (r := true) (show decide (("sum" : Str) = "sum") = true by decide +kernel) ?_
      walk_at "rd"
      refine rEqS (r := true) (by rw [ky]; decide +kernel) ?_
      walk_at "rd"
      refine rEqS (r := true) (by rw [kz]; decide +kernel) ?_
      walk_at "rd"
      refine ifDt e3 ?_
      walk_at "rd"
      refine rNewT (ok100 rfl) fun q9 H9 n9 f9 t9 => k q9 H9 (F8.trans f9) ?_
      exact t9
    case delay n l =>
      obtain ⟨h1, h2, y, z, gy, gz, e1, e2, e3, e4, e⟩ := g
      simp only at e
      obtain ⟨rfl, rfl, rfl, rfl⟩ := e
      walk_at "rd"
      refine rIxTl bf.hb rfl ?_
      walk_at "rd"
      refine rIxTl bf.hp rfl ?_
      walk_at "rd"
      refine rIsi1 (tyt hq) kb_tt ?_
      walk_at "rd"
      refine rChain ?_
      walk_at "rd"
      refine rLenT hq ?_
      walk_at "rd"
      refine ifDt (show (2 : Int) ≤ ((3 : Nat) : Int) by decide) ?_
      walk_at "rd"
      refine ifNt (show ((3 : Nat) : Int) ≤ 3 by decide) ?_
      walk_at "rd"
      refine rIxTl hq rfl ?_
      walk_at "rd"
      refine rIsi1 (tys _) kb_ss ?_
      walk_at "rd"
      refine rIxTl hq rfl ?_
      walk_at "rd"
      refine rIxTl hq rfl ?_
      walk_at "rd"
      refine rNewL (ok100 rfl) fun q1 H1 n1 f1 t1 => ?_
      refine rInLS (r := false) t1 rfl (show inV (.str "delay") [.str "bound", .str "high"] = false by decide +kernel) ?_
      walk_at "rd"
      have hq1 := f1.tup _ _ hq
      refine rSlA1 hq1 (fun z => absurd z.1 (sIx1 (by first | exact .inl rfl | exact .inr rfl))) (rNewT0 fun q2 H2 n2 f2 t2 => ?_)
      refine lcBetween (ns := [n, l]) (m := m) t2 (by simp; omega) (fun i σ2 H2 Qk h k => ?_) fun D H3 f3 t3 => ?_
      · walk_at "rd"
        refine ⟨rfl, ?_⟩
        walk_at "rd"
        exact ⟨_, _, _, rfl, by rw [decide_eq_true (by omega), decide_eq_true (by omega)]; exact k⟩
      refine rInBs t3 ?_
      walk_at "rd"
      have F3 := (f1.trans f2).trans f3
      obtain ⟨v1, hv1, la1⟩ := (hls.fm F3).get gy
      obtain ⟨p1, p2, rfl, hp1, hp2⟩ := la1
      refine rIxLn (SqL.of (F3.oth _ _ (fun z => nomatch z) hL)) hv1 ?_
      walk_at "rd"
      refine rSlA1 hp1 sIx5 (rNewT0 fun q4 H4 n4 f4 t4 => ?_)
      refine rGTup (xs := [.str (kindS y.most), .int y.a, .int y.b, .int y.w]) t4 rfl ?_
      walk_at "rd"
      refine rNewL (ok100 rfl) fun q5 H5 n5 f5 t5 => ?_
      have F5 := (F3.trans f4).trans f5
      refine rInLS (r := true) t5 rfl (show inV (.str "delay") [.str "sum", .str "delay"] = true by decide +kernel) ?_
      walk_at "rd"
      have ky : kindS y.most = "wait" := by rw [e1]; rfl
      refine rLenT (F5.tup _ _ hq) ?_
      walk_at "rd"
      refine ifDt (show ((3 : Nat) : Int) = 3 by decide) ?_
      walk_at "rd"
      refine rIxTl (F5.tup _ _ hq) rfl ?_
      walk_at "rd"
      obtain ⟨v6, hv6, la6⟩ := (hls.fm F5).get gz
      obtain ⟨p6, p7, rfl, hp6, hp7⟩ := la6
      refine rIxLn (SqL.of (F5.oth _ _ (fun z => nomatch z) hL)) hv6 ?_
      walk_at "rd"
      refine rSlA1 hp6 sIx5 (rNewT0 fun q8 H8 n8 f8 t8 => ?_)
      refine rGTup (xs := [.str (kindS z.most), .int z.a, .int z.b, .int z.w]) t8 rfl ?_
      walk_at "rd"
      have F8 := F5.trans f8
      have kz : kindS z.most = "most" := by rw [e2]; rfl
      refine rEqS (r := false) (show decide (("delay" : Str) = "sum") = false by decide +kernel) ?_
      walk_at "rd"
      refine rEqS (r := true) (show decide (("delay" : Str) = "delay") = true by decide +kernel) ?_
      walk_at "rd"
      refine rEqS (r := true) (by rw [ky]; decide +kernel) ?_
      walk_at "rd"
      refine rEqS (r := true) (by rw [kz]; decide +kernel) ?_
      walk_at "rd"
      refine ifDt e3 ?_
      walk_at "rd"
      refine ifNf e4 ?_
      walk_at "rd"
      have fy := (hB _ y gy).2
      unfold Fits at fy
      rw [if_neg (by rw [e1]; decide)] at fy
      obtain ⟨ad, hd1, hd2⟩ := bf.task fy.1
      refine rIxTi (SqT.of (F8.tup _ _ bf.ht)) fy.1.1 hd1 ?_
      walk_at "rd"
      refine rIxTl (F8.tup _ _ hd2) rfl ?_
      walk_at "rd"
      refine rNewT (ok100 rfl) fun q9 H9 n9 f9 t9 => k q9 H9 (F8.trans f9) ?_
      exact t9
    case early n =>
      obtain ⟨h1, y, gy, e1, e2, e3, e⟩ := g
      simp only at e
      obtain ⟨rfl, rfl, rfl, rfl⟩ := e
      walk_at "rd"
      refine rIxTl bf.hb rfl ?_
      walk_at "rd"
      refine rIxTl bf.hp rfl ?_
      walk_at "rd"
      refine rIsi1 (tyt hq) kb_tt ?_
      walk_at "rd"
      refine rChain ?_
      walk_at "rd"
      refine rLenT hq ?_
      walk_at "rd"
      refine ifDt (show (2 : Int) ≤ ((2 : Nat) : Int) by decide) ?_
      walk_at "rd"
      refine ifNt (show ((2 : Nat) : Int) ≤ 3 by decide) ?_
      walk_at "rd"
      refine rIxTl hq rfl ?_
      walk_at "rd"
      refine rIsi1 (tys _) kb_ss ?_
      walk_at "rd"
      refine rIxTl hq rfl ?_
      walk_at "rd"
      refine rIxTl hq rfl ?_
      walk_at "rd"
      refine rNewL (ok100 rfl) fun q1 H1 n1 f1 t1 => ?_
      refine rInLS (r := false) t1 rfl (show inV (.str "early") [.str "bound", .str "high"] = false by decide +kernel) ?_
      walk_at "rd"
      have hq1 := f1.tup _ _ hq
      refine rSlA1 hq1 (fun z => absurd z.1 (sIx1 (by first | exact .inl rfl | exact .inr rfl))) (rNewT0 fun q2 H2 n2 f2 t2 => ?_)
      refine lcBetween (ns := [n]) (m := m) t2 (by simp; omega) (fun i σ2 H2 Qk h k => ?_) fun D H3 f3 t3 => ?_
      · walk_at "rd"
        refine ⟨rfl, ?_⟩
        walk_at "rd"
        exact ⟨_, _, _, rfl, by rw [decide_eq_true (by omega), decide_eq_true (by omega)]; exact k⟩
      refine rInBs t3 ?_
      walk_at "rd"
      have F3 := (f1.trans f2).trans f3
      obtain ⟨v1, hv1, la1⟩ := (hls.fm F3).get gy
      obtain ⟨p1, p2, rfl, hp1, hp2⟩ := la1
      refine rIxLn (SqL.of (F3.oth _ _ (fun z => nomatch z) hL)) hv1 ?_
      walk_at "rd"
      refine rSlA1 hp1 sIx5 (rNewT0 fun q4 H4 n4 f4 t4 => ?_)
      refine rGTup (xs := [.str (kindS y.most), .int y.a, .int y.b, .int y.w]) t4 rfl ?_
      walk_at "rd"
      refine rNewL (ok100 rfl) fun q5 H5 n5 f5 t5 => ?_
      have F5 := (F3.trans f4).trans f5
      refine rInLS (r := false) t5 rfl (show inV (.str "early") [.str "sum", .str "delay"] = false by decide +kernel) ?_
      walk_at "rd"
      have ky : kindS y.most = "most" := by rw [e1]; rfl
      refine rLenT (F5.tup _ _ hq) ?_
      walk_at "rd"
      refine ifDf (show ¬ ((2 : Nat) : Int) = 3 by decide) ?_
      walk_at "rd"
      refine rSpI1 ?_
      walk_at "rd"
      have fy := (hB _ y gy).2
      unfold Fits at fy
      rw [if_pos e1] at fy
      refine rEqS (r := true) (show decide (("early" : Str) = "early") = true by decide +kernel) ?_
      walk_at "rd"
      refine rEqS (r := true) (by rw [ky]; decide +kernel) ?_
      walk_at "rd"
      refine rSpI1 ?_
      rw [isEndB_iff.mpr e2]
      walk_at "rd"
      refine ifDt e3 ?_
      walk_at "rd"
      refine rSpI1 ?_
      walk_at "rd"
      obtain ⟨tk, o1, ev1, o2⟩ := own_tk fy.1 e2
      obtain ⟨ad, hd1, hd2⟩ := bf.task tk
      refine rIxTi (SqT.of (F5.tup _ _ bf.ht)) tk.1 hd1 ?_
      walk_at "rd"
      refine rIxTl (F5.tup _ _ hd2) rfl ?_
      walk_at "rd"
      refine rNewT (ok100 rfl) fun q9 H9 n9 f9 t9 => k q9 H9 (F5.trans f9) ?_
      exact t9
    case ahead n =>
      obtain ⟨h1, y, gy, e1, e2, e3, e4, e⟩ := g
      simp only at e
      obtain ⟨rfl, rfl, rfl, rfl⟩ := e
      walk_at "rd"
      refine rIxTl bf.hb rfl ?_
      walk_at "rd"
      refine rIxTl bf.hp rfl ?_
      walk_at "rd"
      refine rIsi1 (tyt hq) kb_tt ?_
      walk_at "rd"
      refine rChain ?_
      walk_at "rd"
      refine rLenT hq ?_
      walk_at "rd"
      refine ifDt (show (2 : Int) ≤ ((2 : Nat) : Int) by decide) ?_
      walk_at "rd"
      refine ifNt (show ((2 : Nat) : Int) ≤ 3 by decide) ?_
      walk_at "rd"
      refine rIxTl hq rfl ?_
      walk_at "rd"
      refine rIsi1 (tys _) kb_ss ?_
      walk_at "rd"
      refine rIxTl hq rfl ?_
      walk_at "rd"
      refine rIxTl hq rfl ?_
      walk_at "rd"
      refine rNewL (ok100 rfl) fun q1 H1 n1 f1 t1 => ?_
      refine rInLS (r := false) t1 rfl (show inV (.str "ahead") [.str "bound", .str "high"] = false by decide +kernel) ?_
      walk_at "rd"
      have hq1 := f1.tup _ _ hq
      refine rSlA1 hq1 (fun z => absurd z.1 (sIx1 (by first | exact .inl rfl | exact .inr rfl))) (rNewT0 fun q2 H2 n2 f2 t2 => ?_)
      refine lcBetween (ns := [n]) (m := m) t2 (by simp; omega) (fun i σ2 H2 Qk h k => ?_) fun D H3 f3 t3 => ?_
      · walk_at "rd"
        refine ⟨rfl, ?_⟩
        walk_at "rd"
        exact ⟨_, _, _, rfl, by rw [decide_eq_true (by omega), decide_eq_true (by omega)]; exact k⟩
      refine rInBs t3 ?_
      walk_at "rd"
      have F3 := (f1.trans f2).trans f3
      obtain ⟨v1, hv1, la1⟩ := (hls.fm F3).get gy
      obtain ⟨p1, p2, rfl, hp1, hp2⟩ := la1
      refine rIxLn (SqL.of (F3.oth _ _ (fun z => nomatch z) hL)) hv1 ?_
      walk_at "rd"
      refine rSlA1 hp1 sIx5 (rNewT0 fun q4 H4 n4 f4 t4 => ?_)
      refine rGTup (xs := [.str (kindS y.most), .int y.a, .int y.b, .int y.w]) t4 rfl ?_
      walk_at "rd"
      refine rNewL (ok100 rfl) fun q5 H5 n5 f5 t5 => ?_
      have F5 := (F3.trans f4).trans f5
      refine rInLS (r := false) t5 rfl (show inV (.str "ahead") [.str "sum", .str "delay"] = false by decide +kernel) ?_
      walk_at "rd"
      have ky : kindS y.most = "wait" := by rw [e1]; rfl
      refine rLenT (F5.tup _ _ hq) ?_
      walk_at "rd"
      refine ifDf (show ¬ ((2 : Nat) : Int) = 3 by decide) ?_
      walk_at "rd"
      refine rSpI1 ?_
      walk_at "rd"
      have fy := (hB _ y gy).2
      unfold Fits at fy
      rw [if_neg (by rw [e1]; decide)] at fy
      refine rEqS (r := false) (show decide (("ahead" : Str) = "early") = false by decide +kernel) ?_
      walk_at "rd"
      refine rEqS (r := true) (show decide (("ahead" : Str) = "ahead") = true by decide +kernel) ?_
      walk_at "rd"
      refine rEqS (r := true) (by rw [ky]; decide +kernel) ?_
      walk_at "rd"
      refine rSpI1 ?_
      rw [isEndB_iff.mpr e2]
      walk_at "rd"
      refine ifNf e3 ?_
      walk_at "rd"
      refine ifDt e4 ?_
      walk_at "rd"
      obtain ⟨tk, o1, ev1, o2⟩ := own_tk fy.2 e2
      obtain ⟨ad, hd1, hd2⟩ := bf.task tk
      refine rIxTi (SqT.of (F5.tup _ _ bf.ht)) tk.1 hd1 ?_
      walk_at "rd"
      refine rIxTl (F5.tup _ _ hd2) rfl ?_
      walk_at "rd"
      refine rNewT (ok100 rfl) fun q9 H9 n9 f9 t9 => k q9 H9 (F5.trans f9) ?_
      exact t9
    case floor n =>
      obtain ⟨h1, y, gy, e1, e⟩ := g
      simp only at e
      obtain ⟨rfl, rfl, rfl, rfl⟩ := e
      walk_at "rd"
      refine rIxTl bf.hb rfl ?_
      walk_at "rd"
      refine rIxTl bf.hp rfl ?_
      walk_at "rd"
      refine rIsi1 (tyt hq) kb_tt ?_
      walk_at "rd"
      refine rChain ?_
      walk_at "rd"
      refine rLenT hq ?_
      walk_at "rd"
      refine ifDt (show (2 : Int) ≤ ((2 : Nat) : Int) by decide) ?_
      walk_at "rd"
      refine ifNt (show ((2 : Nat) : Int) ≤ 3 by decide) ?_
      walk_at "rd"
      refine rIxTl hq rfl ?_
      walk_at "rd"
      refine rIsi1 (tys _) kb_ss ?_
      walk_at "rd"
      refine rIxTl hq rfl ?_
      walk_at "rd"
      refine rIxTl hq rfl ?_
      walk_at "rd"
      refine rNewL (ok100 rfl) fun q1 H1 n1 f1 t1 => ?_
      refine rInLS (r := false) t1 rfl (show inV (.str "floor") [.str "bound", .str "high"] = false by decide +kernel) ?_
      walk_at "rd"
      have hq1 := f1.tup _ _ hq
      refine rSlA1 hq1 (fun z => absurd z.1 (sIx1 (by first | exact .inl rfl | exact .inr rfl))) (rNewT0 fun q2 H2 n2 f2 t2 => ?_)
      refine lcBetween (ns := [n]) (m := m) t2 (by simp; omega) (fun i σ2 H2 Qk h k => ?_) fun D H3 f3 t3 => ?_
      · walk_at "rd"
        refine ⟨rfl, ?_⟩
        walk_at "rd"
        exact ⟨_, _, _, rfl, by rw [decide_eq_true (by omega), decide_eq_true (by omega)]; exact k⟩
      refine rInBs t3 ?_
      walk_at "rd"
      have F3 := (f1.trans f2).trans f3
      obtain ⟨v1, hv1, la1⟩ := (hls.fm F3).get gy
      obtain ⟨p1, p2, rfl, hp1, hp2⟩ := la1
      refine rIxLn (SqL.of (F3.oth _ _ (fun z => nomatch z) hL)) hv1 ?_
      walk_at "rd"
      refine rSlA1 hp1 sIx5 (rNewT0 fun q4 H4 n4 f4 t4 => ?_)
      refine rGTup (xs := [.str (kindS y.most), .int y.a, .int y.b, .int y.w]) t4 rfl ?_
      walk_at "rd"
      refine rNewL (ok100 rfl) fun q5 H5 n5 f5 t5 => ?_
      have F5 := (F3.trans f4).trans f5
      refine rInLS (r := false) t5 rfl (show inV (.str "floor") [.str "sum", .str "delay"] = false by decide +kernel) ?_
      walk_at "rd"
      have ky : kindS y.most = "wait" := by rw [e1]; rfl
      refine rLenT (F5.tup _ _ hq) ?_
      walk_at "rd"
      refine ifDf (show ¬ ((2 : Nat) : Int) = 3 by decide) ?_
      walk_at "rd"
      refine rSpI1 ?_
      walk_at "rd"
      have fy := (hB _ y gy).2
      unfold Fits at fy
      rw [if_neg (by rw [e1]; decide)] at fy
      refine rEqS (r := false) (show decide (("floor" : Str) = "early") = false by decide +kernel) ?_
      walk_at "rd"
      refine rEqS (r := false) (show decide (("floor" : Str) = "ahead") = false by decide +kernel) ?_
      walk_at "rd"
      refine rEqS (r := true) (show decide (("floor" : Str) = "floor") = true by decide +kernel) ?_
      walk_at "rd"
      refine rEqS (r := true) (by rw [ky]; decide +kernel) ?_
      walk_at "rd"
      obtain ⟨ad, hd1, hd2⟩ := bf.task fy.1
      refine rIxTi (SqT.of (F5.tup _ _ bf.ht)) fy.1.1 hd1 ?_
      walk_at "rd"
      refine rIxTl (F5.tup _ _ hd2) rfl ?_
      walk_at "rd"
      refine rNewT (ok100 rfl) fun q9 H9 n9 f9 t9 => k q9 H9 (F5.trans f9) ?_
      exact t9
end
end A68
set_option maxRecDepth 100000
set_option maxHeartbeats 4000000
/-! The law's same, are_lines, is_refutation. -/
namespace A68
open PySem PySem.Spec PyProof.Rows L2 RZ
theorem walk_zT {K : PySem.W.Frag} {a b : Addr} {xs ys : List V} (hl : xs.length = ys.length) : Walk (ItzT K a b) xs.length (fun H => SqT K H a xs ∧ SqT K H b ys) (fun i H v H' => ∃ T x y, v = .ref T ∧ xs[i]? = some x ∧ ys[i]? = some y ∧ Fm [] H H' ∧ H' T = some (.tup [x, y])) := by
  refine ⟨fun i H hi q => ⟨xs, ys, xs[i], ys[i]'(by omega), q.1, q.2, by simp [hi], by simp⟩, fun H q => ⟨xs, ys, q.1, q.2, .inl (Nat.le_refl _)⟩, fun i H v H' hi q y => ?_⟩
  obtain ⟨T, x, z, h1, h2, h3, h4, h5⟩ := y
  subst h3
  exact ⟨T, x, z, h1, h4 xs q.1, h5 ys q.2, Fm.new h2, upd_same⟩
theorem rIZ {K : PySem.W.Frag} {ta : TA} {σ : St} {H : Hp} {R : It → Hp → Prop} (q : ta σ H fun vs H1 => ∃ a b xs ys, vs = [.ref a, .ref b] ∧ ((SqL K H1 a xs ∧ SqL K H1 b ys ∧ R (Itz K a b) H1) ∨ (SqT K H1 a xs ∧ SqT K H1 b ys ∧ R (ItzT K a b) H1))) : iZipA K ta σ H R := q
theorem rIsiT2 {K : PySem.W.Frag} {H : Hp} {Q : VK} {x : V} {tp : Addr} {a S T : String} {b1 b2 : Bool} (h : H tp = some (.tup [.ty S, .ty T])) (t : TyX K H x (.type a)) (h1 : kitB a S = some b1) (h2 : kitB a T = some b2) {r : Bool} (er : (b1 || b2) = r) (q : Q (.bl r) H) : rIsiT K [x, .ref tp] H Q := by
  subst er
  refine ⟨x, tp, _, _, [.type S, .type T], b1 || b2, rfl, h, .cons (.ty S) (.cons (.ty T) .nil), t, ?_, q⟩
  refine kitAny_cons (kit_ty h1) (fun e => ?_) (fun e => by rw [e]; rfl)
  refine kitAny_cons (kit_ty h2) (fun e' => ?_) (fun e' => by rw [e']; simp)
  rw [e, e']
  exact kitAny_nil
theorem kb_sb : kitB "str" "bool" = some false := by decide +kernel
theorem kb_si : kitB "str" "int" = some false := by decide +kernel
theorem kb_is : kitB "int" "str" = some false := by decide +kernel
theorem kb_tb : kitB "tuple" "bool" = some false := by decide +kernel
theorem kb_ti : kitB "tuple" "int" = some false := by decide +kernel
theorem kb_ts : kitB "tuple" "str" = some false := by decide +kernel
theorem kb_tl : kitB "tuple" "list" = some false := by decide +kernel
theorem kb_ll : kitB "list" "list" = some true := by decide +kernel
theorem rEqRefl {x : V} {H : Hp} {Q : VK} (s : (∃ i, x = .int i) ∨ ∃ t, x = .str t) (q : Q (.bl true) H) : rEq x x H Q := by
  rcases s with ⟨i, rfl⟩ | ⟨t, rfl⟩
  · exact rEqI (by rw [decide_eq_true rfl]; exact q)
  · exact rEqS (r := true) (decide_eq_true rfl) q
theorem rIsNs {s : Str} {H : Hp} {Q : VK} (q : Q (.bl false) H) : rIsN (.str s) .non H Q := ⟨rfl, q⟩
local macro_rules | `(tactic| walk_at "rd1") => `(tactic| first
  | ((with_reducible refine' rVar ?hx ?_); (case hx => rfl))
  | (with_reducible refine rC ?_)
  | (with_reducible refine rOp ?_)
  | (with_reducible refine rUn ?_)
  | (with_reducible refine rI0i ?_)
  | (with_reducible refine rUi ?_)
  | ((with_reducible refine rMulL ?a ?b ?_); (case a => decide); (case b => decide))
  | ((with_reducible refine rMulR ?a ?b ?_); (case a => decide); (case b => decide))
  | ((with_reducible refine rModP ?a ?_); (case a => decide))
  | ((with_reducible refine rDivP ?a ?b ?_); (case a => decide); (case b => decide))
  | ((with_reducible refine rPowL ?a ?b ?c ?_); (case a => decide); (case b => decide); (case c => decide))
  | (with_reducible refine rEqI ?_)
  | (with_reducible refine rNeI ?_)
  | (with_reducible refine rIsNi ?_)
  | (with_reducible refine rIsNn ?_)
  | (with_reducible refine rIsNr ?_)
  | (with_reducible refine rNotNi ?_)
  | (with_reducible refine rNotNn ?_)
  | (with_reducible refine rNotNr ?_)
  | (with_reducible refine rTest ?_)
  | (with_reducible refine rTB ?_)
  | (with_reducible refine rBlV ?_)
  | (with_reducible refine rAnd ?_)
  | (with_reducible refine rOr ?_)
  | (with_reducible refine rNot ?_)
  | (with_reducible refine rAndV ?_)
  | (with_reducible refine rOrV ?_)
  | (with_reducible refine rNotV ?_)
  | (with_reducible refine rIf ?_)
  | (with_reducible refine rNil ?_)
  | (with_reducible refine rCons ?_)
  | (with_reducible refine rTup ?_)
  | (with_reducible refine rLst ?_)
  | (with_reducible refine rCB ?_)
  | (with_reducible refine rCall ?_)
  | (with_reducible refine rBM ?_)
  | (with_reducible refine rMin2i ?_)
  | (with_reducible refine rMax2i ?_)
  | (with_reducible refine rInt1i ?_)
  | (with_reducible refine rPartN ?_)
  | (with_reducible refine rPart ?_)
  | (with_reducible refine rInt ?_)
  | (with_reducible refine rSlS ?_)
  | (with_reducible refine rSFld ?_)
  | (with_reducible refine rSDPut ?_)
  | (with_reducible refine rDGet ?_)
  | (with_reducible refine rDIn ?_)
  | (with_reducible refine rDNotIn ?_)
  | (with_reducible refine rSeq ?_)
  | (with_reducible refine rAsg ?_)
  | (with_reducible refine rName ?_)
  | (with_reducible refine rDrop ?_)
  | (with_reducible refine rRet ?_)
  | (with_reducible refine rIfS ?_)
  | (with_reducible refine rNext ?_)
  | (with_reducible refine rPar ?_)
  | (with_reducible refine rPar2 ?_)
  | (with_reducible refine rMeth ?_)
  | (with_reducible refine rGCons ?_)
  | (with_reducible refine rGNil ?_)
  | (with_reducible refine rForS ?_)
  | (with_reducible refine rLcS ?_)
  | (with_reducible refine rIL ?_)
  | (with_reducible refine rIT ?_)
  | (with_reducible refine rIE ?_)
  | (with_reducible refine rYes ?_)
  | (with_reducible refine rIsNs ?_)
  | (with_reducible refine rNeB ?_)
  | (with_reducible refine rIZ ?_)
  | (with_reducible refine rChain ?_)
  | (with_reducible refine rDc2 ?_)
  | (with_reducible refine rDcS ?_)
  | (with_reducible refine rIR3 ?_)
  | (with_reducible refine rMake ?_)
  | (with_reducible refine rIR1 ?_)
  | (with_reducible refine rIR2 ?_)
  | (with_reducible refine rIET ?_)
  | (with_reducible refine ifSn ?_)
  | (with_reducible refine ifNn ?_)
  | (with_reducible refine ifSs ?_)
  | (with_reducible refine ifNs ?_)
  | (with_reducible refine rNotNfs ?_)
  | (with_reducible refine rNotNfn ?_)
  | (with_reducible refine rIsNfs ?_)
  | (with_reducible refine rIsNfn ?_)
  | (with_reducible refine ifT ?_)
  | (with_reducible refine ifF ?_)
  | (with_reducible refine ifNT ?_)
  | (with_reducible refine ifNF ?_))
local macro_rules | `(tactic| walk_at "rd") => `(tactic| (repeat walk_at "rd1"))
theorem ok100' {n : Nat} (h : Nat.ble n 10 = true) : n ≤ 10 := Nat.le_of_ble_eq_true h
abbrev PSA : List Str := ["_law_found", "_law_due"]
def spNo : Sp := fun _ _ _ _ => False
def spFlat : Sp := fun vs H Q _ => ∃ x : V, vs = [x, x] ∧ ((∃ i, x = .int i) ∨ ∃ t, x = .str t) ∧ ∀ H', Fm [] H H' → Q (.bl true) H'
def spSameT : Sp := fun vs H Q _ => ∃ (a b : Addr) (xs : List V), vs = [.ref a, .ref b] ∧ H a = some (.tup xs) ∧ H b = some (.tup xs) ∧ (∀ x ∈ xs, (∃ i, x = .int i) ∨ ∃ t, x = .str t) ∧ xs.length ≤ 10 ∧ ∀ H', Fm [] H H' → Q (.bl true) H'
section
variable {P : Program} {w : World} {K : PySem.W.Frag} {mg : Str → Option Value} {base : Heap} {f : Addr} {fd : FuncData} {B : Br}
abbrev N_l_same : List Str := ["_law_found", "_law_due", "_law_one", "_law_other"]
theorem sc_l_same : FnScope N_l_same ["_law_found", "_law_due"] (defScope s_l_same) := ⟨rfl, rfl, rfl, by decide +kernel, rfl, by decide +kernel, by decide +kernel⟩
-- slots: 0 _law_found, 1 _law_due, 2 _law_one, 3 _law_other
theorem ok_same_no (F : FD K "_law_same" "_law_same" s_l_same f fd) : FnOk P w K mg base CX0 1 f fd PSA spNo :=
  F.ok sc_l_same (fun vs H Q E h => h.elim) (fun cdv A0 outer s H vs Q E hr h => h.elim)
theorem ok_same_flat (F : FD K "_law_same" "_law_same" s_l_same f fd) (Z : Fr0 mg) (k_l_same : Cal P w K mg base "_law_same" PSA 1 spNo) : FnOk P w K mg base CX0 2 f fd PSA spFlat := by
  refine F.ok sc_l_same (fun vs H Q E h => ?_) (fun cdv A0 outer s H vs Q E hr h => ?_)
  · obtain ⟨_, rfl, _⟩ := h
    rfl
  · obtain ⟨x, rfl, hx, k0⟩ := h
    have hu := hu_of hr
    have nd := sc_l_same.nd
    refine ⟨_, PSs.nox (pss_cons (ps_if (PW.pt (pw_or (pt_cmpR op_isN1 (pv 1) pe_non (nomark _)) (pw_or1 (pt_cmpR op_isN1 (pv 0) pe_non (nomark _))))) (pss_one (ps_ret (pe_and (pe_cmpR op_isN1 (pv 1) pe_non (nomark _)) (pe_one (pe_cmpR op_isN1 (pv 0) pe_non (nomark _)))))) pss_nil)
      (pss_cons (ps_if (PW.pt (pw_or (pt_val (pe_callB call_isi (by rfl) Z.isinstance (by decide +kernel) (pa_cons (pv 1) (pa_cons (pe_bltn (v := .ty "bool") (u := .type "bool") (by rfl) Z.bool (by decide +kernel) rfl) pa_nil)))) (pw_or1 (pt_val (pe_callB call_isi (by rfl) Z.isinstance (by decide +kernel) (pa_cons (pv 0) (pa_cons (pe_bltn (v := .ty "bool") (u := .type "bool") (by rfl) Z.bool (by decide +kernel) rfl) pa_nil))))))) (pss_one (ps_ret (pe_and (pe_callB call_isi (by rfl) Z.isinstance (by decide +kernel) (pa_cons (pv 1) (pa_cons (pe_bltn (v := .ty "bool") (u := .type "bool") (by rfl) Z.bool (by decide +kernel) rfl) pa_nil))) (pe_and (pe_callB call_isi (by rfl) Z.isinstance (by decide +kernel) (pa_cons (pv 0) (pa_cons (pe_bltn (v := .ty "bool") (u := .type "bool") (by rfl) Z.bool (by decide +kernel) rfl) pa_nil))) (pe_one (pe_cmpR op_eq (pv 0) (pv 1) (nomark _))))))) pss_nil)
      (pss_cons (ps_if (pt_val (pe_callB call_isiT (by rfl) Z.isinstance (by decide +kernel) (pa_cons (pv 1) (pa_cons (pe_tup (pa_cons (pe_bltn (v := .ty "int") (u := .type "int") (by rfl) Z.int (by decide +kernel) rfl) (pa_cons (pe_bltn (v := .ty "str") (u := .type "str") (by rfl) Z.str (by decide +kernel) rfl) pa_nil))) pa_nil)))) (pss_cons (ps_if (pt_cmpR op_ne (pe_callB call_isi (by rfl) Z.isinstance (by decide +kernel) (pa_cons (pv 0) (pa_cons (pe_bltn (v := .ty "int") (u := .type "int") (by rfl) Z.int (by decide +kernel) rfl) pa_nil))) (pe_callB call_isi (by rfl) Z.isinstance (by decide +kernel) (pa_cons (pv 1) (pa_cons (pe_bltn (v := .ty "int") (u := .type "int") (by rfl) Z.int (by decide +kernel) rfl) pa_nil))) (nomark _)) (pss_one (ps_ret pe_bl)) pss_nil)
        (pss_one (ps_ret (pe_and (pe_callB call_isiT (by rfl) Z.isinstance (by decide +kernel) (pa_cons (pv 0) (pa_cons (pe_tup (pa_cons (pe_bltn (v := .ty "int") (u := .type "int") (by rfl) Z.int (by decide +kernel) rfl) (pa_cons (pe_bltn (v := .ty "str") (u := .type "str") (by rfl) Z.str (by decide +kernel) rfl) pa_nil))) pa_nil))) (pe_one (pe_cmpR op_eq (pv 0) (pv 1) (nomark _))))))) pss_nil)
      (pss_cons (ps_if (PW.pt (pw_or (pt_cmpR op_ne (pe_callB call_isi (by rfl) Z.isinstance (by decide +kernel) (pa_cons (pv 1) (pa_cons (pe_bltn (v := .ty "tuple") (u := .type "tuple") (by rfl) Z.tuple (by decide +kernel) rfl) pa_nil))) (pe_callB call_isi (by rfl) Z.isinstance (by decide +kernel) (pa_cons (pv 0) (pa_cons (pe_bltn (v := .ty "tuple") (u := .type "tuple") (by rfl) Z.tuple (by decide +kernel) rfl) pa_nil))) (nomark _)) (pw_or1 (pt_cmpR op_ne (pe_callB call_isi (by rfl) Z.isinstance (by decide +kernel) (pa_cons (pv 1) (pa_cons (pe_bltn (v := .ty "list") (u := .type "list") (by rfl) Z.list (by decide +kernel) rfl) pa_nil))) (pe_callB call_isi (by rfl) Z.isinstance (by decide +kernel) (pa_cons (pv 0) (pa_cons (pe_bltn (v := .ty "list") (u := .type "list") (by rfl) Z.list (by decide +kernel) rfl) pa_nil))) (nomark _))))) (pss_one (ps_ret pe_bl)) pss_nil)
      (pss_cons (ps_if (pt_cmpR op_ne (pe_callB call_lenS (by rfl) Z.len (by decide +kernel) (pa_cons (pv 0) pa_nil)) (pe_callB call_lenS (by rfl) Z.len (by decide +kernel) (pa_cons (pv 1) pa_nil)) (nomark _)) (pss_one (ps_ret pe_bl)) pss_nil)
      (pss_one (ps_ret (pe_cmpR op_notIn_seq pe_bl (pe_lc (own := [("_law_one", 2), ("_law_other", 3)]) (g := (gTup K 2 (gCons (gName 2) (gCons (gName 3) gNil)))) (tt := tYes) (by rfl) nd (pi_zipA (by rfl) Z.zip (pa_cons (pv 0) (pa_cons (pv 1) pa_nil))) (blkOk_by (own := [("_law_one", 2), ("_law_other", 3)]) (N := N_l_same) (sc := defScope s_l_same) (by decide +kernel)) (fun _ _ _ _ _ => (pg_tup rfl (pgs_cons (pg_name (i := 2) nd rfl (by first | exact Or.inl rfl | exact Or.inr rfl)) (pgs_cons (pg_name (i := 3) nd rfl (by first | exact Or.inl rfl | exact Or.inr rfl)) pgs_nil)))) (fun _ _ _ _ _ => pts_nil) (fun _ _ _ _ _ => (pe_cal k_l_same (hr.mono (by decide)) (by rfl) (pa_cons (pv 2) (pa_cons (pv 3) pa_nil))))) (by rfl))))))))), ?_⟩
    rcases hx with ⟨i, rfl⟩ | ⟨t, rfl⟩
    · walk_at "rd"
      refine rIsi1 (tyi i) kb_ib ?_
      walk_at "rd"
      refine rIsi1 (tyi i) kb_ib ?_
      walk_at "rd"
      refine rNewT (ok100 rfl) fun q1 H1 n1 f1 t1 => ?_
      walk_at "rd"
      refine rIsiT2 (r := true) t1 (tyi i) kb_ii kb_is (by rfl) ?_
      walk_at "rd"
      refine rIsi1 (tyi i) kb_ii ?_
      walk_at "rd"
      refine rIsi1 (tyi i) kb_ii ?_
      walk_at "rd"
      refine ifNt rfl ?_
      walk_at "rd"
      refine rNewT (ok100 rfl) fun q2 H2 n2 f2 t2 => ?_
      walk_at "rd"
      refine rIsiT2 (r := true) t2 (tyi i) kb_ii kb_is (by rfl) ?_
      walk_at "rd"
      rw [decide_eq_true rfl]
      exact k0 H2 (f1.trans f2)
    · walk_at "rd"
      refine rIsi1 (tys t) kb_sb ?_
      walk_at "rd"
      refine rIsi1 (tys t) kb_sb ?_
      walk_at "rd"
      refine rNewT (ok100 rfl) fun q1 H1 n1 f1 t1 => ?_
      walk_at "rd"
      refine rIsiT2 (r := true) t1 (tys t) kb_si kb_ss (by rfl) ?_
      walk_at "rd"
      refine rIsi1 (tys t) kb_si ?_
      walk_at "rd"
      refine rIsi1 (tys t) kb_si ?_
      walk_at "rd"
      refine ifNt rfl ?_
      walk_at "rd"
      refine rNewT (ok100 rfl) fun q2 H2 n2 f2 t2 => ?_
      walk_at "rd"
      refine rIsiT2 (r := true) t2 (tys t) kb_si kb_ss (by rfl) ?_
      walk_at "rd"
      refine rEqS (r := true) (decide_eq_true rfl) ?_
      exact k0 H2 (f1.trans f2)
theorem ok_same (F : FD K "_law_same" "_law_same" s_l_same f fd) (Z : Fr0 mg) (k_l_same : Cal P w K mg base "_law_same" PSA 2 spFlat) : FnOk P w K mg base CX0 3 f fd PSA spSameT := by
  refine F.ok sc_l_same (fun vs H Q E h => ?_) (fun cdv A0 outer s H vs Q E hr h => ?_)
  · obtain ⟨_, _, _, rfl, _⟩ := h
    rfl
  · obtain ⟨a, b, xs, rfl, ha, hb, fx, lx, k⟩ := h
    have hu := hu_of hr
    have nd := sc_l_same.nd
    refine ⟨_, PSs.nox (pss_cons (ps_if (PW.pt (pw_or (pt_cmpR op_isN1 (pv 1) pe_non (nomark _)) (pw_or1 (pt_cmpR op_isN1 (pv 0) pe_non (nomark _))))) (pss_one (ps_ret (pe_and (pe_cmpR op_isN1 (pv 1) pe_non (nomark _)) (pe_one (pe_cmpR op_isN1 (pv 0) pe_non (nomark _)))))) pss_nil)
      (pss_cons (ps_if (PW.pt (pw_or (pt_val (pe_callB call_isi (by rfl) Z.isinstance (by decide +kernel) (pa_cons (pv 1) (pa_cons (pe_bltn (v := .ty "bool") (u := .type "bool") (by rfl) Z.bool (by decide +kernel) rfl) pa_nil)))) (pw_or1 (pt_val (pe_callB call_isi (by rfl) Z.isinstance (by decide +kernel) (pa_cons (pv 0) (pa_cons (pe_bltn (v := .ty "bool") (u := .type "bool") (by rfl) Z.bool (by decide +kernel) rfl) pa_nil))))))) (pss_one (ps_ret (pe_and (pe_callB call_isi (by rfl) Z.isinstance (by decide +kernel) (pa_cons (pv 1) (pa_cons (pe_bltn (v := .ty "bool") (u := .type "bool") (by rfl) Z.bool (by decide +kernel) rfl) pa_nil))) (pe_and (pe_callB call_isi (by rfl) Z.isinstance (by decide +kernel) (pa_cons (pv 0) (pa_cons (pe_bltn (v := .ty "bool") (u := .type "bool") (by rfl) Z.bool (by decide +kernel) rfl) pa_nil))) (pe_one (pe_cmpR op_eq (pv 0) (pv 1) (nomark _))))))) pss_nil)
      (pss_cons (ps_if (pt_val (pe_callB call_isiT (by rfl) Z.isinstance (by decide +kernel) (pa_cons (pv 1) (pa_cons (pe_tup (pa_cons (pe_bltn (v := .ty "int") (u := .type "int") (by rfl) Z.int (by decide +kernel) rfl) (pa_cons (pe_bltn (v := .ty "str") (u := .type "str") (by rfl) Z.str (by decide +kernel) rfl) pa_nil))) pa_nil)))) (pss_cons (ps_if (pt_cmpR op_ne (pe_callB call_isi (by rfl) Z.isinstance (by decide +kernel) (pa_cons (pv 0) (pa_cons (pe_bltn (v := .ty "int") (u := .type "int") (by rfl) Z.int (by decide +kernel) rfl) pa_nil))) (pe_callB call_isi (by rfl) Z.isinstance (by decide +kernel) (pa_cons (pv 1) (pa_cons (pe_bltn (v := .ty "int") (u := .type "int") (by rfl) Z.int (by decide +kernel) rfl) pa_nil))) (nomark _)) (pss_one (ps_ret pe_bl)) pss_nil)
        (pss_one (ps_ret (pe_and (pe_callB call_isiT (by rfl) Z.isinstance (by decide +kernel) (pa_cons (pv 0) (pa_cons (pe_tup (pa_cons (pe_bltn (v := .ty "int") (u := .type "int") (by rfl) Z.int (by decide +kernel) rfl) (pa_cons (pe_bltn (v := .ty "str") (u := .type "str") (by rfl) Z.str (by decide +kernel) rfl) pa_nil))) pa_nil))) (pe_one (pe_cmpR op_eq (pv 0) (pv 1) (nomark _))))))) pss_nil)
      (pss_cons (ps_if (PW.pt (pw_or (pt_cmpR op_ne (pe_callB call_isi (by rfl) Z.isinstance (by decide +kernel) (pa_cons (pv 1) (pa_cons (pe_bltn (v := .ty "tuple") (u := .type "tuple") (by rfl) Z.tuple (by decide +kernel) rfl) pa_nil))) (pe_callB call_isi (by rfl) Z.isinstance (by decide +kernel) (pa_cons (pv 0) (pa_cons (pe_bltn (v := .ty "tuple") (u := .type "tuple") (by rfl) Z.tuple (by decide +kernel) rfl) pa_nil))) (nomark _)) (pw_or1 (pt_cmpR op_ne (pe_callB call_isi (by rfl) Z.isinstance (by decide +kernel) (pa_cons (pv 1) (pa_cons (pe_bltn (v := .ty "list") (u := .type "list") (by rfl) Z.list (by decide +kernel) rfl) pa_nil))) (pe_callB call_isi (by rfl) Z.isinstance (by decide +kernel) (pa_cons (pv 0) (pa_cons (pe_bltn (v := .ty "list") (u := .type "list") (by rfl) Z.list (by decide +kernel) rfl) pa_nil))) (nomark _))))) (pss_one (ps_ret pe_bl)) pss_nil)
      (pss_cons (ps_if (pt_cmpR op_ne (pe_callB call_lenS (by rfl) Z.len (by decide +kernel) (pa_cons (pv 0) pa_nil)) (pe_callB call_lenS (by rfl) Z.len (by decide +kernel) (pa_cons (pv 1) pa_nil)) (nomark _)) (pss_one (ps_ret pe_bl)) pss_nil)
      (pss_one (ps_ret (pe_cmpR op_notIn_seq pe_bl (pe_lc (own := [("_law_one", 2), ("_law_other", 3)]) (g := (gTup K 2 (gCons (gName 2) (gCons (gName 3) gNil)))) (tt := tYes) (by rfl) nd (pi_zipA (by rfl) Z.zip (pa_cons (pv 0) (pa_cons (pv 1) pa_nil))) (blkOk_by (own := [("_law_one", 2), ("_law_other", 3)]) (N := N_l_same) (sc := defScope s_l_same) (by decide +kernel)) (fun _ _ _ _ _ => (pg_tup rfl (pgs_cons (pg_name (i := 2) nd rfl (by first | exact Or.inl rfl | exact Or.inr rfl)) (pgs_cons (pg_name (i := 3) nd rfl (by first | exact Or.inl rfl | exact Or.inr rfl)) pgs_nil)))) (fun _ _ _ _ _ => pts_nil) (fun _ _ _ _ _ => (pe_cal k_l_same (hr.mono (by decide)) (by rfl) (pa_cons (pv 2) (pa_cons (pv 3) pa_nil))))) (by rfl))))))))), ?_⟩
    walk_at "rd"
    refine rIsi1 (tyt hb) kb_tb ?_
    walk_at "rd"
    refine rIsi1 (tyt ha) kb_tb ?_
    walk_at "rd"
    refine rNewT (ok100 rfl) fun q1 H1 n1 f1 t1 => ?_
    walk_at "rd"
    have ha1 := f1.tup _ _ ha
    have hb1 := f1.tup _ _ hb
    refine rIsiT2 (r := false) t1 (tyt hb1) kb_ti kb_ts (by rfl) ?_
    walk_at "rd"
    refine rIsi1 (tyt hb1) kb_tt ?_
    walk_at "rd"
    refine rIsi1 (tyt ha1) kb_tt ?_
    walk_at "rd"
    refine ifNt rfl ?_
    walk_at "rd"
    refine rIsi1 (tyt hb1) kb_tl ?_
    walk_at "rd"
    refine rIsi1 (tyt ha1) kb_tl ?_
    walk_at "rd"
    refine ifNt rfl ?_
    walk_at "rd"
    refine rLenT ha1 ?_
    walk_at "rd"
    refine rLenT hb1 ?_
    walk_at "rd"
    refine ifNt rfl ?_
    walk_at "rd"
    refine ⟨a, b, xs, xs, rfl, .inr ⟨SqT.of ha1, SqT.of hb1, lcTrue (walk_zT rfl) (fun H' f => ⟨SqT.of (f.tup _ _ ha1), SqT.of (f.tup _ _ hb1)⟩) (by omega) ?_ ?_⟩⟩
    · rintro i v H2 H3 hi f2 ⟨T1, x, y, rfl, hx, hy, f3, hT1⟩ Qk kq
      rw [hx] at hy
      cases hy
      refine rGTup hT1 rfl ?_
      walk_at "rd"
      refine ⟨rfl, ?_⟩
      walk_at "rd"
      exact ⟨x, rfl, fx x (List.mem_of_getElem? hx), fun H4 f4 => kq H4 (f3.trans f4)⟩
    · intro D H2 nD f2 hD
      refine rNotInBs hD ?_
      exact k H2 (f1.trans f2)
def spAre (B : Br) : Sp := fun vs H Q _ => ∃ (Ab : BA) (L : Addr) (xs : List V) (ls : List Line), vs = [.ref Ab.b, .ref L] ∧ BriefAt H Ab B ∧ H L = some (.lst xs) ∧ LinesAt H xs ls ∧ Lines B ls ∧ ∀ H', Fm [] H H' → Q (.bl true) H'
abbrev N_l_are_lines : List Str := ["_law_brief", "_law_value", "_law_k", "_law_line", "_law_due"]
theorem sc_l_are_lines : FnScope N_l_are_lines ["_law_brief", "_law_value"] (defScope s_l_are_lines) := ⟨rfl, rfl, rfl, by decide +kernel, rfl, by decide +kernel, by decide +kernel⟩
-- slots: 0 _law_brief, 1 _law_value, 2 _law_k, 3 _law_line, 4 _law_due
theorem ok_are_lines (F : FD K "_law_are_lines" "_law_are_lines" s_l_are_lines f fd) (Z : Fr0 mg) (k_l_same : Cal P w K mg base "_law_same" PSA 3 spSameT) (k_l_gives : Cal P w K mg base "_law_gives" ["_law_brief", "_law_earlier", "_law_many", "_law_reason"] 3 (spGives B)) :
    FnOk P w K mg base CX0 4 f fd ["_law_brief", "_law_value"] (spAre B) := by
  refine F.ok sc_l_are_lines (fun vs H Q E h => ?_) (fun cdv A0 outer s H vs Q E hr h => ?_)
  · obtain ⟨_, _, _, _, rfl, _⟩ := h
    rfl
  · obtain ⟨Ab, L, xs, ls, rfl, bf, hL, hls, hB, k⟩ := h
    have hu := hu_of hr
    have nd := sc_l_are_lines.nd
    refine ⟨_, PSs.nox (pss_cons (ps_if (pt_not (pt_val (pe_callB call_isi (by rfl) Z.isinstance (by decide +kernel) (pa_cons (pv 1) (pa_cons (pe_bltn (v := .ty "list") (u := .type "list") (by rfl) Z.list (by decide +kernel) rfl) pa_nil))))) (pss_one (ps_ret pe_bl)) pss_nil)
      (pss_cons (ps_for PassesOwn.never rfl (pi_enum (by rfl) Z.enumerate (pa_cons (pv 1) pa_nil)) (pg_tup rfl (pgs_cons (pg_name (i := 2) nd rfl (by first | exact Or.inl rfl | exact Or.inr rfl)) (pgs_cons (pg_name (i := 3) nd rfl (by first | exact Or.inl rfl | exact Or.inr rfl)) pgs_nil)))
        (pss_cons (ps_if (PW.pt (pw_or (pt_not (pt_val (pe_callB call_isi (by rfl) Z.isinstance (by decide +kernel) (pa_cons (pv 3) (pa_cons (pe_bltn (v := .ty "tuple") (u := .type "tuple") (by rfl) Z.tuple (by decide +kernel) rfl) pa_nil))))) (pw_or1 (pt_cmpR op_ne (pe_callB call_lenS (by rfl) Z.len (by decide +kernel) (pa_cons (pv 3) pa_nil)) pe_int (nomark _))))) (pss_one (ps_ret pe_bl)) pss_nil)
        (pss_cons (ps_set (i := 4) nd rfl (by first | exact Or.inl rfl | exact Or.inr rfl) (pe_cal k_l_gives (hr.mono (by decide)) (by rfl) (pa_cons (pv 0) (pa_cons (pv 1) (pa_cons (pv 2) (pa_cons (pe_ix ix_tup (pv 3) pe_int (fun _ _ => rfl)) pa_nil))))))
        (pss_one (ps_if (PW.pt (pw_or (pt_cmpR op_isN1 (pv 4) pe_non (nomark _)) (pw_or1 (pt_not (pt_val (pe_cal k_l_same (hr.mono (by decide)) (by rfl) (pa_cons (pe_slice sl_tupA (pv 3) po_none (po_some pe_int)) (pa_cons (pv 4) pa_nil)))))))) (pss_one (ps_ret pe_bl)) pss_nil)))))
      (pss_one (ps_ret pe_bl)))), ?_⟩
    walk_at "rd"
    refine rIsi1 (tyl hL) kb_ll ?_
    walk_at "rd"
    refine ⟨_, _, rfl, SqL.of hL, forJ (walk_enL (xs := xs)) (fun i σ' H' => ∃ o2 o3 o4 : Option V, σ' = [some (.ref Ab.b), some (.ref L), o2, o3, o4] ∧ Fm [] H H') ⟨_, _, _, rfl, Fm.refl⟩ ?_ ?_ ?_⟩
    · rintro i σ' H' _ ⟨_, _, _, _, fm⟩
      exact SqL.of (fm.oth _ _ (fun z => nomatch z) hL)
    · rintro i v σ' H1 H2 hi ⟨o2, o3, o4, rfl, fm⟩ ⟨T1, x, rfl, hx, f2, hT1⟩
      have li : i < ls.length := by rw [← hls.len]; exact hi
      have hli := List.getElem?_eq_getElem li
      generalize ls[i] = y at hli
      obtain ⟨v0, hv0, p, q, rfl, hp, hq⟩ := hls.get hli
      rw [hx] at hv0
      cases hv0
      have F2 := fm.trans f2
      refine rGTup hT1 rfl ?_
      walk_at "rd"
      refine rIsi1 (tyt (F2.tup _ _ hp)) kb_tt ?_
      walk_at "rd"
      refine rLenT (F2.tup _ _ hp) ?_
      walk_at "rd"
      refine ifNt (show ((5 : Nat) : Int) = 5 by decide) ?_
      walk_at "rd"
      refine rIxTl (F2.tup _ _ hp) rfl ?_
      walk_at "rd"
      refine ⟨Ab, L, q, xs, ls, i, y, rfl, bf.fm F2, F2.oth _ _ (fun z => nomatch z) hL, hls.fm F2, hB, (hB i y hli).1, F2.tup _ _ hq, fun q3 H3 f3 t3 => ?_⟩
      walk_at "rd"
      refine rSlA1 (f3.tup _ _ (F2.tup _ _ hp)) sIx5 (rNewT0 fun q4 H4 n4 f4 t4 => ?_)
      walk_at "rd"
      refine ⟨q4, q3, rowG y, rfl, t4, f4.tup _ _ t3, fun x hx => ?_, ok100' rfl, fun H5 f5 => ?_⟩
      · unfold rowG at hx
        simp only [List.mem_cons, List.not_mem_nil, or_false] at hx
        rcases hx with rfl | rfl | rfl | rfl
        · exact .inr ⟨_, rfl⟩
        · exact .inl ⟨_, rfl⟩
        · exact .inl ⟨_, rfl⟩
        · exact .inl ⟨_, rfl⟩
      · walk_at "rd"
        exact ⟨_, _, _, rfl, ((F2.trans f3).trans f4).trans f5⟩
    · rintro σ' H1 ⟨o2, o3, o4, rfl, fm⟩
      walk_at "rd"
      exact k H1 fm
def lineD (x : Line) : PyData := .tuple [.str (kindS x.most), .int x.a, .int x.b, .int x.w, .tuple (.str x.r.word :: match x.r with
  | .bound k => [.int (k : Nat)]
  | .high k => [.int (k : Nat)]
  | .sum k l => [.int (k : Nat), .int (l : Nat)]
  | .delay k l => [.int (k : Nat), .int (l : Nat)]
  | .early k => [.int (k : Nat)]
  | .ahead k => [.int (k : Nat)]
  | .floor k => [.int (k : Nat)])]
theorem lineD_at {H : Hp} {v : V} {x : Line} (h : LineAt H v x) : Dp K H v (lineD x) := by
  obtain ⟨p, q, rfl, hp, hq⟩ := h
  obtain ⟨mo, a, b, wt, r⟩ := x
  refine .tup (SqT.of hp) (.cons (.str _) (.cons (.int _) (.cons (.int _) (.cons (.int _) (.cons ?_ .nil)))))
  cases r with
  | bound k => exact .tup (SqT.of hq) (.cons (.str _) (.cons (.int _) .nil))
  | high k => exact .tup (SqT.of hq) (.cons (.str _) (.cons (.int _) .nil))
  | sum k l => exact .tup (SqT.of hq) (.cons (.str _) (.cons (.int _) (.cons (.int _) .nil)))
  | delay k l => exact .tup (SqT.of hq) (.cons (.str _) (.cons (.int _) (.cons (.int _) .nil)))
  | early k => exact .tup (SqT.of hq) (.cons (.str _) (.cons (.int _) .nil))
  | ahead k => exact .tup (SqT.of hq) (.cons (.str _) (.cons (.int _) .nil))
  | floor k => exact .tup (SqT.of hq) (.cons (.str _) (.cons (.int _) .nil))
theorem linesD_at {H : Hp} : ∀ {vs : List V} {ls : List Line}, LinesAt H vs ls → DpAll K H vs (ls.map lineD)
  | _, _, .nil => .nil
  | _, _, .cons h t => .cons (lineD_at h) (linesD_at t)
end
end A68
set_option maxRecDepth 100000
set_option maxHeartbeats 4000000
/-! The law's is_refutation. -/
namespace A68
open PySem PySem.Spec PyProof.Rows L2 RZ
theorem all_shaped : ∀ {ds : List PyData}, (∀ d ∈ ds, d.canLay0 = true ∧ d.depth ≤ 60) → PyData.canLayAll0 ds = true ∧ PyData.depthAll ds ≤ 60
  | [], _ => ⟨by simp [PyData.canLayAll0], by simp [PyData.depthAll]⟩
  | d :: ds, h => by
    obtain ⟨h1, h2⟩ := all_shaped fun e he => h e (List.mem_cons_of_mem _ he)
    obtain ⟨h3, h4⟩ := h d (List.mem_cons_self ..)
    exact ⟨by simp [PyData.canLayAll0, h1, h3], by simp only [PyData.depthAll]; omega⟩
theorem list_shaped {ds : List PyData} (h : ∀ d ∈ ds, d.canLay0 = true ∧ d.depth ≤ 60) : SeqAt.shaped (.list ds) = true := by
  obtain ⟨h1, h2⟩ := all_shaped h
  show (PyData.canLay0 (.list ds) && decide (PyData.depth (.list ds) ≤ 64)) = true
  rw [Bool.and_eq_true]
  exact ⟨by simp only [PyData.canLay0]; exact h1, decide_eq_true (by simp only [PyData.depth]; omega)⟩
theorem tuple_lay {ds : List PyData} (h : ∀ d ∈ ds, d.canLay0 = true) : PyData.canLay0 (.tuple ds) = true := by
  simp only [PyData.canLay0]
  induction ds with
  | nil => simp [PyData.canLayAll0]
  | cons d ds ih => simp [PyData.canLayAll0, h d (List.mem_cons_self ..), ih fun e he => h e (List.mem_cons_of_mem _ he)]
theorem word_ok (r : Rs) : PyData.canLay0 (.str r.word) = true := by
  cases r <;> exact (by simp only [PyData.canLay0, Rs.word]; decide +kernel)
theorem kind_ok (m : Bool) : PyData.canLay0 (.str (kindS m)) = true := by
  cases m <;> exact (by simp only [PyData.canLay0, kindS]; decide +kernel)
theorem int_lay (i : Int) : PyData.canLay0 (.int i) = true := by simp [PyData.canLay0]
theorem lineD_ok (x : Line) : (lineD x).canLay0 = true ∧ (lineD x).depth ≤ 60 := by
  obtain ⟨mo, a, b, w, r⟩ := x
  constructor
  · refine tuple_lay fun d hd => ?_
    simp only [List.mem_cons, List.not_mem_nil, or_false] at hd
    rcases hd with rfl | rfl | rfl | rfl | rfl
    · exact kind_ok mo
    · exact int_lay _
    · exact int_lay _
    · exact int_lay _
    · refine tuple_lay fun d hd => ?_
      rcases List.mem_cons.mp hd with rfl | hd
      · exact word_ok r
      · cases r <;> simp only [List.mem_cons, List.not_mem_nil, or_false] at hd
        case sum => rcases hd with rfl | rfl <;> exact int_lay _
        case delay => rcases hd with rfl | rfl <;> exact int_lay _
        all_goals exact hd ▸ int_lay _
  · cases r <;> simp [lineD, PyData.depth, PyData.depthAll]
local macro_rules | `(tactic| walk_at "rd1") => `(tactic| first
  | ((with_reducible refine' rVar ?hx ?_); (case hx => rfl))
  | (with_reducible refine rC ?_)
  | (with_reducible refine rOp ?_)
  | (with_reducible refine rUn ?_)
  | (with_reducible refine rI0i ?_)
  | (with_reducible refine rUi ?_)
  | ((with_reducible refine rMulL ?a ?b ?_); (case a => decide); (case b => decide))
  | ((with_reducible refine rMulR ?a ?b ?_); (case a => decide); (case b => decide))
  | ((with_reducible refine rModP ?a ?_); (case a => decide))
  | ((with_reducible refine rDivP ?a ?b ?_); (case a => decide); (case b => decide))
  | ((with_reducible refine rPowL ?a ?b ?c ?_); (case a => decide); (case b => decide); (case c => decide))
  | (with_reducible refine rEqI ?_)
  | (with_reducible refine rNeI ?_)
  | (with_reducible refine rIsNi ?_)
  | (with_reducible refine rIsNn ?_)
  | (with_reducible refine rIsNr ?_)
  | (with_reducible refine rNotNi ?_)
  | (with_reducible refine rNotNn ?_)
  | (with_reducible refine rNotNr ?_)
  | (with_reducible refine rTest ?_)
  | (with_reducible refine rTB ?_)
  | (with_reducible refine rBlV ?_)
  | (with_reducible refine rAnd ?_)
  | (with_reducible refine rOr ?_)
  | (with_reducible refine rNot ?_)
  | (with_reducible refine rAndV ?_)
  | (with_reducible refine rOrV ?_)
  | (with_reducible refine rNotV ?_)
  | (with_reducible refine rIf ?_)
  | (with_reducible refine rNil ?_)
  | (with_reducible refine rCons ?_)
  | (with_reducible refine rTup ?_)
  | (with_reducible refine rLst ?_)
  | (with_reducible refine rCB ?_)
  | (with_reducible refine rCall ?_)
  | (with_reducible refine rBM ?_)
  | (with_reducible refine rMin2i ?_)
  | (with_reducible refine rMax2i ?_)
  | (with_reducible refine rInt1i ?_)
  | (with_reducible refine rPartN ?_)
  | (with_reducible refine rPart ?_)
  | (with_reducible refine rInt ?_)
  | (with_reducible refine rSlS ?_)
  | (with_reducible refine rSFld ?_)
  | (with_reducible refine rSDPut ?_)
  | (with_reducible refine rDGet ?_)
  | (with_reducible refine rDIn ?_)
  | (with_reducible refine rDNotIn ?_)
  | (with_reducible refine rSeq ?_)
  | (with_reducible refine rAsg ?_)
  | (with_reducible refine rName ?_)
  | (with_reducible refine rDrop ?_)
  | (with_reducible refine rRet ?_)
  | (with_reducible refine rIfS ?_)
  | (with_reducible refine rNext ?_)
  | (with_reducible refine rPar ?_)
  | (with_reducible refine rPar2 ?_)
  | (with_reducible refine rMeth ?_)
  | (with_reducible refine rGCons ?_)
  | (with_reducible refine rGNil ?_)
  | (with_reducible refine rForS ?_)
  | (with_reducible refine rLcS ?_)
  | (with_reducible refine rIL ?_)
  | (with_reducible refine rIT ?_)
  | (with_reducible refine rIE ?_)
  | (with_reducible refine rYes ?_)
  | (with_reducible refine rIsNs ?_)
  | (with_reducible refine rNeB ?_)
  | (with_reducible refine rIZ ?_)
  | (with_reducible refine rChain ?_)
  | (with_reducible refine rDc2 ?_)
  | (with_reducible refine rDcS ?_)
  | (with_reducible refine rIR3 ?_)
  | (with_reducible refine rMake ?_)
  | (with_reducible refine rIR1 ?_)
  | (with_reducible refine rIR2 ?_)
  | (with_reducible refine rIET ?_)
  | (with_reducible refine ifSn ?_)
  | (with_reducible refine ifNn ?_)
  | (with_reducible refine ifSs ?_)
  | (with_reducible refine ifNs ?_)
  | (with_reducible refine rNotNfs ?_)
  | (with_reducible refine rNotNfn ?_)
  | (with_reducible refine rIsNfs ?_)
  | (with_reducible refine rIsNfn ?_)
  | (with_reducible refine ifT ?_)
  | (with_reducible refine ifF ?_)
  | (with_reducible refine ifNT ?_)
  | (with_reducible refine ifNF ?_))
local macro_rules | `(tactic| walk_at "rd") => `(tactic| (repeat walk_at "rd1"))
theorem atI_last {xs : List V} {v : V} (h : xs[xs.length - 1]? = some v) : atI xs (-1) = some v := by
  have l := (List.getElem?_eq_some_iff.mp h).1
  have e : ixN xs.length (-1) = some (xs.length - 1) := by
    unfold ixN
    rw [if_neg (by decide), if_pos (by omega)]
    congr 1
    omega
  unfold atI
  rw [e]
  exact h
def spIsRef (B : Br) : Sp := fun vs H Q _ => ∃ (Ab : BA) (L : Addr) (xs : List V) (ls : List Line) (x : Line), vs = [.ref Ab.b, .ref L] ∧ BriefAt H Ab B ∧ H L = some (.lst xs) ∧ LinesAt H xs ls ∧ Lines B ls ∧ ls[ls.length - 1]? = some x ∧ x.most = true ∧ x.a = x.b ∧ x.w < 0 ∧ ∀ H', Fm [] H H' → Q (.bl true) H'
section
variable {P : Program} {w : World} {K : PySem.W.Frag} {mg : Str → Option Value} {base : Heap} {f : Addr} {fd : FuncData} {B : Br}
abbrev N_l_is_refutation : List Str := ["_law_brief", "_law_value", "_law_kind", "_law_one", "_law_other", "_law_w"]
theorem sc_l_is_refutation : FnScope N_l_is_refutation ["_law_brief", "_law_value"] (defScope s_l_is_refutation) := ⟨rfl, rfl, rfl, by decide +kernel, rfl, by decide +kernel, by decide +kernel⟩
-- slots: 0 _law_brief, 1 _law_value, 2 _law_kind, 3 _law_one, 4 _law_other, 5 _law_w
theorem ok_is_refutation (F : FD K "_law_is_refutation" "_law_is_refutation" s_l_is_refutation f fd) (Z : Fr0 mg) (k_l_are_lines : Cal P w K mg base "_law_are_lines" ["_law_brief", "_law_value"] 4 (spAre B)) : FnOk P w K mg base CX0 5 f fd ["_law_brief", "_law_value"] (spIsRef B) := by
  refine F.ok sc_l_is_refutation (fun vs H Q E h => ?_) (fun cdv A0 outer s H vs Q E hr h => ?_)
  · obtain ⟨_, _, _, _, _, rfl, _⟩ := h
    rfl
  · obtain ⟨Ab, L, xs, ls, x, rfl, bf, hL, hls, hB, hx, e1, e2, e3, k⟩ := h
    have hu := hu_of hr
    have nd := sc_l_is_refutation.nd
    refine ⟨_, PSs.nox (pss_cons (ps_if (PW.pt (pw_or (pt_not (pt_val (pe_cal k_l_are_lines (hr.mono (by decide)) (by rfl) (pa_cons (pv 0) (pa_cons (pv 1) pa_nil))))) (pw_or1 (pt_cmpR (op_eqD hr.units) (pv 1) (pe_lst pa_nil) (nomark _))))) (pss_one (ps_ret pe_bl)) pss_nil)
      (pss_cons (ps_asg (pe_slice sl_tupA (pe_ix ix_list (pv 1) (pe_un un_neg pe_int) (fun _ _ => rfl)) po_none (po_some pe_int)) (pg_tup rfl (pgs_cons (pg_name (i := 2) nd rfl (by first | exact Or.inl rfl | exact Or.inr rfl)) (pgs_cons (pg_name (i := 3) nd rfl (by first | exact Or.inl rfl | exact Or.inr rfl)) (pgs_cons (pg_name (i := 4) nd rfl (by first | exact Or.inl rfl | exact Or.inr rfl)) (pgs_cons (pg_name (i := 5) nd rfl (by first | exact Or.inl rfl | exact Or.inr rfl)) pgs_nil))))))
      (pss_one (ps_ret (pe_and (pe_cmpR op_eq (pv 2) pe_str (nomark _)) (pe_and (pe_cmpR op_eq (pv 3) (pv 4) (nomark _)) (pe_one (pe_cmpR op_lt (pv 5) pe_int (nomark _))))))))), ?_⟩
    walk_at "rd"
    refine ⟨Ab, L, xs, ls, rfl, bf, hL, hls, hB, fun H1 f1 => ?_⟩
    walk_at "rd"
    refine rNewL (ok100 rfl) fun q2 H2 n2 f2 t2 => ?_
    have F2 := f1.trans f2
    have hL2 := F2.oth _ _ (fun z => nomatch z) hL
    have hls2 := hls.fm F2
    refine ⟨_, _, .lst (SqL.of hL2) (linesD_at hls2), .lst (SqL.of t2) .nil, list_shaped (fun d hd => by
      obtain ⟨y, _, rfl⟩ := List.mem_map.mp hd
      exact lineD_ok y), rfl, ?_⟩
    have ne : ls ≠ [] := fun z => by rw [z] at hx; simp at hx
    have en : PyData.eqv (.list (ls.map lineD)) (.list []) = false := by
      cases q : ls with
      | nil => exact absurd q ne
      | cons a l => rfl
    rw [en]
    walk_at "rd"
    obtain ⟨v, hv, p, q, rfl, hp, hq⟩ := hls2.get hx
    rw [← hls2.len] at hv
    refine ⟨_, _, _, _, rfl, rfl, SqL.of hL2, atI_last hv, ?_⟩
    walk_at "rd"
    refine rSlA1 hp sIx5 (rNewT0 fun q4 H4 n4 f4 t4 => ?_)
    walk_at "rd"
    refine rGTup (xs := [.str (kindS x.most), .int x.a, .int x.b, .int x.w]) t4 rfl ?_
    walk_at "rd"
    refine rEqS (r := true) (by rw [e1]; decide +kernel) ?_
    walk_at "rd"
    refine ifDt e2 ?_
    walk_at "rd"
    rw [decide_eq_true e3]
    exact k H4 (F2.trans f4)
end
end A68
set_option maxRecDepth 100000
set_option maxHeartbeats 4000000
/-! The law's is_closed. -/
namespace A68
open PySem PySem.Spec PyProof.Rows L2 RZ
theorem rPar3 {m n l : Nat} {ts : TA} {D : Ends} {σ : St} {H : Hp} (q : ts σ H fun vs H1 => ∃ v w u, vs = [v, w, u] ∧ D.nx (((σ.set m (some v)).set n (some w)).set l (some u)) H1) : tPar3 m n l ts D σ H := q
theorem rPar3v {x y z : V} {k : V → V → V → Prop} (q : k x y z) : ∃ v w u, [x, y, z] = [v, w, u] ∧ k v w u := ⟨x, y, z, rfl, q⟩
/-- d[a, b] of a dict that stands -/
theorem rGetT {H : Hp} {Q : VK} {m : Addr} {kvs : List (List Key × V)} {a b : Int} {v : V} (hm : Rd H m (.dT kvs)) (e : valV kvs (kk a b) = some v) (q : ∀ H', Fm [] H H' → Q v H') :
    [V.int a, V.int b].length ≤ sizeLine ∧ NewT [V.int a, V.int b] H (fun y H2 => ∃ ad v', V.ref m = .ref ad ∧ DGet H2 ad y (some v') ∧ Q v' H2) :=
  rNewT (ok100 rfl) fun p H' n f t => by
    refine ⟨m, v, rfl, .inr ⟨kvs, kk a b, p, ?_, rfl, t, e.symm⟩, q H' f⟩
    rcases hm with h | ⟨o, h⟩
    · exact .inl (f.oth _ _ (fun z => nomatch z) h)
    · exact .inr ⟨o, f.oth _ _ (fun z => nomatch z) h⟩
theorem Rd.fm {S : List Addr} {H H' : Hp} {m : Addr} {u : HO} (f : Fm S H H') (n : m ∉ S) (h : Rd H m u) : Rd H' m u := by
  rcases h with h | ⟨o, h⟩
  · exact .inl (f.oth _ _ n h)
  · exact .inr ⟨o, f.oth _ _ n h⟩
/-- a comprehension, whatever it takes in -/
theorem lcGen {S : List Addr} {J : It} {n : Nat} {G : Hp → Prop} {Y : Nat → Hp → V → Hp → Prop} {g : TG} {tt : TT} {te : TE} {vs : List Nat} {σ : St} {H : Hp} {Q : VK} (w : Walk J n G Y) (hn : n ≤ 1000) (I : Nat → List V → Hp → Prop) (hS : ∀ b ∈ S, H b ≠ none)
    (h0 : ∀ D, H D = none → I 0 [] (upd H D (.lst []))) (hG : ∀ i acc H', I i acc H' → G H') (ins : ∀ D i acc H1 ys zs, H D = none → H1 D = some (.lst ys) → I i acc H1 → I i acc (upd H1 D (.lst zs)))
    (step : ∀ i x acc H1 H2, i < n → I i acc H1 → Y i H1 x H2 → ∀ (K1 : VK) (K0 : Hp → Prop), (∀ y H4, Fm S H1 H4 → I (i + 1) (acc ++ [y]) H4 → K1 y H4) → (∀ H3, Fm S H1 H3 → I (i + 1) acc H3 → K0 H3) →
      g x (wipe σ vs) H2 fun σ2 H2' => wipe σ2 vs = wipe σ vs ∧ tt σ2 H2' fun b H3 => if b = true then te σ2 H3 K1 else K0 H3)
    (fin : ∀ (D : Addr) (acc : List V) (H' : Hp), H D = none → Fm S H H' → H' D = some (.lst acc) → I n acc H' → acc.length ≤ n → Q (.ref D) H') : LcJ J g tt te vs σ H Q := by
  have nS : ∀ {D}, H D = none → D ∉ S := fun {D} h z => hS D z h
  refine lcJ w (fun D j H' => ∃ acc : List V, H D = none ∧ Fm (D :: S) H H' ∧ H' D = some (.lst acc) ∧ acc.length ≤ j ∧ I j acc H') (fun D h => ⟨[], h, Fm.new h, upd_same, Nat.le_refl _, h0 D h⟩) ?_ ?_ ?_
  · rintro D i H' _ ⟨acc, _, _, _, _, i'⟩
    exact hG i acc H' i'
  · rintro D i x H1 H2 hi ⟨acc, h, f, hD, la, i'⟩ y
    refine step i x acc H1 H2 hi i' y _ _ (fun y H4 f4 i4 => ?_) (fun H3 f3 i3 => ?_)
    · have h4 := f4.oth _ _ (nS h) hD
      refine ⟨acc, h4, line9l (by omega), acc ++ [y], h, (f.trans (f4.mono fun b z => List.mem_cons_of_mem _ z)).trans (Fm.wr (by simp) h4 (fun _ z => nomatch z)), upd_same, by rw [List.length_append]; exact Nat.succ_le_succ la, ins D _ _ _ _ _ h h4 i4⟩
    · exact ⟨acc, h, f.trans (f3.mono fun b z => List.mem_cons_of_mem _ z), f3.oth _ _ (nS h) hD, by omega, i3⟩
  · rintro D H' ⟨acc, h, f, hD, la, i'⟩
    exact fin D acc H' h (Fm.drop (L := [D]) f fun b z => by rw [List.mem_singleton.mp z]; exact h) hD i' la
theorem rNeNil {K : PySem.W.Frag} {H : Hp} {Q : VK} {a b : Addr} (h1 : H a = some (.lst [])) (h2 : H b = some (.lst [])) (q : Q (.bl false) H) : rNeD K (.ref a) (.ref b) H Q := ⟨.list [], .list [], .lst (SqL.of h1) .nil, .lst (SqL.of h2) .nil, rfl, rfl, q⟩
local macro_rules | `(tactic| walk_at "rd1") => `(tactic| first
  | ((with_reducible refine' rVar ?hx ?_); (case hx => rfl))
  | (with_reducible refine rC ?_)
  | (with_reducible refine rOp ?_)
  | (with_reducible refine rUn ?_)
  | (with_reducible refine rI0i ?_)
  | (with_reducible refine rUi ?_)
  | ((with_reducible refine rMulL ?a ?b ?_); (case a => decide); (case b => decide))
  | ((with_reducible refine rMulR ?a ?b ?_); (case a => decide); (case b => decide))
  | ((with_reducible refine rModP ?a ?_); (case a => decide))
  | ((with_reducible refine rDivP ?a ?b ?_); (case a => decide); (case b => decide))
  | ((with_reducible refine rPowL ?a ?b ?c ?_); (case a => decide); (case b => decide); (case c => decide))
  | (with_reducible refine rEqI ?_)
  | (with_reducible refine rNeI ?_)
  | (with_reducible refine rIsNi ?_)
  | (with_reducible refine rIsNn ?_)
  | (with_reducible refine rIsNr ?_)
  | (with_reducible refine rNotNi ?_)
  | (with_reducible refine rNotNn ?_)
  | (with_reducible refine rNotNr ?_)
  | (with_reducible refine rTest ?_)
  | (with_reducible refine rTB ?_)
  | (with_reducible refine rBlV ?_)
  | (with_reducible refine rAnd ?_)
  | (with_reducible refine rOr ?_)
  | (with_reducible refine rNot ?_)
  | (with_reducible refine rAndV ?_)
  | (with_reducible refine rOrV ?_)
  | (with_reducible refine rNotV ?_)
  | (with_reducible refine rIf ?_)
  | (with_reducible refine rNil ?_)
  | (with_reducible refine rCons ?_)
  | (with_reducible refine rTup ?_)
  | (with_reducible refine rLst ?_)
  | (with_reducible refine rCB ?_)
  | (with_reducible refine rCall ?_)
  | (with_reducible refine rBM ?_)
  | (with_reducible refine rMin2i ?_)
  | (with_reducible refine rMax2i ?_)
  | (with_reducible refine rInt1i ?_)
  | (with_reducible refine rPartN ?_)
  | (with_reducible refine rPart ?_)
  | (with_reducible refine rInt ?_)
  | (with_reducible refine rSlS ?_)
  | (with_reducible refine rSFld ?_)
  | (with_reducible refine rSDPut ?_)
  | (with_reducible refine rDGet ?_)
  | (with_reducible refine rDIn ?_)
  | (with_reducible refine rDNotIn ?_)
  | (with_reducible refine rSeq ?_)
  | (with_reducible refine rAsg ?_)
  | (with_reducible refine rName ?_)
  | (with_reducible refine rDrop ?_)
  | (with_reducible refine rRet ?_)
  | (with_reducible refine rIfS ?_)
  | (with_reducible refine rNext ?_)
  | (with_reducible refine rPar ?_)
  | (with_reducible refine rPar2 ?_)
  | (with_reducible refine rMeth ?_)
  | (with_reducible refine rGCons ?_)
  | (with_reducible refine rGNil ?_)
  | (with_reducible refine rForS ?_)
  | (with_reducible refine rLcS ?_)
  | (with_reducible refine rIL ?_)
  | (with_reducible refine rIT ?_)
  | (with_reducible refine rIE ?_)
  | (with_reducible refine rYes ?_)
  | (with_reducible refine rPar3 ?_)
  | (with_reducible refine rPar3v ?_)
  | (with_reducible refine rLstRg ?_)
  | (with_reducible refine rRg1 ?_)
  | (with_reducible refine rIK ?_)
  | (with_reducible refine rIsNs ?_)
  | (with_reducible refine rNeB ?_)
  | (with_reducible refine rIZ ?_)
  | (with_reducible refine rChain ?_)
  | (with_reducible refine rDc2 ?_)
  | (with_reducible refine rDcS ?_)
  | (with_reducible refine rIR3 ?_)
  | (with_reducible refine rMake ?_)
  | (with_reducible refine rIR1 ?_)
  | (with_reducible refine rIR2 ?_)
  | (with_reducible refine rIET ?_)
  | (with_reducible refine ifSn ?_)
  | (with_reducible refine ifNn ?_)
  | (with_reducible refine ifSs ?_)
  | (with_reducible refine ifNs ?_)
  | (with_reducible refine rNotNfs ?_)
  | (with_reducible refine rNotNfn ?_)
  | (with_reducible refine rIsNfs ?_)
  | (with_reducible refine rIsNfn ?_)
  | (with_reducible refine ifT ?_)
  | (with_reducible refine ifF ?_)
  | (with_reducible refine ifNT ?_)
  | (with_reducible refine ifNF ?_))
local macro_rules | `(tactic| walk_at "rd") => `(tactic| (repeat walk_at "rd1"))
/-! ### looking up in the table -/
theorem gridM_nd {B : Br} {st : CS} : ∀ j, ((gridM B st j).map (·.1)).Nodup := fun j => by
  induction j with
  | zero => exact List.nodup_nil
  | succ j ih =>
    rw [gridM_succ, List.map_append]
    refine List.nodup_append.mpr ⟨ih, ?_, ?_⟩
    · rw [List.map_map]
      refine List.pairwise_map.mpr (List.pairwise_lt_range.imp fun {x y} h z => ?_)
      have := kk_inj.mp z
      omega
    · intro x hx y hy z
      obtain ⟨kv, h1, rfl⟩ := List.mem_map.mp hx
      obtain ⟨kv', h2, rfl⟩ := List.mem_map.mp hy
      unfold gridM at h1
      obtain ⟨i, h3, h4⟩ := List.mem_flatMap.mp h1
      obtain ⟨y', h5, rfl⟩ := List.mem_map.mp h4
      obtain ⟨y'', h6, rfl⟩ := List.mem_map.mp h2
      have h3 := List.mem_range.mp h3
      have := kk_inj.mp z
      omega
theorem gridM_val {B : Br} {st : CS} {a b : Int} (ha : B.ev a) (hb : B.ev b) : valV (gridM B st (2 * B.n + 1)) (kk a b) = some (.int (Mf st a b)) := by
  have e1 : ((a.toNat : Nat) : Int) = a := by have := ha.1; omega
  have e2 : ((b.toNat : Nat) : Int) = b := by have := hb.1; omega
  refine mem_valV (gridM_nd _) ?_
  unfold gridM
  refine List.mem_flatMap.mpr ⟨a.toNat, List.mem_range.mpr (by have := ha.2; omega), List.mem_map.mpr ⟨b.toNat, List.mem_range.mpr (by have := hb.2; omega), ?_⟩⟩
  rw [e1, e2]
theorem keepW_kk {st : CS} {i e : Int} {v : V} : keepW st (kk i e, v) = if e = 2 * i + 2 then none else some (kk i e, .int (Wf st i e)) := by
  simp [keepW, kk]
theorem gridW_mem {B : Br} {st : CS} (v : Val B st) {kv : List Key × V} (h : kv ∈ gridW st st.waits) : ∃ i e, kv = (kk i e, .int (Wf st i e)) ∧ B.tk i ∧ B.ev e ∧ e ≠ 2 * i + 2 := by
  unfold gridW at h
  obtain ⟨⟨k0, v0⟩, h1, h2⟩ := List.mem_filterMap.mp h
  obtain ⟨i, e, u, ek, ti, ee, _⟩ := v.keyW _ h1
  obtain rfl : k0 = kk i e := ek
  rw [keepW_kk] at h2
  by_cases z : e = 2 * i + 2
  · rw [if_pos z] at h2
    cases h2
  · rw [if_neg z] at h2
    cases h2
    exact ⟨i, e, rfl, ti, ee, z⟩
theorem gridW_keys {B : Br} {st : CS} (v : Val B st) : ((gridW st st.waits).map (·.1)).Nodup := by
  have pw : st.waits.Pairwise fun x y => x.1 ≠ y.1 := List.pairwise_map.mp v.wn
  refine List.pairwise_map.mpr ?_
  unfold gridW
  refine List.pairwise_filterMap.mpr (pw.imp_of_mem fun {x y} hx hy n b hb c hc z => ?_)
  obtain ⟨i, e, _, ek, _⟩ := v.keyW x hx
  obtain ⟨i', e', _, ek', _⟩ := v.keyW y hy
  obtain ⟨x1, x2⟩ := x
  obtain ⟨y1, y2⟩ := y
  obtain rfl : x1 = kk i e := ek
  obtain rfl : y1 = kk i' e' := ek'
  rw [keepW_kk] at hb hc
  by_cases z1 : e = 2 * i + 2
  · rw [if_pos z1] at hb; cases hb
  · by_cases z2 : e' = 2 * i' + 2
    · rw [if_pos z2] at hc; cases hc
    · rw [if_neg z1] at hb
      rw [if_neg z2] at hc
      cases hb
      cases hc
      exact n z
theorem gridW_val {B : Br} {st : CS} (v : Val B st) (al : AllP B st) {i e : Int} (ti : B.tk i) (ee : B.ev e) (n : e ≠ 2 * i + 2) : valV (gridW st st.waits) (kk i e) = some (.int (Wf st i e)) := by
  refine mem_valV (gridW_keys v) ?_
  obtain ⟨w, hw⟩ := al.2 i e ti ee
  obtain ⟨j, kv, hj, ek⟩ := W_key hw
  obtain ⟨k0, v0⟩ := kv
  obtain rfl : k0 = kk i e := ek
  unfold gridW
  exact List.mem_filterMap.mpr ⟨_, List.mem_of_getElem? hj, by rw [keepW_kk, if_neg n]⟩
def spIsClosed (B : Br) : Sp := fun vs H Q _ => ∃ (Ab : BA) (tb m wd : Addr) (st : CS), vs = [.ref Ab.b, .ref tb] ∧ BriefAt H Ab B ∧ H tb = some (.tup [.ref m, .ref wd]) ∧ H m = some (.dT (gridM B st (2 * B.n + 1))) ∧ H wd = some (.dT (gridW st st.waits)) ∧ Val B st ∧ EndT B st ∧ ∀ H', Fm [] H H' → Q (.bl true) H'
section
variable {P : Program} {w : World} {K : PySem.W.Frag} {mg : Str → Option Value} {base : Heap} {f : Addr} {fd : FuncData} {B : Br}
abbrev N_l_is_closed : List Str := ["_law_brief", "_law_table", "_law_tasks", "_law_mosts", "_law_waits", "_law_every", "_law_i", "_law_times", "_law_a", "_law_b", "_law_w", "_law_event", "_law_other", "_law_least", "_law_c"]
theorem sc_l_is_closed : FnScope N_l_is_closed ["_law_brief", "_law_table"] (defScope s_l_is_closed) := ⟨rfl, rfl, rfl, by decide +kernel, rfl, by decide +kernel, by decide +kernel⟩
-- slots: 0 _law_brief, 1 _law_table, 2 _law_tasks, 3 _law_mosts, 4 _law_waits, 5 _law_every, 6 _law_i, 7 _law_times, 8 _law_a, 9 _law_b, 10 _law_w, 11 _law_event, 12 _law_other, 13 _law_least, 14 _law_c
theorem ok_is_closed (ok : B.Ok) (F : FD K "_law_is_closed" "_law_is_closed" s_l_is_closed f fd) (Z : Fr0 mg) (k_l_bounds : Cal P w K mg base "_law_bounds" ["_law_brief"] 1 (spBounds B))
    (k_l_owner : Cal P w K mg base "_law_owner" ["_law_event"] 1 (spI1 fun n => .int (own n))) (k_l_is_end : Cal P w K mg base "_law_is_end" ["_law_event"] 2 (spI1 fun n => .bl (isEndB n))) :
    FnOk P w K mg base CX0 3 f fd ["_law_brief", "_law_table"] (spIsClosed B) := by
  refine F.ok sc_l_is_closed (fun vs H Q E h => ?_) (fun cdv A0 outer s H vs Q E hr h => ?_)
  · obtain ⟨_, _, _, _, _, rfl, _⟩ := h
    rfl
  · obtain ⟨Ab, tb, m, wd, st, rfl, bf, htb, hm, hwd, v, en, k⟩ := h
    have hu := hu_of hr
    have nd := sc_l_is_closed.nd
    refine ⟨_, PSs.nox (pss_cons (ps_asg (pe_tup (pa_cons (pe_ix ix_tup (pe_ix ix_tup (pv 0) pe_int (fun _ _ => rfl)) pe_int (fun _ _ => rfl)) (pa_cons (pe_ix ix_tup (pv 1) pe_int (fun _ _ => rfl)) (pa_cons (pe_callTy (call_dictT hr.units) (by rfl) Z.dict (by decide +kernel) (pa_cons (pe_ix ix_tup (pv 1) pe_int (fun _ _ => rfl)) pa_nil)) pa_nil)))) (pg_tup rfl (pgs_cons (pg_name (i := 2) nd rfl (by first | exact Or.inl rfl | exact Or.inr rfl)) (pgs_cons (pg_name (i := 3) nd rfl (by first | exact Or.inl rfl | exact Or.inr rfl)) (pgs_cons (pg_name (i := 4) nd rfl (by first | exact Or.inl rfl | exact Or.inr rfl)) pgs_nil)))))
      (pss_cons (ps_set (i := 5) nd rfl (by first | exact Or.inl rfl | exact Or.inr rfl) (pe_listRg rfl (by rfl) Z.list (prg_1 (by rfl) Z.range (pe_op op_add (pe_op op_mul pe_int (pe_callB call_lenS (by rfl) Z.len (by decide +kernel) (pa_cons (pv 2) pa_nil))) pe_int))))
      (pss_cons (ps_for PassesOwn.never rfl (pi_enumT (by rfl) Z.enumerate (pa_cons (pv 2) pa_nil)) (pg_tup rfl (pgs_cons (pg_name (i := 6) nd rfl (by first | exact Or.inl rfl | exact Or.inr rfl)) (pgs_cons (pg_name (i := 7) nd rfl (by first | exact Or.inl rfl | exact Or.inr rfl)) pgs_nil)))
        (pss_one (ps_dput hu (pv 4) (pe_tup (pa_cons (pv 6) (pa_cons (pe_op op_add (pe_op op_mul pe_int (pv 6)) pe_int) pa_nil))) (pe_ix ix_tup (pv 7) pe_int (fun _ _ => rfl)) rfl)))
      (pss_cons (ps_for PassesOwn.never rfl (pi_list (pe_cal k_l_bounds (hr.mono (by decide)) (by rfl) (pa_cons (pv 0) pa_nil))) (pg_tup rfl (pgs_cons (pg_name (i := 8) nd rfl (by first | exact Or.inl rfl | exact Or.inr rfl)) (pgs_cons (pg_name (i := 9) nd rfl (by first | exact Or.inl rfl | exact Or.inr rfl)) (pgs_cons (pg_name (i := 10) nd rfl (by first | exact Or.inl rfl | exact Or.inr rfl)) pgs_nil))))
        (pss_one (ps_if (pt_cmpR op_gt (pe_dget hu (pv 3) (pe_tup (pa_cons (pv 8) (pa_cons (pv 9) pa_nil))) (fun _ _ => rfl)) (pv 10) (nomark _)) (pss_one (ps_ret pe_bl)) pss_nil)))
      (pss_cons (ps_for PassesOwn.never rfl (pi_list (pv 5)) (pg_name (i := 8) nd rfl (by first | exact Or.inl rfl | exact Or.inr rfl))
        (pss_cons (ps_if (pt_cmpR op_ne (pe_dget hu (pv 3) (pe_tup (pa_cons (pv 8) (pa_cons (pv 8) pa_nil))) (fun _ _ => rfl)) pe_int (nomark _)) (pss_one (ps_ret pe_bl)) pss_nil)
        (pss_one (ps_for PassesOwn.never rfl (pi_list (pv 5)) (pg_name (i := 9) nd rfl (by first | exact Or.inl rfl | exact Or.inr rfl))
          (pss_cons (ps_if (pt_cmpR (op_neD hr.units) (pe_lc (own := [("_law_c", 14)]) (g := (gName 14)) (by rfl) nd (pi_list (pv 5)) (blkOk_by (own := [("_law_c", 14)]) (N := N_l_is_closed) (sc := defScope s_l_is_closed) (by decide +kernel)) (fun _ _ _ _ _ => (pg_name (i := 14) nd rfl (by first | exact Or.inl rfl | exact Or.inr rfl))) (fun _ _ _ _ _ => (pts_one (pt_cmpR op_gt (pe_dget hu (pv 3) (pe_tup (pa_cons (pv 8) (pa_cons (pv 14) pa_nil))) (fun _ _ => rfl)) (pe_op op_add (pe_dget hu (pv 3) (pe_tup (pa_cons (pv 8) (pa_cons (pv 9) pa_nil))) (fun _ _ => rfl)) (pe_dget hu (pv 3) (pe_tup (pa_cons (pv 9) (pa_cons (pv 14) pa_nil))) (fun _ _ => rfl))) (nomark _)))) (fun _ _ _ _ _ => (pv 14))) (pe_lst pa_nil) (nomark _)) (pss_one (ps_ret pe_bl)) pss_nil)
          (pss_cons (ps_set (i := 10) nd rfl (by first | exact Or.inl rfl | exact Or.inr rfl) (pe_dget hu (pv 3) (pe_tup (pa_cons (pv 8) (pa_cons (pv 9) pa_nil))) (fun _ _ => rfl)))
          (pss_one (ps_if (PW.pt (pw_and (pt_val (pe_cal k_l_is_end (hr.mono (by decide)) (by rfl) (pa_cons (pv 8) pa_nil))) (pw_and (pt_cmpR op_lt (pv 10) pe_int (nomark _)) (pw_and1 (pt_cmpR op_gt (pe_dget hu (pv 3) (pe_tup (pa_cons (pe_op op_sub (pv 8) pe_int) (pa_cons (pv 9) pa_nil))) (fun _ _ => rfl)) (pe_op op_add (pe_ix ix_tup (pe_ix ix_tup (pv 2) (pe_cal k_l_owner (hr.mono (by decide)) (by rfl) (pa_cons (pv 8) pa_nil)) (fun _ _ => rfl)) pe_int (fun _ _ => rfl)) (pv 10)) (nomark _)))))) (pss_one (ps_ret pe_bl)) pss_nil))))))))
      (pss_cons (ps_lock (ps_for PassesOwn.never rfl (pi_keys (pv 4)) (pg_tup rfl (pgs_cons (pg_name (i := 6) nd rfl (by first | exact Or.inl rfl | exact Or.inr rfl)) (pgs_cons (pg_name (i := 11) nd rfl (by first | exact Or.inl rfl | exact Or.inr rfl)) pgs_nil)))
        (pss_cons (ps_set (i := 10) nd rfl (by first | exact Or.inl rfl | exact Or.inr rfl) (pe_dget hu (pv 4) (pe_tup (pa_cons (pv 6) (pa_cons (pv 11) pa_nil))) (fun _ _ => rfl)))
        (pss_cons (ps_if (pt_cmpR op_gt (pe_dget hu (pv 3) (pe_tup (pa_cons (pv 11) (pa_cons (pe_op op_add (pe_op op_mul pe_int (pv 6)) pe_int) pa_nil))) (fun _ _ => rfl)) (pe_un un_neg (pe_callB (call_min2n rfl) (by rfl) Z.min (by decide +kernel) (pa_cons (pv 10) (pa_cons (pe_ix ix_tup (pe_ix ix_tup (pv 2) (pv 6) (fun _ _ => rfl)) pe_int (fun _ _ => rfl)) pa_nil)))) (nomark _)) (pss_one (ps_ret pe_bl)) pss_nil)
        (Evl.pss_cut (ps_if (PW.pt (pw_and (pt_val (pe_cal k_l_is_end (hr.mono (by decide)) (by rfl) (pa_cons (pv 11) pa_nil))) (pw_and (pt_cmpR op_ne (pe_cal k_l_owner (hr.mono (by decide)) (by rfl) (pa_cons (pv 11) pa_nil)) (pv 6) (nomark _)) (pw_and1 (pt_cmpR op_gt (pv 10) pe_int (nomark _)))))) (pss_one (ps_if (pt_cmpR op_lt (pe_dget hu (pv 4) (pe_tup (pa_cons (pv 6) (pa_cons (pe_op op_sub (pv 11) pe_int) pa_nil))) (fun _ _ => rfl)) (pe_op op_sub (pv 10) (pe_ix ix_tup (pe_ix ix_tup (pv 2) (pe_cal k_l_owner (hr.mono (by decide)) (by rfl) (pa_cons (pv 11) pa_nil)) (fun _ _ => rfl)) pe_int (fun _ _ => rfl))) (nomark _)) (pss_one (ps_ret pe_bl)) pss_nil)) pss_nil)
        (pss_one (ps_for PassesOwn.never rfl (pi_list (pv 5)) (pg_name (i := 12) nd rfl (by first | exact Or.inl rfl | exact Or.inr rfl))
          (pss_cons (ps_set (i := 13) nd rfl (by first | exact Or.inl rfl | exact Or.inr rfl) (pe_callB (call_min2n rfl) (by rfl) Z.min (by decide +kernel) (pa_cons (pe_ix ix_tup (pe_ix ix_tup (pv 2) (pv 6) (fun _ _ => rfl)) pe_int (fun _ _ => rfl)) (pa_cons (pe_op op_sub (pv 10) (pe_dget hu (pv 3) (pe_tup (pa_cons (pv 12) (pa_cons (pv 11) pa_nil))) (fun _ _ => rfl))) pa_nil))))
          (pss_one (ps_if (PW.pt (pw_and (pt_cmpR op_ne (pv 12) (pe_op op_add (pe_op op_mul pe_int (pv 6)) pe_int) (nomark _)) (pw_and1 (pt_cmpR op_lt (pe_dget hu (pv 4) (pe_tup (pa_cons (pv 6) (pa_cons (pv 12) pa_nil))) (fun _ _ => rfl)) (pv 13) (nomark _))))) (pss_one (ps_ret pe_bl)) pss_nil))))))))))
      (pss_one (ps_ret pe_bl)))))))), ?_⟩
    have n4 := ok.n4
    have lt : Ab.tv.length = B.n := by
      have := bf.rt.len
      rw [List.length_map] at this
      exact this
    walk_at "rd"
    refine rIxTl bf.hb rfl ?_
    walk_at "rd"
    refine rIxTl bf.hp rfl ?_
    walk_at "rd"
    refine rIxTl htb rfl ?_
    walk_at "rd"
    refine rIxTl htb rfl ?_
    walk_at "rd"
    refine ⟨wd, _, rfl, .inl hwd, fun kv hkv => ?_, fun W nW => ?_⟩
    · obtain ⟨i, e, rfl, ti, ee, _⟩ := gridW_mem v hkv
      refine ⟨i.toNat, e.toNat, by have := ti.2; omega, by have := ee.2; omega, ?_⟩
      rw [show ((i.toNat : Nat) : Int) = i by have := ti.1; omega, show ((e.toNat : Nat) : Int) = e by have := ee.1; omega]
    have f1 : Fm [] H (upd H W (.dT (gridW st st.waits))) := Fm.new nW
    have w1 : (upd H W (.dT (gridW st st.waits))) W = some (.dT (gridW st st.waits)) := upd_same
    generalize upd H W (.dT (gridW st st.waits)) = H0 at f1 w1
    walk_at "rd"
    refine rNewT (ok100 rfl) fun q0 H1 n0 f0 t0 => ?_
    replace w1 := f0.oth _ _ (fun z => nomatch z) w1
    replace f1 := f1.trans f0
    refine rGTup t0 rfl ?_
    walk_at "rd"
    refine rLenT (f1.tup _ _ bf.ht) ?_
    walk_at "rd"
    refine ⟨⟨by omega, by omega, by omega, by omega, by omega⟩, rNewL0 fun ev H2 n2 f2 t2 => ?_⟩
    have eV : rgV 0 (2 * ((Ab.tv.length : Nat) : Int) + 1) = evV B := by rw [lt]; rfl
    rw [eV] at t2
    have w2 := f2.oth _ _ (fun z => nomatch z) w1
    have F2 := f1.trans f2
    walk_at "rd"
    have lw : (gridW st st.waits).length ≤ 81 := Nat.le_trans (List.length_filterMap_le _ _) (v.lenW ok)
    refine ⟨_, _, rfl, SqT.of (F2.tup _ _ bf.ht), forJ (walk_enT (xs := Ab.tv)) (fun j σ' H' => ∃ (o6 o7 : Option V) (kvs : List (List Key × V)), σ' = [some (.ref Ab.b), some (.ref tb), some (.ref Ab.ts), some (.ref m), some (.ref W), some (.ref ev), o6, o7, none, none, none, none, none, none, none] ∧
      Fm [W] H2 H' ∧ H' W = some (.dT kvs) ∧ kvs.length ≤ 81 + j ∧ (∀ kv ∈ kvs, ∃ i e, kv.1 = kk i e ∧ B.tk i ∧ B.ev e) ∧ ∀ i e, B.tk i → B.ev e → (e ≠ 2 * i + 2 ∨ i < (j : Int)) → valV kvs (kk i e) = some (.int (Wf st i e)))
      ⟨_, _, _, rfl, Fm.refl, w2, lw, fun kv hkv => by obtain ⟨i, e, rfl, h1, h2, _⟩ := gridW_mem v hkv; exact ⟨i, e, rfl, h1, h2⟩, fun i e h1 h2 h3 => gridW_val v en.al h1 h2 (by
        rcases h3 with h3 | h3
        · exact h3
        · exact absurd h1.1 (by omega))⟩ ?_ ?_ ?_⟩
    · rintro j σ' H' _ ⟨_, _, _, _, fm, _⟩
      exact SqT.of (fm.tup _ _ (F2.tup _ _ bf.ht))
    · rintro j x σ' H' H4 hj ⟨o6, o7, kvs, rfl, fm, hW, lk, ks, vals⟩ ⟨T1, y, rfl, hy, f4, hT1⟩
      have tj : B.tk (j : Int) := ⟨by omega, by omega⟩
      obtain ⟨ad, h1, h2⟩ := bf.task tj
      rw [show ((j : Nat) : Int).toNat = j by omega, hy] at h1
      cases h1
      refine rGTup hT1 rfl ?_
      walk_at "rd"
      refine rIxTl (f4.tup _ _ (fm.tup _ _ (F2.tup _ _ h2))) rfl ?_
      walk_at "rd"
      refine rNewT (ok100 rfl) fun q5 H5 n5 f5 t5 => ?_
      have hW5 := f5.oth _ _ (fun z => nomatch z) (f4.oth _ _ (fun z => nomatch z) hW)
      refine ⟨_, _, rfl, DPut.t (k := kk (j : Nat) (2 * (j : Int) + 2)) hW5 t5 (line9l (by omega)), ?_⟩
      walk_at "rd"
      have ej : B.ev (2 * (j : Int) + 2) := ⟨by omega, by have := tj.2; omega⟩
      refine ⟨_, _, _, rfl, ((fm.trans f4.up).trans f5.up).trans (Fm.wr (by simp) hW5 (fun _ z => nomatch z)), upd_same, Nat.le_trans (length_putK _ _ _) (by omega), fun kv hkv => ?_, fun i e h3 h4 h5 => ?_⟩
      · rcases putK_mem hkv with rfl | hkv
        · exact ⟨j, 2 * (j : Int) + 2, rfl, tj, ej⟩
        · exact ks kv hkv
      · rw [valV_put]
        by_cases z : kk i e = kk (j : Nat) (2 * (j : Int) + 2)
        · rw [if_pos z]
          obtain ⟨rfl, rfl⟩ := kk_inj.mp z
          rw [en.c.top _ tj]
        · rw [if_neg z]
          refine vals i e h3 h4 ?_
          rcases h5 with h5 | h5
          · exact .inl h5
          · by_cases z2 : e = 2 * i + 2
            · right
              have : i ≠ (j : Int) := fun z3 => z (by rw [z2, z3])
              omega
            · exact .inl z2
    · rintro σ' H3 ⟨o6, o7, kvs, rfl, fm3, hW3, lk, ks, vals⟩
      rw [lt] at vals lk
      have vals : ∀ i e, B.tk i → B.ev e → valV kvs (kk i e) = some (.int (Wf st i e)) := fun i e h1 h2 => vals i e h1 h2 (.inr h1.2)
      have F3 : Fm [] H H3 := Fm.drop (L := [W]) (F2.up.trans fm3) fun b z => by rw [List.mem_singleton.mp z]; exact nW
      have ev3 := fm3.oth _ _ (by simp; exact ne_of t2 w2 (fun z => nomatch z)) t2
      have m3 := F3.oth _ _ (fun z => nomatch z) hm
      have getM : ∀ {H' : Hp} {Q : VK} {a b : Int}, Fm [] H3 H' → B.ev a → B.ev b → (∀ H'', Fm [] H' H'' → Q (.int (Mf st a b)) H'') →
          [V.int a, V.int b].length ≤ sizeLine ∧ NewT [V.int a, V.int b] H' (fun y H2 => ∃ ad v', V.ref m = .ref ad ∧ DGet H2 ad y (some v') ∧ Q v' H2) := fun f ha hb q => rGetT (.inl (f.oth _ _ (fun z => nomatch z) m3)) (gridM_val ha hb) q
      have e0 : ∀ {i : Int}, B.tk i → B.ev (2 * i + 1) ∧ B.ev (2 * i + 2) := fun {i} h => ⟨⟨by have := h.1; omega, by have := h.2; omega⟩, ⟨by have := h.1; omega, by have := h.2; omega⟩⟩
      have lo : ∀ {H' : Hp} {Q : VK} {i : Int}, Fm [] H3 H' → B.tk i → Q (.int (B.lo i)) H' → rIxT K (.ref Ab.ts) (.int i) H' fun y H2 => rIxT K y (.int 0) H2 Q := fun {H' Q i} f hi q => by
        obtain ⟨ad, h1, h2⟩ := bf.task hi
        exact rIxTi (SqT.of ((F3.trans f).tup _ _ bf.ht)) hi.1 h1 (rIxTl ((F3.trans f).tup _ _ h2) rfl q)
      walk_at "rd"
      refine ⟨Ab, rfl, bf.fm F3, fun q4 ws H4 f4 t4 R4 n4' => ?_⟩
      walk_at "rd"
      refine forL (xs := ws) (fun j σ' H' => ∃ o8 o9 o10 : Option V, σ' = [some (.ref Ab.b), some (.ref tb), some (.ref Ab.ts), some (.ref m), some (.ref W), some (.ref ev), o6, o7, o8, o9, o10, none, none, none, none] ∧ Fm [] H4 H') ⟨_, _, _, rfl, Fm.refl⟩ ?_ ?_ ?_
      · rintro j σ' H' _ ⟨_, _, _, _, f⟩
        exact SqL.of (f.oth _ _ (fun z => nomatch z) t4)
      · rintro j x σ' H5 hx ⟨o8, o9, o10, rfl, f5⟩
        obtain ⟨a, r, rfl, hr1, hr2⟩ := R4.of_get hx
        rw [List.getElem?_map] at hr1
        obtain ⟨⟨ba, bb, bw⟩, hb1, rfl⟩ := Option.map_eq_some_iff.mp hr1
        have mb := List.mem_of_getElem? hb1
        have bo := Br.bounds_ok ok _ mb
        have cb := en.c.bnd _ mb
        refine rGTup (xs := [.int ba, .int bb, .int bw]) (f5.tup _ _ hr2) rfl ?_
        walk_at "rd"
        refine getM (f4.trans f5) bo.1 bo.2.1 fun H6 f6 => ?_
        walk_at "rd"
        refine ifDf (Int.not_lt.mpr cb) ?_
        walk_at "rd"
        exact ⟨_, _, _, rfl, f5.trans f6⟩
      · rintro σ' H5 ⟨o8, o9, o10, rfl, f5⟩
        have g5 := f4.trans f5
        walk_at "rd"
        refine forL (xs := evV B) (fun ja σ' H' => ∃ o8 o9 o10 : Option V, σ' = [some (.ref Ab.b), some (.ref tb), some (.ref Ab.ts), some (.ref m), some (.ref W), some (.ref ev), o6, o7, o8, o9, o10, none, none, none, none] ∧ Fm [] H3 H') ⟨_, _, _, rfl, g5⟩ ?_ ?_ ?_
        · rintro j σ' H' _ ⟨_, _, _, _, f⟩
          exact SqL.of (f.oth _ _ (fun z => nomatch z) ev3)
        · rintro ja x σ' H6 hx ⟨o8, o9, o10, rfl, f6⟩
          obtain ⟨rfl, ea, lja⟩ := evV_get hx
          walk_at "rd"
          refine getM f6 ea ea fun H7 f7 => ?_
          walk_at "rd"
          refine ifNt (en.c.diag _ ea) ?_
          walk_at "rd"
          have f7 := f6.trans f7
          refine forL (xs := evV B) (fun jb σ' H' => ∃ o9 o10 : Option V, σ' = [some (.ref Ab.b), some (.ref tb), some (.ref Ab.ts), some (.ref m), some (.ref W), some (.ref ev), o6, o7, some (.int (ja : Nat)), o9, o10, none, none, none, none] ∧ Fm [] H3 H') ⟨_, _, rfl, f7⟩ ?_ ?_ ?_
          · rintro j σ' H' _ ⟨_, _, _, f⟩
            exact SqL.of (f.oth _ _ (fun z => nomatch z) ev3)
          · rintro jb x σ' H8 hx ⟨o9, o10, rfl, f8⟩
            obtain ⟨rfl, eb, ljb⟩ := evV_get hx
            walk_at "rd"
            refine ⟨_, rfl, ⟨_, SqL.of (f8.oth _ _ (fun z => nomatch z) ev3)⟩, lcGen (S := []) (walk_list (xs := evV B)) (by rw [evV_len]; omega) (fun i acc H' => Fm [] H3 H' ∧ acc = []) (fun b z => nomatch z) (fun D h => ⟨f8.trans (Fm.new h), rfl⟩) ?_ ?_ ?_ ?_⟩
            · rintro i acc H' ⟨f, _⟩
              exact SqL.of (f.oth _ _ (fun z => nomatch z) ev3)
            · rintro D i acc H1 ys zs h h1 ⟨f, e⟩
              have nD : H3 D = none := f8.fre _ h
              exact ⟨Fm.drop (L := [D]) (f.up.trans (Fm.wr (by simp) h1 (fun _ z => nomatch z))) fun b z => by rw [List.mem_singleton.mp z]; exact nD, e⟩
            · rintro i x acc H9 H9' hi ⟨f9, rfl⟩ ⟨rfl, hx⟩ K1 K0 k1 k0
              obtain ⟨rfl, ec, ljc⟩ := evV_get hx
              walk_at "rd"
              refine ⟨rfl, ?_⟩
              walk_at "rd"
              refine getM f9 ea ec fun H10 f10 => ?_
              walk_at "rd"
              refine getM (f9.trans f10) ea eb fun H11 f11 => ?_
              walk_at "rd"
              refine getM ((f9.trans f10).trans f11) eb ec fun H12 f12 => ?_
              walk_at "rd"
              refine ifDf (Int.not_lt.mpr (en.c.tri _ _ _ ea eb ec)) ?_
              have g := (f10.trans f11).trans f12
              exact k0 H12 g ⟨f9.trans g, rfl⟩
            · rintro D acc H9 nD f9 hD ⟨f9', rfl⟩ _
              walk_at "rd"
              refine rNewL (ok100 rfl) fun q10 H10 n10 f10 t10 => ?_
              refine rNeNil (f10.oth _ _ (fun z => nomatch z) hD) t10 ?_
              walk_at "rd"
              have g10 := f9'.trans f10
              refine getM g10 ea eb fun H11 f11 => ?_
              walk_at "rd"
              refine rSpI1 ?_
              walk_at "rd"
              have g11 := g10.trans f11
              have done : ∀ H', Fm [] H3 H' → ∃ o9 o10' : Option V, [some (V.ref Ab.b), some (.ref tb), some (.ref Ab.ts), some (.ref m), some (.ref W), some (.ref ev), o6, o7, some (.int (ja : Nat)), some (.int (jb : Nat)), some (.int (Mf st ja jb)), none, none, none, none] = [some (.ref Ab.b), some (.ref tb), some (.ref Ab.ts), some (.ref m), some (.ref W), some (.ref ev), o6, o7, some (.int (ja : Nat)), o9, o10', none, none, none, none] ∧ Fm [] H3 H' := fun H' f => ⟨_, _, rfl, f⟩
              cases ie : isEndB (ja : Int) with
              | false =>
                walk_at "rd"
                exact done _ g11
              | true =>
                have ie' := isEndB_iff.mp ie
                obtain ⟨tk, o1, ev1, o2⟩ := own_tk ea ie'
                walk_at "rd"
                by_cases neg : Mf st ja jb < 0
                · refine ifDt neg ?_
                  walk_at "rd"
                  refine getM g11 ev1 eb fun H12 f12 => ?_
                  walk_at "rd"
                  refine rSpI1 ?_
                  refine lo (g11.trans f12) tk ?_
                  walk_at "rd"
                  refine ifDf (Int.not_lt.mpr (en.c.early _ _ ea eb ie' neg)) ?_
                  walk_at "rd"
                  exact done _ (g11.trans f12)
                · refine ifDf neg ?_
                  walk_at "rd"
                  exact done _ g11
          · rintro σ' H8 ⟨o9, o10, rfl, f8⟩
            exact ⟨_, _, _, rfl, f8⟩
        · rintro σ' H6 ⟨o8, o9, o10, rfl, f6⟩
          walk_at "rd"
          have W6 := f6.oth _ _ (fun z => nomatch z) hW3
          refine rLock W6 trivial fun od => ?_
          generalize eHl : upd H6 W (.frz od (.dT kvs)) = Hl
          have Wl : Hl W = some (.frz od (.dT kvs)) := by rw [← eHl, upd_same]
          have ne0 : ∀ {b o}, H6 b = some o → b ≠ W → Hl b = some o := fun {b o} h n => by rw [← eHl, upd_ne n]; exact h
          have ml : Hl m = some (.dT (gridM B st (2 * B.n + 1))) := ne0 ((F3.trans f6).oth _ _ (fun z => nomatch z) hm) fun z => by rw [← z, hm] at nW; cases nW
          have evl : Hl ev = some (.lst (evV B)) := ne0 (f6.oth _ _ (fun z => nomatch z) ev3) (ne_of t2 w2 (fun z => nomatch z))
          have tl : ∀ b xs, H b = some (.tup xs) → Hl b = some (.tup xs) := fun b xs h => ne0 ((F3.trans f6).tup _ _ h) fun z => by rw [← z, h] at nW; cases nW
          have getL : ∀ {H' : Hp} {Q : VK} {a b : Int}, Fm [] Hl H' → B.ev a → B.ev b → (∀ H'', Fm [] H' H'' → Q (.int (Mf st a b)) H'') →
              [V.int a, V.int b].length ≤ sizeLine ∧ NewT [V.int a, V.int b] H' (fun y H2 => ∃ ad v', V.ref m = .ref ad ∧ DGet H2 ad y (some v') ∧ Q v' H2) := fun f ha hb q => rGetT (.inl (f.oth _ _ (fun z => nomatch z) ml)) (gridM_val ha hb) q
          have getW : ∀ {H' : Hp} {Q : VK} {a b : Int}, Fm [] Hl H' → B.tk a → B.ev b → (∀ H'', Fm [] H' H'' → Q (.int (Wf st a b)) H'') →
              [V.int a, V.int b].length ≤ sizeLine ∧ NewT [V.int a, V.int b] H' (fun y H2 => ∃ ad v', V.ref W = .ref ad ∧ DGet H2 ad y (some v') ∧ Q v' H2) := fun f ha hb q => rGetT (.inr ⟨od, f.oth _ _ (fun z => nomatch z) Wl⟩) (vals _ _ ha hb) q
          have task : ∀ {H' : Hp} {Q : VK} {i : Int} {j : Int} {z : V}, Fm [] Hl H' → B.tk i → (atI [V.int (B.lo i), V.int (B.hi i)] j = some z) → Q z H' → rIxT K (.ref Ab.ts) (.int i) H' fun y H2 => rIxT K y (.int j) H2 Q := fun {H' Q i j z} f hi hz q => by
            obtain ⟨ad, h1, h2⟩ := bf.task hi
            exact rIxTi (SqT.of (f.tup _ _ (tl _ _ bf.ht))) hi.1 h1 (rIxTl (f.tup _ _ (tl _ _ h2)) hz q)
          walk_at "rd"
          refine ⟨W, od, rfl, .inr ⟨kvs, Wl, forJ walk_keysT (fun i σ' H' => ∃ o6 o10 o11 o12 o13 : Option V, σ' = [some (.ref Ab.b), some (.ref tb), some (.ref Ab.ts), some (.ref m), some (.ref W), some (.ref ev), o6, o7, o8, o9, o10, o11, o12, o13, none] ∧ Fm [] Hl H') ⟨_, _, _, _, _, rfl, Fm.refl⟩ ?_ ?_ ?_⟩⟩
          · rintro i σ' H' _ ⟨_, _, _, _, _, _, f⟩
            exact f.oth _ _ (fun z => nomatch z) Wl
          · rintro i x σ' H7 H7' hi ⟨p6, p10, p11, p12, p13, rfl, f7⟩ ⟨rfl, kl, kv, q, hk, rfl, hq⟩
            obtain ⟨a, b, ek, ta, eb⟩ := ks (kl, kv) (List.mem_of_getElem? hk)
            obtain rfl : kl = kk a b := ek
            refine rGTup (xs := [.int a, .int b]) hq rfl ?_
            walk_at "rd"
            refine getW f7 ta eb fun H8 f8 => ?_
            have g8 := f7.trans f8
            walk_at "rd"
            refine getL g8 eb (e0 ta).1 fun H9 f9 => ?_
            have g9 := g8.trans f9
            walk_at "rd"
            refine task g9 ta (z := .int (B.lo a)) rfl ?_
            walk_at "rd"
            refine ifDf (Int.not_lt.mpr (en.c.floor _ _ ta eb)) ?_
            walk_at "rd"
            refine rCut (fun σ' H' => σ' = [some (.ref Ab.b), some (.ref tb), some (.ref Ab.ts), some (.ref m), some (.ref W), some (.ref ev), some (.int a), o7, o8, o9, some (.int (Wf st a b)), some (.int b), p12, p13, none] ∧ Fm [] Hl H') ?_ ?_
            · walk_at "rd"
              refine rSpI1 ?_
              walk_at "rd"
              cases ie : isEndB b with
              | false =>
                walk_at "rd"
                exact ⟨rfl, g9⟩
              | true =>
                have ie' := isEndB_iff.mp ie
                obtain ⟨tk, o1, ev1, o2⟩ := own_tk eb ie'
                walk_at "rd"
                refine rSpI1 ?_
                walk_at "rd"
                by_cases ne : own b = a
                · refine ifNt ne ?_
                  walk_at "rd"
                  exact ⟨rfl, g9⟩
                · refine ifNf ne ?_
                  walk_at "rd"
                  by_cases pos : 0 < Wf st a b
                  · refine ifDt pos ?_
                    walk_at "rd"
                    refine getW g9 ta ev1 fun H10 f10 => ?_
                    walk_at "rd"
                    refine rSpI1 ?_
                    refine task (g9.trans f10) tk (z := .int (B.lo (own b))) rfl ?_
                    walk_at "rd"
                    refine ifDf (Int.not_lt.mpr (en.c.ahead _ _ ta eb ie' ne pos)) ?_
                    walk_at "rd"
                    exact ⟨rfl, g9.trans f10⟩
                  · refine ifDf pos ?_
                    walk_at "rd"
                    exact ⟨rfl, g9⟩
            · rintro σ' H10 ⟨rfl, f10⟩
              walk_at "rd"
              refine forL (xs := evV B) (fun j σ' H' => ∃ o12 o13 : Option V, σ' = [some (.ref Ab.b), some (.ref tb), some (.ref Ab.ts), some (.ref m), some (.ref W), some (.ref ev), some (.int a), o7, o8, o9, some (.int (Wf st a b)), some (.int b), o12, o13, none] ∧ Fm [] Hl H') ⟨_, _, rfl, f10⟩ ?_ ?_ ?_
              · rintro j σ' H' _ ⟨_, _, _, f⟩
                exact SqL.of (f.oth _ _ (fun z => nomatch z) evl)
              · rintro j x σ' H11 hx ⟨o12, o13, rfl, f11⟩
                obtain ⟨rfl, ej, lj⟩ := evV_get hx
                walk_at "rd"
                refine task f11 ta (z := .int (B.hi a)) rfl ?_
                walk_at "rd"
                refine getL f11 ej eb fun H12 f12 => ?_
                have g12 := f11.trans f12
                walk_at "rd"
                by_cases z : (j : Int) = 2 * a + 2
                · refine ifNt z ?_
                  walk_at "rd"
                  exact ⟨_, _, rfl, g12⟩
                · refine ifNf z ?_
                  walk_at "rd"
                  refine getW g12 ta ej fun H13 f13 => ?_
                  walk_at "rd"
                  refine ifDf (Int.not_lt.mpr (en.c.delay _ _ _ ta eb ej z)) ?_
                  walk_at "rd"
                  exact ⟨_, _, rfl, g12.trans f13⟩
              · rintro σ' H11 ⟨o12, o13, rfl, f11⟩
                exact ⟨_, _, _, _, _, rfl, f11⟩
          · rintro σ' H7 ⟨p6, p10, p11, p12, p13, rfl, f7⟩
            refine ⟨f7.oth _ _ (fun z => nomatch z) Wl, ?_⟩
            rw [← eHl] at f7
            have f8 := Fm.lock W6 (fun _ z => nomatch z) f7
            walk_at "rd"
            exact k _ ((F3.trans f6).trans f8)
end
end A68
set_option maxRecDepth 100000
set_option maxHeartbeats 4000000
/-! The law's is_table. -/
namespace A68
open PySem PySem.Spec PyProof.Rows L2 RZ
def keyD (n : Nat) : PyData := .tuple [.int (n / 9 : Nat), .int (n % 9 : Nat)]
theorem keyD_le : ∀ a, a < 81 → ∀ b, b < 81 → decide (a ≤ b) = strLe (keyD a).shown (keyD b).shown := by decide +kernel
theorem keyD_ok : ∀ a, a < 81 → (keyD a).showable = true ∧ (keyD a).hasDict = false ∧ (keyD a).depth ≤ 60 ∧ (keyD a).shown.length ≤ 100 ∧ (PyData.str (keyD a).shown).canLay0 = true := by decide +kernel
def ckey (n : Nat) : List Key := kk (n / 9 : Nat) (n % 9 : Nat)
def crow (n : Nat) : List V := [.int (n / 9 : Nat), .int (n % 9 : Nat)]
def keyT (n : Nat) : Str := (keyD n).shown
theorem sort_eq {cs cs' : List Nat} (p : cs.Perm cs') (h : ∀ n ∈ cs, n < 81) : (cs.map keyT).mergeSort strLe = (cs'.map keyT).mergeSort strLe := by
  have h' : ∀ n ∈ cs', n < 81 := fun n hn => h n (p.mem_iff.mpr hn)
  rw [← List.map_mergeSort (f := keyT) (r := fun a b => decide (a ≤ b)) (l := cs) (fun a ha b hb => keyD_le a (h a ha) b (h b hb)), ← List.map_mergeSort (f := keyT) (r := fun a b => decide (a ≤ b)) (l := cs') (fun a ha b hb => keyD_le a (h' a ha) b (h' b hb))]
  congr 1
  have tr : ∀ a b c : Nat, decide (a ≤ b) = true → decide (b ≤ c) = true → decide (a ≤ c) = true := fun a b c h1 h2 => decide_eq_true (Nat.le_trans (of_decide_eq_true h1) (of_decide_eq_true h2))
  have to : ∀ a b : Nat, (decide (a ≤ b) || decide (b ≤ a)) = true := fun a b => by
    rcases Nat.le_total a b with z | z
    · rw [decide_eq_true z, Bool.true_or]
    · rw [decide_eq_true z, Bool.or_true]
  refine List.Perm.eq_of_pairwise (le := fun a b => decide (a ≤ b) = true) (fun a b _ _ h1 h2 => Nat.le_antisymm (of_decide_eq_true h1) (of_decide_eq_true h2)) (List.pairwise_mergeSort tr to cs) (List.pairwise_mergeSort tr to cs') ?_
  exact (List.mergeSort_perm cs _).trans (p.trans (List.mergeSort_perm cs' _).symm)
theorem flatMap_cg {α β : Type} {f g : α → List β} : ∀ {l : List α}, (∀ a ∈ l, f a = g a) → l.flatMap f = l.flatMap g
  | [], _ => rfl
  | a :: l, h => by
    rw [List.flatMap_cons, List.flatMap_cons, h a (List.mem_cons_self ..), flatMap_cg fun b hb => h b (List.mem_cons_of_mem _ hb)]
theorem ok1000 {n : Nat} (h : Nat.ble n 1000 = true) : n ≤ 1000 := Nat.le_of_ble_eq_true h
theorem strs_eqv : ∀ xs : List Str, PyData.eqvAll (xs.map .str) (xs.map .str) = true
  | [] => by simp [PyData.eqvAll]
  | x :: xs => by simp [PyData.eqvAll, PyData.eqv, strs_eqv xs]
theorem strs_dp {K : PySem.W.Frag} {H : Hp} : ∀ xs : List Str, DpAll K H (xs.map V.str) (xs.map PyData.str)
  | [] => .nil
  | x :: xs => .cons (.str x) (strs_dp xs)
def csM (m : Nat) : List Nat := (List.range m).flatMap fun a => (List.range m).map fun b => a * 9 + b
def csW (n m : Nat) : List Nat := (List.range n).flatMap fun i => ((List.range m).filter fun b => decide (b ≠ 2 * i + 2)).map fun b => i * 9 + b
/-- a dict and a list of its keys -/
structure Tab (H : Hp) (d kL : Addr) (kvs : List (List Key × V)) (ws : List V) (cs cs' : List Nat) : Prop where
  hd : H d = some (.dT kvs)
  ke : kvs.map (·.1) = cs.map ckey
  lt : ∀ n ∈ cs, n < 81
  nd : (kvs.map (·.1)).Nodup
  va : ∀ kv ∈ kvs, ∃ z : Int, kv.2 = .int z ∧ -100 ≤ z ∧ z ≤ 100
  hl : H kL = some (.lst ws)
  rw_ : Rows H ws (cs'.map crow)
  pe : cs.Perm cs'
  ln : kvs.length ≤ 81
theorem Tab.fm {H H' : Hp} {d kL : Addr} {kvs : List (List Key × V)} {ws : List V} {cs cs' : List Nat} (f : Fm [] H H') (t : Tab H d kL kvs ws cs cs') : Tab H' d kL kvs ws cs cs' :=
  { t with hd := f.oth _ _ (fun z => nomatch z) t.hd, hl := f.oth _ _ (fun z => nomatch z) t.hl, rw_ := t.rw_.fm f }
theorem ckey_row (n : Nat) : (ckey n).map kV = crow n := rfl
theorem code_of {i e : Int} (h1 : 0 ≤ i) (h2 : i ≤ 8) (h3 : 0 ≤ e) (h4 : e ≤ 8) : ckey (i.toNat * 9 + e.toNat) = kk i e ∧ i.toNat * 9 + e.toNat < 81 := by
  refine ⟨?_, by omega⟩
  unfold ckey
  rw [show (((i.toNat * 9 + e.toNat) / 9 : Nat) : Int) = i by omega, show (((i.toNat * 9 + e.toNat) % 9 : Nat) : Int) = e by omega]
theorem ckey_inj {a b : Nat} (h : ckey a = ckey b) : a = b := by
  have := kk_inj.mp h
  omega
/-- repr of the keys, as texts -/
theorem lcTexts {J : It} {n : Nat} {G : Hp → Prop} {Y : Nat → Hp → V → Hp → Prop} {g : TG} {te : TE} {vs : List Nat} {σ : St} {H : Hp} {Q : VK} {cs : List Nat} (w : Walk J n G Y) (hn : n = cs.length) (ln : n ≤ 100) (hG : ∀ H', Fm [] H H' → G H')
    (step : ∀ i x c H1 H2, cs[i]? = some c → Fm [] H H1 → Y i H1 x H2 → ∀ Qk : VK, (∀ H3, Fm [] H1 H3 → Qk (.str (keyT c)) H3) → g x (wipe σ vs) H2 fun σ2 H2' => wipe σ2 vs = wipe σ vs ∧ te σ2 H2' Qk)
    (fin : ∀ (D : Addr) (H' : Hp), H D = none → Fm [] H H' → H' D = some (.lst ((cs.map keyT).map V.str)) → Q (.ref D) H') : LcJ J g tYes te vs σ H Q := by
  refine lcGen (S := []) w (by omega) (fun i acc H' => Fm [] H H' ∧ acc = ((cs.take i).map keyT).map V.str) (fun b z => nomatch z) (fun D h => ⟨Fm.new h, rfl⟩) (fun i acc H' h => hG H' h.1) ?_ ?_ ?_
  · rintro D i acc H1 ys zs h h1 ⟨f, e⟩
    exact ⟨Fm.drop (L := [D]) (f.up.trans (Fm.wr (by simp) h1 (fun _ z => nomatch z))) fun b z => by rw [List.mem_singleton.mp z]; exact h, e⟩
  · rintro i x acc H1 H2 hi ⟨f, rfl⟩ y K1 K0 k1 k0
    have hc := List.getElem?_eq_getElem (l := cs) (i := i) (by omega)
    refine step i x _ H1 H2 hc f y K1 fun H3 f3 => k1 _ H3 f3 ⟨f.trans f3, ?_⟩
    rw [List.take_add_one, hc, List.map_append, List.map_append]
    rfl
  · rintro D acc H' nD f hD ⟨_, rfl⟩ _
    rw [List.take_of_length_le (by omega)] at hD
    exact fin D H' nD f hD
theorem rRepK {K : PySem.W.Frag} {H : Hp} {Q : VK} {q : Addr} {c : Nat} (h : H q = some (.tup (crow c))) (lt : c < 81) (k : Q (.str (keyT c)) H) : rReprD K [.ref q] H Q := by
  obtain ⟨h1, h2, h3, h4, _⟩ := keyD_ok c lt
  exact ⟨q, keyD c, rfl, .tup (SqT.of h) (.cons (.int _) (.cons (.int _) .nil)), h1, h2, h3, line9 (by omega), k⟩
theorem rSrt {K : PySem.W.Frag} {H : Hp} {Q : VK} {D : Addr} {xs : List Str} (h : H D = some (.lst (xs.map V.str))) (q : ∀ p H', H p = none → Fm [] H H' → H' p = some (.lst ((xs.mergeSort strLe).map V.str)) → Q (.ref p) H') : rSortedT K [.ref D] H Q :=
  ⟨D, xs, rfl, SqL.of h, fun p n => q p _ n (Fm.new n) upd_same⟩
theorem tyd {K : PySem.W.Frag} {H : Hp} {a : Addr} {kvs : List (List Key × V)} (h : H a = some (.dT kvs)) : TyX K H (.ref a) (.type "dict") := .base (.dT h)
theorem kb_dd : kitB "dict" "dict" = some true := by decide +kernel
/-- a known def that wants the guards known -/
structure CalG (P : Program) (w : World) (K : PySem.W.Frag) (mg : Str → Option Value) (base : Heap) (x : Str) (ps : List Str) (k : Nat) (sp : Sp) (f : Addr) (fd : FuncData) : Prop where
  ok : FnG P w K mg base k f fd ps sp
  mg : mg x = some (.ref f)
  kp : PySem.W.keepIn K (.ref f) = true
  bd : Binds K fd ps []
local macro_rules | `(tactic| walk_at "rd1") => `(tactic| first
  | ((with_reducible refine' rVar ?hx ?_); (case hx => rfl))
  | (with_reducible refine rC ?_)
  | (with_reducible refine rOp ?_)
  | (with_reducible refine rUn ?_)
  | (with_reducible refine rI0i ?_)
  | (with_reducible refine rUi ?_)
  | ((with_reducible refine rMulL ?a ?b ?_); (case a => decide); (case b => decide))
  | ((with_reducible refine rMulR ?a ?b ?_); (case a => decide); (case b => decide))
  | ((with_reducible refine rModP ?a ?_); (case a => decide))
  | ((with_reducible refine rDivP ?a ?b ?_); (case a => decide); (case b => decide))
  | ((with_reducible refine rPowL ?a ?b ?c ?_); (case a => decide); (case b => decide); (case c => decide))
  | (with_reducible refine rEqI ?_)
  | (with_reducible refine rNeI ?_)
  | (with_reducible refine rIsNi ?_)
  | (with_reducible refine rIsNn ?_)
  | (with_reducible refine rIsNr ?_)
  | (with_reducible refine rNotNi ?_)
  | (with_reducible refine rNotNn ?_)
  | (with_reducible refine rNotNr ?_)
  | (with_reducible refine rTest ?_)
  | (with_reducible refine rTB ?_)
  | (with_reducible refine rBlV ?_)
  | (with_reducible refine rAnd ?_)
  | (with_reducible refine rOr ?_)
  | (with_reducible refine rNot ?_)
  | (with_reducible refine rAndV ?_)
  | (with_reducible refine rOrV ?_)
  | (with_reducible refine rNotV ?_)
  | (with_reducible refine rIf ?_)
  | (with_reducible refine rNil ?_)
  | (with_reducible refine rCons ?_)
  | (with_reducible refine rTup ?_)
  | (with_reducible refine rLst ?_)
  | (with_reducible refine rCB ?_)
  | (with_reducible refine rCall ?_)
  | (with_reducible refine rBM ?_)
  | (with_reducible refine rMin2i ?_)
  | (with_reducible refine rMax2i ?_)
  | (with_reducible refine rInt1i ?_)
  | (with_reducible refine rPartN ?_)
  | (with_reducible refine rPart ?_)
  | (with_reducible refine rInt ?_)
  | (with_reducible refine rSlS ?_)
  | (with_reducible refine rSFld ?_)
  | (with_reducible refine rSDPut ?_)
  | (with_reducible refine rDGet ?_)
  | (with_reducible refine rDIn ?_)
  | (with_reducible refine rDNotIn ?_)
  | (with_reducible refine rSeq ?_)
  | (with_reducible refine rAsg ?_)
  | (with_reducible refine rName ?_)
  | (with_reducible refine rDrop ?_)
  | (with_reducible refine rRet ?_)
  | (with_reducible refine rIfS ?_)
  | (with_reducible refine rNext ?_)
  | (with_reducible refine rPar ?_)
  | (with_reducible refine rPar2 ?_)
  | (with_reducible refine rMeth ?_)
  | (with_reducible refine rGCons ?_)
  | (with_reducible refine rGNil ?_)
  | (with_reducible refine rForS ?_)
  | (with_reducible refine rLcS ?_)
  | (with_reducible refine rIL ?_)
  | (with_reducible refine rIT ?_)
  | (with_reducible refine rIE ?_)
  | (with_reducible refine rYes ?_)
  | (with_reducible refine rPar3 ?_)
  | (with_reducible refine rPar3v ?_)
  | (with_reducible refine rLstRg ?_)
  | (with_reducible refine rRg1 ?_)
  | (with_reducible refine rIK ?_)
  | (with_reducible refine rIsNs ?_)
  | (with_reducible refine rNeB ?_)
  | (with_reducible refine rIZ ?_)
  | (with_reducible refine rChain ?_)
  | (with_reducible refine rDc2 ?_)
  | (with_reducible refine rDcS ?_)
  | (with_reducible refine rIR3 ?_)
  | (with_reducible refine rMake ?_)
  | (with_reducible refine rIR1 ?_)
  | (with_reducible refine rIR2 ?_)
  | (with_reducible refine rIET ?_)
  | (with_reducible refine ifSn ?_)
  | (with_reducible refine ifNn ?_)
  | (with_reducible refine ifSs ?_)
  | (with_reducible refine ifNs ?_)
  | (with_reducible refine rNotNfs ?_)
  | (with_reducible refine rNotNfn ?_)
  | (with_reducible refine rIsNfs ?_)
  | (with_reducible refine rIsNfn ?_)
  | (with_reducible refine ifT ?_)
  | (with_reducible refine ifF ?_)
  | (with_reducible refine ifNT ?_)
  | (with_reducible refine ifNF ?_))
local macro_rules | `(tactic| walk_at "rd") => `(tactic| (repeat walk_at "rd1"))
def spIsTable (B : Br) : Sp := fun vs H Q _ => ∃ (Ab : BA) (tb m wd : Addr) (st : CS), vs = [.ref Ab.b, .ref tb] ∧ BriefAt H Ab B ∧ H tb = some (.tup [.ref m, .ref wd]) ∧ H m = some (.dT (gridM B st (2 * B.n + 1))) ∧ H wd = some (.dT (gridW st st.waits)) ∧ Val B st ∧ EndT B st ∧ ∀ H', Fm [] H H' → Q (.bl true) H'
section
variable {B : Br} {st : CS}
theorem tabM (ok : B.Ok) (en : EndT B st) {H : Hp} {d kL : Addr} {ws : List V} (hd : H d = some (.dT (gridM B st (2 * B.n + 1)))) (hl : H kL = some (.lst ws)) (r : Rows H ws ((csM (2 * B.n + 1)).map crow)) : Tab H d kL (gridM B st (2 * B.n + 1)) ws (csM (2 * B.n + 1)) (csM (2 * B.n + 1)) := by
  have n4 := ok.n4
  have e1 : (gridM B st (2 * B.n + 1)).map (·.1) = (csM (2 * B.n + 1)).map ckey := by
    unfold gridM csM
    generalize hm : 2 * B.n + 1 = m
    rw [List.map_flatMap, List.map_flatMap]
    refine flatMap_cg fun a ha => ?_
    rw [List.map_map, List.map_map]
    refine List.map_congr_left fun b hb => ?_
    have ha := List.mem_range.mp ha
    have hb := List.mem_range.mp hb
    have := (code_of (i := (a : Int)) (e := (b : Int)) (by omega) (by omega) (by omega) (by omega)).1
    exact this.symm
  have e2 : ∀ n ∈ csM (2 * B.n + 1), n < 81 := fun n hn => by
    unfold csM at hn
    obtain ⟨a, ha, hn⟩ := List.mem_flatMap.mp hn
    obtain ⟨b, hb, rfl⟩ := List.mem_map.mp hn
    have ha := List.mem_range.mp ha
    have hb := List.mem_range.mp hb
    omega
  have nd : ((gridM B st (2 * B.n + 1)).map (·.1)).Nodup := by
    exact gridM_nd _
  refine ⟨hd, e1, e2, nd, fun kv hkv => ?_, hl, r, .refl _, ?_⟩
  · unfold gridM at hkv
    obtain ⟨a, ha, h⟩ := List.mem_flatMap.mp hkv
    obtain ⟨b, hb, rfl⟩ := List.mem_map.mp h
    have ha := List.mem_range.mp ha
    have hb := List.mem_range.mp hb
    have := en.m60 a b (ev_nat ha) (ev_nat hb)
    exact ⟨_, rfl, by omega, by omega⟩
  · rw [gridM_len]
    exact Nat.le_trans (Nat.mul_le_mul (show 2 * B.n + 1 ≤ 9 by omega) (show 2 * B.n + 1 ≤ 9 by omega)) (by decide)
theorem csW_mem {n m c : Nat} : c ∈ csW n m ↔ ∃ i b, i < n ∧ b < m ∧ b ≠ 2 * i + 2 ∧ c = i * 9 + b := by
  unfold csW
  constructor
  · intro h
    obtain ⟨i, hi, h⟩ := List.mem_flatMap.mp h
    obtain ⟨b, hb, rfl⟩ := List.mem_map.mp h
    obtain ⟨hb1, hb2⟩ := List.mem_filter.mp hb
    exact ⟨i, b, List.mem_range.mp hi, List.mem_range.mp hb1, of_decide_eq_true hb2, rfl⟩
  · rintro ⟨i, b, h1, h2, h3, rfl⟩
    exact List.mem_flatMap.mpr ⟨i, List.mem_range.mpr h1, List.mem_map.mpr ⟨b, List.mem_filter.mpr ⟨List.mem_range.mpr h2, decide_eq_true h3⟩, rfl⟩⟩
theorem csW_nd {m : Nat} (hm : m ≤ 9) : ∀ n, (csW n m).Nodup
  | 0 => List.nodup_nil
  | n + 1 => by
    have e : csW (n + 1) m = csW n m ++ ((List.range m).filter fun b => decide (b ≠ 2 * n + 2)).map fun b => n * 9 + b := by
      unfold csW
      rw [List.range_succ, List.flatMap_append]
      simp
    rw [e]
    refine List.nodup_append.mpr ⟨csW_nd hm n, ?_, fun x hx y hy z => ?_⟩
    · refine List.pairwise_map.mpr ((List.pairwise_lt_range.sublist List.filter_sublist).imp fun {a b} h z => ?_)
      omega
    · obtain ⟨i, b, h1, h2, _, rfl⟩ := csW_mem.mp hx
      obtain ⟨b', hb', rfl⟩ := List.mem_map.mp hy
      have := List.mem_range.mp (List.mem_filter.mp hb').1
      omega
theorem tabW (ok : B.Ok) (v : Val B st) (en : EndT B st) {H : Hp} {d kL : Addr} {ws : List V} (hd : H d = some (.dT (gridW st st.waits))) (hl : H kL = some (.lst ws)) (r : Rows H ws ((csW B.n (2 * B.n + 1)).map crow)) :
    Tab H d kL (gridW st st.waits) ws ((gridW st st.waits).map fun kv => codeK kv.1) (csW B.n (2 * B.n + 1)) := by
  have n4 := ok.n4
  have cd : ∀ kv ∈ gridW st st.waits, ckey (codeK kv.1) = kv.1 ∧ codeK kv.1 < 81 := fun kv h => by
    obtain ⟨i, e, rfl, ti, ee, _⟩ := gridW_mem v h
    exact code_of (i := i) (e := e) ti.1 (by have := ti.2; omega) ee.1 (by have := ee.2; omega)
  have e1 : (gridW st st.waits).map (·.1) = ((gridW st st.waits).map fun kv => codeK kv.1).map ckey := by
    rw [List.map_map]
    exact List.map_congr_left fun kv h => (cd kv h).1.symm
  have lw : (gridW st st.waits).length ≤ 81 := Nat.le_trans (List.length_filterMap_le _ _) (v.lenW ok)
  have nd := gridW_keys v
  refine ⟨hd, e1, fun n hn => ?_, nd, fun kv hkv => ?_, hl, r, ?_, lw⟩
  · obtain ⟨kv, h, rfl⟩ := List.mem_map.mp hn
    exact (cd kv h).2
  · obtain ⟨i, e, rfl, ti, ee, _⟩ := gridW_mem v hkv
    have := en.w60 i e ti ee
    have := (ok.du i ti).2.2
    exact ⟨_, rfl, by omega, by omega⟩
  · have nc : ((gridW st st.waits).map fun kv => codeK kv.1).Nodup := by
      rw [e1] at nd
      exact (List.pairwise_map.mp nd).imp fun {a b} h z => h (by rw [z])
    refine (List.perm_ext_iff_of_nodup nc (csW_nd (by omega) _)).mpr fun c => ?_
    rw [csW_mem]
    constructor
    · intro h
      obtain ⟨kv, hk, rfl⟩ := List.mem_map.mp h
      obtain ⟨i, e, rfl, ti, ee, ne⟩ := gridW_mem v hk
      exact ⟨i.toNat, e.toNat, by have := ti.1; have := ti.2; omega, by have := ee.1; have := ee.2; omega, by have := ti.1; have := ee.1; omega, rfl⟩
    · rintro ⟨i, b, h1, h2, h3, rfl⟩
      have hv := gridW_val v en.al (i := i) (e := b) (tk_nat h1) (ev_nat h2) (by omega)
      exact List.mem_map.mpr ⟨_, valV_mem hv, rfl⟩
end
section
variable {P : Program} {w : World} {K : PySem.W.Frag} {mg : Str → Option Value} {base : Heap} {f : Addr} {fd : FuncData} {B : Br}
theorem csM_succ (m j : Nat) : ((List.range (j + 1)).flatMap fun a => (List.range m).map fun b => a * 9 + b) = ((List.range j).flatMap fun a => (List.range m).map fun b => a * 9 + b) ++ (List.range m).map fun b => j * 9 + b := by
  rw [List.range_succ, List.flatMap_append]
  simp
theorem csW_succ (m j : Nat) : csW (j + 1) m = csW j m ++ ((List.range m).filter fun b => decide (b ≠ 2 * j + 2)).map fun b => j * 9 + b := by
  unfold csW
  rw [List.range_succ, List.flatMap_append]
  simp
theorem crow_of {i b : Nat} (h : b < 9) : crow (i * 9 + b) = [.int (i : Nat), .int (b : Nat)] := by
  unfold crow
  rw [show (i * 9 + b) / 9 = i by omega, show (i * 9 + b) % 9 = b by omega]
abbrev N_l_is_table : List Str := ["_law_brief", "_law_value", "_law_tasks", "_law_every", "_law_pairs", "_law_a", "_law_waits", "_law_i", "_law_some", "_law_keys", "_law_texts", "_law_part", "_law_b", "_law_event", "_law_key"]
theorem sc_l_is_table : FnScope N_l_is_table ["_law_brief", "_law_value"] (defScope s_l_is_table) := ⟨rfl, rfl, rfl, by decide +kernel, rfl, by decide +kernel, by decide +kernel⟩
-- slots: 0 _law_brief, 1 _law_value, 2 _law_tasks, 3 _law_every, 4 _law_pairs, 5 _law_a, 6 _law_waits, 7 _law_i, 8 _law_some, 9 _law_keys, 10 _law_texts, 11 _law_part, 12 _law_b, 13 _law_event, 14 _law_key
theorem ok_is_table (ok : B.Ok) (F : FD K "_law_is_table" "_law_is_table" s_l_is_table f fd) (Z : Fr0 mg) (k_l_between : Cal P w K mg base "_law_between" ["_law_value", "_law_low", "_law_high"] 1 spBetween)
    (k_l_is_closed : Cal P w K mg base "_law_is_closed" ["_law_brief", "_law_table"] 3 (spIsClosed B)) : FnG P w K mg base 4 f fd ["_law_brief", "_law_value"] (spIsTable B) := by
  refine okG F sc_l_is_table (fun vs H Q E h => ?_) (fun cdv A0 outer s H vs Q E hr gd h => ?_)
  · obtain ⟨_, _, _, _, _, rfl, _⟩ := h
    rfl
  · obtain ⟨Ab, tb, m, wd, st, rfl, bf, htb, hm, hwd, v, en, k⟩ := h
    have hu := hu_of hr
    have nd := sc_l_is_table.nd
    refine ⟨_, PSs.nox (pss_cons (ps_set (i := 2) nd rfl (by first | exact Or.inl rfl | exact Or.inr rfl) (pe_ix ix_tup (pe_ix ix_tup (pv 0) pe_int (fun _ _ => rfl)) pe_int (fun _ _ => rfl)))
      (pss_cons (ps_set (i := 3) nd rfl (by first | exact Or.inl rfl | exact Or.inr rfl) (pe_listRg rfl (by rfl) Z.list (prg_1 (by rfl) Z.range (pe_op op_add (pe_op op_mul pe_int (pe_callB call_lenS (by rfl) Z.len (by decide +kernel) (pa_cons (pv 2) pa_nil))) pe_int))))
      (pss_cons (ps_if (PW.pt (pw_or (pt_not (pt_val (pe_callB call_isi (by rfl) Z.isinstance (by decide +kernel) (pa_cons (pv 1) (pa_cons (pe_bltn (v := .ty "tuple") (u := .type "tuple") (by rfl) Z.tuple (by decide +kernel) rfl) pa_nil))))) (pw_or1 (pt_cmpR op_ne (pe_callB call_lenS (by rfl) Z.len (by decide +kernel) (pa_cons (pv 1) pa_nil)) pe_int (nomark _))))) (pss_one (ps_ret pe_bl)) pss_nil)
      (pss_cons (ps_if (pt_cmpR op_in_seq pe_bl (pe_lc (own := [("_law_part", 11)]) (g := (gName 11)) (tt := tYes) (te := (tCB (rIsi K) (tCons _ (tCons _ tNil)))) (by rfl) nd (pi_tup (pv 1)) (blkOk_by (own := [("_law_part", 11)]) (N := N_l_is_table) (sc := defScope s_l_is_table) (by decide +kernel)) (fun _ _ _ _ _ => (pg_name (i := 11) nd rfl (by first | exact Or.inl rfl | exact Or.inr rfl))) (fun _ _ _ _ _ => pts_nil) (fun _ _ _ _ _ => (pe_callB call_isi (by rfl) Z.isinstance (by decide +kernel) (pa_cons (pv 11) (pa_cons (pe_bltn (v := .ty "dict") (u := .type "dict") (by rfl) Z.dict (by decide +kernel) rfl) pa_nil))))) (by rfl)) (pss_one (ps_ret pe_bl)) pss_nil)
      (pss_cons (ps_set (i := 4) nd rfl (by first | exact Or.inl rfl | exact Or.inr rfl) (pe_lst pa_nil))
      (pss_cons (ps_for PassesOwn.never rfl (pi_list (pv 3)) (pg_name (i := 5) nd rfl (by first | exact Or.inl rfl | exact Or.inr rfl))
        (pss_one (ps_set (i := 4) nd rfl (by first | exact Or.inl rfl | exact Or.inr rfl) (pe_op op_cat (pv 4) (pe_lc (own := [("_law_b", 12)]) (g := (gName 12)) (tt := tYes) (by rfl) nd (pi_list (pv 3)) (blkOk_by (own := [("_law_b", 12)]) (N := N_l_is_table) (sc := defScope s_l_is_table) (by decide +kernel)) (fun _ _ _ _ _ => (pg_name (i := 12) nd rfl (by first | exact Or.inl rfl | exact Or.inr rfl))) (fun _ _ _ _ _ => pts_nil) (fun _ _ _ _ _ => (pe_tup (pa_cons (pv 5) (pa_cons (pv 12) pa_nil)))))))))
      (pss_cons (ps_set (i := 6) nd rfl (by first | exact Or.inl rfl | exact Or.inr rfl) (pe_lst pa_nil))
      (pss_cons (ps_for PassesOwn.never rfl (pi_range1 (by rfl) Z.range (pa_cons (pe_callB call_lenS (by rfl) Z.len (by decide +kernel) (pa_cons (pv 2) pa_nil)) pa_nil)) (pg_name (i := 7) nd rfl (by first | exact Or.inl rfl | exact Or.inr rfl))
        (pss_one (ps_set (i := 6) nd rfl (by first | exact Or.inl rfl | exact Or.inr rfl) (pe_op op_cat (pv 6) (pe_lc (own := [("_law_event", 13)]) (g := (gName 13)) (by rfl) nd (pi_list (pv 3)) (blkOk_by (own := [("_law_event", 13)]) (N := N_l_is_table) (sc := defScope s_l_is_table) (by decide +kernel)) (fun _ _ _ _ _ => (pg_name (i := 13) nd rfl (by first | exact Or.inl rfl | exact Or.inr rfl))) (fun _ _ _ _ _ => (pts_one (pt_cmpR op_ne (pv 13) (pe_op op_add (pe_op op_mul pe_int (pv 7)) pe_int) (nomark _)))) (fun _ _ _ _ _ => (pe_tup (pa_cons (pv 7) (pa_cons (pv 13) pa_nil)))))))))
      (pss_cons (ps_for PassesOwn.never rfl (pi_list (pe_lst (pa_cons (pe_tup (pa_cons (pe_ix ix_tup (pv 1) pe_int (fun _ _ => rfl)) (pa_cons (pv 4) pa_nil))) (pa_cons (pe_tup (pa_cons (pe_ix ix_tup (pv 1) pe_int (fun _ _ => rfl)) (pa_cons (pv 6) pa_nil))) pa_nil)))) (pg_tup rfl (pgs_cons (pg_name (i := 8) nd rfl (by first | exact Or.inl rfl | exact Or.inr rfl)) (pgs_cons (pg_name (i := 9) nd rfl (by first | exact Or.inl rfl | exact Or.inr rfl)) pgs_nil)))
        (pss_cons (ps_set (i := 10) nd rfl (by first | exact Or.inl rfl | exact Or.inr rfl) (pe_callB (cr_sortedT hr.units) (by rfl) Z.sorted (by decide +kernel) (pa_cons (pe_lock (pe_lc (own := [("_law_key", 14)]) (g := (gName 14)) (tt := tYes) (te := (tCB (rReprD K) (tCons _ tNil))) (by rfl) nd (pi_keys (pv 8)) (blkOk_by (own := [("_law_key", 14)]) (N := N_l_is_table) (sc := defScope s_l_is_table) (by decide +kernel)) (fun _ _ _ _ _ => (pg_name (i := 14) nd rfl (by first | exact Or.inl rfl | exact Or.inr rfl))) (fun _ _ _ _ _ => pts_nil) (fun _ _ _ _ _ => (pe_callB (call_reprD gd hr.units) (by rfl) Z.repr (by decide +kernel) (pa_cons (pv 14) pa_nil))))) pa_nil)))
        (pss_cons (ps_if (pt_cmpR (op_neD hr.units) (pv 10) (pe_callB (cr_sortedT hr.units) (by rfl) Z.sorted (by decide +kernel) (pa_cons (pe_lc (own := [("_law_key", 14)]) (g := (gName 14)) (tt := tYes) (te := (tCB (rReprD K) (tCons _ tNil))) (by rfl) nd (pi_list (pv 9)) (blkOk_by (own := [("_law_key", 14)]) (N := N_l_is_table) (sc := defScope s_l_is_table) (by decide +kernel)) (fun _ _ _ _ _ => (pg_name (i := 14) nd rfl (by first | exact Or.inl rfl | exact Or.inr rfl))) (fun _ _ _ _ _ => pts_nil) (fun _ _ _ _ _ => (pe_callB (call_reprD gd hr.units) (by rfl) Z.repr (by decide +kernel) (pa_cons (pv 14) pa_nil)))) pa_nil)) (nomark _)) (pss_one (ps_ret pe_bl)) pss_nil)
        (pss_one (ps_if (pt_cmpR op_in_seq pe_bl (pe_lock (pe_lc (own := [("_law_key", 14)]) (g := (gName 14)) (tt := tYes) (by rfl) nd (pi_keys (pv 8)) (blkOk_by (own := [("_law_key", 14)]) (N := N_l_is_table) (sc := defScope s_l_is_table) (by decide +kernel)) (fun _ _ _ _ _ => (pg_name (i := 14) nd rfl (by first | exact Or.inl rfl | exact Or.inr rfl))) (fun _ _ _ _ _ => pts_nil) (fun _ _ _ _ _ => (pe_cal k_l_between (hr.mono (by decide)) (by rfl) (pa_cons (pe_dget hu (pv 8) (pv 14) (fun _ _ => rfl)) (pa_cons (pe_un un_neg (pe_op op_pow pe_int pe_int)) (pa_cons (pe_op op_pow pe_int pe_int) pa_nil))))))) (by rfl)) (pss_one (ps_ret pe_bl)) pss_nil)))))
      (pss_cons (ps_if (pt_cmpR (op_neD hr.units) (pe_lc (own := [("_law_key", 14)]) (g := (gName 14)) (tt := (tTest (tOp _ (tDGet (tOp (rIxT K) _ _) _) (tOp (rIxT K) (tOp (rIxT K) _ (tOp (rIxT K) _ _)) _)))) (by rfl) nd (pi_list (pv 6)) (blkOk_by (own := [("_law_key", 14)]) (N := N_l_is_table) (sc := defScope s_l_is_table) (by decide +kernel)) (fun _ _ _ _ _ => (pg_name (i := 14) nd rfl (by first | exact Or.inl rfl | exact Or.inr rfl))) (fun _ _ _ _ _ => (pts_one (pt_cmpR op_gt (pe_dget hu (pe_ix ix_tup (pv 1) pe_int (fun _ _ => rfl)) (pv 14) (fun _ _ => rfl)) (pe_ix ix_tup (pe_ix ix_tup (pv 2) (pe_ix ix_tup (pv 14) pe_int (fun _ _ => rfl)) (fun _ _ => rfl)) pe_int (fun _ _ => rfl)) (nomark _)))) (fun _ _ _ _ _ => (pv 14))) (pe_lst pa_nil) (nomark _)) (pss_one (ps_ret pe_bl)) pss_nil)
      (pss_one (ps_ret (pe_cal k_l_is_closed (hr.mono (by decide)) (by rfl) (pa_cons (pv 0) (pa_cons (pv 1) pa_nil))))))))))))))), ?_⟩
    have n4 := ok.n4
    have lt : Ab.tv.length = B.n := by
      have := bf.rt.len
      rw [List.length_map] at this
      exact this
    walk_at "rd"
    refine rIxTl bf.hb rfl ?_
    walk_at "rd"
    refine rIxTl bf.hp rfl ?_
    walk_at "rd"
    refine rLenT bf.ht ?_
    walk_at "rd"
    refine ⟨⟨by omega, by omega, by omega, by omega, by omega⟩, rNewL0 fun ev H1 n1 f1 t1 => ?_⟩
    have eV : rgV 0 (2 * ((Ab.tv.length : Nat) : Int) + 1) = evV B := by rw [lt]; rfl
    rw [eV] at t1
    walk_at "rd"
    refine rIsi1 (tyt (f1.tup _ _ htb)) kb_tt ?_
    walk_at "rd"
    refine rLenT (f1.tup _ _ htb) ?_
    walk_at "rd"
    refine ifNt (show ((2 : Nat) : Int) = 2 by decide) ?_
    walk_at "rd"
    refine ⟨_, rfl, ⟨_, SqT.of (f1.tup _ _ htb)⟩, lcTrue (walk_tup (xs := [.ref m, .ref wd])) (fun H' f => SqT.of (f.tup _ _ (f1.tup _ _ htb))) (ok1000 rfl) ?_ ?_⟩
    · rintro i x H2 H2' hi f2 ⟨rfl, hx⟩ Qk kq
      walk_at "rd"
      refine ⟨rfl, ?_⟩
      walk_at "rd"
      have F2 := f1.trans f2
      have : (x = .ref m ∧ H2' m = some (.dT (gridM B st (2 * B.n + 1)))) ∨ (x = .ref wd ∧ H2' wd = some (.dT (gridW st st.waits))) := by
        match i, hx with
        | 0, hx => cases hx; exact .inl ⟨rfl, F2.oth _ _ (fun z => nomatch z) hm⟩
        | 1, hx => cases hx; exact .inr ⟨rfl, F2.oth _ _ (fun z => nomatch z) hwd⟩
        | i + 2, hx => simp at hx
      rcases this with ⟨rfl, h⟩ | ⟨rfl, h⟩
      · exact rIsi1 (tyd h) kb_dd (kq _ Fm.refl)
      · exact rIsi1 (tyd h) kb_dd (kq _ Fm.refl)
    · intro D2 H2 nD2 f2 hD2
      refine rInBs hD2 ?_
      walk_at "rd"
      refine rNewL (ok100 rfl) fun L3 H3 n3 f3 t3 => ?_
      walk_at "rd"
      have F3 := (f1.trans f2).trans f3
      have ev3 := (f2.trans f3).oth _ _ (fun z => nomatch z) t1
      refine forL (xs := evV B) (fun j σ' H' => ∃ (o5 : Option V) (L : Addr) (ws : List V), σ' = [some (.ref Ab.b), some (.ref tb), some (.ref Ab.ts), some (.ref ev), some (.ref L), o5, none, none, none, none, none, none, none, none, none] ∧ Fm [] H3 H' ∧ H' L = some (.lst ws) ∧ Rows H' ws (((List.range j).flatMap fun a => (List.range (2 * B.n + 1)).map fun b => a * 9 + b).map crow) ∧ ws.length ≤ 9 * j)
        ⟨_, _, [], rfl, Fm.refl, t3, .nil, Nat.zero_le _⟩ ?_ ?_ ?_
      · rintro j σ' H' _ ⟨_, _, _, _, f, _⟩
        exact SqL.of (f.oth _ _ (fun z => nomatch z) ev3)
      · rintro j x σ' H4 hx ⟨o5, L, ws, rfl, f4, hL, R4, lw⟩
        obtain ⟨rfl, ej, lj⟩ := evV_get hx
        walk_at "rd"
        have ev4 := f4.oth _ _ (fun z => nomatch z) ev3
        refine ⟨_, rfl, ⟨_, SqL.of ev4⟩, lcRows (walk_list (xs := evV B)) (fun H' f => SqL.of (f.oth _ _ (fun z => nomatch z) ev4)) (by rw [evV_len]; omega) (fun b => crow (j * 9 + b)) ?_ ?_⟩
        · rintro b x H5 H5' hb f5 ⟨rfl, hx⟩ Qk kq
          obtain ⟨rfl, eb, lb⟩ := evV_get hx
          walk_at "rd"
          refine ⟨rfl, ?_⟩
          walk_at "rd"
          refine rNewT (ok100 rfl) fun q6 H6 n6 f6 t6 => kq q6 H6 f6 ?_
          rw [crow_of (by omega)]
          exact t6
        · intro D5 ws5 H5 nD5 f5 hD5 R5
          have l5 := R5.len
          rw [List.length_map, List.length_range, evV_len] at l5
          refine rCatN (f5.oth _ _ (fun z => nomatch z) hL) hD5 (by omega) fun L6 H6 n6 f6 t6 => ?_
          walk_at "rd"
          refine ⟨_, L6, _, rfl, (f4.trans f5).trans f6, t6, ?_, by rw [List.length_append]; omega⟩
          rw [csM_succ, List.map_append, List.map_map]
          rw [evV_len] at R5
          exact ((R4.fm f5).fm f6).app (R5.fm f6)
      · rintro σ' H4 ⟨o5, L4, ws4, rfl, f4, hL4, R4, lw4⟩
        rw [evV_len] at R4
        walk_at "rd"
        refine rNewL (ok100 rfl) fun L5 H5 n5 f5 t5 => ?_
        walk_at "rd"
        have F5 := (F3.trans f4).trans f5
        refine rLenT (F5.tup _ _ bf.ht) ?_
        walk_at "rd"
        have en' : ((Ab.tv.length : Nat) : Int).toNat = B.n := by rw [lt]; omega
        have ev5 := (f4.trans f5).oth _ _ (fun z => nomatch z) ev3
        refine ⟨_, rfl, by omega, by omega, forJ walk_r0 (fun j σ' H' => ∃ (o7 : Option V) (L : Addr) (ws : List V), σ' = [some (.ref Ab.b), some (.ref tb), some (.ref Ab.ts), some (.ref ev), some (.ref L4), o5, some (.ref L), o7, none, none, none, none, none, none, none] ∧ Fm [] H5 H' ∧ H' L = some (.lst ws) ∧ Rows H' ws ((csW j (2 * B.n + 1)).map crow) ∧ ws.length ≤ 9 * j)
          ⟨_, _, [], rfl, Fm.refl, t5, .nil, Nat.zero_le _⟩ (fun _ _ _ _ _ => trivial) ?_ ?_⟩
        · rintro j x σ' H6 H6' hj ⟨o7, L, ws, rfl, f6, hL, R6, lw⟩ ⟨rfl, rfl⟩
          rw [en'] at hj
          walk_at "rd"
          have ev6 := f6.oth _ _ (fun z => nomatch z) ev5
          refine ⟨_, rfl, ⟨_, SqL.of ev6⟩, lcGen (S := []) (walk_list (xs := evV B)) (by rw [evV_len]; omega) (fun i acc H' => Fm [] H6' H' ∧ Rows H' acc ((((List.range i).filter fun b => decide (b ≠ 2 * j + 2)).map fun b => j * 9 + b).map crow)) (fun b z => nomatch z) (fun D h => ⟨Fm.new h, .nil⟩) ?_ ?_ ?_ ?_⟩
          · rintro i acc H' ⟨f, _⟩
            exact SqL.of (f.oth _ _ (fun z => nomatch z) ev6)
          · rintro D i acc H1 ys zs h h1 ⟨f, r⟩
            have f' : Fm [D] H1 (upd H1 D (.lst zs)) := Fm.wr (by simp) h1 (fun _ z => nomatch z)
            exact ⟨Fm.drop (L := [D]) (f.up.trans f') fun b z => by rw [List.mem_singleton.mp z]; exact h, r.fm f'⟩
          · rintro i x acc H7 H7' hi ⟨f7, r⟩ ⟨rfl, hx⟩ K1 K0 k1 k0
            obtain ⟨rfl, eb, lb⟩ := evV_get hx
            walk_at "rd"
            refine ⟨rfl, ?_⟩
            walk_at "rd"
            by_cases z : (i : Int) = 2 * (j : Int) + 2
            · refine ifNt z ?_
              refine k0 _ Fm.refl ⟨f7, ?_⟩
              rw [List.range_succ, List.filter_append, List.filter_cons_of_neg (by simp; omega), List.filter_nil, List.append_nil]
              exact r
            · refine ifNf z ?_
              walk_at "rd"
              refine rNewT (ok100 rfl) fun q8 H8 n8 f8 t8 => k1 _ H8 f8 ⟨f7.trans f8, ?_⟩
              rw [List.range_succ, List.filter_append, List.filter_cons_of_pos (by simp; omega), List.filter_nil, List.map_append, List.map_append]
              refine (r.fm f8).app (Rows.one ?_)
              rw [crow_of (by omega)]
              exact t8
          · rintro D acc H7 nD f7 hD ⟨_, r⟩ la
            rw [evV_len] at r la
            refine rCatN (f7.oth _ _ (fun z => nomatch z) hL) hD (by omega) fun L8 H8 n8 f8 t8 => ?_
            walk_at "rd"
            refine ⟨_, L8, _, rfl, (f6.trans f7).trans f8, t8, ?_, by rw [List.length_append]; omega⟩
            rw [csW_succ, List.map_append]
            exact ((R6.fm f7).fm f8).app (r.fm f8)
        · rintro σ' H6 ⟨o7, L6, ws6, rfl, f6, hL6, R6, lw6⟩
          rw [en'] at R6 lw6
          have F6 := F5.trans f6
          have TM : Tab H6 m L4 (gridM B st (2 * B.n + 1)) ws4 (csM (2 * B.n + 1)) (csM (2 * B.n + 1)) := tabM ok en (F6.oth _ _ (fun z => nomatch z) hm) ((f5.trans f6).oth _ _ (fun z => nomatch z) hL4) (R4.fm (f5.trans f6))
          have TW := tabW ok v en (F6.oth _ _ (fun z => nomatch z) hwd) hL6 R6
          walk_at "rd"
          refine rIxTl (F6.tup _ _ htb) rfl ?_
          walk_at "rd"
          refine rNewT (ok100 rfl) fun q7 H7 n7 f7 t7 => ?_
          walk_at "rd"
          refine rIxTl (f7.tup _ _ (F6.tup _ _ htb)) rfl ?_
          walk_at "rd"
          refine rNewT (ok100 rfl) fun q8 H8 n8 f8 t8 => ?_
          walk_at "rd"
          refine rNewL (ok100 rfl) fun q9 H9 n9 f9 t9 => ?_
          have g9 := (f7.trans f8).trans f9
          have TM9 := TM.fm g9
          have TW9 := TW.fm g9
          refine forL (xs := [.ref q7, .ref q8]) (fun j σ' H' => ∃ o8 o9 o10 : Option V, σ' = [some (.ref Ab.b), some (.ref tb), some (.ref Ab.ts), some (.ref ev), some (.ref L4), o5, some (.ref L6), o7, o8, o9, o10, none, none, none, none] ∧ Fm [] H9 H') ⟨_, _, _, rfl, Fm.refl⟩ ?_ ?_ ?_
          · rintro j σ' H' _ ⟨_, _, _, _, f⟩
            exact SqL.of (f.oth _ _ (fun z => nomatch z) t9)
          · rintro j x σ' HA hx ⟨o8, o9, o10, rfl, fA⟩
            have : ∃ (t d kL : Addr) (kvs : List (List Key × V)) (ws : List V) (cs cs' : List Nat), x = .ref t ∧ HA t = some (.tup [.ref d, .ref kL]) ∧ Tab HA d kL kvs ws cs cs' := by
              match j, hx with
              | 0, hx => cases hx; exact ⟨_, _, _, _, _, _, _, rfl, fA.tup _ _ (f9.tup _ _ (f8.tup _ _ t7)), TM9.fm fA⟩
              | 1, hx => cases hx; exact ⟨_, _, _, _, _, _, _, rfl, fA.tup _ _ (f9.tup _ _ t8), TW9.fm fA⟩
              | j + 2, hx => simp at hx
            obtain ⟨t, d, kL, kvs, ws, cs, cs', rfl, ht, T⟩ := this
            have lcs : kvs.length = cs.length := by
              have := congrArg List.length T.ke
              rwa [List.length_map, List.length_map] at this
            have lcs' : ws.length = cs'.length := by
              have := T.rw_.len
              rwa [List.length_map] at this
            have lpe := T.pe.length_eq
            have lln := T.ln
            refine rGTup ht rfl ?_
            walk_at "rd"
            refine rLockE T.hd trivial fun od => ?_
            generalize eHl : upd HA d (.frz od (.dT kvs)) = Hl
            have dl : Hl d = some (.frz od (.dT kvs)) := by rw [← eHl, upd_same]
            walk_at "rd"
            refine ⟨d, od, rfl, .inr ⟨kvs, dl, lcTexts walk_keysT lcs (by omega) (fun H' f => f.oth _ _ (fun z => nomatch z) dl) ?_ ?_⟩⟩
            · rintro i x c H2 H2' hc f2 ⟨rfl, kl, kv, q, hk, rfl, hq⟩ Qk kq
              have ec : kl = ckey c := by
                have := congrArg (fun l => l[i]?) T.ke
                simp only [List.getElem?_map, hk, hc] at this
                exact Option.some.inj this
              rw [ec] at hq
              walk_at "rd"
              refine ⟨rfl, ?_⟩
              walk_at "rd"
              exact rRepK hq (T.lt c (List.mem_of_getElem? hc)) (kq _ Fm.refl)
            · intro D HB nD fB hD
              have hdB := fB.oth _ _ (fun z => nomatch z) dl
              refine ⟨hdB, ?_⟩
              have nDd : D ≠ d := ne_of hD hdB (fun z => nomatch z)
              rw [← eHl] at fB
              have fB' := Fm.lock T.hd (fun _ z => nomatch z) fB
              have hD' : (upd HB d (.dT kvs)) D = some (.lst ((cs.map keyT).map V.str)) := by rw [upd_ne nDd]; exact hD
              generalize upd HB d (.dT kvs) = HC at fB' hD'
              walk_at "rd"
              refine rSrt hD' fun p1 HD nD1 fD hp1 => ?_
              walk_at "rd"
              have TD := T.fm (fB'.trans fD)
              refine ⟨_, rfl, ⟨_, SqL.of TD.hl⟩, lcTexts (cs := cs') (walk_list (xs := ws)) lcs' (by omega) (fun H' f => SqL.of (f.oth _ _ (fun z => nomatch z) TD.hl)) ?_ ?_⟩
              · rintro i x c H2 H2' hc f2 ⟨rfl, hx⟩ Qk kq
                obtain ⟨a, r, rfl, hr1, hr2⟩ := TD.rw_.of_get hx
                rw [List.getElem?_map, hc] at hr1
                cases hr1
                walk_at "rd"
                refine ⟨rfl, ?_⟩
                walk_at "rd"
                exact rRepK (f2.tup _ _ hr2) (T.lt c (T.pe.mem_iff.mpr (List.mem_of_getElem? hc))) (kq _ Fm.refl)
              · intro D2 HE nD2 fE hD2
                walk_at "rd"
                refine rSrt hD2 fun p2 HF nF fF hp2 => ?_
                have hp1' := fF.oth _ _ (fun z => nomatch z) (fE.oth _ _ (fun z => nomatch z) hp1)
                rw [← sort_eq T.pe T.lt] at hp2
                have sh : SeqAt.shaped (.list (((cs.map keyT).mergeSort strLe).map PyData.str)) = true := list_shaped fun d hd => by
                  obtain ⟨y, hy, rfl⟩ := List.mem_map.mp hd
                  obtain ⟨c, hc, rfl⟩ := List.mem_map.mp ((List.mergeSort_perm _ _).mem_iff.mp hy)
                  exact ⟨(keyD_ok c (T.lt c hc)).2.2.2.2, by simp [PyData.depth]⟩
                refine ⟨_, _, .lst (SqL.of hp1') (strs_dp _), .lst (SqL.of hp2) (strs_dp _), sh, sh, ?_⟩
                rw [show PyData.eqv (.list (((cs.map keyT).mergeSort strLe).map PyData.str)) (.list (((cs.map keyT).mergeSort strLe).map PyData.str)) = true by simp only [PyData.eqv]; exact strs_eqv _]
                walk_at "rd"
                have TF := (TD.fm fE).fm fF
                refine rLockE TF.hd trivial fun od2 => ?_
                generalize eHm : upd HF d (.frz od2 (.dT kvs)) = Hm
                have dm : Hm d = some (.frz od2 (.dT kvs)) := by rw [← eHm, upd_same]
                walk_at "rd"
                refine ⟨d, od2, rfl, .inr ⟨kvs, dm, lcTrue walk_keysT (fun H' f => f.oth _ _ (fun z => nomatch z) dm) (by omega) ?_ ?_⟩⟩
                · rintro i x H2 H2' hi f2 ⟨rfl, kl, kv, q, hk, rfl, hq⟩ Qk kq
                  have hmem := List.mem_of_getElem? hk
                  obtain ⟨zv, ez, z1, z2⟩ := T.va _ hmem
                  have ez : kv = .int zv := ez
                  have hv := mem_valV T.nd hmem
                  walk_at "rd"
                  refine ⟨rfl, ?_⟩
                  walk_at "rd"
                  refine ⟨d, kv, rfl, .inr ⟨kvs, kl, q, .inr ⟨od2, f2.oth _ _ (fun z => nomatch z) dm⟩, rfl, hq, hv.symm⟩, ?_⟩
                  rw [ez]
                  walk_at "rd"
                  refine ⟨zv, _, _, rfl, ?_⟩
                  have e30 : (10 : Int) ^ (30 : Int).toNat = 1000000000000000000000000000000 := by decide +kernel
                  rw [e30, decide_eq_true (by omega), decide_eq_true (by omega)]
                  exact kq _ Fm.refl
                · intro D3 HG nD3 fG hD3
                  have hdG := fG.oth _ _ (fun z => nomatch z) dm
                  refine ⟨hdG, ?_⟩
                  have nDd : D3 ≠ d := ne_of hD3 hdG (fun z => nomatch z)
                  rw [← eHm] at fG
                  have fG' := Fm.lock TF.hd (fun _ z => nomatch z) fG
                  have hD3' : (upd HG d (.dT kvs)) D3 = some (.lst (List.replicate kvs.length (V.bl true))) := by rw [upd_ne nDd]; exact hD3
                  generalize upd HG d (.dT kvs) = HH at fG' hD3'
                  refine rInBs hD3' ?_
                  walk_at "rd"
                  exact ⟨_, _, _, rfl, ((((fA.trans fB').trans fD).trans fE).trans fF).trans fG'⟩
          · rintro σ' HA ⟨o8, o9, o10, rfl, fA⟩
            have GA := (F6.trans g9).trans fA
            have LA := (g9.trans fA).oth _ _ (fun z => nomatch z) hL6
            have RA := R6.fm (g9.trans fA)
            walk_at "rd"
            have lrA := RA.len
            rw [List.length_map] at lrA
            refine ⟨_, rfl, ⟨_, SqL.of LA⟩, lcGen (S := []) (walk_list (xs := ws6)) (by omega) (fun i acc H' => Fm [] HA H' ∧ acc = []) (fun b z => nomatch z) (fun D h => ⟨Fm.new h, rfl⟩) ?_ ?_ ?_ ?_⟩
            · rintro i acc H' ⟨f, _⟩
              exact SqL.of (f.oth _ _ (fun z => nomatch z) LA)
            · rintro D i acc H1 ys zs h h1 ⟨f, e⟩
              exact ⟨Fm.drop (L := [D]) (f.up.trans (Fm.wr (by simp) h1 (fun _ z => nomatch z))) fun b z => by rw [List.mem_singleton.mp z]; exact h, e⟩
            · rintro i x acc HB HB' hi ⟨fB, rfl⟩ ⟨rfl, hx⟩ K1 K0 k1 k0
              obtain ⟨a, r, rfl, hr1, hr2⟩ := RA.of_get hx
              rw [List.getElem?_map] at hr1
              obtain ⟨c, hc, rfl⟩ := Option.map_eq_some_iff.mp hr1
              obtain ⟨i0, b0, h1, h2, h3, rfl⟩ := csW_mem.mp (List.mem_of_getElem? hc)
              rw [crow_of (by omega)] at hr2
              have GB := GA.trans fB
              walk_at "rd"
              refine ⟨rfl, ?_⟩
              walk_at "rd"
              refine rIxTl (GB.tup _ _ htb) rfl ?_
              walk_at "rd"
              have hv := gridW_val v en.al (tk_nat h1) (ev_nat h2) (show (b0 : Int) ≠ 2 * (i0 : Int) + 2 by omega)
              refine ⟨wd, _, rfl, .inr ⟨_, kk (i0 : Nat) (b0 : Nat), a, .inl (GB.oth _ _ (fun z => nomatch z) hwd), rfl, fB.tup _ _ hr2, hv.symm⟩, ?_⟩
              walk_at "rd"
              refine rIxTl (fB.tup _ _ hr2) rfl ?_
              walk_at "rd"
              obtain ⟨ad, h4, h5⟩ := bf.task (tk_nat h1)
              refine rIxTi (SqT.of (GB.tup _ _ bf.ht)) (by omega) h4 ?_
              walk_at "rd"
              refine rIxTl (GB.tup _ _ h5) rfl ?_
              walk_at "rd"
              refine ifDf (Int.not_lt.mpr (en.w60 _ _ (tk_nat h1) (ev_nat h2)).2) ?_
              exact k0 _ Fm.refl ⟨fB, rfl⟩
            · rintro D acc HB nD fB hD ⟨_, rfl⟩ _
              walk_at "rd"
              refine rNewL (ok100 rfl) fun q10 H10 n10 f10 t10 => ?_
              refine rNeNil (f10.oth _ _ (fun z => nomatch z) hD) t10 ?_
              walk_at "rd"
              have G10 := (GA.trans fB).trans f10
              exact ⟨Ab, tb, m, wd, st, rfl, bf.fm G10, G10.tup _ _ htb, G10.oth _ _ (fun z => nomatch z) hm, G10.oth _ _ (fun z => nomatch z) hwd, v, en, fun H' f => k H' (G10.trans f)⟩
end
end A68
set_option maxRecDepth 100000
set_option maxHeartbeats 4000000
/-! The law's pen: spread, take, one_of, open. -/
namespace A68
open PySem PySem.Spec PyProof.Rows L2 RZ
theorem rGSub {to ti : TE} {t : TSet} {v : V} {σ : St} {H : Hp} {Q : St → Hp → Prop} (q : to σ H fun o H1 => ti σ H1 fun i H2 => t o i v H2 fun H3 => Q σ H3) : gSub to ti t v σ H Q := q
theorem rMulI {i j : Int} {H : Hp} {Q : VK} (h : (-(2 ^ 64) < i ∧ i < 2 ^ 64) ∨ (-(2 ^ 64) < j ∧ j < 2 ^ 64)) (q : Q (.int (i * j)) H) : rI CMul (fun i j => .int (i * j)) (.int i) (.int j) H Q := ⟨i, j, rfl, rfl, h, q⟩
theorem rModI {i j : Int} {H : Hp} {Q : VK} (h : 0 < j) (q : Q (.int (i % j)) H) : rI (fun _ j => 0 < j) (fun i j => .int (i % j)) (.int i) (.int j) H Q := ⟨i, j, rfl, rfl, h, q⟩
theorem rPowI {i j : Int} {H : Hp} {Q : VK} (h1 : 0 ≤ j) (h2 : j ≤ 1000000) (h3 : i.natAbs < 2 ^ 64) (q : Q (.int (i ^ j.toNat)) H) : rI CPow (fun i j => .int (i ^ j.toNat)) (.int i) (.int j) H Q := ⟨i, j, rfl, rfl, ⟨h1, h2, h3⟩, q⟩
theorem rDivI {i j : Int} {H : Hp} {Q : VK} (h1 : 0 < j) (h2 : j < 1073741824) (q : Q (.int (i / j)) H) : rI CDiv (fun i j => .int (i / j)) (.int i) (.int j) H Q := ⟨i, j, rfl, rfl, ⟨h1, h2⟩, q⟩
theorem prod_bd {x y X Y : Int} (h1 : 0 ≤ x) (h2 : x ≤ X) (h3 : 0 ≤ y) (h4 : y ≤ Y) : 0 ≤ x * y ∧ x * y ≤ X * Y := ⟨Int.mul_nonneg h1 h3, Int.mul_le_mul h2 h4 h3 (by omega)⟩
local macro_rules | `(tactic| walk_at "rd1") => `(tactic| first
  | ((with_reducible refine' rVar ?hx ?_); (case hx => rfl))
  | (with_reducible refine rC ?_)
  | (with_reducible refine rOp ?_)
  | (with_reducible refine rUn ?_)
  | (with_reducible refine rI0i ?_)
  | (with_reducible refine rUi ?_)
  | ((with_reducible refine rMulL ?a ?b ?_); (case a => decide); (case b => decide))
  | ((with_reducible refine rMulR ?a ?b ?_); (case a => decide); (case b => decide))
  | ((with_reducible refine rModP ?a ?_); (case a => decide))
  | ((with_reducible refine rDivP ?a ?b ?_); (case a => decide); (case b => decide))
  | ((with_reducible refine rPowL ?a ?b ?c ?_); (case a => decide); (case b => decide); (case c => decide))
  | (with_reducible refine rEqI ?_)
  | (with_reducible refine rNeI ?_)
  | (with_reducible refine rIsNi ?_)
  | (with_reducible refine rIsNn ?_)
  | (with_reducible refine rIsNr ?_)
  | (with_reducible refine rNotNi ?_)
  | (with_reducible refine rNotNn ?_)
  | (with_reducible refine rNotNr ?_)
  | (with_reducible refine rTest ?_)
  | (with_reducible refine rTB ?_)
  | (with_reducible refine rBlV ?_)
  | (with_reducible refine rAnd ?_)
  | (with_reducible refine rOr ?_)
  | (with_reducible refine rNot ?_)
  | (with_reducible refine rAndV ?_)
  | (with_reducible refine rOrV ?_)
  | (with_reducible refine rNotV ?_)
  | (with_reducible refine rIf ?_)
  | (with_reducible refine rNil ?_)
  | (with_reducible refine rCons ?_)
  | (with_reducible refine rTup ?_)
  | (with_reducible refine rLst ?_)
  | (with_reducible refine rCB ?_)
  | (with_reducible refine rCall ?_)
  | (with_reducible refine rBM ?_)
  | (with_reducible refine rMin2i ?_)
  | (with_reducible refine rMax2i ?_)
  | (with_reducible refine rInt1i ?_)
  | (with_reducible refine rPartN ?_)
  | (with_reducible refine rPart ?_)
  | (with_reducible refine rInt ?_)
  | (with_reducible refine rSlS ?_)
  | (with_reducible refine rSFld ?_)
  | (with_reducible refine rSDPut ?_)
  | (with_reducible refine rDGet ?_)
  | (with_reducible refine rDIn ?_)
  | (with_reducible refine rDNotIn ?_)
  | (with_reducible refine rSeq ?_)
  | (with_reducible refine rAsg ?_)
  | (with_reducible refine rName ?_)
  | (with_reducible refine rDrop ?_)
  | (with_reducible refine rRet ?_)
  | (with_reducible refine rIfS ?_)
  | (with_reducible refine rNext ?_)
  | (with_reducible refine rPar ?_)
  | (with_reducible refine rPar2 ?_)
  | (with_reducible refine rMeth ?_)
  | (with_reducible refine rGCons ?_)
  | (with_reducible refine rGNil ?_)
  | (with_reducible refine rForS ?_)
  | (with_reducible refine rLcS ?_)
  | (with_reducible refine rIL ?_)
  | (with_reducible refine rIT ?_)
  | (with_reducible refine rIE ?_)
  | (with_reducible refine rYes ?_)
  | (with_reducible refine rPar3 ?_)
  | (with_reducible refine rPar3v ?_)
  | (with_reducible refine rLstRg ?_)
  | (with_reducible refine rRg1 ?_)
  | (with_reducible refine rIK ?_)
  | (with_reducible refine rIsNs ?_)
  | (with_reducible refine rNeB ?_)
  | (with_reducible refine rIZ ?_)
  | (with_reducible refine rChain ?_)
  | (with_reducible refine rDc2 ?_)
  | (with_reducible refine rDcS ?_)
  | (with_reducible refine rIR3 ?_)
  | (with_reducible refine rMake ?_)
  | (with_reducible refine rIR1 ?_)
  | (with_reducible refine rIR2 ?_)
  | (with_reducible refine rIET ?_)
  | (with_reducible refine ifSn ?_)
  | (with_reducible refine ifNn ?_)
  | (with_reducible refine ifSs ?_)
  | (with_reducible refine ifNs ?_)
  | (with_reducible refine rNotNfs ?_)
  | (with_reducible refine rNotNfn ?_)
  | (with_reducible refine rIsNfs ?_)
  | (with_reducible refine rIsNfn ?_)
  | (with_reducible refine ifT ?_)
  | (with_reducible refine ifF ?_)
  | (with_reducible refine ifNT ?_)
  | (with_reducible refine ifNF ?_))
local macro_rules | `(tactic| walk_at "rd") => `(tactic| (repeat walk_at "rd1"))
def spSpread : Sp := fun vs H Q _ => ∃ c n : Int, vs = [.int c, .int n] ∧ 0 ≤ n ∧ n ≤ 1000000 ∧ ∀ (r : Int) (H' : Hp), Fm [] H H' → Q (.int r) H'
section
variable {P : Program} {w : World} {K : PySem.W.Frag} {mg : Str → Option Value} {base : Heap} {f : Addr} {fd : FuncData}
def primes : List V := [.int 2147483629, .int 2147483587, .int 2147483579, .int 2147483563, .int 2147483549, .int 2147483543, .int 2147483497, .int 2147483489] ++ [.int 2147483477, .int 2147483423, .int 2147483399, .int 2147483353, .int 2147483323]
theorem prime_at {n : Int} : ∃ p : Int, primes[(n % 13).toNat]? = some (.int p) ∧ 2 ≤ p ∧ p ≤ 2147483647 := by
  have h : (n % 13).toNat < 13 := by omega
  generalize (n % 13).toNat = i at h
  have all : ∀ i, i < 13 → ∃ p : Int, primes[i]? = some (.int p) ∧ 2 ≤ p ∧ p ≤ 2147483647 := by
    intro i hi
    match i, hi with
    | 0, _ => exact ⟨_, rfl, by decide, by decide⟩
    | 1, _ => exact ⟨_, rfl, by decide, by decide⟩
    | 2, _ => exact ⟨_, rfl, by decide, by decide⟩
    | 3, _ => exact ⟨_, rfl, by decide, by decide⟩
    | 4, _ => exact ⟨_, rfl, by decide, by decide⟩
    | 5, _ => exact ⟨_, rfl, by decide, by decide⟩
    | 6, _ => exact ⟨_, rfl, by decide, by decide⟩
    | 7, _ => exact ⟨_, rfl, by decide, by decide⟩
    | 8, _ => exact ⟨_, rfl, by decide, by decide⟩
    | 9, _ => exact ⟨_, rfl, by decide, by decide⟩
    | 10, _ => exact ⟨_, rfl, by decide, by decide⟩
    | 11, _ => exact ⟨_, rfl, by decide, by decide⟩
    | 12, _ => exact ⟨_, rfl, by decide, by decide⟩
    | i + 13, hi => omega
  exact all i h
abbrev N_l_spread : List Str := ["_law_cell", "_law_at", "_law_primes", "_law_u", "_law_v", "_law_w"]
theorem sc_l_spread : FnScope N_l_spread ["_law_cell", "_law_at"] (defScope s_l_spread) := ⟨rfl, rfl, rfl, by decide +kernel, rfl, by decide +kernel, by decide +kernel⟩
-- slots: 0 _law_cell, 1 _law_at, 2 _law_primes, 3 _law_u, 4 _law_v, 5 _law_w
theorem ok_spread (F : FD K "_law_spread" "_law_spread" s_l_spread f fd) (Z : Fr0 mg) : FnOk P w K mg base CX0 1 f fd ["_law_cell", "_law_at"] spSpread := by
  refine F.ok sc_l_spread (fun vs H Q E h => ?_) (fun cdv A0 outer s H vs Q E hr h => ?_)
  · obtain ⟨_, _, rfl, _⟩ := h
    rfl
  · obtain ⟨c, n, rfl, n0, n1, k⟩ := h
    have hu := hu_of hr
    have nd := sc_l_spread.nd
    refine ⟨_, PSs.nox (pss_cons (ps_if (pt_cmpR op_ge (pv 0) (pe_op op_pow pe_int pe_int) (nomark _)) (pss_one (ps_ret (pv 0))) pss_nil)
      (pss_cons (ps_set (i := 2) nd rfl (by first | exact Or.inl rfl | exact Or.inr rfl) (pe_lst (pa_cons pe_int (pa_cons pe_int (pa_cons pe_int (pa_cons pe_int (pa_cons pe_int (pa_cons pe_int (pa_cons pe_int (pa_cons pe_int pa_nil))))))))))
      (pss_cons (ps_set (i := 2) nd rfl (by first | exact Or.inl rfl | exact Or.inr rfl) (pe_op op_cat (pv 2) (pe_lst (pa_cons pe_int (pa_cons pe_int (pa_cons pe_int (pa_cons pe_int (pa_cons pe_int pa_nil))))))))
      (pss_cons (ps_set (i := 3) nd rfl (by first | exact Or.inl rfl | exact Or.inr rfl) (pe_op op_add (pe_op op_add (pe_op op_mul (pe_op op_mod (pe_callTy call_int1n (by rfl) Z.int (by decide +kernel) (pa_cons (pv 0) pa_nil)) pe_int) (pe_op op_add (pe_op op_mul pe_int (pv 1)) pe_int)) (pe_op op_mul (pv 1) pe_int)) pe_int))
      (pss_cons (ps_set (i := 3) nd rfl (by first | exact Or.inl rfl | exact Or.inr rfl) (pe_op op_mod (pe_callTy call_int1n (by rfl) Z.int (by decide +kernel) (pa_cons (pe_op op_pow (pv 3) pe_int) pa_nil)) (pe_ix ix_list (pv 2) (pe_op op_mod (pe_callTy call_int1n (by rfl) Z.int (by decide +kernel) (pa_cons (pv 1) pa_nil)) pe_int) (fun _ _ => rfl))))
      (pss_cons (ps_set (i := 4) nd rfl (by first | exact Or.inl rfl | exact Or.inr rfl) (pe_op op_mod (pe_callTy call_int1n (by rfl) Z.int (by decide +kernel) (pa_cons (pe_op op_pow (pe_op op_add (pe_op op_add (pe_op op_mul (pv 3) (pe_op op_add (pv 1) pe_int)) (pe_op op_mod (pe_callTy call_int1n (by rfl) Z.int (by decide +kernel) (pa_cons (pv 0) pa_nil)) pe_int)) pe_int) pe_int) pa_nil)) (pe_ix ix_list (pv 2) (pe_op op_mod (pe_callTy call_int1n (by rfl) Z.int (by decide +kernel) (pa_cons (pe_op op_add (pv 1) pe_int) pa_nil)) pe_int) (fun _ _ => rfl))))
      (pss_cons (ps_set (i := 5) nd rfl (by first | exact Or.inl rfl | exact Or.inr rfl) (pe_op op_mod (pe_callTy call_int1n (by rfl) Z.int (by decide +kernel) (pa_cons (pe_op op_pow (pe_op op_add (pe_op op_add (pv 4) (pe_op op_mod (pe_callTy call_int1n (by rfl) Z.int (by decide +kernel) (pa_cons (pv 3) pa_nil)) pe_int)) (pv 1)) pe_int) pa_nil)) (pe_ix ix_list (pv 2) (pe_op op_mod (pe_callTy call_int1n (by rfl) Z.int (by decide +kernel) (pa_cons (pe_op op_add (pv 1) pe_int) pa_nil)) pe_int) (fun _ _ => rfl))))
      (pss_one (ps_ret (pe_op op_add (pe_op op_mul (pe_op op_add (pe_op op_mul (pv 3) pe_int) (pv 4)) pe_int) (pv 5))))))))))), ?_⟩
    walk_at "rd"
    by_cases big : (10 : Int) ^ (18 : Int).toNat ≤ c
    · refine ifDt big ?_
      walk_at "rd"
      exact k c H Fm.refl
    · refine ifDf big ?_
      walk_at "rd"
      refine rNewL (ok100 rfl) fun L1 H1 m1 f1 t1 => ?_
      walk_at "rd"
      refine rNewL (ok100 rfl) fun L2 H2 m2 f2 t2 => ?_
      refine rCatN (f2.oth _ _ (fun z => nomatch z) t1) t2 (by decide) fun L3 H3 m3 f3 t3 => ?_
      have F3 := (f1.trans f2).trans f3
      have t3 : H3 L3 = some (.lst primes) := t3
      walk_at "rd"
      have x1 : 0 ≤ c % 1000000007 ∧ c % 1000000007 < 1000000007 := by omega
      refine rMulI (.inl (by omega)) ?_
      walk_at "rd"
      have b1 := prod_bd x1.1 (Int.le_of_lt x1.2) (show 0 ≤ 2 * n + 69069 by omega) (show 2 * n + 69069 ≤ 2069069 by omega)
      have e1 : 0 ≤ c % 1000000007 * (2 * n + 69069) + n * 40503 + 977 ∧ c % 1000000007 * (2 * n + 69069) + n * 40503 + 977 ≤ 10000000000000000 := by omega
      generalize c % 1000000007 * (2 * n + 69069) + n * 40503 + 977 = u0 at e1
      refine rPowI (by decide) (by decide) (by omega) ?_
      walk_at "rd"
      obtain ⟨p1, hp1, l1, g1⟩ := prime_at (n := n)
      refine rIxLi (SqL.of t3) (by omega) hp1 ?_
      walk_at "rd"
      refine rModI (by omega) ?_
      have e2 : 0 ≤ u0 ^ (3 : Int).toNat % p1 ∧ u0 ^ (3 : Int).toNat % p1 ≤ 2147483647 := ⟨Int.emod_nonneg _ (by omega), by have := Int.emod_lt_of_pos (u0 ^ (3 : Int).toNat) (show 0 < p1 by omega); omega⟩
      generalize u0 ^ (3 : Int).toNat % p1 = u at e2
      walk_at "rd"
      refine rMulI (.inl (by omega)) ?_
      walk_at "rd"
      have b2 := prod_bd e2.1 e2.2 (show 0 ≤ n + 3 by omega) (show n + 3 ≤ 1000003 by omega)
      have x2 : 0 ≤ c % 65537 ∧ c % 65537 < 65537 := by omega
      have e3 : 0 ≤ u * (n + 3) + c % 65537 + 5 ∧ u * (n + 3) + c % 65537 + 5 ≤ 10000000000000000 := by omega
      generalize u * (n + 3) + c % 65537 + 5 = v0 at e3
      refine rPowI (by decide) (by decide) (by omega) ?_
      walk_at "rd"
      obtain ⟨p2, hp2, l2, g2⟩ := prime_at (n := n + 5)
      refine rIxLi (SqL.of t3) (by omega) hp2 ?_
      walk_at "rd"
      refine rModI (by omega) ?_
      have e4 : 0 ≤ v0 ^ (5 : Int).toNat % p2 ∧ v0 ^ (5 : Int).toNat % p2 ≤ 2147483647 := ⟨Int.emod_nonneg _ (by omega), by have := Int.emod_lt_of_pos (v0 ^ (5 : Int).toNat) (show 0 < p2 by omega); omega⟩
      generalize v0 ^ (5 : Int).toNat % p2 = v at e4
      walk_at "rd"
      have x3 : 0 ≤ u % 1009 ∧ u % 1009 < 1009 := by omega
      refine rPowI (by decide) (by decide) (by omega) ?_
      walk_at "rd"
      obtain ⟨p3, hp3, l3, g3⟩ := prime_at (n := n + 7)
      refine rIxLi (SqL.of t3) (by omega) hp3 ?_
      walk_at "rd"
      refine rModI (by omega) ?_
      walk_at "rd"
      exact k _ H3 F3
/-- the pen: what is drawn from -/
def Pen (H : Hp) (pn cl : Addr) (n : Nat) : Prop := ∃ (cs : List Int) (m val : Int), H pn = some (.lst [.ref cl, .int m, .int val]) ∧ H cl = some (.lst (cs.map V.int)) ∧ 0 ≤ m ∧ m ≤ n ∧ cs.length ≤ 1000
theorem Pen.ne {H : Hp} {pn cl : Addr} {n : Nat} (h : Pen H pn cl n) : pn ≠ cl := by
  obtain ⟨cs, m, val, h1, h2, _⟩ := h
  rintro rfl
  rw [h1] at h2
  cases cs with
  | nil => cases h2
  | cons a l => cases h2
theorem Pen.fm {H H' : Hp} {pn cl : Addr} {n : Nat} {S : List Addr} (f : Fm S H H') (n1 : pn ∉ S) (n2 : cl ∉ S) (h : Pen H pn cl n) : Pen H' pn cl n := by
  obtain ⟨cs, m, val, h1, h2, h3⟩ := h
  exact ⟨cs, m, val, f.oth _ _ n1 h1, f.oth _ _ n2 h2, h3⟩
theorem Pen.f0 {H H' : Hp} {pn cl : Addr} {n : Nat} (f : Fm [] H H') (h : Pen H pn cl n) : Pen H' pn cl n := h.fm f (fun z => nomatch z) (fun z => nomatch z)
theorem Pen.up {H : Hp} {pn cl : Addr} {n m : Nat} (h : Pen H pn cl n) (l : n ≤ m) : Pen H pn cl m := by
  obtain ⟨cs, k, val, h1, h2, h3, h4, h5⟩ := h
  exact ⟨cs, k, val, h1, h2, h3, by omega, h5⟩
theorem Pen.live {H : Hp} {pn cl : Addr} {n : Nat} (h : Pen H pn cl n) : H pn ≠ none ∧ H cl ≠ none := by
  obtain ⟨cs, k, val, h1, h2, _⟩ := h
  exact ⟨fun z => (by rw [h1] at z; cases z), fun z => (by rw [h2] at z; cases z)⟩
def spTake : Sp := fun vs H Q _ => ∃ (pn cl : Addr) (n : Nat) (am : Int), vs = [.ref pn, .int am] ∧ Pen H pn cl n ∧ n ≤ 100000 ∧ 1 ≤ am ∧ am < 1073741824 ∧ ∀ (r : Int) (H' : Hp), 0 ≤ r → r < am → Fm [pn] H H' → Pen H' pn cl (n + 1) → Q (.int r) H'
abbrev N_l_take : List Str := ["_law_pen", "_law_amount", "_law_at", "_law_cell", "_law_found"]
theorem sc_l_take : FnScope N_l_take ["_law_pen", "_law_amount"] (defScope s_l_take) := ⟨rfl, rfl, rfl, by decide +kernel, rfl, by decide +kernel, by decide +kernel⟩
-- slots: 0 _law_pen, 1 _law_amount, 2 _law_at, 3 _law_cell, 4 _law_found
theorem ok_take (F : FD K "_law_take" "_law_take" s_l_take f fd) (Z : Fr0 mg) (k_l_spread : Cal P w K mg base "_law_spread" ["_law_cell", "_law_at"] 1 spSpread) : FnOk P w K mg base CX0 2 f fd ["_law_pen", "_law_amount"] spTake := by
  refine F.ok sc_l_take (fun vs H Q E h => ?_) (fun cdv A0 outer s H vs Q E hr h => ?_)
  · obtain ⟨_, _, _, _, rfl, _⟩ := h
    rfl
  · obtain ⟨pn, cl, n, am, rfl, pe, n1, a1, a2, k⟩ := h
    have hu := hu_of hr
    have nd := sc_l_take.nd
    refine ⟨_, PSs.nox (Evl.pss_cut (ps_if (pt_cmpR op_lt (pe_ix ix_list (pv 0) pe_int (fun _ _ => rfl)) (pv 1) (nomark _)) (pss_cons (ps_set (i := 2) nd rfl (by first | exact Or.inl rfl | exact Or.inr rfl) (pe_ix ix_list (pv 0) pe_int (fun _ _ => rfl)))
        (pss_cons (ps_set (i := 3) nd rfl (by first | exact Or.inl rfl | exact Or.inr rfl) pe_int)
        (Evl.pss_cut (ps_if (pt_cmpR op_lt (pv 2) (pe_callB call_lenS (by rfl) Z.len (by decide +kernel) (pa_cons (pe_ix ix_list (pv 0) pe_int (fun _ _ => rfl)) pa_nil)) (nomark _)) (pss_one (ps_set (i := 3) nd rfl (by first | exact Or.inl rfl | exact Or.inr rfl) (pe_ix ix_list (pe_ix ix_list (pv 0) pe_int (fun _ _ => rfl)) (pv 2) (fun _ _ => rfl)))) (pss_one (ps_if (pt_cmpR op_gt (pe_callB call_lenS (by rfl) Z.len (by decide +kernel) (pa_cons (pe_ix ix_list (pv 0) pe_int (fun _ _ => rfl)) pa_nil)) pe_int (nomark _)) (pss_one (ps_set (i := 3) nd rfl (by first | exact Or.inl rfl | exact Or.inr rfl) (pe_op op_mod (pe_callTy call_int1n (by rfl) Z.int (by decide +kernel) (pa_cons (pe_ix ix_list (pe_ix ix_list (pv 0) pe_int (fun _ _ => rfl)) (pe_op op_mod (pe_callTy call_int1n (by rfl) Z.int (by decide +kernel) (pa_cons (pe_op op_add (pe_op op_mul (pv 2) pe_int) pe_int) pa_nil)) (pe_callB call_lenS (by rfl) Z.len (by decide +kernel) (pa_cons (pe_ix ix_list (pv 0) pe_int (fun _ _ => rfl)) pa_nil))) (fun _ _ => rfl)) pa_nil)) (pe_op op_add (pe_op op_pow pe_int pe_int) (pv 2))))) pss_nil)))
        (pss_cons (ps_asg (pe_op op_add (pv 2) pe_int) (pg_sub (pv 0) pe_int set_list))
        (pss_one (ps_asg (pe_cal k_l_spread (hr.mono (by decide)) (by rfl) (pa_cons (pv 3) (pa_cons (pv 2) pa_nil))) (pg_sub (pv 0) pe_int set_list))))))) pss_nil)
      (pss_cons (ps_set (i := 4) nd rfl (by first | exact Or.inl rfl | exact Or.inr rfl) (pe_op op_mod (pe_callTy call_int1n (by rfl) Z.int (by decide +kernel) (pa_cons (pe_ix ix_list (pv 0) pe_int (fun _ _ => rfl)) pa_nil)) (pv 1)))
      (pss_cons (ps_asg (pe_op op_fdiv (pe_ix ix_list (pv 0) pe_int (fun _ _ => rfl)) (pv 1)) (pg_sub (pv 0) pe_int set_list))
      (pss_one (ps_ret (pv 4)))))), ?_⟩
    obtain ⟨cs, m, val, h1, h2, m0, mn, lc⟩ := pe
    have ne : cl ≠ pn := (Pen.ne ⟨cs, m, val, h1, h2, m0, mn, lc⟩).symm
    refine rCut (fun σ' H' => ∃ (o2 o3 : Option V) (m' val' : Int), σ' = [some (.ref pn), some (.int am), o2, o3, none] ∧ Fm [pn] H H' ∧ H' pn = some (.lst [.ref cl, .int m', .int val']) ∧ H' cl = some (.lst (cs.map V.int)) ∧ 0 ≤ m' ∧ m' ≤ n + 1) ?_ ?_
    · walk_at "rd"
      refine rIxLn (n := 2) (SqL.of h1) rfl ?_
      walk_at "rd"
      by_cases lt : val < am
      · refine ifDt lt ?_
        walk_at "rd"
        refine rIxLn (n := 1) (SqL.of h1) rfl ?_
        walk_at "rd"
        refine rCut (fun σ' H' => ∃ c : Int, σ' = [some (.ref pn), some (.int am), some (.int m), some (.int c), none] ∧ H' = H) ?_ ?_
        · walk_at "rd"
          refine rIxLn (n := 0) (SqL.of h1) rfl ?_
          walk_at "rd"
          refine rLenL (SqL.of h2) ?_
          walk_at "rd"
          rw [List.length_map]
          by_cases l2 : m < (cs.length : Int)
          · refine ifDt l2 ?_
            walk_at "rd"
            refine rIxLn (n := 0) (SqL.of h1) rfl ?_
            walk_at "rd"
            refine rIxLi (SqL.of h2) m0 (v := .int (cs[m.toNat]'(by omega))) (by rw [List.getElem?_map, List.getElem?_eq_getElem (by omega)]; rfl) ?_
            walk_at "rd"
            exact ⟨_, rfl, rfl⟩
          · refine ifDf l2 ?_
            walk_at "rd"
            refine rIxLn (n := 0) (SqL.of h1) rfl ?_
            walk_at "rd"
            refine rLenL (SqL.of h2) ?_
            walk_at "rd"
            rw [List.length_map]
            by_cases l3 : 0 < (cs.length : Int)
            · refine ifDt l3 ?_
              walk_at "rd"
              refine rIxLn (n := 0) (SqL.of h1) rfl ?_
              walk_at "rd"
              refine rIxLn (n := 0) (SqL.of h1) rfl ?_
              walk_at "rd"
              refine rLenL (SqL.of h2) ?_
              walk_at "rd"
              rw [List.length_map]
              refine rModI l3 ?_
              have z1 : 0 ≤ (m * 5 + 3) % (cs.length : Int) := Int.emod_nonneg _ (by omega)
              have z2 : (m * 5 + 3) % (cs.length : Int) < cs.length := Int.emod_lt_of_pos _ l3
              refine rIxLi (SqL.of h2) z1 (v := .int (cs[((m * 5 + 3) % (cs.length : Int)).toNat]'(by omega))) (by rw [List.getElem?_map, List.getElem?_eq_getElem (by omega)]; rfl) ?_
              walk_at "rd"
              refine rModI ?_ ?_
              · have : (10 : Int) ^ (17 : Int).toNat = 100000000000000000 := by decide +kernel
                omega
              walk_at "rd"
              exact ⟨_, rfl, rfl⟩
            · refine ifDf l3 ?_
              walk_at "rd"
              exact ⟨_, rfl, rfl⟩
        · rintro σ' H' ⟨c, rfl, rfl⟩
          walk_at "rd"
          refine rGSub ?_
          walk_at "rd"
          refine ⟨pn, _, _, 1, rfl, rfl, h1, rfl, ?_⟩
          have f1 : Fm [pn] H' (upd H' pn (.lst ([V.ref cl, .int m, .int val].set 1 (.int (m + 1))))) := Fm.wr (by simp) h1 (fun _ z => nomatch z)
          have p1 : (upd H' pn (.lst ([V.ref cl, .int m, .int val].set 1 (.int (m + 1))))) pn = some (.lst [.ref cl, .int (m + 1), .int val]) := upd_same
          have c1 : (upd H' pn (.lst ([V.ref cl, .int m, .int val].set 1 (.int (m + 1))))) cl = some (.lst (cs.map V.int)) := by rw [upd_ne ne]; exact h2
          generalize upd H' pn (.lst ([V.ref cl, .int m, .int val].set 1 (.int (m + 1)))) = H1 at f1 p1 c1
          walk_at "rd"
          refine ⟨c, m, rfl, m0, by omega, fun r H2 f2 => ?_⟩
          have p2 := f2.oth _ _ (fun z => nomatch z) p1
          have c2 := f2.oth _ _ (fun z => nomatch z) c1
          refine rGSub ?_
          walk_at "rd"
          refine ⟨pn, _, _, 2, rfl, rfl, p2, rfl, ?_⟩
          refine ⟨_, _, m + 1, r, rfl, (f1.trans f2.up).trans (Fm.wr (by simp) p2 (fun _ z => nomatch z)), upd_same, by rw [upd_ne ne]; exact c2, by omega, by omega⟩
      · refine ifDf lt ?_
        walk_at "rd"
        exact ⟨_, _, m, val, rfl, Fm.refl, h1, h2, m0, by omega⟩
    · rintro σ' H' ⟨o2, o3, m', val', rfl, f', p', c', m1, m2⟩
      walk_at "rd"
      refine rIxLn (n := 2) (SqL.of p') rfl ?_
      walk_at "rd"
      refine rModI (by omega) ?_
      walk_at "rd"
      refine rIxLn (n := 2) (SqL.of p') rfl ?_
      walk_at "rd"
      refine rDivI (by omega) a2 ?_
      refine rGSub ?_
      walk_at "rd"
      refine ⟨pn, _, _, 2, rfl, rfl, p', rfl, ?_⟩
      walk_at "rd"
      refine k _ _ (Int.emod_nonneg _ (by omega)) (Int.emod_lt_of_pos _ (by omega)) (f'.trans (Fm.wr (by simp) p' (fun _ z => nomatch z))) ⟨cs, m', _, upd_same, by rw [upd_ne ne]; exact c', m1, by omega, lc⟩
def spOneOf : Sp := fun vs H Q _ => ∃ (pn cl L : Addr) (n : Nat) (xs : List V), vs = [.ref pn, .ref L] ∧ Pen H pn cl n ∧ n ≤ 100000 ∧ L ≠ pn ∧ H L = some (.lst xs) ∧ 1 ≤ xs.length ∧ xs.length ≤ 1000 ∧ ∀ (v : V) (H' : Hp), v ∈ xs → Fm [pn] H H' → Pen H' pn cl (n + 1) → Q v H'
abbrev N_l_one_of : List Str := ["_law_pen", "_law_some"]
theorem sc_l_one_of : FnScope N_l_one_of ["_law_pen", "_law_some"] (defScope s_l_one_of) := ⟨rfl, rfl, rfl, by decide +kernel, rfl, by decide +kernel, by decide +kernel⟩
-- slots: 0 _law_pen, 1 _law_some
theorem ok_one_of (F : FD K "_law_one_of" "_law_one_of" s_l_one_of f fd) (Z : Fr0 mg) (k_l_take : Cal P w K mg base "_law_take" ["_law_pen", "_law_amount"] 2 spTake) : FnOk P w K mg base CX0 3 f fd ["_law_pen", "_law_some"] spOneOf := by
  refine F.ok sc_l_one_of (fun vs H Q E h => ?_) (fun cdv A0 outer s H vs Q E hr h => ?_)
  · obtain ⟨_, _, _, _, _, rfl, _⟩ := h
    rfl
  · obtain ⟨pn, cl, L, n, xs, rfl, pe, n1, ne, hL, l1, l2, k⟩ := h
    have hu := hu_of hr
    have nd := sc_l_one_of.nd
    refine ⟨_, PSs.nox (pss_one (ps_ret (pe_ix ix_list (pv 1) (pe_cal k_l_take (hr.mono (by decide)) (by rfl) (pa_cons (pv 0) (pa_cons (pe_callB call_lenS (by rfl) Z.len (by decide +kernel) (pa_cons (pv 1) pa_nil)) pa_nil))) (fun _ _ => rfl)))), ?_⟩
    walk_at "rd"
    refine rLenL (SqL.of hL) ?_
    walk_at "rd"
    refine ⟨pn, cl, n, _, rfl, pe, n1, by omega, by omega, fun r H1 r0 r1 f1 p1 => ?_⟩
    have hr : r.toNat < xs.length := by omega
    refine rIxLi (SqL.of (f1.oth _ _ (by simp; exact ne) hL)) r0 (List.getElem?_eq_getElem hr) ?_
    exact k _ H1 (List.getElem_mem hr) f1 p1
end
end A68
set_option maxRecDepth 100000
set_option maxHeartbeats 4000000
/-! The law's open, draw_project. -/
namespace A68
open PySem PySem.Spec PyProof.Rows L2 RZ
theorem SqL.fm {K : PySem.W.Frag} {H H' : Hp} {a : Addr} {xs : List V} (f : Fm [] H H') (h : SqL K H a xs) : SqL K H' a xs := by
  rcases h with h | h
  · exact .inl (Rd.fm f (fun z => nomatch z) h)
  · exact .inr h
theorem cut_ints (ns : List Int) (lo hi : Option Int) : ∃ ms : List Int, cutV (ns.map V.int) lo hi = ms.map V.int ∧ ms = (ns.drop (HT.sIx ns.length 0 lo)).take (HT.sIx ns.length ns.length hi - HT.sIx ns.length 0 lo) := by
  refine ⟨_, ?_, rfl⟩
  unfold cutV
  rw [List.length_map, ← List.map_drop, ← List.map_take]
theorem Fm.d1 {D : Addr} {S : List Addr} {H H' : Hp} (f : Fm (D :: S) H H') (h : H D = none) : Fm S H H' := Fm.drop (L := [D]) f fun b z => by rw [List.mem_singleton.mp z]; exact h
local macro_rules | `(tactic| walk_at "rd1") => `(tactic| first
  | ((with_reducible refine' rVar ?hx ?_); (case hx => rfl))
  | (with_reducible refine rC ?_)
  | (with_reducible refine rOp ?_)
  | (with_reducible refine rUn ?_)
  | (with_reducible refine rI0i ?_)
  | (with_reducible refine rUi ?_)
  | ((with_reducible refine rMulL ?a ?b ?_); (case a => decide); (case b => decide))
  | ((with_reducible refine rMulR ?a ?b ?_); (case a => decide); (case b => decide))
  | ((with_reducible refine rModP ?a ?_); (case a => decide))
  | ((with_reducible refine rDivP ?a ?b ?_); (case a => decide); (case b => decide))
  | ((with_reducible refine rPowL ?a ?b ?c ?_); (case a => decide); (case b => decide); (case c => decide))
  | (with_reducible refine rEqI ?_)
  | (with_reducible refine rNeI ?_)
  | (with_reducible refine rIsNi ?_)
  | (with_reducible refine rIsNn ?_)
  | (with_reducible refine rIsNr ?_)
  | (with_reducible refine rNotNi ?_)
  | (with_reducible refine rNotNn ?_)
  | (with_reducible refine rNotNr ?_)
  | (with_reducible refine rTest ?_)
  | (with_reducible refine rTB ?_)
  | (with_reducible refine rBlV ?_)
  | (with_reducible refine rAnd ?_)
  | (with_reducible refine rOr ?_)
  | (with_reducible refine rNot ?_)
  | (with_reducible refine rAndV ?_)
  | (with_reducible refine rOrV ?_)
  | (with_reducible refine rNotV ?_)
  | (with_reducible refine rIf ?_)
  | (with_reducible refine rNil ?_)
  | (with_reducible refine rCons ?_)
  | (with_reducible refine rTup ?_)
  | (with_reducible refine rLst ?_)
  | (with_reducible refine rCB ?_)
  | (with_reducible refine rCall ?_)
  | (with_reducible refine rBM ?_)
  | (with_reducible refine rMin2i ?_)
  | (with_reducible refine rMax2i ?_)
  | (with_reducible refine rInt1i ?_)
  | (with_reducible refine rPartN ?_)
  | (with_reducible refine rPart ?_)
  | (with_reducible refine rInt ?_)
  | (with_reducible refine rSlS ?_)
  | (with_reducible refine rSFld ?_)
  | (with_reducible refine rSDPut ?_)
  | (with_reducible refine rDGet ?_)
  | (with_reducible refine rDIn ?_)
  | (with_reducible refine rDNotIn ?_)
  | (with_reducible refine rSeq ?_)
  | (with_reducible refine rAsg ?_)
  | (with_reducible refine rName ?_)
  | (with_reducible refine rDrop ?_)
  | (with_reducible refine rRet ?_)
  | (with_reducible refine rIfS ?_)
  | (with_reducible refine rNext ?_)
  | (with_reducible refine rPar ?_)
  | (with_reducible refine rPar2 ?_)
  | (with_reducible refine rMeth ?_)
  | (with_reducible refine rGCons ?_)
  | (with_reducible refine rGNil ?_)
  | (with_reducible refine rForS ?_)
  | (with_reducible refine rLcS ?_)
  | (with_reducible refine rIL ?_)
  | (with_reducible refine rIT ?_)
  | (with_reducible refine rIE ?_)
  | (with_reducible refine rYes ?_)
  | (with_reducible refine rPar3 ?_)
  | (with_reducible refine rPar3v ?_)
  | (with_reducible refine rLstRg ?_)
  | (with_reducible refine rRg1 ?_)
  | (with_reducible refine rIK ?_)
  | (with_reducible refine rIsNs ?_)
  | (with_reducible refine rNeB ?_)
  | (with_reducible refine rIZ ?_)
  | (with_reducible refine rChain ?_)
  | (with_reducible refine rDc2 ?_)
  | (with_reducible refine rDcS ?_)
  | (with_reducible refine rIR3 ?_)
  | (with_reducible refine rMake ?_)
  | (with_reducible refine rIR1 ?_)
  | (with_reducible refine rIR2 ?_)
  | (with_reducible refine rIET ?_)
  | (with_reducible refine ifSn ?_)
  | (with_reducible refine ifNn ?_)
  | (with_reducible refine ifSs ?_)
  | (with_reducible refine ifNs ?_)
  | (with_reducible refine rNotNfs ?_)
  | (with_reducible refine rNotNfn ?_)
  | (with_reducible refine rIsNfs ?_)
  | (with_reducible refine rIsNfn ?_)
  | (with_reducible refine ifT ?_)
  | (with_reducible refine ifF ?_)
  | (with_reducible refine ifNT ?_)
  | (with_reducible refine ifNF ?_))
local macro_rules | `(tactic| walk_at "rd") => `(tactic| (repeat walk_at "rd1"))
def spOpen (K : PySem.W.Frag) : Sp := fun vs H Q _ => ∃ (a : Addr) (ns : List Int), vs = [.ref a] ∧ SqL K H a (ns.map V.int) ∧ ∀ (pn cl : Addr) (H' : Hp), Fm [] H H' → Pen H' pn cl 0 → H pn = none → H cl = none → Q (.ref pn) H'
section
variable {P : Program} {w : World} {K : PySem.W.Frag} {mg : Str → Option Value} {base : Heap} {f : Addr} {fd : FuncData}
abbrev N_l_open : List Str := ["_law_script", "_law_cells", "_law_k", "_law_cell"]
theorem sc_l_open : FnScope N_l_open ["_law_script"] (defScope s_l_open) := ⟨rfl, rfl, rfl, by decide +kernel, rfl, by decide +kernel, by decide +kernel⟩
-- slots: 0 _law_script, 1 _law_cells, 2 _law_k, 3 _law_cell
theorem ok_open (F : FD K "_law_open" "_law_open" s_l_open f fd) (Z : Fr0 mg) : FnOk P w K mg base CX0 1 f fd ["_law_script"] (spOpen K) := by
  refine F.ok sc_l_open (fun vs H Q E h => ?_) (fun cdv A0 outer s H vs Q E hr h => ?_)
  · obtain ⟨_, _, rfl, _⟩ := h
    rfl
  · obtain ⟨a, ns, rfl, hs, k⟩ := h
    have hu := hu_of hr
    have nd := sc_l_open.nd
    refine ⟨_, PSs.nox (pss_cons (ps_set (i := 1) nd rfl (by first | exact Or.inl rfl | exact Or.inr rfl) (pe_callTy call_listN (by rfl) Z.list (by decide +kernel) (pa_cons (pe_slice sl_list (pv 0) po_none (po_some pe_int)) pa_nil)))
      (pss_cons (ps_for PassesOwn.never rfl (pi_enum (by rfl) Z.enumerate (pa_cons (pe_slice sl_list (pv 0) (po_some pe_int) (po_some pe_int)) pa_nil)) (pg_tup rfl (pgs_cons (pg_name (i := 2) nd rfl (by first | exact Or.inl rfl | exact Or.inr rfl)) (pgs_cons (pg_name (i := 3) nd rfl (by first | exact Or.inl rfl | exact Or.inr rfl)) pgs_nil)))
        (pss_one (ps_asg (pe_op op_add (pe_ix ix_list (pv 1) (pe_op op_mod (pe_callTy call_int1n (by rfl) Z.int (by decide +kernel) (pa_cons (pv 2) pa_nil)) pe_int) (fun _ _ => rfl)) (pv 3)) (pg_sub (pv 1) (pe_op op_mod (pe_callTy call_int1n (by rfl) Z.int (by decide +kernel) (pa_cons (pv 2) pa_nil)) pe_int) set_list))))
      (pss_one (ps_ret (pe_lst (pa_cons (pv 1) (pa_cons pe_int (pa_cons pe_int pa_nil)))))))), ?_⟩
    walk_at "rd"
    refine rSlLi hs (rNewL0 fun L1 H1 n1 f1 t1 => ?_)
    walk_at "rd"
    refine rListOfi (.inl (SqL.of t1)) (rNewL0 fun L2 H2 n2 f2 t2 => ?_)
    walk_at "rd"
    have F2 := f1.trans f2
    refine rSlLi (SqL.fm F2 hs) (rNewL0 fun L3 H3 n3 f3 t3 => ?_)
    walk_at "rd"
    have t2' := f3.oth _ _ (fun z => nomatch z) t2
    obtain ⟨cs, e1, ec⟩ := cut_ints ns none (some 12)
    obtain ⟨ms, e2, em⟩ := cut_ints ns (some 12) (some 63)
    rw [e1] at t2'
    rw [e2] at t3
    have s12 : HT.sIx ns.length 0 (some 12) = min 12 ns.length := HT.sIx_nat ns.length 0 12
    have s12' : HT.sIx ns.length ns.length (some 12) = min 12 ns.length := HT.sIx_nat ns.length ns.length 12
    have s63 : HT.sIx ns.length ns.length (some 63) = min 63 ns.length := HT.sIx_nat ns.length ns.length 63
    have l1 : cs.length = min 12 ns.length := by
      rw [ec, List.length_take, List.length_drop, s12', HT.sIx_none]
      omega
    have l2 : 0 < ms.length → 12 < ns.length := by
      rw [em, List.length_take, List.length_drop, s12, s63]
      omega
    have n2' : H L2 = none := f1.fre _ n2
    have nL : L3 ≠ L2 := fun z => by rw [z, t2] at n3; cases n3
    refine ⟨_, _, rfl, SqL.of t3, forJ (walk_enL (xs := ms.map V.int)) (fun j σ' H' => ∃ (o2 o3 : Option V) (cs : List Int), σ' = [some (.ref a), some (.ref L2), o2, o3] ∧ Fm [L2] H3 H' ∧ H' L2 = some (.lst (cs.map V.int)) ∧ cs.length = min 12 ns.length) ⟨_, _, cs, rfl, Fm.refl, t2', l1⟩ ?_ ?_ ?_⟩
    · rintro j σ' H' _ ⟨_, _, _, _, fm, _⟩
      exact SqL.of (fm.oth _ _ (by simp; exact nL) t3)
    · rintro j x σ' H4 H5 hj ⟨o2, o3, cs, rfl, fm, hL, lc⟩ ⟨T1, y, rfl, hy, f5, hT1⟩
      rw [List.getElem?_map] at hy
      obtain ⟨v, hv, rfl⟩ := Option.map_eq_some_iff.mp hy
      have lms := (List.getElem?_eq_some_iff.mp hv).1
      have l12 : cs.length = 12 := by have := l2 (by omega); omega
      have hL5 := f5.oth _ _ (fun z => nomatch z) hL
      have jm : ((j : Nat) : Int) % 12 = ((j % 12 : Nat) : Int) := by omega
      have lt : j % 12 < cs.length := by omega
      refine rGTup hT1 rfl ?_
      walk_at "rd"
      refine rIxLi (SqL.of hL5) (by omega) (v := .int (cs[j % 12])) (by rw [List.getElem?_map, jm, Int.toNat_natCast, List.getElem?_eq_getElem lt]; rfl) ?_
      walk_at "rd"
      refine rGSub ?_
      walk_at "rd"
      refine ⟨L2, cs.map V.int, _, j % 12, rfl, rfl, hL5, ?_, ?_⟩
      · rw [jm]
        unfold ixN
        rw [if_pos (by omega), if_pos (by rw [List.length_map]; omega), Int.toNat_natCast]
      · refine ⟨_, _, cs.set (j % 12) (cs[j % 12] + v), rfl, (fm.trans f5.up).trans (Fm.wr (by simp) hL5 (fun _ z => nomatch z)), ?_, by rw [List.length_set]; exact lc⟩
        rw [upd_same, List.map_set]
    · rintro σ' H4 ⟨o2, o3, cs, rfl, fm, hL, lc⟩
      walk_at "rd"
      refine rNewL (ok100 rfl) fun pn H5 n5 f5 t5 => ?_
      have F4 : Fm [] H H4 := ((F2.trans f3).up.trans fm).d1 n2'
      exact k pn L2 H5 (F4.trans f5) ⟨cs, 0, 0, t5, f5.oth _ _ (fun z => nomatch z) hL, Int.le_refl _, Int.le_refl _, by omega⟩ (F4.fre _ n5) n2'
/-! ### draw_project -/
def spProject : Sp := fun vs H Q _ => ∃ (pn cl : Addr) (n many : Nat) (lm wd : Int), vs = [.ref pn, .int (many : Nat), .int lm, .int wd] ∧ Pen H pn cl n ∧ n ≤ 50000 ∧ 1 ≤ many ∧ many ≤ 4 ∧ 1 ≤ lm ∧ lm ≤ 19 ∧ 1 ≤ wd ∧ wd ≤ 19 ∧
  ∀ (q ts ar : Addr) (tv av : List V) (tasks arrows : List (Int × Int)) (H' : Hp), Fm [pn] H H' → Pen H' pn cl (n + 100) → H' q = some (.tup [.ref ts, .ref ar]) → H' ts = some (.tup tv) → Rows H' tv (tasks.map rowT) → H' ar = some (.tup av) → Rows H' av (arrows.map rowT) →
    tasks.length = many → (∀ t ∈ tasks, 1 ≤ t.1 ∧ t.1 ≤ t.2 ∧ t.2 ≤ 20) → (∀ p ∈ arrows, 0 ≤ p.1 ∧ p.1 < p.2 ∧ p.2 < (many : Int)) → arrows.length ≤ 16 → Q (.ref q) H'
abbrev N_l_draw_project : List Str := ["_law_pen", "_law_many", "_law_low_most", "_law_wide", "_law_tasks", "_law_i", "_law_low", "_law_more", "_law_arrows", "_law_j"]
theorem sc_l_draw_project : FnScope N_l_draw_project ["_law_pen", "_law_many", "_law_low_most", "_law_wide"] (defScope s_l_draw_project) := ⟨rfl, rfl, rfl, by decide +kernel, rfl, by decide +kernel, by decide +kernel⟩
-- slots: 0 _law_pen, 1 _law_many, 2 _law_low_most, 3 _law_wide, 4 _law_tasks, 5 _law_i, 6 _law_low, 7 _law_more, 8 _law_arrows, 9 _law_j
theorem ok_draw_project (F : FD K "_law_draw_project" "_law_draw_project" s_l_draw_project f fd) (Z : Fr0 mg) (k_l_take : Cal P w K mg base "_law_take" ["_law_pen", "_law_amount"] 2 spTake) (k_l_one_of : Cal P w K mg base "_law_one_of" ["_law_pen", "_law_some"] 3 spOneOf) :
    FnOk P w K mg base CX0 4 f fd ["_law_pen", "_law_many", "_law_low_most", "_law_wide"] spProject := by
  refine F.ok sc_l_draw_project (fun vs H Q E h => ?_) (fun cdv A0 outer s H vs Q E hr h => ?_)
  · obtain ⟨_, _, _, _, _, _, rfl, _⟩ := h
    rfl
  · obtain ⟨pn, cl, n, many, lm, wd, rfl, pe, n1, m1, m4, l1, l2, w1, w2, k⟩ := h
    have hu := hu_of hr
    have nd := sc_l_draw_project.nd
    refine ⟨_, PSs.nox (pss_cons (ps_set (i := 4) nd rfl (by first | exact Or.inl rfl | exact Or.inr rfl) (pe_lst pa_nil))
      (pss_cons (ps_for PassesOwn.never rfl (pi_range1 (by rfl) Z.range (pa_cons (pv 1) pa_nil)) (pg_name (i := 5) nd rfl (by first | exact Or.inl rfl | exact Or.inr rfl))
        (pss_cons (ps_set (i := 6) nd rfl (by first | exact Or.inl rfl | exact Or.inr rfl) (pe_op op_add pe_int (pe_cal k_l_take (hr.mono (by decide)) (by rfl) (pa_cons (pv 0) (pa_cons (pv 2) pa_nil)))))
        (pss_cons (ps_set (i := 7) nd rfl (by first | exact Or.inl rfl | exact Or.inr rfl) (pe_cal k_l_one_of (hr.mono (by decide)) (by rfl) (pa_cons (pv 0) (pa_cons (pe_lst (pa_cons pe_int (pa_cons (pe_cal k_l_take (hr.mono (by decide)) (by rfl) (pa_cons (pv 0) (pa_cons (pe_op op_add (pv 3) pe_int) pa_nil))) (pa_cons (pe_cal k_l_take (hr.mono (by decide)) (by rfl) (pa_cons (pv 0) (pa_cons (pe_op op_add (pv 3) pe_int) pa_nil))) pa_nil)))) pa_nil))))
        (pss_one (ps_expr (pe_bm PySem.F.plainAttrs_list PySem.F.slot_list_append PySem.F.type_list_append mt_append (pv 4) (pa_cons (pe_tup (pa_cons (pv 6) (pa_cons (pe_callB (call_min2n rfl) (by rfl) Z.min (by decide +kernel) (pa_cons pe_int (pa_cons (pe_op op_add (pv 6) (pv 7)) pa_nil))) pa_nil))) pa_nil)))))))
      (pss_cons (ps_set (i := 8) nd rfl (by first | exact Or.inl rfl | exact Or.inr rfl) (pe_lst pa_nil))
      (pss_cons (ps_for PassesOwn.never rfl (pi_range1 (by rfl) Z.range (pa_cons (pv 1) pa_nil)) (pg_name (i := 5) nd rfl (by first | exact Or.inl rfl | exact Or.inr rfl))
        (pss_one (ps_set (i := 8) nd rfl (by first | exact Or.inl rfl | exact Or.inr rfl) (pe_op op_cat (pv 8) (pe_lc (own := [("_law_j", 9)]) (g := (gName 9)) (by rfl) nd (pi_range2 (by rfl) Z.range (pa_cons (pe_op op_add (pv 5) pe_int) (pa_cons (pv 1) pa_nil))) (blkOk_by (own := [("_law_j", 9)]) (N := N_l_draw_project) (sc := defScope s_l_draw_project) (by decide +kernel)) (fun _ _ _ _ _ => (pg_name (i := 9) nd rfl (by first | exact Or.inl rfl | exact Or.inr rfl))) (fun _ _ _ _ _ => (pts_one (pt_cmpR op_eq (pe_cal k_l_take (hr.mono (by decide)) (by rfl) (pa_cons (pv 0) (pa_cons pe_int pa_nil))) pe_int (nomark _)))) (fun _ _ _ _ _ => (pe_tup (pa_cons (pv 5) (pa_cons (pv 9) pa_nil)))))))))
      (pss_one (ps_ret (pe_tup (pa_cons (pe_callTy call_tupleN (by rfl) Z.tuple (by decide +kernel) (pa_cons (pv 4) pa_nil)) (pa_cons (pe_callTy call_tupleN (by rfl) Z.tuple (by decide +kernel) (pa_cons (pv 8) pa_nil)) pa_nil))))))))), ?_⟩
    walk_at "rd"
    refine rNewL (ok100 rfl) fun D H1 nD f1 t1 => ?_
    walk_at "rd"
    have ne0 : ∀ {X : Addr} {H0 : Hp}, Fm [] H H0 → H0 X = none → X ≠ pn ∧ X ≠ cl := fun {X H0} f h => ⟨fun z => pe.live.1 (by rw [← z]; exact f.fre _ h), fun z => pe.live.2 (by rw [← z]; exact f.fre _ h)⟩
    have nDp := ne0 Fm.refl nD
    refine ⟨_, rfl, by omega, by omega, forJ walk_r0 (fun i σ' H' => ∃ (o5 o6 o7 : Option V) (vs : List V) (tasks : List (Int × Int)), σ' = [some (.ref pn), some (.int (many : Nat)), some (.int lm), some (.int wd), some (.ref D), o5, o6, o7, none, none] ∧ Fm [D, pn] H1 H' ∧ Pen H' pn cl (n + 4 * i) ∧ H' D = some (.lst vs) ∧ Rows H' vs (tasks.map rowT) ∧
      tasks.length = i ∧ ∀ t ∈ tasks, 1 ≤ t.1 ∧ t.1 ≤ t.2 ∧ t.2 ≤ 20) ⟨_, _, _, [], [], rfl, Fm.refl, pe.f0 f1, t1, .nil, rfl, fun t h => nomatch h⟩ (fun _ _ _ _ _ => trivial) ?_ ?_⟩
    · rintro i x σ' H2 H2' hi ⟨o5, o6, o7, vs, tasks, rfl, f2, p2, hD, R2, lt, bd⟩ ⟨rfl, rfl⟩
      have hi : i < 4 := by omega
      walk_at "rd"
      refine ⟨pn, cl, _, lm, rfl, p2, by omega, l1, by omega, fun r H3 r0 r1 f3 p3 => ?_⟩
      walk_at "rd"
      refine ⟨pn, cl, _, wd + 1, rfl, p3, by omega, by omega, by omega, fun r' H4 r0' r1' f4 p4 => ?_⟩
      walk_at "rd"
      refine ⟨pn, cl, _, wd + 1, rfl, p4, by omega, by omega, by omega, fun r'' H5 r0'' r1'' f5 p5 => ?_⟩
      walk_at "rd"
      refine rNewL (ok100 rfl) fun L6 H6 n6 f6 t6 => ?_
      walk_at "rd"
      have p6 := p5.f0 f6
      have g6 : Fm [pn] H2' H6 := ((f3.trans f4).trans f5).trans f6.up
      have nL6 : L6 ≠ pn := fun z => p5.live.1 (by rw [← z]; exact n6)
      refine ⟨pn, cl, L6, _, _, rfl, p6, by omega, nL6, t6, Nat.le_of_ble_eq_true rfl, Nat.le_of_ble_eq_true rfl, fun v H7 hv f7 p7 => ?_⟩
      have hm : ∃ m : Int, v = .int m ∧ 0 ≤ m ∧ m ≤ 19 := by
        simp only [List.mem_cons, List.not_mem_nil, or_false] at hv
        rcases hv with rfl | rfl | rfl
        · exact ⟨0, rfl, by omega, by omega⟩
        · exact ⟨r', rfl, r0', by omega⟩
        · exact ⟨r'', rfl, r0'', by omega⟩
      obtain ⟨m, rfl, m0, m19⟩ := hm
      walk_at "rd"
      have g7 : Fm [pn] H2' H7 := g6.trans f7
      have hD7 := g7.oth _ _ (by simp; exact nDp.1) hD
      refine ⟨tyL hD7, ?_⟩
      walk_at "rd"
      refine rNewT (ok100 rfl) fun q8 H8 n8 f8 t8 => ?_
      walk_at "rd"
      have hD8 := f8.oth _ _ (fun z => nomatch z) hD7
      have lvs := R2.len
      rw [List.length_map] at lvs
      refine rAppL hD8 (line9l (by omega)) ?_
      have f9 : Fm [D] H8 (upd H8 D (.lst (vs ++ [.ref q8]))) := Fm.wr (by simp) hD8 (fun _ z => nomatch z)
      walk_at "rd"
      refine ⟨_, _, _, _, tasks ++ [(1 + r, min 20 (1 + r + m))], rfl, ((f2.trans (g7.mono fun b z => by simp at z ⊢; exact .inr z)).trans f8.up).trans (f9.mono fun b z => by simp at z ⊢; exact .inl z), (p7.f0 f8).fm f9 (by simp; exact nDp.1.symm) (by simp; exact nDp.2.symm) |>.up (by omega), upd_same, ?_, by rw [List.length_append]; simp; omega, fun t ht => ?_⟩
      · rw [List.map_append]
        exact (((R2.fm g7).fm f8).fm f9).app (Rows.one (f9.tup _ _ t8))
      · rcases List.mem_append.mp ht with ht | ht
        · exact bd t ht
        · rw [List.mem_singleton.mp ht]
          exact ⟨by show 1 ≤ 1 + r; omega, by show 1 + r ≤ min 20 (1 + r + m); omega, by show min 20 (1 + r + m) ≤ 20; omega⟩
    · rintro σ' H2 ⟨o5, o6, o7, vs, tasks, rfl, f2, p2, hD, R2, lt, bd⟩
      have lt' : tasks.length = many := by omega
      have F2 : Fm [pn] H H2 := (f1.up.trans f2).d1 nD
      walk_at "rd"
      refine rNewL (ok100 rfl) fun L3 H3 n3 f3 t3 => ?_
      walk_at "rd"
      have p3 : Pen H3 pn cl (n + 16) := (p2.f0 f3).up (by omega)
      have hD3 := f3.oth _ _ (fun z => nomatch z) hD
      have R3 := R2.fm f3
      refine ⟨_, rfl, by omega, by omega, forJ walk_r0 (fun i σ' H' => ∃ (o5 : Option V) (L : Addr) (vs : List V) (prs : List (Int × Int)), σ' = [some (.ref pn), some (.int (many : Nat)), some (.int lm), some (.int wd), some (.ref D), o5, o6, o7, some (.ref L), none] ∧ Fm [pn] H3 H' ∧ Pen H' pn cl (n + 16 + 4 * i) ∧ H' L = some (.lst vs) ∧ L ≠ pn ∧ Rows H' vs (prs.map rowT) ∧
        prs.length ≤ 4 * i ∧ ∀ p ∈ prs, 0 ≤ p.1 ∧ p.1 < p.2 ∧ p.2 < (many : Int)) ⟨_, _, [], [], rfl, Fm.refl, p3, t3, fun z => p2.live.1 (by rw [← z]; exact n3), .nil, Nat.zero_le _, fun p h => nomatch h⟩ (fun _ _ _ _ _ => trivial) ?_ ?_⟩
      · rintro i x σ' H4 H4' hi ⟨o5, L, vs', prs, rfl, f4, p4, hL, nL, R4, lp, bp⟩ ⟨rfl, rfl⟩
        have hi : i < many := by omega
        walk_at "rd"
        refine ⟨_, _, rfl, by omega, lcGen (S := [pn]) walk_range (by omega) (fun j acc H' => Fm [pn] H4' H' ∧ Pen H' pn cl (n + 16 + 4 * i + j) ∧ ∃ prs : List (Int × Int), Rows H' acc (prs.map rowT) ∧ prs.length ≤ j ∧ ∀ p ∈ prs, 0 ≤ p.1 ∧ p.1 < p.2 ∧ p.2 < (many : Int)) (fun b z => by rw [List.mem_singleton.mp z]; exact p4.live.1)
          (fun D' h => ⟨Fm.new h, p4.fm (Fm.new h : Fm [] _ _) (fun z => nomatch z) (fun z => nomatch z), [], .nil, Nat.zero_le _, fun p h => nomatch h⟩) (fun _ _ _ _ => trivial) ?_ ?_ ?_⟩
        · rintro D' j acc H5 ys zs h h5 ⟨f, p, prs, R, l, b⟩
          have nd' : D' ≠ pn ∧ D' ≠ cl := ⟨fun z => p4.live.1 (by rw [← z]; exact h), fun z => p4.live.2 (by rw [← z]; exact h)⟩
          have fw : Fm [D'] H5 (upd H5 D' (.lst zs)) := Fm.wr (by simp) h5 (fun _ z => nomatch z)
          exact ⟨((f.mono fun b z => List.mem_cons_of_mem _ z).trans (fw.mono fun b z => by simp at z ⊢; exact .inl z) : Fm (D' :: [pn]) _ _).d1 h, p.fm fw (by simp; exact nd'.1.symm) (by simp; exact nd'.2.symm), prs, R.fm fw, l, b⟩
        · rintro j x acc H5 H5' hj ⟨f5, p5, prs5, R5, l5, b5⟩ ⟨rfl, rfl⟩ K1 K0 k1 k0
          have hj' : (i : Int) + 1 + (j : Int) < many := by omega
          walk_at "rd"
          refine ⟨rfl, ?_⟩
          walk_at "rd"
          refine ⟨pn, cl, _, 4, rfl, p5, by omega, by decide, by decide, fun r H6 r0 r1 f6 p6 => ?_⟩
          walk_at "rd"
          have p6 := p6.up (m := n + 16 + 4 * i + (j + 1)) (by omega)
          by_cases rz : r = 0
          · refine ifDt rz ?_
            walk_at "rd"
            refine rNewT (ok100 rfl) fun q7 H7 n7 f7 t7 => k1 _ H7 (f6.trans f7.up) ⟨(f5.trans f6).trans f7.up, p6.f0 f7, prs5 ++ [((i : Int), (i : Int) + 1 + (j : Int))], ?_, by rw [List.length_append]; exact Nat.succ_le_succ l5, fun p hp => ?_⟩
            · rw [List.map_append]
              exact ((R5.fm f6).fm f7).app (Rows.one t7)
            · rcases List.mem_append.mp hp with hp | hp
              · exact b5 p hp
              · rw [List.mem_singleton.mp hp]
                exact ⟨by show 0 ≤ (i : Int); omega, by show (i : Int) < (i : Int) + 1 + (j : Int); omega, hj'⟩
          · refine ifDf rz ?_
            exact k0 H6 f6 ⟨f5.trans f6, p6, prs5, R5.fm f6, by omega, b5⟩
        · rintro D' acc H5 nD' f5 hD' ⟨_, p5, prs5, R5, l5, b5⟩ la
          have lvs' := R4.len
          rw [List.length_map] at lvs'
          refine rCatN (f5.oth _ _ (by simp; exact nL) hL) hD' (by omega) fun L6 H6 n6 f6 t6 => ?_
          walk_at "rd"
          refine ⟨_, L6, _, prs ++ prs5, rfl, (f4.trans f5).trans f6.up, (p5.f0 f6).up (by omega), t6, fun z => p5.live.1 (by rw [← z]; exact n6), ?_, by rw [List.length_append]; omega, fun p hp => ?_⟩
          · rw [List.map_append]
            exact ((R4.fm f5).fm f6).app (R5.fm f6)
          · rcases List.mem_append.mp hp with hp | hp
            · exact bp p hp
            · exact b5 p hp
      · rintro σ' H4 ⟨o5, L, vs', prs, rfl, f4, p4, hL, nL, R4, lp, bp⟩
        walk_at "rd"
        have hD4 := f4.oth _ _ (by simp; exact nDp.1) hD3
        refine rTupleOfL (SqL.of hD4) (rNewT0 fun q5 H5 n5 f5 t5 => ?_)
        walk_at "rd"
        refine rTupleOfL (SqL.of (f5.oth _ _ (fun z => nomatch z) hL)) (rNewT0 fun q6 H6 n6 f6 t6 => ?_)
        walk_at "rd"
        refine rNewT (ok100 rfl) fun q7 H7 n7 f7 t7 => ?_
        have g := (f5.trans f6).trans f7
        exact k q7 q5 q6 vs vs' tasks prs H7 ((F2.trans (f3.up.trans f4)).trans g.up) ((p4.f0 g).up (by omega)) t7 (f7.tup _ _ (f6.tup _ _ t5)) ((R3.fm f4).fm g) (f7.tup _ _ t6) (R4.fm g) lt' bd bp (by omega)
end
end A68
set_option maxRecDepth 100000
set_option maxHeartbeats 4000000
/-! The law's draw_nominal, draw_limits, draw_brief. -/
namespace A68
open PySem PySem.Spec PyProof.Rows L2 RZ
theorem rMaxI {K : PySem.W.Frag} {H : Hp} {Q : VK} {a : Addr} {ns : List Int} (h : SqL K H a (ns.map V.int)) (l : 0 < ns.length) (q : ∀ m, Q (.int m) H) : rMax K [.ref a] H Q := ⟨a, ns, rfl, h, l, fun m _ _ => q m⟩
theorem ints6 {xs : List Int} {v : V} (h : v ∈ xs.map V.int) : ∃ i : Int, v = .int i := by
  obtain ⟨i, _, rfl⟩ := List.mem_map.mp h
  exact ⟨i, rfl⟩
local macro_rules | `(tactic| walk_at "rd1") => `(tactic| first
  | ((with_reducible refine' rVar ?hx ?_); (case hx => rfl))
  | (with_reducible refine rC ?_)
  | (with_reducible refine rOp ?_)
  | (with_reducible refine rUn ?_)
  | (with_reducible refine rI0i ?_)
  | (with_reducible refine rUi ?_)
  | ((with_reducible refine rMulL ?a ?b ?_); (case a => decide); (case b => decide))
  | ((with_reducible refine rMulR ?a ?b ?_); (case a => decide); (case b => decide))
  | ((with_reducible refine rModP ?a ?_); (case a => decide))
  | ((with_reducible refine rDivP ?a ?b ?_); (case a => decide); (case b => decide))
  | ((with_reducible refine rPowL ?a ?b ?c ?_); (case a => decide); (case b => decide); (case c => decide))
  | (with_reducible refine rEqI ?_)
  | (with_reducible refine rNeI ?_)
  | (with_reducible refine rIsNi ?_)
  | (with_reducible refine rIsNn ?_)
  | (with_reducible refine rIsNr ?_)
  | (with_reducible refine rNotNi ?_)
  | (with_reducible refine rNotNn ?_)
  | (with_reducible refine rNotNr ?_)
  | (with_reducible refine rTest ?_)
  | (with_reducible refine rTB ?_)
  | (with_reducible refine rBlV ?_)
  | (with_reducible refine rAnd ?_)
  | (with_reducible refine rOr ?_)
  | (with_reducible refine rNot ?_)
  | (with_reducible refine rAndV ?_)
  | (with_reducible refine rOrV ?_)
  | (with_reducible refine rNotV ?_)
  | (with_reducible refine rIf ?_)
  | (with_reducible refine rNil ?_)
  | (with_reducible refine rCons ?_)
  | (with_reducible refine rTup ?_)
  | (with_reducible refine rLst ?_)
  | (with_reducible refine rCB ?_)
  | (with_reducible refine rCall ?_)
  | (with_reducible refine rBM ?_)
  | (with_reducible refine rMin2i ?_)
  | (with_reducible refine rMax2i ?_)
  | (with_reducible refine rInt1i ?_)
  | (with_reducible refine rPartN ?_)
  | (with_reducible refine rPart ?_)
  | (with_reducible refine rInt ?_)
  | (with_reducible refine rSlS ?_)
  | (with_reducible refine rSFld ?_)
  | (with_reducible refine rSDPut ?_)
  | (with_reducible refine rDGet ?_)
  | (with_reducible refine rDIn ?_)
  | (with_reducible refine rDNotIn ?_)
  | (with_reducible refine rSeq ?_)
  | (with_reducible refine rAsg ?_)
  | (with_reducible refine rName ?_)
  | (with_reducible refine rDrop ?_)
  | (with_reducible refine rRet ?_)
  | (with_reducible refine rIfS ?_)
  | (with_reducible refine rNext ?_)
  | (with_reducible refine rPar ?_)
  | (with_reducible refine rPar2 ?_)
  | (with_reducible refine rMeth ?_)
  | (with_reducible refine rGCons ?_)
  | (with_reducible refine rGNil ?_)
  | (with_reducible refine rForS ?_)
  | (with_reducible refine rLcS ?_)
  | (with_reducible refine rIL ?_)
  | (with_reducible refine rIT ?_)
  | (with_reducible refine rIE ?_)
  | (with_reducible refine rYes ?_)
  | (with_reducible refine rPar3 ?_)
  | (with_reducible refine rPar3v ?_)
  | (with_reducible refine rLstRg ?_)
  | (with_reducible refine rRg1 ?_)
  | (with_reducible refine rIK ?_)
  | (with_reducible refine rIsNs ?_)
  | (with_reducible refine rNeB ?_)
  | (with_reducible refine rIZ ?_)
  | (with_reducible refine rChain ?_)
  | (with_reducible refine rDc2 ?_)
  | (with_reducible refine rDcS ?_)
  | (with_reducible refine rIR3 ?_)
  | (with_reducible refine rMake ?_)
  | (with_reducible refine rIR1 ?_)
  | (with_reducible refine rIR2 ?_)
  | (with_reducible refine rIET ?_)
  | (with_reducible refine ifSn ?_)
  | (with_reducible refine ifNn ?_)
  | (with_reducible refine ifSs ?_)
  | (with_reducible refine ifNs ?_)
  | (with_reducible refine rNotNfs ?_)
  | (with_reducible refine rNotNfn ?_)
  | (with_reducible refine rIsNfs ?_)
  | (with_reducible refine rIsNfn ?_)
  | (with_reducible refine ifT ?_)
  | (with_reducible refine ifF ?_)
  | (with_reducible refine ifNT ?_)
  | (with_reducible refine ifNF ?_))
local macro_rules | `(tactic| walk_at "rd") => `(tactic| (repeat walk_at "rd1"))
def spNominal : Sp := fun vs H Q _ => ∃ (pn cl pj ts ar : Addr) (n : Nat) (tv av : List V) (tasks arrows : List (Int × Int)), vs = [.ref pn, .ref pj] ∧ Pen H pn cl n ∧ n ≤ 60000 ∧ H pj = some (.tup [.ref ts, .ref ar]) ∧ H ts = some (.tup tv) ∧ Rows H tv (tasks.map rowT) ∧ H ar = some (.tup av) ∧ Rows H av (arrows.map rowT) ∧
  tasks.length ≤ 4 ∧ (∀ t ∈ tasks, 1 ≤ t.1 ∧ t.1 ≤ t.2 ∧ t.2 ≤ 20) ∧ (∀ p ∈ arrows, 0 ≤ p.1 ∧ p.1 < p.2 ∧ p.2 < (tasks.length : Int)) ∧ arrows.length ≤ 16 ∧
  ∀ (q : Addr) (ms : List Int) (H' : Hp), Fm [pn] H H' → Pen H' pn cl (n + 20) → H' q = some (.lst (ms.map V.int)) → q ≠ pn → ms.length = 2 * tasks.length + 1 → Q (.ref q) H'
section
variable {P : Program} {w : World} {K : PySem.W.Frag} {mg : Str → Option Value} {base : Heap} {f : Addr} {fd : FuncData}
abbrev N_l_draw_nominal : List Str := ["_law_pen", "_law_project", "_law_found", "_law_j", "_law_times", "_law_ends", "_law_begin", "_law_i", "_law_other"]
theorem sc_l_draw_nominal : FnScope N_l_draw_nominal ["_law_pen", "_law_project"] (defScope s_l_draw_nominal) := ⟨rfl, rfl, rfl, by decide +kernel, rfl, by decide +kernel, by decide +kernel⟩
-- slots: 0 _law_pen, 1 _law_project, 2 _law_found, 3 _law_j, 4 _law_times, 5 _law_ends, 6 _law_begin, 7 _law_i, 8 _law_other
theorem ok_draw_nominal (F : FD K "_law_draw_nominal" "_law_draw_nominal" s_l_draw_nominal f fd) (Z : Fr0 mg) (k_l_take : Cal P w K mg base "_law_take" ["_law_pen", "_law_amount"] 2 spTake) (k_l_one_of : Cal P w K mg base "_law_one_of" ["_law_pen", "_law_some"] 3 spOneOf) :
    FnOk P w K mg base CX0 4 f fd ["_law_pen", "_law_project"] spNominal := by
  refine F.ok sc_l_draw_nominal (fun vs H Q E h => ?_) (fun cdv A0 outer s H vs Q E hr h => ?_)
  · obtain ⟨_, _, _, _, _, _, _, _, _, _, rfl, _⟩ := h
    rfl
  · obtain ⟨pn, cl, pj, ts, ar, n, tv, av, tasks, arrows, rfl, pe, n1, hpj, hts, rt, har, ra, lt, bt, ba, la, k⟩ := h
    have hu := hu_of hr
    have nd := sc_l_draw_nominal.nd
    refine ⟨_, PSs.nox (pss_cons (ps_set (i := 2) nd rfl (by first | exact Or.inl rfl | exact Or.inr rfl) (pe_lst (pa_cons pe_int pa_nil)))
      (pss_cons (ps_for PassesOwn.never rfl (pi_enumT (by rfl) Z.enumerate (pa_cons (pe_ix ix_tup (pv 1) pe_int (fun _ _ => rfl)) pa_nil)) (pg_tup rfl (pgs_cons (pg_name (i := 3) nd rfl (by first | exact Or.inl rfl | exact Or.inr rfl)) (pgs_cons (pg_name (i := 4) nd rfl (by first | exact Or.inl rfl | exact Or.inr rfl)) pgs_nil)))
        (pss_cons (ps_setLc (i := 5) (own := [("_law_i", 7), ("_law_other", 8)]) (g := (gTup K 2 (gCons (gName 7) (gCons (gName 8) gNil)))) (te := (tOp (rIxL K) _ _)) (by rfl) nd rfl rfl (sw_true rfl rfl rfl (by decide +kernel)) (pi_tup (pe_ix ix_tup (pv 1) pe_int (fun _ _ => rfl))) (blkOk_by (own := [("_law_i", 7), ("_law_other", 8)]) (N := N_l_draw_nominal) (sc := defScope s_l_draw_nominal) (by decide +kernel)) (fun _ _ _ _ _ => (pg_tup rfl (pgs_cons (pg_name (i := 7) nd rfl (by first | exact Or.inl rfl | exact Or.inr rfl)) (pgs_cons (pg_name (i := 8) nd rfl (by first | exact Or.inl rfl | exact Or.inr rfl)) pgs_nil)))) (fun _ _ _ _ _ => (pts_one (pt_cmpR op_eq (pv 8) (pv 3) (nomark _)))) (fun _ _ _ _ _ => (pe_ix ix_list (pv 2) (pe_op op_add (pe_op op_mul pe_int (pv 7)) pe_int) (fun _ _ => rfl))))
        (pss_cons (ps_set (i := 6) nd rfl (by first | exact Or.inl rfl | exact Or.inr rfl) (pe_op op_add (pe_callB (cr_max rfl) (by rfl) Z.max (by decide +kernel) (pa_cons (pe_op op_cat (pe_lst (pa_cons pe_int pa_nil)) (pv 5)) pa_nil)) (pe_cal k_l_one_of (hr.mono (by decide)) (by rfl) (pa_cons (pv 0) (pa_cons (pe_lst (pa_cons pe_int (pa_cons pe_int (pa_cons pe_int (pa_cons pe_int (pa_cons pe_int (pa_cons pe_int pa_nil))))))) pa_nil)))))
        (pss_one (ps_set (i := 2) nd rfl (by first | exact Or.inl rfl | exact Or.inr rfl) (pe_op op_cat (pv 2) (pe_lst (pa_cons (pv 6) (pa_cons (pe_op op_add (pe_op op_add (pv 6) (pe_ix ix_tup (pv 4) pe_int (fun _ _ => rfl))) (pe_cal k_l_take (hr.mono (by decide)) (by rfl) (pa_cons (pv 0) (pa_cons (pe_op op_add (pe_op op_sub (pe_ix ix_tup (pv 4) pe_int (fun _ _ => rfl)) (pe_ix ix_tup (pv 4) pe_int (fun _ _ => rfl))) pe_int) pa_nil)))) pa_nil)))))))))
      (pss_one (ps_ret (pv 2))))), ?_⟩
    have ltv := rt.len
    have lav := ra.len
    rw [List.length_map] at ltv lav
    walk_at "rd"
    refine rNewL (ok100 rfl) fun D H1 nD f1 t1 => ?_
    walk_at "rd"
    have nDp : D ≠ pn := fun z => pe.live.1 (by rw [← z]; exact nD)
    refine rIxTl (f1.tup _ _ hpj) rfl ?_
    walk_at "rd"
    refine ⟨_, _, rfl, SqT.of (f1.tup _ _ hts), forJ (walk_enT (xs := tv)) (fun j σ' H' => ∃ (o3 o4 o5 o6 : Option V) (L : Addr) (ms : List Int), σ' = [some (.ref pn), some (.ref pj), some (.ref L), o3, o4, o5, o6, none, none] ∧ Fm [pn] H1 H' ∧ Pen H' pn cl (n + 2 * j) ∧ H' L = some (.lst (ms.map V.int)) ∧ L ≠ pn ∧ ms.length = 2 * j + 1)
      ⟨_, _, _, _, _, [0], rfl, Fm.refl, pe.f0 f1, t1, nDp, rfl⟩ ?_ ?_ ?_⟩
    · rintro j σ' H' _ ⟨_, _, _, _, _, _, _, fm, _⟩
      exact SqT.of (fm.tup _ _ (f1.tup _ _ hts))
    · rintro j x σ' H2 H3 hj ⟨o3, o4, o5, o6, L, ms, rfl, f2, p2, hL, nL, lm⟩ ⟨T1, y, rfl, hy, f3, hT1⟩
      obtain ⟨a, r, rfl, hr1, hr2⟩ := rt.of_get hy
      rw [List.getElem?_map] at hr1
      obtain ⟨t, ht, rfl⟩ := Option.map_eq_some_iff.mp hr1
      have bt' := bt t (List.mem_of_getElem? ht)
      have F2 : Fm [pn] H H2 := f1.up.trans f2
      have F3 : Fm [pn] H H3 := F2.trans f3.up
      have hL3 := f3.oth _ _ (fun z => nomatch z) hL
      have p3 := p2.f0 f3
      have ha3 : H3 a = some (.tup [.int t.1, .int t.2]) := F3.tup _ _ hr2
      refine rGTup hT1 rfl ?_
      walk_at "rd"
      refine rIxTl (F3.tup _ _ hpj) rfl ?_
      walk_at "rd"
      refine ⟨_, rfl, ⟨_, SqT.of (F3.tup _ _ har)⟩, lcGen (S := []) (walk_tup (xs := av)) (by omega) (fun i acc H' => Fm [] H3 H' ∧ ∃ es : List Int, acc = es.map V.int) (fun b z => nomatch z) (fun D' h => ⟨Fm.new h, [], rfl⟩) ?_ ?_ ?_ ?_⟩
      · rintro i acc H' ⟨fm, _⟩
        exact SqT.of (fm.tup _ _ (F3.tup _ _ har))
      · rintro D' i acc H5 ys zs h h5 ⟨fm, e⟩
        exact ⟨(fm.up.trans (Fm.wr (by simp) h5 (fun _ z => nomatch z)) : Fm (D' :: []) _ _).d1 h, e⟩
      · rintro i x acc H4 H4' hi ⟨f4, es, rfl⟩ ⟨rfl, hx⟩ K1 K0 k1 k0
        obtain ⟨a2, r2, rfl, hr3, hr4⟩ := ra.of_get hx
        rw [List.getElem?_map] at hr3
        obtain ⟨p, hp, rfl⟩ := Option.map_eq_some_iff.mp hr3
        have bp := ba p (List.mem_of_getElem? hp)
        refine rGTup (xs := [.int p.1, .int p.2]) (f4.tup _ _ (F3.tup _ _ hr4)) rfl ?_
        walk_at "rd"
        refine ⟨rfl, ?_⟩
        walk_at "rd"
        by_cases z : p.2 = (j : Int)
        · refine ifDt z ?_
          walk_at "rd"
          have li : (2 * p.1 + 2).toNat < ms.length := by omega
          refine rIxLi (SqL.of (f4.oth _ _ (fun z => nomatch z) hL3)) (by omega) (v := .int (ms[(2 * p.1 + 2).toNat])) (by rw [List.getElem?_map, List.getElem?_eq_getElem li]; rfl) ?_
          refine k1 _ _ Fm.refl ⟨f4, es ++ [_], by rw [List.map_append]; rfl⟩
        · refine ifDf z ?_
          exact k0 _ Fm.refl ⟨f4, es, rfl⟩
      · rintro E1 acc H4 nE f4 hE ⟨_, es, rfl⟩ le
        rw [List.length_map] at le
        walk_at "rd"
        refine rNewL (ok100 rfl) fun L5 H5 n5 f5 t5 => ?_
        walk_at "rd"
        refine rCatN t5 (f5.oth _ _ (fun z => nomatch z) hE) (by show 1 + _ ≤ _; rw [List.length_map]; omega) fun L6 H6 n6 f6 t6 => ?_
        walk_at "rd"
        refine rMaxI (ns := 0 :: es) (SqL.of t6) (Nat.succ_pos _) fun mx => ?_
        walk_at "rd"
        refine rNewL (ok100 rfl) fun L7 H7 n7 f7 t7 => ?_
        walk_at "rd"
        have g7 := ((f4.trans f5).trans f6).trans f7
        have p7 := p3.f0 g7
        have nL7 : L7 ≠ pn := fun z => p3.live.1 (by rw [← z]; exact ((f4.trans f5).trans f6).fre _ n7)
        refine ⟨pn, cl, L7, _, _, rfl, p7, by omega, nL7, t7, by decide, by decide, fun v H8 hv f8 p8 => ?_⟩
        obtain ⟨bv, rfl⟩ := ints6 (xs := [0, 0, 0, 1, 2, 5]) hv
        walk_at "rd"
        have ha8 := f8.tup _ _ (g7.tup _ _ ha3)
        refine rIxTl ha8 rfl ?_
        walk_at "rd"
        refine rIxTl ha8 rfl ?_
        walk_at "rd"
        refine rIxTl ha8 rfl ?_
        walk_at "rd"
        refine ⟨pn, cl, _, _, rfl, p8, by omega, by omega, by omega, fun r H9 r0 r1 f9 p9 => ?_⟩
        walk_at "rd"
        refine rNewL (ok100 rfl) fun L10 H10 n10 f10 t10 => ?_
        have g10 : Fm [pn] H3 H10 := (((g7.up).trans f8).trans f9).trans f10.up
        refine rCatN (g10.oth _ _ (by simp; exact nL) hL3) t10 (by rw [List.length_map]; show _ + 2 ≤ _; omega) fun L11 H11 n11 f11 t11 => ?_
        walk_at "rd"
        refine ⟨_, _, _, _, L11, ms ++ [mx + bv, mx + bv + t.1 + r], rfl, ((f2.trans f3.up).trans g10).trans f11.up, (p9.f0 (f10.trans f11)).up (by omega), by rw [List.map_append]; exact t11, fun z => (p9.f0 f10).live.1 (by rw [← z]; exact n11), by rw [List.length_append]; show _ + 2 = _; omega⟩
    · rintro σ' H2 ⟨o3, o4, o5, o6, L, ms, rfl, f2, p2, hL, nL, lm⟩
      walk_at "rd"
      exact k L ms H2 (f1.up.trans f2) (p2.up (by omega)) hL nL (by omega)
def spLimits (B0 : Nat) : Sp := fun vs H Q _ => ∃ (pn cl mo lo : Addr) (n most : Nat) (ms ls : List Int), vs = [.ref pn, .ref mo, .int (most : Nat), .ref lo] ∧ Pen H pn cl n ∧ n ≤ 70000 ∧ most ≤ 20 ∧ H mo = some (.lst (ms.map V.int)) ∧ mo ≠ pn ∧ ms.length = 2 * B0 + 1 ∧ 1 ≤ B0 ∧ B0 ≤ 4 ∧ H lo = some (.lst (ls.map V.int)) ∧ lo ≠ pn ∧ 1 ≤ ls.length ∧ ls.length ≤ 100 ∧
  ∀ (q : Addr) (lv : List V) (lims : List (Int × Int × Int)) (H' : Hp), Fm [pn] H H' → Pen H' pn cl (n + 200) → H' q = some (.tup lv) → Rows H' lv (lims.map rowL) → lims.length ≤ 60 →
    (∀ t ∈ lims, (0 ≤ t.1 ∧ t.1 ≤ 2 * (B0 : Int)) ∧ (0 ≤ t.2.1 ∧ t.2.1 ≤ 2 * (B0 : Int)) ∧ t.1 ≠ t.2.1 ∧ -60 ≤ t.2.2 ∧ t.2.2 ≤ 60) → Q (.ref q) H'
theorem Rows.take {H : Hp} : ∀ (k : Nat) {vs : List V} {rs : List (List V)}, Rows H vs rs → Rows H (vs.take k) (rs.take k)
  | 0, _, _, _ => .nil
  | _ + 1, _, _, .nil => .nil
  | k + 1, _, _, .cons h t => .cons h (Rows.take k t)
abbrev N_l_draw_limits : List Str := ["_law_pen", "_law_moments", "_law_most", "_law_loose", "_law_found", "_law_events", "_law_again", "_law_a", "_law_b", "_law_gap", "_law_one", "_law_other", "_law_event"]
theorem sc_l_draw_limits : FnScope N_l_draw_limits ["_law_pen", "_law_moments", "_law_most", "_law_loose"] (defScope s_l_draw_limits) := ⟨rfl, rfl, rfl, by decide +kernel, rfl, by decide +kernel, by decide +kernel⟩
-- slots: 0 _law_pen, 1 _law_moments, 2 _law_most, 3 _law_loose, 4 _law_found, 5 _law_events, 6 _law_again, 7 _law_a, 8 _law_b, 9 _law_gap, 10 _law_one, 11 _law_other, 12 _law_event
theorem ok_draw_limits (B0 : Nat) (F : FD K "_law_draw_limits" "_law_draw_limits" s_l_draw_limits f fd) (Z : Fr0 mg) (k_l_take : Cal P w K mg base "_law_take" ["_law_pen", "_law_amount"] 2 spTake) (k_l_one_of : Cal P w K mg base "_law_one_of" ["_law_pen", "_law_some"] 3 spOneOf) :
    FnOk P w K mg base CX0 4 f fd ["_law_pen", "_law_moments", "_law_most", "_law_loose"] (spLimits B0) := by
  refine F.ok sc_l_draw_limits (fun vs H Q E h => ?_) (fun cdv A0 outer s H vs Q E hr h => ?_)
  · obtain ⟨_, _, _, _, _, _, _, _, rfl, _⟩ := h
    rfl
  · obtain ⟨pn, cl, mo, lo, n, most, ms, ls, rfl, pe, n1, m20, hmo, nmo, lms, b1, b4, hlo, nlo, ll1, ll2, k⟩ := h
    have hu := hu_of hr
    have nd := sc_l_draw_limits.nd
    refine ⟨_, PSs.nox (pss_cons (ps_par (i := 4) (j := 5) (by rfl) nd rfl rfl (by decide) rfl rfl (pa_cons (pe_lst pa_nil) (pa_cons (pe_callB call_lenS (by rfl) Z.len (by decide +kernel) (pa_cons (pv 1) pa_nil)) pa_nil)) (by rfl))
      (pss_cons (ps_for PassesOwn.never rfl (pi_range1 (by rfl) Z.range (pa_cons (pe_cal k_l_take (hr.mono (by decide)) (by rfl) (pa_cons (pv 0) (pa_cons (pe_op op_add (pv 2) pe_int) pa_nil))) pa_nil)) (pg_name (i := 6) nd rfl (by first | exact Or.inl rfl | exact Or.inr rfl))
        (pss_cons (ps_set (i := 7) nd rfl (by first | exact Or.inl rfl | exact Or.inr rfl) (pe_cal k_l_take (hr.mono (by decide)) (by rfl) (pa_cons (pv 0) (pa_cons (pv 5) pa_nil))))
        (pss_cons (ps_set (i := 8) nd rfl (by first | exact Or.inl rfl | exact Or.inr rfl) (pe_cal k_l_one_of (hr.mono (by decide)) (by rfl) (pa_cons (pv 0) (pa_cons (pe_lc (own := [("_law_event", 12)]) (g := (gName 12)) (by rfl) nd (pi_range1 (by rfl) Z.range (pa_cons (pv 5) pa_nil)) (blkOk_by (own := [("_law_event", 12)]) (N := N_l_draw_limits) (sc := defScope s_l_draw_limits) (by decide +kernel)) (fun _ _ _ _ _ => (pg_name (i := 12) nd rfl (by first | exact Or.inl rfl | exact Or.inr rfl))) (fun _ _ _ _ _ => (pts_one (pt_cmpR op_ne (pv 12) (pv 7) (nomark _)))) (fun _ _ _ _ _ => (pv 12))) pa_nil))))
        (pss_cons (ps_set (i := 9) nd rfl (by first | exact Or.inl rfl | exact Or.inr rfl) (pe_op op_sub (pe_ix ix_list (pv 1) (pv 8) (fun _ _ => rfl)) (pe_ix ix_list (pv 1) (pv 7) (fun _ _ => rfl))))
        (pss_cons (ps_par (i := 10) (j := 11) (by rfl) nd rfl rfl (by decide) rfl rfl (pa_cons (pe_cal k_l_one_of (hr.mono (by decide)) (by rfl) (pa_cons (pv 0) (pa_cons (pv 3) pa_nil))) (pa_cons (pe_cal k_l_one_of (hr.mono (by decide)) (by rfl) (pa_cons (pv 0) (pa_cons (pv 3) pa_nil))) pa_nil)) (by rfl))
        (pss_cons (ps_expr (pe_bm PySem.F.plainAttrs_list PySem.F.slot_list_append PySem.F.type_list_append mt_append (pv 4) (pa_cons (pe_tup (pa_cons (pv 7) (pa_cons (pv 8) (pa_cons (pe_callB (call_max2n rfl) (by rfl) Z.max (by decide +kernel) (pa_cons (pe_un un_neg pe_int) (pa_cons (pe_callB (call_min2n rfl) (by rfl) Z.min (by decide +kernel) (pa_cons pe_int (pa_cons (pe_op op_add (pv 9) (pv 10)) pa_nil))) pa_nil))) pa_nil)))) pa_nil)))
        (pss_one (ps_if (pt_cmpR op_eq (pe_cal k_l_take (hr.mono (by decide)) (by rfl) (pa_cons (pv 0) (pa_cons pe_int pa_nil))) pe_int (nomark _)) (pss_one (ps_expr (pe_bm PySem.F.plainAttrs_list PySem.F.slot_list_append PySem.F.type_list_append mt_append (pv 4) (pa_cons (pe_tup (pa_cons (pv 8) (pa_cons (pv 7) (pa_cons (pe_callB (call_max2n rfl) (by rfl) Z.max (by decide +kernel) (pa_cons (pe_un un_neg pe_int) (pa_cons (pe_callB (call_min2n rfl) (by rfl) Z.min (by decide +kernel) (pa_cons pe_int (pa_cons (pe_op op_sub (pv 11) (pv 9)) pa_nil))) pa_nil))) pa_nil)))) pa_nil)))) pss_nil))))))))
      (pss_one (ps_ret (pe_callTy call_tupleN (by rfl) Z.tuple (by decide +kernel) (pa_cons (pe_slice sl_list (pv 4) po_none (po_some (pv 2))) pa_nil)))))), ?_⟩
    walk_at "rd"
    refine rNewL (ok100 rfl) fun D H1 nD f1 t1 => ?_
    walk_at "rd"
    have nDp : D ≠ pn ∧ D ≠ cl := ⟨fun z => pe.live.1 (by rw [← z]; exact nD), fun z => pe.live.2 (by rw [← z]; exact nD)⟩
    have nDm : mo ≠ D := fun z => by rw [z, nD] at hmo; cases hmo
    have nDl : lo ≠ D := fun z => by rw [z, nD] at hlo; cases hlo
    refine rLenL (SqL.of (f1.oth _ _ (fun z => nomatch z) hmo)) ?_
    walk_at "rd"
    rw [List.length_map]
    refine ⟨pn, cl, _, _, rfl, pe.f0 f1, by omega, by omega, by omega, fun r H2 r0 r1 f2 p2 => ?_⟩
    walk_at "rd"
    have hmo2 : H2 mo = _ := f2.oth _ _ (by simp; exact nmo) (f1.oth _ _ (fun z => nomatch z) hmo)
    have hlo2 : H2 lo = _ := f2.oth _ _ (by simp; exact nlo) (f1.oth _ _ (fun z => nomatch z) hlo)
    have hD2 := f2.oth _ _ (by simp; exact nDp.1) t1
    have g2 : Fm [D, pn] H H2 := f1.up.trans (f2.mono fun b z => by simp at z ⊢; exact .inr z)
    have lev : ((ms.length : Nat) : Int) = 2 * (B0 : Int) + 1 := by omega
    refine ⟨_, rfl, by omega, by omega, forJ walk_r0 (fun i σ' H' => ∃ (o6 o7 o8 o9 o10 o11 : Option V) (vs : List V) (lims : List (Int × Int × Int)), σ' = [some (.ref pn), some (.ref mo), some (.int (most : Nat)), some (.ref lo), some (.ref D), some (.int ((ms.length : Nat) : Int)), o6, o7, o8, o9, o10, o11, none] ∧ Fm [D, pn] H2 H' ∧ Pen H' pn cl (n + 1 + 6 * i) ∧
      H' D = some (.lst vs) ∧ Rows H' vs (lims.map rowL) ∧ lims.length ≤ 2 * i ∧ ∀ t ∈ lims, (0 ≤ t.1 ∧ t.1 ≤ 2 * (B0 : Int)) ∧ (0 ≤ t.2.1 ∧ t.2.1 ≤ 2 * (B0 : Int)) ∧ t.1 ≠ t.2.1 ∧ -60 ≤ t.2.2 ∧ t.2.2 ≤ 60)
      ⟨_, _, _, _, _, _, [], [], rfl, Fm.refl, p2, hD2, .nil, Nat.zero_le _, fun t h => nomatch h⟩ (fun _ _ _ _ _ => trivial) ?_ ?_⟩
    · rintro i x σ' H3 H3' hi ⟨o6, o7, o8, o9, o10, o11, vs, lims, rfl, f3, p3, hD3, R3, ll, bd⟩ ⟨rfl, rfl⟩
      have hi20 : i < 20 := by omega
      have lvs := R3.len
      rw [List.length_map] at lvs
      walk_at "rd"
      refine ⟨pn, cl, _, _, rfl, p3, by omega, by omega, by omega, fun a H4 a0 a1 f4 p4 => ?_⟩
      walk_at "rd"
      refine ⟨_, rfl, by omega, by omega, lcGen (S := []) walk_r0 (by omega) (fun j acc H' => Fm [] H4 H' ∧ ∃ es : List Int, acc = es.map V.int ∧ (∀ e ∈ es, 0 ≤ e ∧ e < (j : Int) ∧ e ≠ a) ∧ j ≤ es.length + (if a < (j : Int) then 1 else 0)) (fun b z => nomatch z) (fun D' h => ⟨Fm.new h, [], rfl, fun e h => (nomatch h), Nat.zero_le _⟩) (fun _ _ _ _ => trivial) ?_ ?_ ?_⟩
      · rintro D' j acc H5 ys zs h h5 ⟨fm, e⟩
        exact ⟨(fm.up.trans (Fm.wr (by simp) h5 (fun _ z => nomatch z)) : Fm (D' :: []) _ _).d1 h, e⟩
      · rintro j x acc H5 H5' hj ⟨f5, es, rfl, be, le⟩ ⟨rfl, rfl⟩ K1 K0 k1 k0
        walk_at "rd"
        refine ⟨rfl, ?_⟩
        walk_at "rd"
        by_cases z : (j : Int) = a
        · refine ifNt z ?_
          refine k0 _ Fm.refl ⟨f5, es, rfl, fun e he => ⟨(be e he).1, by have := (be e he).2.1; omega, (be e he).2.2⟩, ?_⟩
          rw [if_pos (by omega)]
          rw [if_neg (by omega)] at le
          omega
        · refine ifNf z ?_
          walk_at "rd"
          refine k1 _ _ Fm.refl ⟨f5, es ++ [(j : Int)], by rw [List.map_append]; rfl, fun e he => ?_, ?_⟩
          · rcases List.mem_append.mp he with he | he
            · exact ⟨(be e he).1, by have := (be e he).2.1; omega, (be e he).2.2⟩
            · rw [List.mem_singleton.mp he]
              exact ⟨by omega, by omega, z⟩
          · rw [List.length_append]
            show _ ≤ es.length + 1 + _
            by_cases z2 : a < (j : Int)
            · rw [if_pos z2] at le
              rw [if_pos (by omega)]
              omega
            · rw [if_neg z2] at le
              omega
      · rintro E1 acc H5 nE f5 hE ⟨_, es, rfl, be, le⟩ _
        have nE1 : E1 ≠ pn := fun z => p4.live.1 (by rw [← z]; exact nE)
        have les : 1 ≤ es.length := by
          by_cases z2 : a < (((ms.length : Nat) : Int).toNat : Int)
          · rw [if_pos z2] at le; omega
          · rw [if_neg z2] at le; omega
        have les2 : es.length ≤ 1000 := by
          have nn : es.length ≤ ((ms.length : Nat) : Int).toNat := by
            rename_i hh
            rwa [List.length_map] at hh
          omega
        walk_at "rd"
        refine ⟨pn, cl, E1, _, _, rfl, p4.f0 f5, by omega, nE1, hE, by rw [List.length_map]; exact les, by rw [List.length_map]; exact les2, fun v H6 hv f6 p6 => ?_⟩
        obtain ⟨b, hb, rfl⟩ := List.mem_map.mp hv
        obtain ⟨b0, b1', bne⟩ := be b hb
        have g6 : Fm [pn] H3' H6 := (f4.trans f5.up).trans f6
        have g6' : Fm [D, pn] H2 H6 := f3.trans (g6.mono fun b z => by simp at z ⊢; exact .inr z)
        have hmo6 := g6'.oth _ _ (by simp; exact ⟨nDm, nmo⟩) hmo2
        have hlo6 := g6'.oth _ _ (by simp; exact ⟨nDl, nlo⟩) hlo2
        walk_at "rd"
        have ha' : a.toNat < ms.length := by omega
        have hb' : b.toNat < ms.length := by omega
        refine rIxLi (SqL.of hmo6) b0 (v := .int (ms[b.toNat])) (by rw [List.getElem?_map, List.getElem?_eq_getElem hb']; rfl) ?_
        walk_at "rd"
        refine rIxLi (SqL.of hmo6) a0 (v := .int (ms[a.toNat])) (by rw [List.getElem?_map, List.getElem?_eq_getElem ha']; rfl) ?_
        walk_at "rd"
        refine ⟨pn, cl, lo, _, _, rfl, p6, by omega, nlo, hlo6, by rw [List.length_map]; exact ll1, by rw [List.length_map]; omega, fun v H7 hv f7 p7 => ?_⟩
        obtain ⟨one, rfl⟩ := ints6 hv
        walk_at "rd"
        have hlo7 := f7.oth _ _ (by simp; exact nlo) hlo6
        refine ⟨pn, cl, lo, _, _, rfl, p7, by omega, nlo, hlo7, by rw [List.length_map]; exact ll1, by rw [List.length_map]; omega, fun v H8 hv f8 p8 => ?_⟩
        obtain ⟨other, rfl⟩ := ints6 hv
        walk_at "rd"
        have g8 : Fm [pn] H3' H8 := (g6.trans f7).trans f8
        have hD8 := g8.oth _ _ (by simp; exact nDp.1) hD3
        refine ⟨tyL hD8, ?_⟩
        walk_at "rd"
        refine rNewT (ok100 rfl) fun q9 H9 n9 f9 t9 => ?_
        walk_at "rd"
        have hD9 := f9.oth _ _ (fun z => nomatch z) hD8
        refine rAppL hD9 (line9l (by omega)) ?_
        have fw : Fm [D] H9 (upd H9 D (.lst (vs ++ [.ref q9]))) := Fm.wr (by simp) hD9 (fun _ z => nomatch z)
        have hD10 : (upd H9 D (.lst (vs ++ [.ref q9]))) D = some (.lst (vs ++ [.ref q9])) := upd_same
        generalize upd H9 D (.lst (vs ++ [.ref q9])) = H10 at fw hD10
        walk_at "rd"
        generalize hw1 : max (-60) (min 60 (ms[b.toNat] - ms[a.toNat] + one)) = w1 at t9
        have bw1 : -60 ≤ w1 ∧ w1 ≤ 60 := by omega
        have g10 : Fm [D, pn] H3' H10 := ((g8.trans f9.up).mono fun b z => by simp at z ⊢; exact .inr z).trans (fw.mono fun b z => by simp at z ⊢; exact .inl z)
        have p10 : Pen H10 pn cl _ := (p8.f0 f9).fm fw (by simp; exact nDp.1.symm) (by simp; exact nDp.2.symm)
        have R10 : Rows H10 (vs ++ [.ref q9]) ((lims ++ [(a, b, w1)]).map rowL) := by
          rw [List.map_append]
          exact (((R3.fm g8).fm f9).fm fw).app (Rows.one (fw.tup _ _ t9))
        have bd10 : ∀ t ∈ lims ++ [(a, b, w1)], (0 ≤ t.1 ∧ t.1 ≤ 2 * (B0 : Int)) ∧ (0 ≤ t.2.1 ∧ t.2.1 ≤ 2 * (B0 : Int)) ∧ t.1 ≠ t.2.1 ∧ -60 ≤ t.2.2 ∧ t.2.2 ≤ 60 := fun t ht => by
          rcases List.mem_append.mp ht with ht | ht
          · exact bd t ht
          · rw [List.mem_singleton.mp ht]
            exact ⟨⟨a0, by show a ≤ _; omega⟩, ⟨b0, by show b ≤ _; omega⟩, bne.symm, bw1.1, bw1.2⟩
        refine ⟨pn, cl, _, 3, rfl, p10, by omega, by decide, by decide, fun r3 H11 r30 r31 f11 p11 => ?_⟩
        walk_at "rd"
        have p11 := p11.up (m := n + 1 + 6 * (i + 1)) (by omega)
        have hD11 := f11.oth _ _ (by simp; exact nDp.1) hD10
        have g11 : Fm [D, pn] H2 H11 := (f3.trans g10).trans (f11.mono fun b z => by simp at z ⊢; exact .inr z)
        by_cases rz : r3 = 0
        · refine ifDt rz ?_
          walk_at "rd"
          refine ⟨tyL hD11, ?_⟩
          walk_at "rd"
          refine rNewT (ok100 rfl) fun q12 H12 n12 f12 t12 => ?_
          walk_at "rd"
          have hD12 := f12.oth _ _ (fun z => nomatch z) hD11
          refine rAppL hD12 (line9l (by rw [List.length_append]; simp; omega)) ?_
          have fw2 : Fm [D] H12 (upd H12 D (.lst ((vs ++ [.ref q9]) ++ [.ref q12]))) := Fm.wr (by simp) hD12 (fun _ z => nomatch z)
          generalize hw2 : max (-60) (min 60 (other - (ms[b.toNat] - ms[a.toNat]))) = w2 at t12
          have bw2 : -60 ≤ w2 ∧ w2 ≤ 60 := by omega
          walk_at "rd"
          refine ⟨_, _, _, _, _, _, _, (lims ++ [(a, b, w1)]) ++ [(b, a, w2)], rfl, (g11.trans f12.up).trans (fw2.mono fun b z => by simp at z ⊢; exact .inl z), (p11.f0 f12).fm fw2 (by simp; exact nDp.1.symm) (by simp; exact nDp.2.symm), upd_same, ?_, by rw [List.length_append, List.length_append]; simp; omega, fun t ht => ?_⟩
          · rw [List.map_append (l₁ := lims ++ [(a, b, w1)])]
            exact (((R10.fm f11).fm f12).fm fw2).app (Rows.one (fw2.tup _ _ t12))
          · rcases List.mem_append.mp ht with ht | ht
            · exact bd10 t ht
            · rw [List.mem_singleton.mp ht]
              exact ⟨⟨b0, by show b ≤ _; omega⟩, ⟨a0, by show a ≤ _; omega⟩, bne, bw2.1, bw2.2⟩
        · refine ifDf rz ?_
          walk_at "rd"
          exact ⟨_, _, _, _, _, _, _, lims ++ [(a, b, w1)], rfl, g11, p11, hD11, R10.fm f11, by rw [List.length_append]; simp; omega, bd10⟩
    · rintro σ' H3 ⟨o6, o7, o8, o9, o10, o11, vs, lims, rfl, f3, p3, hD3, R3, ll, bd⟩
      have r20 : r.toNat ≤ 20 := by omega
      walk_at "rd"
      refine rSlLi (SqL.of hD3) (rNewL0 fun L4 H4 n4 f4 t4 => ?_)
      walk_at "rd"
      refine rTupleOfL (SqL.of t4) (rNewT0 fun q5 H5 n5 f5 t5 => ?_)
      have g5 := f4.trans f5
      have e : cutV vs none (some ((most : Nat) : Int)) = vs.take (min most vs.length) := by
        unfold cutV
        rw [HT.sIx_none, HT.sIx_nat, List.drop_zero, Nat.sub_zero]
      rw [e] at t5
      refine k q5 _ (lims.take (min most vs.length)) H5 ((g2.trans f3).d1 nD |>.trans g5.up) ((p3.f0 g5).up (by omega)) t5 ?_ ?_ (fun t ht => bd t (List.mem_of_mem_take ht))
      · rw [List.map_take]
        exact (R3.fm g5).take _
      · rw [List.length_take]
        omega
end
end A68
set_option maxRecDepth 100000
set_option maxHeartbeats 4000000
/-! The law's draw_brief. -/
namespace A68
open PySem PySem.Spec PyProof.Rows L2 RZ
local macro_rules | `(tactic| walk_at "rd1") => `(tactic| first
  | ((with_reducible refine' rVar ?hx ?_); (case hx => rfl))
  | (with_reducible refine rC ?_)
  | (with_reducible refine rOp ?_)
  | (with_reducible refine rUn ?_)
  | (with_reducible refine rI0i ?_)
  | (with_reducible refine rUi ?_)
  | ((with_reducible refine rMulL ?a ?b ?_); (case a => decide); (case b => decide))
  | ((with_reducible refine rMulR ?a ?b ?_); (case a => decide); (case b => decide))
  | ((with_reducible refine rModP ?a ?_); (case a => decide))
  | ((with_reducible refine rDivP ?a ?b ?_); (case a => decide); (case b => decide))
  | ((with_reducible refine rPowL ?a ?b ?c ?_); (case a => decide); (case b => decide); (case c => decide))
  | (with_reducible refine rEqI ?_)
  | (with_reducible refine rNeI ?_)
  | (with_reducible refine rIsNi ?_)
  | (with_reducible refine rIsNn ?_)
  | (with_reducible refine rIsNr ?_)
  | (with_reducible refine rNotNi ?_)
  | (with_reducible refine rNotNn ?_)
  | (with_reducible refine rNotNr ?_)
  | (with_reducible refine rTest ?_)
  | (with_reducible refine rTB ?_)
  | (with_reducible refine rBlV ?_)
  | (with_reducible refine rAnd ?_)
  | (with_reducible refine rOr ?_)
  | (with_reducible refine rNot ?_)
  | (with_reducible refine rAndV ?_)
  | (with_reducible refine rOrV ?_)
  | (with_reducible refine rNotV ?_)
  | (with_reducible refine rIf ?_)
  | (with_reducible refine rNil ?_)
  | (with_reducible refine rCons ?_)
  | (with_reducible refine rTup ?_)
  | (with_reducible refine rLst ?_)
  | (with_reducible refine rCB ?_)
  | (with_reducible refine rCall ?_)
  | (with_reducible refine rBM ?_)
  | (with_reducible refine rMin2i ?_)
  | (with_reducible refine rMax2i ?_)
  | (with_reducible refine rInt1i ?_)
  | (with_reducible refine rPartN ?_)
  | (with_reducible refine rPart ?_)
  | (with_reducible refine rInt ?_)
  | (with_reducible refine rSlS ?_)
  | (with_reducible refine rSFld ?_)
  | (with_reducible refine rSDPut ?_)
  | (with_reducible refine rDGet ?_)
  | (with_reducible refine rDIn ?_)
  | (with_reducible refine rDNotIn ?_)
  | (with_reducible refine rSeq ?_)
  | (with_reducible refine rAsg ?_)
  | (with_reducible refine rName ?_)
  | (with_reducible refine rDrop ?_)
  | (with_reducible refine rRet ?_)
  | (with_reducible refine rIfS ?_)
  | (with_reducible refine rNext ?_)
  | (with_reducible refine rPar ?_)
  | (with_reducible refine rPar2 ?_)
  | (with_reducible refine rMeth ?_)
  | (with_reducible refine rGCons ?_)
  | (with_reducible refine rGNil ?_)
  | (with_reducible refine rForS ?_)
  | (with_reducible refine rLcS ?_)
  | (with_reducible refine rIL ?_)
  | (with_reducible refine rIT ?_)
  | (with_reducible refine rIE ?_)
  | (with_reducible refine rYes ?_)
  | (with_reducible refine rPar3 ?_)
  | (with_reducible refine rPar3v ?_)
  | (with_reducible refine rLstRg ?_)
  | (with_reducible refine rRg1 ?_)
  | (with_reducible refine rIK ?_)
  | (with_reducible refine rIsNs ?_)
  | (with_reducible refine rNeB ?_)
  | (with_reducible refine rIZ ?_)
  | (with_reducible refine rChain ?_)
  | (with_reducible refine rDc2 ?_)
  | (with_reducible refine rDcS ?_)
  | (with_reducible refine rIR3 ?_)
  | (with_reducible refine rMake ?_)
  | (with_reducible refine rIR1 ?_)
  | (with_reducible refine rIR2 ?_)
  | (with_reducible refine rIET ?_)
  | (with_reducible refine ifSn ?_)
  | (with_reducible refine ifNn ?_)
  | (with_reducible refine ifSs ?_)
  | (with_reducible refine ifNs ?_)
  | (with_reducible refine rNotNfs ?_)
  | (with_reducible refine rNotNfn ?_)
  | (with_reducible refine rIsNfs ?_)
  | (with_reducible refine rIsNfn ?_)
  | (with_reducible refine ifT ?_)
  | (with_reducible refine ifF ?_)
  | (with_reducible refine ifNT ?_)
  | (with_reducible refine ifNF ?_))
local macro_rules | `(tactic| walk_at "rd") => `(tactic| (repeat walk_at "rd1"))
def spBrief : Sp := fun vs H Q _ => ∃ (pn cl : Addr) (n many : Nat) (lm wd : Int) (most : Nat), vs = [.ref pn, .int (many : Nat), .int lm, .int wd, .int (most : Nat)] ∧ Pen H pn cl n ∧ n ≤ 40000 ∧ 1 ≤ many ∧ many ≤ 4 ∧ 1 ≤ lm ∧ lm ≤ 19 ∧ 1 ≤ wd ∧ wd ≤ 19 ∧ most ≤ 20 ∧
  ∀ (Ab : BA) (B : Br) (H' : Hp), Fm [pn] H H' → Pen H' pn cl (n + 400) → BriefAt H' Ab B → B.Ok → Q (.ref Ab.b) H'
theorem brief_ok {tasks arrows : List (Int × Int)} {limits : List (Int × Int × Int)} {dl : Int} {many : Nat} (h1 : 1 ≤ many) (h4 : many ≤ 4) (lt : tasks.length = many) (bt : ∀ t ∈ tasks, 1 ≤ t.1 ∧ t.1 ≤ t.2 ∧ t.2 ≤ 20) (ba : ∀ p ∈ arrows, 0 ≤ p.1 ∧ p.1 < p.2 ∧ p.2 < (many : Int)) (la : arrows.length ≤ 16)
    (bl : ∀ t ∈ limits, (0 ≤ t.1 ∧ t.1 ≤ 2 * (many : Int)) ∧ (0 ≤ t.2.1 ∧ t.2.1 ≤ 2 * (many : Int)) ∧ t.1 ≠ t.2.1 ∧ -60 ≤ t.2.2 ∧ t.2.2 ≤ 60) (ll : limits.length ≤ 60) (d : 1 ≤ dl ∧ dl ≤ 60) : Br.Ok ⟨tasks, arrows, limits, dl⟩ where
  n1 := by show 1 ≤ tasks.length; omega
  n4 := by show tasks.length ≤ 4; omega
  du i hi := by
    have l : i.toNat < tasks.length := by
      have h1 : 0 ≤ i := hi.1
      have h2 : i < (tasks.length : Int) := hi.2
      omega
    have := bt _ (List.getElem_mem l)
    unfold Br.lo Br.hi
    rw [List.getD_eq_getElem?_getD, List.getElem?_eq_getElem l]
    exact this
  ar p hp := by
    have := ba p hp
    show 0 ≤ p.1 ∧ p.1 < p.2 ∧ p.2 < ((tasks.length : Nat) : Int)
    rw [lt]
    exact this
  an := by show arrows.length ≤ 100; omega
  li t ht := by
    have := bl t ht
    have e : ((Br.n ⟨tasks, arrows, limits, dl⟩ : Nat) : Int) = many := by show ((tasks.length : Nat) : Int) = many; rw [lt]
    unfold Br.ev
    rw [e]
    exact this
  ln := by show limits.length ≤ 100; omega
  dl := d
section
variable {P : Program} {w : World} {K : PySem.W.Frag} {mg : Str → Option Value} {base : Heap} {f : Addr} {fd : FuncData}
abbrev N_l_draw_brief : List Str := ["_law_pen", "_law_many", "_law_low_most", "_law_wide", "_law_most", "_law_project", "_law_moments", "_law_loose", "_law_limits", "_law_spare"]
theorem sc_l_draw_brief : FnScope N_l_draw_brief ["_law_pen", "_law_many", "_law_low_most", "_law_wide", "_law_most"] (defScope s_l_draw_brief) := ⟨rfl, rfl, rfl, by decide +kernel, rfl, by decide +kernel, by decide +kernel⟩
-- slots: 0 _law_pen, 1 _law_many, 2 _law_low_most, 3 _law_wide, 4 _law_most, 5 _law_project, 6 _law_moments, 7 _law_loose, 8 _law_limits, 9 _law_spare
theorem ok_draw_brief (F : FD K "_law_draw_brief" "_law_draw_brief" s_l_draw_brief f fd) (Z : Fr0 mg) (k_l_one_of : Cal P w K mg base "_law_one_of" ["_law_pen", "_law_some"] 3 spOneOf)
    (k_l_draw_project : Cal P w K mg base "_law_draw_project" ["_law_pen", "_law_many", "_law_low_most", "_law_wide"] 4 spProject) (k_l_draw_nominal : Cal P w K mg base "_law_draw_nominal" ["_law_pen", "_law_project"] 4 spNominal)
    (kk_l_draw_limits : ∀ B0, Cal P w K mg base "_law_draw_limits" ["_law_pen", "_law_moments", "_law_most", "_law_loose"] 4 (spLimits B0)) : FnOk P w K mg base CX0 5 f fd ["_law_pen", "_law_many", "_law_low_most", "_law_wide", "_law_most"] spBrief := by
  refine F.ok sc_l_draw_brief (fun vs H Q E h => ?_) (fun cdv A0 outer s H vs Q E hr h => ?_)
  · obtain ⟨_, _, _, _, _, _, _, rfl, _⟩ := h
    rfl
  · obtain ⟨pn, cl, n, many, lm, wd, most, rfl, pe, n1, m1, m4, l1, l2, w1, w2, m20, k⟩ := h
    have hu := hu_of hr
    have nd := sc_l_draw_brief.nd
    have k_l_draw_limits := kk_l_draw_limits many
    refine ⟨_, PSs.nox (pss_cons (ps_set (i := 5) nd rfl (by first | exact Or.inl rfl | exact Or.inr rfl) (pe_cal k_l_draw_project (hr.mono (by decide)) (by rfl) (pa_cons (pv 0) (pa_cons (pv 1) (pa_cons (pv 2) (pa_cons (pv 3) pa_nil))))))
      (pss_cons (ps_set (i := 6) nd rfl (by first | exact Or.inl rfl | exact Or.inr rfl) (pe_cal k_l_draw_nominal (hr.mono (by decide)) (by rfl) (pa_cons (pv 0) (pa_cons (pv 5) pa_nil))))
      (pss_cons (ps_set (i := 7) nd rfl (by first | exact Or.inl rfl | exact Or.inr rfl) (pe_cal k_l_one_of (hr.mono (by decide)) (by rfl) (pa_cons (pv 0) (pa_cons (pe_lst (pa_cons (pe_lst (pa_cons pe_int pa_nil)) (pa_cons (pe_lst (pa_cons pe_int (pa_cons pe_int (pa_cons pe_int (pa_cons (pe_un un_neg pe_int) pa_nil))))) (pa_cons (pe_lst (pa_cons pe_int (pa_cons pe_int (pa_cons pe_int (pa_cons pe_int pa_nil))))) (pa_cons (pe_lst (pa_cons pe_int (pa_cons pe_int (pa_cons pe_int (pa_cons pe_int pa_nil))))) (pa_cons (pe_lst (pa_cons pe_int (pa_cons pe_int (pa_cons pe_int (pa_cons pe_int (pa_cons pe_int (pa_cons (pe_un un_neg pe_int) pa_nil))))))) pa_nil)))))) pa_nil))))
      (pss_cons (ps_set (i := 8) nd rfl (by first | exact Or.inl rfl | exact Or.inr rfl) (pe_cal k_l_draw_limits (hr.mono (by decide)) (by rfl) (pa_cons (pv 0) (pa_cons (pv 6) (pa_cons (pv 4) (pa_cons (pv 7) pa_nil))))))
      (pss_cons (ps_set (i := 9) nd rfl (by first | exact Or.inl rfl | exact Or.inr rfl) (pe_cal k_l_one_of (hr.mono (by decide)) (by rfl) (pa_cons (pv 0) (pa_cons (pe_lst (pa_cons pe_int (pa_cons pe_int (pa_cons pe_int (pa_cons pe_int (pa_cons pe_int pa_nil)))))) pa_nil))))
      (pss_one (ps_ret (pe_tup (pa_cons (pv 5) (pa_cons (pv 8) (pa_cons (pe_callB (call_max2n rfl) (by rfl) Z.max (by decide +kernel) (pa_cons pe_int (pa_cons (pe_callB (call_min2n rfl) (by rfl) Z.min (by decide +kernel) (pa_cons pe_int (pa_cons (pe_op op_add (pe_callB (cr_max rfl) (by rfl) Z.max (by decide +kernel) (pa_cons (pv 6) pa_nil)) (pv 9)) pa_nil))) pa_nil))) pa_nil))))))))))), ?_⟩
    walk_at "rd"
    refine ⟨pn, cl, n, many, lm, wd, rfl, pe, by omega, m1, m4, l1, l2, w1, w2, fun pj ts ar tv av tasks arrows H1 f1 p1 hpj hts rt har ra lt bt ba la => ?_⟩
    walk_at "rd"
    refine ⟨pn, cl, pj, ts, ar, _, tv, av, tasks, arrows, rfl, p1, by omega, hpj, hts, rt, har, ra, by omega, bt, by rw [lt]; exact ba, la, fun mo ms H2 f2 p2 hmo nmo lms => ?_⟩
    walk_at "rd"
    refine rNewL (ok100 rfl) fun L1 H3 n3 f3 t3 => ?_
    walk_at "rd"
    refine rNewL (ok100 rfl) fun L2 H4 n4 f4 t4 => ?_
    walk_at "rd"
    refine rNewL (ok100 rfl) fun L3 H5 n5 f5 t5 => ?_
    walk_at "rd"
    refine rNewL (ok100 rfl) fun L4 H6 n6 f6 t6 => ?_
    walk_at "rd"
    refine rNewL (ok100 rfl) fun L5 H7 n7 f7 t7 => ?_
    walk_at "rd"
    refine rNewL (ok100 rfl) fun L6 H8 n8 f8 t8 => ?_
    walk_at "rd"
    have g38 := ((((f3.trans f4).trans f5).trans f6).trans f7).trans f8
    have p8 := p2.f0 g38
    have npn : ∀ {X : Addr} {HX : Hp}, Fm [] H2 HX → HX X = none → X ≠ pn := fun {X HX} fx h z => p2.live.1 (by rw [← z]; exact fx.fre _ h)
    have nL1 := npn Fm.refl n3
    have nL2 := npn f3 n4
    have nL3 := npn (f3.trans f4) n5
    have nL4 := npn ((f3.trans f4).trans f5) n6
    have nL5 := npn (((f3.trans f4).trans f5).trans f6) n7
    have nL6 := npn ((((f3.trans f4).trans f5).trans f6).trans f7) n8
    refine ⟨pn, cl, L6, _, _, rfl, p8, by omega, nL6, t8, Nat.le_of_ble_eq_true rfl, Nat.le_of_ble_eq_true rfl, fun v H9 hv f9 p9 => ?_⟩
    have hlo : ∃ (lo : Addr) (ls : List Int), v = .ref lo ∧ H9 lo = some (.lst (ls.map V.int)) ∧ lo ≠ pn ∧ 1 ≤ ls.length ∧ ls.length ≤ 100 := by
      have o : ∀ {X : Addr} {o : HO}, X ≠ pn → H8 X = some o → H9 X = some o := fun n h => f9.oth _ _ (by simp; exact n) h
      have u : ∀ {X : Addr} {o : HO} {HA HB : Hp}, Fm [] HA HB → HA X = some o → HB X = some o := fun f h => f.oth _ _ (fun z => nomatch z) h
      simp only [List.mem_cons, List.not_mem_nil, or_false] at hv
      rcases hv with rfl | rfl | rfl | rfl | rfl
      · exact ⟨L1, [0], rfl, o nL1 (u f8 (u f7 (u f6 (u f5 (u f4 t3))))), nL1, by decide, by decide⟩
      · exact ⟨L2, [0, 0, 1, -1], rfl, o nL2 (u f8 (u f7 (u f6 (u f5 t4)))), nL2, by decide, by decide⟩
      · exact ⟨L3, [0, 1, 2, 3], rfl, o nL3 (u f8 (u f7 (u f6 t5))), nL3, by decide, by decide⟩
      · exact ⟨L4, [2, 5, 9, 30], rfl, o nL4 (u f8 (u f7 t6)), nL4, by decide, by decide⟩
      · exact ⟨L5, [0, 0, 1, 2, 60, -60], rfl, o nL5 (u f8 t7), nL5, by decide, by decide⟩
    obtain ⟨lo, ls, rfl, hlo, nlo, ll1, ll2⟩ := hlo
    have g29 : Fm [pn] H2 H9 := g38.up.trans f9
    have hmo9 := g29.oth _ _ (by simp; exact nmo) hmo
    walk_at "rd"
    refine ⟨pn, cl, mo, lo, _, most, ms, ls, rfl, p9, by omega, m20, hmo9, nmo, by omega, m1, m4, hlo, nlo, ll1, ll2, fun q lv lims H10 f10 p10 hq rl lle bl => ?_⟩
    walk_at "rd"
    refine rNewL (ok100 rfl) fun L11 H11 n11 f11 t11 => ?_
    walk_at "rd"
    have p11 := p10.f0 f11
    have nL11 : L11 ≠ pn := fun z => p10.live.1 (by rw [← z]; exact n11)
    refine ⟨pn, cl, L11, _, _, rfl, p11, by omega, nL11, t11, by decide, by decide, fun v H12 hv f12 p12 => ?_⟩
    obtain ⟨spare, rfl⟩ := ints6 (xs := [0, 1, 3, 9, 60]) hv
    walk_at "rd"
    have g12 : Fm [pn] H2 H12 := ((g29.trans f10).trans f11.up).trans f12
    have hmo12 := g12.oth _ _ (by simp; exact nmo) hmo
    refine rMaxI (SqL.of hmo12) (by omega) fun mx => ?_
    walk_at "rd"
    generalize hdl : max 1 (min 60 (mx + spare)) = dl
    have bdl : 1 ≤ dl ∧ dl ≤ 60 := by omega
    refine rNewT (ok100 rfl) fun q13 H13 n13 f13 t13 => ?_
    have g13 : Fm [pn] H1 H13 := (f2.trans g12).trans f13.up
    have g10 : Fm [pn] H10 H13 := (f11.up.trans f12).trans f13.up
    refine k ⟨q13, pj, ts, ar, q, tv, av, lv⟩ ⟨tasks, arrows, lims, dl⟩ H13 (f1.trans g13) ((p12.f0 f13).up (by omega)) ⟨t13, g13.tup _ _ hpj, g13.tup _ _ hts, rt.fm g13, g13.tup _ _ har, ra.fm g13, g10.tup _ _ hq, rl.fm g10⟩ (brief_ok m1 m4 lt bt ba la bl lle bdl)
end
end A68
set_option maxRecDepth 100000
set_option maxHeartbeats 4000000
/-! The law. -/
namespace A68
open PySem PySem.Spec PyProof.Rows L2 RZ
/-! ### the brief as data -/
def iD (l : List Int) : PyData := .tuple (l.map .int)
def rowsD {α : Type} (f : α → List Int) (l : List α) : PyData := .tuple (l.map fun x => iD (f x))
def briefD (B : Br) : PyData := .tuple [.tuple [rowsD (fun t : Int × Int => [t.1, t.2]) B.tasks, rowsD (fun t : Int × Int => [t.1, t.2]) B.arrows], rowsD (fun t : Int × Int × Int => [t.1, t.2.1, t.2.2]) B.limits, .int B.dl]
theorem dp_row {K : PySem.W.Frag} {H : Hp} : ∀ l : List Int, DpAll K H (l.map V.int) (l.map PyData.int)
  | [] => .nil
  | i :: l => .cons (.int i) (dp_row l)
theorem dp_rows {K : PySem.W.Frag} {H : Hp} {α : Type} {f : α → List Int} : ∀ {l : List α} {vs : List V}, Rows H vs (l.map fun x => (f x).map V.int) → DpAll K H vs (l.map fun x => iD (f x))
  | [], _, .nil => .nil
  | x :: l, _, .cons ⟨a, e, h⟩ t => by
    rw [e]
    exact .cons (.tup (SqT.of h) (dp_row _)) (dp_rows t)
theorem brief_dp {K : PySem.W.Frag} {H : Hp} {A : BA} {B : Br} (h : BriefAt H A B) : Dp K H (.ref A.b) (briefD B) :=
  .tup (SqT.of h.hb) (.cons (.tup (SqT.of h.hp) (.cons (.tup (SqT.of h.ht) (dp_rows (f := fun t : Int × Int => [t.1, t.2]) h.rt)) (.cons (.tup (SqT.of h.ha) (dp_rows (f := fun t : Int × Int => [t.1, t.2]) h.ra)) .nil))) (.cons (.tup (SqT.of h.hl) (dp_rows (f := fun t : Int × Int × Int => [t.1, t.2.1, t.2.2]) h.rl)) (.cons (.int _) .nil)))
def small (i : Int) : Prop := -100 ≤ i ∧ i ≤ 100
theorem int_short : ∀ n, n < 101 → (PyData.shown (.int (n : Nat))).length ≤ 10 ∧ (PyData.shown (.int (-((n : Nat) : Int)))).length ≤ 10 := by decide +kernel
/-- good data: may be shown, is small -/
structure Good (d : PyData) (b k : Nat) : Prop where
  s : d.showable = true
  h : d.hasDict = false
  l : d.leavesShort 10 = true
  b : d.bulk ≤ b
  k : d.depth ≤ k
theorem Good.int {i : Int} (h : small i) : Good (.int i) 0 0 := by
  obtain ⟨h1, h2⟩ := h
  have hl : (PyData.shown (.int i)).length ≤ 10 := by
    rcases Int.le_total 0 i with z | z
    · have := (int_short i.toNat (by omega)).1
      rwa [show ((i.toNat : Nat) : Int) = i by omega] at this
    · have := (int_short (-i).toNat (by omega)).2
      rwa [show -(((-i).toNat : Nat) : Int) = i by omega] at this
  refine ⟨?_, by simp [PyData.hasDict], ?_, by simp [PyData.bulk], by simp [PyData.depth]⟩
  · simp only [PyData.showable]
    refine decide_eq_true (Nat.lt_of_le_of_lt (Nat.log2_le_self _) ?_)
    omega
  · simp only [PyData.leavesShort]
    exact decide_eq_true hl
theorem good_all {b k : Nat} : ∀ {ds : List PyData}, (∀ d ∈ ds, Good d b k) → PyData.showableAll ds = true ∧ PyData.hasDictAll ds = false ∧ PyData.leavesShortAll 10 ds = true ∧ PyData.bulkAll ds ≤ ds.length * (b + 1) ∧ PyData.depthAll ds ≤ k
  | [], _ => by simp [PyData.showableAll, PyData.hasDictAll, PyData.leavesShortAll, PyData.bulkAll, PyData.depthAll]
  | d :: ds, h => by
    obtain ⟨h1, h2, h3, h4, h5⟩ := good_all fun e he => h e (List.mem_cons_of_mem _ he)
    obtain ⟨g1, g2, g3, g4, g5⟩ := h d (List.mem_cons_self ..)
    refine ⟨by simp [PyData.showableAll, g1, h1], by simp [PyData.hasDictAll, g2, h2], by simp [PyData.leavesShortAll, g3, h3], ?_, ?_⟩
    · simp only [PyData.bulkAll, List.length_cons, Nat.succ_mul]
      omega
    · simp only [PyData.depthAll]
      omega
theorem Good.tup {b k m : Nat} {ds : List PyData} (h : ∀ d ∈ ds, Good d b k) (l : ds.length ≤ m) : Good (.tuple ds) (m * (b + 1)) (k + 1) := by
  obtain ⟨h1, h2, h3, h4, h5⟩ := good_all h
  refine ⟨by simp only [PyData.showable]; exact h1, by simp only [PyData.hasDict]; exact h2, by simp only [PyData.leavesShort]; exact h3, ?_, ?_⟩
  · simp only [PyData.bulk]
    exact Nat.le_trans h4 (Nat.mul_le_mul_right _ l)
  · simp only [PyData.depth]
    omega
theorem Good.up {d : PyData} {b k b' k' : Nat} (h : Good d b k) (hb : b ≤ b') (hk : k ≤ k') : Good d b' k' := { h with b := Nat.le_trans h.b hb, k := Nat.le_trans h.k hk }
theorem good_rows {α : Type} {f : α → List Int} {l : List α} {m : Nat} (h : ∀ x ∈ l, (f x).length ≤ 3 ∧ ∀ i ∈ f x, small i) (hl : l.length ≤ m) : Good (rowsD f l) (m * 4) 2 :=
  Good.tup (b := 3) (k := 1) (fun d hd => by
    obtain ⟨x, hx, rfl⟩ := List.mem_map.mp hd
    exact (Good.tup (b := 0) (k := 0) (m := 3) (fun e he => by
      obtain ⟨i, hi, rfl⟩ := List.mem_map.mp he
      exact .int ((h x hx).2 i hi)) (by rw [List.length_map]; exact (h x hx).1)).up (by omega) (by omega)) (by rw [List.length_map]; exact hl)
theorem brief_good {B : Br} (ok : B.Ok) : Good (briefD B) 4000 4 := by
  have n4 := ok.n4
  have g1 : Good (rowsD (fun t : Int × Int => [t.1, t.2]) B.tasks) 400 2 := (good_rows (m := 100) (fun t ht => ⟨by show 2 ≤ 3; omega, fun i hi => by
    obtain ⟨j, hj, e⟩ := List.getElem_of_mem ht
    have d := ok.du (j : Int) ⟨by omega, by show (j : Int) < ((B.tasks.length : Nat) : Int); omega⟩
    unfold Br.lo Br.hi at d
    rw [Int.toNat_natCast, List.getD_eq_getElem?_getD, List.getElem?_eq_getElem hj, e] at d
    simp only [Option.getD_some] at d
    simp only [List.mem_cons, List.not_mem_nil, or_false] at hi
    unfold small
    rcases hi with rfl | rfl <;> omega⟩) (by show B.n ≤ 100; omega)).up (by omega) (by omega)
  have g2 : Good (rowsD (fun t : Int × Int => [t.1, t.2]) B.arrows) 400 2 := (good_rows (m := 100) (fun t ht => ⟨by show 2 ≤ 3; omega, fun i hi => by
    have d := ok.ar t ht
    simp only [List.mem_cons, List.not_mem_nil, or_false] at hi
    unfold small
    rcases hi with rfl | rfl <;> omega⟩) ok.an).up (by omega) (by omega)
  have g3 : Good (rowsD (fun t : Int × Int × Int => [t.1, t.2.1, t.2.2]) B.limits) 400 2 := (good_rows (m := 100) (fun t ht => ⟨by show 3 ≤ 3; omega, fun i hi => by
    obtain ⟨⟨a1, a2⟩, ⟨b1, b2⟩, _, c1, c2⟩ := ok.li t ht
    simp only [List.mem_cons, List.not_mem_nil, or_false] at hi
    unfold small
    rcases hi with rfl | rfl | rfl <;> omega⟩) ok.ln).up (by omega) (by omega)
  have g4 : Good (.int B.dl) 0 0 := .int ⟨by have := ok.dl; omega, by have := ok.dl; omega⟩
  have g12 : Good (.tuple [rowsD (fun t : Int × Int => [t.1, t.2]) B.tasks, rowsD (fun t : Int × Int => [t.1, t.2]) B.arrows]) 802 3 := Good.tup (b := 400) (k := 2) (m := 2) (fun d hd => by
    simp only [List.mem_cons, List.not_mem_nil, or_false] at hd
    rcases hd with rfl | rfl
    · exact g1
    · exact g2) (by simp)
  exact (Good.tup (b := 802) (k := 3) (m := 3) (fun d hd => by
    simp only [List.mem_cons, List.not_mem_nil, or_false] at hd
    rcases hd with rfl | rfl | rfl
    · exact g12
    · exact g3.up (by omega) (by omega)
    · exact g4.up (by omega) (by omega)) (by simp)).up (by omega) (by omega)
theorem rRepB {K : PySem.W.Frag} {H : Hp} {Q : VK} {A : BA} {B : Br} (h : BriefAt H A B) (ok : B.Ok) (q : Q (.str (briefD B).shown) H) : rReprD K [.ref A.b] H Q := by
  have g := brief_good ok
  exact ⟨A.b, briefD B, rfl, brief_dp h, g.s, g.h, Nat.le_trans g.k (by decide), PySem.PyData.shown_fits_bulk (B := 10) (by decide) (by decide) g.l (Nat.le_trans g.b (by decide)), q⟩
/-! ### promises for any brief -/
def exB (sp : Br → Sp) : Sp := fun vs H Q E => ∃ B : Br, B.Ok ∧ sp B vs H Q E
theorem fn_ex {P : Program} {w : World} {K : PySem.W.Frag} {mg : Str → Option Value} {base : Heap} {k : Nat} {f : Addr} {fd : FuncData} {ps : List Str} {sp : Br → Sp} (h : ∀ B : Br, B.Ok → FnOk P w K mg base CX0 k f fd ps (sp B)) : FnOk P w K mg base CX0 k f fd ps (exB sp) where
  len vs H Q E e := by
    obtain ⟨B, ok, e⟩ := e
    exact (h B ok).len vs H Q E e
  run := by
    intros
    rename_i e
    obtain ⟨B, ok, e⟩ := e
    exact (h B ok).run _ _ _ _ _ _ _ _ _ (by assumption) (by assumption) (by assumption) (by assumption) e
theorem fn_exG {P : Program} {w : World} {K : PySem.W.Frag} {mg : Str → Option Value} {base : Heap} {k : Nat} {f : Addr} {fd : FuncData} {ps : List Str} {sp : Br → Sp} (h : ∀ B : Br, B.Ok → FnG P w K mg base k f fd ps (sp B)) : FnG P w K mg base k f fd ps (exB sp) where
  len vs H Q E e := by
    obtain ⟨B, ok, e⟩ := e
    exact (h B ok).len vs H Q E e
  run := by
    intros
    rename_i e
    obtain ⟨B, ok, e⟩ := e
    exact (h B ok).run _ _ _ _ _ _ _ _ _ (by assumption) (by assumption) (by assumption) (by assumption) (by assumption) e
theorem rIfC {c : Bool} {x y : V} {σ : L2.St} {H : Hp} {Q : VK} (q : ∀ v, v = x ∨ v = y → Q v H) : if c = true then tC x σ H Q else tC y σ H Q := by
  cases c with
  | true => exact q x (.inl rfl)
  | false => exact q y (.inr rfl)
local macro_rules | `(tactic| walk_at "rd1") => `(tactic| first
  | ((with_reducible refine' rVar ?hx ?_); (case hx => rfl))
  | (with_reducible refine rC ?_)
  | (with_reducible refine rOp ?_)
  | (with_reducible refine rUn ?_)
  | (with_reducible refine rI0i ?_)
  | (with_reducible refine rUi ?_)
  | ((with_reducible refine rMulL ?a ?b ?_); (case a => decide); (case b => decide))
  | ((with_reducible refine rMulR ?a ?b ?_); (case a => decide); (case b => decide))
  | ((with_reducible refine rModP ?a ?_); (case a => decide))
  | ((with_reducible refine rDivP ?a ?b ?_); (case a => decide); (case b => decide))
  | ((with_reducible refine rPowL ?a ?b ?c ?_); (case a => decide); (case b => decide); (case c => decide))
  | (with_reducible refine rEqI ?_)
  | (with_reducible refine rNeI ?_)
  | (with_reducible refine rIsNi ?_)
  | (with_reducible refine rIsNn ?_)
  | (with_reducible refine rIsNr ?_)
  | (with_reducible refine rNotNi ?_)
  | (with_reducible refine rNotNn ?_)
  | (with_reducible refine rNotNr ?_)
  | (with_reducible refine rTest ?_)
  | (with_reducible refine rTB ?_)
  | (with_reducible refine rBlV ?_)
  | (with_reducible refine rAnd ?_)
  | (with_reducible refine rOr ?_)
  | (with_reducible refine rNot ?_)
  | (with_reducible refine rAndV ?_)
  | (with_reducible refine rOrV ?_)
  | (with_reducible refine rNotV ?_)
  | (with_reducible refine rIf ?_)
  | (with_reducible refine rNil ?_)
  | (with_reducible refine rCons ?_)
  | (with_reducible refine rTup ?_)
  | (with_reducible refine rLst ?_)
  | (with_reducible refine rCB ?_)
  | (with_reducible refine rCall ?_)
  | (with_reducible refine rBM ?_)
  | (with_reducible refine rMin2i ?_)
  | (with_reducible refine rMax2i ?_)
  | (with_reducible refine rInt1i ?_)
  | (with_reducible refine rPartN ?_)
  | (with_reducible refine rPart ?_)
  | (with_reducible refine rInt ?_)
  | (with_reducible refine rSlS ?_)
  | (with_reducible refine rSFld ?_)
  | (with_reducible refine rSDPut ?_)
  | (with_reducible refine rDGet ?_)
  | (with_reducible refine rDIn ?_)
  | (with_reducible refine rDNotIn ?_)
  | (with_reducible refine rSeq ?_)
  | (with_reducible refine rAsg ?_)
  | (with_reducible refine rName ?_)
  | (with_reducible refine rDrop ?_)
  | (with_reducible refine rRet ?_)
  | (with_reducible refine rIfS ?_)
  | (with_reducible refine rNext ?_)
  | (with_reducible refine rPar ?_)
  | (with_reducible refine rPar2 ?_)
  | (with_reducible refine rMeth ?_)
  | (with_reducible refine rGCons ?_)
  | (with_reducible refine rGNil ?_)
  | (with_reducible refine rForS ?_)
  | (with_reducible refine rLcS ?_)
  | (with_reducible refine rIL ?_)
  | (with_reducible refine rIT ?_)
  | (with_reducible refine rIE ?_)
  | (with_reducible refine rYes ?_)
  | (with_reducible refine rPar3 ?_)
  | (with_reducible refine rPar3v ?_)
  | (with_reducible refine rLstRg ?_)
  | (with_reducible refine rRg1 ?_)
  | (with_reducible refine rIK ?_)
  | (with_reducible refine rIsNs ?_)
  | (with_reducible refine rNeB ?_)
  | (with_reducible refine rIZ ?_)
  | (with_reducible refine rChain ?_)
  | (with_reducible refine rDc2 ?_)
  | (with_reducible refine rDcS ?_)
  | (with_reducible refine rIR3 ?_)
  | (with_reducible refine rMake ?_)
  | (with_reducible refine rIR1 ?_)
  | (with_reducible refine rIR2 ?_)
  | (with_reducible refine rIET ?_)
  | (with_reducible refine ifSn ?_)
  | (with_reducible refine ifNn ?_)
  | (with_reducible refine ifSs ?_)
  | (with_reducible refine ifNs ?_)
  | (with_reducible refine rNotNfs ?_)
  | (with_reducible refine rNotNfn ?_)
  | (with_reducible refine rIsNfs ?_)
  | (with_reducible refine rIsNfn ?_)
  | (with_reducible refine ifT ?_)
  | (with_reducible refine ifF ?_)
  | (with_reducible refine ifNT ?_)
  | (with_reducible refine ifNF ?_))
local macro_rules | `(tactic| walk_at "rd") => `(tactic| (repeat walk_at "rd1"))
def spLaw (K : PySem.W.Frag) : Sp := fun vs H Q _ => ∃ (a : Addr) (ns : List Int), vs = [.ref a] ∧ SqL K H a (ns.map V.int) ∧ ∀ H', Q (.bl true) H'
section
variable {P : Program} {w : World} {K : PySem.W.Frag} {mg : Str → Option Value} {base : Heap} {f : Addr} {fd : FuncData}
abbrev N_l_law : List Str := ["_law_script", "_law_pen", "_law_many", "_law_turn", "_law_size", "_law_most", "_law_brief", "_law_text", "_law_lines", "_law_table"]
theorem sc_l_law : FnScope N_l_law ["_law_script"] (defScope s_l_law) := ⟨rfl, rfl, rfl, by decide +kernel, rfl, by decide +kernel, by decide +kernel⟩
-- slots: 0 _law_script, 1 _law_pen, 2 _law_many, 3 _law_turn, 4 _law_size, 5 _law_most, 6 _law_brief, 7 _law_text, 8 _law_lines, 9 _law_table
theorem ok_law (F : FD K "law" "law" s_l_law f fd) (Z : Fr0 mg) (k_l_open : Cal P w K mg base "_law_open" ["_law_script"] 1 (spOpen K)) (k_l_one_of : Cal P w K mg base "_law_one_of" ["_law_pen", "_law_some"] 3 spOneOf)
    (k_l_draw_brief : Cal P w K mg base "_law_draw_brief" ["_law_pen", "_law_many", "_law_low_most", "_law_wide", "_law_most"] 5 spBrief) (k_find_refutation : Cal P w K mg base "find_refutation" ["brief"] 6 (exB spFindR)) (k_find_table : Cal P w K mg base "find_table" ["brief"] 6 (exB spFindT))
    (k_l_is_refutation : Cal P w K mg base "_law_is_refutation" ["_law_brief", "_law_value"] 5 (exB spIsRef)) {fT : Addr} {fdT : FuncData} (g__law_is_table : CalG P w K mg base "_law_is_table" ["_law_brief", "_law_value"] 4 (exB spIsTable) fT fdT) :
    FnG P w K mg base 7 f fd ["_law_script"] (spLaw K) := by
  refine okG F sc_l_law (fun vs H Q E h => ?_) (fun cdv A0 outer s H vs Q E hr gd h => ?_)
  · obtain ⟨_, _, rfl, _⟩ := h
    rfl
  · obtain ⟨a, ns, rfl, hs, k⟩ := h
    have hu := hu_of hr
    have nd := sc_l_law.nd
    refine ⟨_, PSs.nox (pss_cons (ps_set (i := 1) nd rfl (by first | exact Or.inl rfl | exact Or.inr rfl) (pe_cal k_l_open (hr.mono (by decide)) (by rfl) (pa_cons (pv 0) pa_nil)))
      (pss_cons (ps_set (i := 2) nd rfl (by first | exact Or.inl rfl | exact Or.inr rfl) (pe_cal k_l_one_of (hr.mono (by decide)) (by rfl) (pa_cons (pv 1) (pa_cons (pe_lst (pa_cons pe_int (pa_cons pe_int (pa_cons pe_int (pa_cons pe_int (pa_cons pe_int pa_nil)))))) pa_nil))))
      (pss_cons (ps_for PassesOwn.never rfl (pi_range1 (by rfl) Z.range (pa_cons (pe_ifExp (pt_cmpR op_lt (pv 2) pe_int (nomark _)) pe_int pe_int) pa_nil)) (pg_name (i := 3) nd rfl (by first | exact Or.inl rfl | exact Or.inr rfl))
        (pss_cons (ps_set (i := 4) nd rfl (by first | exact Or.inl rfl | exact Or.inr rfl) (pe_cal k_l_one_of (hr.mono (by decide)) (by rfl) (pa_cons (pv 1) (pa_cons (pe_lst (pa_cons (pe_tup (pa_cons pe_int (pa_cons pe_int pa_nil))) (pa_cons (pe_tup (pa_cons pe_int (pa_cons pe_int pa_nil))) (pa_cons (pe_tup (pa_cons pe_int (pa_cons pe_int pa_nil))) pa_nil)))) pa_nil))))
        (Evl.pss_cut (ps_set (i := 5) nd rfl (by first | exact Or.inl rfl | exact Or.inr rfl) (pe_ifExp (pt_cmpR op_lt (pv 2) pe_int (nomark _)) (pe_cal k_l_one_of (hr.mono (by decide)) (by rfl) (pa_cons (pv 1) (pa_cons (pe_lst (pa_cons pe_int (pa_cons pe_int pa_nil))) pa_nil))) pe_int))
        (pss_cons (ps_set (i := 6) nd rfl (by first | exact Or.inl rfl | exact Or.inr rfl) (pe_cal k_l_draw_brief (hr.mono (by decide)) (by rfl) (pa_cons (pv 1) (pa_cons (pv 2) (pa_cons (pe_ix ix_tup (pv 4) pe_int (fun _ _ => rfl)) (pa_cons (pe_ix ix_tup (pv 4) pe_int (fun _ _ => rfl)) (pa_cons (pv 5) pa_nil)))))))
        (pss_cons (ps_par3 (i := 7) (j := 8) (l := 9) (by rfl) nd rfl rfl rfl (by decide) (by decide) (by decide) rfl rfl rfl (pa_cons (pe_callB (call_reprD gd hr.units) (by rfl) Z.repr (by decide +kernel) (pa_cons (pv 6) pa_nil)) (pa_cons (pe_cal k_find_refutation (hr.mono (by decide)) (by rfl) (pa_cons (pv 6) pa_nil)) (pa_cons (pe_cal k_find_table (hr.mono (by decide)) (by rfl) (pa_cons (pv 6) pa_nil)) pa_nil))) (by rfl))
        (pss_cons (ps_if (PW.pt (pw_or (pt_cmpR op_eq (pe_cmpR op_isN1 (pv 8) pe_non (nomark _)) (pe_cmpR op_isN1 (pv 9) pe_non (nomark _)) (nomark _)) (pw_or1 (pt_cmpR op_ne (pe_callB (call_reprD gd hr.units) (by rfl) Z.repr (by decide +kernel) (pa_cons (pv 6) pa_nil)) (pv 7) (nomark _))))) (pss_one (ps_ret pe_bl)) pss_nil)
        (pss_cons (ps_if (PW.pt (pw_and (pt_cmpR op_notN1 (pv 8) pe_non (nomark _)) (pw_and1 (pt_not (pt_val (pe_cal k_l_is_refutation (hr.mono (by decide)) (by rfl) (pa_cons (pv 6) (pa_cons (pv 8) pa_nil)))))))) (pss_one (ps_ret pe_bl)) pss_nil)
        (pss_one (ps_if (PW.pt (pw_and (pt_cmpR op_notN1 (pv 9) pe_non (nomark _)) (pw_and1 (pt_not (pt_val (pe_callG g__law_is_table.ok (hr.mono (by decide)) gd (by rfl) g__law_is_table.mg g__law_is_table.kp g__law_is_table.bd (pa_cons (pv 6) (pa_cons (pv 9) pa_nil)))))))) (pss_one (ps_ret pe_bl)) pss_nil)))))))))
      (pss_one (ps_ret pe_bl))))), ?_⟩
    walk_at "rd"
    refine ⟨a, ns, rfl, hs, fun pn cl H1 f1 p1 npn ncl => ?_⟩
    walk_at "rd"
    refine rNewL (ok100 rfl) fun L2 H2 n2 f2 t2 => ?_
    walk_at "rd"
    have p2 := p1.f0 f2
    refine ⟨pn, cl, L2, 0, _, rfl, p2, by omega, fun z => p1.live.1 (by rw [← z]; exact n2), t2, by decide, by decide, fun v H3 hv f3 p3 => ?_⟩
    have hm : ∃ m : Nat, v = .int (m : Nat) ∧ 1 ≤ m ∧ m ≤ 4 := by
      simp only [List.mem_cons, List.not_mem_nil, or_false] at hv
      rcases hv with rfl | rfl | rfl | rfl | rfl
      · exact ⟨1, rfl, by omega, by omega⟩
      · exact ⟨2, rfl, by omega, by omega⟩
      · exact ⟨2, rfl, by omega, by omega⟩
      · exact ⟨3, rfl, by omega, by omega⟩
      · exact ⟨4, rfl, by omega, by omega⟩
    obtain ⟨many, rfl, m1, m4⟩ := hm
    walk_at "rd"
    refine rIfC fun v hv => ?_
    obtain ⟨T, rfl, T2⟩ : ∃ T : Int, v = .int T ∧ (0 ≤ T ∧ T ≤ 2) := by
      rcases hv with rfl | rfl
      · exact ⟨2, rfl, by decide⟩
      · exact ⟨1, rfl, by decide⟩
    walk_at "rd"
    refine ⟨_, rfl, by omega, by omega, forJ walk_r0 (fun i σ' H' => ∃ o3 o4 o5 o6 o7 o8 o9 : Option V, σ' = [some (.ref a), some (.ref pn), some (.int (many : Nat)), o3, o4, o5, o6, o7, o8, o9] ∧ Pen H' pn cl (1 + 500 * i)) ⟨_, _, _, _, _, _, _, rfl, p3⟩ (fun _ _ _ _ _ => trivial) ?_ ?_⟩
    · rintro i x σ' H4 H4' hi ⟨o3, o4, o5, o6, o7, o8, o9, rfl, p4⟩ ⟨rfl, rfl⟩
      have hi2 : i < 2 := by omega
      walk_at "rd"
      refine rNewT (ok100 rfl) fun q5 H5 n5 f5 t5 => ?_
      walk_at "rd"
      refine rNewT (ok100 rfl) fun q6 H6 n6 f6 t6 => ?_
      walk_at "rd"
      refine rNewT (ok100 rfl) fun q7 H7 n7 f7 t7 => ?_
      walk_at "rd"
      refine rNewL (ok100 rfl) fun L8 H8 n8 f8 t8 => ?_
      walk_at "rd"
      have g7 := (f5.trans f6).trans f7
      have p8 := p4.f0 (g7.trans f8)
      refine ⟨pn, cl, L8, _, _, rfl, p8, by omega, fun z => (p4.f0 g7).live.1 (by rw [← z]; exact n8), t8, Nat.le_of_ble_eq_true rfl, Nat.le_of_ble_eq_true rfl, fun v H9 hv f9 p9 => ?_⟩
      have hz : ∃ (sz : Addr) (lm wd : Int), v = .ref sz ∧ H9 sz = some (.tup [.int lm, .int wd]) ∧ 1 ≤ lm ∧ lm ≤ 19 ∧ 1 ≤ wd ∧ wd ≤ 19 := by
        simp only [List.mem_cons, List.not_mem_nil, or_false] at hv
        rcases hv with rfl | rfl | rfl
        · exact ⟨_, _, _, rfl, f9.tup _ _ (f8.tup _ _ (f7.tup _ _ (f6.tup _ _ t5))), by decide, by decide, by decide, by decide⟩
        · exact ⟨_, _, _, rfl, f9.tup _ _ (f8.tup _ _ (f7.tup _ _ t6)), by decide, by decide, by decide, by decide⟩
        · exact ⟨_, _, _, rfl, f9.tup _ _ (f8.tup _ _ t7), by decide, by decide, by decide, by decide⟩
      obtain ⟨sz, lm, wd, rfl, hsz, l1, l2, w1, w2⟩ := hz
      walk_at "rd"
      refine rCut (fun σ' H' => ∃ most : Nat, σ' = [some (.ref a), some (.ref pn), some (.int (many : Nat)), some (.int (i : Nat)), some (.ref sz), some (.int (most : Nat)), o6, o7, o8, o9] ∧ Pen H' pn cl (3 + 500 * i) ∧ most ≤ 20 ∧ H' sz = some (.tup [.int lm, .int wd])) ?_ ?_
      · walk_at "rd"
        by_cases m3 : (many : Int) < 3
        · refine ifDt m3 ?_
          walk_at "rd"
          refine rNewL (ok100 rfl) fun L10 H10 n10 f10 t10 => ?_
          walk_at "rd"
          refine ⟨pn, cl, L10, _, _, rfl, p9.f0 f10, by omega, fun z => p9.live.1 (by rw [← z]; exact n10), t10, by decide, by decide, fun v H11 hv f11 p11 => ?_⟩
          have hm : ∃ m : Nat, v = .int (m : Nat) ∧ m ≤ 20 := by
            simp only [List.mem_cons, List.not_mem_nil, or_false] at hv
            rcases hv with rfl | rfl
            · exact ⟨6, rfl, by omega⟩
            · exact ⟨20, rfl, by omega⟩
          obtain ⟨most, rfl, m20⟩ := hm
          walk_at "rd"
          exact ⟨most, rfl, p11.up (by omega), m20, f11.tup _ _ (f10.tup _ _ hsz)⟩
        · refine ifDf m3 ?_
          walk_at "rd"
          exact ⟨6, rfl, p9.up (by omega), by omega, hsz⟩
      · rintro σ' HA ⟨most, rfl, pA, m20, hszA⟩
        walk_at "rd"
        refine rIxTl hszA rfl ?_
        walk_at "rd"
        refine rIxTl hszA rfl ?_
        walk_at "rd"
        refine ⟨pn, cl, _, many, lm, wd, most, rfl, pA, by omega, m1, m4, l1, l2, w1, w2, m20, fun Ab B HB fB pB bf ok => ?_⟩
        walk_at "rd"
        refine rRepB bf ok ?_
        walk_at "rd"
        refine ⟨B, ok, Ab, rfl, bf, ?_, ?_⟩
        · -- no refutation
          intro HC M W fC cl_
          walk_at "rd"
          refine ⟨B, ok, Ab, rfl, bf.fm fC, ?_, ?_⟩
          · rintro HD fD ⟨ls, j, x, h1, h2, h3, h4, h5⟩
            exact (cl_.norefute h1 h2 h3 h4 h5).elim
          · intro q m wd' st HD fD h1 h2 h3 h4 v en
            have g := fC.trans fD
            walk_at "rd"
            refine rEqB ?_
            walk_at "rd"
            refine ifDf (by decide) ?_
            walk_at "rd"
            refine rRepB (bf.fm g) ok ?_
            walk_at "rd"
            refine rNeS (r := false) (by rw [decide_eq_true rfl]; rfl) ?_
            walk_at "rd"
            refine ⟨B, ok, Ab, q, m, wd', st, rfl, bf.fm g, h1, h2, h3, v, en, fun HE fE => ?_⟩
            walk_at "rd"
            exact ⟨_, _, _, _, _, _, _, rfl, (pB.f0 (g.trans fE)).up (by omega)⟩
        · -- a refutation
          intro L ys ls x HC fC hL la lB ll hx e1 e2 e3
          walk_at "rd"
          refine ⟨B, ok, Ab, rfl, bf.fm fC, ?_, ?_⟩
          · intro HD fD _
            have g := fC.trans fD
            walk_at "rd"
            refine rEqB ?_
            walk_at "rd"
            refine ifDf (by decide) ?_
            walk_at "rd"
            refine rRepB (bf.fm g) ok ?_
            walk_at "rd"
            refine rNeS (r := false) (by rw [decide_eq_true rfl]; rfl) ?_
            walk_at "rd"
            refine ⟨B, ok, Ab, L, ys, ls, x, rfl, bf.fm g, fD.oth _ _ (fun z => nomatch z) hL, la.fm fD, lB, hx, e1, e2, e3, fun HE fE => ?_⟩
            walk_at "rd"
            exact ⟨_, _, _, _, _, _, _, rfl, (pB.f0 (g.trans fE)).up (by omega)⟩
          · intro q m wd' st HD fD h1 h2 h3 h4 v en
            exact (en.c.norefute lB hx e1 e2 e3).elim
    · rintro σ' H4 ⟨o3, o4, o5, o6, o7, o8, o9, rfl, p4⟩
      walk_at "rd"
      exact k H4
end
end A68
set_option maxRecDepth 100000
set_option maxHeartbeats 0
/-! The head: what the top of the text leaves, by facts. -/
namespace A68
open PySem PySem.Spec PyProof.Rows L2
def dfs : List He.DefD := [
  ⟨("begin_of", none), "begin_of", "begin_of", defArgs s_p_begin_of, defBody s_p_begin_of, defScope s_p_begin_of, [], []⟩,
  ⟨("end_of", none), "end_of", "end_of", defArgs s_p_end_of, defBody s_p_end_of, defScope s_p_end_of, [], []⟩,
  ⟨("is_end", none), "is_end", "is_end", defArgs s_p_is_end, defBody s_p_is_end, defScope s_p_is_end, [], []⟩,
  ⟨("owner_of", none), "owner_of", "owner_of", defArgs s_p_owner_of, defBody s_p_owner_of, defScope s_p_owner_of, [], []⟩,
  ⟨("all_bounds", none), "all_bounds", "all_bounds", defArgs s_p_all_bounds, defBody s_p_all_bounds, defScope s_p_all_bounds, [], []⟩,
  ⟨("Closing", some "__init__"), "__init__", "Closing.__init__", defArgs s_c_init, defBody s_c_init, defScope s_c_init, [], []⟩,
  ⟨("Closing", some "offer_most"), "offer_most", "Closing.offer_most", defArgs s_c_offer_most, defBody s_c_offer_most, defScope s_c_offer_most, [], []⟩,
  ⟨("Closing", some "offer_wait"), "offer_wait", "Closing.offer_wait", defArgs s_c_offer_wait, defBody s_c_offer_wait, defScope s_c_offer_wait, [], []⟩,
  ⟨("Closing", some "add_up"), "add_up", "Closing.add_up", defArgs s_c_add_up, defBody s_c_add_up, defScope s_c_add_up, [], []⟩,
  ⟨("Closing", some "use_most"), "use_most", "Closing.use_most", defArgs s_c_use_most, defBody s_c_use_most, defScope s_c_use_most, [], []⟩,
  ⟨("Closing", some "use_wait"), "use_wait", "Closing.use_wait", defArgs s_c_use_wait, defBody s_c_use_wait, defScope s_c_use_wait, [], []⟩,
  ⟨("Closing", some "close_once"), "close_once", "Closing.close_once", defArgs s_c_close_once, defBody s_c_close_once, defScope s_c_close_once, [], []⟩,
  ⟨("Closing", some "table"), "table", "Closing.table", defArgs s_c_table, defBody s_c_table, defScope s_c_table, [], []⟩,
  ⟨("lines_in", none), "lines_in", "lines_in", defArgs s_p_lines_in, defBody s_p_lines_in, defScope s_p_lines_in, [], []⟩,
  ⟨("renumbered", none), "renumbered", "renumbered", defArgs s_p_renumbered, defBody s_p_renumbered, defScope s_p_renumbered, [], []⟩,
  ⟨("lines_up_to", none), "lines_up_to", "lines_up_to", defArgs s_p_lines_up_to, defBody s_p_lines_up_to, defScope s_p_lines_up_to, [], []⟩,
  ⟨("find_refutation", none), "find_refutation", "find_refutation", defArgs s_p_find_refutation, defBody s_p_find_refutation, defScope s_p_find_refutation, [], []⟩,
  ⟨("find_table", none), "find_table", "find_table", defArgs s_p_find_table, defBody s_p_find_table, defScope s_p_find_table, [], []⟩,
  ⟨("_law_open", none), "_law_open", "_law_open", defArgs s_l_open, defBody s_l_open, defScope s_l_open, [], []⟩,
  ⟨("_law_spread", none), "_law_spread", "_law_spread", defArgs s_l_spread, defBody s_l_spread, defScope s_l_spread, [], []⟩,
  ⟨("_law_take", none), "_law_take", "_law_take", defArgs s_l_take, defBody s_l_take, defScope s_l_take, [], []⟩,
  ⟨("_law_same", none), "_law_same", "_law_same", defArgs s_l_same, defBody s_l_same, defScope s_l_same, [], []⟩,
  ⟨("_law_one_of", none), "_law_one_of", "_law_one_of", defArgs s_l_one_of, defBody s_l_one_of, defScope s_l_one_of, [], []⟩,
  ⟨("_law_between", none), "_law_between", "_law_between", defArgs s_l_between, defBody s_l_between, defScope s_l_between, [], []⟩,
  ⟨("_law_owner", none), "_law_owner", "_law_owner", defArgs s_l_owner, defBody s_l_owner, defScope s_l_owner, [], []⟩,
  ⟨("_law_is_end", none), "_law_is_end", "_law_is_end", defArgs s_l_is_end, defBody s_l_is_end, defScope s_l_is_end, [], []⟩,
  ⟨("_law_bounds", none), "_law_bounds", "_law_bounds", defArgs s_l_bounds, defBody s_l_bounds, defScope s_l_bounds, [], []⟩,
  ⟨("_law_gives_alone", none), "_law_gives_alone", "_law_gives_alone", defArgs s_l_gives_alone, defBody s_l_gives_alone, defScope s_l_gives_alone, [], []⟩,
  ⟨("_law_gives", none), "_law_gives", "_law_gives", defArgs s_l_gives, defBody s_l_gives, defScope s_l_gives, [], []⟩,
  ⟨("_law_are_lines", none), "_law_are_lines", "_law_are_lines", defArgs s_l_are_lines, defBody s_l_are_lines, defScope s_l_are_lines, [], []⟩,
  ⟨("_law_is_refutation", none), "_law_is_refutation", "_law_is_refutation", defArgs s_l_is_refutation, defBody s_l_is_refutation, defScope s_l_is_refutation, [], []⟩,
  ⟨("_law_is_closed", none), "_law_is_closed", "_law_is_closed", defArgs s_l_is_closed, defBody s_l_is_closed, defScope s_l_is_closed, [], []⟩,
  ⟨("_law_is_table", none), "_law_is_table", "_law_is_table", defArgs s_l_is_table, defBody s_l_is_table, defScope s_l_is_table, [], []⟩,
  ⟨("_law_draw_project", none), "_law_draw_project", "_law_draw_project", defArgs s_l_draw_project, defBody s_l_draw_project, defScope s_l_draw_project, [], []⟩,
  ⟨("_law_draw_nominal", none), "_law_draw_nominal", "_law_draw_nominal", defArgs s_l_draw_nominal, defBody s_l_draw_nominal, defScope s_l_draw_nominal, [], []⟩,
  ⟨("_law_draw_limits", none), "_law_draw_limits", "_law_draw_limits", defArgs s_l_draw_limits, defBody s_l_draw_limits, defScope s_l_draw_limits, [], []⟩,
  ⟨("_law_draw_brief", none), "_law_draw_brief", "_law_draw_brief", defArgs s_l_draw_brief, defBody s_l_draw_brief, defScope s_l_draw_brief, [], []⟩,
  ⟨("law", none), "law", "law", defArgs s_l_law, defBody s_l_law, defScope s_l_law, [], []⟩]
def fas : List He.Fa := [.glo "begin_of", .glo "end_of", .glo "is_end", .glo "owner_of", .glo "all_bounds", .glo "Closing", .glo "lines_in", .glo "renumbered", .glo "lines_up_to", .glo "find_refutation", .glo "find_table", .glo "_law_open", .glo "_law_spread", .glo "_law_take", .glo "_law_same", .glo "_law_one_of", .glo "_law_between", .glo "_law_owner", .glo "_law_is_end", .glo "_law_bounds", .glo "_law_gives_alone", .glo "_law_gives", .glo "_law_are_lines", .glo "_law_is_refutation", .glo "_law_is_closed", .glo "_law_is_table", .glo "_law_draw_project", .glo "_law_draw_nominal", .glo "_law_draw_limits", .glo "_law_draw_brief", .glo "law", .free "list", .free "range", .free "len", .free "enumerate", .free "min", .free "max", .free "any", .free "sorted", .free "tuple", .free "int", .free "isinstance", .free "bool", .free "str", .free "zip", .free "repr", .free "dict", .cls "Closing", .mkr "Closing", .noat "Closing" "tasks", .noat "Closing" "every", .noat "Closing" "lines", .noat "Closing" "mosts", .noat "Closing" "waits", .noat "Closing" "fault", .meth "Closing" "offer_most", .meth "Closing" "offer_wait", .meth "Closing" "add_up", .meth "Closing" "use_most", .meth "Closing" "use_wait", .meth "Closing" "close_once", .meth "Closing" "table"]
def loose : List PySem.Str := ["begin_of", "end_of", "is_end", "owner_of", "all_bounds", "Closing", "lines_in", "renumbered", "lines_up_to", "find_refutation", "find_table", "_law_open", "_law_spread", "_law_take", "_law_same", "_law_one_of", "_law_between", "_law_owner", "_law_is_end", "_law_bounds", "_law_gives_alone", "_law_gives", "_law_are_lines", "_law_is_refutation", "_law_is_closed", "_law_is_table", "_law_draw_project", "_law_draw_nominal", "_law_draw_limits", "_law_draw_brief"]
-- law at 35
abbrev Rw : PySem.W.OpenRow := PySem.W.OpenLaw.row PySem.Challenge.rw_anycritical_k68_whole_one_of_two
abbrev hook : PySem.W.Hook := He.hookD 4 fas dfs
def obs (s : PySem.W.SharedT) : He.AlD := He.obsDG 4 fas dfs (HandSHeadRun.getT s)
theorem obs_eq (s : PySem.W.SharedT) : obs s = hook.obs s.abs := He.obsDG_eq (HandSHeadRun.getT_eq s)
theorem headRun (w : World) : HandSHeadRun.RunEq Rw (PySem.W.view Rw.prog [35]) hook obs 3000 loose w := by
  intro os
  kernel_rfl
end A68
set_option maxRecDepth 100000
set_option maxHeartbeats 0
/-! The head with facts; the row. -/
namespace A68
open PySem PySem.Spec PyProof.Rows L2
theorem facts {P : Program} {w : World} {K : PySem.W.Frag} {h : Heap} {mg : Str → Option Value} {f : Addr} (X : K.In h) (G : h.Ns mainGlobals mg) (hfa : mg ("law" : Str) = some (.ref f)) (c : He.SaysD fas dfs K) :
    ∃ fd : FuncData, (∀ (s : Shared) (v : Value), BindsTo s fd ⟨[v], []⟩ [("_law_script", v)]) ∧ ∀ base : Heap, K.In base → base.Ns mainGlobals mg → FnG P w K mg base 7 f fd ["_law_script"] (spLaw K) := by
  obtain ⟨fd_p_begin_of, F_p_begin_of⟩ := c.def_ 0 (d := ⟨("begin_of", none), "begin_of", "begin_of", defArgs s_p_begin_of, defBody s_p_begin_of, defScope s_p_begin_of, [], []⟩) rfl
  obtain ⟨fd_p_end_of, F_p_end_of⟩ := c.def_ 1 (d := ⟨("end_of", none), "end_of", "end_of", defArgs s_p_end_of, defBody s_p_end_of, defScope s_p_end_of, [], []⟩) rfl
  obtain ⟨fd_p_is_end, F_p_is_end⟩ := c.def_ 2 (d := ⟨("is_end", none), "is_end", "is_end", defArgs s_p_is_end, defBody s_p_is_end, defScope s_p_is_end, [], []⟩) rfl
  obtain ⟨fd_p_owner_of, F_p_owner_of⟩ := c.def_ 3 (d := ⟨("owner_of", none), "owner_of", "owner_of", defArgs s_p_owner_of, defBody s_p_owner_of, defScope s_p_owner_of, [], []⟩) rfl
  obtain ⟨fd_p_all_bounds, F_p_all_bounds⟩ := c.def_ 4 (d := ⟨("all_bounds", none), "all_bounds", "all_bounds", defArgs s_p_all_bounds, defBody s_p_all_bounds, defScope s_p_all_bounds, [], []⟩) rfl
  obtain ⟨fd_c_init, F_c_init⟩ := c.def_ 5 (d := ⟨("Closing", some "__init__"), "__init__", "Closing.__init__", defArgs s_c_init, defBody s_c_init, defScope s_c_init, [], []⟩) rfl
  obtain ⟨fd_c_offer_most, F_c_offer_most⟩ := c.def_ 6 (d := ⟨("Closing", some "offer_most"), "offer_most", "Closing.offer_most", defArgs s_c_offer_most, defBody s_c_offer_most, defScope s_c_offer_most, [], []⟩) rfl
  obtain ⟨fd_c_offer_wait, F_c_offer_wait⟩ := c.def_ 7 (d := ⟨("Closing", some "offer_wait"), "offer_wait", "Closing.offer_wait", defArgs s_c_offer_wait, defBody s_c_offer_wait, defScope s_c_offer_wait, [], []⟩) rfl
  obtain ⟨fd_c_add_up, F_c_add_up⟩ := c.def_ 8 (d := ⟨("Closing", some "add_up"), "add_up", "Closing.add_up", defArgs s_c_add_up, defBody s_c_add_up, defScope s_c_add_up, [], []⟩) rfl
  obtain ⟨fd_c_use_most, F_c_use_most⟩ := c.def_ 9 (d := ⟨("Closing", some "use_most"), "use_most", "Closing.use_most", defArgs s_c_use_most, defBody s_c_use_most, defScope s_c_use_most, [], []⟩) rfl
  obtain ⟨fd_c_use_wait, F_c_use_wait⟩ := c.def_ 10 (d := ⟨("Closing", some "use_wait"), "use_wait", "Closing.use_wait", defArgs s_c_use_wait, defBody s_c_use_wait, defScope s_c_use_wait, [], []⟩) rfl
  obtain ⟨fd_c_close_once, F_c_close_once⟩ := c.def_ 11 (d := ⟨("Closing", some "close_once"), "close_once", "Closing.close_once", defArgs s_c_close_once, defBody s_c_close_once, defScope s_c_close_once, [], []⟩) rfl
  obtain ⟨fd_c_table, F_c_table⟩ := c.def_ 12 (d := ⟨("Closing", some "table"), "table", "Closing.table", defArgs s_c_table, defBody s_c_table, defScope s_c_table, [], []⟩) rfl
  obtain ⟨fd_p_lines_in, F_p_lines_in⟩ := c.def_ 13 (d := ⟨("lines_in", none), "lines_in", "lines_in", defArgs s_p_lines_in, defBody s_p_lines_in, defScope s_p_lines_in, [], []⟩) rfl
  obtain ⟨fd_p_renumbered, F_p_renumbered⟩ := c.def_ 14 (d := ⟨("renumbered", none), "renumbered", "renumbered", defArgs s_p_renumbered, defBody s_p_renumbered, defScope s_p_renumbered, [], []⟩) rfl
  obtain ⟨fd_p_lines_up_to, F_p_lines_up_to⟩ := c.def_ 15 (d := ⟨("lines_up_to", none), "lines_up_to", "lines_up_to", defArgs s_p_lines_up_to, defBody s_p_lines_up_to, defScope s_p_lines_up_to, [], []⟩) rfl
  obtain ⟨fd_p_find_refutation, F_p_find_refutation⟩ := c.def_ 16 (d := ⟨("find_refutation", none), "find_refutation", "find_refutation", defArgs s_p_find_refutation, defBody s_p_find_refutation, defScope s_p_find_refutation, [], []⟩) rfl
  obtain ⟨fd_p_find_table, F_p_find_table⟩ := c.def_ 17 (d := ⟨("find_table", none), "find_table", "find_table", defArgs s_p_find_table, defBody s_p_find_table, defScope s_p_find_table, [], []⟩) rfl
  obtain ⟨fd_l_open, F_l_open⟩ := c.def_ 18 (d := ⟨("_law_open", none), "_law_open", "_law_open", defArgs s_l_open, defBody s_l_open, defScope s_l_open, [], []⟩) rfl
  obtain ⟨fd_l_spread, F_l_spread⟩ := c.def_ 19 (d := ⟨("_law_spread", none), "_law_spread", "_law_spread", defArgs s_l_spread, defBody s_l_spread, defScope s_l_spread, [], []⟩) rfl
  obtain ⟨fd_l_take, F_l_take⟩ := c.def_ 20 (d := ⟨("_law_take", none), "_law_take", "_law_take", defArgs s_l_take, defBody s_l_take, defScope s_l_take, [], []⟩) rfl
  obtain ⟨fd_l_same, F_l_same⟩ := c.def_ 21 (d := ⟨("_law_same", none), "_law_same", "_law_same", defArgs s_l_same, defBody s_l_same, defScope s_l_same, [], []⟩) rfl
  obtain ⟨fd_l_one_of, F_l_one_of⟩ := c.def_ 22 (d := ⟨("_law_one_of", none), "_law_one_of", "_law_one_of", defArgs s_l_one_of, defBody s_l_one_of, defScope s_l_one_of, [], []⟩) rfl
  obtain ⟨fd_l_between, F_l_between⟩ := c.def_ 23 (d := ⟨("_law_between", none), "_law_between", "_law_between", defArgs s_l_between, defBody s_l_between, defScope s_l_between, [], []⟩) rfl
  obtain ⟨fd_l_owner, F_l_owner⟩ := c.def_ 24 (d := ⟨("_law_owner", none), "_law_owner", "_law_owner", defArgs s_l_owner, defBody s_l_owner, defScope s_l_owner, [], []⟩) rfl
  obtain ⟨fd_l_is_end, F_l_is_end⟩ := c.def_ 25 (d := ⟨("_law_is_end", none), "_law_is_end", "_law_is_end", defArgs s_l_is_end, defBody s_l_is_end, defScope s_l_is_end, [], []⟩) rfl
  obtain ⟨fd_l_bounds, F_l_bounds⟩ := c.def_ 26 (d := ⟨("_law_bounds", none), "_law_bounds", "_law_bounds", defArgs s_l_bounds, defBody s_l_bounds, defScope s_l_bounds, [], []⟩) rfl
  obtain ⟨fd_l_gives_alone, F_l_gives_alone⟩ := c.def_ 27 (d := ⟨("_law_gives_alone", none), "_law_gives_alone", "_law_gives_alone", defArgs s_l_gives_alone, defBody s_l_gives_alone, defScope s_l_gives_alone, [], []⟩) rfl
  obtain ⟨fd_l_gives, F_l_gives⟩ := c.def_ 28 (d := ⟨("_law_gives", none), "_law_gives", "_law_gives", defArgs s_l_gives, defBody s_l_gives, defScope s_l_gives, [], []⟩) rfl
  obtain ⟨fd_l_are_lines, F_l_are_lines⟩ := c.def_ 29 (d := ⟨("_law_are_lines", none), "_law_are_lines", "_law_are_lines", defArgs s_l_are_lines, defBody s_l_are_lines, defScope s_l_are_lines, [], []⟩) rfl
  obtain ⟨fd_l_is_refutation, F_l_is_refutation⟩ := c.def_ 30 (d := ⟨("_law_is_refutation", none), "_law_is_refutation", "_law_is_refutation", defArgs s_l_is_refutation, defBody s_l_is_refutation, defScope s_l_is_refutation, [], []⟩) rfl
  obtain ⟨fd_l_is_closed, F_l_is_closed⟩ := c.def_ 31 (d := ⟨("_law_is_closed", none), "_law_is_closed", "_law_is_closed", defArgs s_l_is_closed, defBody s_l_is_closed, defScope s_l_is_closed, [], []⟩) rfl
  obtain ⟨fd_l_is_table, F_l_is_table⟩ := c.def_ 32 (d := ⟨("_law_is_table", none), "_law_is_table", "_law_is_table", defArgs s_l_is_table, defBody s_l_is_table, defScope s_l_is_table, [], []⟩) rfl
  obtain ⟨fd_l_draw_project, F_l_draw_project⟩ := c.def_ 33 (d := ⟨("_law_draw_project", none), "_law_draw_project", "_law_draw_project", defArgs s_l_draw_project, defBody s_l_draw_project, defScope s_l_draw_project, [], []⟩) rfl
  obtain ⟨fd_l_draw_nominal, F_l_draw_nominal⟩ := c.def_ 34 (d := ⟨("_law_draw_nominal", none), "_law_draw_nominal", "_law_draw_nominal", defArgs s_l_draw_nominal, defBody s_l_draw_nominal, defScope s_l_draw_nominal, [], []⟩) rfl
  obtain ⟨fd_l_draw_limits, F_l_draw_limits⟩ := c.def_ 35 (d := ⟨("_law_draw_limits", none), "_law_draw_limits", "_law_draw_limits", defArgs s_l_draw_limits, defBody s_l_draw_limits, defScope s_l_draw_limits, [], []⟩) rfl
  obtain ⟨fd_l_draw_brief, F_l_draw_brief⟩ := c.def_ 36 (d := ⟨("_law_draw_brief", none), "_law_draw_brief", "_law_draw_brief", defArgs s_l_draw_brief, defBody s_l_draw_brief, defScope s_l_draw_brief, [], []⟩) rfl
  obtain ⟨fd_l_law, F_l_law⟩ := c.def_ 37 (d := ⟨("law", none), "law", "law", defArgs s_l_law, defBody s_l_law, defScope s_l_law, [], []⟩) rfl
  have e := hfa.symm.trans (He.glo_ok X G (c.fact 30 (f := .glo "law") rfl))
  cases e
  have b := FunD.bindsA (ps := ["_law_script"]) F_l_law fun _ _ _ _ _ _ us hl => match us, hl with | [_], _ => rfl
  have Z : Fr0 mg := ⟨He.free_ok X G (c.fact 31 (f := .free "list") rfl), He.free_ok X G (c.fact 32 (f := .free "range") rfl), He.free_ok X G (c.fact 33 (f := .free "len") rfl), He.free_ok X G (c.fact 34 (f := .free "enumerate") rfl), He.free_ok X G (c.fact 35 (f := .free "min") rfl), He.free_ok X G (c.fact 36 (f := .free "max") rfl), He.free_ok X G (c.fact 37 (f := .free "any") rfl), He.free_ok X G (c.fact 38 (f := .free "sorted") rfl), He.free_ok X G (c.fact 39 (f := .free "tuple") rfl), He.free_ok X G (c.fact 40 (f := .free "int") rfl), He.free_ok X G (c.fact 41 (f := .free "isinstance") rfl), He.free_ok X G (c.fact 42 (f := .free "bool") rfl), He.free_ok X G (c.fact 43 (f := .free "str") rfl), He.free_ok X G (c.fact 44 (f := .free "zip") rfl), He.free_ok X G (c.fact 45 (f := .free "repr") rfl), He.free_ok X G (c.fact 46 (f := .free "dict") rfl)⟩
  have T : Tx K mg (He.ga K "Closing") := ⟨He.cls_ok (c.fact 47 (f := .cls "Closing") rfl), He.noat_ok (c.fact 49 (f := .noat "Closing" "tasks") rfl), He.noat_ok (c.fact 50 (f := .noat "Closing" "every") rfl), He.noat_ok (c.fact 51 (f := .noat "Closing" "lines") rfl), He.noat_ok (c.fact 52 (f := .noat "Closing" "mosts") rfl), He.noat_ok (c.fact 53 (f := .noat "Closing" "waits") rfl), He.noat_ok (c.fact 54 (f := .noat "Closing" "fault") rfl), He.glo_ok X G (c.fact 5 (f := .glo "Closing") rfl)⟩
  refine ⟨fd_l_law, fun s v => b s [v] rfl, fun base _ _ => ?_⟩
  have k_begin_of : Cal P w K mg base "begin_of" ["task"] 1 (spI1 fun n => .int (2 * n + 1)) := ⟨_, _, ok_begin_of F_p_begin_of, He.glo_ok X G (c.fact 0 (f := .glo "begin_of") rfl), F_p_begin_of.kp, (F_p_begin_of.bindsN (ps := ["task"]) fun _ _ _ _ _ _ us hl => match us, hl with | [_], _ => rfl)⟩
  have k_end_of : Cal P w K mg base "end_of" ["task"] 1 (spI1 fun n => .int (2 * n + 2)) := ⟨_, _, ok_end_of F_p_end_of, He.glo_ok X G (c.fact 1 (f := .glo "end_of") rfl), F_p_end_of.kp, (F_p_end_of.bindsN (ps := ["task"]) fun _ _ _ _ _ _ us hl => match us, hl with | [_], _ => rfl)⟩
  have k_is_end : Cal P w K mg base "is_end" ["event"] 1 (spI1 fun n => .bl (isEndB n)) := ⟨_, _, ok_is_end F_p_is_end, He.glo_ok X G (c.fact 2 (f := .glo "is_end") rfl), F_p_is_end.kp, (F_p_is_end.bindsN (ps := ["event"]) fun _ _ _ _ _ _ us hl => match us, hl with | [_], _ => rfl)⟩
  have k_owner_of : Cal P w K mg base "owner_of" ["event"] 1 (spI1 ownV) := ⟨_, _, ok_owner_of F_p_owner_of, He.glo_ok X G (c.fact 3 (f := .glo "owner_of") rfl), F_p_owner_of.kp, (F_p_owner_of.bindsN (ps := ["event"]) fun _ _ _ _ _ _ us hl => match us, hl with | [_], _ => rfl)⟩
  have k_all_bounds : ∀ B : Br, B.Ok → Cal P w K mg base "all_bounds" ["brief"] 2 (spBounds B) := fun B ok => ⟨_, _, ok_all_bounds ok F_p_all_bounds Z k_begin_of k_end_of, He.glo_ok X G (c.fact 4 (f := .glo "all_bounds") rfl), F_p_all_bounds.kp, (F_p_all_bounds.bindsN (ps := ["brief"]) fun _ _ _ _ _ _ us hl => match us, hl with | [_], _ => rfl)⟩
  have c_om : ∀ B : Br, CalM P w K mg base (He.ga K "Closing") "offer_most" ["self", "a", "b", "w", "reason"] 1 (spOfferM (He.ga K "Closing") B) := fun B => ⟨_, _, ok_offer_most F_c_offer_most T Z, He.meth_ok (c.fact 55 (f := .meth "Closing" "offer_most") rfl), (F_c_offer_most.bindsN (ps := ["self", "a", "b", "w", "reason"]) fun _ _ _ _ _ _ us hl => match us, hl with | [_, _, _, _, _], _ => rfl)⟩
  have c_ow : ∀ B : Br, CalM P w K mg base (He.ga K "Closing") "offer_wait" ["self", "task", "event", "w", "reason"] 1 (spOfferW (He.ga K "Closing") B) := fun B => ⟨_, _, ok_offer_wait F_c_offer_wait T Z, He.meth_ok (c.fact 56 (f := .meth "Closing" "offer_wait") rfl), (F_c_offer_wait.bindsN (ps := ["self", "task", "event", "w", "reason"]) fun _ _ _ _ _ _ us hl => match us, hl with | [_, _, _, _, _], _ => rfl)⟩
  have c_au : ∀ B : Br, CalM P w K mg base (He.ga K "Closing") "add_up" ["self", "a", "b", "c"] 2 (spAdd (He.ga K "Closing") B) := fun B => ⟨_, _, ok_add_up F_c_add_up T Z (c_om B), He.meth_ok (c.fact 57 (f := .meth "Closing" "add_up") rfl), (F_c_add_up.bindsN (ps := ["self", "a", "b", "c"]) fun _ _ _ _ _ _ us hl => match us, hl with | [_, _, _, _], _ => rfl)⟩
  have c_um : ∀ B : Br, CalM P w K mg base (He.ga K "Closing") "use_most" ["self", "a", "b"] 2 (spUseM (He.ga K "Closing") B) := fun B => ⟨_, _, ok_use_most F_c_use_most T Z (c_om B) k_owner_of k_is_end k_begin_of, He.meth_ok (c.fact 58 (f := .meth "Closing" "use_most") rfl), (F_c_use_most.bindsN (ps := ["self", "a", "b"]) fun _ _ _ _ _ _ us hl => match us, hl with | [_, _, _], _ => rfl)⟩
  have c_uw : ∀ B : Br, B.Ok → CalM P w K mg base (He.ga K "Closing") "use_wait" ["self", "task", "event"] 2 (spUseW (He.ga K "Closing") B) := fun B ok => ⟨_, _, ok_use_wait ok F_c_use_wait T Z (c_om B) (c_ow B) k_owner_of k_is_end k_begin_of k_end_of, He.meth_ok (c.fact 59 (f := .meth "Closing" "use_wait") rfl), (F_c_use_wait.bindsN (ps := ["self", "task", "event"]) fun _ _ _ _ _ _ us hl => match us, hl with | [_, _, _], _ => rfl)⟩
  have c_co : ∀ B : Br, B.Ok → CalM P w K mg base (He.ga K "Closing") "close_once" ["self"] 3 (spClose (He.ga K "Closing") B) := fun B ok => ⟨_, _, ok_close_once ok F_c_close_once T Z (c_uw B ok) (c_um B) (c_au B), He.meth_ok (c.fact 60 (f := .meth "Closing" "close_once") rfl), (F_c_close_once.bindsN (ps := ["self"]) fun _ _ _ _ _ _ us hl => match us, hl with | [_], _ => rfl)⟩
  have c_ta : ∀ B : Br, B.Ok → CalM P w K mg base (He.ga K "Closing") "table" ["self"] 2 (spTable (He.ga K "Closing") B) := fun B ok => ⟨_, _, ok_table ok F_c_table T Z k_end_of, He.meth_ok (c.fact 61 (f := .meth "Closing" "table") rfl), (F_c_table.bindsN (ps := ["self"]) fun _ _ _ _ _ _ us hl => match us, hl with | [_], _ => rfl)⟩
  have ci : ∀ B : Br, B.Ok → CalI P w K mg base (He.ga K "Closing") B := fun B ok => ⟨_, _, ok_init ok F_c_init T Z (c_om B) (c_ow B) (c_co B ok) k_end_of (k_all_bounds B ok), He.mkr_ok (c.fact 48 (f := .mkr "Closing") rfl), (F_c_init.bindsN (ps := ["self", "brief"]) fun _ _ _ _ _ _ us hl => match us, hl with | [_, _], _ => rfl)⟩
  have k_lines_in : Cal P w K mg base "lines_in" ["line"] 1 (spLinesIn) := ⟨_, _, ok_lines_in F_p_lines_in, He.glo_ok X G (c.fact 6 (f := .glo "lines_in") rfl), F_p_lines_in.kp, (F_p_lines_in.bindsN (ps := ["line"]) fun _ _ _ _ _ _ us hl => match us, hl with | [_], _ => rfl)⟩
  have k_renumbered : Cal P w K mg base "renumbered" ["line", "places"] 2 (spRenum) := ⟨_, _, ok_renumbered F_p_renumbered Z k_lines_in, He.glo_ok X G (c.fact 7 (f := .glo "renumbered") rfl), F_p_renumbered.kp, (F_p_renumbered.bindsN (ps := ["line", "places"]) fun _ _ _ _ _ _ us hl => match us, hl with | [_, _], _ => rfl)⟩
  have k_lines_up_to : ∀ B : Br, Cal P w K mg base "lines_up_to" ["lines", "last"] 3 (spUpTo B) := fun B => ⟨_, _, ok_lines_up_to F_p_lines_up_to Z k_lines_in k_renumbered, He.glo_ok X G (c.fact 8 (f := .glo "lines_up_to") rfl), F_p_lines_up_to.kp, (F_p_lines_up_to.bindsN (ps := ["lines", "last"]) fun _ _ _ _ _ _ us hl => match us, hl with | [_, _], _ => rfl)⟩
  have k_find_refutation : Cal P w K mg base "find_refutation" ["brief"] 6 (exB spFindR) := ⟨_, _, fn_ex fun B ok => ok_find_refutation ok F_p_find_refutation T (ci B ok) (k_lines_up_to B), He.glo_ok X G (c.fact 9 (f := .glo "find_refutation") rfl), F_p_find_refutation.kp, (F_p_find_refutation.bindsN (ps := ["brief"]) fun _ _ _ _ _ _ us hl => match us, hl with | [_], _ => rfl)⟩
  have k_find_table : Cal P w K mg base "find_table" ["brief"] 6 (exB spFindT) := ⟨_, _, fn_ex fun B ok => ok_find_table ok F_p_find_table T (ci B ok) (c_ta B ok), He.glo_ok X G (c.fact 10 (f := .glo "find_table") rfl), F_p_find_table.kp, (F_p_find_table.bindsN (ps := ["brief"]) fun _ _ _ _ _ _ us hl => match us, hl with | [_], _ => rfl)⟩
  have k_l_open : Cal P w K mg base "_law_open" ["_law_script"] 1 (spOpen K) := ⟨_, _, ok_open F_l_open Z, He.glo_ok X G (c.fact 11 (f := .glo "_law_open") rfl), F_l_open.kp, (F_l_open.bindsN (ps := ["_law_script"]) fun _ _ _ _ _ _ us hl => match us, hl with | [_], _ => rfl)⟩
  have k_l_spread : Cal P w K mg base "_law_spread" ["_law_cell", "_law_at"] 1 (spSpread) := ⟨_, _, ok_spread F_l_spread Z, He.glo_ok X G (c.fact 12 (f := .glo "_law_spread") rfl), F_l_spread.kp, (F_l_spread.bindsN (ps := ["_law_cell", "_law_at"]) fun _ _ _ _ _ _ us hl => match us, hl with | [_, _], _ => rfl)⟩
  have k_l_take : Cal P w K mg base "_law_take" ["_law_pen", "_law_amount"] 2 (spTake) := ⟨_, _, ok_take F_l_take Z k_l_spread, He.glo_ok X G (c.fact 13 (f := .glo "_law_take") rfl), F_l_take.kp, (F_l_take.bindsN (ps := ["_law_pen", "_law_amount"]) fun _ _ _ _ _ _ us hl => match us, hl with | [_, _], _ => rfl)⟩
  have k_l_one_of : Cal P w K mg base "_law_one_of" ["_law_pen", "_law_some"] 3 (spOneOf) := ⟨_, _, ok_one_of F_l_one_of Z k_l_take, He.glo_ok X G (c.fact 15 (f := .glo "_law_one_of") rfl), F_l_one_of.kp, (F_l_one_of.bindsN (ps := ["_law_pen", "_law_some"]) fun _ _ _ _ _ _ us hl => match us, hl with | [_, _], _ => rfl)⟩
  have k_same0 : Cal P w K mg base "_law_same" ["_law_found", "_law_due"] 1 (spNo) := ⟨_, _, ok_same_no F_l_same, He.glo_ok X G (c.fact 14 (f := .glo "_law_same") rfl), F_l_same.kp, (F_l_same.bindsN (ps := ["_law_found", "_law_due"]) fun _ _ _ _ _ _ us hl => match us, hl with | [_, _], _ => rfl)⟩
  have k_same1 : Cal P w K mg base "_law_same" ["_law_found", "_law_due"] 2 (spFlat) := ⟨_, _, ok_same_flat F_l_same Z k_same0, He.glo_ok X G (c.fact 14 (f := .glo "_law_same") rfl), F_l_same.kp, (F_l_same.bindsN (ps := ["_law_found", "_law_due"]) fun _ _ _ _ _ _ us hl => match us, hl with | [_, _], _ => rfl)⟩
  have k_same : Cal P w K mg base "_law_same" ["_law_found", "_law_due"] 3 (spSameT) := ⟨_, _, ok_same F_l_same Z k_same1, He.glo_ok X G (c.fact 14 (f := .glo "_law_same") rfl), F_l_same.kp, (F_l_same.bindsN (ps := ["_law_found", "_law_due"]) fun _ _ _ _ _ _ us hl => match us, hl with | [_, _], _ => rfl)⟩
  have k_l_between : Cal P w K mg base "_law_between" ["_law_value", "_law_low", "_law_high"] 1 (spBetween) := ⟨_, _, ok_l_between F_l_between Z, He.glo_ok X G (c.fact 16 (f := .glo "_law_between") rfl), F_l_between.kp, (F_l_between.bindsN (ps := ["_law_value", "_law_low", "_law_high"]) fun _ _ _ _ _ _ us hl => match us, hl with | [_, _, _], _ => rfl)⟩
  have k_l_owner : Cal P w K mg base "_law_owner" ["_law_event"] 1 (spI1 fun n => .int (own n)) := ⟨_, _, ok_l_owner F_l_owner, He.glo_ok X G (c.fact 17 (f := .glo "_law_owner") rfl), F_l_owner.kp, (F_l_owner.bindsN (ps := ["_law_event"]) fun _ _ _ _ _ _ us hl => match us, hl with | [_], _ => rfl)⟩
  have k_l_is_end : Cal P w K mg base "_law_is_end" ["_law_event"] 2 (spI1 fun n => .bl (isEndB n)) := ⟨_, _, ok_l_is_end F_l_is_end k_l_owner, He.glo_ok X G (c.fact 18 (f := .glo "_law_is_end") rfl), F_l_is_end.kp, (F_l_is_end.bindsN (ps := ["_law_event"]) fun _ _ _ _ _ _ us hl => match us, hl with | [_], _ => rfl)⟩
  have k_l_bounds : ∀ B : Br, B.Ok → Cal P w K mg base "_law_bounds" ["_law_brief"] 1 (spBounds B) := fun B ok => ⟨_, _, ok_l_bounds ok F_l_bounds Z, He.glo_ok X G (c.fact 19 (f := .glo "_law_bounds") rfl), F_l_bounds.kp, (F_l_bounds.bindsN (ps := ["_law_brief"]) fun _ _ _ _ _ _ us hl => match us, hl with | [_], _ => rfl)⟩
  have k_l_gives_alone : ∀ B : Br, B.Ok → Cal P w K mg base "_law_gives_alone" ["_law_brief", "_law_word", "_law_k"] 2 (spAlone B) := fun B ok => ⟨_, _, ok_l_gives_alone ok F_l_gives_alone Z (k_l_bounds B ok) k_l_between, He.glo_ok X G (c.fact 20 (f := .glo "_law_gives_alone") rfl), F_l_gives_alone.kp, (F_l_gives_alone.bindsN (ps := ["_law_brief", "_law_word", "_law_k"]) fun _ _ _ _ _ _ us hl => match us, hl with | [_, _, _], _ => rfl)⟩
  have k_l_gives : ∀ B : Br, B.Ok → Cal P w K mg base "_law_gives" ["_law_brief", "_law_earlier", "_law_many", "_law_reason"] 3 (spGives B) := fun B ok => ⟨_, _, ok_l_gives ok F_l_gives Z (k_l_gives_alone B ok) k_l_between k_l_owner k_l_is_end, He.glo_ok X G (c.fact 21 (f := .glo "_law_gives") rfl), F_l_gives.kp, (F_l_gives.bindsN (ps := ["_law_brief", "_law_earlier", "_law_many", "_law_reason"]) fun _ _ _ _ _ _ us hl => match us, hl with | [_, _, _, _], _ => rfl)⟩
  have k_l_are_lines : ∀ B : Br, B.Ok → Cal P w K mg base "_law_are_lines" ["_law_brief", "_law_value"] 4 (spAre B) := fun B ok => ⟨_, _, ok_are_lines F_l_are_lines Z k_same (k_l_gives B ok), He.glo_ok X G (c.fact 22 (f := .glo "_law_are_lines") rfl), F_l_are_lines.kp, (F_l_are_lines.bindsN (ps := ["_law_brief", "_law_value"]) fun _ _ _ _ _ _ us hl => match us, hl with | [_, _], _ => rfl)⟩
  have k_l_is_refutation : Cal P w K mg base "_law_is_refutation" ["_law_brief", "_law_value"] 5 (exB spIsRef) := ⟨_, _, fn_ex fun B ok => ok_is_refutation F_l_is_refutation Z (k_l_are_lines B ok), He.glo_ok X G (c.fact 23 (f := .glo "_law_is_refutation") rfl), F_l_is_refutation.kp, (F_l_is_refutation.bindsN (ps := ["_law_brief", "_law_value"]) fun _ _ _ _ _ _ us hl => match us, hl with | [_, _], _ => rfl)⟩
  have k_l_is_closed : ∀ B : Br, B.Ok → Cal P w K mg base "_law_is_closed" ["_law_brief", "_law_table"] 3 (spIsClosed B) := fun B ok => ⟨_, _, ok_is_closed ok F_l_is_closed Z (k_l_bounds B ok) k_l_owner k_l_is_end, He.glo_ok X G (c.fact 24 (f := .glo "_law_is_closed") rfl), F_l_is_closed.kp, (F_l_is_closed.bindsN (ps := ["_law_brief", "_law_table"]) fun _ _ _ _ _ _ us hl => match us, hl with | [_, _], _ => rfl)⟩
  have g_table : CalG P w K mg base "_law_is_table" ["_law_brief", "_law_value"] 4 (exB spIsTable) _ fd_l_is_table := ⟨fn_exG fun B ok => ok_is_table ok F_l_is_table Z k_l_between (k_l_is_closed B ok), He.glo_ok X G (c.fact 25 (f := .glo "_law_is_table") rfl), F_l_is_table.kp, (F_l_is_table.bindsN (ps := ["_law_brief", "_law_value"]) fun _ _ _ _ _ _ us hl => match us, hl with | [_, _], _ => rfl)⟩
  have k_l_draw_project : Cal P w K mg base "_law_draw_project" ["_law_pen", "_law_many", "_law_low_most", "_law_wide"] 4 (spProject) := ⟨_, _, ok_draw_project F_l_draw_project Z k_l_take k_l_one_of, He.glo_ok X G (c.fact 26 (f := .glo "_law_draw_project") rfl), F_l_draw_project.kp, (F_l_draw_project.bindsN (ps := ["_law_pen", "_law_many", "_law_low_most", "_law_wide"]) fun _ _ _ _ _ _ us hl => match us, hl with | [_, _, _, _], _ => rfl)⟩
  have k_l_draw_nominal : Cal P w K mg base "_law_draw_nominal" ["_law_pen", "_law_project"] 4 (spNominal) := ⟨_, _, ok_draw_nominal F_l_draw_nominal Z k_l_take k_l_one_of, He.glo_ok X G (c.fact 27 (f := .glo "_law_draw_nominal") rfl), F_l_draw_nominal.kp, (F_l_draw_nominal.bindsN (ps := ["_law_pen", "_law_project"]) fun _ _ _ _ _ _ us hl => match us, hl with | [_, _], _ => rfl)⟩
  have k_l_draw_limits : ∀ B0, Cal P w K mg base "_law_draw_limits" ["_law_pen", "_law_moments", "_law_most", "_law_loose"] 4 (spLimits B0) := fun B0 => ⟨_, _, ok_draw_limits B0 F_l_draw_limits Z k_l_take k_l_one_of, He.glo_ok X G (c.fact 28 (f := .glo "_law_draw_limits") rfl), F_l_draw_limits.kp, (F_l_draw_limits.bindsN (ps := ["_law_pen", "_law_moments", "_law_most", "_law_loose"]) fun _ _ _ _ _ _ us hl => match us, hl with | [_, _, _, _], _ => rfl)⟩
  have k_l_draw_brief : Cal P w K mg base "_law_draw_brief" ["_law_pen", "_law_many", "_law_low_most", "_law_wide", "_law_most"] 5 (spBrief) := ⟨_, _, ok_draw_brief F_l_draw_brief Z k_l_one_of k_l_draw_project k_l_draw_nominal k_l_draw_limits, He.glo_ok X G (c.fact 29 (f := .glo "_law_draw_brief") rfl), F_l_draw_brief.kp, (F_l_draw_brief.bindsN (ps := ["_law_pen", "_law_many", "_law_low_most", "_law_wide", "_law_most"]) fun _ _ _ _ _ _ us hl => match us, hl with | [_, _, _, _, _], _ => rfl)⟩
  exact ok_law F_l_law Z k_l_open k_l_one_of k_l_draw_brief k_find_refutation k_find_table k_l_is_refutation g_table
end A68
open PySem PySem.W PySem.Calls PyProof.Rows
theorem PySem.Challenge.cw_anycritical_k68_whole_one_of_two_holds : PySem.Challenge.rw_anycritical_k68_whole_one_of_two.Holds := by
  w_on; o_law
  refine HandSHeadRun.head_any (r := OpenLaw.row PySem.Challenge.rw_anycritical_k68_whole_one_of_two) (q := view (OpenLaw.row PySem.Challenge.rw_anycritical_k68_whole_one_of_two).prog [35]) (H := A68.hook) (ob := A68.obs) (M := 3000) (loose := A68.loose) (d := HandSHeadRun.topDef (OpenLaw.row PySem.Challenge.rw_anycritical_k68_whole_one_of_two).prog 35) (kwd := []) A68.obs_eq
    (by kernel_rfl) (fun s => by kernel_rfl) A68.headRun (by kernel_rfl) (by kernel_rfl) (by kernel_rfl) (by rfl) (by first | assumption | decide +kernel) (by decide +kernel) ⟨rfl, rfl, rfl, rfl, rfl, by decide +kernel⟩ ?hw ?hc
  case hw => w_witness2
  case hc =>
    refine A68.walkG (l := PySem.Challenge.rw_anycritical_k68_whole_one_of_two) (n := 63) (k := 7) (x := "_law_script") rfl (by decide) (by kernel_rfl) ⟨rfl, by decide, by decide⟩ ?F
    intro w mg fa h Y G hmg0
    obtain ⟨K, KX, c⟩ := Y
    have hmg : mg ("law" : PySem.Str) = some (.ref fa) := by
      have e : (HandSHeadRun.topDef (OpenLaw.row PySem.Challenge.rw_anycritical_k68_whole_one_of_two).prog 35).name = ("law" : PySem.Str) := by kernel_rfl
      rw [← e]
      exact hmg0
    obtain ⟨fd, hb, hF⟩ := A68.facts (P := (PySem.Challenge.rw_anycritical_k68_whole_one_of_two).prog) (w := w) KX G hmg c
    exact ⟨K, fd, A68.spLaw K, KX, hb, fun H a ns hl _ hS => ⟨a, ns, rfl, hS, fun _ => rfl⟩, hF⟩
