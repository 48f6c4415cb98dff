import PyProof.Rows.All
import Wide.All
import OpenK.AllK
import Wide.FinOn
import HandS.ForMost
import HandS.ForExc
import HandS.Evl
import HandS.IsInst
import HandS.TupMul
import HandS.TupAny
import HandS.Deep
import HandS.TryMany
import HandS.ExcInit
import HandS.ExcIs
import KE.GoesEnum
import KE.KTupSum
import HandS.ClsMeth
import HandS.DictComp
import HandS.Defaults
import HandS.CallSlots
import HandS.Lambda
import HandS.EndTab
import KE.BitLaws
import HandS.Text
import HandS.Conv
import HandS.WordsDict
import HandS.ExcField
import HandS.TryElse
import HandS.TupSets
import HandS.SortRule
import HandS.ExcInitHot
import HandS.DictSubView
import HandS.Iter
import PySem.Challenge.RW_tossrow_k12_halls
set_option Elab.async false
set_option linter.all false
set_option maxRecDepth 100000
set_option maxHeartbeats 2000000
/-! Own rules beside the hand layer: enumerate over a tuple, list + list of any standing, sums and bounds of tuples, the call of one of two listed defs, the base's own __init__ called by an exception. -/
namespace Tr
open PySem L2 PySem.Spec PyProof.Rows

/-! ### either of two readings -/
section
variable {X : Cx}
theorem pe_either {e : Expr} {t u : TE} (h : PE X e t) (k : PE X e u) : PE X e (fun σ H Q => t σ H Q ∨ u σ H Q) :=
  ⟨fun pins s σ H Q I w => w.elim (fun a => h.run pins s σ H Q I a) fun b => k.run pins s σ H Q I b⟩
theorem ps_either {c : Stmt} {t u : TS} (h : PS X c t) (k : PS X c u) : PS X c (fun D σ H => t D σ H ∨ u D σ H) :=
  ⟨fun pins s σ H D I w => w.elim (fun a => h.run pins s σ H D I a) fun b => k.run pins s σ H D I b⟩
theorem pi_either {tg e : Expr} {t u : TI} (h : PI X tg e t) (k : PI X tg e u) : PI X tg e (fun σ H R => t σ H R ∨ u σ H R) :=
  ⟨fun pins s σ H R I w => w.elim (fun a => h.run pins s σ H R I a) fun b => k.run pins s σ H R I b⟩
end

/-! ### enumerate(tuple) -/
def ItU (K : PySem.W.Frag) (a : Addr) : It where
  go := fun i H => ∃ (xs : List V) (x : V), SqT K H a xs ∧ xs[i]? = some x
  yld := fun i H v H' => ∃ (T : Addr) (x : V), v = .ref T ∧ H T = none ∧ H' = upd H T (.tup [.int (i : Nat), x]) ∧ ∀ xs : List V, SqT K H a xs → xs[i]? = some x
  stop := fun i H => ∃ xs : List V, SqT K H a xs ∧ xs.length ≤ i

section
open Builtin
set_option maxHeartbeats 1000000 in
theorem enum_new1 {v : Value} {o : Obj} {H : Heap → Prop} (B : Begins v o H) :
    Meets (Builtin.«enumerate.__new__» ⟨[.type "enumerate", v], []⟩) (fun _ R s => H s.heap ∧
      R (.ok (.ret (.ref (s.heap.push o).objs.size)))
        { s with heap := (s.heap.push o).push { cls := .type "enumerate", data := .fields #[.none, .bool false, .ref s.heap.objs.size, rawInt 0, .none, .none] } }) :=
  .of_wp fun prog w A R s hh => by
    obtain ⟨hp, g, d, tk, os⟩ := s
    obtain ⟨h1, h⟩ := hh
    have hsub := sub_enumerate
    have step : ∀ {A' : Around} {E : Value → Shared → Prop} {Q : Value → Shared → Prop}, Q (.ref hp.objs.size) ⟨hp.push o, g, d, tk, os⟩ → wpAny (model prog w) A' (pyIter v) Q E ⟨hp, g, d, tk, os⟩ :=
      fun q => B.iter prog w _ _ ⟨hp, g, d, tk, os⟩ _ h1 q
    wp_walk using step
    refine wpAny_stack_any fun st => wpAny_pure ?_
    split
    · rename_i c _ _ _ _ _
      cases (c == Value.type "enumerate") <;> (wp_walk using step; exact ⟨_, rfl, h⟩)
    · wp_walk using step
      exact ⟨_, rfl, h⟩
theorem enum_call1 {prog : Program} {w : World} {A : Around} {E : Value → Shared → Prop} {s : Shared} {v : Value} {o : Obj} {H : Heap → Prop} {Q : Value → Shared → Prop} (B : Begins v o H) (h1 : H s.heap)
    (h : ∀ h', IsEnum h' (s.heap.objs.size + 1) s.heap.objs.size 0 .none → h'.get? s.heap.objs.size = some o → h'.objs.size = s.heap.objs.size + 2 →
      (∀ b ob, s.heap.get? b = some ob → h'.get? b = some ob) → Q (.ref (s.heap.objs.size + 1)) { s with heap := h' }) :
    wpAny (model prog w) A (call (.type "enumerate") [v]) Q E s := by
  refine callType_new F.called_enumerate (by decide) (F.typeCall_enumerate_1 _) (F.newCall_enumerate_1 _) (fun obj => F.args_object_init_2 obj _) F.entry_enumerate_new (enum_new1 B) ⟨h1, ?_⟩
  have hz : (s.heap.push o).objs.size = s.heap.objs.size + 1 := Heap.size_push ..
  show _ ∧ _
  rw [hz]
  have he : IsEnum ((s.heap.push o).push { cls := .type "enumerate", data := .fields #[.none, .bool false, .ref s.heap.objs.size, rawInt 0, .none, .none] }) (s.heap.objs.size + 1) s.heap.objs.size 0 .none := by
    have z := Heap.get?_push_size (s.heap.push o) (o := { cls := .type "enumerate", data := .fields #[.none, .bool false, .ref s.heap.objs.size, rawInt 0, .none, .none] }) rfl
    rw [hz] at z
    exact z
  exact ⟨⟨_, he, rfl⟩, h _ he (Heap.get?_push_of_some _ (Heap.get?_push_size _ B.free)) (by rw [Heap.size_push, hz]) fun b ob x => Heap.get?_push_of_some _ (Heap.get?_push_of_some _ x)⟩
end

theorem turnU {P : Program} {w : World} {K : PySem.W.Frag} {elts : List Expr} {kk : Nat} {tpos : Pos} (a e it : Addr) :
    Turn P w K (.Tuple elts kk tpos) (ItU K a) [e, it] e (fun i h => (∃ old, IsEnum h e it ((i : Nat) : Int) old) ∧ h.IsTupleIter it a i ∧ e ≠ it) where
  mem := List.mem_cons_self
  obj := fun i h st b hb => by
    obtain ⟨⟨old, he⟩, ⟨o, ho, hc, hd⟩, _⟩ := st
    rcases (show b = e ∨ b = it by simpa using hb) with rfl | rfl
    · exact ⟨_, he, fun v q => nomatch q⟩
    · exact ⟨o, ho, fun v q => by rw [hd] at q; cases q⟩
  keep := fun i h h' st k => ⟨let ⟨old, he⟩ := st.1; ⟨old, k e (by simp) _ he⟩, st.2.1.at fun o q => k it (by simp) o q, st.2.2⟩
  item := by
    intro X hP hw hK hc i pins s σ H E I hf st hg
    subst hP hw hK
    obtain ⟨⟨old, he⟩, hit, hne⟩ := st
    obtain ⟨xs, x, hq, hx⟩ := hg
    obtain ⟨its, rv, p, hz⟩ := I.tuple hq
    obtain ⟨u, hu, ru⟩ := rv.get hx
    have hel : e < s.heap.objs.size := Heap.lt_size he
    have hil : it < s.heap.objs.size := by
      obtain ⟨_, q, _⟩ := hit
      exact Heap.lt_size q
    have hai : a ≠ it := fun z => by
      obtain ⟨o1, g1, c1, d1⟩ := hit
      obtain ⟨o2, g2, c2, _⟩ := p
      rw [z, g1] at g2
      cases g2
      rw [c1] at c2
      exact absurd (Value.type.inj c2) (by decide)
    have hea : e ≠ a := fun z => by
      obtain ⟨o2, g2, c2, _⟩ := p
      rw [← z, he] at g2
      cases g2
      exact absurd (Value.type.inj c2) (by decide)
    have D := Draws.tuple (prog := X.prog) (w := X.w) (A := X.A.in1) (I.ok.hd hc) it a hai its.toArray
    have hlt : i < its.toArray.size := by
      have z := (List.getElem?_eq_some_iff.mp hu).1
      simpa using z
    refine wpAny_pyNext_enum_itemC D he ⟨hit, p⟩ hlt hne (by simp [hne, hea]) fun y h' tk hy ho hst hT hsz hk => ?_
    have hyu : y = u := by
      have hy' : its.toArray[i]? = some y := hy
      rw [List.getElem?_toArray, hu] at hy'
      exact (Option.some.inj hy').symm
    subst hyu
    refine ⟨_, rfl, wpAny_letOwnedTupleGo_enum (s := { s with heap := h', toks := tk + 1 }) ho fun h'' he' sb => ?_⟩
    have hT2 : h''.get? s.heap.objs.size = some { cls := .type "tuple", data := .seq #[.int i tk, y] } := (sb.2 _ (Nat.ne_of_gt hel)).trans hT
    have new : ObjOk X.prog X.w (upd H s.heap.objs.size (.tup [.int (i : Nat), x])) h'' s.heap.objs.size (.tup [.int (i : Nat), x]) :=
      ⟨by show 2 ≤ sizeLine; decide, [.int i tk, y], .cons ⟨_, rfl⟩ (.cons ru .nil), ⟨_, hT2, rfl, _, rfl⟩⟩
    have J : Inv X pins σ (upd H s.heap.objs.size (.tup [.int (i : Nat), x])) { s with heap := h'', toks := tk + 1 } :=
      I.turnedNew (ch := [e, it]) (fun b ob hb q => (sb.2 b (fun z => hb (by simp [z]))).trans (hk b ob (fun z => hb (by simp [z])) (fun z => hb (by simp [z])) q)) hf (Nat.le_refl _) new
    refine ⟨.ref s.heap.objs.size, _, J, rfl, ⟨_, x, rfl, I.hok.fresh (Nat.le_refl _), rfl, fun ys hy => by rw [I.tuple_inj hy hq]; exact hx⟩, ⟨⟨y, ?_⟩, hst.1.at fun o q => (sb.2 it (Ne.symm hne)).trans q, hne⟩, fun b hb => ?_⟩
    · rw [show ((i + 1 : Nat) : Int) = (i : Int) + 1 by omega]
      exact he'
    · have hb' : b < s.heap.objs.size := by
        rcases (show b = e ∨ b = it by simpa using hb) with z | z <;> rw [z] <;> assumption
      rw [upd_ne (Nat.ne_of_lt hb')]
      exact (hf b hb).1
  done := by
    intro X hP hw hK hc i pins s σ H E I hf st hg
    subst hP hw hK
    obtain ⟨⟨old, he⟩, hit, hne⟩ := st
    obtain ⟨xs, hq, hx⟩ := hg
    obtain ⟨its, rv, p, hz⟩ := I.tuple hq
    obtain ⟨f0, f1, f2, f3, f4, f5⟩ := hf it (by simp)
    have hl := rv.length
    have hT : s.TypeIs (.ref e) "enumerate" := ⟨_, he, rfl⟩
    unfold pyNext
    refine wpAny_bind (wpAny_attempt (wpAny_callSpecial?_slot (name := Str.ofString "__next__") hT F.slot_enumerate_next
      (wpAny_call_entry F.slot_enumerate_next hT F.entry_enumerate_next ?_ (F.args_enumerate_next_1 _))))
    show wpAny _ _ (field (.ref e) 2 >>= _) _ _ _
    refine wpAny_bind (wpAny_field he rfl (x := .ref it) rfl ?_)
    refine wpAny_bind (wpAny_nextOf_tuple_end (I.ok.hd hc) hit p (by simp; omega) fun h' x he' hx' => ?_)
    obtain ⟨o, ho, hcl⟩ := hx'
    refine wpAny_bind (wpAny_isInstance (T := "StopIteration") (b := true) ⟨o, ho, hcl⟩ isSubtype_stop ?_)
    exact wpAny_pure ⟨rfl, I.turned (t' := s.toks) (fun b ob hb q => he' b ob hb q) f0 f1 f3 f4 f5⟩
  self := fun A i s Q E st h => let ⟨_, he⟩ := st.1; wpAny_pyIter_enum he h
def iEnumT (K : PySem.W.Frag) (ta : TA) : TI := fun σ H R => ta σ H fun vs H1 => ∃ (a : Addr) (xs : List V), vs = [.ref a] ∧ SqT K H1 a xs ∧ R (ItU K a) H1
theorem pi_enumT {X : Cx} {e : Expr} {ta : TA} {p pos tpos : Pos} {elts : List Expr} {kk : Nat} (hg : Gl X "enumerate") (hm : X.mg "enumerate" = none) (ha : PA X [e] ta) (hs : starEach [e] X.env = [(false, eval e X.env)] := by rfl) :
    PI X (.Tuple elts kk tpos) (.Call (.Name "enumerate" p) [e] [] pos) (iEnumT X.K ta) := by
  refine ⟨fun pins s σ H R I h => ?_⟩
  refine Call_ (ld_blt I hg hm boot_enumerate (PyProof.Rows.callWith_type1 (thn (ha.run pos pins s σ H _ I h) fun us s1 ⟨vs, H1, I1, r1, a, xs, ex, hq, q⟩ => ?_) hs rfl))
  subst ex
  obtain ⟨u, rfl, ru⟩ := vals1 r1
  cases ru
  obtain ⟨its, rv, p', hz⟩ := I1.tuple hq
  refine enum_call1 (begins_tuple a its.toArray) p' fun h' he hit hsz hk => wpAny_pyIter_enum he ?_
  refine ⟨s1.heap.objs.size + 1, [s1.heap.objs.size + 1, s1.heap.objs.size], _, _, H1, rfl, I1.kept (t' := s1.toks) hk, turnU a (s1.heap.objs.size + 1) s1.heap.objs.size, ⟨⟨.none, he⟩, ⟨_, hit, rfl, rfl⟩, Nat.succ_ne_self _⟩, fun b hb => ?_, q⟩
  have hle : s1.heap.objs.size ≤ b := by
    rcases (show b = s1.heap.objs.size + 1 ∨ b = s1.heap.objs.size by simpa using hb) with z | z
    · rw [z]
      exact Nat.le_add_right _ _
    · rw [z]
      exact Nat.le_refl _
  exact I1.fpOk hle (I1.hok.fresh hle)

/-! ### list + list, wherever the two stand -/
def rCatS (K : PySem.W.Frag) : R2 := fun x y H Q => ∃ (l b : Addr) (xs zs : List V), x = .ref l ∧ y = .ref b ∧ SqL K H l xs ∧ SqL K H b zs ∧ xs.length + zs.length ≤ sizeLine ∧ ∀ p, H p = none → Q (.ref p) (upd H p (.lst (xs ++ zs)))
theorem op_catS {X : Cx} : OpR X (binaryOp .Add) (rCatS X.K) := by
  intro pins s σ H x y v u Q I rx ry h
  obtain ⟨l, b, xs, zs, rfl, rfl, hl, hb, hz, q⟩ := h
  cases rx
  cases ry
  obtain ⟨its, r1, p1, _⟩ := I.list hl
  obtain ⟨jts, r2, p2, _⟩ := I.list hb
  obtain ⟨⟨oc, od, dt, sl⟩, n1, e1, c1, f1, d1⟩ := p1
  obtain ⟨⟨oc2, od2, dt2, sl2⟩, n2, e2, c2, f2, d2⟩ := p2
  simp only at c1 d1 f1 c2 d2 f2
  subst c1 d1 f1 c2 d2 f2
  have l1 := r1.length
  have l2 := r2.length
  have hz2 : its.toArray.size + jts.toArray.size ≤ sizeLine := by
    simp only [List.size_toArray]
    omega
  refine concat_meets ⟨_, e1, rfl⟩ ⟨_, e2, rfl⟩ noFill_list_add seq_list_add PySem.F.slot_list_add PySem.F.entry_list_add (PySem.F.args_list_add_2 _ _)
    (list_addW l b its.toArray jts.toArray n1 n2 none none sl sl2 hz2) ⟨e1, e2, ?_⟩
  rw [show its.toArray ++ jts.toArray = (its ++ jts).toArray by simp]
  exact ⟨.ref _, _, I.lnew (t' := s.toks) (r1.append r2) (by rw [List.length_append]; omega), rfl, q _ I.fresh⟩
end Tr

/-! Own rules, the second part: sum, least and greatest of a tuple of ints; a call of one of two defs that a list holds; promises held by name; an exception's own __init__ that calls its base's. -/
namespace Tr
open PySem L2 PySem.Spec PyProof.Rows

/-! ### sum, min, max of a tuple of ints -/
section
variable {prog : Program} {w : World} {A : Around} {E : Value → Shared → Prop} {s : Shared} {t : Addr} {its : List Value} {ns : List Int} {Q : Value → Shared → Prop}
theorem sum_tupW (hh : A.handled = none) (ht : s.heap.IsTuple t its.toArray) (hi : IntsAre its ns)
    (h : ∀ h' tk u, (∀ b o, s.heap.get? b = some o → h'.get? b = some o) → Q (.int ns.sum u) { s with heap := h', toks := tk }) : wpAny (model prog w) A (call (.builtin "sum") [.ref t]) Q E s := by
  obtain ⟨xs, e⟩ := hi.allInts.items
  have hn : numsOf (intItems xs).toList = ns := by
    rw [← e]
    exact hi.numsOf
  rw [nums_intItems] at hn
  rw [e] at ht
  refine PySem.W.ktm_sumG hh ht fun h' tk u hk => ?_
  have z := h h' tk u hk
  rw [preSum_eq, List.take_of_length_le (by simp), hn]
  exact z
theorem tup_iter (hh : A.handled = none) {xs : Array (Int × Tok)} (ht : s.heap.IsTuple t (intItems xs))
    (h : ∀ s2 : Shared, s2 = { s with heap := s.heap.push { cls := .type "tuple_iterator", data := .fields #[.ref t, .int 0 0] } } →
      (s2.heap.IsTupleIter s.heap.objs.size t 0 ∧ s2.heap.IsTuple t (intItems xs)) → (∀ b ∈ [s.heap.objs.size, t], b < s2.heap.objs.size) → t ≠ s.heap.objs.size → Q (.ref s.heap.objs.size) s2) :
    wpAny (model prog w) A (pyIter (.ref t)) Q E s := by
  have hlt : t < s.heap.objs.size := by
    obtain ⟨_, e, _⟩ := ht
    exact Heap.lt_size e
  refine wpAny_pyIter_tuple ht (h _ rfl ⟨⟨_, Heap.get?_push_size _ rfl, rfl, rfl⟩, ht.at fun o e => Heap.get?_push_of_some _ e⟩ (fun b hb => ?_) (Nat.ne_of_lt hlt))
  show b < (s.heap.push _).objs.size
  rw [Heap.size_push]
  rcases (show b = s.heap.objs.size ∨ b = t by simpa using hb) with rfl | rfl
  · exact Nat.lt_succ_self _
  · exact Nat.lt_succ_of_lt hlt
theorem tup_kept {h' : Heap} (hk : ∀ b o, b ∉ [s.heap.objs.size] → (s.heap.push { cls := .type "tuple_iterator", data := .fields #[.ref t, .int 0 0] }).get? b = some o → h'.get? b = some o) (b : Addr) (o : Obj) (e : s.heap.get? b = some o) : h'.get? b = some o :=
  hk b o (fun hm => absurd ((List.mem_singleton.mp hm) ▸ Heap.lt_size e) (Nat.lt_irrefl _)) (Heap.get?_push_of_some _ e)
theorem min_tupW (hh : A.handled = none) (ht : s.heap.IsTuple t its.toArray) (hi : IntsAre its ns) (hne : 0 < ns.length)
    (h : ∀ h' tk M u, (∀ b o, s.heap.get? b = some o → h'.get? b = some o) → M ∈ ns → (∀ a, a ∈ ns → M ≤ a) → Q (.int M u) { s with heap := h', toks := tk }) : wpAny (model prog w) A (call (.builtin "min") [.ref t]) Q E s := by
  obtain ⟨xs, e⟩ := hi.allInts.items
  have hn : numsOf (intItems xs).toList = ns := by
    rw [← e]
    exact hi.numsOf
  rw [nums_intItems] at hn
  subst hn
  rw [e] at ht
  have hsz : 0 < xs.size := by simpa using hne
  refine call_min_walk (tup_iter hh ht fun s2 e2 st hfp hlI => ?_)
  subst e2
  refine ⟨_, _, _, _, _, _, _, rfl, Walks.tuple (A := A.in1) hh _ t hlI (intItems xs), st, hfp, by simpa [intItems] using hsz, CmpOf.ints_lt (numAt xs) (fun _ _ => intItems_at), fun v h' tk hP hk => ?_⟩
  have hP' : (intItems xs)[argBest (fun i j => decide (numAt xs i < numAt xs j)) (xs.size - 1)]? = some v := by simpa [intItems] using hP
  obtain ⟨u, rfl⟩ := intItems_at hP'
  obtain ⟨g1, g2⟩ := argBest_lt (numAt xs) (xs.size - 1)
  refine h h' tk _ u (tup_kept hk) ?_ fun a ha => ?_
  · rw [numAt_eq]
    exact PySem.getD_mem (by rw [List.length_map, Array.length_toList]; omega)
  · obtain ⟨j, hj, rfl⟩ := mem_getD ha
    rw [List.length_map, Array.length_toList] at hj
    rw [← numAt_eq]
    exact g2 j (by omega)
theorem max_tupW (hh : A.handled = none) (ht : s.heap.IsTuple t its.toArray) (hi : IntsAre its ns) (hne : 0 < ns.length)
    (h : ∀ h' tk M u, (∀ b o, s.heap.get? b = some o → h'.get? b = some o) → M ∈ ns → (∀ a, a ∈ ns → a ≤ M) → Q (.int M u) { s with heap := h', toks := tk }) : wpAny (model prog w) A (call (.builtin "max") [.ref t]) Q E s := by
  obtain ⟨xs, e⟩ := hi.allInts.items
  have hn : numsOf (intItems xs).toList = ns := by
    rw [← e]
    exact hi.numsOf
  rw [nums_intItems] at hn
  subst hn
  rw [e] at ht
  have hsz : 0 < xs.size := by simpa using hne
  refine call_max_walk (tup_iter hh ht fun s2 e2 st hfp hlI => ?_)
  subst e2
  refine ⟨_, _, _, _, _, _, _, rfl, Walks.tuple (A := A.in1) hh _ t hlI (intItems xs), st, hfp, by simpa [intItems] using hsz, CmpOf.ints_gt (numAt xs) (fun _ _ => intItems_at), fun v h' tk hP hk => ?_⟩
  have hP' : (intItems xs)[argBest (fun i j => decide (numAt xs i > numAt xs j)) (xs.size - 1)]? = some v := by simpa [intItems] using hP
  obtain ⟨u, rfl⟩ := intItems_at hP'
  obtain ⟨g1, g2⟩ := argBest_gt (numAt xs) (xs.size - 1)
  refine h h' tk _ u (tup_kept hk) ?_ fun a ha => ?_
  · rw [numAt_eq]
    exact PySem.getD_mem (by rw [List.length_map, Array.length_toList]; omega)
  · obtain ⟨j, hj, rfl⟩ := mem_getD ha
    rw [List.length_map, Array.length_toList] at hj
    rw [← numAt_eq]
    exact g2 j (by omega)
end
def rSumT (K : PySem.W.Frag) : List V → Hp → VK → Prop := fun vs H Q => ∃ (a : Addr) (ns : List Int), vs = [V.ref a] ∧ SqT K H a (ns.map V.int) ∧ Q (.int ns.sum) H
def rMinT (K : PySem.W.Frag) : List V → Hp → VK → Prop := fun vs H Q => ∃ (a : Addr) (ns : List Int), vs = [V.ref a] ∧ SqT K H a (ns.map V.int) ∧ 0 < ns.length ∧ ∀ m, m ∈ ns → (∀ y, y ∈ ns → m ≤ y) → Q (.int m) H
def rMaxT (K : PySem.W.Frag) : List V → Hp → VK → Prop := fun vs H Q => ∃ (a : Addr) (ns : List Int), vs = [V.ref a] ∧ SqT K H a (ns.map V.int) ∧ 0 < ns.length ∧ ∀ m, m ∈ ns → (∀ y, y ∈ ns → y ≤ m) → Q (.int m) H
section
variable {X : Cx}
theorem cr_sumT (hc : X.calm = true) : CallR X (.builtin "sum") (rSumT X.K) := by
  intro pins s σ H vs us Q I r h
  obtain ⟨a, ns, rfl, hs, q⟩ := h
  obtain ⟨its, rv, hl, _⟩ := I.tuple hs
  rw [Vals.ref1 r]
  exact sum_tupW (I.ok.hd hc) hl rv.ints fun h' tk u hk => ⟨.int _, H, I.kept hk, ⟨_, rfl⟩, q⟩
theorem cr_minT (hc : X.calm = true) : CallR X (.builtin "min") (rMinT X.K) := by
  intro pins s σ H vs us Q I r h
  obtain ⟨a, ns, rfl, hs, hne, q⟩ := h
  obtain ⟨its, rv, hl, _⟩ := I.tuple hs
  rw [Vals.ref1 r]
  exact min_tupW (I.ok.hd hc) hl rv.ints hne fun h' tk m u hk h1 h2 => ⟨.int _, H, I.kept hk, ⟨_, rfl⟩, q m h1 h2⟩
theorem cr_maxT (hc : X.calm = true) : CallR X (.builtin "max") (rMaxT X.K) := by
  intro pins s σ H vs us Q I r h
  obtain ⟨a, ns, rfl, hs, hne, q⟩ := h
  obtain ⟨its, rv, hl, _⟩ := I.tuple hs
  rw [Vals.ref1 r]
  exact max_tupW (I.ok.hd hc) hl rv.ints hne fun h' tk m u hk h1 h2 => ⟨.int _, H, I.kept hk, ⟨_, rfl⟩, q m h1 h2⟩
end

/-! ### a def of the text, and a def with its promise -/
/-- the def x of the text st stands at f -/
structure DefAt (K : PySem.W.Frag) (mg : Str → Option Value) (x : Str) (st : Stmt) (ps : List Str) (f : Addr) : Prop where
  fn : ∃ fd, Fun K x x st f fd ∧ Binds K fd ps []
  g : mg x = some (.ref f)
/-- the def x, at f, keeps its promise -/
structure PD (P : Program) (w : World) (K : PySem.W.Frag) (mg : Str → Option Value) (base : Heap) (k : Nat) (x : Str) (f : Addr) (ps : List Str) (sp : Sp) : Prop where
  fn : ∃ fd, FnOk P w K mg base (L2.CX P w) k f fd ps sp ∧ Binds K fd ps []
  g : mg x = some (.ref f)
  kp : PySem.W.keepIn K (.ref f) = true
section
variable {P : Program} {w : World} {K : PySem.W.Frag} {mg : Str → Option Value} {base : Heap}
theorem DefAt.keeps {x : Str} {st : Stmt} {f : Addr} {N ps : List Str} {k : Nat} {sp : Sp} (D : DefAt K mg x st ps f) (S : FnScope N ps (defScope st)) (len : ∀ vs H Q E, sp vs H Q E → vs.length = ps.length)
    (hbody : ∀ (cdv : Value) (A : Around) (outer : List Env) (s : Shared) (H : Hp) (vs : List V) (Q : VK) (E : XK), Room k (A.deeper (envOfC x (defScope st) s.heap.objs.size f cdv)) → sp vs H Q E →
      ∃ t, PSs (cxOf (L2.CX P w) P w K mg base N x (defScope st) f cdv A outer s H E) (defBody st) t ∧ t { nx := fun _ H' => Q .non H', rt := Q } (start N vs) H) : PD P w K mg base (k + 1) x f ps sp := by
  obtain ⟨fd, F, b⟩ := D.fn
  exact ⟨⟨fd, F.okX S len hbody, b⟩, D.g, F.kp⟩
theorem PD.up {j k : Nat} {x : Str} {f : Addr} {ps : List Str} {sp : Sp} (D : PD P w K mg base j x f ps sp) (h : j ≤ k) : PD P w K mg base k x f ps sp := by
  obtain ⟨fd, F, b⟩ := D.fn
  exact ⟨⟨fd, F.mono h, b⟩, D.g, D.kp⟩
end
section
variable {X : Cx} {k j : Nat} {f g : Addr} {ps qs : List Str} {sp sq : Sp} {E : XK} {W : WX} {x y : Str} {p pos : Pos} {e fe : Expr} {es : List Expr} {t : TA} {tf : TE}
theorem pe_pd (D : PD X.prog X.w X.K X.mg X.base k x f ps sp) (hr : Room k X.A) (hx : Passes (L2.CX X.prog X.w) X E) (hg : Gl X x) (ha : PA X (e :: es) t) (hdb : (x == ("__debug__" : Str)) = false := by decide)
    (he : starEach (e :: es) X.env = (false, eval e X.env) :: starEach es X.env := by rfl) (hpl : (backTo pos (starEach es X.env)).any (·.1) = false := by rfl) :
    PE X (.Call (.Name x p) (e :: es) [] pos) (tCall sp [] E t) := by
  obtain ⟨fd, F, b⟩ := D.fn
  exact pe_call F hr hg D.g D.kp b .nil hx ha hdb he hpl
/-- the same within a try's body: what is raised is wished for at the slots -/
theorem pe_pdS {E : L2.St → XK} (D : PD X.prog X.w X.K X.mg X.base k x f ps sp) (hr : Room k X.A) (hx : ∀ σ, PassesAt (L2.CX X.prog X.w) X σ (E σ)) (hg : Gl X x) (ha : PA X (e :: es) t) (hdb : (x == ("__debug__" : Str)) = false := by decide)
    (he : starEach (e :: es) X.env = (false, eval e X.env) :: starEach es X.env := by rfl) (hpl : (backTo pos (starEach es X.env)).any (·.1) = false := by rfl) :
    PE X (.Call (.Name x p) (e :: es) [] pos) (tCallS sp E t) := by
  obtain ⟨fd, F, b⟩ := D.fn
  exact pe_callS F hr hg D.g D.kp b hx ha hdb he hpl
/-- what is raised in a call leaves the def -/
theorem passE {Y : Cx} (tk : Takes Y (fun cls d _ H => E cls d H)) : Passes (L2.CX Y.prog Y.w) Y E := passes_call tk fun _ _ _ _ h => h
/-- a def as a value -/
theorem pe_def (D : PD X.prog X.w X.K X.mg X.base k x f ps sp) (hg : Gl X x) (hdb : (x == ("__debug__" : Str)) = false := by decide) : PE X (.Name x p) (tC (.ref f)) := pe_glob hg D.g rfl hdb
/-- fe(e, ..), fe an expression that gives one of two defs -/
def tCall2 (f g : Addr) (sp sq : Sp) (E : XK) (tf : TE) (t : TA) : TE := fun σ H Q => tf σ H fun v H1 => (v = .ref f ∧ t σ H1 fun vs H2 => sp vs H2 Q E) ∨ (v = .ref g ∧ t σ H1 fun vs H2 => sq vs H2 Q E)
theorem pe_call2 (D : PD X.prog X.w X.K X.mg X.base k x f ps sp) (C : PD X.prog X.w X.K X.mg X.base k y g qs sq) (hr : Room k X.A) (hx : Passes (L2.CX X.prog X.w) X E) (hf : PE X fe tf) (ha : PA X (e :: es) t)
    (ht : eval (.Call fe (e :: es) [] pos) X.env = (do callWith pos (← eval fe X.env) [] (backTo pos (starEach (e :: es) X.env)) (backToKw pos (keywordEach [] X.env))) := by rfl)
    (he : starEach (e :: es) X.env = (false, eval e X.env) :: starEach es X.env := by rfl) (hpl : (backTo pos (starEach es X.env)).any (·.1) = false := by rfl) :
    PE X (.Call fe (e :: es) [] pos) (tCall2 f g sp sq E tf t) := by
  obtain ⟨fd, F, b⟩ := D.fn
  obtain ⟨gd, G, c⟩ := C.fn
  refine ⟨fun pins s σ H Q I h => ?_⟩
  refine Call_ (thn (hf.run pins s σ H _ I h) fun u s1 ⟨v, H1, I1, rv, q⟩ => ?_) ht
  rcases q with ⟨rfl, q⟩ | ⟨rfl, q⟩
  · cases rv
    refine PySem.W.callWith_K (h₀ := X.base) I.ok.mod.kin D.kp (thn (ha.run pos pins s1 σ H1 _ I1 q) fun us s2 ⟨vs, H2, I2, r, q2⟩ => ⟨I2.kIn, ?_⟩) he hpl
    exact run_fn F hr b .nil hx I2 r (by rw [List.append_nil]; exact q2)
  · cases rv
    refine PySem.W.callWith_K (h₀ := X.base) I.ok.mod.kin C.kp (thn (ha.run pos pins s1 σ H1 _ I1 q) fun us s2 ⟨vs, H2, I2, r, q2⟩ => ⟨I2.kIn, ?_⟩) he hpl
    exact run_fn G hr c .nil hx I2 r (by rw [List.append_nil]; exact q2)
end
end Tr

/-! Own rules, the third part: own errors. A class over an own class over ValueError, with a text alone, or with an __init__ that calls its base's and stores one or two fields. -/
namespace Tr
open PySem L2 PySem.Spec PyProof.Rows

/-- what the written part says of an own error class -/
structure ExK (K : PySem.W.Frag) (mg : Str → Option Value) (x : Str) (C : Addr) : Prop where
  g : mg x = some (.ref C)
  kp : PySem.W.keepIn K (.ref C) = true
  sb : PySem.W.subIn K (.ref C) (.type "BaseException") = some true
  ty : PySem.W.typeIn K (.ref C) = some (.type "type")
  ic : PySem.W.isClsIn K C = true
/-- .. without an __init__ of its own -/
structure ExP (K : PySem.W.Frag) (mg : Str → Option Value) (x : Str) (C : Addr) : Prop extends ExK K mg x C where
  xq : PySem.W.excIn K C [.type "ValueError", .type "Exception", .type "BaseException", .type "object"] "ValueError.__new__" = true
/-- .. with one, at fI -/
structure ExI (K : PySem.W.Frag) (mg : Str → Option Value) (x : Str) (C fI : Addr) : Prop extends ExK K mg x C where
  ox : OexC K C
  at_ : PySem.W.findIn K (.ref C) "__init__" = some (some (.ref fI))
  tI : PySem.W.typeIn K (.ref fI) = some (.type "function")
/-- the base's __init__, called by the base's name -/
structure ExB (K : PySem.W.Frag) (mg : Str → Option Value) (x : Str) (T : Addr) : Prop where
  g : mg x = some (.ref T)
  rd : PySem.W.readsIn K T (.type "type") = true
  ga : PySem.W.specialIn K (.ref T) "__getattribute__" = some (some (.builtin "type.__getattribute__"))
  at_ : PySem.W.findCls K (.ref T) (.type "type") "__init__" = some (.val (.builtin "ValueError.__init__"))

section
variable {X : Cx} {C T fI : Addr} {x m : Str} {j : Nat} {p p1 p2 pos pos2 : Pos} {e : Expr} {es : List Expr} {ta : TA} {W : WX}
/-- raise x('..') -/
theorem ps_raiseP (hc : X.calm = true) (tk : Takes X W) (P : ExP X.K X.mg x C) (hg : Gl X x) (hdb : (x == ("__debug__" : Str)) = false := by decide) :
    PS X (.Raise (some (.Call (.Name x p) [.Constant (.str m) j p1] [] pos)) none pos2) (fun _ σ H => W (.ref C) none σ H) :=
  ps_raise hc tk (pmk_own PySem.F.excBase_ValueError P.xq P.g P.kp (raises_own P.sb P.ty) hg hdb)
/-- Base.__init__(self, ..) -/
theorem pe_baseinit {pl : Sem Bool} (B : ExB X.K X.mg x T) (hg : Gl X x) (ha : PA X (e :: es) ta) (hdb : (x == ("__debug__" : Str)) = false := by decide)
    (hc : eval (.Call (.Attribute (.Name x p1) "__init__" p2) (e :: es) [] pos) X.env = (do
      let ov ← eval (.Name x p1) X.env
      standAt p2.atName
      let (f, first) ← holding [ov] (getMethod ov "__init__" pl)
      callWith pos f first (backTo pos (starEach (e :: es) X.env)) (backToKw pos (keywordEach [] X.env))) := by rfl)
    (he : starEach (e :: es) X.env = (false, eval e X.env) :: starEach es X.env := by rfl) (hpl : (backTo pos (starEach es X.env)).any (·.1) = false := by rfl) :
    PE X (.Call (.Attribute (.Name x p1) "__init__" p2) (e :: es) [] pos) (tVeI X.K ta) := by
  refine ⟨fun pins s σ H Q I h => ?_⟩
  refine PySem.W.methodCall_KW (ld_glob I hg B.g ?_ hdb) hc
  refine PySem.W.method_cls I.kIn B.ga (PySem.W.cls_value I.kIn B.rd B.at_ (by decide +kernel) ?_)
  show wpAny _ _ (callWith pos (Value.builtin "ValueError.__init__") [] (backTo pos (starEach (e :: es) X.env)) []) _ _ _
  refine PyProof.Rows.callWith_method1 (thn (ha.run pos pins _ σ H _ (I.tok _) h) fun us s1 ⟨vs, H1, I1, r1, a, D, ws, ev, hl, K1, ea, q⟩ => ?_) he hpl
  subst ev
  cases r1 with
  | @cons _ u0 _ ur ra rw' =>
    obtain rfl : u0 = Value.ref a := ra
    have hlen : ur.length ≤ sizeLine := by
      rw [← Paired.length rw', sizeLine_eq]
      omega
    exact oinit_ok K1 I1 ea hlen fun s' J => ⟨.non, H1, J, rfl, q⟩
end

/-- x(e, ..) of such a class is an error with its own dict -/
def xdOf (fs : List (Str × V)) : HO := .xd fs
/-- an __init__ that stores two fields -/
def spInit2 (K : PySem.W.Frag) (f g : Str) : Sp := fun vs H Q _ => ∃ (a C : Addr) (x y : V), vs = [.ref a, x, y] ∧ OexC K C ∧ PySem.W.findIn K (.ref C) f = some none ∧ PySem.W.findIn K (.ref C) g = some none ∧ H a = some (exo a C none) ∧
  ∀ d, H d = none → d ≠ a → ∀ H', H' = upd (upd (upd H d (exd d [(f, x)])) a (exo a C (some d))) d (exd d [(g, y), (f, x)]) → Q .non H'
def spInit1 (K : PySem.W.Frag) (f : Str) : Sp := fun vs H Q _ => ∃ (a C : Addr) (x : V), vs = [.ref a, x] ∧ OexC K C ∧ PySem.W.findIn K (.ref C) f = some none ∧ H a = some (exo a C none) ∧
  ∀ d, H d = none → d ≠ a → ∀ H', H' = upd (upd H d (exd d [(f, x)])) a (exo a C (some d)) → Q .non H'
/-- what raising x(e1, e2) wishes: an error of the class at C, its own new dict at d -/
def tRaise2 (C : Addr) (f g : Str) (W : WX) (ta : TA) : TS := fun _ σ H => ta σ H fun vs H1 => ∃ x y : V, vs = [x, y] ∧ ∀ d, H1 d = none → W (.ref C) (some d) σ (upd H1 d (.xd [(g, y), (f, x)]))
def tRaise1 (C : Addr) (f : Str) (W : WX) (ta : TA) : TS := fun _ σ H => ta σ H fun vs H1 => ∃ x : V, vs = [x] ∧ ∀ d, H1 d = none → W (.ref C) (some d) σ (upd H1 d (.xd [(f, x)]))
theorem del_up3 {H : Hp} {a d : Addr} {o u v w y : HO} (hd : H d = none) (ha : H a = none) (hda : d ≠ a) : upd (del (upd (upd (upd (upd H a o) d u) a v) d w) a) d y = upd H d y := by
  funext b
  by_cases hb : b = d
  · rw [hb, upd_same, upd_same]
  · rw [upd_ne hb, upd_ne hb]
    by_cases hba : b = a
    · rw [hba, del_same, ha]
    · rw [del_ne hba, upd_ne hb, upd_ne hba, upd_ne hb, upd_ne hba]
theorem del_up2 {H : Hp} {a d : Addr} {o u v y : HO} (hd : H d = none) (ha : H a = none) (hda : d ≠ a) : upd (del (upd (upd (upd H a o) d u) a v) a) d y = upd H d y := by
  funext b
  by_cases hb : b = d
  · rw [hb, upd_same, upd_same]
  · rw [upd_ne hb, upd_ne hb]
    by_cases hba : b = a
    · rw [hba, del_same, ha]
    · rw [del_ne hba, upd_ne hba, upd_ne hb, upd_ne hba]
/-- a reading with its wish weakened -/
def tMonoA (t : TA) : TA := fun σ H Q => ∃ Q0 : List V → Hp → Prop, t σ H Q0 ∧ ∀ vs H1, Q0 vs H1 → Q vs H1
theorem pa_mono {X : Cx} {es : List Expr} {t : TA} (h : PA X es t) : PA X es (tMonoA t) := ⟨fun pos pins s σ H Q I ⟨Q0, hw, im⟩ =>
  thn (h.run pos pins s σ H Q0 I hw) fun us s1 ⟨vs, H1, I1, r, q⟩ => ⟨vs, H1, I1, r, im vs H1 q⟩⟩
section
variable {X : Cx} {C fI : Addr} {x : Str} {p pos pos2 : Pos} {e e2 : Expr} {ta : TA} {W : WX} {k : Nat} {fd : FuncData} {f g : Str}
theorem ps_raise2 (hc : X.calm = true) (tk : Takes X W) (P : ExI X.K X.mg x C fI) (hf : PySem.W.findIn X.K (.ref C) f = some none) (hgg : PySem.W.findIn X.K (.ref C) g = some none)
    (F : FnOk X.prog X.w X.K X.mg X.base (L2.CX X.prog X.w) k fI fd ["self", f, g] (spInit2 X.K f g)) (hr : Room (k + 1) X.A) (hb : Binds X.K fd ["self", f, g] []) (hg : Gl X x) (ha : PA X [e, e2] ta) (hdb : (x == ("__debug__" : Str)) = false := by decide)
    (he : starEach (e :: [e2]) X.env = (false, eval e X.env) :: starEach [e2] X.env := by rfl) (hpl : (backTo pos (starEach [e2] X.env)).any (·.1) = false := by rfl) :
    PS X (.Raise (some (.Call (.Name x p) [e, e2] [] pos)) none pos2) (tRaise2 C f g W ta) := by
  have R := ps_raise (pos := pos2) hc tk (pmk_oex (pos := pos) (p := p) P.ox P.at_ P.tI F hr hb .nil passL hg P.g (pa_mono ha) hdb he hpl)
  refine ⟨fun pins s σ H D I h => R.run pins s σ H D I ⟨_, h, ?_⟩⟩
  rintro vs H1 ⟨u, v, rfl, hw⟩
  refine ⟨by show 2 ≤ 1000; decide, fun a ha' => ⟨a, C, u, v, rfl, P.ox, hf, hgg, upd_same, fun d hd hda H' hH => ⟨rfl, d, [(g, v), (f, u)], ?_, ?_, ?_, ?_⟩⟩⟩
  · rw [hH, upd_ne (Ne.symm hda), upd_same]
  · rw [hH, upd_same]
  · rw [upd_ne hda] at hd
    exact hd
  · rw [upd_ne hda] at hd
    rw [hH, del_up3 hd ha' hda]
    exact hw d hd
theorem ps_raise1 (hc : X.calm = true) (tk : Takes X W) (P : ExI X.K X.mg x C fI) (hf : PySem.W.findIn X.K (.ref C) f = some none)
    (F : FnOk X.prog X.w X.K X.mg X.base (L2.CX X.prog X.w) k fI fd ["self", f] (spInit1 X.K f)) (hr : Room (k + 1) X.A) (hb : Binds X.K fd ["self", f] []) (hg : Gl X x) (ha : PA X [e] ta) (hdb : (x == ("__debug__" : Str)) = false := by decide)
    (he : starEach (e :: []) X.env = (false, eval e X.env) :: starEach [] X.env := by rfl) (hpl : (backTo pos (starEach [] X.env)).any (·.1) = false := by rfl) :
    PS X (.Raise (some (.Call (.Name x p) [e] [] pos)) none pos2) (tRaise1 C f W ta) := by
  have R := ps_raise (pos := pos2) hc tk (pmk_oex (pos := pos) (p := p) P.ox P.at_ P.tI F hr hb .nil passL hg P.g (pa_mono ha) hdb he hpl)
  refine ⟨fun pins s σ H D I h => R.run pins s σ H D I ⟨_, h, ?_⟩⟩
  rintro vs H1 ⟨u, rfl, hw⟩
  refine ⟨by show 1 ≤ 1000; decide, fun a ha' => ⟨a, C, u, rfl, P.ox, hf, upd_same, fun d hd hda H' hH => ⟨rfl, d, [(f, u)], ?_, ?_, ?_, ?_⟩⟩⟩
  · rw [hH, upd_same]
  · rw [hH, upd_ne hda, upd_same]
  · rw [upd_ne hda] at hd
    exact hd
  · rw [upd_ne hda] at hd
    rw [hH, del_up2 hd ha' hda]
    exact hw d hd
end
end Tr

/-! Own rules: an error that a clause catches and a name keeps (try: .. except X as n: m = n), and isinstance asked of it later. -/
namespace Tr
open PySem L2 PySem.Spec PyProof.Rows

/-- a caught error of the class cls, without a dict of its own, at a -/
def EO (cls : Value) (a : Addr) : HO := .ext fun h => ∃ (oe : Obj) (vs : Array Value), h.get? a = some oe ∧ Zc cls none oe ∧ oe.data = .fields vs
theorem eo_ok {P : Program} {w : World} {H : Hp} {h : Heap} {a : Addr} {cls : Value} {oe : Obj} (e : h.get? a = some oe) (z : Zc cls none oe) (d : ∃ vs, oe.data = .fields vs) : ObjOk P w H h a (EO cls a) := by
  obtain ⟨vs, d⟩ := d
  exact ⟨⟨oe, vs, e, z, d⟩, ⟨oe, e⟩, fun _ _ ⟨o, v, q, r⟩ k => ⟨o, v, k o q, r⟩⟩
section
variable {X : Cx} {pins pn' : List (Addr × Obj)} {σ : L2.St} {H : Hp} {s : Shared} {a : Addr} {oe : Obj} {cls : Value}
/-- the caught error is tracked behind its suite -/
theorem keepE (S : Inv (X.suite a ((a, oe) :: (X.pn ++ pins))) pn' σ H s) (ok : X.Ok) (hx : X.ex = []) (z : Zc cls none oe) (d : ∃ vs, oe.data = .fields vs) (n0 : X.s_0.heap.get? a = none)
    (nC : ∀ x c, X.env.cells.lookup x = some c → c ≠ a) (nP : ∀ p ∈ X.pn ++ pins, p.1 ≠ a) : Inv X pins σ (upd H a (EO cls a)) s := by
  obtain ⟨hget, na, nL, _, _⟩ := S.pin (a, oe) (List.mem_append_left _ List.mem_cons_self)
  have B := S.base
  have ne0 : ∀ {b u}, X.s_0.heap.get? b = some u → b ≠ a := fun {b u} e w => by rw [w, n0] at e; cases e
  refine ⟨ok, S.os, S.bare, ⟨B.keep, B.slot, fun b u e n q => ?_, B.there, fun b xs e => ?_, fun b u xs e => ?_, fun b ps e => ?_⟩, S.loc, S.cell, ?_, fun x c e => ?_, fun p hp => ?_, fun b u e => ?_, S.len⟩
  · rw [upd_ne (ne0 e)]; exact B.free b u e n q
  · exact (upd_ne (ne_of_none (B.tups b xs e) na)).trans (B.tups b xs e)
  · exact (upd_ne (ne_of_none (B.frzs b u xs e) na)).trans (B.frzs b u xs e)
  · obtain ⟨m, q⟩ := B.tbls b ps e
    exact ⟨m, (upd_ne (ne_of_none q na)).trans q⟩
  · rw [upd_ne (Ne.symm nL)]; exact S.free
  · rw [upd_ne (nC x c e)]; exact S.freeC x c e
  · obtain ⟨p1, p2, p3⟩ := S.pin p (List.mem_append_left _ (List.mem_cons_of_mem _ hp))
    exact ⟨p1, by rw [upd_ne (nP p hp)]; exact p2, p3⟩
  · by_cases hb : b = a
    · subst hb
      rw [upd_same] at e
      cases e
      exact eo_ok hget z d
    · rw [upd_ne hb] at e
      exact (S.hok b u e).stay (fun _ _ _ q => q) (fun c q => by rw [upd_ne (ne_of_none q na)]; exact q) fun c xs q => by rw [upd_ne (ne_of_none q na)]; exact q
end
/-- what the clause wishes, the error kept: it has no dict of its own -/
def wKeep (K : PySem.W.Frag) (c : Value) (i : Nat) (ts : Addr → Value → Option Addr → TS) (Wout : WX) (D : Ends) : WX := fun cls d σ H =>
  ∃ b, PySem.W.exmOne K cls c = some b ∧ (b = true → d = none ∧ ∀ a, H a = none → ts a cls none { nx := fun σ' H' => D.nx (σ'.set i none) (upd H' a (EO cls a)), rt := fun _ _ => False, bk := fun _ _ => False, ct := fun _ _ => False } (σ.set i (some (.ref a))) H) ∧
    (b = false → Wout cls d σ H)
section
variable {X : Cx} {x n : Str} {c : Value} {i : Nat} {body suite : List Stmt} {b₀ : Stmt} {np pos pos' : Pos} {tb : WX → TS} {ts : Addr → Value → Option Addr → TS} {Wout : WX}
theorem ps_try_keep (hx : X.ex = []) (hs : X.stack = X.env :: X.outer) (hf : X.env.frame = some X.env.locals) (hN : X.N.Nodup) (hi : X.N[i]? = some n) (hln : X.env.kindOf n = some .local) (hc : Names X x c) (tk : Takes X Wout)
    (hb : ∀ (W : WX) (pn : List (Addr × Obj)) (xe : Value → Shared → Prop), Takes (X.tr pn xe) W → PassesOwn (model X.prog X.w) X.A X.env xe → PSs (X.tr pn xe) body (tb W))
    (hsu : ∀ (a : Addr) (oe : Obj) (cls : Value) (d : Option Addr) (pn : List (Addr × Obj)), Zc cls d oe → (∃ vs, oe.data = .fields vs) → PSs (X.suite a ((a, oe) :: pn)) (b₀ :: suite) (ts a cls d)) :
    PS X (.Try body [.ExceptHandler (some (.Name x np)) (some n) (b₀ :: suite) pos'] [] [] pos) (fun D σ H => tb (wKeep X.K c i ts Wout D) D σ H) := by
  refine ⟨fun pins s σ H D I h => ?_⟩
  have ok := I.ok
  have frA : X.A.frames = some (X.env :: X.outer) := ok.frames.trans (congrArg some hs)
  refine wpAny_Try_except (wpAny_mono ((hb (wKeep X.K c i ts Wout D) (X.pn ++ pins) (fun e y1 => wpAny (model X.prog X.w) X.A (noteFrame e X.env) (fun _ y2 => wpAny (model X.prog X.w) X.A (setFlight e none)
    (fun _ y3 => wpAny (model X.prog X.w) X.A (handleBy e X.env [.ExceptHandler (some (.Name x np)) (some n) (b₀ :: suite) pos']) (SP X pins D) X.xe y3) X.xe y2) X.xe y1) (fun u y xx => ?_) PassesOwn.looking).run [] s σ H D (I.toTry _) h)
    (fun f s1 hsp => ?_) (fun e s1 he => he))
  · obtain ⟨a, B, sI, pins1, σ1, H1, cls, d, rfl, J0, nb, up, sky, na, os, ag, b, hb1, hyes, hno⟩ := xx
    have J : Inv X pins σ1 H1 sI := J0.ofTry ok
    rw [hs] at sky
    refine Sky.land Zc.steady frA hf sky fun h3 fl3 up3 => ?_
    have J3 : Inv X pins σ1 H1 { y with heap := h3 } := J.landed nb fl3.1 (up.trans up3) os ag
    obtain ⟨o3, v3, g3, z3, d3⟩ := fl3.there
    have aFr : a ∉ frs (X.env :: X.outer) := fun hm => by
      obtain ⟨_, o', e', hnf⟩ := fl3.2.2.1.mem hm
      rw [g3] at e'
      cases e'
      exact hnf _ d3
    have aL : a ≠ X.env.locals := fun w => aFr (List.mem_filterMap.mpr ⟨X.env, List.mem_cons_self, hf.trans (congrArg some w.symm)⟩)
    have aF : a ∉ X.fs := fun hm => by
      obtain ⟨e, he, q⟩ := List.mem_filterMap.mp hm
      exact aFr (List.mem_filterMap.mpr ⟨e, List.mem_cons_of_mem _ he, q⟩)
    -- nothing of sI's heap stands at a
    have nI : ∀ {b u}, sI.heap.get? b = some u → b ≠ a := fun {b u} e w => by
      subst w
      exact nomatch (nb b u e (by show ¬ b ∈ frs X.stack; rw [hs]; exact aFr)).symm.trans fl3.2.1
    have n0 : X.s_0.heap.get? a = none := by
      cases e : X.s_0.heap.get? a with
      | none => rfl
      | some u =>
        obtain ⟨u', q⟩ := J.base.there a u e (by rw [hx]; exact fun z => nomatch z)
        exact absurd rfl (nI q)
    have nC : ∀ x c, X.env.cells.lookup x = some c → c ≠ a := fun x c e => by
      obtain ⟨v, o, q, _⟩ := J.cell x c e
      exact nI q
    have nP : ∀ p ∈ X.pn ++ pins, p.1 ≠ a := fun p hp => nI (J.pin p hp).1
    refine wpAny_handleBy_cons (codeAny_handlers_test ?_) (by intro q; cases q)
    have LM := PySem.W.exm_one (M := model X.prog X.w) (J3.kIn) (fun A Q E s k q => wpAny_typeOf_ref (k _ _ g3) (by rw [z3.1]; exact q)) hb1
    have nameIs : ∀ {Q : Value → Shared → Prop} {E : Value → Shared → Prop}, Q c { y with heap := h3 } → wpAny (model X.prog X.w) (X.A.mark (some (.ref a))) (eval (.Name x np) X.env) Q E { y with heap := h3 } := fun {Q E} q => by
      have S3 := J3.suite g3 d3 na aL aF
      rcases hc with ⟨hg, hdb, hm | ⟨hm, hv, hnn⟩⟩
      · exact ld_glob (X := X.suite a ((a, o3) :: (X.pn ++ pins))) S3 hg hm q hdb
      · exact ld_blt (X := X.suite a ((a, o3) :: (X.pn ++ pins))) S3 hg hm hv q hnn hdb
    refine nameIs (LM.here ?_)
    cases b with
    | true =>
      obtain ⟨rfl, go⟩ := hyes rfl
      refine codeAny_handlers_suite_as (HandSPX.lands_againZ fl3 fun h4 fl4 up4 => ?_)
      obtain ⟨o4, v4, g4, z4, d4⟩ := fl4.there
      have S4 := (J.landed (s' := { y with heap := h4 }) nb fl4.1 ((up.trans up3).trans up4) os ag).suite g4 d4 na aL aF
      refine store_ok (X := X.suite a ((a, o4) :: (X.pn ++ pins))) (v := .ref a) S4 hN hi (.inl hln) rfl (fun s5 S5 => ?_) (.inr hln)
      refine wpAny_mono ((hsu a o4 cls none (X.pn ++ pins) z4 ⟨_, d4⟩).run [] s5 _ H1 _ S5 (go a na)) (fun f s6 hsp => ?_) (fun _ _ z => False.elim z)
      cases f with
      | next =>
        obtain ⟨σ6, H6, S6, q6⟩ := hsp
        exact gone_ok (keepE S6 ok hx z4 ⟨_, d4⟩ n0 nC nP) hN hi hln fun s7 J7 => ⟨_, _, J7, q6⟩
      | brk =>
        obtain ⟨_, _, _, q6⟩ := hsp
        exact q6.elim
      | cont =>
        obtain ⟨_, _, _, q6⟩ := hsp
        exact q6.elim
      | ret u =>
        obtain ⟨_, _, _, _, _, q6⟩ := hsp
        exact q6.elim
    | false =>
      show wpAny _ X.A (handleBy (.ref a) X.env []) _ _ _
      refine wpAny_handleBy_nil ?_
      obtain ⟨_, _, _, oe, vs, T, _, _, he, hz, hd, h1, _⟩ := id fl3
      unfold PySem.passOn
      refine wpAny_bind (wpAny_field he hd h1 ?_)
      rw [if_neg (show ¬ ((Value.ref T == Value.none) = true) from by simp)]
      have away : wpAny (model X.prog X.w) X.A (setFlight (.ref a) X.env.frame) (fun _ y4 => wpAny (model X.prog X.w) X.A (throw (.ref a) : Sem Flow) (SP X pins D) X.xe y4) X.xe { y with heap := h3 } := by
        rw [hf]
        exact HandSPX.setFlight_upZ fl3 fun h4 hh4 up4 => wpAny_throw (tk _ _ ⟨a, B, sI, pins, σ1, H1, cls, d, rfl, J, nb, (up.trans up3).trans up4, .inr (.inr (by rw [hs]; exact hh4)), na, os, ag, hno rfl⟩)
      first
        | exact wpAny_bind (wpAny_pure (wpAny_bind away))
        | exact wpAny_bind away
  · cases f with
    | next =>
      obtain ⟨σ', H', J', q⟩ := hsp
      exact wpAny_execs_nil ⟨σ', H', J'.ofTry ok, q⟩
    | ret u =>
      obtain ⟨v, σ', H', J', r, q⟩ := hsp
      exact ⟨v, σ', H', J'.ofTry ok, r, q⟩
    | brk =>
      obtain ⟨σ', H', J', q⟩ := hsp
      exact ⟨σ', H', J'.ofTry ok, q⟩
    | cont =>
      obtain ⟨σ', H', J', q⟩ := hsp
      exact ⟨σ', H', J'.ofTry ok, q⟩
end
/-! ### isinstance of a kept error -/
def rIsX (K : PySem.W.Frag) : List V → Hp → VK → Prop := fun xs H Q => ∃ (a D : Addr) (c : V) (u : Value) (b : Bool), xs = [.ref a, c] ∧ H a = some (EO (.ref D) a) ∧ ExcC K D ∧ ClsV c u ∧ PySem.W.kitOne K (.ref D) u = some b ∧ Q (.bl b) H
def rIsXT (K : PySem.W.Frag) : List V → Hp → VK → Prop := fun xs H Q => ∃ (a D tp : Addr) (cs : List V) (us : List Value) (b : Bool), xs = [.ref a, .ref tp] ∧ H a = some (EO (.ref D) a) ∧ ExcC K D ∧ H tp = some (.tup cs) ∧ Paired ClsV cs us ∧ PySem.W.kitAny K (.ref D) us = some b ∧ Q (.bl b) H
section
variable {X : Cx}
theorem eo_at {P : Program} {w : World} {H : Hp} {h : Heap} {a D : Addr} (x : HOk P w H h) (e : H a = some (EO (.ref D) a)) : ∃ oe, PySem.W.InstAt h a oe D none := by
  obtain ⟨⟨⟨oc, od, oda, osl⟩, vs, g, ⟨z1, z2⟩, dv⟩, _⟩ := x a _ e
  dsimp only at z1 z2 dv
  subst z1 z2 dv
  exact ⟨_, g, rfl, rfl, trivial⟩
theorem call_isX : CallR X (.builtin "isinstance") (rIsX X.K) := by
  intro pins s σ H xs us Q I r h
  obtain ⟨a, D, c, u, b, rfl, he, C, hc, e, q⟩ := h
  obtain ⟨u1, u2, rfl, r1, r2⟩ := vals2 r
  cases (show u1 = Value.ref a from r1)
  have e2 := hc.eq r2
  subst e2
  obtain ⟨oe, J⟩ := eo_at I.hok he
  exact PySem.W.kia_one (PySem.W.handS_kitx_exc C.hg C.hk C.hs C.hd C.ha C.hn C.ht C.hm) I.kIn J e (fun z => nomatch z) fun tk => ⟨.bl b, H, I.tok tk, rfl, q⟩
theorem call_isXT : CallR X (.builtin "isinstance") (rIsXT X.K) := by
  intro pins s σ H xs us Q I r h
  obtain ⟨a, D, tp, cs, ws, b, rfl, he, C, hT, hc, e, q⟩ := h
  obtain ⟨u1, u2, rfl, r1, r2⟩ := vals2 r
  cases (show u1 = Value.ref a from r1)
  cases (show u2 = Value.ref tp from r2)
  obtain ⟨oe, J⟩ := eo_at I.hok he
  obtain ⟨_, its, rv, o, h1, h2, n, h3⟩ := (show ObjOk X.prog X.w H s.heap tp (.tup cs) from I.hok tp _ hT)
  have e3 := ClsV.all hc rv
  subst e3
  obtain ⟨oc, od, dt, sl⟩ := o
  simp only at h2 h3
  subst h2 h3
  exact PySem.W.kia_tup (PySem.W.handS_kitx_exc C.hg C.hk C.hs C.hd C.ha C.hn C.ht C.hm) I.kIn J h1 e (fun z => nomatch z) fun tk => ⟨.bl b, H, I.tok tk, rfl, q⟩
end
end Tr

/-! One rule an operator, whatever the operands' kinds, and what each evaluates to (Evl's words). -/
namespace Tr
open PySem L2 PySem.Spec PyProof.Rows Evl

/-! ### the readings -/
def rStrs : R2 := fun x y H Q => ∃ i j, x = .str i ∧ y = .str j ∧ i.length + j.length ≤ sizeLine ∧ Q (.str (i ++ j)) H
def xAdd (K : PySem.W.Frag) : R2 := fun x y H Q => rI0 (fun i j => .int (i + j)) x y H Q ∨ rStrs x y H Q ∨ rCatS K x y H Q ∨ rCatA K x y H Q
def xSub : R2 := rI0 fun i j => .int (i - j)
def xMul (K : PySem.W.Frag) : R2 := fun x y H Q => rI CMul (fun i j => .int (i * j)) x y H Q ∨ rRep x y H Q ∨ rRepT K x y H Q
def xDiv : R2 := rI CDiv fun i j => .int (i / j)
def xMod : R2 := rI (fun _ j => 0 < j) fun i j => .int (i % j)
def xPow : R2 := rI CPow fun i j => .int (i ^ j.toNat)
def xShl : R2 := rI CPow fun i j => .int (i * 2 ^ j.toNat)
def xShr : R2 := rI (fun _ j => 0 ≤ j) fun i j => .int (i / 2 ^ j.toNat)
def xAnd : R2 := rI0 fun i j => .int (Builtin.bitAnd i j)
def xOr : R2 := rI0 fun i j => .int (Builtin.bitOr i j)
def xLt : R2 := rI0 fun i j => .bl (decide (i < j))
def xLe : R2 := rI0 fun i j => .bl (decide (i ≤ j))
def xGt : R2 := rI0 fun i j => .bl (decide (j < i))
def xGe : R2 := rI0 fun i j => .bl (decide (j ≤ i))
def xEq (K : PySem.W.Frag) : R2 := fun x y H Q => rEq x y H Q ∨ rEqD K x y H Q
def xNe (K : PySem.W.Frag) : R2 := fun x y H Q => rNe x y H Q ∨ rNeD K x y H Q ∨ rNeDA x y H Q
def xIn (K : PySem.W.Frag) : R2 := rIn K false
def xNotIn (K : PySem.W.Frag) : R2 := rIn K true
def xIsN : R2 := fun x y H Q => y = .non ∧ Q (.bl (decide (x = .non))) H
def xNotN : R2 := fun x y H Q => y = .non ∧ Q (.bl (!decide (x = .non))) H
abbrev RCall := List V → Hp → VK → Prop
def cLen (K : PySem.W.Frag) : RCall := fun xs H Q => (∃ p ys, xs = [.ref p] ∧ (SqL K H p ys ∨ SqT K H p ys) ∧ Q (.int ys.length) H) ∨ (∃ z, xs = [.str z] ∧ z.length ≤ sizeLine ∧ Q (.int z.length) H) ∨ (∃ a kvs, xs = [V.ref a] ∧ H a = some (.dK kvs) ∧ Q (.int kvs.length) H)
def cSum (K : PySem.W.Frag) : RCall := fun xs H Q => rSum K xs H Q ∨ rSumT K xs H Q
def cMin (K : PySem.W.Frag) : RCall := fun xs H Q => rMin K xs H Q ∨ rMinT K xs H Q ∨ (∃ i j, xs = [.int i, .int j] ∧ Q (.int (if j < i then j else i)) H)
def cMax (K : PySem.W.Frag) : RCall := fun xs H Q => rMax K xs H Q ∨ rMaxT K xs H Q ∨ (∃ i j, xs = [.int i, .int j] ∧ Q (.int (if j > i then j else i)) H)
def cInt : RCall := fun xs H Q => ((∃ i, xs = [.int i] ∧ Q (.int i) H) ∨ ∃ k, xs = [.bl k] ∧ Q (.int (if k then 1 else 0)) H) ∨ (∃ a n, xs = [.str a] ∧ PySem.intText? a = some n ∧ a.length ≤ 640 ∧ Q (.int n) H)
def cStr : RCall := fun xs H Q => ∃ i, xs = [.int i] ∧ i.natAbs.log2 < 1920 ∧ Q (.str (toString i)) H
def cList (K : PySem.W.Frag) : RCall := fun xs H Q => ∃ p ys, xs = [.ref p] ∧ (SqL K H p ys ∨ SqT K H p ys) ∧ ∀ l, H l = none → Q (.ref l) (upd H l (.lst ys))
def cTuple (K : PySem.W.Frag) : RCall := fun xs H Q => ∃ p ys, xs = [.ref p] ∧ ((SqL K H p ys ∧ ∀ l, H l = none → Q (.ref l) (upd H l (.tup ys))) ∨ (SqT K H p ys ∧ Q (.ref p) H))
def cIsi (K : PySem.W.Frag) : RCall := fun xs H Q => rIsi K xs H Q ∨ rIsiT K xs H Q ∨ rIsX K xs H Q ∨ rIsXT K xs H Q

/-! ### the rules -/
section
variable {X : Cx}
theorem opAdd : OpR X (binaryOp .Add) (xAdd X.K) := op_add.or (op_add_str.or (op_catS.or op_catA))
theorem opSub : OpR X (binaryOp .Sub) xSub := op_sub
theorem opMul : OpR X (binaryOp .Mult) (xMul X.K) := op_mul.or (op_rep.or op_repT)
theorem opDiv : OpR X (binaryOp .FloorDiv) xDiv := op_fdiv
theorem opMod : OpR X (binaryOp .Mod) xMod := op_mod
theorem opPow : OpR X (binaryOp .Pow) xPow := op_pow
theorem opShl : OpR X (binaryOp .LShift) xShl := op_shl
theorem opShr : OpR X (binaryOp .RShift) xShr := op_shr
theorem opAnd : OpR X (binaryOp .BitAnd) xAnd := op_and
theorem opOr : OpR X (binaryOp .BitOr) xOr := op_or
theorem opLt : OpR X (compareOp .Lt) xLt := op_lt
theorem opLe : OpR X (compareOp .LtE) xLe := op_le
theorem opGt : OpR X (compareOp .Gt) xGt := op_gt
theorem opGe : OpR X (compareOp .GtE) xGe := op_ge
theorem opEq (hu : X.A.units + 64 < cLine) : OpR X (compareOp .Eq) (xEq X.K) := op_eq.or (op_eqD hu)
theorem opNe (hu : X.A.units + 64 < cLine) : OpR X (compareOp .NotEq) (xNe X.K) := op_ne.or ((op_neD hu).or (op_ne_dictA (Nat.lt_of_le_of_lt (Nat.le_add_right _ 64) hu)))
theorem opIn : OpR X (compareOp .In) (xIn X.K) := op_in_seq
theorem opNotIn : OpR X (compareOp .NotIn) (xNotIn X.K) := op_notIn_seq
theorem opIsN : OpR X (compareOp .Is) xIsN := op_isN
theorem opNotN : OpR X (compareOp .IsNot) xNotN := op_notN
theorem fnLen : CallR X (.builtin "len") (cLen X.K) := call_len_seq.or (call_len_str.or call_lenD)
theorem fnSum (hc : X.calm = true) : CallR X (.builtin "sum") (cSum X.K) := (cr_sum hc).or (cr_sumT hc)
theorem fnMin (hc : X.calm = true) : CallR X (.builtin "min") (cMin X.K) := (cr_min hc).or ((cr_minT hc).or (call_min2 hc))
theorem fnMax (hc : X.calm = true) : CallR X (.builtin "max") (cMax X.K) := (cr_max hc).or ((cr_maxT hc).or (call_max2 hc))
theorem fnInt : CallR X (.type "int") cInt := call_int1.or call_int_str
theorem fnStr : CallR X (.type "str") cStr := call_str_int
theorem fnList : CallR X (.type "list") (cList X.K) := call_list_of
theorem fnTuple : CallR X (.type "tuple") (cTuple X.K) := call_tuple_of
theorem fnIsi : CallR X (.builtin "isinstance") (cIsi X.K) := call_isi.or (call_isiT.or (call_isX.or call_isXT))
/-- for x in e, e a list or a tuple at a name -/
def iSeq (K : PySem.W.Frag) (te : TE) : TI := fun σ H R => iList K te σ H R ∨ iTup K te σ H R
theorem pi_seq {tg e : Expr} {te : TE} (h : PE X e te) : PI X tg e (iSeq X.K te) := pi_either (pi_list h) (pi_tup h)
def iEnumQ (K : PySem.W.Frag) (ta : TA) : TI := fun σ H R => iEnum K ta σ H R ∨ iEnumT K ta σ H R
theorem pi_enumQ {e : Expr} {ta : TA} {p pos tpos : Pos} {elts : List Expr} {kk : Nat} (hg : Gl X "enumerate") (hm : X.mg "enumerate" = none) (ha : PA X [e] ta) (hs : starEach [e] X.env = [(false, eval e X.env)] := by rfl) :
    PI X (.Tuple elts kk tpos) (.Call (.Name "enumerate" p) [e] [] pos) (iEnumQ X.K ta) := pi_either (pi_enum hg hm ha hs) (pi_enumT hg hm ha hs)
end

/-! ### what holds of a sequence, a list or a tuple -/
def SqQ (K : PySem.W.Frag) (H : Hp) (a : Addr) (xs : List V) : Prop := SqL K H a xs ∨ SqT K H a xs
section
variable {K : PySem.W.Frag} {σ : L2.St} {H H' : Hp} {ta tb te tx : TE} {t u : TT} {x y z v : V} {r : R2} {a p : Addr} {xs ys : List V}
theorem ex_q (e : Ex H H') (h : SqQ K H a xs) : SqQ K H' a xs := h.elim (fun h => .inl (ex_l e h)) fun h => .inr (ex_t e h)
theorem q_of_l (h : SqL K H a xs) : SqQ K H a xs := .inl h
theorem q_of_t (h : SqT K H a xs) : SqQ K H a xs := .inr h
theorem ex_at {o : HO} (e : Ex H H') (h : H a = some o) : H' a = some o := e a o h
/-- a list, a tuple, either: where it stands -/
def EvS (K : PySem.W.Frag) (te : TE) (σ : L2.St) (H : Hp) (xs : List V) : Prop := ∀ H1, Ex H H1 → ∀ Q : VK, (∀ a H2, Ex H1 H2 → SqL K H2 a xs → Q (.ref a) H2) → te σ H1 Q
def EvW (K : PySem.W.Frag) (te : TE) (σ : L2.St) (H : Hp) (xs : List V) : Prop := ∀ H1, Ex H H1 → ∀ Q : VK, (∀ a H2, Ex H1 H2 → SqT K H2 a xs → Q (.ref a) H2) → te σ H1 Q
def EvQ (K : PySem.W.Frag) (te : TE) (σ : L2.St) (H : Hp) (xs : List V) : Prop := ∀ H1, Ex H H1 → ∀ Q : VK, (∀ a H2, Ex H1 H2 → SqQ K H2 a xs → Q (.ref a) H2) → te σ H1 Q
/-- a value of known data -/
def EvD (K : PySem.W.Frag) (te : TE) (σ : L2.St) (H : Hp) (d : PyData) : Prop := ∀ H1, Ex H H1 → ∀ Q : VK, (∀ v H2, Ex H1 H2 → Dp K H2 v d → Q v H2) → te σ H1 Q
theorem evs_of (h : Ev te σ H (.ref a)) (hs : SqL K H a xs) : EvS K te σ H xs := fun H1 e Q q => h H1 e Q fun H2 e2 => q a H2 e2 (ex_l (e.trans e2) hs)
theorem evs_new (h : EvL te σ H xs) : EvS K te σ H xs := fun H1 e Q q => h H1 e Q fun p H2 _ e2 hp => q p H2 e2 (SqL.of hp)
theorem evw_of (h : Ev te σ H (.ref a)) (hs : SqT K H a xs) : EvW K te σ H xs := fun H1 e Q q => h H1 e Q fun H2 e2 => q a H2 e2 (ex_t (e.trans e2) hs)
theorem evw_new (h : EvU te σ H xs) : EvW K te σ H xs := fun H1 e Q q => h H1 e Q fun p H2 _ e2 hp => q p H2 e2 (SqT.of hp)
theorem evq_of (h : Ev te σ H (.ref a)) (hs : SqQ K H a xs) : EvQ K te σ H xs := fun H1 e Q q => h H1 e Q fun H2 e2 => q a H2 e2 (ex_q (e.trans e2) hs)
theorem evq_s (h : EvS K te σ H xs) : EvQ K te σ H xs := fun H1 e Q q => h H1 e Q fun p H2 e2 hp => q p H2 e2 (.inl hp)
theorem evq_w (h : EvW K te σ H xs) : EvQ K te σ H xs := fun H1 e Q q => h H1 e Q fun p H2 e2 hp => q p H2 e2 (.inr hp)
/-! values -/
theorem rv_addI {i j : Int} : RV (xAdd K) (.int i) (.int j) H (.int (i + j)) := fun H1 _ _ q => .inl ⟨i, j, rfl, rfl, q H1 (Ex.refl H1)⟩
theorem rv_addS {i j : Str} (hl : i.length + j.length ≤ 100000) : RV (xAdd K) (.str i) (.str j) H (.str (i ++ j)) := fun H1 _ _ q => .inr (.inl ⟨i, j, rfl, rfl, sz_of hl, q H1 (Ex.refl H1)⟩)
theorem rv_sub {i j : Int} : RV xSub (.int i) (.int j) H (.int (i - j)) := rv_I0
theorem rv_mul {i j : Int} (hc : CMul i j) : RV (xMul K) (.int i) (.int j) H (.int (i * j)) := fun H1 _ _ q => .inl ⟨i, j, rfl, rfl, hc, q H1 (Ex.refl H1)⟩
theorem rv_div {i j : Int} (hc : CDiv i j) : RV xDiv (.int i) (.int j) H (.int (i / j)) := rv_I hc
theorem rv_mod {i j : Int} (hc : 0 < j) : RV xMod (.int i) (.int j) H (.int (i % j)) := rv_I hc
theorem rv_pow {i j : Int} (hc : CPow i j) : RV xPow (.int i) (.int j) H (.int (i ^ j.toNat)) := rv_I hc
theorem rv_shl {i j : Int} (hc : CPow i j) : RV xShl (.int i) (.int j) H (.int (i * 2 ^ j.toNat)) := rv_I hc
theorem rv_shr {i j : Int} (hc : 0 ≤ j) : RV xShr (.int i) (.int j) H (.int (i / 2 ^ j.toNat)) := rv_I hc
theorem rv_and {i j : Int} : RV xAnd (.int i) (.int j) H (.int (Builtin.bitAnd i j)) := rv_I0
theorem rv_or {i j : Int} : RV xOr (.int i) (.int j) H (.int (Builtin.bitOr i j)) := rv_I0
theorem rv_lt {i j : Int} : RV xLt (.int i) (.int j) H (.bl (decide (i < j))) := rv_I0
theorem rv_le {i j : Int} : RV xLe (.int i) (.int j) H (.bl (decide (i ≤ j))) := rv_I0
theorem rv_gt {i j : Int} : RV xGt (.int i) (.int j) H (.bl (decide (j < i))) := rv_I0
theorem rv_ge {i j : Int} : RV xGe (.int i) (.int j) H (.bl (decide (j ≤ i))) := rv_I0
theorem rv_eqI {i j : Int} : RV (xEq K) (.int i) (.int j) H (.bl (decide (i = j))) := fun H1 _ Q q => .inl ⟨rfl, by
  rw [show decide (V.int i = V.int j) = decide (i = j) by simp]
  exact q H1 (Ex.refl H1)⟩
theorem rv_neI {i j : Int} : RV (xNe K) (.int i) (.int j) H (.bl (!decide (i = j))) := fun H1 _ Q q => .inl ⟨rfl, by
  rw [show decide (V.int i = V.int j) = decide (i = j) by simp]
  exact q H1 (Ex.refl H1)⟩
theorem rv_eqV (h : scal x y = true) : RV (xEq K) x y H (.bl (decide (x = y))) := fun H1 _ Q q => .inl ⟨h, q H1 (Ex.refl H1)⟩
theorem rv_neV (h : scal x y = true) : RV (xNe K) x y H (.bl (!decide (x = y))) := fun H1 _ Q q => .inl ⟨h, q H1 (Ex.refl H1)⟩
theorem rv_isN : RV xIsN x .non H (.bl (decide (x = .non))) := fun H1 _ Q q => ⟨rfl, q H1 (Ex.refl H1)⟩
theorem rv_notN : RV xNotN x .non H (.bl (!decide (x = .non))) := fun H1 _ Q q => ⟨rfl, q H1 (Ex.refl H1)⟩
/-! sequences -/
theorem el_cat (ha : EvS K ta σ H xs) (hb : EvS K tb σ H ys) (hz : xs.length + ys.length ≤ 100000) : EvL (tOp (xAdd K) ta tb) σ H (xs ++ ys) := fun H1 e Q q =>
  ha H1 e _ fun a H2 e2 h2 => hb H2 (e.trans e2) _ fun b H3 e3 h3 => .inr (.inr (.inl ⟨a, b, xs, ys, rfl, rfl, ex_l e3 h2, h3, sz_of hz, fun p hp => q p _ (fresh_back (e2.trans e3) hp) ((e2.trans e3).trans (Ex.new hp)) upd_same⟩))
theorem el_rep {k : Int} (ha : EvL ta σ H xs) (hb : ∀ H1, Ex H H1 → Ev tb σ H1 (.int k)) (hk : -1000 ≤ k ∧ k ≤ 100000) (hz : xs.length * k.toNat ≤ 100000) : EvL (tOp (xMul K) ta tb) σ H (List.replicate k.toNat xs).flatten := fun H1 e Q q =>
  ha H1 e _ fun a H2 _ e2 h2 => hb H2 (e.trans e2) H2 (Ex.refl H2) _ fun H3 e3 => .inr (.inl ⟨a, k, xs, rfl, rfl, e3 a _ h2, by omega, by omega, sz_of hz, fun p hp => q p _ (fresh_back (e2.trans e3) hp) ((e2.trans e3).trans (Ex.new hp)) upd_same⟩)
theorem ev_ix {i : Int} (ha : EvQ K ta σ H xs) (hb : ∀ H1, Ex H H1 → Ev tb σ H1 (.int i)) (hi : atI xs i = some v) : Ev (tOp (rIx K) ta tb) σ H v := fun H1 e Q q =>
  ha H1 e _ fun a H2 e2 h2 => hb H2 (e.trans e2) H2 (Ex.refl H2) _ fun H3 e3 => by
    rcases ex_q e3 h2 with h | h
    · exact .inl ⟨a, xs, i, v, rfl, rfl, h, hi, q H3 (e2.trans e3)⟩
    · exact .inr (.inl ⟨a, xs, i, v, rfl, rfl, h, hi, q H3 (e2.trans e3)⟩)
theorem ev_ixS {w : Str} {i : Int} {c : Nat} (ha : Ev ta σ H (.str w)) (hb : Ev tb σ H (.int i)) (hl : w.length ≤ 100000) (hi : atI w.cps.toList i = some c) : Ev (tOp (rIx K) ta tb) σ H (.str ⟨#[c]⟩) := fun H1 e Q q =>
  ha H1 e _ fun H2 e2 => hb H2 (e.trans e2) _ fun H3 e3 => .inr (.inr ⟨w, i, c, rfl, rfl, sz_of hl, hi, q H3 (e2.trans e3)⟩)
theorem ev_lenQ (ha : EvQ K ta σ H xs) : Ev (tCB (cLen K) (tCons ta tNil)) σ H (.int (xs.length : Int)) := fun H1 e Q q =>
  ha H1 e _ fun a H2 e2 h2 => .inl ⟨a, xs, rfl, h2, q H2 e2⟩
theorem ev_lenS {w : Str} (ha : Ev ta σ H (.str w)) (hl : w.length ≤ 100000) : Ev (tCB (cLen K) (tCons ta tNil)) σ H (.int (w.length : Int)) := fun H1 e Q q =>
  ha H1 e _ fun H2 e2 => .inr (.inl ⟨w, rfl, sz_of hl, q H2 e2⟩)
theorem ev_lenD {kvs : List (Key × V)} (ha : Ev ta σ H (.ref a)) (hd : H a = some (.dK kvs)) : Ev (tCB (cLen K) (tCons ta tNil)) σ H (.int (kvs.length : Int)) := fun H1 e Q q =>
  ha H1 e _ fun H2 e2 => .inr (.inr ⟨a, kvs, rfl, (e.trans e2) a _ hd, q H2 e2⟩)
theorem ev_sum {ns : List Int} (ha : EvQ K ta σ H (ns.map V.int)) : Ev (tCB (cSum K) (tCons ta tNil)) σ H (.int ns.sum) := fun H1 e Q q =>
  ha H1 e _ fun a H2 e2 h2 => by
    rcases h2 with h | h
    · exact .inl ⟨a, ns, rfl, h, q H2 e2⟩
    · exact .inr ⟨a, ns, rfl, h, q H2 e2⟩
theorem ev_min {ns : List Int} {m : Int} (ha : EvQ K ta σ H (ns.map V.int)) (hm : m ∈ ns) (hl : ∀ y ∈ ns, m ≤ y) : Ev (tCB (cMin K) (tCons ta tNil)) σ H (.int m) := fun H1 e Q q =>
  ha H1 e _ fun a H2 e2 h2 => by
    have hp : 0 < ns.length := List.length_pos_of_mem hm
    have one : ∀ m', m' ∈ ns → (∀ y, y ∈ ns → m' ≤ y) → Q (.int m') H2 := fun m' h1 h3 => by
      rw [Int.le_antisymm (h3 m hm) (hl m' h1)]
      exact q H2 e2
    rcases h2 with h | h
    · exact .inl ⟨a, ns, rfl, h, hp, one⟩
    · exact .inr (.inl ⟨a, ns, rfl, h, hp, one⟩)
theorem ev_max {ns : List Int} {m : Int} (ha : EvQ K ta σ H (ns.map V.int)) (hm : m ∈ ns) (hl : ∀ y ∈ ns, y ≤ m) : Ev (tCB (cMax K) (tCons ta tNil)) σ H (.int m) := fun H1 e Q q =>
  ha H1 e _ fun a H2 e2 h2 => by
    have hp : 0 < ns.length := List.length_pos_of_mem hm
    have one : ∀ m', m' ∈ ns → (∀ y, y ∈ ns → y ≤ m') → Q (.int m') H2 := fun m' h1 h3 => by
      rw [Int.le_antisymm (hl m' h1) (h3 m hm)]
      exact q H2 e2
    rcases h2 with h | h
    · exact .inl ⟨a, ns, rfl, h, hp, one⟩
    · exact .inr (.inl ⟨a, ns, rfl, h, hp, one⟩)
theorem ev_min2 {i j : Int} (ha : Ev ta σ H (.int i)) (hb : Ev tb σ H (.int j)) : Ev (tCB (cMin K) (tCons ta (tCons tb tNil))) σ H (.int (if j < i then j else i)) := fun H1 e Q q =>
  ha H1 e _ fun H2 e2 => hb H2 (e.trans e2) _ fun H3 e3 => .inr (.inr ⟨i, j, rfl, q H3 (e2.trans e3)⟩)
theorem ev_max2 {i j : Int} (ha : Ev ta σ H (.int i)) (hb : Ev tb σ H (.int j)) : Ev (tCB (cMax K) (tCons ta (tCons tb tNil))) σ H (.int (if j > i then j else i)) := fun H1 e Q q =>
  ha H1 e _ fun H2 e2 => hb H2 (e.trans e2) _ fun H3 e3 => .inr (.inr ⟨i, j, rfl, q H3 (e2.trans e3)⟩)
theorem ev_intI {i : Int} (ha : Ev ta σ H (.int i)) : Ev (tCB cInt (tCons ta tNil)) σ H (.int i) := fun H1 e Q q => ha H1 e _ fun H2 e2 => .inl (.inl ⟨i, rfl, q H2 e2⟩)
theorem ev_intB {b : Bool} (ha : Ev ta σ H (.bl b)) : Ev (tCB cInt (tCons ta tNil)) σ H (.int (if b then 1 else 0)) := fun H1 e Q q => ha H1 e _ fun H2 e2 => .inl (.inr ⟨b, rfl, q H2 e2⟩)
theorem ev_intT {w : Str} {n : Int} (ha : Ev ta σ H (.str w)) (hn : PySem.intText? w = some n) (hl : w.length ≤ 640) : Ev (tCB cInt (tCons ta tNil)) σ H (.int n) := fun H1 e Q q => ha H1 e _ fun H2 e2 => .inr ⟨w, n, rfl, hn, hl, q H2 e2⟩
theorem ev_str {i : Int} (ha : Ev ta σ H (.int i)) (hl : i.natAbs.log2 < 1920) : Ev (tCB cStr (tCons ta tNil)) σ H (.str (toString i)) := fun H1 e Q q => ha H1 e _ fun H2 e2 => ⟨i, rfl, hl, q H2 e2⟩
theorem el_listQ (ha : EvQ K ta σ H xs) : EvL (tCB (cList K) (tCons ta tNil)) σ H xs := fun H1 e Q q =>
  ha H1 e _ fun a H2 e2 h2 => ⟨a, xs, rfl, h2, fun l hl => q l _ (fresh_back e2 hl) (e2.trans (Ex.new hl)) upd_same⟩
theorem evw_tuple (ha : EvQ K ta σ H xs) : EvW K (tCB (cTuple K) (tCons ta tNil)) σ H xs := fun H1 e Q q =>
  ha H1 e _ fun a H2 e2 h2 => ⟨a, xs, rfl, h2.elim (fun h => .inl ⟨h, fun l hl => q l _ (e2.trans (Ex.new hl)) (SqT.of upd_same)⟩) fun h => .inr ⟨h, q a H2 e2 h⟩⟩
theorem el_slQ {tl th : TO} {lo hi : Option Int} (h : EvS K te σ H xs) (h1 : EvO tl σ H lo) (h2 : EvO th σ H hi) : EvL (tSl (rSlL K) te tl th) σ H (cutV xs lo hi) := fun H1 e _ q =>
  h H1 e _ fun a H2 e2 hs => h1 H2 (e.trans e2) _ fun H3 e3 => h2 H3 ((e.trans e2).trans e3) _ fun H4 e4 =>
    ⟨a, xs, rfl, ex_l (e3.trans e4) hs, fun p hp => q p _ (fresh_back ((e2.trans e3).trans e4) hp) (((e2.trans e3).trans e4).trans (Ex.new hp)) upd_same⟩
/-! data -/
end
mutual
theorem dp_ex {K : PySem.W.Frag} {H H' : Hp} (e : Ex H H') : ∀ {v : V} {d : PyData}, Dp K H v d → Dp K H' v d
  | _, _, .non => .non
  | _, _, .bl b => .bl b
  | _, _, .int i => .int i
  | _, _, .str x => .str x
  | _, _, .lst hs ha => .lst (ex_l e hs) (dpa_ex e ha)
  | _, _, .tup hs ha => .tup (ex_t e hs) (dpa_ex e ha)
theorem dpa_ex {K : PySem.W.Frag} {H H' : Hp} (e : Ex H H') : ∀ {vs : List V} {ds : List PyData}, DpAll K H vs ds → DpAll K H' vs ds
  | _, _, .nil => .nil
  | _, _, .cons h hs => .cons (dp_ex e h) (dpa_ex e hs)
end
theorem dpa_ints {K : PySem.W.Frag} {H : Hp} : ∀ ns : List Int, DpAll K H (ns.map V.int) (ns.map PyData.int)
  | [] => .nil
  | n :: ns => .cons (.int n) (dpa_ints ns)

section
variable {K : PySem.W.Frag} {σ : L2.St} {H H' : Hp} {ta tb te : TE} {x y v : V} {xs ys : List V} {d f : PyData} {ds : List PyData}
theorem evd_of (h : Ev te σ H v) (hd : Dp K H v d) : EvD K te σ H d := fun H1 e Q q => h H1 e Q fun H2 e2 => q v H2 e2 (dp_ex (e.trans e2) hd)
theorem evd_l (h : EvS K te σ H xs) (hd : DpAll K H xs ds) : EvD K te σ H (.list ds) := fun H1 e Q q => h H1 e Q fun a H2 e2 hs => q _ H2 e2 (.lst hs (dpa_ex (e.trans e2) hd))
theorem evd_w (h : EvW K te σ H xs) (hd : DpAll K H xs ds) : EvD K te σ H (.tuple ds) := fun H1 e Q q => h H1 e Q fun a H2 e2 hs => q _ H2 e2 (.tup hs (dpa_ex (e.trans e2) hd))
theorem ev_eqD (ha : EvD K ta σ H d) (hb : EvD K tb σ H f) (hd : SeqAt.shaped d = true) (hf : SeqAt.shaped f = true) : Ev (tOp (xEq K) ta tb) σ H (.bl (PyData.eqv d f)) := fun H1 e Q q =>
  ha H1 e _ fun v H2 e2 h2 => hb H2 (e.trans e2) _ fun w H3 e3 h3 => .inr ⟨d, f, dp_ex e3 h2, h3, hd, hf, q H3 (e2.trans e3)⟩
theorem ev_neD (ha : EvD K ta σ H d) (hb : EvD K tb σ H f) (hd : SeqAt.shaped d = true) (hf : SeqAt.shaped f = true) : Ev (tOp (xNe K) ta tb) σ H (.bl (!PyData.eqv d f)) := fun H1 e Q q =>
  ha H1 e _ fun v H2 e2 h2 => hb H2 (e.trans e2) _ fun w H3 e3 h3 => .inr (.inl ⟨d, f, dp_ex e3 h2, h3, hd, hf, q H3 (e2.trans e3)⟩)
end
end Tr

/-! Names of the module as values, slices, chains of three; where the errors' classes and some defs stand; what is known of any value handed in. -/
namespace Tr
open PySem L2 PySem.Spec PyProof.Rows Evl

/-- where the classes and the defs that are values stand -/
structure Cs where
  toss : Addr
  norow : Addr
  clash : Addr
  nostate : Addr
  nothrow : Addr
  noturn : Addr
  noway : Addr
  nolog : Addr
  notext : Addr
  f_l_any : Addr
  f_l_going : Addr
  f_turned : Addr
  f_repeated : Addr
  hall : Addr

section
variable {X : Cx} {x : Str} {p pos : Pos}
theorem pe_gint {i : Int} (h : ∃ t, X.mg x = some (.int i t)) (hg : Gl X x) (hd : (x == ("__debug__" : Str)) = false := by decide) : PE X (.Name x p) (tC (.int i)) := by
  obtain ⟨t, h⟩ := h
  exact pe_glob hg h ⟨t, rfl⟩ hd
theorem pe_gstr {z : Str} (h : ∃ t, X.mg x = some (.str z t)) (hg : Gl X x) (hd : (x == ("__debug__" : Str)) = false := by decide) : PE X (.Name x p) (tC (.str z)) := by
  obtain ⟨t, h⟩ := h
  exact pe_glob hg h ⟨t, rfl⟩ hd
theorem pe_bty {T : String} (h : X.mg x = none) (hv : bootBuiltins x = some (.type T)) (hg : Gl X x) (hn : x ≠ "__name__" := by decide) (hd : (x == ("__debug__" : Str)) = false := by decide) : PE X (.Name x p) (tC (.ty T)) := pe_bltn hg h hv rfl hn hd
theorem pe_gcls {C : Addr} (h : X.mg x = some (.ref C)) (hg : Gl X x) (hd : (x == ("__debug__" : Str)) = false := by decide) : PE X (.Name x p) (tC (.ref C)) := pe_glob hg h rfl hd
def xNeg : V → Hp → VK → Prop := rU fun i => .int (-i)
theorem opNeg : UnR X (unaryOp .USub) xNeg := un_neg
def xSl (K : PySem.W.Frag) : V → Option Int → Option Int → Hp → VK → Prop := fun x lo hi H Q => rSlL K x lo hi H Q ∨ rSlA K x lo hi H Q ∨ rSlS x lo hi H Q
theorem opSl : SlR X (xSl X.K) := sl_list.or (sl_tupA.or sl_str)
end

/-! ### kinds of values -/
abbrev tyI : Value := .type "int"
abbrev tyB : Value := .type "bool"
/-- of x it is known whether it is a whole number -/
def Typed (K : PySem.W.Frag) (H : Hp) (x : V) : Prop := (∃ i, x = .int i) ∨ (∃ b, x = .bl b) ∨ ((∀ i, x ≠ .int i) ∧ ∃ T, TyX K H x (.type T) ∧ kitB T "int" = some false)
def numV : V → Bool
  | .int _ => true
  | _ => false
def iblV : V → Bool
  | .int _ => true
  | .bl _ => true
  | _ => false
def hgtV : V → Bool
  | .int i => decide (0 ≤ i) && decide (i ≤ 9)
  | _ => false
theorem tyx_ex {K : PySem.W.Frag} {H H' : Hp} {x : V} {t : Value} (e : Ex H H') (h : TyX K H x t) : TyX K H' x t := by
  cases h with
  | base h =>
    cases h with
    | non => exact .base .non
    | bl b => exact .base (.bl b)
    | int i => exact .base (.int i)
    | str s => exact .base (.str s)
    | flt s => exact .base (.flt s)
    | lst h => exact .base (.lst (e _ _ h))
    | frz h => exact .base (.frz (e _ _ h))
    | tup h => exact .base (.tup (e _ _ h))
    | dK h => exact .base (.dK (e _ _ h))
    | dT h => exact .base (.dT (e _ _ h))
    | ins h a b c d f => exact .base (.ins (e _ _ h) a b c d f)
  | byt b => exact .byt b
  | set h => exact .set (e _ _ h)
  | kList a b => exact .kList a b
  | kTuple a b => exact .kTuple a b
  | kDict a b => exact .kDict a b
  | fTuple h => exact .fTuple (e _ _ h)
  | fDict h => exact .fDict (e _ _ h)
theorem typed_ex {K : PySem.W.Frag} {H H' : Hp} {x : V} (e : Ex H H') (h : Typed K H x) : Typed K H' x := h.imp id (Or.imp id fun ⟨n, T, t, k⟩ => ⟨n, T, tyx_ex e t, k⟩)
theorem typed_int {K : PySem.W.Frag} {H : Hp} {i : Int} : Typed K H (.int i) := .inl ⟨i, rfl⟩
theorem typed_bl {K : PySem.W.Frag} {H : Hp} {b : Bool} : Typed K H (.bl b) := .inr (.inl ⟨b, rfl⟩)
theorem typed_non {K : PySem.W.Frag} {H : Hp} : Typed K H .non := .inr (.inr ⟨(fun _ z => nomatch z), _, .base .non, by decide +kernel⟩)
theorem typed_str {K : PySem.W.Frag} {H : Hp} {s : Str} : Typed K H (.str s) := .inr (.inr ⟨(fun _ z => nomatch z), _, .base (.str s), by decide +kernel⟩)
theorem tyx_l {K : PySem.W.Frag} {H : Hp} {a : Addr} {xs : List V} (h : SqL K H a xs) : TyX K H (.ref a) (.type "list") := by
  rcases h with (h | ⟨o, h⟩) | ⟨o, its, n, h, hc, _⟩
  · exact .base (.lst h)
  · exact .base (.frz h)
  · exact .kList h hc
theorem tyx_t {K : PySem.W.Frag} {H : Hp} {a : Addr} {xs : List V} (h : SqT K H a xs) : TyX K H (.ref a) (.type "tuple") := by
  rcases h with (h | ⟨o, h⟩) | ⟨o, its, n, h, hc, _⟩
  · exact .base (.tup h)
  · exact .fTuple h
  · exact .kTuple h hc
theorem typed_l {K : PySem.W.Frag} {H : Hp} {a : Addr} {xs : List V} (h : SqL K H a xs) : Typed K H (.ref a) := .inr (.inr ⟨(fun _ z => nomatch z), _, tyx_l h, by decide +kernel⟩)
theorem typed_t {K : PySem.W.Frag} {H : Hp} {a : Addr} {xs : List V} (h : SqT K H a xs) : Typed K H (.ref a) := .inr (.inr ⟨(fun _ z => nomatch z), _, tyx_t h, by decide +kernel⟩)
/-! isinstance(x, T), one built-in type -/
section
variable {K : PySem.W.Frag} {σ : L2.St} {H : Hp} {ta tb : TE} {x : V}
theorem ev_isi {T U : String} {b : Bool} (ha : Ev ta σ H x) (ht : TyX K H x (.type T)) (hb : kitB T U = some b) : Ev (tCB (cIsi K) (tCons ta (tCons (tC (.ty U)) tNil))) σ H (.bl b) := fun H1 e Q q =>
  ha H1 e _ fun H2 e2 => .inl ⟨x, .ty U, .type T, .type U, b, rfl, .ty U, tyx_ex (e.trans e2) ht, kit_ty hb, q H2 e2⟩
theorem ev_isi2 {T U W : String} {b : Bool} (ha : Ev ta σ H x) (ht : TyX K H x (.type T)) (hb : PySem.W.kitAny K (.type T) [.type U, .type W] = some b) :
    Ev (tCB (cIsi K) (tCons ta (tCons (tTup (tCons (tC (.ty U)) (tCons (tC (.ty W)) tNil))) tNil))) σ H (.bl b) := fun H1 e Q q =>
  ha H1 e _ fun H2 e2 => ⟨by show 2 ≤ sizeLine; decide, fun p hp => .inr (.inl ⟨x, p, [.ty U, .ty W], .type T, [.type U, .type W], b, rfl, upd_same, .cons (.ty U) (.cons (.ty W) .nil), tyx_ex ((e.trans e2).trans (Ex.new hp)) ht, hb, q _ (e2.trans (Ex.new hp))⟩)⟩
/-- .. of a kept error: one class, or a tuple of classes -/
theorem ev_isX {a D : Addr} {c : V} {u : Value} {b : Bool} (ha : Ev ta σ H (.ref a)) (he : H a = some (EO (.ref D) a)) (C : ExcC K D) (hc : ClsV c u) (hb : PySem.W.kitOne K (.ref D) u = some b) : Ev (tCB (cIsi K) (tCons ta (tCons (tC c) tNil))) σ H (.bl b) := fun H1 e Q q =>
  ha H1 e _ fun H2 e2 => .inr (.inr (.inl ⟨a, D, c, u, b, rfl, e2 _ _ (e _ _ he), C, hc, hb, q H2 e2⟩))
theorem ev_isXT {a D : Addr} {cs : List V} {us : List Value} {b : Bool} {tc : TA} (ha : Ev ta σ H (.ref a)) (he : H a = some (EO (.ref D) a)) (C : ExcC K D) (hv : EvA tc σ H cs) (hc : Paired ClsV cs us) (hl : cs.length ≤ 100000) (hb : PySem.W.kitAny K (.ref D) us = some b) : Ev (tCB (cIsi K) (tCons ta (tCons (tTup tc) tNil))) σ H (.bl b) := fun H1 e Q q =>
  ha H1 e _ fun H2 e2 => eu_tup hv hl H2 (e.trans e2) _ fun p H3 hp e3 h3 => .inr (.inr (.inr ⟨a, D, p, cs, us, b, rfl, e3 _ _ (e2 _ _ (e _ _ he)), C, h3, hc, hb, q H3 (e2.trans e3)⟩))
theorem ev_isInt (ha : Ev ta σ H x) (ht : Typed K H x) : Ev (tCB (cIsi K) (tCons ta (tCons (tC (.ty "int")) tNil))) σ H (.bl (iblV x)) := by
  rcases ht with ⟨i, rfl⟩ | ⟨b, rfl⟩ | ⟨hn, T, ty, hk⟩
  · exact ev_isi ha (.base (.int i)) (show kitB "int" "int" = some true by decide +kernel)
  · exact ev_isi ha (.base (.bl b)) (show kitB "bool" "int" = some true by decide +kernel)
  · have e : (iblV x) = false := by
      cases x with
      | int i => exact absurd rfl (hn i)
      | bl b =>
        exfalso
        cases ty with
        | base t => cases t; exact absurd hk (by decide +kernel)
      | _ => rfl
    rw [e]
    exact ev_isi ha ty hk
/-- behind it: isinstance(x, bool), for a whole number or a truth -/
theorem ev_isBool (ha : Ev ta σ H x) (ht : (iblV x) = true) : Ev (tCB (cIsi K) (tCons ta (tCons (tC (.ty "bool")) tNil))) σ H (.bl (!numV x)) := by
  cases x with
  | int i => exact ev_isi ha (.base (.int i)) (show kitB "int" "bool" = some false by decide +kernel)
  | bl b => exact ev_isi ha (.base (.bl b)) (show kitB "bool" "bool" = some true by decide +kernel)
  | _ => exact absurd ht (show ¬ false = true by decide)
end
end Tr

/-! Statements and loops over lists or tuples, enumerate, dicts: what follows where the values are known. -/
local macro_rules | `(tactic| k_allIn) => `(tactic| (first | with_reducible assumption | exact Evl.Ex.refl _ | ((with_reducible refine Evl.Ex.trans ?_ (by with_reducible assumption)); k_allIn)))
local macro_rules | `(tactic| k_ownIn) => `(tactic| (first | with_reducible assumption | ((with_reducible refine Tr.ex_at ?_ (by with_reducible assumption)); k_allIn) | ((with_reducible refine Tr.ex_q ?_ (by with_reducible assumption)); k_allIn) | ((with_reducible refine Evl.ex_l ?_ (by with_reducible assumption)); k_allIn) | ((with_reducible refine Evl.ex_t ?_ (by with_reducible assumption)); k_allIn) | ((with_reducible refine Tr.typed_ex ?_ (by with_reducible assumption)); k_allIn) | ((with_reducible refine Tr.dp_ex ?_ (by with_reducible assumption)); k_allIn) | ((with_reducible apply L2.SqL.of); k_ownIn) | ((with_reducible apply L2.SqT.of); k_ownIn) | ((with_reducible apply Tr.q_of_l); k_ownIn) | ((with_reducible apply Tr.q_of_t); k_ownIn)))
local macro_rules | `(tactic| k_caughtB) => `(tactic| (first | with_reducible assumption | omega | (exact ⟨by omega, by omega⟩) | (exact Or.inr ⟨by omega, by omega⟩) | (exact Or.inl ⟨by omega, by omega⟩) | decide | (simp only [List.length_cons, List.length_nil, List.length_map, List.length_append, List.length_replicate, List.length_range] <;> omega)))
local macro_rules | `(tactic| k_caught0) => `(tactic| (first | with_reducible exact Tr.rv_addI | with_reducible exact Tr.rv_sub | ((with_reducible apply Tr.rv_mul); k_caughtB) | ((with_reducible apply Tr.rv_div); k_caughtB) | ((with_reducible apply Tr.rv_mod); k_caughtB) | with_reducible exact Tr.rv_lt | with_reducible exact Tr.rv_le | with_reducible exact Tr.rv_gt | with_reducible exact Tr.rv_ge | with_reducible exact Tr.rv_eqI | with_reducible exact Tr.rv_neI | with_reducible exact Tr.rv_isN | with_reducible exact Tr.rv_notN | with_reducible exact Tr.rv_and | with_reducible exact Tr.rv_or | ((with_reducible apply Tr.rv_shl); k_caughtB) | ((with_reducible apply Tr.rv_shr); k_caughtB) | ((with_reducible apply Tr.rv_pow); k_caughtB) | ((with_reducible apply Tr.rv_addS); k_caughtB) | ((with_reducible apply Tr.rv_eqV); exact rfl) | ((with_reducible apply Tr.rv_neV); exact rfl)))
local macro_rules | `(tactic| k_memK) => `(tactic| (first | ((with_reducible apply Evl.el_lst); k_offL; k_caughtB) | ((with_reducible apply Tr.el_cat); k_clsL; k_clsL; k_caughtB) | ((with_reducible apply Tr.el_listQ); k_places) | ((with_reducible apply Tr.el_slX); k_clsL; k_subL; k_subL)))
local macro_rules | `(tactic| k_clsL) => `(tactic| (first | ((with_reducible apply Tr.evs_new); k_memK) | ((with_reducible apply Tr.evs_of); k_subL; k_ownIn) | ((with_reducible apply Tr.evw_new); with_reducible apply Evl.eu_tup; k_offL; k_caughtB) | ((with_reducible apply Tr.evw_tuple); k_places) | ((with_reducible apply Tr.evw_of); k_subL; k_ownIn)))
local macro_rules | `(tactic| k_places) => `(tactic| (first | ((with_reducible apply Tr.evq_of); k_subL; k_ownIn) | ((with_reducible apply Tr.evq_s); k_clsL) | ((with_reducible apply Tr.evq_w); k_clsL)))
local macro_rules | `(tactic| k_offL) => `(tactic| (first | with_reducible exact Evl.ea_nil | ((with_reducible apply Evl.ea_cons); k_subL; k_offL)))
local macro_rules | `(tactic| k_subL) => `(tactic| (first | with_reducible assumption | with_reducible exact Evl.ev_c | ((with_reducible apply Evl.ev_var); exact rfl) | ((with_reducible apply Tr.ev_ix); k_places; (intro _ _; k_subL); k_caughtB) | ((with_reducible apply Evl.ev_op); k_subL; k_subL; k_caught0) | ((with_reducible apply Tr.ev_lenQ); k_places) | ((with_reducible apply Tr.ev_intB); k_subL) | ((with_reducible apply Tr.ev_intI); k_subL) | ((with_reducible apply Evl.ev_notV); k_subL) | ((with_reducible apply Tr.ev_sum); k_places) | with_reducible exact Evl.eo_none | ((with_reducible apply Evl.eo_some); k_subL)))
namespace Tr
open PySem L2 PySem.Spec PyProof.Rows Evl

section
variable {K : PySem.W.Frag} {σ : L2.St} {H H' : Hp} {ta tb te tc td ty tl : TE} {x y z v : V} {xs : List V} {D : Ends} {tu tz : TS} {g : TG} {a : Addr}
theorem ev_chain {i j k : Int} (ha : Ev ta σ H (.int i)) (hb : Ev tb σ H (.int j)) (hc : Ev tc σ H (.int k)) : Ev (tChain xLe xLe ta tb tc) σ H (.bl (decide (i ≤ j) && decide (j ≤ k))) := fun H1 e Q q =>
  ha H1 e _ fun H2 e2 => hb H2 (e.trans e2) _ fun H3 e3 => ⟨i, j, rfl, rfl, decide (i ≤ j), rfl, by
    cases hd : decide (i ≤ j) with
    | true => exact hc H3 ((e.trans e2).trans e3) _ fun H4 e4 => ⟨j, k, rfl, rfl, by rw [hd, Bool.true_and] at q; exact q H4 ((e2.trans e3).trans e4)⟩
    | false =>
      rw [hd, Bool.false_and] at q
      exact q H3 (e2.trans e3)⟩
theorem ev_din {kvs : List (Key × V)} {k : Key} (hk : Ev ty σ H (kV k)) (hd : Ev td σ H (.ref a)) (ha : H a = some (.dK kvs)) : Ev (tDIn ty td) σ H (.bl (valV kvs k).isSome) := fun H1 e Q q =>
  hk H1 e _ fun H2 e2 => hd H2 (e.trans e2) _ fun H3 e3 => ⟨a, valV kvs k, rfl, DGet.k (((e.trans e2).trans e3) a _ ha), q H3 (e2.trans e3)⟩
theorem ev_dnotin {kvs : List (Key × V)} {k : Key} (hk : Ev ty σ H (kV k)) (hd : Ev td σ H (.ref a)) (ha : H a = some (.dK kvs)) : Ev (tDNotIn ty td) σ H (.bl (!(valV kvs k).isSome)) := fun H1 e Q q =>
  hk H1 e _ fun H2 e2 => hd H2 (e.trans e2) _ fun H3 e3 => ⟨a, valV kvs k, rfl, DGet.k (((e.trans e2).trans e3) a _ ha), q H3 (e2.trans e3)⟩
theorem ev_dget {kvs : List (Key × V)} {k : Key} (hd : Ev td σ H (.ref a)) (hk : Ev ty σ H (kV k)) (ha : H a = some (.dK kvs)) (hv : valV kvs k = some v) : Ev (tDGet td ty) σ H v := fun H1 e Q q =>
  hd H1 e _ fun H2 e2 => hk H2 (e.trans e2) _ fun H3 e3 => ⟨a, v, rfl, by rw [← hv]; exact DGet.k (((e.trans e2).trans e3) a _ ha), q H3 (e2.trans e3)⟩
theorem s_dput {kvs : List (Key × V)} {k : Key} (hv : Ev te σ H v) (hd : Ev td σ H (.ref a)) (hk : Ev ty σ H (kV k)) (ha : H a = some (.dK kvs)) (hz : kvs.length < 100000) (q : ∀ H1, Ex H H1 → D.nx σ (upd H1 a (.dK (putK kvs k v)))) : sDPut td ty te D σ H :=
  hv H (Ex.refl H) _ fun H1 e1 => hd H1 e1 _ fun H2 e2 => hk H2 (e1.trans e2) _ fun H3 e3 => ⟨a, _, rfl, DPut.k (((e1.trans e2).trans e3) a _ ha) (sz_lt hz), q H3 ((e1.trans e2).trans e3)⟩
theorem s_asgD {i : Nat} (k : ∀ p, H p = none → D.nx (σ.set i (some (.ref p))) (upd H p (.dK []))) : tAsg tDNewK (gName i) D σ H := fun p hp => k p hp
theorem q_asgD {i : Nat} (k : ∀ p, H p = none → tz D (σ.set i (some (.ref p))) (upd H p (.dK []))) : tSeq (tAsg tDNewK (gName i)) tz D σ H := fun p hp => k p hp
/-- for x in e, e a list or a tuple at a name; H0: where it stood -/
theorem s_forQ {j : Nat} {b : Addr} {H0 : Hp} (hb : Ev tl σ H (.ref b)) (hq : SqQ K H0 b xs) (he : Ex H0 H) (Pv : Nat → L2.St → Hp → Prop) (h0 : ∀ H1, Ex H H1 → Pv 0 σ H1) (hl : ∀ i σ' H', Pv i σ' H' → Ex H0 H')
    (hs : ∀ i x σ' H', xs[i]? = some x → Pv i σ' H' → tu { D with nx := Pv (i + 1), ct := Pv (i + 1), bk := D.nx } (σ'.set j (some x)) H') (hd : ∀ σ' H', Pv xs.length σ' H' → D.nx σ' H') : tFor (iSeq K tl) (gName j) tu D σ H := by
  rcases hq with hq | hq
  · exact .inl (hb H (Ex.refl H) _ fun H1 e => ⟨b, rfl, ⟨xs, ex_l (he.trans e) hq⟩, for_list Pv (h0 H1 e) (fun i σ' H' _ p => ex_l (hl i σ' H' p) hq) (fun i x σ' H' hi p => hs i x σ' H' hi p) hd⟩)
  · exact .inr (hb H (Ex.refl H) _ fun H1 e => ⟨b, rfl, ⟨xs, ex_t (he.trans e) hq⟩, for_tup Pv (h0 H1 e) (fun i σ' H' _ p => ex_t (hl i σ' H' p) hq) (fun i x σ' H' hi p => hs i x σ' H' hi p) hd⟩)
/-- over a new list -/
theorem s_forN {j : Nat} (h : EvL tl σ H xs) (Pv : Addr → Nat → L2.St → Hp → Prop) (h0 : ∀ b H1, H b = none → Ex H H1 → H1 b = some (.lst xs) → Pv b 0 σ H1) (hl : ∀ b i σ' H', Pv b i σ' H' → H' b = some (.lst xs))
    (hs : ∀ b i x σ' H', xs[i]? = some x → Pv b i σ' H' → tu { D with nx := Pv b (i + 1), ct := Pv b (i + 1), bk := D.nx } (σ'.set j (some x)) H') (hd : ∀ b σ' H', Pv b xs.length σ' H' → D.nx σ' H') : tFor (iSeq K tl) (gName j) tu D σ H :=
  .inl (h H (Ex.refl H) _ fun b H1 hn e hb => ⟨b, rfl, ⟨xs, sq_of hb⟩, for_list (Pv b) (h0 b H1 hn e hb) (fun i σ' H' _ p => sq_of (hl b i σ' H' p)) (fun i x σ' H' hi p => hs b i x σ' H' hi p) (hd b)⟩)
/-- over a new tuple -/
theorem s_forU {j : Nat} (h : EvU tl σ H xs) (Pv : Addr → Nat → L2.St → Hp → Prop) (h0 : ∀ b H1, H b = none → Ex H H1 → H1 b = some (.tup xs) → Pv b 0 σ H1) (hl : ∀ b i σ' H', Pv b i σ' H' → H' b = some (.tup xs))
    (hs : ∀ b i x σ' H', xs[i]? = some x → Pv b i σ' H' → tu { D with nx := Pv b (i + 1), ct := Pv b (i + 1), bk := D.nx } (σ'.set j (some x)) H') (hd : ∀ b σ' H', Pv b xs.length σ' H' → D.nx σ' H') : tFor (iSeq K tl) (gName j) tu D σ H :=
  .inr (h H (Ex.refl H) _ fun b H1 hn e hb => ⟨b, rfl, ⟨xs, st_of hb⟩, for_tup (Pv b) (h0 b H1 hn e hb) (fun i σ' H' _ p => st_of (hl b i σ' H' p)) (fun i x σ' H' hi p => hs b i x σ' H' hi p) (hd b)⟩)
/-- the two items of a new pair go to two names -/
theorem g_two {p q : Nat} {T : Addr} {Q : L2.St → Hp → Prop} (k : Q ((σ.set p (some x)).set q (some y)) (upd H T (.tup [x, y]))) : gTup K 2 (gCons (gName p) (gCons (gName q) gNil)) (.ref T) σ (upd H T (.tup [x, y])) Q :=
  ⟨T, [x, y], rfl, SqT.of upd_same, rfl, x, [y], rfl, y, [], rfl, rfl, k⟩
theorem for_enumL {p q : Nat} (Pv : Nat → L2.St → Hp → Prop) (h0 : Pv 0 σ H) (hl : ∀ i σ' H', Pv i σ' H' → SqL K H' a xs)
    (hs : ∀ i x σ' H' H2, xs[i]? = some x → Pv i σ' H' → Ex H' H2 → tu { D with nx := Pv (i + 1), ct := Pv (i + 1), bk := D.nx } ((σ'.set p (some (.int (i : Int)))).set q (some x)) H2) (hd : ∀ σ' H', Pv xs.length σ' H' → D.nx σ' H') :
    ∃ W : Nat → Nat → L2.St → Hp → Prop, (∃ m, W 0 m σ H) ∧ ∀ i m σ H, W i m σ H → ((Ite K a).stop i H ∧ D.nx σ H) ∨ ((Ite K a).go i H ∧ ∃ Nx : L2.St → Hp → Prop, (∀ σ' H', Nx σ' H' → ∃ m', m' < m ∧ W (i + 1) m' σ' H') ∧
      ∀ x H', (Ite K a).yld i H x H' → gTup K 2 (gCons (gName p) (gCons (gName q) gNil)) x σ H' fun σ2 H2 => tu { D with nx := Nx, ct := Nx, bk := D.nx } σ2 H2) := by
  refine ⟨fun i m σ H => m + i = xs.length ∧ Pv i σ H, ⟨xs.length, by omega, h0⟩, ?_⟩
  rintro i m σ H ⟨hm, hp⟩
  have hq := hl i σ H hp
  by_cases hi : i < xs.length
  · refine .inr ⟨⟨xs, xs[i], hq, List.getElem?_eq_getElem hi⟩, Pv (i + 1), fun σ' H' p' => ⟨m - 1, by omega, by omega, p'⟩, ?_⟩
    rintro v H' ⟨T, y, rfl, hT, rfl, hy⟩
    exact g_two (hs i y σ H _ (hy xs hq) hp (Ex.new hT))
  · have e : i = xs.length := by omega
    subst e
    exact .inl ⟨⟨xs, hq, Nat.le_refl _⟩, hd σ H hp⟩
theorem for_enumT {p q : Nat} (Pv : Nat → L2.St → Hp → Prop) (h0 : Pv 0 σ H) (hl : ∀ i σ' H', Pv i σ' H' → SqT K H' a xs)
    (hs : ∀ i x σ' H' H2, xs[i]? = some x → Pv i σ' H' → Ex H' H2 → tu { D with nx := Pv (i + 1), ct := Pv (i + 1), bk := D.nx } ((σ'.set p (some (.int (i : Int)))).set q (some x)) H2) (hd : ∀ σ' H', Pv xs.length σ' H' → D.nx σ' H') :
    ∃ W : Nat → Nat → L2.St → Hp → Prop, (∃ m, W 0 m σ H) ∧ ∀ i m σ H, W i m σ H → ((ItU K a).stop i H ∧ D.nx σ H) ∨ ((ItU K a).go i H ∧ ∃ Nx : L2.St → Hp → Prop, (∀ σ' H', Nx σ' H' → ∃ m', m' < m ∧ W (i + 1) m' σ' H') ∧
      ∀ x H', (ItU K a).yld i H x H' → gTup K 2 (gCons (gName p) (gCons (gName q) gNil)) x σ H' fun σ2 H2 => tu { D with nx := Nx, ct := Nx, bk := D.nx } σ2 H2) := by
  refine ⟨fun i m σ H => m + i = xs.length ∧ Pv i σ H, ⟨xs.length, by omega, h0⟩, ?_⟩
  rintro i m σ H ⟨hm, hp⟩
  have hq := hl i σ H hp
  by_cases hi : i < xs.length
  · refine .inr ⟨⟨xs, xs[i], hq, List.getElem?_eq_getElem hi⟩, Pv (i + 1), fun σ' H' p' => ⟨m - 1, by omega, by omega, p'⟩, ?_⟩
    rintro v H' ⟨T, y, rfl, hT, rfl, hy⟩
    exact g_two (hs i y σ H _ (hy xs hq) hp (Ex.new hT))
  · have e : i = xs.length := by omega
    subst e
    exact .inl ⟨⟨xs, hq, Nat.le_refl _⟩, hd σ H hp⟩
/-- for i, x in enumerate(e), e a list or a tuple at a name; H0: where it stood -/
theorem s_enumQ {p q : Nat} {H0 : Hp} (h : Ev tl σ H (.ref a)) (hq : SqQ K H0 a xs) (he : Ex H0 H) (Pv : Nat → L2.St → Hp → Prop) (h0 : ∀ H1, Ex H H1 → Pv 0 σ H1) (hl : ∀ i σ' H', Pv i σ' H' → Ex H0 H')
    (hs : ∀ i x σ' H' H2, xs[i]? = some x → Pv i σ' H' → Ex H' H2 → tu { D with nx := Pv (i + 1), ct := Pv (i + 1), bk := D.nx } ((σ'.set p (some (.int (i : Int)))).set q (some x)) H2)
    (hd : ∀ σ' H', Pv xs.length σ' H' → D.nx σ' H') : tFor (iEnumQ K (tCons tl tNil)) (gTup K 2 (gCons (gName p) (gCons (gName q) gNil))) tu D σ H := by
  rcases hq with hq | hq
  · exact .inl (h H (Ex.refl H) _ fun H1 e => ⟨a, xs, rfl, ex_l (he.trans e) hq, for_enumL Pv (h0 H1 e) (fun i σ' H' p => ex_l (hl i σ' H' p) hq) hs hd⟩)
  · exact .inr (h H (Ex.refl H) _ fun H1 e => ⟨a, xs, rfl, ex_t (he.trans e) hq, for_enumT Pv (h0 H1 e) (fun i σ' H' p => ex_t (hl i σ' H' p) hq) hs hd⟩)
/-- .. over a new list -/
theorem s_enumN {p q : Nat} (h : EvL tl σ H xs) (Pv : Addr → Nat → L2.St → Hp → Prop) (h0 : ∀ b H1, H b = none → Ex H H1 → H1 b = some (.lst xs) → Pv b 0 σ H1) (hl : ∀ b i σ' H', Pv b i σ' H' → H' b = some (.lst xs))
    (hs : ∀ b i x σ' H' H2, xs[i]? = some x → Pv b i σ' H' → Ex H' H2 → tu { D with nx := Pv b (i + 1), ct := Pv b (i + 1), bk := D.nx } ((σ'.set p (some (.int (i : Int)))).set q (some x)) H2)
    (hd : ∀ b σ' H', Pv b xs.length σ' H' → D.nx σ' H') : tFor (iEnumQ K (tCons tl tNil)) (gTup K 2 (gCons (gName p) (gCons (gName q) gNil))) tu D σ H :=
  .inl (h H (Ex.refl H) _ fun b H1 hn e hb => ⟨b, xs, rfl, sq_of hb, for_enumL (Pv b) (h0 b H1 hn e hb) (fun i σ' H' p => sq_of (hl b i σ' H' p)) (hs b) (hd b)⟩)
/-- the same, something behind -/
theorem q_forQ {j : Nat} {b : Addr} {H0 : Hp} (hb : Ev tl σ H (.ref b)) (hq : SqQ K H0 b xs) (he : Ex H0 H) (Pv : Nat → L2.St → Hp → Prop) (h0 : ∀ H1, Ex H H1 → Pv 0 σ H1) (hl : ∀ i σ' H', Pv i σ' H' → Ex H0 H')
    (hs : ∀ i x σ' H', xs[i]? = some x → Pv i σ' H' → tu { D with nx := Pv (i + 1), ct := Pv (i + 1), bk := tz D } (σ'.set j (some x)) H') (hd : ∀ σ' H', Pv xs.length σ' H' → tz D σ' H') : tSeq (tFor (iSeq K tl) (gName j) tu) tz D σ H :=
  s_forQ (D := { D with nx := tz D }) hb hq he Pv h0 hl hs hd
theorem q_forN {j : Nat} (h : EvL tl σ H xs) (Pv : Addr → Nat → L2.St → Hp → Prop) (h0 : ∀ b H1, H b = none → Ex H H1 → H1 b = some (.lst xs) → Pv b 0 σ H1) (hl : ∀ b i σ' H', Pv b i σ' H' → H' b = some (.lst xs))
    (hs : ∀ b i x σ' H', xs[i]? = some x → Pv b i σ' H' → tu { D with nx := Pv b (i + 1), ct := Pv b (i + 1), bk := tz D } (σ'.set j (some x)) H') (hd : ∀ b σ' H', Pv b xs.length σ' H' → tz D σ' H') : tSeq (tFor (iSeq K tl) (gName j) tu) tz D σ H :=
  s_forN (D := { D with nx := tz D }) h Pv h0 hl hs hd
theorem q_forU {j : Nat} (h : EvU tl σ H xs) (Pv : Addr → Nat → L2.St → Hp → Prop) (h0 : ∀ b H1, H b = none → Ex H H1 → H1 b = some (.tup xs) → Pv b 0 σ H1) (hl : ∀ b i σ' H', Pv b i σ' H' → H' b = some (.tup xs))
    (hs : ∀ b i x σ' H', xs[i]? = some x → Pv b i σ' H' → tu { D with nx := Pv b (i + 1), ct := Pv b (i + 1), bk := tz D } (σ'.set j (some x)) H') (hd : ∀ b σ' H', Pv b xs.length σ' H' → tz D σ' H') : tSeq (tFor (iSeq K tl) (gName j) tu) tz D σ H :=
  s_forU (D := { D with nx := tz D }) h Pv h0 hl hs hd
theorem q_enumQ {p q : Nat} {H0 : Hp} (h : Ev tl σ H (.ref a)) (hq : SqQ K H0 a xs) (he : Ex H0 H) (Pv : Nat → L2.St → Hp → Prop) (h0 : ∀ H1, Ex H H1 → Pv 0 σ H1) (hl : ∀ i σ' H', Pv i σ' H' → Ex H0 H')
    (hs : ∀ i x σ' H' H2, xs[i]? = some x → Pv i σ' H' → Ex H' H2 → tu { D with nx := Pv (i + 1), ct := Pv (i + 1), bk := tz D } ((σ'.set p (some (.int (i : Int)))).set q (some x)) H2)
    (hd : ∀ σ' H', Pv xs.length σ' H' → tz D σ' H') : tSeq (tFor (iEnumQ K (tCons tl tNil)) (gTup K 2 (gCons (gName p) (gCons (gName q) gNil))) tu) tz D σ H :=
  s_enumQ (D := { D with nx := tz D }) h hq he Pv h0 hl hs hd
theorem q_enumN {p q : Nat} (h : EvL tl σ H xs) (Pv : Addr → Nat → L2.St → Hp → Prop) (h0 : ∀ b H1, H b = none → Ex H H1 → H1 b = some (.lst xs) → Pv b 0 σ H1) (hl : ∀ b i σ' H', Pv b i σ' H' → H' b = some (.lst xs))
    (hs : ∀ b i x σ' H' H2, xs[i]? = some x → Pv b i σ' H' → Ex H' H2 → tu { D with nx := Pv b (i + 1), ct := Pv b (i + 1), bk := tz D } ((σ'.set p (some (.int (i : Int)))).set q (some x)) H2)
    (hd : ∀ b σ' H', Pv b xs.length σ' H' → tz D σ' H') : tSeq (tFor (iEnumQ K (tCons tl tNil)) (gTup K 2 (gCons (gName p) (gCons (gName q) gNil))) tu) tz D σ H :=
  s_enumN (D := { D with nx := tz D }) h Pv h0 hl hs hd
end
/-- a promise that raises -/
def RetE (C : Addr) (H : Hp) (E : XK) : Prop := ∀ H', Ex H H' → E (.ref C) none H'
/-- a promise of known data -/
def RetD (K : PySem.W.Frag) (d : PyData) (H : Hp) (Q : VK) : Prop := ∀ v H', Ex H H' → Dp K H' v d → Q v H'
end Tr

/-! Rows: what is drawn, what is refused, who clashes: the mathematics' words, the promises, the readings. -/
namespace Tr
open PySem L2 PySem.Spec PyProof.Rows Evl

/-! ### words -/
def mixed (a k : Int) : Int :=
  (a + 7919 * k) * 48271 % 2147483647 * ((a + 7919 * k) * 48271 % 2147483647 + 2 * k + 1) % 2147483629
theorem mixed_lo (a k : Int) : 0 ≤ mixed a k := Int.emod_nonneg _ (by decide)
theorem mixed_hi (a k : Int) : mixed a k < 2147483629 := Int.emod_lt_of_pos _ (by decide)
def gi (ns : List Int) (i : Int) : Int := ns.getD i.toNat 0
theorem atI_ints {ns : List Int} {i : Int} (h0 : 0 ≤ i) (h1 : i < ns.length) : atI (ns.map V.int) i = some (.int (gi ns i)) := by
  unfold atI ixN gi
  have hn : i.toNat < ns.length := by omega
  rw [if_pos h0, List.length_map, if_pos h1, Option.bind_some, List.getElem?_map, List.getD_eq_getElem?_getD, List.getElem?_eq_getElem hn]
  rfl
theorem at3 {x y z : Int} {i : Int} (h0 : 0 ≤ i) (h1 : i < 3) : atI [V.int x, V.int y, V.int z] i = some (.int (if i = 0 then x else if i = 1 then y else z)) := by
  rcases (show i = 0 ∨ i = 1 ∨ i = 2 by omega) with rfl | rfl | rfl <;> rfl
def pick3 (x y z i : Int) : Int := if i = 0 then x else if i = 1 then y else z
def anyF (cell many : Int) : List Int := (List.range many.toNat).map fun (k : Nat) => mixed cell (k : Int) % pick3 10 4 10 (cell % 3)
def longF (cell : Int) : Int := pick3 (1 + cell / 10 % 9) (1 + cell / 10 % 40) 3 (cell % 3)
/-- one exchange, where both heights stay within -/
def exch (ns : List Int) (one other : Int) : List Int :=
  let h1 := other - one + gi ns other
  let h2 := gi ns one - other + one
  if (0 ≤ h1 ∧ 0 ≤ h2) ∧ (h1 < 10 ∧ h2 < 10) then (ns.set one.toNat h1).set other.toNat h2 else ns
def exchD (ns : List Int) (draw : Int) : List Int :=
  let a := draw % ns.length
  let b := (a + 1 + draw / 64 % (ns.length - 1)) % ns.length
  if a > b then exch ns b a else exch ns a b
def mixedUp (ns : List Int) (cell : Int) (n : Nat) : List Int := (List.range n).foldl (fun r (k : Nat) => exchD r (mixed cell (k : Int))) ns
def turns2 (m : Nat) : Nat := if m > 1 then 2 * m else 0
def goStep (cell : Int) (r : List Int) (k : Int) : List Int :=
  let m := mixedUp r (mixed cell (50 + k)) (turns2 r.length)
  let b := (mixed cell (60 + k) % r.length).toNat
  m.drop b ++ m.take b
def going (cell many : Int) : List Int := goStep cell (goStep cell (List.replicate many.toNat (cell % 10)) 0) 1
/-- where the throw of a turn lands -/
def place (ns : List Int) (t : Nat) : Int := ((t : Int) + ns.getD t 0) % ns.length
def clashF (ns : List Int) : Option (Nat × Nat) := (List.range ns.length).findSome? fun j => ((List.range j).find? fun i => decide (place ns i = place ns j)).map fun i => (i, j)
def dPair : Option (Nat × Nat) → PyData
  | none => .none
  | some (i, j) => .tuple [.int i, .int j]
def Good (ns : List Int) : Prop := 1 ≤ ns.length ∧ ns.length ≤ 40 ∧ ∀ i ∈ ns, 0 ≤ i ∧ i ≤ 9
/-- what is no row -/
def Bad (K : PySem.W.Frag) (H : Hp) (x : V) : Prop := (∃ T, TyX K H x (.type T) ∧ kitB T "list" = some false ∧ kitB T "tuple" = some false) ∨
  ∃ a xs, x = .ref a ∧ SqQ K H a xs ∧ (∀ y ∈ xs, Typed K H y) ∧ ¬ (1 ≤ xs.length ∧ xs.length ≤ 40 ∧ xs.all hgtV = true)
def Row (K : PySem.W.Frag) (H : Hp) (x : V) (ns : List Int) : Prop := ∃ a, x = .ref a ∧ SqQ K H a (ns.map V.int)
theorem bad_ex {K : PySem.W.Frag} {H H' : Hp} {x : V} (e : Ex H H') (h : Bad K H x) : Bad K H' x := by
  rcases h with ⟨T, t, h⟩ | ⟨a, xs, rfl, hq, ht, h⟩
  · exact .inl ⟨T, tyx_ex e t, h⟩
  · exact .inr ⟨a, xs, rfl, ex_q e hq, fun y hy => typed_ex e (ht y hy), h⟩
theorem row_ex {K : PySem.W.Frag} {H H' : Hp} {x : V} {ns : List Int} (e : Ex H H') (h : Row K H x ns) : Row K H' x ns := let ⟨a, ea, hq⟩ := h; ⟨a, ea, ex_q e hq⟩

/-! ### promises -/
def sp_is_number (K : PySem.W.Frag) (c : Cs) : Sp := fun vs H Q _ => ∃ x, vs = [x] ∧ Typed K H x ∧ RetV (.bl (numV x)) H Q
def sp_is_height (K : PySem.W.Frag) (c : Cs) : Sp := fun vs H Q _ => ∃ x, vs = [x] ∧ Typed K H x ∧ RetV (.bl (hgtV x)) H Q
def sp_need_row (K : PySem.W.Frag) (c : Cs) : Sp := fun vs H Q E => ∃ x, vs = [x] ∧ ((Bad K H x ∧ RetE c.norow H E) ∨ ∃ ns, Row K H x ns ∧ Good ns ∧ RetV .non H Q)
def sp_clash (K : PySem.W.Frag) (c : Cs) : Sp := fun vs H Q E => ∃ x, vs = [x] ∧ ((Bad K H x ∧ RetE c.norow H E) ∨ ∃ ns, Row K H x ns ∧ Good ns ∧ RetD K (dPair (clashF ns)) H Q)
def sp_l_mixed (K : PySem.W.Frag) (c : Cs) : Sp := fun vs H Q _ => ∃ a k, vs = [.int a, .int k] ∧ RetV (.int (mixed a k)) H Q
def sp_l_long (K : PySem.W.Frag) (c : Cs) : Sp := fun vs H Q _ => ∃ a, vs = [.int a] ∧ RetV (.int (longF a)) H Q
def sp_l_cell_at (K : PySem.W.Frag) (c : Cs) : Sp := fun vs H Q _ => ∃ (a : Addr) (ns : List Int) (k : Int), vs = [.ref a, .int k] ∧ SqL K H a (ns.map V.int) ∧ 0 ≤ k ∧ RetV (.int (mixed (gi ns k) k)) H Q
def sp_l_any (K : PySem.W.Frag) (c : Cs) : Sp := fun vs H Q _ => ∃ a m : Int, vs = [.int a, .int m] ∧ 0 ≤ m ∧ m ≤ 1000 ∧ RetL ((anyF a m).map V.int) H Q
def sp_l_mixed_up (K : PySem.W.Frag) (c : Cs) : Sp := fun vs H Q _ => ∃ (p : Addr) (ns : List Int) (a : Int), vs = [.ref p, .int a] ∧ H p = some (.lst (ns.map V.int)) ∧ 1 ≤ ns.length ∧ ns.length ≤ 1000 ∧
  ∀ H', (∀ b o, b ≠ p → H b = some o → H' b = some o) → H' p = some (.lst ((mixedUp ns a (turns2 ns.length)).map V.int)) → Q .non H'
def sp_l_going (K : PySem.W.Frag) (c : Cs) : Sp := fun vs H Q _ => ∃ a m : Int, vs = [.int a, .int m] ∧ 1 ≤ m ∧ m ≤ 1000 ∧ RetL ((going a m).map V.int) H Q
section
variable {K : PySem.W.Frag} {c : Cs} {E : XK} {σ : L2.St} {H : Hp} {ta tb : TE}
theorem ev_l_mixed {a k : Int} (ha : Ev ta σ H (.int a)) (hb : Ev tb σ H (.int k)) : Ev (tCall (sp_l_mixed K c) [] E (tCons ta (tCons tb tNil))) σ H (.int (mixed a k)) :=
  ev_call (ea_cons ha (ea_cons hb ea_nil)) fun H1 _ Q q _ => ⟨a, k, rfl, q⟩
theorem ev_l_long {a : Int} (ha : Ev ta σ H (.int a)) : Ev (tCall (sp_l_long K c) [] E (tCons ta tNil)) σ H (.int (longF a)) :=
  ev_call (ea_cons ha ea_nil) fun H1 _ Q q _ => ⟨a, rfl, q⟩
theorem ev_l_cell_at {a : Addr} {ns : List Int} {k : Int} (ha : Ev ta σ H (.ref a)) (hb : Ev tb σ H (.int k)) (hs : SqL K H a (ns.map V.int)) (hk : 0 ≤ k) : Ev (tCall (sp_l_cell_at K c) [] E (tCons ta (tCons tb tNil))) σ H (.int (mixed (gi ns k) k)) :=
  ev_call (ea_cons ha (ea_cons hb ea_nil)) fun H1 e Q q _ => ⟨a, ns, k, rfl, ex_l e hs, hk, q⟩
theorem ev_is_number {x : V} (ha : Ev ta σ H x) (ht : Typed K H x) : Ev (tCall (sp_is_number K c) [] E (tCons ta tNil)) σ H (.bl (numV x)) :=
  ev_call (ea_cons ha ea_nil) fun H1 e Q q _ => ⟨x, rfl, typed_ex e ht, q⟩
theorem ev_is_height {x : V} (ha : Ev ta σ H x) (ht : Typed K H x) : Ev (tCall (sp_is_height K c) [] E (tCons ta tNil)) σ H (.bl (hgtV x)) :=
  ev_call (ea_cons ha ea_nil) fun H1 e Q q _ => ⟨x, rfl, typed_ex e ht, q⟩
theorem el_l_any {a m : Int} (ha : Ev ta σ H (.int a)) (hb : Ev tb σ H (.int m)) (h0 : 0 ≤ m) (h1 : m ≤ 1000) : EvL (tCall (sp_l_any K c) [] E (tCons ta (tCons tb tNil))) σ H ((anyF a m).map V.int) :=
  el_call (ea_cons ha (ea_cons hb ea_nil)) fun H1 e Q q _ => ⟨a, m, rfl, h0, h1, q⟩
theorem el_l_going {a m : Int} (ha : Ev ta σ H (.int a)) (hb : Ev tb σ H (.int m)) (h0 : 1 ≤ m) (h1 : m ≤ 1000) : EvL (tCall (sp_l_going K c) [] E (tCons ta (tCons tb tNil))) σ H ((going a m).map V.int) :=
  el_call (ea_cons ha (ea_cons hb ea_nil)) fun H1 e Q q _ => ⟨a, m, rfl, h0, h1, q⟩
theorem evd_clash {ns : List Int} (ha : EvQ K ta σ H (ns.map V.int)) (hg : Good ns) : EvD K (tCall (sp_clash K c) [] E (tCons ta tNil)) σ H (dPair (clashF ns)) := fun H1 e Q q =>
  ha H1 e _ fun a H2 e2 hq => ⟨.ref a, rfl, .inr ⟨ns, ⟨a, rfl, hq⟩, hg, fun v H' e3 hd => q v H' (e2.trans e3) hd⟩⟩
end
/-- is_number: slots thing -/
def t_is_number (K : PySem.W.Frag) (c : Cs) (E : XK) : TS :=
  (tRet (tAndV (tCB (cIsi K) (tCons (tVar 0) (tCons (tC (.ty "int")) tNil))) (tNotV (tCB (cIsi K) (tCons (tVar 0) (tCons (tC (.ty "bool")) tNil))))))

/-- is_height: slots thing -/
def t_is_height (K : PySem.W.Frag) (c : Cs) (E : XK) : TS :=
  (tRet (tAndV (tCall (sp_is_number K c) [] E0 (tCons (tVar 0) tNil)) (tChain xLe xLe (tC (.int 0)) (tVar 0) (tC (.int 9)))))

/-- need_row: slots thing, height -/
def t_need_row (K : PySem.W.Frag) (c : Cs) (E : XK) : TS :=
  (tSeq (tIfS (tOr (tNot (tB (tCB (cIsi K) (tCons (tVar 0) (tCons (tTup (tCons (tC (.ty "list")) (tCons (tC (.ty "tuple")) tNil))) tNil))))) (tNot (tTest (tChain xLe xLe (tC (.int 1)) (tCB (cLen K) (tCons (tVar 0) tNil)) (tC (.int 40)))))) (fun _ σ H => (fun cls d _ H => E cls d H) (.ref c.norow) none σ H) tNext)
  (tFor (iSeq K (tVar 0)) (gName 1) (tIfS (tNot (tB (tCall (sp_is_height K c) [] E0 (tCons (tVar 1) tNil)))) (fun _ σ H => (fun cls d _ H => E cls d H) (.ref c.norow) none σ H) tNext)))

/-- clash: slots row, met, turn, height, place -/
def t_clash (K : PySem.W.Frag) (c : Cs) (E : XK) : TS :=
  (tSeq (tDrop (tCall (sp_need_row K c) [] E (tCons (tVar 0) tNil)))
  (tSeq (tAsg tDNewK (gName 1))
  (tSeq (tFor (iEnumQ K (tCons (tVar 0) tNil)) (gTup K 2 (gCons (gName 2) (gCons (gName 3) gNil))) (tSeq (tAsg (tOp xMod (tOp (xAdd K) (tVar 2) (tVar 3)) (tCB (cLen K) (tCons (tVar 0) tNil))) (gName 4))
  (tSeq (tIfS (tB (tDIn (tVar 4) (tVar 1))) (tRet (tTup (tCons (tDGet (tVar 1) (tVar 4)) (tCons (tVar 2) tNil)))) tNext)
  (sDPut (tVar 1) (tVar 4) (tVar 2)))))
  (tRet (tC .non)))))

/-- _law_mixed: slots _law_cell, _law_k, _law_drawn -/
def t_l_mixed (K : PySem.W.Frag) (c : Cs) (E : XK) : TS :=
  (tSeq (tAsg (tOp xMod (tOp (xMul K) (tOp (xAdd K) (tVar 0) (tOp (xMul K) (tC (.int 7919)) (tVar 1))) (tC (.int 48271))) (tC (.int 2147483647))) (gName 2))
  (tRet (tOp xMod (tOp (xMul K) (tVar 2) (tOp (xAdd K) (tOp (xAdd K) (tVar 2) (tOp (xMul K) (tC (.int 2)) (tVar 1))) (tC (.int 1)))) (tC (.int 2147483629)))))

/-- _law_cell_at: slots _law_script, _law_k -/
def t_l_cell_at (K : PySem.W.Frag) (c : Cs) (E : XK) : TS :=
  (tSeq (tIfS (tTest (tOp xLt (tVar 1) (tCB (cLen K) (tCons (tVar 0) tNil)))) (tRet (tCall (sp_l_mixed K c) [] E0 (tCons (tOp (rIx K) (tVar 0) (tVar 1)) (tCons (tVar 1) tNil)))) tNext)
  (tRet (tCall (sp_l_mixed K c) [] E0 (tCons (tC (.int 0)) (tCons (tVar 1) tNil)))))

/-- _law_any: slots _law_cell, _law_many, _law_k -/
def t_l_any (K : PySem.W.Frag) (c : Cs) (E : XK) : TS :=
  (tRet (tLc (iRng1 (tCons (tVar 1) tNil)) (gName 2) tYes (tOp xMod (tCall (sp_l_mixed K c) [] E0 (tCons (tVar 0) (tCons (tVar 2) tNil))) (tOp (rIx K) (tLst (tCons (tC (.int 10)) (tCons (tC (.int 4)) (tCons (tC (.int 10)) tNil)))) (tOp xMod (tVar 0) (tC (.int 3))))) [2]))

/-- _law_mixed_up: slots _law_row, _law_cell, _law_many, _law_k, _law_draw, _law_one, _law_other, _law_heights -/
def t_l_mixed_up (K : PySem.W.Frag) (c : Cs) (E : XK) : TS :=
  (tSeq (tAsg (tCB (cLen K) (tCons (tVar 0) tNil)) (gName 2))
  (tFor (iRng1 (tCons (tOp (xMul K) (tOp (xMul K) (tC (.int 2)) (tVar 2)) (tCB cInt (tCons (tOp xGt (tVar 2) (tC (.int 1))) tNil))) tNil)) (gName 3) (tSeq (tAsg (tCall (sp_l_mixed K c) [] E0 (tCons (tVar 1) (tCons (tVar 3) tNil))) (gName 4))
  (tSeq (tAsg (tOp xMod (tVar 4) (tVar 2)) (gName 5))
  (tSeq (tAsg (tOp xMod (tOp (xAdd K) (tOp (xAdd K) (tVar 5) (tC (.int 1))) (tOp xMod (tOp xDiv (tVar 4) (tC (.int 64))) (tOp xSub (tVar 2) (tC (.int 1))))) (tVar 2)) (gName 6))
  (tSeq (tIfS (tTest (tOp xGt (tVar 5) (tVar 6))) (tPar 5 6 (tCons (tVar 6) (tCons (tVar 5) tNil))) tNext)
  (tSeq (tAsg (tTup (tCons (tOp (xAdd K) (tOp xSub (tVar 6) (tVar 5)) (tOp (rIx K) (tVar 0) (tVar 6))) (tCons (tOp (xAdd K) (tOp xSub (tOp (rIx K) (tVar 0) (tVar 5)) (tVar 6)) (tVar 5)) tNil))) (gName 7))
  (tIfS (tAnd (tTest (tOp xLe (tC (.int 0)) (tCB (cMin K) (tCons (tVar 7) tNil)))) (tTest (tOp xLt (tCB (cMax K) (tCons (tVar 7) tNil)) (tC (.int 10))))) (tAsg (tVar 7) (gTup K 2 (gCons (gSub (tVar 0) (tVar 5) rSetL) (gCons (gSub (tVar 0) (tVar 6) rSetL) gNil)))) tNext))))))))

/-- _law_going: slots _law_cell, _law_many, _law_row, _law_k, _law_by -/
def t_l_going (K : PySem.W.Frag) (c : Cs) (E : XK) : TS :=
  (tSeq (tAsg (tOp (xMul K) (tLst (tCons (tOp xMod (tVar 0) (tC (.int 10))) tNil)) (tVar 1)) (gName 2))
  (tSeq (tFor (iRng1 (tCons (tC (.int 2)) tNil)) (gName 3) (tSeq (tDrop (tCall (sp_l_mixed_up K c) [] E0 (tCons (tVar 2) (tCons (tCall (sp_l_mixed K c) [] E0 (tCons (tVar 0) (tCons (tOp (xAdd K) (tC (.int 50)) (tVar 3)) tNil))) tNil))))
  (tSeq (tAsg (tOp xMod (tCall (sp_l_mixed K c) [] E0 (tCons (tVar 0) (tCons (tOp (xAdd K) (tC (.int 60)) (tVar 3)) tNil))) (tVar 1)) (gName 4))
  (tAsg (tOp (xAdd K) (tSl (xSl K) (tVar 2) (tPart (tVar 4)) tNoPart) (tSl (xSl K) (tVar 2) tNoPart (tPart (tVar 4)))) (gName 2)))))
  (tRet (tVar 2))))

/-- _law_long: slots _law_cell -/
def t_l_long (K : PySem.W.Frag) (c : Cs) (E : XK) : TS :=
  (tRet (tOp (rIx K) (tLst (tCons (tOp (xAdd K) (tC (.int 1)) (tOp xMod (tOp xDiv (tVar 0) (tC (.int 10))) (tC (.int 9)))) (tCons (tOp (xAdd K) (tC (.int 1)) (tOp xMod (tOp xDiv (tVar 0) (tC (.int 10))) (tC (.int 40)))) (tCons (tC (.int 3)) tNil)))) (tOp xMod (tVar 0) (tC (.int 3)))))

section
variable {K : PySem.W.Frag} {c : Cs} {vs : List V} {H : Hp} {Q : VK} {E : XK}
theorem pure_is_number (h : sp_is_number K c vs H Q E) : t_is_number K c E { nx := fun _ H' => Q .non H', rt := Q } (start ["thing"] vs) H := by
  obtain ⟨x, rfl, ht, k⟩ := h
  refine s_ret (v := .bl (numV x)) ?_ fun H1 e => k H1 e
  have h1 : Ev (tVar 0) (start ["thing"] [x]) H x := ev_var rfl
  refine ev_is (ev_andV (ev_isInt h1 ht) fun hb => ev_notV (ev_isBool h1 hb)) ?_
  cases x <;> rfl
theorem pure_is_height (h : sp_is_height K c vs H Q E) : t_is_height K c E { nx := fun _ H' => Q .non H', rt := Q } (start ["thing"] vs) H := by
  obtain ⟨x, rfl, ht, k⟩ := h
  refine s_ret (v := .bl (hgtV x)) ?_ fun H1 e => k H1 e
  have h1 : Ev (tVar 0) (start ["thing"] [x]) H x := ev_var rfl
  cases x with
  | int i => exact ev_is (ev_andV (ev_is_number h1 ht) fun hb => ev_chain (by k_subL) h1 (by k_subL)) rfl
  | _ => exact ev_is (ev_andV (b := true) (ev_is_number h1 ht) fun hb => absurd hb Bool.false_ne_true) rfl
theorem pure_l_mixed (h : sp_l_mixed K c vs H Q E) : t_l_mixed K c E { nx := fun _ H' => Q .non H', rt := Q } (start ["_law_cell", "_law_k", "_law_drawn"] vs) H := by
  obtain ⟨a, k, rfl, q⟩ := h
  apply q_asg
  k_subL
  intro H1 e1
  have hd : 0 ≤ (a + 7919 * k) * 48271 % 2147483647 ∧ (a + 7919 * k) * 48271 % 2147483647 < 2147483647 := ⟨Int.emod_nonneg _ (by decide), Int.emod_lt_of_pos _ (by decide)⟩
  apply s_ret
  k_subL
  intro H2 e2
  exact q H2 (by k_allIn)
theorem pure_l_long (h : sp_l_long K c vs H Q E) : t_l_long K c E { nx := fun _ H' => Q .non H', rt := Q } (start ["_law_cell"] vs) H := by
  obtain ⟨a, rfl, q⟩ := h
  have hm : 0 ≤ a % 3 ∧ a % 3 < 3 := ⟨Int.emod_nonneg _ (by decide), Int.emod_lt_of_pos _ (by decide)⟩
  have h3 := at3 (x := 1 + a / 10 % 9) (y := 1 + a / 10 % 40) (z := 3) hm.1 hm.2
  apply s_ret
  k_subL
  intro H2 e2
  exact q H2 (by k_allIn)
theorem pure_l_cell_at (h : sp_l_cell_at K c vs H Q E) : t_l_cell_at K c E { nx := fun _ H' => Q .non H', rt := Q } (start ["_law_script", "_law_k"] vs) H := by
  obtain ⟨a, ns, k, rfl, hs, hk, q⟩ := h
  have hlen : ((ns.map V.int).length : Int) = ns.length := by rw [List.length_map]
  refine q_when (b := decide (k < ((ns.map V.int).length : Int))) (et_test (by k_subL)) (fun hb H1 e1 => ?_) fun hb H1 e1 => ?_
  · have hlt : k < ns.length := by
      rw [hlen] at hb
      exact of_decide_eq_true hb
    have hat := atI_ints hk hlt
    refine s_ret (ev_l_mixed (a := gi ns k) (k := k) (by k_subL) (by k_subL)) fun H2 e2 => q H2 (by k_allIn)
  · have hge : ¬ k < ns.length := by
      rw [hlen] at hb
      exact of_decide_eq_false hb
    have h0 : gi ns k = 0 := by
      unfold gi
      rw [List.getD_eq_getElem?_getD, List.getElem?_eq_none (by omega)]
      rfl
    rw [h0] at q
    exact s_ret (ev_l_mixed (a := 0) (k := k) (by k_subL) (by k_subL)) fun H2 e2 => q H2 (by k_allIn)
/-- of a sequence that stands at a, its items known or not: need_row -/
theorem pure_need_row (h : sp_need_row K c vs H Q E) : t_need_row K c E { nx := fun _ H' => Q .non H', rt := Q } (start ["thing", "height"] vs) H := by
  obtain ⟨x, rfl, h⟩ := h
  have hx : ∀ H1, Ev (tVar 0) (start ["thing", "height"] [x]) H1 x := fun H1 => ev_var rfl
  -- a sequence, whatever its items
  have key : ∀ (a : Addr) (xs : List V), x = .ref a → SqQ K H a xs → (∀ y ∈ xs, Typed K H y) → ((1 ≤ xs.length ∧ xs.length ≤ 40 ∧ xs.all hgtV = true) → RetV .non H Q) → (¬ (1 ≤ xs.length ∧ xs.length ≤ 40 ∧ xs.all hgtV = true) → RetE c.norow H E) →
      t_need_row K c E { nx := fun _ H' => Q .non H', rt := Q } (start ["thing", "height"] [x]) H := by
    rintro a xs rfl hq hty hgood hbad
    have hlen : Ev (tCB (cLen K) (tCons (tVar 0) tNil)) (start ["thing", "height"] [V.ref a]) H (.int (xs.length : Int)) := ev_lenQ (evq_of (hx H) hq)
    have hisi : Ev (tCB (cIsi K) (tCons (tVar 0) (tCons (tTup (tCons (tC (.ty "list")) (tCons (tC (.ty "tuple")) tNil))) tNil))) (start ["thing", "height"] [V.ref a]) H (.bl true) := by
      rcases hq with hq | hq
      · exact ev_isi2 (hx H) (tyx_l hq) (kitAny_cons (b := true) (kit_ty (by decide +kernel)) (fun z => nomatch z) fun _ => rfl)
      · exact ev_isi2 (hx H) (tyx_t hq) (kitAny_cons (b := false) (kit_ty (by decide +kernel)) (fun _ => kitAny_cons (b := true) (kit_ty (by decide +kernel)) (fun z => nomatch z) fun _ => rfl) fun z => nomatch z)
    refine q_when (et_or (et_not (et_B hisi)) fun _ => et_not (et_test (ev_chain (by k_subL) hlen (by k_subL)))) (fun hb H1 e1 => ?_) fun hb H1 e1 => ?_
    · refine hbad (fun z => ?_) H1 e1
      have h1 : decide ((1 : Int) ≤ (xs.length : Int)) = true := decide_eq_true (by omega)
      have h2 : decide ((xs.length : Int) ≤ 40) = true := decide_eq_true (by omega)
      rw [h1, h2] at hb
      exact absurd hb (by decide)
    · have hl : 1 ≤ xs.length ∧ xs.length ≤ 40 := by
        simp only [Bool.not_true, Bool.false_or, Bool.not_eq_false', Bool.and_eq_true, decide_eq_true_eq] at hb
        omega
      refine s_forQ (hx H1) hq e1 (fun i σ' H' => Ex H H' ∧ (∃ v, σ' = [some (.ref a), v]) ∧ ∀ j, j < i → ∀ y, xs[j]? = some y → hgtV y = true) (fun H2 e2 => ⟨by k_allIn, ⟨none, rfl⟩, fun j hj => absurd hj (Nat.not_lt_zero _)⟩) (fun i σ' H' p => p.1) ?_ ?_
      · rintro i y σ' H' hi ⟨hE, ⟨v, rfl⟩, hall⟩
        have hy : Typed K H y := hty y (List.mem_of_getElem? hi)
        refine s_when (et_not (et_B (ev_is_height (x := y) (ev_var rfl) (typed_ex hE hy)))) (fun hb H4 e4 => ?_) fun hb H4 e4 => ?_
        · refine hbad (fun z => ?_) H4 (by k_allIn)
          rw [List.all_eq_true] at z
          rw [z.2.2 y (List.mem_of_getElem? hi)] at hb
          exact absurd hb (by decide)
        · refine ⟨by k_allIn, ⟨some y, rfl⟩, fun j hj w hw => ?_⟩
          by_cases hji : j = i
          · subst hji
            rw [hi] at hw
            cases hw
            cases hg : hgtV y with
            | true => rfl
            | false =>
              rw [hg] at hb
              exact absurd hb (by decide)
          · exact hall j (by omega) w hw
      · rintro σ' H' ⟨hE, ⟨v, rfl⟩, hall⟩
        refine hgood ⟨hl.1, hl.2, List.all_eq_true.mpr fun y hy => ?_⟩ H' (by k_allIn)
        obtain ⟨j, hj, e⟩ := List.getElem_of_mem hy
        exact hall j hj y (by rw [List.getElem?_eq_getElem hj, e])
  rcases h with ⟨hb, hE⟩ | ⟨ns, ⟨a, rfl, hq⟩, hg, hQ⟩
  · rcases hb with ⟨T, ty, k1, k2⟩ | ⟨a, xs, rfl, hq, hty, hbad⟩
    · have hisi : Ev (tCB (cIsi K) (tCons (tVar 0) (tCons (tTup (tCons (tC (.ty "list")) (tCons (tC (.ty "tuple")) tNil))) tNil))) (start ["thing", "height"] [x]) H (.bl false) :=
        ev_isi2 (hx H) ty (kitAny_cons (b := false) (kit_ty k1) (fun _ => kitAny_cons (b := false) (kit_ty k2) (fun _ => kitAny_nil) fun z => nomatch z) fun z => nomatch z)
      refine q_when (b := true) (et_is (et_or (b := true) (et_not (et_B hisi)) fun z => nomatch z) rfl) (fun hb H1 e1 => hE H1 e1) fun hb => nomatch hb
    · exact key a xs rfl hq hty (fun z => absurd z hbad) fun _ => hE
  · refine key a (ns.map V.int) rfl hq (fun y hy => ?_) (fun _ => hQ) fun z => absurd ?_ z
    · obtain ⟨i, _, rfl⟩ := List.mem_map.mp hy
      exact typed_int
    · refine ⟨by rw [List.length_map]; exact hg.1, by rw [List.length_map]; exact hg.2.1, List.all_eq_true.mpr fun y hy => ?_⟩
      obtain ⟨i, hi, rfl⟩ := List.mem_map.mp hy
      have := hg.2.2 i hi
      show (decide (0 ≤ i) && decide (i ≤ 9)) = true
      rw [decide_eq_true this.1, decide_eq_true this.2]
      rfl
end
/-! ### who clashes -/
theorem findSome_range {α : Type} {f : Nat → Option α} : ∀ {n i : Nat} {y : α}, i < n → f i = some y → (∀ j, j < i → f j = none) → (List.range n).findSome? f = some y
  | 0, i, y, h, _, _ => absurd h (Nat.not_lt_zero _)
  | n + 1, i, y, h, hy, hn => by
    rw [List.range_succ, List.findSome?_append]
    by_cases e : i = n
    · subst e
      have z : (List.range i).findSome? f = none := List.findSome?_eq_none_iff.mpr fun j hj => hn j (List.mem_range.mp hj)
      rw [z]
      simp [hy]
    · rw [findSome_range (by omega) hy hn]
      rfl
theorem findSome_none {α : Type} {f : Nat → Option α} {n : Nat} (h : ∀ j, j < n → f j = none) : (List.range n).findSome? f = none := List.findSome?_eq_none_iff.mpr fun j hj => h j (List.mem_range.mp hj)
def fndP (ns : List Int) (j : Nat) : Option Nat := (List.range j).find? fun i => decide (place ns i = place ns j)
theorem clashF_some {ns : List Int} {i t : Nat} (hi : i < ns.length) (h : fndP ns i = some t) (hn : ∀ j, j < i → fndP ns j = none) : clashF ns = some (t, i) :=
  findSome_range (y := (t, i)) hi (by show (fndP ns i).map _ = _; rw [h]; rfl) fun j hj => by show (fndP ns j).map _ = _; rw [hn j hj]; rfl
theorem clashF_none {ns : List Int} (hn : ∀ j, j < ns.length → fndP ns j = none) : clashF ns = none :=
  findSome_none fun j hj => by show (fndP ns j).map _ = _; rw [hn j hj]; rfl
def metK (ns : List Int) (i : Nat) : List (Key × V) := (List.range i).map fun t => (Sum.inl (place ns t), V.int (t : Int))
theorem metK_val (ns : List Int) (i : Nat) (k : Int) : valV (metK ns i) (Sum.inl k) = ((List.range i).find? fun t => decide (place ns t = k)).map fun (t : Nat) => V.int (t : Int) := by
  unfold valV metK
  rw [List.find?_map, Option.map_map]
  have e : ((fun kv : Key × V => decide (kv.1 = Sum.inl k)) ∘ fun t : Nat => ((Sum.inl (place ns t) : Key), V.int (t : Int))) = fun t => decide (place ns t = k) := by
    funext t
    simp
  rw [e]
  rfl
theorem metK_put {ns : List Int} {i : Nat} (h : fndP ns i = none) : putK (metK ns i) (Sum.inl (place ns i)) (V.int (i : Int)) = metK ns (i + 1) := by
  have hv : valV (metK ns i) (Sum.inl (place ns i)) = none := by
    rw [metK_val]
    show (fndP ns i).map _ = none
    rw [h]
    rfl
  rw [putK_new _ hv]
  unfold metK
  rw [List.range_succ, List.map_append]
  rfl
theorem metK_len (ns : List Int) (i : Nat) : (metK ns i).length = i := by
  unfold metK
  rw [List.length_map, List.length_range]
theorem getD_of {ns : List Int} {i : Nat} {x : V} (h : (ns.map V.int)[i]? = some x) : i < ns.length ∧ x = .int (ns.getD i 0) := by
  rw [List.getElem?_map] at h
  have hi : i < ns.length := by
    cases e : ns[i]? with
    | none =>
      rw [e] at h
      cases h
    | some z => exact (List.getElem?_eq_some_iff.mp e).1
  rw [List.getElem?_eq_getElem hi] at h
  refine ⟨hi, ?_⟩
  rw [List.getD_eq_getElem?_getD, List.getElem?_eq_getElem hi]
  exact (Option.some.inj h).symm
section
variable {K : PySem.W.Frag} {c : Cs} {vs : List V} {H : Hp} {Q : VK} {E : XK}
theorem pure_clash (h : sp_clash K c vs H Q E) : t_clash K c E { nx := fun _ H' => Q .non H', rt := Q } (start ["row", "met", "turn", "height", "place"] vs) H := by
  obtain ⟨x, rfl, ⟨hb, hE⟩ | ⟨ns, ⟨a, rfl, hq⟩, hg, hQ⟩⟩ := h
  · exact ⟨x, rfl, x, rfl, .inl ⟨hb, hE⟩⟩
  · refine ⟨.ref a, rfl, .ref a, rfl, .inr ⟨ns, ⟨a, rfl, hq⟩, hg, fun H1 e1 => ?_⟩⟩
    show tSeq (tAsg tDNewK (gName 1)) _ _ _ H1
    refine q_asgD fun d hd => ?_
    have hdH : H d = none := fresh_back e1 hd
    have e2 : Ex H (upd H1 d (.dK [])) := e1.trans (Ex.new hd)
    have hn : 0 < ns.length := hg.1
    refine q_enumQ (a := a) (H0 := H) (ev_var rfl) hq e2 (fun i σ' H' => Ex H H' ∧ H' d = some (.dK (metK ns i)) ∧ (∃ u v w, σ' = [some (.ref a), some (.ref d), u, v, w]) ∧ ∀ j, j < i → fndP ns j = none)
      (fun H2 e3 => ⟨e2.trans e3, e3 d _ upd_same, ⟨none, none, none, rfl⟩, fun j hj => absurd hj (Nat.not_lt_zero _)⟩) (fun i σ' H' p => p.1) ?_ ?_
    · rintro i y σ' H' H2 hi ⟨eH, hm, ⟨u, v, w, rfl⟩, hno⟩ e3
      obtain ⟨hil, rfl⟩ := getD_of hi
      have hm2 : H2 d = some (.dK (metK ns i)) := e3 d _ hm
      have eH2 : Ex H H2 := eH.trans e3
      have hlen : Ev (tCB (cLen K) (tCons (tVar 0) tNil)) [some (.ref a), some (.ref d), some (.int (i : Int)), some (.int (ns.getD i 0)), w] H2 (.int (((ns.map V.int).length : Nat) : Int)) := ev_lenQ (evq_of (ev_var rfl) (ex_q eH2 hq))
      rw [List.length_map] at hlen
      refine q_asg (v := .int (place ns i)) (ev_op (ev_op (ev_var rfl) (ev_var rfl) rv_addI) hlen (rv_mod (by omega))) fun H3 e4 => ?_
      have hm3 : H3 d = some (.dK (metK ns i)) := e4 d _ hm2
      have hv := metK_val ns i (place ns i)
      refine q_when (b := (fndP ns i).isSome) (et_B (ev_is (ev_din (a := d) (k := Sum.inl (place ns i)) (ev_var rfl) (ev_var rfl) hm3) (by rw [hv]; show V.bl ((fndP ns i).map _).isSome = _; rw [Option.isSome_map]))) (fun hb H4 e5 => ?_) fun hb H4 e5 => ?_
      · obtain ⟨t, ht⟩ := Option.isSome_iff_exists.mp hb
        have hv2 : valV (metK ns i) (Sum.inl (place ns i)) = some (.int (t : Int)) := by
          rw [hv]
          show (fndP ns i).map _ = _
          rw [ht]
          rfl
        refine s_retU (xs := [.int (t : Int), .int (i : Int)]) (eu_tup (ea_cons (ev_dget (a := d) (k := Sum.inl (place ns i)) (ev_var rfl) (ev_var rfl) (e5 d _ hm3) hv2) (ea_cons (ev_var rfl) ea_nil)) (by show 2 ≤ 100000; decide)) fun p H5 hp e6 hp5 => ?_
        have hc := clashF_some hil ht hno
        rw [hc] at hQ
        exact hQ _ H5 (by k_allIn) (.tup (SqT.of hp5) (.cons (.int _) (.cons (.int _) .nil)))
      · have hnone : fndP ns i = none := by
          cases ho : fndP ns i with
          | none => rfl
          | some t =>
            rw [ho] at hb
            cases hb
        refine s_dput (a := d) (k := Sum.inl (place ns i)) (v := .int (i : Int)) (kvs := metK ns i) (ev_var rfl) (ev_var rfl) (ev_var rfl) (e5 d _ hm3) (by rw [metK_len]; have := hg.2.1; omega) fun H5 e6 => ?_
        rw [metK_put hnone]
        refine ⟨Ex.mut (by k_allIn) hdH, upd_same, ⟨_, _, _, rfl⟩, fun j hj => ?_⟩
        by_cases hji : j = i
        · rw [hji]
          exact hnone
        · exact hno j (by omega)
    · rintro σ' H' ⟨eH, _, _, hno⟩
      rw [List.length_map] at hno
      have hc := clashF_none hno
      rw [hc] at hQ
      exact s_ret (v := .non) ev_c fun H2 e3 => hQ _ H2 (by k_allIn) .non
end
end Tr

/-! The drawn rows' readings: any row, throws exchanged, a row that goes on. -/
namespace Tr
open PySem L2 PySem.Spec PyProof.Rows Evl

theorem et_yes {σ : L2.St} {H : Hp} : EvT tYes σ H true := fun H1 _ _ q => q H1 (Ex.refl H1)
theorem given_all {n : Nat} {v : Nat → V} : given n (fun _ => true) v = (List.range n).map v := by
  unfold given
  rw [List.filter_eq_self.mpr (fun _ _ => rfl)]
theorem ixN_int {n : Nat} {i : Int} (h0 : 0 ≤ i) (h1 : i < n) : ixN n i = some i.toNat := by
  unfold ixN
  rw [if_pos h0, if_pos h1]
/-- [e for x in range(n)], no test -/
theorem el_rng {σ : L2.St} {H : Hp} {ta te : TE} {j : Nat} {vs : List Nat} {n : Int} (v : Nat → V) (h : Ev ta σ H (.int n)) (hn : 0 ≤ n ∧ n ≤ 40000) (hw : ∀ x, wipe ((wipe σ vs).set j (some x)) vs = wipe σ vs)
    (he : ∀ (i : Nat) H1, Ex H H1 → (i : Int) < n → Ev te ((wipe σ vs).set j (some (.int (i : Int)))) H1 (v i)) : EvL (tLc (iRng1 (tCons ta tNil)) (gName j) tYes te vs) σ H ((List.range n.toNat).map v) := by
  have z := el_lcR1 (t := tYes) (ta := tCons ta tNil) (te := te) (j := j) (vs := vs) (fun _ => true) v (ea_cons h ea_nil) hn hw (fun _ _ _ _ => et_yes) fun i H1 e hi _ => he i H1 e hi
  rw [given_all] at z
  exact z
/-- a call as a statement, what it does to the heap told by its promise -/
theorem q_dropC {σ : L2.St} {H : Hp} {D : Ends} {tz : TS} {sp : Sp} {E : XK} {ta : TA} {vs : List V} (h : EvA ta σ H vs) (k : ∀ H1, Ex H H1 → sp (vs ++ []) H1 (fun _ H2 => tz D σ H2) E) : tSeq (tDrop (tCall sp [] E ta)) tz D σ H := h H (Ex.refl H) _ k
theorem s_dropC {σ : L2.St} {H : Hp} {D : Ends} {sp : Sp} {E : XK} {ta : TA} {vs : List V} (h : EvA ta σ H vs) (k : ∀ H1, Ex H H1 → sp (vs ++ []) H1 (fun _ H2 => D.nx σ H2) E) : tDrop (tCall sp [] E ta) D σ H := h H (Ex.refl H) _ k
theorem el_slX {K : PySem.W.Frag} {σ : L2.St} {H : Hp} {te : TE} {xs : List V} {tl th : TO} {lo hi : Option Int} (h : EvS K te σ H xs) (h1 : EvO tl σ H lo) (h2 : EvO th σ H hi) : EvL (tSl (xSl K) te tl th) σ H (cutV xs lo hi) := fun H1 e _ q =>
  h H1 e _ fun a H2 e2 hs => h1 H2 (e.trans e2) _ fun H3 e3 => h2 H3 ((e.trans e2).trans e3) _ fun H4 e4 =>
    .inl ⟨a, xs, rfl, ex_l (e3.trans e4) hs, fun p hp => q p _ (fresh_back ((e2.trans e3).trans e4) hp) (((e2.trans e3).trans e4).trans (Ex.new hp)) upd_same⟩
/-- x = e, e of known data -/
theorem q_asgV {K : PySem.W.Frag} {σ : L2.St} {H : Hp} {D : Ends} {tz : TS} {te : TE} {i : Nat} {d : PyData} (h : EvD K te σ H d) (k : ∀ v H1, Ex H H1 → Dp K H1 v d → tz D (σ.set i (some v)) H1) : tSeq (tAsg te (gName i)) tz D σ H := h H (Ex.refl H) _ k
theorem s_asgV {K : PySem.W.Frag} {σ : L2.St} {H : Hp} {D : Ends} {te : TE} {i : Nat} {d : PyData} (h : EvD K te σ H d) (k : ∀ v H1, Ex H H1 → Dp K H1 v d → D.nx (σ.set i (some v)) H1) : tAsg te (gName i) D σ H := h H (Ex.refl H) _ k
theorem s_retV {K : PySem.W.Frag} {σ : L2.St} {H : Hp} {D : Ends} {te : TE} {d : PyData} (h : EvD K te σ H d) (k : ∀ v H1, Ex H H1 → Dp K H1 v d → D.rt v H1) : tRet te D σ H := h H (Ex.refl H) _ k
/-- .. with a test -/
theorem el_rngIf {σ : L2.St} {H : Hp} {ta te : TE} {t : TT} {j : Nat} {vs : List Nat} {n : Int} (f : Nat → Bool) (v : Nat → V) (h : Ev ta σ H (.int n)) (hn : 0 ≤ n ∧ n ≤ 40000) (hw : ∀ x, wipe ((wipe σ vs).set j (some x)) vs = wipe σ vs)
    (ht : ∀ (i : Nat) H1, Ex H H1 → (i : Int) < n → EvT t ((wipe σ vs).set j (some (.int (i : Int)))) H1 (f i))
    (he : ∀ (i : Nat) H1, Ex H H1 → (i : Int) < n → f i = true → Ev te ((wipe σ vs).set j (some (.int (i : Int)))) H1 (v i)) : EvL (tLc (iRng1 (tCons ta tNil)) (gName j) t te vs) σ H (((List.range n.toNat).filter f).map v) :=
  el_lcR1 (ta := tCons ta tNil) (te := te) (j := j) (vs := vs) f v (ea_cons h ea_nil) hn hw ht he

theorem exch_len {ns : List Int} {a b : Int} : (exch ns a b).length = ns.length := by
  unfold exch
  simp only
  split
  · rw [List.length_set, List.length_set]
  · rfl
theorem exchD_len {ns : List Int} {d : Int} : (exchD ns d).length = ns.length := by
  unfold exchD
  simp only
  split <;> exact exch_len
theorem mixedUp_succ (ns : List Int) (a : Int) (n : Nat) : mixedUp ns a (n + 1) = exchD (mixedUp ns a n) (mixed a n) := by
  unfold mixedUp
  rw [List.range_succ, List.foldl_append]
  rfl
theorem mixedUp_len (ns : List Int) (a : Int) : ∀ n, (mixedUp ns a n).length = ns.length
  | 0 => rfl
  | n + 1 => by rw [mixedUp_succ, exchD_len, mixedUp_len ns a n]
theorem goStep_len (a : Int) (r : List Int) (k : Int) : (goStep a r k).length = r.length := by
  unfold goStep
  simp only
  rw [List.length_append, List.length_drop, List.length_take, mixedUp_len]
  omega
theorem going_len (a m : Int) : (going a m).length = m.toNat := by
  unfold going
  rw [goStep_len, goStep_len, List.length_replicate]
theorem anyF_len (a m : Int) : (anyF a m).length = m.toNat := by
  unfold anyF
  rw [List.length_map, List.length_range]
theorem map_set (ns : List Int) (i : Nat) (x : Int) : (ns.map V.int).set i (.int x) = (ns.set i x).map V.int := by
  rw [List.map_set]

section
variable {K : PySem.W.Frag} {c : Cs} {vs : List V} {H : Hp} {Q : VK} {E : XK}
theorem pure_l_any (h : sp_l_any K c vs H Q E) : t_l_any K c E { nx := fun _ H' => Q .non H', rt := Q } (start ["_law_cell", "_law_many", "_law_k"] vs) H := by
  obtain ⟨a, m, rfl, h0, h1, q⟩ := h
  have hm : 0 ≤ a % 3 ∧ a % 3 < 3 := ⟨Int.emod_nonneg _ (by decide), Int.emod_lt_of_pos _ (by decide)⟩
  have hp : 0 < pick3 10 4 10 (a % 3) := by
    unfold pick3
    split
    · decide
    · split <;> decide
  refine s_retL (xs := (anyF a m).map V.int) ?_ fun p H1 hp e1 h1 => q p H1 hp e1 h1
  have z := el_rng (σ := start ["_law_cell", "_law_many", "_law_k"] [V.int a, V.int m]) (H := H) (ta := tVar 1) (te := (tOp xMod (tCall (sp_l_mixed K c) [] E0 (tCons (tVar 0) (tCons (tVar 2) tNil))) (tOp (rIx K) (tLst (tCons (tC (.int 10)) (tCons (tC (.int 4)) (tCons (tC (.int 10)) tNil)))) (tOp xMod (tVar 0) (tC (.int 3)))))) (j := 2) (vs := [2]) (n := m)
    (fun k => .int (mixed a k % pick3 10 4 10 (a % 3))) (ev_var rfl) ⟨h0, by omega⟩ (fun _ => rfl) fun i H1 e hi => by
      have h3 := at3 (x := 10) (y := 4) (z := 10) hm.1 hm.2
      refine ev_op (ev_l_mixed (a := a) (k := (i : Int)) (ev_var rfl) (ev_var rfl)) (ev_ix (xs := [.int 10, .int 4, .int 10]) (i := a % 3) (by k_places) (fun _ _ => by k_subL) h3) (rv_mod hp)
  unfold anyF
  rw [List.map_map]
  exact z
theorem pure_l_mixed_up (h : sp_l_mixed_up K c vs H Q E) : t_l_mixed_up K c E { nx := fun _ H' => Q .non H', rt := Q } (start ["_law_row", "_law_cell", "_law_many", "_law_k", "_law_draw", "_law_one", "_law_other", "_law_heights"] vs) H := by
  obtain ⟨p, ns, a, rfl, hp, hn1, hn2, q⟩ := h
  have hlen : Ev (tCB (cLen K) (tCons (tVar 0) tNil)) (start ["_law_row", "_law_cell", "_law_many", "_law_k", "_law_draw", "_law_one", "_law_other", "_law_heights"] [V.ref p, V.int a]) H (.int (((ns.map V.int).length : Nat) : Int)) := ev_lenQ (evq_of (ev_var rfl) (.inl (SqL.of hp)))
  rw [List.length_map] at hlen
  refine q_asg hlen fun H1 e1 => ?_
  have hcnt : EvA (tCons (tOp (xMul K) (tOp (xMul K) (tC (.int 2)) (tVar 2)) (tCB cInt (tCons (tOp xGt (tVar 2) (tC (.int 1))) tNil))) tNil) ((start ["_law_row", "_law_cell", "_law_many", "_law_k", "_law_draw", "_law_one", "_law_other", "_law_heights"] [V.ref p, V.int a]).set 2 (some (.int (ns.length : Int)))) H1
      [.int ((turns2 ns.length : Nat) : Int)] := by
    refine ea_cons (ev_is (ev_op (ev_op ev_c (ev_var rfl) (rv_mul (by k_caughtB))) (ev_intB (ev_op (ev_var rfl) ev_c rv_gt)) (rv_mul (Or.inl ⟨by omega, by omega⟩))) ?_) ea_nil
    unfold turns2
    by_cases hc : ns.length > 1
    · rw [if_pos hc, show decide ((1 : Int) < (ns.length : Int)) = true from decide_eq_true (by omega)]
      show V.int (2 * (ns.length : Int) * 1) = _
      exact congrArg V.int (by omega)
    · rw [if_neg hc, show decide ((1 : Int) < (ns.length : Int)) = false from decide_eq_false (by omega)]
      show V.int (2 * (ns.length : Int) * 0) = V.int 0
      rw [Int.mul_zero]
  have hb : (0 : Int) ≤ ((turns2 ns.length : Nat) : Int) ∧ ((turns2 ns.length : Nat) : Int) ≤ 100000 := by
    unfold turns2
    split <;> omega
  refine s_forR1 hcnt hb (fun i σ' H' => (∀ b o, b ≠ p → H b = some o → H' b = some o) ∧ H' p = some (.lst ((mixedUp ns a i).map V.int)) ∧ ∃ v3 v4 v5 v6 v7, σ' = [some (.ref p), some (.int a), some (.int (ns.length : Int)), v3, v4, v5, v6, v7])
    (fun H2 e2 => ⟨fun b o _ hb => e2 b o (e1 b o hb), e2 p _ (e1 p _ hp), _, _, _, _, _, rfl⟩) ?_ ?_
  · rintro i σ' H' hi ⟨hk, hr, v3, v4, v5, v6, v7, rfl⟩
    -- there are at least two
    have hm : 2 ≤ ns.length := by
      unfold turns2 at hi
      split at hi <;> omega
    generalize hR : mixedUp ns a i = R at hr
    have hRl : R.length = ns.length := by
      rw [← hR]
      exact mixedUp_len ns a i
    refine q_asg (v := .int (mixed a i)) (ev_l_mixed (ev_var rfl) (ev_var rfl)) fun H2 e2 => ?_
    generalize hD : mixed a (i : Int) = d
    refine q_asg (v := .int (d % ns.length)) (ev_op (ev_var rfl) (ev_var rfl) (rv_mod (by omega))) fun H3 e3 => ?_
    refine q_asg (v := .int ((d % ns.length + 1 + d / 64 % (ns.length - 1)) % ns.length)) (ev_op (ev_op (ev_op (ev_var rfl) ev_c rv_addI) (ev_op (ev_op (ev_var rfl) ev_c (rv_div (by k_caughtB))) (ev_op (ev_var rfl) ev_c rv_sub) (rv_mod (by omega))) rv_addI) (ev_var rfl) (rv_mod (by omega))) fun H4 e4 => ?_
    have b1 : 0 ≤ d % ns.length ∧ d % ns.length < ns.length := ⟨Int.emod_nonneg _ (by omega), Int.emod_lt_of_pos _ (by omega)⟩
    have b2 : 0 ≤ (d % ns.length + 1 + d / 64 % (ns.length - 1)) % ns.length ∧ (d % ns.length + 1 + d / 64 % (ns.length - 1)) % ns.length < ns.length := ⟨Int.emod_nonneg _ (by omega), Int.emod_lt_of_pos _ (by omega)⟩
    have hex : mixedUp ns a (i + 1) = if d % (R.length : Int) > (d % R.length + 1 + d / 64 % (R.length - 1)) % R.length then exch R ((d % R.length + 1 + d / 64 % (R.length - 1)) % R.length) (d % R.length) else exch R (d % R.length) ((d % R.length + 1 + d / 64 % (R.length - 1)) % R.length) := by
      rw [mixedUp_succ, hR, hD]
      rfl
    rw [hRl] at hex
    generalize hA : d % (ns.length : Int) = A at b1 b2 hex
    generalize hB : (A + 1 + d / 64 % ((ns.length : Int) - 1)) % (ns.length : Int) = B at b2 hex
    have hr4 : H4 p = some (.lst (R.map V.int)) := e4 p _ (e3 p _ (e2 p _ hr))
    have hk4 : ∀ b o, b ≠ p → H b = some o → H4 b = some o := fun b o hb h => e4 b o (e3 b o (e2 b o (hk b o hb h)))
    -- behind the exchange of the two names
    have step : ∀ (A B : Int) (H5 : Hp), 0 ≤ A ∧ A < ns.length → 0 ≤ B ∧ B < ns.length → Ex H4 H5 → mixedUp ns a (i + 1) = exch R A B →
        ∀ (D : Ends), (∀ σ' H', ((∀ b o, b ≠ p → H b = some o → H' b = some o) ∧ H' p = some (.lst ((mixedUp ns a (i + 1)).map V.int)) ∧ ∃ v3 v4 v5 v6 v7, σ' = [some (.ref p), some (.int a), some (.int (ns.length : Int)), v3, v4, v5, v6, v7]) → D.nx σ' H') →
        tSeq (tAsg (tTup (tCons (tOp (xAdd K) (tOp xSub (tVar 6) (tVar 5)) (tOp (rIx K) (tVar 0) (tVar 6))) (tCons (tOp (xAdd K) (tOp xSub (tOp (rIx K) (tVar 0) (tVar 5)) (tVar 6)) (tVar 5)) tNil))) (gName 7))
          (tIfS (tAnd (tTest (tOp xLe (tC (.int 0)) (tCB (cMin K) (tCons (tVar 7) tNil)))) (tTest (tOp xLt (tCB (cMax K) (tCons (tVar 7) tNil)) (tC (.int 10))))) (tAsg (tVar 7) (gTup K 2 (gCons (gSub (tVar 0) (tVar 5) rSetL) (gCons (gSub (tVar 0) (tVar 6) rSetL) gNil)))) tNext)
          D [some (.ref p), some (.int a), some (.int (ns.length : Int)), some (.int (i : Int)), some (.int d), some (.int A), some (.int B), v7] H5 := by
      intro A B H5 bA bB e5 hexA D hD2
      have hr5 := e5 p _ hr4
      have hk5 : ∀ b o, b ≠ p → H b = some o → H5 b = some o := fun b o hb h => e5 b o (hk4 b o hb h)
      have iA : atI (R.map V.int) A = some (.int (gi R A)) := atI_ints bA.1 (by omega)
      have iB : atI (R.map V.int) B = some (.int (gi R B)) := atI_ints bB.1 (by omega)
      have row : EvQ K (tVar 0) [some (.ref p), some (.int a), some (.int (ns.length : Int)), some (.int (i : Int)), some (.int d), some (.int A), some (.int B), v7] H5 (R.map V.int) := evq_of (ev_var rfl) (.inl (SqL.of hr5))
      refine q_asgU (xs := [B - A + gi R B, gi R A - B + A].map V.int) (eu_tup (ea_cons (ev_op (ev_op (ev_var rfl) (ev_var rfl) rv_sub) (ev_ix (i := B) row (fun _ _ => ev_var rfl) iB) rv_addI) (ea_cons (ev_op (ev_op (ev_ix (i := A) row (fun _ _ => ev_var rfl) iA) (ev_var rfl) rv_sub) (ev_var rfl) rv_addI) ea_nil)) (by show 2 ≤ 100000; decide)) fun t H6 ht e6 ht6 => ?_
      generalize hh1 : B - A + gi R B = h1 at ht6
      generalize hh2 : gi R A - B + A = h2 at ht6
      have hr6 := e6 p _ hr5
      have hk6 : ∀ b o, b ≠ p → H b = some o → H6 b = some o := fun b o hb h => e6 b o (hk5 b o hb h)
      have tq : EvQ K (tVar 7) ([some (.ref p), some (.int a), some (.int (ns.length : Int)), some (.int (i : Int)), some (.int d), some (.int A), some (.int B), v7].set 7 (some (.ref t))) H6 ([h1, h2].map V.int) := evq_of (ev_var rfl) (.inr (SqT.of ht6))
      have mmin : ∃ m, m ∈ [h1, h2] ∧ (∀ y ∈ [h1, h2], m ≤ y) ∧ (0 ≤ m ↔ 0 ≤ h1 ∧ 0 ≤ h2) := by
        by_cases hc : h1 ≤ h2
        · exact ⟨h1, by simp, by simp [hc], by omega⟩
        · exact ⟨h2, by simp, by simp; omega, by omega⟩
      have mmax : ∃ m, m ∈ [h1, h2] ∧ (∀ y ∈ [h1, h2], y ≤ m) ∧ (m < 10 ↔ h1 < 10 ∧ h2 < 10) := by
        by_cases hc : h1 ≤ h2
        · exact ⟨h2, by simp, by simp [hc], by omega⟩
        · exact ⟨h1, by simp, by simp; omega, by omega⟩
      obtain ⟨m1, c1, c2, c3⟩ := mmin
      obtain ⟨m2, d1, d2, d3⟩ := mmax
      have hexch : exch R A B = if (0 ≤ h1 ∧ 0 ≤ h2) ∧ (h1 < 10 ∧ h2 < 10) then (R.set A.toNat h1).set B.toNat h2 else R := by
        unfold exch
        simp only [hh1, hh2]
      refine s_when (et_and (et_test (ev_op ev_c (ev_min tq c1 c2) rv_le)) fun _ => et_test (ev_op (ev_max tq d1 d2) ev_c rv_lt)) (fun hb H7 e7 => ?_) fun hb H7 e7 => ?_
      · have hcond : (0 ≤ h1 ∧ 0 ≤ h2) ∧ (h1 < 10 ∧ h2 < 10) := by
          rw [Bool.and_eq_true, decide_eq_true_eq, decide_eq_true_eq] at hb
          exact ⟨c3.mp hb.1, d3.mp hb.2⟩
        rw [if_pos hcond] at hexch
        have hr7 := e7 p _ hr6
        refine ⟨.ref t, rfl, t, [.int h1, .int h2], rfl, SqT.of (e7 t _ ht6), rfl, .int h1, [.int h2], rfl, .ref p, rfl, .int A, rfl, p, R.map V.int, A, A.toNat, rfl, rfl, hr7, ixN_int bA.1 (by rw [List.length_map]; omega), .int h2, [], rfl, .ref p, rfl, .int B, rfl, p, (R.map V.int).set A.toNat (.int h1), B, B.toNat, rfl, rfl, upd_same, ixN_int bB.1 (by rw [List.length_set, List.length_map]; omega), rfl, ?_⟩
        refine hD2 _ _ ⟨fun b o hb' h => ?_, ?_, _, _, _, _, _, rfl⟩
        · rw [upd_ne hb', upd_ne hb']
          exact e7 b o (hk6 b o hb' h)
        · rw [upd_same, hexA, hexch, map_set, map_set]
      · have hcond : ¬ ((0 ≤ h1 ∧ 0 ≤ h2) ∧ (h1 < 10 ∧ h2 < 10)) := fun z => by
          rw [decide_eq_true (c3.mpr z.1), decide_eq_true (d3.mpr z.2)] at hb
          exact absurd hb (by decide)
        rw [if_neg hcond] at hexch
        refine hD2 _ _ ⟨fun b o hb' h => e7 b o (hk6 b o hb' h), ?_, _, _, _, _, _, rfl⟩
        rw [hexA, hexch]
        exact e7 p _ hr6
    refine q_when (b := decide (B < A)) (et_test (ev_op (ev_var rfl) (ev_var rfl) rv_gt)) (fun hb H5 e5 => ?_) fun hb H5 e5 => ?_
    · refine ⟨_, rfl, _, rfl, _, _, rfl, ?_⟩
      exact step B A H5 b2 b1 e5 (by rw [hex, if_pos (of_decide_eq_true hb)]) _ fun σ' H' z => z
    · exact step A B H5 b1 b2 e5 (by rw [hex, if_neg (of_decide_eq_false hb)]) _ fun σ' H' z => z
  · rintro σ' H' ⟨hk, hr, _⟩
    exact q H' hk hr
theorem cutV_from {xs : List V} {i : Int} (h0 : 0 ≤ i) (h1 : i ≤ xs.length) : cutV xs (some i) none = xs.drop i.toNat := by
  unfold cutV
  have e1 : HT.sIx xs.length 0 (some i) = i.toNat := by
    unfold HT.sIx
    simp only
    split <;> omega
  have e2 : HT.sIx xs.length xs.length none = xs.length := rfl
  rw [e1, e2, List.take_of_length_le (by rw [List.length_drop]; omega)]
theorem cutV_upto {xs : List V} {i : Int} (h0 : 0 ≤ i) (h1 : i ≤ xs.length) : cutV xs none (some i) = xs.take i.toNat := by
  unfold cutV
  have e1 : HT.sIx xs.length xs.length (some i) = i.toNat := by
    unfold HT.sIx
    simp only
    split <;> omega
  have e2 : HT.sIx xs.length 0 none = 0 := rfl
  rw [e1, e2, List.drop_zero, Nat.sub_zero]
theorem pure_l_going (h : sp_l_going K c vs H Q E) : t_l_going K c E { nx := fun _ H' => Q .non H', rt := Q } (start ["_law_cell", "_law_many", "_law_row", "_law_k", "_law_by"] vs) H := by
  obtain ⟨a, m, rfl, h1, h2, q⟩ := h
  refine q_asgL (xs := (List.replicate m.toNat (a % 10)).map V.int) ?_ fun p H1 hp e1 hp1 => ?_
  · have z := el_rep (K := K) (σ := start ["_law_cell", "_law_many", "_law_row", "_law_k", "_law_by"] [V.int a, V.int m]) (H := H) (ta := tLst (tCons (tOp xMod (tVar 0) (tC (.int 10))) tNil)) (tb := tVar 1) (xs := [.int (a % 10)]) (k := m) (el_lst (by k_offL) (by show 1 ≤ 100000; decide)) (fun _ _ => ev_var rfl) (by omega) (by simp; omega)
    have e : (List.replicate m.toNat [V.int (a % 10)]).flatten = (List.replicate m.toNat (a % 10)).map V.int := by
      rw [List.map_replicate]
      generalize m.toNat = n
      induction n with
      | zero => rfl
      | succ n ih => rw [List.replicate_succ, List.flatten_cons, ih, List.replicate_succ]; rfl
    rw [e] at z
    exact z
  let step : Nat → List Int := fun i => if i = 0 then List.replicate m.toNat (a % 10) else if i = 1 then goStep a (List.replicate m.toNat (a % 10)) 0 else going a m
  refine q_forR1 (n := 2) (ea_cons ev_c ea_nil) (by decide) (fun i σ' H' => Ex H H' ∧ ∃ (p : Addr) (v3 v4 : Option V), H p = none ∧ H' p = some (.lst ((step i).map V.int)) ∧ σ' = [some (.int a), some (.int m), some (.ref p), v3, v4])
    (fun H2 e2 => ⟨e1.trans e2, p, none, none, hp, e2 p _ hp1, rfl⟩) ?_ ?_
  · rintro i σ' H' hi ⟨eH, p, v3, v4, hpH, hr, rfl⟩
    generalize hR : step i = R at hr
    have hRl : R.length = m.toNat := by
      rw [← hR]
      show (if i = 0 then _ else if i = 1 then _ else _ : List Int).length = _
      split
      · rw [List.length_replicate]
      · split
        · rw [goStep_len, List.length_replicate]
        · rw [going_len]
    have hnext : step (i + 1) = goStep a R i := by
      rcases (show i = 0 ∨ i = 1 by omega) with rfl | rfl
      · rw [← hR]; rfl
      · rw [← hR]; rfl
    have hm50 : Ev (tCall (sp_l_mixed K c) [] E0 (tCons (tVar 0) (tCons (tOp (xAdd K) (tC (.int 50)) (tVar 3)) tNil))) [some (.int a), some (.int m), some (.ref p), some (.int (i : Int)), v4] H' (.int (mixed a (50 + (i : Int)))) := ev_l_mixed (ev_var rfl) (ev_op ev_c (ev_var rfl) rv_addI)
    refine q_dropC (vs := [.ref p, .int (mixed a (50 + (i : Int)))]) (ea_cons (ev_var rfl) (ea_cons hm50 ea_nil)) fun H2 e2 => ?_
    refine ⟨p, R, mixed a (50 + (i : Int)), rfl, e2 p _ hr, by omega, by omega, fun H3 hk hr3 => ?_⟩
    have eH3 : Ex H H3 := fun b o hb => hk b o (ne_of_none hb hpH) (e2 b o (eH b o hb))
    have hm60 : Ev (tCall (sp_l_mixed K c) [] E0 (tCons (tVar 0) (tCons (tOp (xAdd K) (tC (.int 60)) (tVar 3)) tNil))) [some (.int a), some (.int m), some (.ref p), some (.int (i : Int)), v4] H3 (.int (mixed a (60 + (i : Int)))) := ev_l_mixed (ev_var rfl) (ev_op ev_c (ev_var rfl) rv_addI)
    refine q_asg (v := .int (mixed a (60 + (i : Int)) % m)) (ev_op hm60 (ev_var rfl) (rv_mod (by omega))) fun H4 e4 => ?_
    have hr4 := e4 p _ hr3
    generalize hM : mixedUp R (mixed a (50 + (i : Int))) (turns2 R.length) = M at hr4
    have hMl : M.length = m.toNat := by
      rw [← hM, mixedUp_len, hRl]
    have bB : 0 ≤ mixed a (60 + (i : Int)) % m ∧ mixed a (60 + (i : Int)) % m < m := ⟨Int.emod_nonneg _ (by omega), Int.emod_lt_of_pos _ (by omega)⟩
    have hgs : goStep a R i = M.drop (mixed a (60 + (i : Int)) % m).toNat ++ M.take (mixed a (60 + (i : Int)) % m).toNat := by
      rw [hRl] at hM
      unfold goStep
      simp only [hRl, hM]
      rw [show ((m.toNat : Nat) : Int) = m by omega]
    generalize hB : mixed a (60 + (i : Int)) % m = B at bB hgs
    have row : EvS K (tVar 2) [some (.int a), some (.int m), some (.ref p), some (.int (i : Int)), some (.int B)] H4 (M.map V.int) := evs_of (ev_var rfl) (SqL.of hr4)
    refine s_asgL (xs := (goStep a R i).map V.int) ?_ fun p' H5 hp5 e5 hr5 => ⟨by k_allIn, p', _, _, fresh_back (eH3.trans e4) hp5, by rw [hnext]; exact hr5, rfl⟩
    have z := el_cat (K := K) (evs_new (el_slX row (eo_some (ev_var (i := 4) rfl)) eo_none)) (evs_new (el_slX row eo_none (eo_some (ev_var (i := 4) rfl)))) (by have q1 := cutV_length (M.map V.int) (some B) none; have q2 := cutV_length (M.map V.int) none (some B); rw [List.length_map] at q1 q2; omega)
    rw [cutV_from bB.1 (by rw [List.length_map]; omega), cutV_upto bB.1 (by rw [List.length_map]; omega), ← List.map_drop, ← List.map_take, ← List.map_append, ← hgs] at z
    exact z
  · rintro σ' H' ⟨eH, p, v3, v4, hpH, hr, rfl⟩
    exact s_ret (v := .ref p) (ev_var rfl) fun H2 e2 => q p H2 hpH (eH.trans e2) (e2 p _ hr)
end
end Tr

/-! Data: their shape, when two are equal. -/
namespace Tr
open PySem L2 PySem.Spec PyProof.Rows Evl

theorem depthAll_le : ∀ {ds : List PyData} {k : Nat}, (∀ d ∈ ds, d.depth ≤ k) → PyData.depthAll ds ≤ k
  | [], k, _ => by
    unfold PyData.depthAll
    omega
  | d :: ds, k, h => by
    unfold PyData.depthAll
    have h1 := h d List.mem_cons_self
    have h2 := depthAll_le (ds := ds) (k := k) fun e he => h e (List.mem_cons_of_mem _ he)
    omega
theorem canAll : ∀ {ds : List PyData}, (∀ d ∈ ds, d.canLay0 = true) → PyData.canLayAll0 ds = true
  | [], _ => by simp [PyData.canLayAll0]
  | d :: ds, h => by
    rw [PyData.canLayAll0, h d List.mem_cons_self, canAll (ds := ds) fun e he => h e (List.mem_cons_of_mem _ he)]
    rfl
/-- flat at most k deep -/
def Flat (k : Nat) (d : PyData) : Prop := d.canLay0 = true ∧ d.depth ≤ k
theorem Flat.mono {j k : Nat} {d : PyData} (h : Flat j d) (hk : j ≤ k) : Flat k d := ⟨h.1, Nat.le_trans h.2 hk⟩
theorem flat_int {i : Int} : Flat 0 (.int i) := ⟨by simp [PyData.canLay0], by simp [PyData.depth]⟩
theorem flat_bl {b : Bool} : Flat 0 (.bool b) := ⟨by simp [PyData.canLay0], by simp [PyData.depth]⟩
theorem flat_non : Flat 0 .none := ⟨by simp [PyData.canLay0], by simp [PyData.depth]⟩
theorem flat_list {k : Nat} {ds : List PyData} (h : ∀ d ∈ ds, Flat k d) : Flat (k + 1) (.list ds) := by
  refine ⟨?_, ?_⟩
  · rw [PyData.canLay0]
    exact canAll fun d hd => (h d hd).1
  · rw [PyData.depth]
    have := depthAll_le fun d hd => (h d hd).2
    omega
theorem flat_tuple {k : Nat} {ds : List PyData} (h : ∀ d ∈ ds, Flat k d) : Flat (k + 1) (.tuple ds) := by
  refine ⟨?_, ?_⟩
  · rw [PyData.canLay0]
    exact canAll fun d hd => (h d hd).1
  · rw [PyData.depth]
    have := depthAll_le fun d hd => (h d hd).2
    omega
theorem Flat.shaped {k : Nat} {d : PyData} (h : Flat k d) (hk : k ≤ 64) : SeqAt.shaped d = true := by
  unfold SeqAt.shaped
  rw [h.1, decide_eq_true (Nat.le_trans h.2 hk)]
  rfl
theorem Flat.refl {k : Nat} {d : PyData} (h : Flat k d) : PyData.eqv d d = true := SeqAt.eqv_refl d h.1
theorem flat_ints {ns : List Int} : Flat 1 (.list (ns.map .int)) := flat_list fun d hd => by
  obtain ⟨i, _, rfl⟩ := List.mem_map.mp hd
  exact flat_int
theorem flat_intsT {ns : List Int} : Flat 1 (.tuple (ns.map .int)) := flat_tuple fun d hd => by
  obtain ⟨i, _, rfl⟩ := List.mem_map.mp hd
  exact flat_int
theorem eqvAll_ints : ∀ ns ms : List Int, PyData.eqvAll (ns.map .int) (ms.map .int) = decide (ns = ms)
  | [], [] => by simp [PyData.eqvAll]
  | [], m :: ms => by simp [PyData.eqvAll]
  | n :: ns, [] => by simp [PyData.eqvAll]
  | n :: ns, m :: ms => by
    have ih := eqvAll_ints ns ms
    rw [List.map_cons, List.map_cons, PyData.eqvAll, ih, PyData.eqv]
    by_cases h1 : n = m
    · subst h1
      simp
    · simp [h1]
theorem eqv_ints {ns ms : List Int} : PyData.eqv (.list (ns.map .int)) (.list (ms.map .int)) = decide (ns = ms) := by
  rw [PyData.eqv]
  exact eqvAll_ints ns ms
theorem eqv_nil {ds : List PyData} : PyData.eqv (.list ds) (.list []) = ds.isEmpty := by
  rw [PyData.eqv]
  cases ds <;> simp [PyData.eqvAll]
end Tr

/-! The drawn rows: their heights lie within 0 to 9. -/
namespace Tr
open PySem L2 PySem.Spec PyProof.Rows Evl
def HB (ns : List Int) : Prop := ∀ i ∈ ns, 0 ≤ i ∧ i ≤ 9
theorem HB.set {ns : List Int} (h : HB ns) {j : Nat} {x : Int} (hx : 0 ≤ x ∧ x ≤ 9) : HB (ns.set j x) := fun i hi => by
  rcases List.mem_or_eq_of_mem_set hi with hi | rfl
  · exact h i hi
  · exact hx
theorem HB.exch {ns : List Int} (h : HB ns) (a b : Int) : HB (exch ns a b) := by
  unfold Tr.exch
  simp only
  split
  · rename_i hc
    exact (h.set ⟨by omega, by omega⟩).set ⟨by omega, by omega⟩
  · exact h
theorem HB.exchD {ns : List Int} (h : HB ns) (d : Int) : HB (exchD ns d) := by
  unfold Tr.exchD
  simp only
  split <;> exact h.exch _ _
theorem HB.mixedUp {ns : List Int} (h : HB ns) (a : Int) : ∀ n, HB (mixedUp ns a n)
  | 0 => h
  | n + 1 => by
    rw [mixedUp_succ]
    exact (HB.mixedUp h a n).exchD _
theorem HB.goStep {ns : List Int} (h : HB ns) (a k : Int) : HB (goStep a ns k) := fun i hi => by
  unfold Tr.goStep at hi
  simp only at hi
  rcases List.mem_append.mp hi with hi | hi
  · exact h.mixedUp _ _ i (List.mem_of_mem_drop hi)
  · exact h.mixedUp _ _ i (List.mem_of_mem_take hi)
theorem hb_going (a m : Int) : HB (going a m) := by
  unfold going
  refine HB.goStep (HB.goStep (fun i hi => ?_) _ _) _ _
  have e := (List.mem_replicate.mp hi).2
  subst e
  omega
theorem hb_any (a m : Int) : HB (anyF a m) := fun i hi => by
  unfold anyF at hi
  obtain ⟨k, _, rfl⟩ := List.mem_map.mp hi
  unfold pick3
  split
  · omega
  · split <;> omega
theorem longF_lo (a : Int) : 1 ≤ longF a ∧ longF a ≤ 40 := by
  unfold longF pick3
  split
  · omega
  · split <;> omega
theorem good_going {a m : Int} (h1 : 1 ≤ m) (h2 : m ≤ 40) : Good (going a m) := ⟨by rw [going_len]; omega, by rw [going_len]; omega, hb_going a m⟩
theorem good_any {a m : Int} (h1 : 1 ≤ m) (h2 : m ≤ 40) : Good (anyF a m) := ⟨by rw [anyF_len]; omega, by rw [anyF_len]; omega, hb_any a m⟩
theorem Good.set {ns : List Int} (h : Good ns) {j : Nat} {x : Int} (hx : 0 ≤ x ∧ x ≤ 9) : Good (ns.set j x) := ⟨by rw [List.length_set]; exact h.1, by rw [List.length_set]; exact h.2.1, HB.set h.2.2 hx⟩
end Tr

/-! Own rules: the end. What each law promises, the walk, an own class named by a clause. -/
namespace Tr
open PySem L2 PySem.Spec PyProof.Rows

/-- the promise of every law -/
def spL (K : PySem.W.Frag) : Sp := fun vs H Q _ => ∃ (a : Addr) (ns : List Int), vs = [.ref a] ∧ SqL K H a (ns.map V.int) ∧ ns.length ≤ 63 ∧ ∀ H', Q (.bl true) H'
theorem exm_any {K : PySem.W.Frag} {S : Addr} {cls : Value} {b : Bool} (h1 : PySem.W.subIn K (.ref S) (.type "BaseException") = some true) (h2 : PySem.W.isClsIn K S = true) (h3 : PySem.W.typeIn K (.ref S) = some (.type "type")) (h4 : PySem.W.subIn K cls (.ref S) = some b) :
    PySem.W.exmOne K cls (.ref S) = some b := by
  have e1 : (PySem.W.subIn K (.ref S) (.type "BaseException") == some true) = true := by rw [h1] <;> rfl
  have h2' : (PySem.W.clsIn K S).isSome = true := h2
  have e2 : ((PySem.W.clsIn K S).isSome && PySem.W.typeIn K (.ref S) == some (.type "type")) = true := by rw [h2', h3] <;> rfl
  unfold PySem.W.exmOne PySem.W.kitCls
  rw [if_pos e1]
  exact (if_pos e2).trans h4
theorem walkL {l : PySem.W.OpenLaw} {k : Nat} {q : Program} {loose : List Str} {XP : (Str → Option Value) → Heap → Prop} {YP : World → Heap → Prop} {d : DefRec} {K : Params → PySem.W.Frag} (hn : l.most = some 63) (hdf : d.params.defaults = []) (hk : k ≤ 40)
    (hY : ∀ (w : World) (h : Heap), YP w h → (K w.params).In h)
    (F : ∀ (w : World) (mg : Str → Option Value) (fa : Addr) (h : Heap), (K w.params).In h → h.Ns mainGlobals mg → mg d.name = some (.ref fa) →
      ∃ fd : FuncData, (∀ (s : Shared) (u : Value), BindsTo s fd ⟨[u], []⟩ [("_law_script", u)]) ∧ ∀ base : Heap, (K w.params).In base → base.Ns mainGlobals mg → FnOk l.prog w (K w.params) mg base (L2.CX l.prog w) k fa fd ["_law_script"] (spL (K w.params))) :
    PySem.W.WalkO q loose XP YP l.row.toRowW d [] (fun f vs => PySem.call f vs) :=
  L2.walk_of (n := 63) (k := 40) (x := "_law_script") (CX := fun w => L2.CX l.prog w) (sp := fun w => spL (K w.params)) hn (by decide) hdf ⟨rfl, by decide, by decide⟩ hY
    (fun w mg fa h X G hm => by
      obtain ⟨fd, b, g⟩ := F w mg fa h X G hm
      exact ⟨fd, b, fun base X1 G1 => (g base X1 G1).mono hk⟩)
    (fun _ _ a ns hl _ hS => ⟨a, ns, rfl, hS, hl, fun _ => rfl⟩)
    (fun w H s e s' h => by
      obtain ⟨_, _, _, _, _, _, _, _, _, _, _, _, z⟩ := h
      exact z.elim)
end Tr

/-! Values known by a property alone (EvP): parts of lists of mixed things, tuples handed back; the row that a law draws. -/
namespace Tr
open PySem L2 PySem.Spec PyProof.Rows Evl

abbrev HP := V → Hp → Prop
def Mon (P : HP) : Prop := ∀ v H H', Ex H H' → P v H → P v H'
def EvP (P : HP) (te : TE) (σ : L2.St) (H : Hp) : Prop := ∀ H1, Ex H H1 → ∀ Q : VK, (∀ v H2, Ex H1 H2 → P v H2 → Q v H2) → te σ H1 Q
inductive AllP : List HP → List V → Hp → Prop where
  | nil {H : Hp} : AllP [] [] H
  | cons {P : HP} {Ps : List HP} {v : V} {vs : List V} {H : Hp} : P v H → AllP Ps vs H → AllP (P :: Ps) (v :: vs) H
def EpA (Ps : List HP) (ta : TA) (σ : L2.St) (H : Hp) : Prop := ∀ H1, Ex H H1 → ∀ Q : List V → Hp → Prop, (∀ vs H2, Ex H1 H2 → AllP Ps vs H2 → Q vs H2) → ta σ H1 Q
def RetP (P : HP) (H : Hp) (Q : VK) : Prop := ∀ v H', Ex H H' → P v H' → Q v H'
section
variable {K : PySem.W.Frag} {c : Cs} {E : XK} {σ : L2.St} {H : Hp} {P P' : HP} {Ps : List HP} {te ti : TE} {ta : TA} {v x : V} {vs xs : List V} {D : Ends} {tz : TS}
theorem AllP.len {Ps : List HP} {vs : List V} (h : AllP Ps vs H) : vs.length = Ps.length := by
  induction h with
  | nil => rfl
  | cons _ _ ih => rw [List.length_cons, List.length_cons, ih]
theorem AllP.at {Ps : List HP} {vs : List V} (h : AllP Ps vs H) : ∀ {i : Nat} {P : HP}, Ps[i]? = some P → ∃ v, vs[i]? = some v ∧ P v H := by
  induction h with
  | nil => intro i P e; cases e
  | @cons P Ps v vs H p r ih =>
    intro i P' e
    cases i with
    | zero =>
      cases e
      exact ⟨v, rfl, p⟩
    | succ i => exact ih e
theorem EvP.weak (h : EvP P te σ H) (w : ∀ v H', Ex H H' → P v H' → P' v H') : EvP P' te σ H := fun H1 e Q q => h H1 e Q fun v H2 e2 p => q v H2 e2 (w v H2 (e.trans e2) p)
theorem EvP.mono {H' : Hp} (h : EvP P te σ H) (e : Ex H H') : EvP P te σ H' := fun H1 e1 => h H1 (e.trans e1)
theorem evp_ev (h : Ev te σ H v) : EvP (fun x _ => x = v) te σ H := fun H1 e Q q => h H1 e Q fun H2 e2 => q v H2 e2 rfl
theorem evp_of (h : Ev te σ H v) (hp : ∀ H', Ex H H' → P v H') : EvP P te σ H := fun H1 e Q q => h H1 e Q fun H2 e2 => q v H2 e2 (hp H2 (e.trans e2))
theorem evp_l (h : EvL te σ H xs) : EvP (fun v H => ∃ p, v = .ref p ∧ H p = some (.lst xs)) te σ H := fun H1 e Q q => h H1 e Q fun p H2 _ e2 h2 => q _ H2 e2 ⟨p, rfl, h2⟩
theorem epa_nil : EpA [] tNil σ H := fun H1 _ _ q => q [] H1 (Ex.refl H1) .nil
theorem epa_cons {tr : TA} (h : EvP P te σ H) (hm : Mon P) (hr : EpA Ps tr σ H) : EpA (P :: Ps) (tCons te tr) σ H := fun H1 e _ q =>
  h H1 e _ fun v H2 e2 p => hr H2 (e.trans e2) _ fun vs H3 e3 r => q _ H3 (e2.trans e3) (.cons (hm v H2 H3 e3 p) r)
def MonAll (Ps : List HP) : Prop := ∀ P ∈ Ps, Mon P
theorem AllP.ex {Ps : List HP} {vs : List V} {H H' : Hp} (e : Ex H H') (m : MonAll Ps) (h : AllP Ps vs H) : AllP Ps vs H' := by
  induction h with
  | nil => exact .nil
  | cons p r ih => exact .cons (m _ List.mem_cons_self _ _ _ e p) (ih e fun P hP => m P (List.mem_cons_of_mem _ hP))
theorem mon_dp {d : PyData} : Mon fun v H => Dp K H v d := fun _ _ _ e h => dp_ex e h
theorem mon_eq : Mon fun v _ => v = x := fun _ _ _ _ h => h
/-- a list of such, a tuple of such -/
def LsP (Ps : List HP) : HP := fun v H => ∃ p vs, v = .ref p ∧ H p = some (.lst vs) ∧ AllP Ps vs H
def TuP (Ps : List HP) : HP := fun v H => ∃ p vs, v = .ref p ∧ H p = some (.tup vs) ∧ AllP Ps vs H
theorem epl (h : EpA Ps ta σ H) (m : MonAll Ps) (hl : Ps.length ≤ 100000) : EvP (LsP Ps) (tLst ta) σ H := fun H1 e _ q =>
  h H1 e _ fun vs H2 e2 r => ⟨sz_of (by rw [r.len]; exact hl), fun p hp => q _ _ (e2.trans (Ex.new hp)) ⟨p, vs, rfl, upd_same, r.ex (Ex.new hp) m⟩⟩
theorem epu (h : EpA Ps ta σ H) (m : MonAll Ps) (hl : Ps.length ≤ 100000) : EvP (TuP Ps) (tTup ta) σ H := fun H1 e _ q =>
  h H1 e _ fun vs H2 e2 r => ⟨sz_of (by rw [r.len]; exact hl), fun p hp => q _ _ (e2.trans (Ex.new hp)) ⟨p, vs, rfl, upd_same, r.ex (Ex.new hp) m⟩⟩
theorem at_lt {i : Int} {n : Nat} (h0 : 0 ≤ i) (h1 : i < xs.length) (hv : xs[i.toNat]? = some v) : atI xs i = some v := by
  unfold atI ixN
  rw [if_pos h0, if_pos h1, Option.bind_some]
  exact hv
/-- one of them, by its place -/
theorem ep_ix {i : Int} (h : EvP (LsP Ps) te σ H) (m : MonAll Ps) (hi : ∀ H', Ex H H' → Ev ti σ H' (.int i)) (h0 : 0 ≤ i) (h1 : i < Ps.length) (hp : Ps[i.toNat]? = some P) : EvP P (tOp (rIx K) te ti) σ H := fun H1 e Q q =>
  h H1 e _ fun v H2 e2 ⟨p, vs, ev, h2, r⟩ => by
    subst ev
    obtain ⟨x, hx, px⟩ := r.at hp
    refine hi H2 (e.trans e2) H2 (Ex.refl H2) _ fun H3 e3 => .inl ⟨p, vs, i, x, rfl, rfl, ex_l e3 (SqL.of h2), at_lt (n := 0) h0 (by rw [r.len]; exact h1) hx, q x H3 (e2.trans e3) ?_⟩
    exact m P (List.mem_of_getElem? hp) _ _ _ e3 px
theorem ep_ixT {i : Int} (h : EvP (TuP Ps) te σ H) (m : MonAll Ps) (hi : ∀ H', Ex H H' → Ev ti σ H' (.int i)) (h0 : 0 ≤ i) (h1 : i < Ps.length) (hp : Ps[i.toNat]? = some P) : EvP P (tOp (rIx K) te ti) σ H := fun H1 e Q q =>
  h H1 e _ fun v H2 e2 ⟨p, vs, ev, h2, r⟩ => by
    subst ev
    obtain ⟨x, hx, px⟩ := r.at hp
    refine hi H2 (e.trans e2) H2 (Ex.refl H2) _ fun H3 e3 => .inr (.inl ⟨p, vs, i, x, rfl, rfl, ex_t e3 (SqT.of h2), at_lt (n := 0) h0 (by rw [r.len]; exact h1) hx, q x H3 (e2.trans e3) ?_⟩)
    exact m P (List.mem_of_getElem? hp) _ _ _ e3 px
theorem s_retP (h : EvP P te σ H) (k : RetP P H D.rt) : tRet te D σ H := h H (Ex.refl H) _ k
theorem q_asgP {i : Nat} (h : EvP P te σ H) (k : ∀ v H1, Ex H H1 → P v H1 → tz D (σ.set i (some v)) H1) : tSeq (tAsg te (gName i)) tz D σ H := h H (Ex.refl H) _ k
/-- names for the parts of a tuple -/
theorem q_unp2 {i j : Nat} {P1 P2 : HP} (h : EvP (TuP [P1, P2]) te σ H) (k : ∀ v w H1, Ex H H1 → P1 v H1 → P2 w H1 → tz D ((σ.set i (some v)).set j (some w)) H1) : tSeq (tAsg te (gTup K 2 (gCons (gName i) (gCons (gName j) gNil)))) tz D σ H :=
  h H (Ex.refl H) _ fun v H1 e1 ⟨p, vs, ev, h1, r⟩ => by
    subst ev
    cases r with
    | cons p1 r =>
      cases r with
      | cons p2 r =>
        cases r
        exact ⟨p, _, rfl, SqT.of h1, rfl, _, _, rfl, _, _, rfl, rfl, k _ _ H1 e1 p1 p2⟩
theorem ixN_nat {n j : Nat} (h : j < n) : ixN n (j : Int) = some j := by
  unfold ixN
  rw [if_pos (by omega), if_pos (by omega)]
  rfl
/-- a store of such a thing into a list -/
theorem q_setP {tp tb : TE} {l : Addr} {j : Nat} (hl : H l = some (.lst xs)) (h : EvP P te σ H) (ho : Ev tp σ H (.ref l)) (hi : Ev tb σ H (.int (j : Int))) (hj : j < xs.length) (k : ∀ v H1, Ex H H1 → P v H1 → tz D σ (upd H1 l (.lst (xs.set j v)))) (m : Mon P) :
    tSeq (tAsg te (gSub tp tb rSetL)) tz D σ H :=
  h H (Ex.refl H) _ fun v H1 e1 pv => ho H1 e1 _ fun H2 e2 => hi H2 (e1.trans e2) _ fun H3 e3 =>
    ⟨l, xs, _, j, rfl, rfl, (e1.trans (e2.trans e3)) _ _ hl, ixN_nat hj, k v H3 (e1.trans (e2.trans e3)) (m _ _ _ (e2.trans e3) pv)⟩
/-- on, behind a block -/
theorem nx_mk {f : L2.St → Hp → Prop} {g : VK} {b k : L2.St → Hp → Prop} (h : f σ H) : Ends.nx { nx := f, rt := g, bk := b, ct := k } σ H := h
/-- the error is kept by the name of slot j -/
theorem keep_yes {cls cc : Value} {i j : Nat} {Wout : WX} (hm : PySem.W.exmOne K cls cc = some true) (hi : i < σ.length) (k : ∀ a H1, Ex H H1 → H1 a = some (EO cls a) → tz D (((σ.set i (some (.ref a))).set j (some (.ref a))).set i none) H1) :
    wKeep K cc i (fun _ _ _ => tAsg (tVar i) (gName j)) Wout { D with nx := tz D } cls none σ H :=
  ⟨true, hm, fun _ => ⟨rfl, fun a ha => ⟨_, List.getElem?_set_self hi, k a _ (Ex.new ha) upd_same⟩⟩, fun z => nomatch z⟩
/-- a list that stands at a name, some times; a tuple some times -/
theorem el_repV {a : Addr} {k : Int} {tb : TE} (ha : Ev te σ H (.ref a)) (h2 : H a = some (.lst xs)) (hb : ∀ H1, Ex H H1 → Ev tb σ H1 (.int k)) (hk : -1000 ≤ k ∧ k ≤ 100000) (hz : xs.length * k.toNat ≤ 100000) : EvL (tOp (xMul K) te tb) σ H (List.replicate k.toNat xs).flatten := fun H1 e Q q =>
  ha H1 e _ fun H2 e2 => hb H2 (e.trans e2) H2 (Ex.refl H2) _ fun H3 e3 => .inr (.inl ⟨a, k, xs, rfl, rfl, e3 _ _ (e2 _ _ (e a _ h2)), by omega, by omega, sz_of hz, fun p hp => q p _ (fresh_back (e2.trans e3) hp) ((e2.trans e3).trans (Ex.new hp)) upd_same⟩)
theorem eu_rep {k : Int} {tb : TE} (ha : EvU te σ H xs) (hb : ∀ H1, Ex H H1 → Ev tb σ H1 (.int k)) (hk : 2 ≤ k ∧ k ≤ 1000) (h0 : xs ≠ []) (hz : xs.length ≤ 1000) : EvU (tOp (xMul K) te tb) σ H (List.replicate k.toNat xs).flatten := fun H1 e Q q =>
  ha H1 e _ fun a H2 _ e2 h2 => hb H2 (e.trans e2) H2 (Ex.refl H2) _ fun H3 e3 => .inr (.inr ⟨a, k, xs, rfl, rfl, SqT.of (e3 a _ h2), h0, hk.1, hk.2, hz, fun p hp => q p _ (fresh_back (e2.trans e3) hp) ((e2.trans e3).trans (Ex.new hp)) upd_same⟩)
/-! the drawn row -/
def drawn (sel d : Int) : List Int := if sel = 0 then anyF d (longF d) else going d (longF d)
theorem good_drawn {sel d : Int} (hd : 0 ≤ d) : Good (drawn sel d) := by
  have h := longF_lo d
  unfold drawn
  split
  · exact good_any h.1 h.2
  · exact good_going h.1 h.2
theorem el_drawn {ts td te' : TE} {sel d : Int} (hs : ∀ H', Ex H H' → Ev ts σ H' (.int sel)) (h01 : sel = 0 ∨ sel = 1) (hd : Ev td σ H (.int d)) (he : Ev te' σ H (.int d)) :
    EvL (tCall2 c.f_l_any c.f_l_going (sp_l_any K c) (sp_l_going K c) E0 (tOp (rIx K) (tLst (tCons (tC (.ref c.f_l_any)) (tCons (tC (.ref c.f_l_going)) tNil))) ts) (tCons td (tCons (tCall (sp_l_long K c) [] E0 (tCons te' tNil)) tNil))) σ H ((drawn sel d).map V.int) := fun H1 e1 Q q => by
  have hlong := longF_lo d
  have hfe : ∀ f : Addr, atI [V.ref c.f_l_any, V.ref c.f_l_going] sel = some (.ref f) → Ev (tOp (rIx K) (tLst (tCons (tC (.ref c.f_l_any)) (tCons (tC (.ref c.f_l_going)) tNil))) ts) σ H (.ref f) := fun f hf =>
    ev_ix (i := sel) (evq_s (evs_new (el_lst (ea_cons ev_c (ea_cons ev_c ea_nil)) (by show 2 ≤ 100000; decide)))) (fun H' e' => hs H' e') hf
  have harg : ∀ H4, Ex H H4 → EvA (tCons td (tCons (tCall (sp_l_long K c) [] E0 (tCons te' tNil)) tNil)) σ H4 [.int d, .int (longF d)] := fun H4 e4 => ea_cons (hd.mono e4) (ea_cons (ev_l_long (he.mono e4)) ea_nil)
  rcases h01 with rfl | rfl
  · refine hfe c.f_l_any rfl H1 e1 _ fun H2 e2 => .inl ⟨rfl, harg H2 (e1.trans e2) H2 (Ex.refl _) _ fun H3 e3 => ⟨d, longF d, rfl, by omega, by omega, fun p H4 hp e4 h4 => q p H4 (fresh_back (e2.trans e3) hp) ((e2.trans e3).trans e4) h4⟩⟩
  · refine hfe c.f_l_going rfl H1 e1 _ fun H2 e2 => .inr ⟨rfl, harg H2 (e1.trans e2) H2 (Ex.refl _) _ fun H3 e3 => ⟨d, longF d, rfl, by omega, by omega, fun p H4 hp e4 h4 => q p H4 (fresh_back (e2.trans e3) hp) ((e2.trans e3).trans e4) h4⟩⟩
end
end Tr

/-! a op b op' c op'' d; more words of known data; what exchanged throws do to the places. -/
namespace Tr
open PySem L2 PySem.Spec PyProof.Rows Evl

def tChain3 (r r' r'' : R2) (ta tb tc td : TE) : TE := fun σ H Q => ta σ H fun x H1 => tb σ H1 fun y H2 => r x y H2 fun z H3 => ∃ k, z = .bl k ∧
  (if k = true then tc σ H3 fun w H4 => r' y w H4 fun z' H5 => ∃ k', z' = .bl k' ∧ (if k' = true then td σ H5 fun v H6 => r'' w v H6 Q else Q (.bl false) H5) else Q (.bl false) H3)
section
variable {X : Cx} {a b c d : Expr} {ta tb tc td : TE} {pos : Pos}
theorem pe_chain3 {op op' op'' : CmpOp} {r r' r'' : R2} (ho : OpR X (compareOp op) r) (ho' : OpR X (compareOp op') r') (ho'' : OpR X (compareOp op'') r'') (ha : PE X a ta) (hb : PE X b tb) (hc : PE X c tc) (hd : PE X d td)
    (hm : lastMarks [op, op', op''] [b, c, d] = false := by with_unfolding_all rfl) : PE X (.Compare a [op, op', op''] [b, c, d] pos) (tChain3 r r' r'' ta tb tc td) := by
  refine ⟨fun pins s σ H Q I h => ?_⟩
  refine Compare_chain (thn (ha.run pins s σ H _ I h) fun v s1 ⟨x, H1, I1, r1, q1⟩ => chain_link (thn (hb.run pins s1 σ H1 _ I1 q1) fun u s2 ⟨y, H2, I2, r2, q2⟩ =>
    thn (ho pins s2 σ H2 x y v u _ I2 r1 r2 q2) fun _ s3 ⟨z, H3, I3, r3, k, e, q3⟩ => ?_)) hm
  subst e
  cases r3
  refine wpAny_truthy_bool ?_
  cases k with
  | false => exact ite_ff ⟨.bl false, H3, I3, rfl, q3⟩
  | true =>
    refine ite_tt (chain_link (thn (hc.run pins s3 σ H3 _ I3 q3) fun w' s4 ⟨z', H4, I4, r4, q4⟩ => thn (ho' pins s4 σ H4 y z' u w' _ I4 r2 r4 q4) fun _ s5 ⟨z5, H5, I5, r5, k', e', q5⟩ => ?_))
    subst e'
    cases r5
    refine wpAny_truthy_bool ?_
    cases k' with
    | false => exact ite_ff ⟨.bl false, H5, I5, rfl, q5⟩
    | true => exact ite_tt (chain_last (thn (hd.run pins s5 σ H5 _ I5 q5) fun w6 s6 ⟨z6, H6, I6, r6, q6⟩ => ho'' pins s6 σ H6 z' z6 w' w6 Q I6 r4 r6 q6))
theorem pt_chain3 {op op' op'' : CmpOp} {r r' r'' : R2} (ho : OpR X (compareOp op) r) (ho' : OpR X (compareOp op') r') (ho'' : OpR X (compareOp op'') r'') (ha : PE X a ta) (hb : PE X b tb) (hc : PE X c tc) (hd : PE X d td)
    (hm : lastMarks [op, op', op''] [b, c, d] = false := by with_unfolding_all rfl) : PT X (.Compare a [op, op', op''] [b, c, d] pos) (tTest (tChain3 r r' r'' ta tb tc td)) := by
  refine ⟨fun pins s σ H Q I h => ?_⟩
  refine isTrue_chain (thn (ha.run pins s σ H _ I h) fun v s1 ⟨x, H1, I1, r1, q1⟩ => test_link (thn (hb.run pins s1 σ H1 _ I1 q1) fun u s2 ⟨y, H2, I2, r2, q2⟩ =>
    thn (ho pins s2 σ H2 x y v u _ I2 r1 r2 q2) fun _ s3 ⟨z, H3, I3, r3, k, e, q3⟩ => ?_)) hm
  subst e
  cases r3
  refine wpAny_truthy_bool ?_
  cases k with
  | false =>
    obtain ⟨k', e', q'⟩ := q3
    cases e'
    exact ite_ff ⟨H3, I3, q'⟩
  | true =>
    refine ite_tt (test_link (thn (hc.run pins s3 σ H3 _ I3 q3) fun w' s4 ⟨z', H4, I4, r4, q4⟩ => thn (ho' pins s4 σ H4 y z' u w' _ I4 r2 r4 q4) fun _ s5 ⟨z5, H5, I5, r5, k', e', q5⟩ => ?_))
    subst e'
    cases r5
    refine wpAny_truthy_bool ?_
    cases k' with
    | false =>
      obtain ⟨k2, e2, q'⟩ := q5
      cases e2
      exact ite_ff ⟨H5, I5, q'⟩
    | true =>
      refine ite_tt (test_last (thn (hd.run pins s5 σ H5 _ I5 q5) fun w6 s6 ⟨z6, H6, I6, r6, q6⟩ => thn (ho'' pins s6 σ H6 z' z6 w' w6 _ I6 r4 r6 q6) fun _ s7 ⟨z7, H7, I7, r7, k3, e3, q7⟩ => ?_))
      subst e3
      cases r7
      exact wpAny_truthy_bool ⟨H7, I7, q7⟩
end
section
variable {K : PySem.W.Frag} {σ : L2.St} {H : Hp} {ta tb tc td : TE}
/-- 0 <= one < other < bound -/
theorem ev_chain3 {i j k m : Int} (ha : Ev ta σ H (.int i)) (hb : Ev tb σ H (.int j)) (hc : Ev tc σ H (.int k)) (hd : Ev td σ H (.int m)) : Ev (tChain3 xLe xLt xLt ta tb tc td) σ H (.bl (decide (i ≤ j) && (decide (j < k) && decide (k < m)))) := fun H1 e Q q =>
  ha H1 e _ fun H2 e2 => hb H2 (e.trans e2) _ fun H3 e3 => ⟨i, j, rfl, rfl, decide (i ≤ j), rfl, by
    cases h1 : decide (i ≤ j) with
    | false =>
      rw [h1, Bool.false_and] at q
      exact q H3 (e2.trans e3)
    | true =>
      rw [h1, Bool.true_and] at q
      exact hc H3 ((e.trans e2).trans e3) _ fun H4 e4 => ⟨j, k, rfl, rfl, decide (j < k), rfl, by
        cases h2 : decide (j < k) with
        | false =>
          rw [h2, Bool.false_and] at q
          exact q H4 ((e2.trans e3).trans e4)
        | true =>
          rw [h2, Bool.true_and] at q
          exact hd H4 (((e.trans e2).trans e3).trans e4) _ fun H5 e5 => ⟨k, m, rfl, rfl, q H5 (((e2.trans e3).trans e4).trans e5)⟩⟩⟩
end
/-! ### a row goes on just where no two throws land together -/
def Goes (ns : List Int) : Prop := ∀ i j, i < ns.length → j < ns.length → place ns i = place ns j → i = j
theorem fndP_none {ns : List Int} {j : Nat} : fndP ns j = none ↔ ∀ i, i < j → place ns i ≠ place ns j := by
  show (List.range j).find? _ = none ↔ _
  rw [List.find?_eq_none]
  constructor
  · intro h i hi he
    exact h i (List.mem_range.mpr hi) (decide_eq_true he)
  · intro h i hi hd
    exact h i (List.mem_range.mp hi) (of_decide_eq_true hd)
theorem goes_iff {ns : List Int} : clashF ns = none ↔ Goes ns := by
  constructor
  · intro h i j hi hj he
    have key : ∀ j, j < ns.length → ∀ i, i < j → place ns i ≠ place ns j := fun j hj => by
      rw [← fndP_none]
      have h' := List.findSome?_eq_none_iff.mp h j (List.mem_range.mpr hj)
      exact Option.map_eq_none_iff.mp h'
    rcases Nat.lt_trichotomy i j with h1 | h1 | h1
    · exact absurd he (key j hj i h1)
    · exact h1
    · exact absurd he.symm (key i hi j h1)
  · intro h
    refine clashF_none fun j hj => fndP_none.mpr fun i hi he => ?_
    have := h i j (by omega) hj he
    omega
/-! ### two throws exchanged -/
def xchF (ns : List Int) (i j : Nat) : List Int := (ns.set i ((j : Int) - i + ns.getD j 0)).set j (ns.getD i 0 - ((j : Int) - i))
def swp (i j t : Nat) : Nat := if t = i then j else if t = j then i else t
theorem getD_set {ns : List Int} {i t : Nat} {x : Int} (hi : i < ns.length) : (ns.set i x).getD t 0 = if t = i then x else ns.getD t 0 := by
  rw [List.getD_eq_getElem?_getD, List.getD_eq_getElem?_getD]
  by_cases h : t = i
  · subst h
    rw [if_pos rfl, List.getElem?_set_self hi]
    rfl
  · rw [if_neg h, List.getElem?_set_ne (Ne.symm h)]
section
variable {ns : List Int} {i j t : Nat}
theorem xch_len : (xchF ns i j).length = ns.length := by unfold xchF; rw [List.length_set, List.length_set]
theorem xch_at (hi : i < j) (hj : j < ns.length) : (xchF ns i j).getD t 0 = if t = j then ns.getD i 0 - ((j : Int) - i) else if t = i then (j : Int) - i + ns.getD j 0 else ns.getD t 0 := by
  unfold xchF
  rw [getD_set (by rw [List.length_set]; exact hj), getD_set (by omega)]
theorem xch_place (hi : i < j) (hj : j < ns.length) : place (xchF ns i j) t = place ns (swp i j t) := by
  unfold place swp
  rw [xch_len, xch_at hi hj]
  by_cases h1 : t = j
  · subst h1
    rw [if_pos rfl, if_neg (by omega), if_pos rfl]
    congr 1
    omega
  · by_cases h2 : t = i
    · subst h2
      rw [if_neg (by omega), if_pos rfl, if_pos rfl]
      congr 1
      omega
    · rw [if_neg h1, if_neg h2, if_neg h2, if_neg h1]
theorem swp_lt {n : Nat} (hi : i < n) (hj : j < n) (ht : t < n) : swp i j t < n := by
  unfold swp
  split
  · exact hj
  · split
    · exact hi
    · exact ht
theorem swp_swp : swp i j (swp i j t) = t := by
  unfold swp
  by_cases h1 : t = i
  · subst h1
    rw [if_pos rfl]
    by_cases h2 : j = t
    · rw [if_pos h2, h2]
    · rw [if_neg h2, if_pos rfl]
  · rw [if_neg h1]
    by_cases h2 : t = j
    · rw [if_pos h2, if_pos rfl, h2]
    · rw [if_neg h2, if_neg h1, if_neg h2]
theorem xch_goes1 (hi : i < j) (hj : j < ns.length) (h : Goes ns) : Goes (xchF ns i j) := fun a b ha hb he => by
  rw [xch_len] at ha hb
  rw [xch_place hi hj, xch_place hi hj] at he
  have z := h _ _ (swp_lt (by omega) hj ha) (swp_lt (by omega) hj hb) he
  have z2 := congrArg (swp i j) z
  rwa [swp_swp, swp_swp] at z2
theorem list_ext0 {xs ys : List Int} (hl : xs.length = ys.length) (h : ∀ t, t < xs.length → xs.getD t 0 = ys.getD t 0) : xs = ys := by
  apply List.ext_getElem hl
  intro t h1 h2
  have z := h t h1
  rw [List.getD_eq_getElem?_getD, List.getD_eq_getElem?_getD, List.getElem?_eq_getElem h1, List.getElem?_eq_getElem h2] at z
  exact z
theorem xch_twice (hi : i < j) (hj : j < ns.length) : xchF (xchF ns i j) i j = ns := by
  refine list_ext0 (by rw [xch_len, xch_len]) fun t _ => ?_
  rw [xch_at hi (by rw [xch_len]; exact hj), xch_at hi hj, xch_at hi hj, xch_at hi hj]
  by_cases h1 : t = j
  · subst h1
    rw [if_pos rfl, if_neg (by omega), if_pos rfl]
    omega
  · by_cases h2 : t = i
    · subst h2
      rw [if_neg h1, if_pos rfl, if_pos rfl]
      omega
    · rw [if_neg h1, if_neg h2, if_neg h1, if_neg h2]
theorem xch_goes (hi : i < j) (hj : j < ns.length) : Goes (xchF ns i j) ↔ Goes ns := by
  refine ⟨fun h => ?_, xch_goes1 hi hj⟩
  have z := xch_goes1 (ns := xchF ns i j) hi (by rw [xch_len]; exact hj) h
  rwa [xch_twice hi hj] at z
theorem sum_set : ∀ {ns : List Int} {i : Nat} {x : Int}, i < ns.length → (ns.set i x).sum = ns.sum - ns.getD i 0 + x
  | n :: ns, 0, x, _ => by
    rw [List.set_cons_zero, List.sum_cons, List.sum_cons, List.getD_cons_zero]
    omega
  | n :: ns, i + 1, x, h => by
    rw [List.set_cons_succ, List.sum_cons, List.sum_cons, List.getD_cons_succ, sum_set (by simpa using h)]
    omega
theorem xch_sum (hi : i < j) (hj : j < ns.length) : (xchF ns i j).sum = ns.sum := by
  unfold xchF
  rw [sum_set (by rw [List.length_set]; exact hj), sum_set (by omega), getD_set (by omega), if_neg (by omega)]
  omega
end
end Tr

/-! Errors with fields raised: their __init__ defs; defs with a default; the places at all turns; rows that go on, things, states at a turn. -/
namespace Tr
open PySem L2 PySem.Spec PyProof.Rows Evl

/-! ### errors with fields -/
/-- the class x at C, its __init__ of two fields (of one) -/
def Rais2 (P : Program) (w : World) (K : PySem.W.Frag) (mg : Str → Option Value) (base : Heap) (x : Str) (C : Addr) (f g : Str) : Prop :=
  ∃ (fI : Addr) (fd : FuncData), ExI K mg x C fI ∧ PySem.W.findIn K (.ref C) f = some none ∧ PySem.W.findIn K (.ref C) g = some none ∧ FnOk P w K mg base (L2.CX P w) 1 fI fd ["self", f, g] (spInit2 K f g) ∧ Binds K fd ["self", f, g] []
def Rais1 (P : Program) (w : World) (K : PySem.W.Frag) (mg : Str → Option Value) (base : Heap) (x : Str) (C : Addr) (f : Str) : Prop :=
  ∃ (fI : Addr) (fd : FuncData), ExI K mg x C fI ∧ PySem.W.findIn K (.ref C) f = some none ∧ FnOk P w K mg base (L2.CX P w) 1 fI fd ["self", f] (spInit1 K f) ∧ Binds K fd ["self", f] []
section
variable {X : Cx} {C fI : Addr} {x : Str} {p pos pos2 : Pos} {e e2 : Expr} {ta : TA} {W : WX} {f g : Str}
theorem ps_raise2R (hc : X.calm = true) (tk : Takes X W) (R : Rais2 X.prog X.w X.K X.mg X.base x C f g) (hr : Room 2 X.A) (hg : Gl X x) (ha : PA X [e, e2] ta) (hdb : (x == ("__debug__" : Str)) = false := by decide)
    (he : starEach (e :: [e2]) X.env = (false, eval e X.env) :: starEach [e2] X.env := by rfl) (hpl : (backTo pos (starEach [e2] X.env)).any (·.1) = false := by rfl) :
    PS X (.Raise (some (.Call (.Name x p) [e, e2] [] pos)) none pos2) (tRaise2 C f g W ta) := by
  obtain ⟨fI, fd, P, n1, n2, F, b⟩ := R
  exact ps_raise2 hc tk P n1 n2 F hr b hg ha hdb he hpl
theorem ps_raise1R (hc : X.calm = true) (tk : Takes X W) (R : Rais1 X.prog X.w X.K X.mg X.base x C f) (hr : Room 2 X.A) (hg : Gl X x) (ha : PA X [e] ta) (hdb : (x == ("__debug__" : Str)) = false := by decide)
    (he : starEach (e :: []) X.env = (false, eval e X.env) :: starEach [] X.env := by rfl) (hpl : (backTo pos (starEach [] X.env)).any (·.1) = false := by rfl) :
    PS X (.Raise (some (.Call (.Name x p) [e] [] pos)) none pos2) (tRaise1 C f W ta) := by
  obtain ⟨fI, fd, P, n1, F, b⟩ := R
  exact ps_raise1 hc tk P n1 F hr b hg ha hdb he hpl
end
theorem refs_toss {T : Addr} : PySem.HandSPX.refsVE [.ref T, .type "ValueError", .type "Exception", .type "BaseException", .type "object"] = true :=
  (by decide +kernel : PySem.HandSPX.refsVE [.type "ValueError", .type "Exception", .type "BaseException", .type "object"] = true)
/-- what the two shapes of __init__ say, and that they keep their promise -/
def t_init2 (K : PySem.W.Frag) (m f g : Str) : TS := tSeq (tDrop (tVeI K (tCons (tVar 0) (tCons (tC (.str m)) tNil)))) (tSeq (tOst K f (tVar 0) (tVar 1)) (tOst K g (tVar 0) (tVar 2)))
def t_init1 (K : PySem.W.Frag) (m f : Str) : TS := tSeq (tDrop (tVeI K (tCons (tVar 0) (tCons (tC (.str m)) tNil)))) (tOst K f (tVar 0) (tVar 1))
section
variable {K : PySem.W.Frag} {m f g : Str} {vs : List V} {H : Hp} {Q : VK} {E : XK}
theorem pure_init2 (h : spInit2 K f g vs H Q E) : t_init2 K m f g { nx := fun _ H' => Q .non H', rt := Q } (start ["self", f, g] vs) H := by
  obtain ⟨a, C, x, y, rfl, T, n1, n2, ha, k⟩ := h
  refine ⟨.ref a, rfl, a, C, [.str m], rfl, (show 1 ≤ 1000 by decide), T, ha, ?_⟩
  refine ⟨x, rfl, .ref a, rfl, a, C, rfl, T, n1, .inl ⟨ha, fun d hd hda => ?_⟩⟩
  refine ⟨y, rfl, .ref a, rfl, a, C, rfl, T, n2, .inr ⟨d, [(f, x)], upd_same, ?_, (show 1 ≤ 900 by decide), k d hd hda _ rfl⟩⟩
  rw [upd_ne hda, upd_same]
theorem pure_init1 (h : spInit1 K f vs H Q E) : t_init1 K m f { nx := fun _ H' => Q .non H', rt := Q } (start ["self", f] vs) H := by
  obtain ⟨a, C, x, rfl, T, n1, ha, k⟩ := h
  refine ⟨.ref a, rfl, a, C, [.str m], rfl, (show 1 ≤ 1000 by decide), T, ha, ?_⟩
  exact ⟨x, rfl, .ref a, rfl, a, C, rfl, T, n1, .inl ⟨ha, fun d hd hda => k d hd hda _ rfl⟩⟩
end
/-- an error with these fields -/
def RetX (C : Addr) (fs : List (Str × V)) (H : Hp) (E : XK) : Prop := ∀ d H', H d = none → Ex H H' → H' d = some (.xd fs) → E (.ref C) (some d) H'
/-! ### a def with a default -/
structure PDd (P : Program) (w : World) (K : PySem.W.Frag) (mg : Str → Option Value) (base : Heap) (k : Nat) (x : Str) (f : Addr) (ps : List Str) (dvs : List V) (sp : Sp) : Prop where
  fn : ∃ (fd : FuncData) (ds : List Value), FnOk P w K mg base (L2.CX P w) k f fd ps sp ∧ Binds K fd ps ds ∧ Vals dvs ds
  g : mg x = some (.ref f)
  kp : PySem.W.keepIn K (.ref f) = true
section
variable {X : Cx} {k j : Nat} {f g : Addr} {ps qs : List Str} {sp sq : Sp} {E : XK} {x y : Str} {p pos : Pos} {e fe : Expr} {es : List Expr} {t : TA} {tf : TE} {dvs : List V}
theorem pe_pdd (D : PDd X.prog X.w X.K X.mg X.base k x f ps dvs sp) (hr : Room k X.A) (hx : Passes (L2.CX X.prog X.w) X E) (hg : Gl X x) (ha : PA X (e :: es) t) (hdb : (x == ("__debug__" : Str)) = false := by decide)
    (he : starEach (e :: es) X.env = (false, eval e X.env) :: starEach es X.env := by rfl) (hpl : (backTo pos (starEach es X.env)).any (·.1) = false := by rfl) :
    PE X (.Call (.Name x p) (e :: es) [] pos) (tCall sp dvs E t) := by
  obtain ⟨fd, ds, F, b, v⟩ := D.fn
  exact pe_call F hr hg D.g D.kp b v hx ha hdb he hpl
theorem pe_pddS {E : L2.St → XK} (D : PDd X.prog X.w X.K X.mg X.base k x f ps dvs sp) (hr : Room k X.A) (hx : ∀ σ, PassesAt (L2.CX X.prog X.w) X σ (E σ)) (hg : Gl X x) (ha : PA X (e :: es) t) (hdb : (x == ("__debug__" : Str)) = false := by decide)
    (he : starEach (e :: es) X.env = (false, eval e X.env) :: starEach es X.env := by rfl) (hpl : (backTo pos (starEach es X.env)).any (·.1) = false := by rfl) :
    PE X (.Call (.Name x p) (e :: es) [] pos) (tCallSD sp dvs E t) := by
  obtain ⟨fd, ds, F, b, v⟩ := D.fn
  exact pe_callSD F hr hg D.g D.kp b v hx ha hdb he hpl
/-- one of two defs that a list holds, called within a try's body -/
def tCall2S (f g : Addr) (sp sq : Sp) (E : L2.St → XK) (tf : TE) (t : TA) : TE := fun σ H Q => tf σ H fun v H1 => (v = .ref f ∧ t σ H1 fun vs H2 => sp vs H2 Q (E σ)) ∨ (v = .ref g ∧ t σ H1 fun vs H2 => sq vs H2 Q (E σ))
theorem pe_call2S {E : L2.St → XK} (D : PD X.prog X.w X.K X.mg X.base k x f ps sp) (C : PD X.prog X.w X.K X.mg X.base k y g qs sq) (hr : Room k X.A) (hx : ∀ σ, PassesAt (L2.CX X.prog X.w) X σ (E σ)) (hf : PE X fe tf) (ha : PA X (e :: es) t)
    (ht : eval (.Call fe (e :: es) [] pos) X.env = (do callWith pos (← eval fe X.env) [] (backTo pos (starEach (e :: es) X.env)) (backToKw pos (keywordEach [] X.env))) := by rfl)
    (he : starEach (e :: es) X.env = (false, eval e X.env) :: starEach es X.env := by rfl) (hpl : (backTo pos (starEach es X.env)).any (·.1) = false := by rfl) :
    PE X (.Call fe (e :: es) [] pos) (tCall2S f g sp sq E tf t) := by
  obtain ⟨fd, F, b⟩ := D.fn
  obtain ⟨gd, G, c⟩ := C.fn
  refine ⟨fun pins s σ H Q I h => ?_⟩
  refine Call_ (thn (hf.run pins s σ H _ I h) fun u s1 ⟨v, H1, I1, rv, q⟩ => ?_) ht
  rcases q with ⟨rfl, q⟩ | ⟨rfl, q⟩
  · cases rv
    refine PySem.W.callWith_K (h₀ := X.base) I.ok.mod.kin D.kp (thn (ha.run pos pins s1 σ H1 _ I1 q) fun us s2 ⟨vs, H2, I2, r, q2⟩ => ⟨I2.kIn, ?_⟩) he hpl
    exact run_fnS F hr b (hx σ) I2 r q2
  · cases rv
    refine PySem.W.callWith_K (h₀ := X.base) I.ok.mod.kin C.kp (thn (ha.run pos pins s1 σ H1 _ I1 q) fun us s2 ⟨vs, H2, I2, r, q2⟩ => ⟨I2.kIn, ?_⟩) he hpl
    exact run_fnS G hr c (hx σ) I2 r q2
end
section
variable {P : Program} {w : World} {K : PySem.W.Frag} {mg : Str → Option Value} {base : Heap}
/-- the def x(a, b=d) of the text st stands at f -/
structure DefAtD (K : PySem.W.Frag) (mg : Str → Option Value) (x : Str) (st : Stmt) (ps : List Str) (d : V) (f : Addr) : Prop where
  fn : ∃ fd, FunD K x x (defArgs st) (defBody st) (defScope st) [d] [] f fd ∧ Binds K fd ps [] ∧ ∃ ds, Vals [d] ds ∧ Binds K fd ps ds
  g : mg x = some (.ref f)
theorem DefAtD.keeps {x : Str} {st : Stmt} {f : Addr} {N ps : List Str} {k : Nat} {sp : Sp} {d : V} (D : DefAtD K mg x st ps d f) (S : FnScope N ps (defScope st)) (len : ∀ vs H Q E, sp vs H Q E → vs.length = ps.length)
    (hbody : ∀ (cdv : Value) (A : Around) (outer : List Env) (s : Shared) (H : Hp) (vs : List V) (Q : VK) (E : XK), Room k (A.deeper (envOfC x (defScope st) s.heap.objs.size f cdv)) → sp vs H Q E →
      ∃ t, PSs (cxOf (L2.CX P w) P w K mg base N x (defScope st) f cdv A outer s H E) (defBody st) t ∧ t { nx := fun _ H' => Q .non H', rt := Q } (start N vs) H) : PD P w K mg base (k + 1) x f ps sp ∧ PDd P w K mg base (k + 1) x f ps [d] sp := by
  obtain ⟨fd, F, b, ds, v, b1⟩ := D.fn
  have G := F.ok S len hbody
  exact ⟨⟨⟨fd, G, b⟩, D.g, F.kp⟩, ⟨fd, ds, G, b1, v⟩, D.g, F.kp⟩
end
theorem dflt_all {K : PySem.W.Frag} {fd : FuncData} {ps : List Str} (h : ∃ ds, Vals [] ds ∧ Binds K fd ps ds) : Binds K fd ps [] := by
  obtain ⟨ds, v, b⟩ := h
  cases v
  exact b
/-! ### the height at any turn -/
def hAt (ns : List Int) (t : Int) : Int := gi ns (t % ns.length)
/-- no two turns of all come down together -/
def GoesZ (h : Int → Int) : Prop := ∀ s t : Int, s + h s = t + h t → s = t
theorem hAt_nat {ns : List Int} {t : Nat} (h : t < ns.length) : hAt ns t = ns.getD t 0 := by
  unfold hAt gi
  rw [Int.emod_eq_of_lt (by omega) (by omega)]
  rfl
theorem hAt_add {ns : List Int} {t k : Int} : hAt ns (t + k * ns.length) = hAt ns t := by
  unfold hAt
  rw [Int.add_mul_emod_self_right]
theorem hAt_mod {ns : List Int} {t : Int} : hAt ns (t % ns.length) = hAt ns t := by
  unfold hAt
  rw [Int.emod_emod]
theorem hAt_of {ns : List Int} {s t : Int} (h : s % ns.length = t % ns.length) : hAt ns s = hAt ns t := by
  unfold hAt
  rw [h]
theorem goes_z {ns : List Int} (hn : 0 < ns.length) : Goes ns ↔ GoesZ (hAt ns) := by
  have pl : ∀ t : Nat, t < ns.length → place ns t = ((t : Int) + hAt ns t) % ns.length := fun t ht => by rw [hAt_nat ht]; rfl
  constructor
  · intro g s t e
    have hs0 : 0 ≤ s % (ns.length : Int) := Int.emod_nonneg _ (by omega)
    have hs1 : s % (ns.length : Int) < ns.length := Int.emod_lt_of_pos _ (by omega)
    have ht0 : 0 ≤ t % (ns.length : Int) := Int.emod_nonneg _ (by omega)
    have ht1 : t % (ns.length : Int) < ns.length := Int.emod_lt_of_pos _ (by omega)
    have key : ∀ u : Int, 0 ≤ u % (ns.length : Int) → u % (ns.length : Int) < ns.length → place ns (u % (ns.length : Int)).toNat = (u + hAt ns u) % ns.length := fun u h0 h1 => by
      rw [pl _ (by omega), Int.toNat_of_nonneg h0, hAt_mod, Int.emod_add_emod]
    have z := g (s % (ns.length : Int)).toNat (t % (ns.length : Int)).toNat (by omega) (by omega) (by rw [key s hs0 hs1, key t ht0 ht1, e])
    have z2 : s % (ns.length : Int) = t % (ns.length : Int) := by omega
    have z3 := hAt_of z2
    omega
  · intro g i j hi hj e
    rw [pl i hi, pl j hj] at e
    obtain ⟨k, hk⟩ := Int.dvd_of_emod_eq_zero (Int.emod_eq_emod_iff_emod_sub_eq_zero.mp e)
    have z := g i (j + k * ns.length) (by rw [hAt_add, show k * (ns.length : Int) = ns.length * k from Int.mul_comm _ _]; omega)
    have e1 : ((i : Nat) : Int) % ns.length = (j : Int) % ns.length := by rw [z, Int.add_mul_emod_self_right]
    rw [Int.emod_eq_of_lt (by omega) (by omega), Int.emod_eq_of_lt (by omega) (by omega)] at e1
    omega
/-- the state at a turn, by the heights thrown ahead of it -/
def stF (h : Int → Int) (t : Int) : Int := (List.range 9).foldl (fun s (k : Nat) => if h (t - ((k : Int) + 1)) ≥ (k : Int) + 1 then Builtin.bitOr s (1 * 2 ^ (h (t - ((k : Int) + 1)) - ((k : Int) + 1)).toNat) else s) 0
theorem stF_congr {h h' : Int → Int} {t t' : Int} (e : ∀ b, h (t - b) = h' (t' - b)) : stF h t = stF h' t' := by
  unfold stF
  congr 1
  funext s k
  rw [e]
def stUp (h : Int → Int) (t : Int) (n : Nat) : Int := (List.range n).foldl (fun s (k : Nat) => if h (t - ((k : Int) + 1)) ≥ (k : Int) + 1 then Builtin.bitOr s (1 * 2 ^ (h (t - ((k : Int) + 1)) - ((k : Int) + 1)).toNat) else s) 0
theorem stUp_succ (h : Int → Int) (t : Int) (n : Nat) : stUp h t (n + 1) = if h (t - ((n : Int) + 1)) ≥ (n : Int) + 1 then Builtin.bitOr (stUp h t n) (1 * 2 ^ (h (t - ((n : Int) + 1)) - ((n : Int) + 1)).toNat) else stUp h t n := by
  unfold stUp
  rw [List.range_succ, List.foldl_append]
  rfl
theorem mem_getD0 {ns : List Int} {t : Nat} (h : t < ns.length) : ns.getD t 0 ∈ ns := by
  rw [List.getD_eq_getElem?_getD, List.getElem?_eq_getElem h]
  exact List.getElem_mem h
theorem hAt_hgt {ns : List Int} (hg : Good ns) (t : Int) : 0 ≤ hAt ns t ∧ hAt ns t ≤ 9 := by
  have h1 := hg.1
  have b0 : 0 ≤ t % (ns.length : Int) := Int.emod_nonneg _ (by omega)
  have b1 : t % (ns.length : Int) < ns.length := Int.emod_lt_of_pos _ (by omega)
  exact hg.2.2 _ (mem_getD0 (by omega))
/-! ### promises -/
def Need (K : PySem.W.Frag) (c : Cs) (x : V) (H : Hp) (E : XK) (go : List Int → Prop) : Prop := (Bad K H x ∧ RetE c.norow H E) ∨
  ∃ ns, Row K H x ns ∧ Good ns ∧ ((∃ i j : Nat, clashF ns = some (i, j) ∧ RetX c.clash [("other", .int j), ("one", .int i)] H E) ∨ (clashF ns = none ∧ go ns))
def sp_need_going (K : PySem.W.Frag) (c : Cs) : Sp := fun vs H Q E => ∃ x, vs = [x] ∧ Need K c x H E fun _ => RetV .non H Q
def sp_things (K : PySem.W.Frag) (c : Cs) : Sp := fun vs H Q E => ∃ x, vs = [x] ∧ Need K c x H E fun ns => RetV (.int (ns.sum / ns.length)) H Q
def sp_state_at (K : PySem.W.Frag) (c : Cs) : Sp := fun vs H Q E => ∃ x t, vs = [x, t] ∧ Typed K H t ∧ Need K c x H E fun ns => ((∀ n : Int, t = .int n → n < 0) ∧ RetE c.noturn H E) ∨ ∃ n : Int, t = .int n ∧ 0 ≤ n ∧ RetV (.int (stF (hAt ns) n)) H Q
/-- need_going: slots row, pair -/
def t_need_going (K : PySem.W.Frag) (c : Cs) (E : XK) : TS :=
  (tSeq (tAsg (tCall (sp_clash K c) [] E (tCons (tVar 0) tNil)) (gName 1))
  (tIfS (tTest (tOp xNotN (tVar 1) (tC .non))) (tRaise2 c.clash "one" "other" (fun cls d _ H => E cls d H) (tCons (tOp (rIx K) (tVar 1) (tC (.int 0))) (tCons (tOp (rIx K) (tVar 1) (tC (.int 1))) tNil))) tNext))

/-- things: slots row -/
def t_things (K : PySem.W.Frag) (c : Cs) (E : XK) : TS :=
  (tSeq (tDrop (tCall (sp_need_going K c) [] E (tCons (tVar 0) tNil)))
  (tRet (tOp xDiv (tCB (cSum K) (tCons (tVar 0) tNil)) (tCB (cLen K) (tCons (tVar 0) tNil)))))

/-- state_at: slots row, turn, state, back, height -/
def t_state_at (K : PySem.W.Frag) (c : Cs) (E : XK) : TS :=
  (tSeq (tDrop (tCall (sp_need_going K c) [] E (tCons (tVar 0) tNil)))
  (tSeq (tIfS (tOr (tNot (tB (tCall (sp_is_number K c) [] E0 (tCons (tVar 1) tNil)))) (tTest (tOp xLt (tVar 1) (tC (.int 0))))) (fun _ σ H => (fun cls d _ H => E cls d H) (.ref c.noturn) none σ H) tNext)
  (tSeq (tAsg (tC (.int 0)) (gName 2))
  (tSeq (tFor (iRng2 (tCons (tC (.int 1)) (tCons (tOp (xAdd K) (tC (.int 9)) (tC (.int 1))) tNil))) (gName 3) (tSeq (tAsg (tOp (rIx K) (tVar 0) (tOp xMod (tOp xSub (tVar 1) (tVar 3)) (tCB (cLen K) (tCons (tVar 0) tNil)))) (gName 4))
  (tIfS (tTest (tOp xGe (tVar 4) (tVar 3))) (tAug 2 (tOp xShl (tC (.int 1)) (tOp xSub (tVar 4) (tVar 3))) xOr) tNext)))
  (tRet (tVar 2))))))

section
variable {K : PySem.W.Frag} {c : Cs} {vs : List V} {H : Hp} {Q : VK} {E : XK} {ns : List Int}
theorem atI_zero {α : Type} {x : α} {xs : List α} : atI (x :: xs) 0 = some x := by simp [atI, ixN]
theorem num_is {x : V} (h : numV x = true) : ∃ i, x = .int i := by
  cases x <;> first | exact ⟨_, rfl⟩ | cases h
theorem ev_lenI {σ : L2.St} {ta : TE} {ns : List Int} (h : EvQ K ta σ H (ns.map V.int)) : Ev (tCB (cLen K) (tCons ta tNil)) σ H (.int ((ns.length : Nat) : Int)) := by
  have z := ev_lenQ h
  rwa [List.length_map] at z
theorem ev_ixI {σ : L2.St} {ta tb : TE} {ns : List Int} {t : Nat} (h : EvQ K ta σ H (ns.map V.int)) (hb : ∀ H1, Ex H H1 → Ev tb σ H1 (.int (t : Int))) (ht : t < ns.length) : Ev (tOp (rIx K) ta tb) σ H (.int (ns.getD t 0)) :=
  ev_ix h hb (atI_ints (by omega) (by omega))
/-- row[t % len(row)] -/
theorem ev_hAt {σ : L2.St} {ta tb : TE} {t : Int} (h : EvQ K ta σ H (ns.map V.int)) (hb : ∀ H1, Ex H H1 → Ev tb σ H1 (.int (t % (ns.length : Int)))) (hn : 0 < ns.length) : Ev (tOp (rIx K) ta tb) σ H (.int (hAt ns t)) :=
  ev_ix h hb (atI_ints (Int.emod_nonneg _ (by omega)) (Int.emod_lt_of_pos _ (by omega)))
theorem told_many {σ : L2.St} {cls : Value} {b : Bool} {D : Ends} {tz : TS} {cc : Value} {ts : Addr → Value → Option Addr → TS} {Wout : WX} {r : List (Value × (Addr → Value → Option Addr → TS))} {d : Option Addr}
    (hm : PySem.W.exmOne K cls cc = some b) (h1 : b = true → ∀ a, H a = none → ts a cls d { D with nx := tz D } σ H) (h2 : b = false → wMany K Wout { D with nx := tz D } r cls d σ H) : wMany K Wout { D with nx := tz D } ((cc, ts) :: r) cls d σ H := ⟨b, hm, h1, h2⟩
theorem s_asgH {σ : L2.St} {D : Ends} {tz : TS} {i : Nat} {v : V} (k : tz D (σ.set i (some v)) H) : tAsg (tC v) (gName i) { D with nx := tz D } σ H := k
theorem dpa_ints_inv {H : Hp} : ∀ {ns : List Int} {vs : List V}, DpAll K H vs (ns.map PyData.int) → vs = ns.map V.int
  | [], _, .nil => rfl
  | n :: ns, _, .cons h hs => by
    cases h
    rw [dpa_ints_inv hs]
    rfl
theorem flat_str {w : Str} (h : PyData.strOk w = true) : Flat 0 (.str w) := ⟨by simp [PyData.canLay0, h], by simp [PyData.depth]⟩
/-- a plain value: the same in every heap -/
def Plain (v : V) : Prop := (∃ i, v = .int i) ∨ (∃ b, v = .bl b) ∨ v = .non ∨ ∃ s, v = .str s
theorem Plain.typed {v : V} {H : Hp} (h : Plain v) : Typed K H v := by
  rcases h with ⟨i, rfl⟩ | ⟨b, rfl⟩ | rfl | ⟨s, rfl⟩
  · exact typed_int
  · exact typed_bl
  · exact typed_non
  · exact typed_str
/-- clash(..) is None -/
theorem ev_isClash {σ : L2.St} {ta : TE} {ns : List Int} (ha : EvQ K ta σ H (ns.map V.int)) (hg : Good ns) : Ev (tOp xIsN (tCall (sp_clash K c) [] E (tCons ta tNil)) (tC .non)) σ H (.bl (clashF ns).isNone) := fun H1 e1 Q q =>
  evd_clash ha hg H1 e1 _ fun v H2 e2 hv => ev_c H2 (Ex.refl _) _ fun H3 e3 => ⟨rfl, by
    have z : decide (v = .non) = (clashF ns).isNone := by
      cases h : clashF ns with
      | none =>
        rw [h] at hv
        cases hv
        rfl
      | some t =>
        obtain ⟨i, j⟩ := t
        rw [h] at hv
        cases hv
        rfl
    rw [z]
    exact q H3 (e2.trans e3)⟩
theorem fresh_of {H' : Hp} {d : Addr} (e : Ex H H') (h : H' d = none) : H d = none := by
  cases z : H d with
  | none => rfl
  | some o => rw [e _ _ z] at h; cases h
/-- .. with what follows told once -/
theorem q_whenR {σ : L2.St} {D : Ends} {tt : TT} {tu tz : TS} {b : Bool} (h : EvT tt σ H b) (h1 : b = true → (∀ H', Ex H H' → tz D σ H') → ∀ H1, Ex H H1 → tu { D with nx := tz D } σ H1) (h2 : b = false → (∀ H', Ex H H' → tz D σ H') → ∀ H1, Ex H H1 → tz D σ H1)
    (k : ∀ H', Ex H H' → tz D σ H') : tSeq (tIfS tt tu tNext) tz D σ H := q_when h (fun hb H1 e1 => h1 hb k H1 e1) fun hb H1 e1 => h2 hb k H1 e1
/-- a list with a number too high behind it is no row -/
theorem bad_app {p : Addr} {ns : List Int} {m : Int} (hm : 9 < m) (hp : H p = some (.lst ((ns ++ [m]).map V.int))) : Bad K H (.ref p) := .inr ⟨p, _, rfl, .inl (SqL.of hp), fun y hy => by
  obtain ⟨i, _, rfl⟩ := List.mem_map.mp hy
  exact typed_int, fun z => by
  have w := List.all_eq_true.mp z.2.2 (.int m) (List.mem_map.mpr ⟨m, List.mem_append_right _ (List.mem_singleton.mpr rfl), rfl⟩)
  have w2 : (decide (0 ≤ m) && decide (m ≤ 9)) = true := w
  rw [Bool.and_eq_true, decide_eq_true_eq, decide_eq_true_eq] at w2
  omega⟩
theorem ev_things {σ : L2.St} {ta : TE} {ns : List Int} (ha : EvQ K ta σ H (ns.map V.int)) (hg : Good ns) (hc : clashF ns = none) : Ev (tCall (sp_things K c) [] E (tCons ta tNil)) σ H (.int (ns.sum / ns.length)) := fun H1 e1 Q q =>
  ha H1 e1 _ fun p H2 e2 hp => ⟨.ref p, rfl, .inr ⟨ns, ⟨p, rfl, hp⟩, hg, .inr ⟨hc, fun H3 e3 => q H3 (e2.trans e3)⟩⟩⟩
theorem ev_state_at {σ : L2.St} {ta tb : TE} {ns : List Int} {n : Int} (ha : EvQ K ta σ H (ns.map V.int)) (hb : ∀ H1, Ex H H1 → Ev tb σ H1 (.int n)) (hg : Good ns) (hc : clashF ns = none) (h0 : 0 ≤ n) : Ev (tCall (sp_state_at K c) [] E (tCons ta (tCons tb tNil))) σ H (.int (stF (hAt ns) n)) := fun H1 e1 Q q =>
  ha H1 e1 _ fun p H2 e2 hp => hb H2 (e1.trans e2) H2 (Ex.refl _) _ fun H3 e3 => ⟨.ref p, .int n, rfl, typed_int, .inr ⟨ns, ⟨p, rfl, ex_q e3 hp⟩, hg, .inr ⟨hc, .inr ⟨n, rfl, h0, fun H4 e4 => q H4 ((e2.trans e3).trans e4)⟩⟩⟩⟩
theorem ev_state_at0 {σ : L2.St} {ta : TE} {ns : List Int} (ha : EvQ K ta σ H (ns.map V.int)) (hg : Good ns) (hc : clashF ns = none) : Ev (tCall (sp_state_at K c) [.int 0] E (tCons ta tNil)) σ H (.int (stF (hAt ns) 0)) := fun H1 e1 Q q =>
  ha H1 e1 _ fun p H2 e2 hp => ⟨.ref p, .int 0, rfl, typed_int, .inr ⟨ns, ⟨p, rfl, hp⟩, hg, .inr ⟨hc, .inr ⟨0, rfl, Int.le_refl _, fun H4 e4 => q H4 (e2.trans e4)⟩⟩⟩⟩
theorem need_up {x : V} {H' : Hp} {go go' : List Int → Prop} (e : Ex H H') (h : Need K c x H E go) (k : ∀ ns, Row K H x ns → Good ns → clashF ns = none → go ns → go' ns) : Need K c x H' E go' := by
  rcases h with ⟨hb, q⟩ | ⟨ns, hr, hg, ⟨i, j, hc, q⟩ | ⟨hc, q⟩⟩
  · exact .inl ⟨bad_ex e hb, fun H1 e1 => q H1 (e.trans e1)⟩
  · exact .inr ⟨ns, row_ex e hr, hg, .inl ⟨i, j, hc, fun d H1 hd e1 h1 => q d H1 (by
      cases z : H d with
      | none => rfl
      | some o => rw [e _ _ z] at hd; cases hd) (e.trans e1) h1⟩⟩
  · exact .inr ⟨ns, row_ex e hr, hg, .inr ⟨hc, k ns hr hg hc q⟩⟩
theorem s_augO {σ : L2.St} {te : TE} {r : R2} {i : Nat} {x y z : V} {D : Ends} (hx : σ[i]? = some (some x)) (h : Ev te σ H y) (hr : ∀ H1, Ex H H1 → RV r x y H1 z) (k : ∀ H1, Ex H H1 → D.nx (σ.set i (some z)) H1) : tAug i te r D σ H :=
  ⟨x, hx, h H (Ex.refl H) _ fun H1 e1 => hr H1 e1 H1 (Ex.refl _) _ fun H2 e2 => k H2 (e1.trans e2)⟩
theorem pure_need_going (h : sp_need_going K c vs H Q E) : t_need_going K c E { nx := fun _ H' => Q .non H', rt := Q } (start ["row", "pair"] vs) H := by
  obtain ⟨x, rfl, ⟨hb, q⟩ | ⟨ns, hr, hg, h⟩⟩ := h
  · exact ⟨x, rfl, x, rfl, .inl ⟨hb, q⟩⟩
  refine ⟨x, rfl, x, rfl, .inr ⟨ns, hr, hg, fun v H1 e1 hv => ?_⟩⟩
  refine nx_mk ?_
  rcases h with ⟨i, j, hc, q⟩ | ⟨hc, q⟩
  · rw [hc] at hv
    cases hv with
    | @tup p xs _ hs ha =>
    cases ha with
    | cons a1 ha =>
    cases ha with
    | cons a2 ha =>
    cases ha
    cases a1
    cases a2
    refine s_when (b := true) (et_test (ev_op (ev_var (i := 1) rfl) ev_c rv_notN)) (fun _ H2 e2 => ?_) (fun z => nomatch z)
    have pr : ∀ {H' : Hp}, Ex H2 H' → EvQ K (tVar 1) [some x, some (V.ref p)] H' [.int (i : Int), .int (j : Int)] := fun e => evq_of (ev_var rfl) (.inr (ex_t (e2.trans e) hs))
    refine ea_cons (ev_ix (i := 0) (pr (Ex.refl _)) (fun _ _ => ev_c) rfl) (ea_cons (ev_ix (i := 1) (pr (Ex.refl _)) (fun _ _ => ev_c) rfl) ea_nil) H2 (Ex.refl _) _ fun H3 e3 => ⟨.int i, .int j, rfl, fun d hd => ?_⟩
    exact q d _ (fresh_back ((e1.trans e2).trans e3) hd) (((e1.trans e2).trans e3).trans (Ex.new hd)) upd_same
  · rw [hc] at hv
    cases hv
    exact s_when (b := false) (et_test (ev_op (ev_var (i := 1) rfl) ev_c rv_notN)) (fun z => nomatch z) fun _ H2 e2 => q H2 (e1.trans e2)
theorem pure_things (h : sp_things K c vs H Q E) : t_things K c E { nx := fun _ H' => Q .non H', rt := Q } (start ["row"] vs) H := by
  obtain ⟨x, rfl, h⟩ := h
  refine ⟨x, rfl, x, rfl, need_up (Ex.refl _) h fun ns hr hg hc q H1 e1 => ?_⟩
  obtain ⟨p, rfl, hq⟩ := hr
  have h1 := hg.1
  have h2 := hg.2.1
  exact s_ret (v := .int (ns.sum / ns.length)) (ev_op (ev_sum (evq_of (ev_var rfl) (ex_q e1 hq))) (ev_lenI (evq_of (ev_var rfl) (ex_q e1 hq))) (rv_div (by k_caughtB))) fun H2 e2 => q H2 (e1.trans e2)
theorem pure_state_at (h : sp_state_at K c vs H Q E) : t_state_at K c E { nx := fun _ H' => Q .non H', rt := Q } (start ["row", "turn", "state", "back", "height"] vs) H := by
  obtain ⟨x, t, rfl, ty, h⟩ := h
  refine ⟨x, rfl, x, rfl, need_up (Ex.refl _) h fun ns hr hg hc q H1 e1 => ?_⟩
  obtain ⟨p, rfl, hq⟩ := hr
  have h1 := hg.1
  have h2 := hg.2.1
  have test : EvT (tOr (tNot (tB (tCall (sp_is_number K c) [] E0 (tCons (tVar 1) tNil)))) (tTest (tOp xLt (tVar 1) (tC (.int 0))))) [some (V.ref p), some t, none, none, none] H1 (match t with | .int n => decide (n < 0) | _ => true) := by
    cases ht : numV t with
    | false => exact et_is (et_or (b := true) (et_not (et_B (ev_is_number (ev_var rfl) (typed_ex e1 ty)))) fun z => by rw [ht] at z; cases z) (by rw [ht]; cases t <;> first | rfl | cases ht)
    | true =>
      obtain ⟨n, rfl⟩ := num_is ht
      exact et_or (et_not (et_B (ev_is_number (ev_var rfl) (typed_ex e1 ty)))) fun _ => et_test (ev_op (ev_var rfl) ev_c rv_lt)
  refine nx_mk (q_when test (fun hb H2 e2 => ?_) fun hb H2 e2 => ?_)
  · rcases q with ⟨_, q⟩ | ⟨n, rfl, h0, q⟩
    · exact q H2 (e1.trans e2)
    · exact absurd (of_decide_eq_true hb) (by omega)
  rcases q with ⟨z, q⟩ | ⟨n, rfl, h0, q⟩
  · cases t with
    | int n => exact absurd (z n rfl) (of_decide_eq_false hb)
    | _ => cases hb
  have e12 := e1.trans e2
  refine q_asg (v := .int 0) ev_c fun H3 e3 => ?_
  have e13 := e12.trans e3
  refine q_forR2 (lo := 1) (n := 10) (ea_cons ev_c (ea_cons (ev_op ev_c ev_c rv_addI) ea_nil)) (by decide) (fun i σ' H' => Ex H H' ∧ ∃ u v, σ' = [some (V.ref p), some (.int n), some (.int (stUp (hAt ns) n i)), u, v])
    (fun H4 e4 => ⟨e13.trans e4, none, none, rfl⟩) ?_ ?_
  · rintro i σ' H' hi ⟨eH, u, v, rfl⟩
    have hi9 : i < 9 := by omega
    refine q_asg (v := .int (hAt ns (n - ((i : Int) + 1)))) (ev_is (ev_hAt (evq_of (ev_var rfl) (ex_q eH hq)) (fun H5 e5 => ev_op (ev_op (ev_var rfl) (ev_var rfl) rv_sub) (ev_lenI (evq_of (ev_var rfl) (ex_q (eH.trans e5) hq))) (rv_mod (by omega))) (by omega)) ?_) fun H4 e4 => ?_
    · show V.int (hAt ns (n - (1 + (i : Int)))) = _
      rw [show (1 : Int) + i = i + 1 by omega]
    have hb := hAt_hgt hg (n - ((i : Int) + 1))
    refine s_when (b := decide ((i : Int) + 1 ≤ hAt ns (n - ((i : Int) + 1)))) (et_is (et_test (ev_op (ev_var rfl) (ev_var rfl) rv_ge)) (by rw [show (1 : Int) + i = i + 1 by omega])) (fun hb' H5 e5 => ?_) fun hb' H5 e5 => ?_
    · have hge := of_decide_eq_true hb'
      refine s_augO (x := .int (stUp (hAt ns) n i)) rfl (ev_op ev_c (ev_op (ev_var rfl) (ev_var rfl) rv_sub) (rv_shl ⟨by omega, by omega, by decide⟩)) (fun _ _ => rv_or) fun H6 e6 => ⟨by k_allIn, some (.int (1 + (i : Int))), some (.int (hAt ns (n - ((i : Int) + 1)))), ?_⟩
      rw [stUp_succ, if_pos hge, show (1 : Int) + i = i + 1 by omega]
      rfl
    · refine ⟨by k_allIn, some (.int (1 + (i : Int))), some (.int (hAt ns (n - ((i : Int) + 1)))), ?_⟩
      rw [stUp_succ, if_neg (of_decide_eq_false hb')]
      rfl
  · rintro σ' H' ⟨eH, u, v, rfl⟩
    exact s_ret (v := .int (stF (hAt ns) n)) (ev_var rfl) fun H5 e5 => q H5 (eH.trans e5)
end
end Tr

/-! Own rules: a lambda handed to a def that tries it, where the clauses' outcome hangs on the names; the end with tables of code objects. -/
namespace Tr
open PySem L2 PySem.Spec PyProof.Rows Evl LamX

section
variable {X : Cx} {pins : List (Addr × Obj)} {σ : L2.St} {H : Hp} {s : Shared}
/-- the lambda called by its name, within a try: what goes out goes to the clauses, at the names as they then stand -/
theorem pe_actS {CXg : CXT} {Eg : XK} {Ng : List Str} {qg : Str} {sg : Scope} {g f c' : Addr} {cdg pm ctv : Value} {params : Arguments} {body : Expr} {scope : Scope} {k i : Nat} {a : Str} {pn : List (Addr × Obj)} {xe : Value → Shared → Prop} {W : WX} {t : XK → TE} {p1 p2 : Pos}
    (I : Inv X pins σ H s) (L : LamS X.env.scope scope) (hf : s.heap.get? f = some (PySem.W.kla_obj "<lambda>" (X.env.qual ++ "<lambda>") params body scope (cloFrom X.env.cells scope.names []) pm c' ctv)) (hfn : H f = none) (hfr : f ∉ frs X.stack)
    (hbind : bindArgs (PySem.W.kla_fn "<lambda>" (X.env.qual ++ "<lambda>") params body scope (cloFrom X.env.cells scope.names []) pm (.ref c') ctv) ⟨[], []⟩ = pure [])
    (tk : Takes ((cxOf CXg X.prog X.w X.K X.mg X.base Ng qg sg g cdg X.A X.stack s H Eg).tr pn xe) W) (hr : Room (k + 1) (X.A.deeper (envOfC qg sg s.heap.objs.size g cdg)))
    (hbody : ∀ (A : Around) (outer : List Env) (s : Shared) (H : Hp) (E : XK), Room k (A.deeper (lamEnv X scope s.heap.objs.size f c')) → PE (lamCx X A outer s H E scope f c') body (t E))
    (hN : Ng[i]? = some a) (hv : Vis sg a) (hd : (a == ("__debug__" : Str)) = false := by decide) (hcd : (a == ("__classdict__" : Str)) = false := by decide) :
    PE ((cxOf CXg X.prog X.w X.K X.mg X.base Ng qg sg g cdg X.A X.stack s H Eg).tr pn xe) (.Call (.Name a p1) [] [] p2)
      (fun σZ HZ Q => σZ[i]? = some (some (.ref f)) ∧ HZ c' = some (CodeO c' (X.env.qual ++ "<lambda>")) ∧ t (WE W σZ) σ HZ Q) := by
  refine ⟨fun pinsZ sZ σZ HZ Q IZ h => ?_⟩
  obtain ⟨hs, hc, ht⟩ := h
  refine wpAny_Call_Name_kw (thn ((pe_var (pos := p1) (i := i) hN hv hd hcd).run pinsZ sZ σZ HZ (fun v H1 => v = .ref f ∧ H1 = HZ) IZ ⟨.ref f, hs, rfl, rfl⟩) fun u s1 ⟨v, H1, I1, r1, q1⟩ => ?_)
  obtain ⟨ev, eH⟩ := q1
  subst ev
  rw [eH] at I1
  obtain rfl : u = Value.ref f := r1
  have here := I1.base.keep f _ hf hfn hfr (fun z => nomatch (show f ∈ ([] : List Addr) from z))
  refine PySem.W.callWith_F0 ⟨_, _, _, _, here⟩ ?_
  have un : Un (frs X.stack) [] H HZ s.heap s1.heap := I1.base
  obtain ⟨⟨oc, vs, tk', hoc, hdc, hvc⟩, _, _⟩ := I1.hok c' _ hc
  have run : codeAny (model X.prog X.w) (X.A.deeper (envOfC qg sg s.heap.objs.size g cdg)) (.call (.ref f) ⟨[], []⟩) (CR (L2.CX X.prog X.w) (envOfC qg sg s.heap.objs.size g cdg :: X.stack) X.prog X.w HZ s1 Q (WE W σZ)) s1 := by
    refine PySem.W.kla_callFunE hr.depth here rfl L.co L.gen rfl ⟨c', oc, vs, tk', rfl, hoc, hdc, hvc⟩ ?_
    rw [hbind]
    refine wpAny_pure (wpAny_newFunctionEnv (fun y hy => (L.own y hy).2) (fun y hy => absurd hy (by simp)) (fun h₁ hns hsb => ⟨I1.nolimit.fresh _ hsb, ?_⟩) L.kind)
    have J := lam_start2 (A := X.A.deeper (envOfC qg sg s.heap.objs.size g cdg)) (outer := envOfC qg sg s.heap.objs.size g cdg :: X.stack) (E := WE W σZ) (f := f) (c' := c') (tk := s1.toks + ([] : List (Str × Value)).length) I L I1.env0 hr.hd un hns fun b o e => hsb.extBut b o (Nat.ne_of_lt (Heap.lt_size e)) (Heap.get?_push_of_some _ e)
    refine PySem.W.kla_codeExpr (wpAny_mono ((hbody _ _ s1 HZ _ (hr.deeper _)).run [] _ _ HZ Q J ht) (fun v s' hq => ?_) fun e s' hq => hq)
    obtain ⟨w', H', J', rv, q⟩ := hq
    exact ⟨w', H', J'.os, J'.bare, J'.base, J'.hok, rv, q⟩
  refine wpAny_call (codeAny_mono run fun r s' hq => ?_)
  cases r with
  | error e => exact passAt tk σZ pinsZ HZ s1 e s' I1 hq
  | ok fl =>
    cases fl with
    | ret u => exact I1.after hq
    | next => exact False.elim hq
    | brk => exact False.elim hq
    | cont => exact False.elim hq
end
/-- the def that tries what it got -/
def GivesS (X : Cx) (Ng : List Str) (x : Str) (sg : Scope) (g : Addr) (cdg : Value) (bg : List Stmt) (a : Str) (q : Str) (TT : (XK → Hp → VK → Prop) → Hp → VK → Prop) : Prop :=
  ∀ (f c' : Addr) (s : Shared) (H : Hp) (Q : VK) (tl : XK → Hp → VK → Prop),
    (∀ (W : WX) (pn : List (Addr × Obj)) (xe : Value → Shared → Prop) (p1 p2 : Pos), Takes ((cxOf C8.CX0 X.prog X.w X.K X.mg X.base Ng x sg g cdg X.A X.stack s H C8.E0).tr pn xe) W →
      PE ((cxOf C8.CX0 X.prog X.w X.K X.mg X.base Ng x sg g cdg X.A X.stack s H C8.E0).tr pn xe) (.Call (.Name a p1) [] [] p2) (fun σZ HZ Q => σZ[0]? = some (some (.ref f)) ∧ HZ c' = some (CodeO c' q) ∧ tl (WE W σZ) HZ Q)) →
    H c' = some (CodeO c' q) → TT tl H Q →
    ∃ t, PSs (cxOf C8.CX0 X.prog X.w X.K X.mg X.base Ng x sg g cdg X.A X.stack s H C8.E0) bg t ∧ t { nx := fun _ H' => Q .non H', rt := Q } (L2.start Ng [.ref f]) H
section
variable {X : Cx}
/-- x(lambda: body) -/
theorem pe_lamS {T : List (Addr × Str)} {TT : (XK → Hp → VK → Prop) → Hp → VK → Prop} {x a : Str} {g c P : Addr} {k : Nat} {pg : Arguments} {bg : List Stmt} {sg : Scope} {dV kV doc pm cdv ct oc : Value} {an od : Option Addr} {osl : Array (Option Value)} {Ng : List Str}
    {params : Arguments} {body : Expr} {scope : Scope} {t : XK → TE} {p lpos pos : Pos} (hg : Gl X x) (hm : X.mg x = some (.ref g)) (hk : PySem.W.keepIn X.K (.ref g) = true)
    (lk : X.K.lookup g = some ⟨oc, od, .func (PySem.W.fnOf x x pg bg sg dV kV doc pm an cdv ct), osl⟩) (hcg : PySem.W.codeIn X.K cdv x = true) (hb : L2.Binds X.K (PySem.W.fnOf x x pg bg sg dV kV doc pm an cdv ct) [a] []) (Sg : FnScope Ng [a] sg) (hNg : Ng[0]? = some a) (hva : Vis sg a)
    (hG : GivesS X Ng x sg g cdv bg a (X.env.qual ++ "<lambda>") TT)
    (TB : TabB X.base X.mg c P) (hcode : X.env.code = .ref c) (hmT : (P, X.env.qual ++ "<lambda>") ∈ T) (hu : ∀ p ∈ T, p.1 = P → p.2 = X.env.qual ++ "<lambda>") (hr : Room (k + 2) X.A) (L : LamS X.env.scope scope) (hdef : defaultsOf params X.env = ([], []))
    (hbind : ∀ (q : Str) (cl : List (Str × Addr)) (pm cv ctv : Value), bindArgs (PySem.W.kla_fn "<lambda>" q params body scope cl pm cv ctv) ⟨[], []⟩ = pure [])
    (hbody : ∀ (A : Around) (outer : List Env) (s : Shared) (H : Hp) (E : XK) (f c' : Addr), Room k (A.deeper (lamEnv X scope s.heap.objs.size f c')) → PE (lamCx X A outer s H E scope f c') body (t E))
    (hdb : (x == ("__debug__" : Str)) = false := by decide) (hd : (a == ("__debug__" : Str)) = false := by decide) (hcd : (a == ("__classdict__" : Str)) = false := by decide) :
    PE X (.Call (.Name x p) [.Lambda params body scope lpos] [] pos) (tLam T TT t) := by
  refine ⟨fun pins s σ H Q I h => ?_⟩
  obtain ⟨hT, h⟩ := h
  refine wpAny_Call_Name_kw (ld_glob I hg hm ?_ hdb)
  refine PySem.W.callWith_K (h₀ := X.base) I.ok.mod.kin hk ?_ (by rfl) (by rfl)
  show wpAny _ _ (spliced ((false, eval (.Lambda params body scope lpos) X.env) :: backTo pos (starEach [] X.env))) _ _ s
  refine Calls.spliced_cons (lam_make2 I TB hcode hmT hu hT hdef (L.has I.ok) fun f c' pm' ctv H1 s' I1 eN T1 hf hfn hfr hco => ?_)
  refine Calls.spliced_nil ⟨I1.kIn, ?_⟩
  refine wpAny_call (codeAny_mono (run_ofS (CX := C8.CX0) (E := C8.E0) (Q := Q) (N := Ng) (ps := [a]) (us := [.ref f]) (vs := [.ref f]) lk hcg Sg hr I1.env0 (hb s' [.ref f] I1.kIn rfl) (.cons rfl .nil) rfl fun hr' =>
    hG f c' s' H1 Q (fun E H' Q' => t E σ H' Q') (fun W pn xe p1 p2 tk => pe_actS (i := 0) I1 L hf hfn hfr (hbind _ _ _ _ _) tk hr' (fun A outer s H E hr2 => hbody A outer s H E f c' hr2) hNg hva hd hcd) hco (h H1 eN T1)) fun r s2 hq => ?_)
  cases r with
  | error e => exact (show False from hq).elim
  | ok fl =>
    cases fl with
    | ret u => exact I1.after hq
    | next => exact False.elim hq
    | brk => exact False.elim hq
    | cont => exact False.elim hq
end
theorem units65 {k : Nat} {A : Around} (r : Room k A) : A.units + 65 < cLine := by
  have := r.un
  omega
/-- the promise of a law some of whose defs make lambdas -/
def spT (K : PySem.W.Frag) (T : List (Addr × Str)) : Sp := fun vs H Q _ => ∃ (a : Addr) (ns : List Int), vs = [.ref a] ∧ SqL K H a (ns.map V.int) ∧ ns.length ≤ 63 ∧ Tabs T H ∧ ∀ H', Q (.bl true) H'
/-- the walk of such a law: cs, the makers' code objects and their tables -/
theorem walkT {l : PySem.W.OpenLaw} {k : Nat} {q : Program} {loose : List Str} {XP : (Str → Option Value) → Heap → Prop} {YP : World → Heap → Prop} {d : DefRec} {K : Params → PySem.W.Frag} (hn : l.most = some 63) (hdf : d.params.defaults = []) (hk : k ≤ 40)
    (hY : ∀ (w : World) (h : Heap), YP w h → (K w.params).In h)
    (F : ∀ (w : World) (mg : Str → Option Value) (fa : Addr) (h : Heap), YP w h → (K w.params).In h → h.Ns mainGlobals mg → mg d.name = some (.ref fa) →
      ∃ (fd : FuncData) (cs : List (Addr × Addr)) (T : List (Addr × Str)), (∀ p ∈ cs, h.get? p.2 = some { cls := .none, data := .fields #[] } ∧ (K w.params).lookup p.2 = none ∧ PySem.W.CodeHd h p.1 p.2) ∧ (∀ p ∈ T, ∃ r ∈ cs, r.2 = p.1) ∧
        (∀ (s : Shared) (u : Value), BindsTo s fd ⟨[u], []⟩ [("_law_script", u)]) ∧ ∀ base : Heap, (K w.params).In base → base.Ns mainGlobals mg → (∀ p ∈ cs, TabB base mg p.1 p.2) → FnOk l.prog w (K w.params) mg base (L2.CX l.prog w) k fa fd ["_law_script"] (spT (K w.params) T)) :
    PySem.W.WalkO q loose XP YP l.row.toRowW d [] (fun f vs => PySem.call f vs) := by
  refine Att.attach_callB hn hdf fun w s₀ s₁ mg mb fa o pm cd doc a vs ns G Y ho hd hcd hmg hobj hints hlen hbits hg => ?_
  have X := hY w _ Y
  obtain ⟨fd, cs, T, t, hTc, hb, hF⟩ := F w mg fa _ Y X G.T.g hmg
  exact law_callTs (k := 40) X G.T.g G.T.b G.T.builtins G.T.nolimit hg (fun p hp => (t p hp).1) (fun p hp => (t p hp).2.1) (fun p hp => (t p hp).2.2) G.T.bmain hobj hints (Nat.le_trans hlen (by decide)) ⟨rfl, by decide, by decide⟩ (fun base h1 h2 h3 => (hF base h1 h2 h3).mono hk) hb
    (fun H hH hS => ⟨a, ns, rfl, hS, hlen, fun p hp => by
      obtain ⟨r, hr, e⟩ := hTc p hp
      exact TabS.nil (by rw [← e]; exact hH r hr), fun _ => rfl⟩) fun H e s' h => by
    obtain ⟨_, _, _, _, _, _, _, _, _, _, _, _, z⟩ := h
    exact z.elim
end Tr

/-! States: what they let, what a throw makes of them; comprehensions over range(a, b) and over a list or a tuple. -/
namespace Tr
open PySem L2 PySem.Spec PyProof.Rows Evl

section
variable {K : PySem.W.Frag} {σ : L2.St} {H : Hp} {t : TT} {te tl : TE} {ta : TA}
/-- [e for x in range(a, b) if t] -/
theorem el_lcR2 {j : Nat} {vs : List Nat} {lo n : Int} (f : Nat → Bool) (v : Nat → V) (h : EvA ta σ H [.int lo, .int n]) (hn : 0 ≤ lo ∧ lo ≤ 40000 ∧ 0 ≤ n ∧ n ≤ 40000) (hw : ∀ x, wipe ((wipe σ vs).set j (some x)) vs = wipe σ vs)
    (ht : ∀ (i : Nat) H1, Ex H H1 → lo + (i : Int) < n → EvT t ((wipe σ vs).set j (some (.int (lo + (i : Int))))) H1 (f i)) (he : ∀ (i : Nat) H1, Ex H H1 → lo + (i : Int) < n → f i = true → Ev te ((wipe σ vs).set j (some (.int (lo + (i : Int))))) H1 (v i)) :
    EvL (tLc (iRng2 ta) (gName j) t te vs) σ H (given (n - lo).toNat f v) := fun H0 e Q q => h H0 e _ fun H1 e1 => ⟨lo, n, rfl, ⟨by omega, by omega, by omega, by omega⟩, fun Dl hD =>
  lc_range (lo := lo) (n := (n - lo).toNat) (Cw H1 f v Dl) ⟨hD, Ex.new hD, upd_same⟩ (fun i H' hi p =>
    ⟨hw _, cw_turn p (by omega) (ht i H1 (e.trans e1) (by omega)) (fun hf => he i H1 (e.trans e1) (by omega) hf)⟩) (fun H' p => q Dl H' (fresh_back e1 p.1) (e1.trans p.2.1) p.2.2)⟩
theorem el_lcT {a : Addr} {xs : List V} {j : Nat} {vs : List Nat} (f : Nat → Bool) (v : Nat → V) (h : Ev tl σ H (.ref a)) (hx : SqT K H a xs) (hz : xs.length ≤ 40000) (hw : ∀ x, wipe ((wipe σ vs).set j (some x)) vs = wipe σ vs)
    (ht : ∀ (i : Nat) (x : V) H1, Ex H H1 → xs[i]? = some x → EvT t ((wipe σ vs).set j (some x)) H1 (f i)) (he : ∀ (i : Nat) (x : V) H1, Ex H H1 → xs[i]? = some x → f i = true → Ev te ((wipe σ vs).set j (some x)) H1 (v i)) :
    EvL (tLc (iTup K tl) (gName j) t te vs) σ H (given xs.length f v) := fun H0 e Q q => h H0 e _ fun H1 e1 => ⟨a, rfl, ⟨xs, ex_t (e.trans e1) hx⟩, fun Dl hD =>
  lc_tup (xs := xs) (Cw H1 f v Dl) ⟨hD, Ex.new hD, upd_same⟩ (fun i H' _ p => ex_t ((e.trans e1).trans p.2.1) hx) (fun i x H' hi p => ⟨hw x, cw_turn p (by have := (List.getElem?_eq_some_iff.mp hi).1; omega) (ht i x H1 (e.trans e1) hi) (fun hf => he i x H1 (e.trans e1) hi hf)⟩)
    (fun H' p => q Dl H' (fresh_back e1 p.1) (e1.trans p.2.1) p.2.2)⟩
/-- over a list or a tuple at a name -/
theorem el_lcQ {a : Addr} {xs : List V} {j : Nat} {vs : List Nat} (f : Nat → Bool) (v : Nat → V) (h : Ev tl σ H (.ref a)) (hx : SqQ K H a xs) (hz : xs.length ≤ 40000) (hw : ∀ x, wipe ((wipe σ vs).set j (some x)) vs = wipe σ vs)
    (ht : ∀ (i : Nat) (x : V) H1, Ex H H1 → xs[i]? = some x → EvT t ((wipe σ vs).set j (some x)) H1 (f i)) (he : ∀ (i : Nat) (x : V) H1, Ex H H1 → xs[i]? = some x → f i = true → Ev te ((wipe σ vs).set j (some x)) H1 (v i)) :
    EvL (tLc (iSeq K tl) (gName j) t te vs) σ H (given xs.length f v) := fun H0 e Q q => by
  rcases hx with hx | hx
  · exact .inl (el_lcL f v h hx hz hw ht he H0 e Q q)
  · exact .inr (el_lcT f v h hx hz hw ht he H0 e Q q)
/-- list(range(n)) -/
theorem el_listRg {n : Int} (h : Ev te σ H (.int n)) (hr : RgOk 0 n) : EvL (tLstRg (tRg1 te)) σ H (rgV 0 n) := fun H1 e Q q =>
  h H1 e _ fun H2 e2 => ⟨n, rfl, hr, fun l hl => q l _ (fresh_back e2 hl) (e2.trans (Ex.new hl)) upd_same⟩
end
/-- filtered, then mapped -/
theorem given_ints {n : Nat} {f : Nat → Bool} {g : Nat → Int} : given n f (fun i => V.int (g i)) = (((List.range n).filter f).map g).map V.int := by
  unfold given
  rw [List.map_map]
  rfl
/-! ### bits -/
def bitS (s : Int) (k : Nat) : Bool := decide (s / 2 ^ k % 2 = 1)
def letsF (s : Int) : List Int := if s % 2 = 0 then [0] else ((List.range 9).filter fun i => !bitS s (i + 1)).map fun (i : Nat) => 1 + (i : Int)
def thrownF (s h : Int) : Int := (if 0 < h then Builtin.bitOr s (1 * 2 ^ h.toNat) else s) / 2
/-- a state -/
def OkS (t : V) : Bool := match t with
  | .int s => decide (0 ≤ s) && decide (s ≤ 511)
  | _ => false
theorem okS_is {t : V} (h : OkS t = true) : ∃ s, t = .int s ∧ 0 ≤ s ∧ s ≤ 511 := by
  cases t with
  | int s =>
    have h : (decide (0 ≤ s) && decide (s ≤ 511)) = true := h
    rw [Bool.and_eq_true, decide_eq_true_eq, decide_eq_true_eq] at h
    exact ⟨s, rfl, h⟩
  | _ => cases h
theorem okS_int {s : Int} (h0 : 0 ≤ s) (h1 : s ≤ 511) : OkS (.int s) = true := by
  show (decide (0 ≤ s) && decide (s ≤ 511)) = true
  rw [decide_eq_true h0, decide_eq_true h1]
  rfl
theorem lets_len (s : Int) : (letsF s).length ≤ 9 ∧ (letsF s).length ≤ 100 := by
  unfold letsF
  split
  · exact ⟨by decide, by decide⟩
  · have z := List.length_filter_le (fun i => !bitS s (i + 1)) (List.range 9)
    rw [List.length_range] at z
    rw [List.length_map]
    omega
theorem lets_hgt {s h : Int} (m : h ∈ letsF s) : 0 ≤ h ∧ h ≤ 9 := by
  unfold letsF at m
  split at m
  · rw [List.mem_singleton.mp m]
    decide
  · obtain ⟨i, hi, rfl⟩ := List.mem_map.mp m
    have := List.mem_range.mp (List.mem_filter.mp hi).1
    omega
/-! ### promises -/
def NeedS (K : PySem.W.Frag) (c : Cs) (x : V) (H : Hp) (E : XK) (go : Int → Prop) : Prop := Typed K H x ∧ ((OkS x = false ∧ RetE c.nostate H E) ∨ ∃ s, x = .int s ∧ 0 ≤ s ∧ s ≤ 511 ∧ go s)
def sp_need_state (K : PySem.W.Frag) (c : Cs) : Sp := fun vs H Q E => ∃ x, vs = [x] ∧ NeedS K c x H E fun _ => RetV .non H Q
def sp_lets (K : PySem.W.Frag) (c : Cs) : Sp := fun vs H Q E => ∃ x, vs = [x] ∧ NeedS K c x H E fun s => RetL ((letsF s).map V.int) H Q
def sp_thrown (K : PySem.W.Frag) (c : Cs) : Sp := fun vs H Q E => ∃ x t, vs = [x, t] ∧ Typed K H t ∧ NeedS K c x H E fun s => ((∀ h : Int, t = .int h → ¬ h ∈ letsF s) ∧ RetE c.nothrow H E) ∨ ∃ h : Int, t = .int h ∧ h ∈ letsF s ∧ RetV (.int (thrownF s h)) H Q
/-- need_state: slots thing -/
def t_need_state (K : PySem.W.Frag) (c : Cs) (E : XK) : TS :=
  (tIfS (tOr (tNot (tB (tCall (sp_is_number K c) [] E0 (tCons (tVar 0) tNil)))) (tNot (tTest (tChain xLe xLe (tC (.int 0)) (tVar 0) (tC (.int 511)))))) (fun _ σ H => (fun cls d _ H => E cls d H) (.ref c.nostate) none σ H) tNext)

/-- lets: slots state, height -/
def t_lets (K : PySem.W.Frag) (c : Cs) (E : XK) : TS :=
  (tSeq (tDrop (tCall (sp_need_state K c) [] E (tCons (tVar 0) tNil)))
  (tSeq (tIfS (tTest (tOp (xEq K) (tOp xAnd (tVar 0) (tC (.int 1))) (tC (.int 0)))) (tRet (tLst (tCons (tC (.int 0)) tNil))) tNext)
  (tRet (tLc (iRng2 (tCons (tC (.int 1)) (tCons (tOp (xAdd K) (tC (.int 9)) (tC (.int 1))) tNil))) (gName 1) (tTest (tOp (xEq K) (tOp xAnd (tOp xShr (tVar 0) (tVar 1)) (tC (.int 1))) (tC (.int 0)))) (tVar 1) [1]))))

/-- thrown: slots state, height -/
def t_thrown (K : PySem.W.Frag) (c : Cs) (E : XK) : TS :=
  (tSeq (tIfS (tOr (tNot (tB (tCall (sp_is_number K c) [] E0 (tCons (tVar 1) tNil)))) (tTest (tOp (xNotIn K) (tVar 1) (tCall (sp_lets K c) [] E (tCons (tVar 0) tNil))))) (tSeq (tDrop (tCall (sp_need_state K c) [] E (tCons (tVar 0) tNil)))
  (fun _ σ H => (fun cls d _ H => E cls d H) (.ref c.nothrow) none σ H)) tNext)
  (tSeq (tIfS (tTest (tOp xGt (tVar 1) (tC (.int 0)))) (tAug 0 (tOp xShl (tC (.int 1)) (tVar 1)) xOr) tNext)
  (tRet (tOp xShr (tVar 0) (tC (.int 1))))))

section
variable {K : PySem.W.Frag} {c : Cs} {vs : List V} {H : Hp} {Q : VK} {E : XK}
theorem needs_up {x : V} {H' : Hp} {go go' : Int → Prop} (e : Ex H H') (h : NeedS K c x H E go) (k : ∀ s, 0 ≤ s → s ≤ 511 → go s → go' s) : NeedS K c x H' E go' := by
  obtain ⟨ty, ⟨hb, q⟩ | ⟨s, rfl, h0, h1, q⟩⟩ := h
  · exact ⟨typed_ex e ty, .inl ⟨hb, fun H1 e1 => q H1 (e.trans e1)⟩⟩
  · exact ⟨typed_int, .inr ⟨s, rfl, h0, h1, k s h0 h1 q⟩⟩
theorem pure_need_state (h : sp_need_state K c vs H Q E) : t_need_state K c E { nx := fun _ H' => Q .non H', rt := Q } (start ["thing"] vs) H := by
  obtain ⟨x, rfl, ty, h⟩ := h
  have test : EvT (tOr (tNot (tB (tCall (sp_is_number K c) [] E0 (tCons (tVar 0) tNil)))) (tNot (tTest (tChain xLe xLe (tC (.int 0)) (tVar 0) (tC (.int 511)))))) (start ["thing"] [x]) H (!OkS x) := by
    cases hn : numV x with
    | false => exact et_is (et_or (b := true) (et_not (et_B (ev_is_number (ev_var rfl) ty))) fun z => by rw [hn] at z; cases z) (by rw [hn]; cases x <;> first | rfl | cases hn)
    | true =>
      obtain ⟨n, rfl⟩ := num_is hn
      exact et_or (et_not (et_B (ev_is_number (ev_var rfl) ty))) fun _ => et_not (et_test (ev_chain ev_c (ev_var rfl) ev_c))
  refine s_when test (fun hb H2 e2 => ?_) fun hb H2 e2 => ?_
  · rcases h with ⟨_, q⟩ | ⟨s, rfl, h0, h1, q⟩
    · exact q H2 e2
    · rw [okS_int h0 h1] at hb
      cases hb
  · rcases h with ⟨z, q⟩ | ⟨s, rfl, h0, h1, q⟩
    · rw [z] at hb
      cases hb
    · exact q H2 e2
theorem bit_shift {s : Int} {k : Nat} : decide (Builtin.bitAnd (s / 2 ^ k) 1 = 0) = !bitS s k := by
  rw [PyProof.Rows.bitAnd_m1]
  unfold bitS
  by_cases h : s / 2 ^ k % 2 = 1
  · rw [decide_eq_true h, decide_eq_false (by omega)]
    rfl
  · rw [decide_eq_false h, decide_eq_true (by omega)]
    rfl
theorem pure_lets (h : sp_lets K c vs H Q E) : t_lets K c E { nx := fun _ H' => Q .non H', rt := Q } (start ["state", "height"] vs) H := by
  obtain ⟨x, rfl, h⟩ := h
  refine ⟨x, rfl, x, rfl, ?_⟩
  obtain ⟨ty, ⟨hb, q⟩ | ⟨s, rfl, h0, h1, q⟩⟩ := h
  · exact ⟨ty, .inl ⟨hb, q⟩⟩
  refine ⟨typed_int, .inr ⟨s, rfl, h0, h1, fun H1 e1 => nx_mk ?_⟩⟩
  refine q_when (b := decide (s % 2 = 0)) (et_is (et_test (ev_op (ev_op (ev_var rfl) ev_c rv_and) ev_c rv_eqI)) (by rw [PyProof.Rows.bitAnd_m1])) (fun hb H2 e2 => ?_) fun hb H2 e2 => ?_
  · refine s_retL (xs := [.int 0]) (el_lst (ea_cons ev_c ea_nil) (by show 1 ≤ 100000; decide)) fun p H3 hp e3 h3 => q p H3 (fresh_back (e1.trans e2) hp) ((e1.trans e2).trans e3) ?_
    unfold letsF
    rw [if_pos (of_decide_eq_true hb)]
    exact h3
  · refine s_retL (xs := (letsF s).map V.int) ?_ fun p H3 hp e3 h3 => q p H3 (fresh_back (e1.trans e2) hp) ((e1.trans e2).trans e3) h3
    have z := el_lcR2 (σ := [some (V.int s), none]) (H := H2) (t := tTest (tOp (xEq K) (tOp xAnd (tOp xShr (tVar 0) (tVar 1)) (tC (.int 1))) (tC (.int 0)))) (te := tVar 1) (j := 1) (vs := [1]) (lo := 1) (n := 10) (ta := tCons (tC (.int 1)) (tCons (tOp (xAdd K) (tC (.int 9)) (tC (.int 1))) tNil))
      (fun i => !bitS s (i + 1)) (fun i => .int (1 + (i : Int))) (ea_cons ev_c (ea_cons (ev_op ev_c ev_c rv_addI) ea_nil)) (by decide) (fun _ => rfl)
      (fun i H3 e3 hi => et_is (et_test (ev_op (ev_op (ev_op (ev_var rfl) (ev_var rfl) (rv_shr (by omega))) ev_c rv_and) ev_c rv_eqI)) (by rw [show ((1 : Int) + (i : Int)).toNat = i + 1 by omega, bit_shift])) (fun i H3 e3 hi _ => ev_var rfl)
    rw [given_ints (g := fun i => 1 + (i : Int))] at z
    unfold letsF
    rw [if_neg (of_decide_eq_false hb)]
    exact z
theorem eqv_int {i j : Int} : eqV (.int i) (.int j) = decide (i = j) := by
  show (i == j) = _
  rw [Bool.eq_iff_iff, beq_iff_eq, decide_eq_true_eq]
theorem in_ints {h : Int} : ∀ {ns : List Int}, inV (.int h) (ns.map V.int) = decide (h ∈ ns)
  | [] => rfl
  | n :: ns => by
    show (eqV (.int n) (.int h) || inV (.int h) (ns.map V.int)) = _
    rw [in_ints (ns := ns), eqv_int, Bool.eq_iff_iff]
    simp only [Bool.or_eq_true, decide_eq_true_eq, List.mem_cons]
    constructor
    · rintro (z | z)
      · exact .inl z.symm
      · exact .inr z
    · rintro (z | z)
      · exact .inl z.symm
      · exact .inr z
theorem flat_all {ns : List Int} : (ns.map V.int).all flatV = true := List.all_eq_true.mpr fun x hx => by
  obtain ⟨i, _, rfl⟩ := List.mem_map.mp hx
  rfl
theorem or_no {σ : L2.St} {t u : TT} {Q : Bool → Hp → Prop} (h1 : EvT t σ H false) (k : ∀ H1, Ex H H1 → u σ H1 Q) : tOr t u σ H Q := h1 H (Ex.refl _) _ fun H1 e1 => k H1 e1
theorem pure_thrown (h : sp_thrown K c vs H Q E) : t_thrown K c E { nx := fun _ H' => Q .non H', rt := Q } (start ["state", "height"] vs) H := by
  obtain ⟨x, t, rfl, ty, tx, h⟩ := h
  -- no number
  cases hn : numV t with
  | false =>
    have test : EvT (tOr (tNot (tB (tCall (sp_is_number K c) [] E0 (tCons (tVar 1) tNil)))) (tTest (tOp (xNotIn K) (tVar 1) (tCall (sp_lets K c) [] E (tCons (tVar 0) tNil))))) (start ["state", "height"] [x, t]) H true :=
      et_is (et_or (b := true) (et_not (et_B (ev_is_number (ev_var rfl) ty))) fun z => by rw [hn] at z; cases z) (by rw [hn]; rfl)
    refine q_when test (fun _ H2 e2 => ?_) fun hb => nomatch hb
    refine ⟨x, rfl, x, rfl, typed_ex e2 tx, ?_⟩
    rcases h with ⟨hb, q⟩ | ⟨s, rfl, h0, h1, q⟩
    · exact .inl ⟨hb, fun H3 e3 => q H3 (e2.trans e3)⟩
    · refine .inr ⟨s, rfl, h0, h1, fun H3 e3 => nx_mk ?_⟩
      rcases q with ⟨_, q⟩ | ⟨n, rfl, _, _⟩
      · exact q H3 (e2.trans e3)
      · cases hn
  | true =>
    obtain ⟨n, rfl⟩ := num_is hn
    rcases h with ⟨hb, q⟩ | ⟨s, rfl, h0, h1, q⟩
    · refine or_no (et_not (et_B (ev_is_number (ev_var rfl) ty))) fun H1 e1 => ?_
      exact ⟨.int n, rfl, x, rfl, x, rfl, typed_ex e1 tx, .inl ⟨hb, fun H3 e3 => q H3 (e1.trans e3)⟩⟩
    have hl := (lets_len s).2
    have test : EvT (tOr (tNot (tB (tCall (sp_is_number K c) [] E0 (tCons (tVar 1) tNil)))) (tTest (tOp (xNotIn K) (tVar 1) (tCall (sp_lets K c) [] E (tCons (tVar 0) tNil))))) (start ["state", "height"] [.int s, .int n]) H (!decide (n ∈ letsF s)) :=
      et_or (a := false) (et_not (et_B (ev_is_number (ev_var rfl) ty))) fun _ => et_test (ev_opL (xs := (letsF s).map V.int) (ev_var rfl) (el_call (ea_cons (ev_var rfl) ea_nil) fun H1 e1 Q' q' _ => ⟨.int s, rfl, typed_int, .inr ⟨s, rfl, h0, h1, q'⟩⟩) fun p H1 hp e1 H2 e2 Q' q' =>
        ⟨p, _, rfl, .inl (SqL.of (e2 _ _ hp)), rfl, flat_all, by rw [in_ints]; exact q' H2 (Ex.refl _)⟩)
    refine q_when test (fun hb H2 e2 => ?_) fun hb H2 e2 => ?_
    · refine ⟨.int s, rfl, .int s, rfl, typed_int, .inr ⟨s, rfl, h0, h1, fun H3 e3 => nx_mk ?_⟩⟩
      rcases q with ⟨_, q⟩ | ⟨n', e, hm, _⟩
      · exact q H3 (e2.trans e3)
      · cases e
        rw [decide_eq_true hm] at hb
        cases hb
    rcases q with ⟨hno, _⟩ | ⟨n', e, hm, q⟩
    · rw [decide_eq_false (hno n rfl)] at hb
      cases hb
    cases e
    have hh := lets_hgt hm
    refine q_when (b := decide (0 < n)) (et_is (et_test (ev_op (ev_var rfl) ev_c rv_gt)) rfl) (fun hb H3 e3 => ?_) fun hb H3 e3 => ?_
    · refine s_augO (x := .int s) rfl (ev_op ev_c (ev_var rfl) (rv_shl ⟨hh.1, by omega, by decide⟩)) (fun _ _ => rv_or) fun H4 e4 => nx_mk ?_
      refine s_ret (v := .int (thrownF s n)) (ev_is (ev_op (ev_var rfl) ev_c (rv_shr (by decide))) ?_) fun H5 e5 => q H5 (by k_allIn)
      unfold thrownF
      rw [if_pos (of_decide_eq_true hb)]
      rfl
    · refine s_ret (v := .int (thrownF s n)) (ev_is (ev_op (ev_var rfl) ev_c (rv_shr (by decide))) ?_) fun H5 e5 => q H5 (by k_allIn)
      unfold thrownF
      rw [if_neg (of_decide_eq_false hb)]
      rfl
theorem set_same {σ : L2.St} {j : Nat} {v : V} (h : σ[j]? = some (some v)) : σ.set j (some v) = σ := by
  apply List.ext_getElem?
  intro k
  by_cases e : j = k
  · subst e
    rw [h, List.getElem?_set_self (List.getElem?_eq_some_iff.mp h).1]
  · rw [List.getElem?_set_ne e]
/-- if t: x = e -/
theorem q_condA {σ : L2.St} {D : Ends} {tt : TT} {te : TE} {tz : TS} {b : Bool} {j : Nat} {P : HP} (h : EvT tt σ H b) (hy : b = true → ∀ H1, Ex H H1 → EvP P te σ H1) (h0 : b = false → ∀ H1, Ex H H1 → ∃ v, σ[j]? = some (some v) ∧ P v H1)
    (k : ∀ v H1, Ex H H1 → P v H1 → tz D (σ.set j (some v)) H1) : tSeq (tIfS tt (tAsg te (gName j)) tNext) tz D σ H :=
  q_when h (fun hb H1 e1 => hy hb H1 e1 H1 (Ex.refl _) _ fun v H2 e2 pv => k v H2 (e1.trans e2) pv) fun hb H1 e1 => by
    obtain ⟨v, hv, pv⟩ := h0 hb H1 e1
    have z := k v H1 e1 pv
    rw [set_same hv] at z
    exact z
end
end Tr

/-! How throws that go on come down: each turn one; states and their bits; a throw leads from state to state; the drawn rows go on. -/
namespace Tr
open PySem L2 PySem.Spec PyProof.Rows Evl

/-! ### who lands at a turn -/
theorem pigeon : ∀ (n : Nat) (f : Nat → Nat), (∀ i, i < n → f i < n) → (∀ i j, i < n → j < n → f i = f j → i = j) → ∀ y, y < n → ∃ x, x < n ∧ f x = y
  | 0, _, _, _, y, hy => absurd hy (Nat.not_lt_zero _)
  | n + 1, f, hf, hi, y, hy => by
    by_cases hx : ∃ x, x < n + 1 ∧ f x = n
    · obtain ⟨x, hxn, hfx⟩ := hx
      by_cases hyn : y = n
      · exact ⟨x, hxn, by rw [hfx, hyn]⟩
      -- swap n and x
      let g : Nat → Nat := fun i => if i = x then f n else f i
      have hg : ∀ i, i < n → g i < n := fun i hin => by
        show (if i = x then f n else f i) < n
        split
        · rename_i e
          have h1 := hf n (by omega)
          have h2 : f n ≠ n := fun z => by
            have := hi n x (by omega) hxn (by rw [z, hfx])
            omega
          omega
        · rename_i e
          have h1 := hf i (by omega)
          have h2 : f i ≠ n := fun z => e (hi i x (by omega) hxn (by rw [z, hfx]))
          omega
      have hgi : ∀ i j, i < n → j < n → g i = g j → i = j := fun i j h1 h2 e => by
        have e : (if i = x then f n else f i) = (if j = x then f n else f j) := e
        by_cases a : i = x
        · by_cases b : j = x
          · rw [a, b]
          · rw [if_pos a, if_neg b] at e
            have := hi n j (by omega) (by omega) e
            omega
        · by_cases b : j = x
          · rw [if_neg a, if_pos b] at e
            have := hi i n (by omega) (by omega) e
            omega
          · rw [if_neg a, if_neg b] at e
            exact hi i j (by omega) (by omega) e
      obtain ⟨z, hz, ez⟩ := pigeon n g hg hgi y (by omega)
      have ez : (if z = x then f n else f z) = y := ez
      by_cases a : z = x
      · rw [if_pos a] at ez
        exact ⟨n, by omega, ez⟩
      · rw [if_neg a] at ez
        exact ⟨z, by omega, ez⟩
    · have hf' : ∀ i, i < n → f i < n := fun i hin => by
        have h1 := hf i (by omega)
        have h2 : f i ≠ n := fun z => hx ⟨i, by omega, z⟩
        omega
      have hfn : f n < n := by
        have h1 := hf n (by omega)
        have h2 : f n ≠ n := fun z => hx ⟨n, by omega, z⟩
        omega
      obtain ⟨z, hz, ez⟩ := pigeon n f hf' (fun i j h1 h2 e => hi i j (by omega) (by omega) e) (f n) hfn
      have := hi z n (by omega) (by omega) ez
      omega
section
variable {ns : List Int}
/-- each turn has its one that comes down there -/
theorem lands (hn : 0 < ns.length) (hg : Goes ns) (t : Int) : ∃ s : Int, s + hAt ns s = t := by
  have hp : ∀ i, i < ns.length → 0 ≤ place ns i ∧ place ns i < ns.length := fun i _ => ⟨Int.emod_nonneg _ (by omega), Int.emod_lt_of_pos _ (by omega)⟩
  have b0 : 0 ≤ t % (ns.length : Int) := Int.emod_nonneg _ (by omega)
  have b1 : t % (ns.length : Int) < ns.length := Int.emod_lt_of_pos _ (by omega)
  obtain ⟨x, hx, e⟩ := pigeon ns.length (fun i => (place ns i).toNat) (fun i hi => by have := hp i hi; omega) (fun i j hi hj e => hg i j hi hj (by
    have h1 := hp i hi
    have h2 := hp j hj
    have e : (place ns i).toNat = (place ns j).toNat := e
    omega)) (t % (ns.length : Int)).toNat (by omega)
  have e : (place ns x).toNat = (t % (ns.length : Int)).toNat := e
  have e2 : ((x : Int) + hAt ns x) % ns.length = t % ns.length := by
    have h1 := hp x hx
    have h2 : place ns x = ((x : Int) + hAt ns x) % ns.length := by rw [hAt_nat hx]; rfl
    rw [← h2]
    omega
  obtain ⟨k, hk⟩ := Int.dvd_of_emod_eq_zero (Int.emod_eq_emod_iff_emod_sub_eq_zero.mp e2.symm)
  refine ⟨(x : Int) + k * ns.length, ?_⟩
  rw [hAt_add, Int.mul_comm k]
  omega
end
/-! ### bits of a state -/
theorem or_add {x k : Nat} (h : x.testBit k = false) : x ||| 2 ^ k = x + 2 ^ k := by
  have e : x &&& 2 ^ k = 0 := by
    apply Nat.eq_of_testBit_eq
    intro i
    rw [Nat.testBit_and, Nat.testBit_two_pow, Nat.zero_testBit]
    by_cases hk : k = i
    · subst hk
      rw [h]
      rfl
    · rw [decide_eq_false hk, Bool.and_false]
  have z := nat_or_add_and x (2 ^ k)
  omega
/-- as a natural number -/
def stN (h : Int → Int) (t : Int) : Nat → Nat
  | 0 => 0
  | n + 1 => if h (t - ((n : Int) + 1)) ≥ (n : Int) + 1 then stN h t n ||| 2 ^ (h (t - ((n : Int) + 1)) - ((n : Int) + 1)).toNat else stN h t n
theorem stN_up (h : Int → Int) (t : Int) : ∀ n, stUp h t n = ((stN h t n : Nat) : Int)
  | 0 => rfl
  | n + 1 => by
    rw [stUp_succ, stN, stN_up h t n]
    split
    · rw [Bits.bitOr_pp (by omega) (by rw [Int.one_mul]; exact Int.le_of_lt (Int.pow_pos (by decide))), Int.one_mul]
      congr 2
    · rfl
def stS (h : Int → Int) (t : Int) : Nat := stN h t 9
theorem stF_nat (h : Int → Int) (t : Int) : stF h t = ((stS h t : Nat) : Int) := stN_up h t 9
theorem stN_bit (h : Int → Int) (t : Int) (k : Nat) : ∀ n, (stN h t n).testBit k = true ↔ ∃ b : Nat, b < n ∧ h (t - ((b : Int) + 1)) = (b : Int) + 1 + k
  | 0 => by
    show Nat.testBit 0 k = true ↔ _
    rw [Nat.zero_testBit]
    constructor
    · intro z
      cases z
    · rintro ⟨b, hb, _⟩
      omega
  | n + 1 => by
    have ih := stN_bit h t k n
    rw [stN]
    split
    · rename_i hc
      rw [Nat.testBit_or, Nat.testBit_two_pow, Bool.or_eq_true, ih, decide_eq_true_eq]
      constructor
      · rintro (⟨b, hb, e⟩ | e)
        · exact ⟨b, by omega, e⟩
        · exact ⟨n, by omega, by omega⟩
      · rintro ⟨b, hb, e⟩
        by_cases hbn : b = n
        · subst hbn
          exact .inr (by omega)
        · exact .inl ⟨b, by omega, e⟩
    · rename_i hc
      rw [ih]
      constructor
      · rintro ⟨b, hb, e⟩
        exact ⟨b, by omega, e⟩
      · rintro ⟨b, hb, e⟩
        by_cases hbn : b = n
        · subst hbn
          omega
        · exact ⟨b, by omega, e⟩
/-- the bits of a state: what comes down in so many turns -/
theorem st_bit {h : Int → Int} (hh : ∀ t, 0 ≤ h t ∧ h t ≤ 9) (t : Int) (k : Nat) : (stS h t).testBit k = true ↔ ∃ s : Int, s < t ∧ s + h s = t + k := by
  show (stN h t 9).testBit k = true ↔ _
  rw [stN_bit]
  constructor
  · rintro ⟨b, hb, e⟩
    exact ⟨t - ((b : Int) + 1), by omega, by omega⟩
  · rintro ⟨s, hs, e⟩
    have h1 := hh s
    refine ⟨(t - s - 1).toNat, by omega, ?_⟩
    rw [show t - ((((t - s - 1).toNat : Nat) : Int) + 1) = s by omega]
    omega
theorem st_lt {h : Int → Int} (hh : ∀ t, 0 ≤ h t ∧ h t ≤ 9) (t : Int) : stS h t < 512 := by
  refine Nat.lt_pow_two_of_testBit (n := 9) _ fun k hk => ?_
  cases hb : (stS h t).testBit k with
  | false => rfl
  | true =>
    obtain ⟨s, hs, e⟩ := (st_bit hh t k).mp hb
    have := hh s
    omega
theorem bitS_nat {s k : Nat} : bitS (s : Int) k = s.testBit k := by
  unfold bitS
  rw [Nat.testBit_eq_decide_div_mod_eq, Bool.eq_iff_iff, decide_eq_true_eq, decide_eq_true_eq]
  rw [show ((s : Int) / 2 ^ k % 2) = ((s / 2 ^ k % 2 : Nat) : Int) by rw [Int.natCast_emod, Int.natCast_ediv, Int.natCast_pow]; rfl]
  omega
theorem thrown_nat {s : Nat} {h : Int} (h0 : 0 ≤ h) : thrownF (s : Int) h = (((if 0 < h then s ||| 2 ^ h.toNat else s) / 2 : Nat) : Int) := by
  unfold thrownF
  split
  · rw [Bits.bitOr_pp (by omega) (by rw [Int.one_mul]; exact Int.le_of_lt (Int.pow_pos (by decide))), Int.one_mul, Int.toNat_natCast,
      show ((2 : Int) ^ h.toNat).toNat = 2 ^ h.toNat by rw [show ((2 : Int) ^ h.toNat) = ((2 ^ h.toNat : Nat) : Int) by rw [Int.natCast_pow]; rfl, Int.toNat_natCast], Int.natCast_ediv]
    rfl
  · rw [Int.natCast_ediv]
    rfl
section
variable {h : Int → Int}
/-- a throw leads on -/
theorem st_step (hh : ∀ t, 0 ≤ h t ∧ h t ≤ 9) (t : Int) : thrownF (stF h t) (h t) = stF h (t + 1) := by
  have h1 := hh t
  rw [stF_nat, stF_nat, thrown_nat h1.1]
  congr 1
  apply Nat.eq_of_testBit_eq
  intro k
  rw [Nat.testBit_div_two, Bool.eq_iff_iff, st_bit hh]
  have key : (if 0 < h t then stS h t ||| 2 ^ (h t).toNat else stS h t).testBit (k + 1) = true ↔ ((stS h t).testBit (k + 1) = true ∨ h t = (k : Int) + 1) := by
    split
    · rw [Nat.testBit_or, Nat.testBit_two_pow, Bool.or_eq_true, decide_eq_true_eq]
      constructor
      · rintro (z | z)
        · exact .inl z
        · exact .inr (by omega)
      · rintro (z | z)
        · exact .inl z
        · exact .inr (by omega)
    · constructor
      · exact fun z => .inl z
      · rintro (z | z)
        · exact z
        · omega
  rw [key, st_bit hh]
  constructor
  · rintro (⟨s, hs, e⟩ | e)
    · exact ⟨s, by omega, by omega⟩
    · exact ⟨t, by omega, by omega⟩
  · rintro ⟨s, hs, e⟩
    by_cases z : s = t
    · subst z
      exact .inr (by omega)
    · exact .inl ⟨s, by omega, by omega⟩
/-- .. and is let -/
theorem st_let (hh : ∀ t, 0 ≤ h t ∧ h t ≤ 9) (hg : GoesZ h) (hs : ∀ t, ∃ s, s + h s = t) (t : Int) : h t ∈ letsF (stF h t) := by
  have h1 := hh t
  have b0 := st_bit hh t 0
  rw [Nat.testBit_zero] at b0
  rw [stF_nat]
  unfold letsF
  split
  · rename_i hev
    rw [List.mem_singleton]
    obtain ⟨s, e⟩ := hs t
    have h2 := hh s
    by_cases z : s = t
    · subst z
      omega
    · exact absurd (b0.mpr ⟨s, by omega, by omega⟩) (by rw [decide_eq_true_eq]; omega)
  · rename_i hod
    obtain ⟨s, hst, e⟩ := b0.mp (by rw [decide_eq_true_eq]; omega)
    have hne : h t ≠ 0 := fun z => by
      have := hg s t (by omega)
      omega
    refine List.mem_map.mpr ⟨(h t - 1).toNat, List.mem_filter.mpr ⟨List.mem_range.mpr (by omega), ?_⟩, by omega⟩
    rw [bitS_nat, Bool.not_eq_true']
    cases hb : (stS h t).testBit ((h t - 1).toNat + 1) with
    | false => rfl
    | true =>
      obtain ⟨u, hu, eu⟩ := (st_bit hh t _).mp hb
      have := hg u t (by omega)
      omega
/-- a sum instead -/
def dueUp (h : Int → Int) (t : Int) : Nat → Int
  | 0 => 0
  | n + 1 => if h (t - ((n : Int) + 1)) - ((n : Int) + 1) ≥ 0 then dueUp h t n + 1 * 2 ^ (h (t - ((n : Int) + 1)) - ((n : Int) + 1)).toNat else dueUp h t n
theorem due_st (hg : GoesZ h) (t : Int) : ∀ n, dueUp h t n = ((stN h t n : Nat) : Int)
  | 0 => rfl
  | n + 1 => by
    rw [dueUp, stN, due_st hg t n]
    by_cases hc : h (t - ((n : Int) + 1)) ≥ (n : Int) + 1
    · rw [if_pos (by omega), if_pos hc, or_add, Int.natCast_add, Int.natCast_pow, Int.one_mul]
      · rfl
      · cases hb : (stN h t n).testBit (h (t - ((n : Int) + 1)) - ((n : Int) + 1)).toNat with
        | false => rfl
        | true =>
          obtain ⟨b, hb, e⟩ := (stN_bit h t _ n).mp hb
          have := hg (t - ((b : Int) + 1)) (t - ((n : Int) + 1)) (by omega)
          omega
    · rw [if_neg (by omega), if_neg hc]
theorem due_more (hh : ∀ t, 0 ≤ h t ∧ h t ≤ 9) (t : Int) : ∀ n, dueUp h t (9 + n) = dueUp h t 9
  | 0 => rfl
  | n + 1 => by
    have := hh (t - (((9 + n : Nat) : Int) + 1))
    rw [show 9 + (n + 1) = (9 + n) + 1 from rfl, dueUp, if_neg (by omega), due_more hh t n]
theorem due_is (hh : ∀ t, 0 ≤ h t ∧ h t ≤ 9) (hg : GoesZ h) (t : Int) : dueUp h t 30 = stF h t := by
  rw [show (30 : Nat) = 9 + 21 from rfl, due_more hh, due_st hg, stF_nat]
  rfl
end
/-! ### rows turned, rows repeated -/
def turnF (ns : List Int) (n : Int) : List Int := (List.range ns.length).map fun (t : Nat) => hAt ns ((t : Int) + n)
def repF (ns : List Int) (m : Nat) : List Int := (List.range (m * ns.length)).map fun (t : Nat) => hAt ns t
section
variable {ns : List Int} {n : Int} {m : Nat}
theorem turn_len : (turnF ns n).length = ns.length := by unfold turnF; rw [List.length_map, List.length_range]
theorem rep_len : (repF ns m).length = m * ns.length := by unfold repF; rw [List.length_map, List.length_range]
theorem getD_mapR {f : Nat → Int} {k t : Nat} (h : t < k) : ((List.range k).map f).getD t 0 = f t := by
  rw [List.getD_eq_getElem?_getD, List.getElem?_map, List.getElem?_range h]
  rfl
theorem turn_hAt (hn : 0 < ns.length) (t : Int) : hAt (turnF ns n) t = hAt ns (t + n) := by
  have b0 : 0 ≤ t % (ns.length : Int) := Int.emod_nonneg _ (by omega)
  have b1 : t % (ns.length : Int) < ns.length := Int.emod_lt_of_pos _ (by omega)
  show (turnF ns n).getD (t % ((turnF ns n).length : Int)).toNat 0 = _
  rw [turn_len]
  show ((List.range ns.length).map _).getD _ 0 = _
  rw [getD_mapR (by omega), Int.toNat_of_nonneg b0]
  exact hAt_of (by rw [Int.emod_add_emod])
theorem rep_hAt (hn : 0 < ns.length) (hm : 0 < m) (t : Int) : hAt (repF ns m) t = hAt ns t := by
  have hp : 0 < m * ns.length := Nat.mul_pos hm hn
  have b0 : 0 ≤ t % ((m * ns.length : Nat) : Int) := Int.emod_nonneg _ (by omega)
  have b1 : t % ((m * ns.length : Nat) : Int) < ((m * ns.length : Nat) : Int) := Int.emod_lt_of_pos _ (by omega)
  show (repF ns m).getD (t % ((repF ns m).length : Int)).toNat 0 = _
  rw [rep_len]
  show ((List.range (m * ns.length)).map _).getD _ 0 = _
  rw [getD_mapR (by omega), Int.toNat_of_nonneg b0]
  refine hAt_of ?_
  rw [Int.natCast_mul]
  exact Int.emod_emod_of_dvd _ (Int.dvd_mul_left _ _)
theorem goes_shift {h h' : Int → Int} {k : Int} (e : ∀ t, h' t = h (t + k)) : GoesZ h' ↔ GoesZ h := by
  constructor
  · intro g s t z
    have w := g (s - k) (t - k) (by rw [e, e, show s - k + k = s by omega, show t - k + k = t by omega]; omega)
    omega
  · intro g s t z
    rw [e, e] at z
    have w := g (s + k) (t + k) (by omega)
    omega
theorem isNone_goes {as bs : List Int} (h : Goes as ↔ Goes bs) : (clashF as).isNone = (clashF bs).isNone := by
  rw [Bool.eq_iff_iff, Option.isNone_iff_eq_none, Option.isNone_iff_eq_none, goes_iff, goes_iff]
  exact h
theorem turn_goes (hn : 0 < ns.length) : (clashF (turnF ns n)).isNone = (clashF ns).isNone :=
  isNone_goes (by rw [goes_z hn, goes_z (by rw [turn_len]; exact hn)]; exact goes_shift (k := n) fun t => turn_hAt hn t)
theorem rep_goes (hn : 0 < ns.length) (hm : 0 < m) : (clashF (repF ns m)).isNone = (clashF ns).isNone :=
  isNone_goes (by rw [goes_z hn, goes_z (by rw [rep_len]; exact Nat.mul_pos hm hn)]; exact goes_shift (k := 0) fun t => by rw [rep_hAt hn hm, Int.add_zero])
/-- the cut and joined row -/
theorem turn_cut (hn : 0 < ns.length) : ns.drop (n % (ns.length : Int)).toNat ++ ns.take (n % (ns.length : Int)).toNat = turnF ns n := by
  have b0 : 0 ≤ n % (ns.length : Int) := Int.emod_nonneg _ (by omega)
  have b1 : n % (ns.length : Int) < ns.length := Int.emod_lt_of_pos _ (by omega)
  have hk : ∀ t : Nat, hAt ns ((t : Int) + n) = hAt ns ((t : Int) + n % (ns.length : Int)) := fun t => hAt_of (by rw [Int.add_emod_emod])
  generalize hK : (n % (ns.length : Int)).toNat = k
  have hk' : n % (ns.length : Int) = (k : Int) := by omega
  refine list_ext0 (by rw [turn_len, List.length_append, List.length_drop, List.length_take]; omega) fun t ht => ?_
  rw [List.length_append, List.length_drop, List.length_take] at ht
  have htn : t < ns.length := by omega
  show _ = ((List.range ns.length).map _).getD _ 0
  rw [getD_mapR htn, hk, hk']
  rw [List.getD_eq_getElem?_getD]
  by_cases h : t + k < ns.length
  · rw [List.getElem?_append_left (by rw [List.length_drop]; omega), List.getElem?_drop, ← List.getD_eq_getElem?_getD]
    rw [show ((t : Int) + (k : Int)) = ((t + k : Nat) : Int) by omega, hAt_nat h, Nat.add_comm]
  · rw [List.getElem?_append_right (by rw [List.length_drop]; omega), List.length_drop, List.getElem?_take_of_lt (by omega), ← List.getD_eq_getElem?_getD]
    have e : hAt ns ((t : Int) + (k : Int)) = hAt ns ((t + k - ns.length : Nat) : Int) := hAt_of (by
      rw [show ((t : Int) + (k : Int)) = ((t + k - ns.length : Nat) : Int) + 1 * (ns.length : Int) by omega, Int.add_mul_emod_self_right])
    rw [e, hAt_nat (by omega)]
    congr 1
    omega
theorem map_self (hn : 0 < ns.length) {k : Nat} : (List.range ns.length).map (fun (t : Nat) => hAt ns ((k * ns.length + t : Nat) : Int)) = ns := by
  refine list_ext0 (by rw [List.length_map, List.length_range]) fun t ht => ?_
  rw [List.length_map, List.length_range] at ht
  rw [getD_mapR ht, show ((k * ns.length + t : Nat) : Int) = (t : Int) + (k : Int) * ns.length by rw [Int.natCast_add, Int.natCast_mul]; omega, hAt_add, hAt_nat ht]
theorem rep_cut (hn : 0 < ns.length) : ∀ m, (List.replicate m ns).flatten = repF ns m
  | 0 => by
    unfold repF
    rw [Nat.zero_mul]
    rfl
  | m + 1 => by
    rw [List.replicate_succ', List.flatten_append, rep_cut hn m]
    unfold repF
    rw [Nat.succ_mul, List.range_add, List.map_append, List.map_map]
    congr 1
    rw [List.flatten_cons, List.flatten_nil, List.append_nil]
    exact (map_self hn (k := m)).symm
theorem turn_sum (hn : 0 < ns.length) : (turnF ns n).sum = ns.sum := by
  rw [← turn_cut hn, List.sum_append]
  have z := List.take_append_drop (n % (ns.length : Int)).toNat ns
  have z2 := congrArg List.sum z
  rw [List.sum_append] at z2
  omega
theorem rep_sum (hn : 0 < ns.length) : ∀ m : Nat, (repF ns m).sum = m * ns.sum
  | 0 => by
    unfold repF
    rw [Nat.zero_mul]
    show (0 : Int) = (0 : Nat) * _
    omega
  | m + 1 => by
    rw [← rep_cut hn, List.replicate_succ', List.flatten_append, List.sum_append, rep_cut hn, rep_sum hn m, List.flatten_cons, List.flatten_nil, List.append_nil, Int.natCast_succ, Int.add_mul]
    omega
theorem good_turn (hg : Good ns) : Good (turnF ns n) := ⟨by rw [turn_len]; exact hg.1, by rw [turn_len]; exact hg.2.1, fun x hx => by
  obtain ⟨t, _, rfl⟩ := List.mem_map.mp hx
  exact hAt_hgt hg _⟩
theorem good_rep (hg : Good ns) (hm : 0 < m) (h40 : m * ns.length ≤ 40) : Good (repF ns m) := ⟨by rw [rep_len]; exact Nat.mul_pos hm hg.1, by rw [rep_len]; exact h40, fun x hx => by
  obtain ⟨t, _, rfl⟩ := List.mem_map.mp hx
  exact hAt_hgt hg _⟩
end
/-! ### the drawn rows go on -/
section
variable {ns : List Int}
theorem goes_exch {i j : Int} (h0 : 0 ≤ i) (h1 : i < j) (h2 : j < ns.length) (hg : Goes ns) : Goes (exch ns i j) := by
  unfold exch
  simp only
  split
  · have z := xch_goes1 (ns := ns) (i := i.toNat) (j := j.toNat) (by omega) (by omega) hg
    unfold xchF at z
    rw [Int.toNat_of_nonneg h0, Int.toNat_of_nonneg (by omega)] at z
    have e1 : gi ns j = ns.getD j.toNat 0 := rfl
    have e2 : gi ns i - j + i = ns.getD i.toNat 0 - (j - i) := by show ns.getD i.toNat 0 - j + i = _; omega
    rw [e1, e2]
    exact z
  · exact hg
theorem goes_exchD {d : Int} (hd : 0 ≤ d) (hn : 2 ≤ ns.length) (hg : Goes ns) : Goes (exchD ns d) := by
  unfold exchD
  simp only
  have a0 : 0 ≤ d % (ns.length : Int) := Int.emod_nonneg _ (by omega)
  have a1 : d % (ns.length : Int) < ns.length := Int.emod_lt_of_pos _ (by omega)
  have c0 : 0 ≤ d / 64 % ((ns.length : Int) - 1) := Int.emod_nonneg _ (by omega)
  have c1 : d / 64 % ((ns.length : Int) - 1) < (ns.length : Int) - 1 := Int.emod_lt_of_pos _ (by omega)
  generalize d % (ns.length : Int) = a at a0 a1
  generalize d / 64 % ((ns.length : Int) - 1) = c at c0 c1
  have b0 : 0 ≤ (a + 1 + c) % (ns.length : Int) := Int.emod_nonneg _ (by omega)
  have b1 : (a + 1 + c) % (ns.length : Int) < ns.length := Int.emod_lt_of_pos _ (by omega)
  have hab : (a + 1 + c) % (ns.length : Int) ≠ a := fun z => by
    by_cases h : a + 1 + c < ns.length
    · rw [Int.emod_eq_of_lt (by omega) h] at z
      omega
    · rw [show a + 1 + c = (a + 1 + c - ns.length) + 1 * (ns.length : Int) by omega, Int.add_mul_emod_self_right, Int.emod_eq_of_lt (by omega) (by omega)] at z
      omega
  generalize (a + 1 + c) % (ns.length : Int) = b at b0 b1 hab
  split
  · exact goes_exch b0 (by omega) a1 hg
  · exact goes_exch a0 (by omega) b1 hg
theorem goes_mixedUp {cell : Int} (hn : 2 ≤ ns.length) (hg : Goes ns) : ∀ n, Goes (mixedUp ns cell n)
  | 0 => hg
  | n + 1 => by
    rw [mixedUp_succ]
    exact goes_exchD (mixed_lo _ _) (by rw [mixedUp_len]; exact hn) (goes_mixedUp hn hg n)
theorem goes_turn {b : Nat} (hb : b < ns.length) (hg : Goes ns) : Goes (ns.drop b ++ ns.take b) := by
  have hn : 0 < ns.length := by omega
  have z := turn_cut (ns := ns) (n := (b : Int)) hn
  rw [Int.emod_eq_of_lt (by omega) (by omega), Int.toNat_natCast] at z
  rw [z, ← goes_iff, ← Option.isNone_iff_eq_none, turn_goes hn, Option.isNone_iff_eq_none, goes_iff]
  exact hg
theorem goes_one (hl : ns.length = 1) : Goes ns := fun i j hi hj _ => by omega
theorem goes_step {cell k : Int} (hn : 1 ≤ ns.length) (hg : Goes ns) : Goes (goStep cell ns k) := by
  unfold goStep
  simp only
  have b0 : 0 ≤ mixed cell (60 + k) % (ns.length : Int) := Int.emod_nonneg _ (by omega)
  have b1 : mixed cell (60 + k) % (ns.length : Int) < ns.length := Int.emod_lt_of_pos _ (by omega)
  refine goes_turn (by rw [mixedUp_len]; omega) ?_
  by_cases h2 : 2 ≤ ns.length
  · exact goes_mixedUp h2 hg _
  · exact goes_one (by rw [mixedUp_len]; omega)
theorem goes_flat {n : Nat} {x : Int} : Goes (List.replicate n x) := fun i j hi hj e => by
  rw [List.length_replicate] at hi hj
  unfold place at e
  rw [List.length_replicate, List.getD_eq_getElem?_getD, List.getD_eq_getElem?_getD, List.getElem?_replicate, List.getElem?_replicate, if_pos hi, if_pos hj] at e
  obtain ⟨k, hk⟩ := Int.dvd_of_emod_eq_zero (Int.emod_eq_emod_iff_emod_sub_eq_zero.mp e)
  have hk : (i : Int) - j = n * k := by
    have : (i : Int) + (some x).getD 0 - (j + (some x).getD 0) = n * k := hk
    omega
  have k0 : k = 0 := by
    rcases Int.lt_trichotomy k 0 with h | h | h
    · have : (n : Int) * k ≤ n * (-1) := Int.mul_le_mul_of_nonneg_left (by omega) (by omega)
      omega
    · exact h
    · have : (n : Int) * 1 ≤ n * k := Int.mul_le_mul_of_nonneg_left (by omega) (by omega)
      omega
  rw [k0] at hk
  omega
theorem goes_going {a m : Int} (h1 : 1 ≤ m) : Goes (going a m) := by
  unfold going
  exact goes_step (by rw [goStep_len, List.length_replicate]; omega) (goes_step (by rw [List.length_replicate]; omega) goes_flat)
theorem going_clash {a m : Int} (h1 : 1 ≤ m) : clashF (going a m) = none := goes_iff.mpr (goes_going h1)
end
end Tr

/-! Counts: how many are up, by the bits of a state, is the average height; clashing pairs; dicts that lose a key. -/
namespace Tr
open PySem L2 PySem.Spec PyProof.Rows Evl

/-! ### sums -/
def sumN (f : Nat → Int) : Nat → Int
  | 0 => 0
  | n + 1 => sumN f n + f n
theorem sumN_congr {f g : Nat → Int} : ∀ {n : Nat}, (∀ i, i < n → f i = g i) → sumN f n = sumN g n
  | 0, _ => rfl
  | n + 1, h => by rw [sumN, sumN, sumN_congr fun i hi => h i (by omega), h n (by omega)]
theorem sumN_add {f g : Nat → Int} : ∀ n : Nat, sumN (fun i => f i + g i) n = sumN f n + sumN g n
  | 0 => rfl
  | n + 1 => by
    rw [sumN, sumN, sumN, sumN_add n]
    omega
theorem sumN_zero : ∀ n : Nat, sumN (fun _ => 0) n = 0
  | 0 => rfl
  | n + 1 => by rw [sumN, sumN_zero n]; rfl
theorem sumN_const {k : Int} : ∀ n : Nat, sumN (fun _ => k) n = n * k
  | 0 => by rw [sumN]; omega
  | n + 1 => by
    rw [sumN, sumN_const n, Int.natCast_succ, Int.add_mul]
    omega
theorem sumN_swap (g : Nat → Nat → Int) (m : Nat) : ∀ n : Nat, sumN (fun t => sumN (fun b => g t b) m) n = sumN (fun b => sumN (fun t => g t b) n) m
  | 0 => (sumN_zero m).symm
  | n + 1 => by
    rw [sumN, sumN_swap g m n, ← sumN_add]
    rfl
theorem sumN_back (f : Int → Int) : ∀ n : Nat, sumN (fun t => f ((t : Int) - 1)) n + f ((n : Int) - 1) = sumN (fun t => f (t : Int)) n + f (-1) := fun n => by
  induction n with
  | zero => rfl
  | succ n ih =>
    rw [sumN, sumN, show ((n + 1 : Nat) : Int) - 1 = n by omega]
    omega
theorem sumN_round {f : Int → Int} {n : Nat} (hp : ∀ t, f (t + n) = f t) (k : Nat) : sumN (fun t => f ((t : Int) - k)) n = sumN (fun t => f (t : Int)) n := by
  induction k with
  | zero => exact sumN_congr fun i _ => by rw [show ((i : Int) - ((0 : Nat) : Int)) = i by omega]
  | succ k ih =>
    rw [← ih]
    have z := sumN_back (fun t => f (t - k)) n
    have e : f ((n : Int) - 1 - k) = f (-1 - k) := by
      rw [← hp (-1 - k)]
      congr 1
      omega
    rw [e] at z
    have z2 : sumN (fun t => f ((t : Int) - 1 - k)) n = sumN (fun t => f ((t : Int) - k)) n := by omega
    rw [← z2]
    exact sumN_congr fun i _ => by rw [show (i : Int) - ((k + 1 : Nat) : Int) = (i : Int) - 1 - k by omega]
theorem sum_range (f : Nat → Int) : ∀ n : Nat, ((List.range n).map f).sum = sumN f n
  | 0 => rfl
  | n + 1 => by
    rw [List.range_succ, List.map_append, List.sum_append, sum_range f n, sumN]
    show _ + (f n + 0) = _
    omega
theorem map_getD0 : ∀ (ns : List Int), (List.range ns.length).map (fun i => ns.getD i 0) = ns
  | [] => rfl
  | n :: ns => by
    rw [List.length_cons, List.range_succ_eq_map, List.map_cons, List.map_map]
    exact congrArg (n :: ·) (map_getD0 ns)
theorem sum_hAt (ns : List Int) : ns.sum = sumN (fun t => hAt ns (t : Int)) ns.length := by
  have z := congrArg List.sum (map_getD0 ns)
  rw [sum_range] at z
  rw [← z]
  exact sumN_congr fun i hi => (hAt_nat hi).symm
/-! ### how many bits -/
def pc (x n : Nat) : Nat := ((List.range n).filter x.testBit).length
theorem pc_succ (x n : Nat) : pc x (n + 1) = pc x n + (if x.testBit n = true then 1 else 0) := by
  unfold pc
  rw [List.range_succ, List.filter_append, List.length_append]
  congr 1
  rw [List.filter_cons]
  split <;> rfl
theorem pc_zero : ∀ n, pc 0 n = 0
  | 0 => rfl
  | n + 1 => by rw [pc_succ, pc_zero n, Nat.zero_testBit]; rfl
theorem pc_or {x k : Nat} (h : x.testBit k = false) : ∀ n : Nat, pc (x ||| 2 ^ k) n = pc x n + (if k < n then 1 else 0)
  | 0 => by
    rw [if_neg (by omega)]
    rfl
  | n + 1 => by
    rw [pc_succ, pc_succ, pc_or h n, Nat.testBit_or, Nat.testBit_two_pow]
    by_cases hk : k = n
    · subst hk
      simp [h]
    · rw [decide_eq_false hk, Bool.or_false]
      by_cases hlt : k < n
      · rw [if_pos hlt, if_pos (show k < n + 1 by omega)]
        omega
      · rw [if_neg hlt, if_neg (show ¬ k < n + 1 by omega)]
        omega
theorem pc_half (x : Nat) : ∀ n : Nat, pc x (n + 1) = (if x.testBit 0 = true then 1 else 0) + pc (x / 2) n
  | 0 => by
    rw [pc_succ]
    show 0 + _ = _ + 0
    omega
  | n + 1 => by
    rw [pc_succ, pc_half x n, pc_succ (x / 2) n, Nat.testBit_div_two]
    omega
section
variable {h : Int → Int}
/-- how many are up ahead of turn t -/
def upAt (h : Int → Int) (t : Int) : Nat := pc (stS h t) 9
theorem upAt_next (hh : ∀ t, 0 ≤ h t ∧ h t ≤ 9) (hg : GoesZ h) (hs : ∀ t, ∃ s, s + h s = t) (t : Int) : upAt h (t + 1) = upAt h t := by
  have h1 := hh t
  have step := st_step hh t
  rw [stF_nat, stF_nat, thrown_nat h1.1] at step
  have step : (if 0 < h t then stS h t ||| 2 ^ (h t).toNat else stS h t) / 2 = stS h (t + 1) := by omega
  have b0 := st_bit hh t 0
  have zero : h t = 0 ↔ ¬ (stS h t).testBit 0 = true := by
    rw [b0]
    constructor
    · rintro e ⟨s, hst, e2⟩
      have := hg s t (by omega)
      omega
    · intro e
      obtain ⟨s, e2⟩ := hs t
      have h2 := hh s
      by_cases z : s = t
      · subst z
        omega
      · exact absurd ⟨s, by omega, by omega⟩ e
  have hx : (stS h t).testBit 9 = false := by
    cases hb : (stS h t).testBit 9 with
    | false => rfl
    | true =>
      obtain ⟨s, hst, e2⟩ := (st_bit hh t 9).mp hb
      have := hh s
      omega
  have p10 : pc (stS h t) 10 = upAt h t := by
    rw [show (10 : Nat) = 9 + 1 from rfl, pc_succ, hx]
    rfl
  show pc (stS h (t + 1)) 9 = _
  rw [← step]
  by_cases hp : 0 < h t
  · rw [if_pos hp]
    have hfree : (stS h t).testBit (h t).toNat = false := by
      cases hb : (stS h t).testBit (h t).toNat with
      | false => rfl
      | true =>
        obtain ⟨s, hst, e2⟩ := (st_bit hh t _).mp hb
        have := hg s t (by omega)
        omega
    have a1 := pc_or hfree 10
    rw [if_pos (by omega), p10, pc_half] at a1
    have a2 : (stS h t ||| 2 ^ (h t).toNat).testBit 0 = true := by
      rw [Nat.testBit_or]
      cases hb : (stS h t).testBit 0 with
      | true => rfl
      | false =>
        have := zero.mpr (by rw [hb]; decide)
        omega
    rw [if_pos a2] at a1
    omega
  · rw [if_neg hp]
    have e0 : h t = 0 := by omega
    have a2 : ¬ (stS h t).testBit 0 = true := zero.mp e0
    rw [pc_half, if_neg a2] at p10
    omega
theorem upAt_zero (hh : ∀ t, 0 ≤ h t ∧ h t ≤ 9) (hg : GoesZ h) (hs : ∀ t, ∃ s, s + h s = t) : ∀ t : Nat, upAt h t = upAt h 0
  | 0 => rfl
  | t + 1 => by
    rw [← upAt_zero hh hg hs t]
    exact upAt_next hh hg hs t
theorem upAt_sum (hh : ∀ t, 0 ≤ h t ∧ h t ≤ 9) (hg : GoesZ h) (t : Int) : ∀ n, n ≤ 9 → ((pc (stN h t n) 9 : Nat) : Int) = sumN (fun b => if h (t - ((b : Int) + 1)) ≥ (b : Int) + 1 then 1 else 0) n
  | 0, _ => by
    show ((pc 0 9 : Nat) : Int) = 0
    rw [pc_zero]
    rfl
  | n + 1, hn => by
    have ih := upAt_sum hh hg t n (by omega)
    rw [stN, sumN]
    have h1 := hh (t - ((n : Int) + 1))
    by_cases hc : h (t - ((n : Int) + 1)) ≥ (n : Int) + 1
    · rw [if_pos hc, if_pos hc, pc_or, if_pos (by omega), ← ih]
      · omega
      · cases hb : (stN h t n).testBit (h (t - ((n : Int) + 1)) - ((n : Int) + 1)).toNat with
        | false => rfl
        | true =>
          obtain ⟨b, hb, e⟩ := (stN_bit h t _ n).mp hb
          have := hg (t - ((b : Int) + 1)) (t - ((n : Int) + 1)) (by omega)
          omega
    · rw [if_neg hc, if_neg hc, ih]
      omega
theorem sum_steps {x : Int} (h0 : 0 ≤ x) : ∀ m : Nat, sumN (fun b => if x ≥ (b : Int) + 1 then 1 else 0) m = if x ≤ m then x else m
  | 0 => by
    rw [sumN]
    split <;> omega
  | m + 1 => by
    rw [sumN, sum_steps h0 m]
    split <;> split <;> split <;> omega
end
/-- as many are up as the average height -/
theorem up_mean {ns : List Int} (hg : Good ns) (hc : clashF ns = none) : ((upAt (hAt ns) 0 : Nat) : Int) * ns.length = ns.sum := by
  have hn : 0 < ns.length := hg.1
  have hh := hAt_hgt hg
  have hz := (goes_z hn).mp (goes_iff.mp hc)
  have hs := lands hn (goes_iff.mp hc)
  have e1 : sumN (fun t => ((upAt (hAt ns) (t : Int) : Nat) : Int)) ns.length = ns.length * ((upAt (hAt ns) 0 : Nat) : Int) := by
    rw [← sumN_const]
    exact sumN_congr fun i _ => by rw [upAt_zero hh hz hs]
  have e2 : sumN (fun t => ((upAt (hAt ns) (t : Int) : Nat) : Int)) ns.length = ns.sum := by
    rw [sum_hAt]
    have a : ∀ t : Nat, ((upAt (hAt ns) (t : Int) : Nat) : Int) = sumN (fun b => if hAt ns ((t : Int) - ((b : Int) + 1)) ≥ (b : Int) + 1 then 1 else 0) 9 := fun t => upAt_sum hh hz t 9 (by omega)
    rw [sumN_congr fun i _ => a i, sumN_swap (fun t b => if hAt ns ((t : Int) - ((b : Int) + 1)) ≥ (b : Int) + 1 then 1 else 0)]
    have b : ∀ b : Nat, sumN (fun t => if hAt ns ((t : Int) - ((b : Int) + 1)) ≥ (b : Int) + 1 then 1 else 0) ns.length = sumN (fun t => if hAt ns (t : Int) ≥ (b : Int) + 1 then 1 else 0) ns.length := fun b => by
      have z := sumN_round (f := fun t => if hAt ns t ≥ (b : Int) + 1 then 1 else 0) (n := ns.length) (fun t => by
        show (if hAt ns (t + ns.length) ≥ (b : Int) + 1 then (1 : Int) else 0) = _
        rw [show t + (ns.length : Int) = t + 1 * (ns.length : Int) by omega, hAt_add]) (b + 1)
      rw [show (((b + 1 : Nat) : Int)) = (b : Int) + 1 by omega] at z
      exact z
    rw [sumN_congr fun i _ => b i, ← sumN_swap (fun t b => if hAt ns (t : Int) ≥ (b : Int) + 1 then 1 else 0)]
    refine sumN_congr fun i _ => ?_
    have h1 := hh (i : Int)
    rw [sum_steps h1.1, if_pos (by omega)]
  rw [← e2, e1, Int.mul_comm]
theorem up_things {ns : List Int} (hg : Good ns) (hc : clashF ns = none) : ns.sum / (ns.length : Int) = ((upAt (hAt ns) 0 : Nat) : Int) := by
  have hn := hg.1
  rw [← up_mean hg hc]
  exact Int.mul_ediv_cancel _ (by omega)
/-! ### who clashes -/
theorem clash_get {ns : List Int} {i j : Nat} (h : clashF ns = some (i, j)) : i < j ∧ j < ns.length ∧ place ns i = place ns j := by
  unfold clashF at h
  obtain ⟨k, hk, e⟩ := List.exists_of_findSome?_eq_some h
  cases hf : (List.range k).find? (fun i => decide (place ns i = place ns k)) with
  | none =>
    rw [hf] at e
    cases e
  | some t =>
    rw [hf] at e
    cases e
    have h1 := List.mem_of_find?_eq_some hf
    have h2 := List.find?_some hf
    exact ⟨List.mem_range.mp h1, List.mem_range.mp hk, of_decide_eq_true h2⟩
theorem place_same {ns : List Int} {i j : Nat} : ((i : Int) + ns.getD i 0 - j - ns.getD j 0) % (ns.length : Int) = 0 ↔ place ns i = place ns j := by
  unfold place
  rw [Int.emod_eq_emod_iff_emod_sub_eq_zero, show (i : Int) + ns.getD i 0 - j - ns.getD j 0 = (i : Int) + ns.getD i 0 - (j + ns.getD j 0) by omega]
theorem flat_dPair (o : Option (Nat × Nat)) : Flat 1 (dPair o) := by
  cases o with
  | none => exact flat_non.mono (by decide)
  | some p =>
    refine flat_tuple fun d hd => ?_
    rcases List.mem_cons.mp hd with rfl | hd
    · exact flat_int
    · rw [List.mem_singleton.mp hd]
      exact flat_int
/-! ### dicts -/
theorem valV_drop {kvs : List (Key × V)} {k j : Key} : valV (dropK kvs k) j = if j = k then none else valV kvs j := by
  induction kvs with
  | nil => split <;> rfl
  | cons p r ih =>
    by_cases e : p.1 = k
    · rw [dropK_pos e, ih]
      by_cases hj : j = k
      · rw [if_pos hj, if_pos hj]
      · rw [if_neg hj, if_neg hj, valV_neg (fun z => hj (z.symm.trans e))]
    · rw [dropK_neg e]
      by_cases hp : p.1 = j
      · rw [valV_pos hp, if_neg (fun z => e (hp.trans z)), valV_pos hp]
      · rw [valV_neg hp, ih, valV_neg hp]
section
variable {K : PySem.W.Frag} {c : Cs} {vs : List V} {H : Hp} {Q : VK} {E : XK} {σ : L2.St} {D : Ends} {tz : TS}
/-- H2 is H, but for a -/
def But (a : Addr) (H H2 : Hp) : Prop := ∀ b o, b ≠ a → H b = some o → H2 b = some o
/-- d.pop(k, None), what comes of it not wanted -/
theorem q_pop {td ty : TE} {a : Addr} {kvs : List (Key × V)} {k : Key} (hd : Ev td σ H (.ref a)) (hk : Ev ty σ H (kV k)) (ha : H a = some (.dK kvs)) (q : ∀ H2, H2 a = some (.dK (dropK kvs k)) → But a H H2 → tz D σ H2) :
    tSeq (tDrop (tDPop2 td ty (tC .non))) tz D σ H :=
  hd H (Ex.refl _) _ fun H1 e1 => ⟨a, rfl, .inl ⟨kvs, .inl (e1 _ _ ha)⟩, hk H1 e1 _ fun H2 e2 => ev_c H2 (Ex.refl _) _ fun H3 e3 => ⟨kvs, k, e3 _ _ (e2 _ _ (e1 _ _ ha)), rfl,
    fun _ _ => q _ upd_same fun b o hb e => (upd_ne hb).trans (e3 _ _ (e2 _ _ (e1 _ _ e))),
    fun hn => q _ (by rw [dropK_no (valV_not hn)]; exact e3 _ _ (e2 _ _ (e1 _ _ ha))) fun b o hb e => e3 _ _ (e2 _ _ (e1 _ _ e))⟩⟩
/-- if t: d[k] = e -/
theorem q_condPut {td ty te : TE} {tt : TT} {a : Addr} {kvs : List (Key × V)} {k : Key} {v : V} {b : Bool} (h : EvT tt σ H b) (hv : ∀ H1, Ex H H1 → Ev te σ H1 v) (hd : ∀ H1, Ex H H1 → Ev td σ H1 (.ref a)) (hk : ∀ H1, Ex H H1 → Ev ty σ H1 (kV k)) (ha : H a = some (.dK kvs)) (hz : kvs.length < 100000)
    (q : ∀ H2, H2 a = some (.dK (if b = true then putK kvs k v else kvs)) → But a H H2 → tz D σ H2) : tSeq (tIfS tt (sDPut td ty te) tNext) tz D σ H :=
  q_when h (fun hb H1 e1 => s_dput (hv H1 e1) (hd H1 e1) (hk H1 e1) (e1 _ _ ha) hz fun H2 e2 => q _ (by rw [if_pos hb]; exact upd_same) fun b o hb e => (upd_ne hb).trans (e2 _ _ (e1 _ _ e)))
    fun hb H1 e1 => q _ (by rw [if_neg (by rw [hb]; decide)]; exact e1 _ _ ha) fun b o _ e => e1 _ _ e
theorem But.ex {a : Addr} {H0 H H2 : Hp} (b : But a H H2) (e : Ex H0 H) (h : H0 a = none) : Ex H0 H2 := fun x o hx => b x o (ne_of_none hx h) (e x o hx)
/-- two names for the parts of a tuple at a name -/
theorem q_unpT {i j : Nat} {te : TE} {a : Addr} {x y : V} (h : Ev te σ H (.ref a)) (ht : SqT K H a [x, y]) (k : ∀ H1, Ex H H1 → tz D ((σ.set i (some x)).set j (some y)) H1) : tSeq (tAsg te (gTup K 2 (gCons (gName i) (gCons (gName j) gNil)))) tz D σ H :=
  h H (Ex.refl _) _ fun H1 e1 => ⟨a, _, rfl, ex_t e1 ht, rfl, _, _, rfl, _, _, rfl, rfl, k H1 e1⟩
end
end Tr

/-! Own rule: several clauses, some of which name their error; an else behind them. -/
namespace Tr
open PySem L2 PySem.Spec PyProof.Rows

abbrev Cl := Value × Option Nat × (Addr → Value → Option Addr → TS)
/-- D, the name of slot i gone -/
def gone (i : Nat) (D : Ends) : Ends := { nx := fun σ' H' => D.nx (σ'.set i none) H', rt := D.rt, bk := fun σ' H' => D.bk (σ'.set i none) H', ct := fun σ' H' => D.ct (σ'.set i none) H' }
def inCl (o : Option Nat) (ts : Addr → Value → Option Addr → TS) (a : Addr) (cls : Value) (d : Option Addr) (D : Ends) (σ : L2.St) (H : Hp) : Prop := match o with
  | none => ts a cls d D σ H
  | some i => ts a cls d (gone i D) (σ.set i (some (.ref a))) H
/-- what the clauses wish of an error of the body, one behind the other -/
def wMix (K : PySem.W.Frag) (Wout : WX) (D : Ends) : List Cl → WX
  | [] => Wout
  | (c, o, ts) :: r => fun cls d σ H => ∃ b, PySem.W.exmOne K cls c = some b ∧ (b = true → ∀ a, H a = none → inCl o ts a cls d D σ H) ∧ (b = false → wMix K Wout D r cls d σ H)
def SuOk (X : Cx) (ts : Addr → Value → Option Addr → TS) (ss : List Stmt) : Prop := ∀ (a : Addr) (oe : Obj) (cls : Value) (d : Option Addr) (pn : List (Addr × Obj)), Zc cls d oe → (∃ vs, oe.data = .fields vs) → PSs (X.suite a ((a, oe) :: pn)) ss (ts a cls d)
inductive Mix (X : Cx) : List ExceptHandler → List Cl → Prop
  | nil : Mix X [] []
  | plain {x : Str} {c : Value} {ts : Addr → Value → Option Addr → TS} {b₀ : Stmt} {suite : List Stmt} {np pos' : Pos} {hds : List ExceptHandler} {l : List Cl} (hc : Names X x c) (su : SuOk X ts (b₀ :: suite)) (r : Mix X hds l) :
      Mix X (.ExceptHandler (some (.Name x np)) none (b₀ :: suite) pos' :: hds) ((c, none, ts) :: l)
  | as {x n : Str} {c : Value} {i : Nat} {ts : Addr → Value → Option Addr → TS} {b₀ : Stmt} {suite : List Stmt} {np pos' : Pos} {hds : List ExceptHandler} {l : List Cl} (hi : X.N[i]? = some n) (hln : X.env.kindOf n = some .local) (hc : Names X x c) (su : SuOk X ts (b₀ :: suite)) (r : Mix X hds l) :
      Mix X (.ExceptHandler (some (.Name x np)) (some n) (b₀ :: suite) pos' :: hds) ((c, some i, ts) :: l)
section
variable {X : Cx} {body orelse : List Stmt} {h₀ : ExceptHandler} {hds : List ExceptHandler} {l : List Cl} {pos : Pos} {tb : WX → TS} {Wout : WX} {u : TS}
theorem ps_try_mix (ho : PSs X orelse u) (hs : X.stack = X.env :: X.outer) (hf : X.env.frame = some X.env.locals) (hN : X.N.Nodup) (tk : Takes X Wout)
    (hb : ∀ (W : WX) (pn : List (Addr × Obj)) (xe : Value → Shared → Prop), Takes (X.tr pn xe) W → PassesOwn (model X.prog X.w) X.A X.env xe → PSs (X.tr pn xe) body (tb W))
    (hh : Mix X (h₀ :: hds) l) : PS X (.Try body (h₀ :: hds) orelse [] pos) (fun D σ H => tb (wMix X.K Wout D l) { D with nx := u D } σ H) := by
  refine ⟨fun pins s σ H D I h => ?_⟩
  have ok := I.ok
  have frA : X.A.frames = some (X.env :: X.outer) := ok.frames.trans (congrArg some hs)
  refine wpAny_Try_except (wpAny_mono ((hb (wMix X.K Wout D l) (X.pn ++ pins) (fun e y1 => wpAny (model X.prog X.w) X.A (noteFrame e X.env) (fun _ y2 => wpAny (model X.prog X.w) X.A (setFlight e none)
    (fun _ y3 => wpAny (model X.prog X.w) X.A (handleBy e X.env (h₀ :: hds)) (SP X pins D) X.xe y3) X.xe y2) X.xe y1) (fun v y xx => ?_) PassesOwn.looking).run [] s σ H { D with nx := u D } (I.toTry _) h)
    (fun f s1 hsp => ?_) (fun e s1 he => he))
  · obtain ⟨a, B, sI, pins1, σ1, H1, cls, d, rfl, J0, nb, up, sky, na, os, ag, w⟩ := xx
    have J : Inv X pins σ1 H1 sI := J0.ofTry ok
    rw [hs] at sky
    refine Sky.land Zc.steady frA hf sky fun h3 fl3 up3 => ?_
    have J3 : Inv X pins σ1 H1 { y with heap := h3 } := J.landed nb fl3.1 (up.trans up3) os ag
    obtain ⟨o3, v3, g3, z3, d3⟩ := fl3.there
    have aFr : a ∉ frs (X.env :: X.outer) := fun hm => by
      obtain ⟨_, o', e', hnf⟩ := fl3.2.2.1.mem hm
      rw [g3] at e'
      cases e'
      exact hnf _ d3
    have aL : a ≠ X.env.locals := fun w => aFr (List.mem_filterMap.mpr ⟨X.env, List.mem_cons_self, hf.trans (congrArg some w.symm)⟩)
    have aF : a ∉ X.fs := fun hm => by
      obtain ⟨e, he, q⟩ := List.mem_filterMap.mp hm
      exact aFr (List.mem_filterMap.mpr ⟨e, List.mem_cons_of_mem _ he, q⟩)
    have S3 := J3.suite g3 d3 na aL aF
    -- a clause's name, read
    have nameIs : ∀ {x : Str} {np : Pos} {c : Value} {Q : Value → Shared → Prop} {E : Value → Shared → Prop}, Names X x c → Q c { y with heap := h3 } → wpAny (model X.prog X.w) (X.A.mark (some (.ref a))) (eval (.Name x np) X.env) Q E { y with heap := h3 } := fun {x np c Q E} hc q => by
      rcases hc with ⟨hg, hdb, hm | ⟨hm, hv, hnn⟩⟩
      · exact ld_glob (X := X.suite a ((a, o3) :: (X.pn ++ pins))) S3 hg hm q hdb
      · exact ld_blt (X := X.suite a ((a, o3) :: (X.pn ++ pins))) S3 hg hm hv q hnn hdb
    have LM : ∀ {c : Value} {b : Bool}, PySem.W.exmOne X.K cls c = some b → _ := fun {c b} hb1 => PySem.W.exm_one (M := model X.prog X.w) (J3.kIn) (fun A Q E s k q => wpAny_typeOf_ref (k _ _ g3) (by rw [z3.1]; exact q)) hb1
    have go : ∀ {hds1 : List ExceptHandler} {l1 : List Cl}, Mix X hds1 l1 → wMix X.K Wout D l1 cls d σ1 H1 → wpAny (model X.prog X.w) X.A (handleBy (.ref a) X.env hds1) (SP X pins D) X.xe { y with heap := h3 } := by
      intro hds1 l1 hk
      induction hk with
      | nil =>
        intro w
        refine wpAny_handleBy_nil ?_
        obtain ⟨_, _, _, oe, vs, T, _, _, he, hz, hd, h1, _⟩ := id fl3
        unfold PySem.passOn
        refine wpAny_bind (wpAny_field he hd h1 ?_)
        rw [if_neg (show ¬ ((Value.ref T == Value.none) = true) from by simp)]
        have away : wpAny (model X.prog X.w) X.A (setFlight (.ref a) X.env.frame) (fun _ y4 => wpAny (model X.prog X.w) X.A (throw (.ref a) : Sem Flow) (SP X pins D) X.xe y4) X.xe { y with heap := h3 } := by
          rw [hf]
          exact HandSPX.setFlight_upZ fl3 fun h4 hh4 up4 => wpAny_throw (tk _ _ ⟨a, B, sI, pins, σ1, H1, cls, d, rfl, J, nb, (up.trans up3).trans up4, .inr (.inr (by rw [hs]; exact hh4)), na, os, ag, w⟩)
        first
          | exact wpAny_bind (wpAny_pure (wpAny_bind away))
          | exact wpAny_bind away
      | @plain x c ts b₀ suite np pos' hds2 l2 hc su r ih =>
        rintro ⟨b, hb1, hyes, hno⟩
        refine wpAny_handleBy_cons (codeAny_handlers_test (nameIs hc ((LM hb1).here ?_))) (by intro q; cases q)
        cases b with
        | false => exact ih (hno rfl)
        | true =>
          refine codeAny_handlers_suite (HandSPX.lands_againZ fl3 fun h4 fl4 up4 => ?_)
          obtain ⟨o4, v4, g4, z4, d4⟩ := fl4.there
          have S4 := (J.landed (s' := { y with heap := h4 }) nb fl4.1 ((up.trans up3).trans up4) os ag).suite g4 d4 na aL aF
          refine wpAny_mono ((su a o4 cls d (X.pn ++ pins) z4 ⟨_, d4⟩).run [] _ _ H1 _ S4 (hyes rfl a na)) (fun f s6 hsp => ?_) (fun _ _ z => False.elim z)
          cases f with
          | ret u =>
            obtain ⟨v6, σ6, H6, S6, r6, q6⟩ := hsp
            exact ⟨_, _, _, S6.unsuite ok, r6, q6⟩
          | _ =>
            obtain ⟨σ6, H6, S6, q6⟩ := hsp
            exact ⟨_, _, S6.unsuite ok, q6⟩
      | @as x n c i ts b₀ suite np pos' hds2 l2 hi hln hc su r ih =>
        rintro ⟨b, hb1, hyes, hno⟩
        refine wpAny_handleBy_cons (codeAny_handlers_test (nameIs hc ((LM hb1).here ?_))) (by intro q; cases q)
        cases b with
        | false => exact ih (hno rfl)
        | true =>
          refine codeAny_handlers_suite_as (HandSPX.lands_againZ fl3 fun h4 fl4 up4 => ?_)
          obtain ⟨o4, v4, g4, z4, d4⟩ := fl4.there
          have S4 := (J.landed (s' := { y with heap := h4 }) nb fl4.1 ((up.trans up3).trans up4) os ag).suite g4 d4 na aL aF
          refine store_ok (X := X.suite a ((a, o4) :: (X.pn ++ pins))) (v := .ref a) S4 hN hi (.inl hln) rfl (fun s5 S5 => ?_) (.inr hln)
          refine wpAny_mono ((su a o4 cls d (X.pn ++ pins) z4 ⟨_, d4⟩).run [] s5 _ H1 _ S5 (hyes rfl a na)) (fun f s6 hsp => ?_) (fun _ _ z => False.elim z)
          cases f with
          | ret u =>
            obtain ⟨v6, σ6, H6, S6, r6, q6⟩ := hsp
            exact gone_ok (S6.unsuite ok) hN hi hln fun s7 J7 => ⟨_, _, _, J7, r6, q6⟩
          | _ =>
            obtain ⟨σ6, H6, S6, q6⟩ := hsp
            exact gone_ok (S6.unsuite ok) hN hi hln fun s7 J7 => ⟨_, _, J7, q6⟩
    exact go hh w
  · cases f with
    | next =>
      obtain ⟨σ', H', J', q⟩ := hsp
      exact ho.run pins s1 σ' H' D (J'.ofTry ok) q
    | ret u =>
      obtain ⟨v, σ', H', J', r, q⟩ := hsp
      exact ⟨v, σ', H', J'.ofTry ok, r, q⟩
    | _ =>
      obtain ⟨σ', H', J', q⟩ := hsp
      exact ⟨σ', H', J'.ofTry ok, q⟩
theorem ps_try_mix0 (hs : X.stack = X.env :: X.outer) (hf : X.env.frame = some X.env.locals) (hN : X.N.Nodup) (tk : Takes X Wout)
    (hb : ∀ (W : WX) (pn : List (Addr × Obj)) (xe : Value → Shared → Prop), Takes (X.tr pn xe) W → PassesOwn (model X.prog X.w) X.A X.env xe → PSs (X.tr pn xe) body (tb W))
    (hh : Mix X (h₀ :: hds) l) : PS X (.Try body (h₀ :: hds) [] [] pos) (fun D σ H => tb (wMix X.K Wout D l) D σ H) := ps_try_mix (u := tNext) pss_nil hs hf hN tk hb hh
end
end Tr

/-! Orbits: their mathematics, and what orbit_of and orbits tell. -/
namespace Tr
open PySem L2 PySem.Spec PyProof.Rows Evl

/-! ### going along -/
def nxN (ns : List Int) (t : Nat) : Nat := (place ns t).toNat
def itN (ns : List Int) (t : Nat) : Nat → Nat
  | 0 => t
  | k + 1 => nxN ns (itN ns t k)
section
variable {ns : List Int} {t : Nat}
theorem nx_lt (hn : 0 < ns.length) : nxN ns t < ns.length := by
  have b0 : 0 ≤ place ns t := Int.emod_nonneg _ (by omega)
  have b1 : place ns t < ns.length := Int.emod_lt_of_pos _ (by omega)
  unfold nxN
  omega
theorem nx_int (hn : 0 < ns.length) : ((nxN ns t : Nat) : Int) = place ns t := by
  have b0 : 0 ≤ place ns t := Int.emod_nonneg _ (by omega)
  unfold nxN
  omega
theorem it_lt (hn : 0 < ns.length) (ht : t < ns.length) : ∀ k, itN ns t k < ns.length
  | 0 => ht
  | k + 1 => nx_lt hn
theorem nx_inj (hn : 0 < ns.length) (hg : Goes ns) {a b : Nat} (ha : a < ns.length) (hb : b < ns.length) (e : nxN ns a = nxN ns b) : a = b := by
  refine hg a b ha hb ?_
  rw [← nx_int hn, ← nx_int hn, e]
theorem it_back (hn : 0 < ns.length) (hg : Goes ns) (ht : t < ns.length) : ∀ i j, itN ns t i = itN ns t (i + j) → itN ns t j = t
  | 0, j, e => by
    rw [Nat.zero_add] at e
    exact e.symm
  | i + 1, j, e => by
    refine it_back hn hg ht i j (nx_inj hn hg (it_lt hn ht _) (it_lt hn ht _) ?_)
    rw [show i + 1 + j = (i + j) + 1 by omega] at e
    exact e
theorem it_returns (hn : 0 < ns.length) (hg : Goes ns) (ht : t < ns.length) : ∃ k, k < ns.length ∧ itN ns t (k + 1) = t := by
  by_cases hi : ∀ i j, i < ns.length → j < ns.length → itN ns t i = itN ns t j → i = j
  · obtain ⟨x, hx, e⟩ := pigeon ns.length (itN ns t) (fun i _ => it_lt hn ht i) hi (itN ns t ns.length) (it_lt hn ht _)
    refine ⟨ns.length - x - 1, by omega, ?_⟩
    rw [show ns.length - x - 1 + 1 = ns.length - x by omega]
    exact it_back hn hg ht x (ns.length - x) (by rw [show x + (ns.length - x) = ns.length by omega]; exact e)
  · simp only [Classical.not_forall] at hi
    obtain ⟨i, j, hi1, hj1, e, hne⟩ := hi
    rcases Nat.lt_or_gt_of_ne hne with h | h
    · refine ⟨j - i - 1, by omega, ?_⟩
      rw [show j - i - 1 + 1 = j - i by omega]
      exact it_back hn hg ht i (j - i) (by rw [show i + (j - i) = j by omega]; exact e)
    · refine ⟨i - j - 1, by omega, ?_⟩
      rw [show i - j - 1 + 1 = i - j by omega]
      exact it_back hn hg ht j (i - j) (by rw [show j + (i - j) = i by omega]; exact e.symm)
/-- how long till it is back -/
def perN (ns : List Int) (t : Nat) : Nat := (((List.range ns.length).find? fun k => decide (itN ns t (k + 1) = t)).getD 0) + 1
theorem per_spec (hn : 0 < ns.length) (hg : Goes ns) (ht : t < ns.length) : itN ns t (perN ns t) = t ∧ perN ns t ≤ ns.length ∧ 1 ≤ perN ns t ∧ ∀ k, 1 ≤ k → k < perN ns t → itN ns t k ≠ t := by
  unfold perN
  cases hf : (List.range ns.length).find? (fun k => decide (itN ns t (k + 1) = t)) with
  | none =>
    obtain ⟨k, hk, e⟩ := it_returns hn hg ht
    have z := List.find?_eq_none.mp hf k (List.mem_range.mpr hk)
    exact absurd (decide_eq_true e) z
  | some k =>
    obtain ⟨h1, h2, h3⟩ := List.find?_range_eq_some.mp hf
    refine ⟨of_decide_eq_true h1, by have := List.mem_range.mp h2; show k + 1 ≤ _; omega, by show 1 ≤ k + 1; omega, fun j hj1 hj2 e => ?_⟩
    have hj2 : j < k + 1 := hj2
    have z := h3 (j - 1) (by omega)
    rw [show j - 1 + 1 = j by omega, decide_eq_true e] at z
    cases z
def orbN (ns : List Int) (t : Nat) : List Nat := (List.range (perN ns t)).map (itN ns t)
def sumO (ns : List Int) (O : List Nat) : Int := (O.map fun t => ns.getD t 0).sum
theorem orb_len : (orbN ns t).length = perN ns t := by unfold orbN; rw [List.length_map, List.length_range]
theorem orb_lt (hn : 0 < ns.length) (ht : t < ns.length) {u : Nat} (h : u ∈ orbN ns t) : u < ns.length := by
  obtain ⟨k, _, rfl⟩ := List.mem_map.mp h
  exact it_lt hn ht k
theorem orb_inj (hn : 0 < ns.length) (hg : Goes ns) (ht : t < ns.length) {i j : Nat} (hi : i < perN ns t) (hj : j < perN ns t) (e : itN ns t i = itN ns t j) : i = j := by
  obtain ⟨_, _, _, least⟩ := per_spec hn hg ht
  rcases Nat.lt_trichotomy i j with h | h | h
  · exact absurd (it_back hn hg ht i (j - i) (by rw [show i + (j - i) = j by omega]; exact e)) (least _ (by omega) (by omega))
  · exact h
  · exact absurd (it_back hn hg ht j (i - j) (by rw [show j + (i - j) = i by omega]; exact e.symm)) (least _ (by omega) (by omega))
theorem nodup_mapOn {α β : Type} {f : α → β} : ∀ {l : List α}, l.Nodup → (∀ a ∈ l, ∀ b ∈ l, f a = f b → a = b) → (l.map f).Nodup
  | [], _, _ => List.nodup_nil
  | x :: l, hn, hi => by
    rw [List.nodup_cons] at hn
    rw [List.map_cons, List.nodup_cons]
    refine ⟨fun hm => ?_, nodup_mapOn hn.2 fun a ha b hb => hi a (List.mem_cons_of_mem _ ha) b (List.mem_cons_of_mem _ hb)⟩
    obtain ⟨y, hy, e⟩ := List.mem_map.mp hm
    have := hi y (List.mem_cons_of_mem _ hy) x List.mem_cons_self e
    subst this
    exact hn.1 hy
theorem orb_nodup (hn : 0 < ns.length) (hg : Goes ns) (ht : t < ns.length) : (orbN ns t).Nodup :=
  nodup_mapOn List.nodup_range fun a ha b hb e => orb_inj hn hg ht (List.mem_range.mp ha) (List.mem_range.mp hb) e
/-- how far it got behind j throws -/
def farN (ns : List Int) (t : Nat) (j : Nat) : Int := sumN (fun k => ns.getD (itN ns t k) 0) j
theorem far_it (hn : 0 < ns.length) (ht : t < ns.length) : ∀ j, ((t : Int) + farN ns t j) % (ns.length : Int) = ((itN ns t j : Nat) : Int)
  | 0 => by
    show ((t : Int) + 0) % _ = (t : Int)
    rw [Int.add_zero, Int.emod_eq_of_lt (by omega) (by omega)]
  | j + 1 => by
    have ih := far_it hn ht j
    show ((t : Int) + (farN ns t j + ns.getD (itN ns t j) 0)) % _ = ((nxN ns (itN ns t j) : Nat) : Int)
    rw [nx_int hn, ← Int.add_assoc, ← Int.emod_add_emod, ih]
    rfl
theorem sumO_far : sumO ns (orbN ns t) = farN ns t (perN ns t) := by
  unfold sumO orbN farN
  rw [List.map_map]
  exact sum_range _ _
theorem sumO_div (hn : 0 < ns.length) (hg : Goes ns) (ht : t < ns.length) : sumO ns (orbN ns t) / (ns.length : Int) * ns.length = sumO ns (orbN ns t) := by
  have z := far_it hn ht (perN ns t)
  rw [(per_spec hn hg ht).1, ← sumO_far] at z
  have e : (t : Int) = (t : Int) % ns.length := (Int.emod_eq_of_lt (by omega) (by omega)).symm
  have w := Int.emod_eq_emod_iff_emod_sub_eq_zero.mp (z.trans e)
  have z2 : sumO ns (orbN ns t) % (ns.length : Int) = 0 := by
    rwa [show (t : Int) + sumO ns (orbN ns t) - (t : Int) = sumO ns (orbN ns t) by omega] at w
  exact Int.ediv_mul_cancel (Int.dvd_of_emod_eq_zero z2)
/-! ### all orbits -/
def stepO (ns : List Int) (acc : List Nat × List (List Nat)) (t : Nat) : List Nat × List (List Nat) := if t ∈ acc.1 then acc else (acc.1 ++ orbN ns t, acc.2 ++ [orbN ns t])
def accO (ns : List Int) (i : Nat) : List Nat × List (List Nat) := (List.range i).foldl (stepO ns) ([], [])
theorem accO_succ (i : Nat) : accO ns (i + 1) = stepO ns (accO ns i) i := by
  unfold accO
  rw [List.range_succ, List.foldl_append]
  rfl
def dO (ns : List Int) (O : List Nat) : PyData := .tuple [.tuple ((O.map fun (t : Nat) => (t : Int)).map .int), .int (sumO ns O / ns.length)]
def orbsD (ns : List Int) (i : Nat) : List PyData := (accO ns i).2.map (dO ns)
/-- met so far: closed both ways, each once -/
structure MetI (ns : List Int) (m : List Nat) : Prop where
  nd : m.Nodup
  lt : ∀ u ∈ m, u < ns.length
  cl : ∀ u, u < ns.length → (nxN ns u ∈ m ↔ u ∈ m)
theorem it_met {m : List Nat} (hn : 0 < ns.length) (ht : t < ns.length) (M : MetI ns m) : ∀ k, itN ns t k ∈ m ↔ t ∈ m
  | 0 => Iff.rfl
  | k + 1 => (M.cl _ (it_lt hn ht k)).trans (it_met hn ht M k)
theorem orb_cl (hn : 0 < ns.length) (hg : Goes ns) (ht : t < ns.length) {u : Nat} (hu : u < ns.length) : nxN ns u ∈ orbN ns t ↔ u ∈ orbN ns t := by
  obtain ⟨back, _, one, _⟩ := per_spec hn hg ht
  unfold orbN
  rw [List.mem_map, List.mem_map]
  constructor
  · rintro ⟨k, hk, e⟩
    have hk := List.mem_range.mp hk
    cases k with
    | zero =>
      refine ⟨perN ns t - 1, List.mem_range.mpr (by omega), nx_inj hn hg (it_lt hn ht _) hu ?_⟩
      show itN ns t (perN ns t - 1 + 1) = _
      rw [show perN ns t - 1 + 1 = perN ns t by omega, back]
      exact e
    | succ k => exact ⟨k, List.mem_range.mpr (by omega), nx_inj hn hg (it_lt hn ht _) hu e⟩
  · rintro ⟨k, hk, rfl⟩
    have hk := List.mem_range.mp hk
    by_cases hp : k + 1 = perN ns t
    · refine ⟨0, List.mem_range.mpr (by omega), ?_⟩
      show t = itN ns t (k + 1)
      rw [hp, back]
    · exact ⟨k + 1, List.mem_range.mpr (by omega), rfl⟩
theorem self_orb (hn : 0 < ns.length) (hg : Goes ns) (ht : t < ns.length) : t ∈ orbN ns t := by
  obtain ⟨_, _, one, _⟩ := per_spec hn hg ht
  exact List.mem_map.mpr ⟨0, List.mem_range.mpr (by omega), rfl⟩
theorem met_step {m : List Nat} (hn : 0 < ns.length) (hg : Goes ns) (ht : t < ns.length) (M : MetI ns m) (hm : ¬ t ∈ m) : MetI ns (m ++ orbN ns t) := by
  refine ⟨List.nodup_append.mpr ⟨M.nd, orb_nodup hn hg ht, fun a ha b hb e => ?_⟩, fun u hu => ?_, fun u hu => ?_⟩
  · subst e
    obtain ⟨k, _, rfl⟩ := List.mem_map.mp hb
    exact hm ((it_met hn ht M k).mp ha)
  · rcases List.mem_append.mp hu with h | h
    · exact M.lt u h
    · exact orb_lt hn ht h
  · rw [List.mem_append, List.mem_append, M.cl u hu, orb_cl hn hg ht hu]
theorem accO_met (hn : 0 < ns.length) (hg : Goes ns) : ∀ i, i ≤ ns.length → MetI ns (accO ns i).1 ∧ (∀ t, t < i → t ∈ (accO ns i).1) ∧ ((accO ns i).2.map fun O => sumO ns O / (ns.length : Int)).sum * ns.length = sumO ns (accO ns i).1 ∧ (accO ns i).2.length ≤ i
  | 0, _ => ⟨⟨List.nodup_nil, (fun u hu => absurd hu List.not_mem_nil), fun u _ => by show _ ∈ ([] : List Nat) ↔ _ ∈ ([] : List Nat); simp⟩, (fun t ht => absurd ht (Nat.not_lt_zero _)), by show (0 : Int) * _ = 0; omega, Nat.le_refl _⟩
  | i + 1, hi => by
    obtain ⟨M, all, sm, ln⟩ := accO_met hn hg i (by omega)
    rw [accO_succ]
    unfold stepO
    split
    · rename_i hm
      refine ⟨M, fun t ht => ?_, sm, by omega⟩
      by_cases e : t = i
      · subst e
        exact hm
      · exact all t (by omega)
    · rename_i hm
      refine ⟨met_step hn hg (by omega) M hm, fun t ht => ?_, ?_, by show (_ ++ [_]).length ≤ _; rw [List.length_append]; show _ + 1 ≤ _; omega⟩
      · show t ∈ _ ++ _
        rw [List.mem_append]
        by_cases e : t = i
        · subst e
          exact .inr (self_orb hn hg (by omega))
        · exact .inl (all t (by omega))
      · show (((accO ns i).2 ++ [orbN ns i]).map fun O => sumO ns O / (ns.length : Int)).sum * ns.length = sumO ns ((accO ns i).1 ++ orbN ns i)
        have e1 : sumO ns ((accO ns i).1 ++ orbN ns i) = sumO ns (accO ns i).1 + sumO ns (orbN ns i) := by
          unfold sumO
          rw [List.map_append, List.sum_append]
        rw [e1, List.map_append, List.sum_append, Int.add_mul, sm]
        have e2 := sumO_div hn hg (t := i) (by omega)
        show _ + (sumO ns (orbN ns i) / (ns.length : Int) + 0) * ns.length = _
        rw [Int.add_zero, e2]
theorem sum_perm {ns : List Int} : ∀ (n : Nat) (m : List Nat), m.Nodup → (∀ u ∈ m, u < n) → (∀ t, t < n → t ∈ m) → sumO ns m = sumN (fun t => ns.getD t 0) n
  | 0, m, _, hl, _ => by
    cases m with
    | nil => rfl
    | cons a m => exact absurd (hl a List.mem_cons_self) (Nat.not_lt_zero _)
  | n + 1, m, hn, hl, ha => by
    have hm := ha n (by omega)
    obtain ⟨a, b, rfl⟩ := List.append_of_mem hm
    have z : sumO ns (a ++ n :: b) = sumO ns (a ++ b) + ns.getD n 0 := by
      unfold sumO
      rw [List.map_append, List.map_append, List.map_cons, List.sum_append, List.sum_append, List.sum_cons]
      omega
    have hn' := List.nodup_append.mp hn
    have hb := List.nodup_cons.mp hn'.2.1
    rw [z, sumN, sum_perm n (a ++ b) (List.nodup_append.mpr ⟨hn'.1, hb.2, fun x hx y hy => hn'.2.2 x hx y (List.mem_cons_of_mem _ hy)⟩) (fun u hu => ?_) fun t ht => ?_]
    · have h1 : u < n + 1 := by
        rcases List.mem_append.mp hu with h | h
        · exact hl u (List.mem_append_left _ h)
        · exact hl u (List.mem_append_right _ (List.mem_cons_of_mem _ h))
      have h2 : u ≠ n := fun e => by
        subst e
        rcases List.mem_append.mp hu with h | h
        · exact hn'.2.2 u h u List.mem_cons_self rfl
        · exact hb.1 h
      omega
    · rcases List.mem_append.mp (ha t (by omega)) with h | h
      · exact List.mem_append_left _ h
      · rcases List.mem_cons.mp h with h | h
        · omega
        · exact List.mem_append_right _ h
/-- all things of all orbits together -/
theorem orbs_sum (hn : 0 < ns.length) (hg : Goes ns) : ((accO ns ns.length).2.map fun O => sumO ns O / (ns.length : Int)).sum * ns.length = ns.sum := by
  obtain ⟨M, all, sm, _⟩ := accO_met hn hg ns.length (Nat.le_refl _)
  rw [sm, sum_perm ns.length _ M.nd M.lt all]
  have z := congrArg List.sum (map_getD0 ns)
  rw [sum_range] at z
  exact z
theorem flat_orbs {i : Nat} : Flat 3 (.list (orbsD ns i)) := flat_list fun d hd => by
  obtain ⟨O, _, rfl⟩ := List.mem_map.mp hd
  refine flat_tuple fun d hd => ?_
  rcases List.mem_cons.mp hd with rfl | hd
  · exact flat_intsT
  · rw [List.mem_singleton.mp hd]
    exact flat_int.mono (by decide)
end
/-! ### promises -/
def natI (O : List Nat) : List Int := O.map fun (t : Nat) => (t : Int)
def RetU (xs : List V) (H : Hp) (Q : VK) : Prop := ∀ p H2, H p = none → Ex H H2 → H2 p = some (.tup xs) → Q (.ref p) H2
/-- a new list of known data, its parts elsewhere -/
def RetO (K : PySem.W.Frag) (ds : List PyData) (H : Hp) (Q : VK) : Prop := ∀ l xs H2, H l = none → Ex H H2 → H2 l = some (.lst xs) → DpAll K (del H2 l) xs ds → Q (.ref l) H2
def sp_orbit_of (K : PySem.W.Frag) (c : Cs) : Sp := fun vs H Q _ => ∃ (p : Addr) (ns : List Int) (t : Nat), vs = [.ref p, .int (t : Int)] ∧ SqQ K H p (ns.map V.int) ∧ Good ns ∧ clashF ns = none ∧ t < ns.length ∧ RetU ((natI (orbN ns t)).map V.int) H Q
def sp_orbits (K : PySem.W.Frag) (c : Cs) : Sp := fun vs H Q E => ∃ x, vs = [x] ∧ Need K c x H E fun ns => RetO K (orbsD ns ns.length) H Q
/-- orbit_of: slots row, turn, turns -/
def t_orbit_of (K : PySem.W.Frag) (c : Cs) (E : XK) : TS :=
  (tSeq (tAsg (tLst (tCons (tVar 1) tNil)) (gName 2))
  (tSeq (tWhile (tB (tC (.bl true))) (tSeq (tAsg (tOp xMod (tOp (xAdd K) (tVar 1) (tOp (rIx K) (tVar 0) (tVar 1))) (tCB (cLen K) (tCons (tVar 0) tNil))) (gName 1))
  (tSeq (tIfS (tTest (tOp (xEq K) (tVar 1) (tOp (rIx K) (tVar 2) (tC (.int 0))))) tBreak tNext)
  (tDrop (tBM K "list" rAppend (tVar 2) (tCons (tVar 1) tNil))))))
  (tRet (tCB (cTuple K) (tCons (tVar 2) tNil)))))

/-- orbits: slots row, found, met, turn, turns, one -/
def t_orbits (K : PySem.W.Frag) (c : Cs) (E : XK) : TS :=
  (tSeq (tDrop (tCall (sp_need_going K c) [] E (tCons (tVar 0) tNil)))
  (tSeq (tAsg (tLst tNil) (gName 1))
  (tSeq (tAsg tDNewK (gName 2))
  (tSeq (tFor (iRng1 (tCons (tCB (cLen K) (tCons (tVar 0) tNil)) tNil)) (gName 3) (tSeq (tIfS (tB (tDIn (tVar 3) (tVar 2))) tCont tNext)
  (tSeq (tAsg (tCall (sp_orbit_of K c) [] E0 (tCons (tVar 0) (tCons (tVar 3) tNil))) (gName 4))
  (tSeq (tFor (iSeq K (tVar 4)) (gName 5) (sDPut (tVar 2) (tVar 5) (tC (.bl true))))
  (tDrop (tBM K "list" rAppend (tVar 1) (tCons (tTup (tCons (tVar 4) (tCons (tOp xDiv (tCB (cSum K) (tCons (tLc (iSeq K (tVar 4)) (gName 5) tYes (tOp (rIx K) (tVar 0) (tVar 5)) [5]) tNil)) (tCB (cLen K) (tCons (tVar 0) tNil))) tNil))) tNil)))))))
  (tRet (tVar 1))))))

section
variable {K : PySem.W.Frag} {c : Cs} {vs : List V} {H H' H2 : Hp} {Q : VK} {E : XK} {ns : List Int} {D : Ends} {tz : TS} {σ : L2.St} {te ta tb : TE} {l a : Addr}
theorem del_at {b : Addr} {o : HO} (hb : b ≠ l) (h : H b = some o) : del H l b = some o := (if_neg hb).trans h
theorem ex_del : Ex (del H l) H := fun b o h => by
  by_cases e : b = l
  · subst e
    rw [L2.del_same] at h
    cases h
  · rwa [L2.del_ne e] at h
theorem ex_dels (e : But l H H2) : Ex (del H l) (del H2 l) := fun b o h => by
  by_cases hb : b = l
  · subst hb
    rw [L2.del_same] at h
    cases h
  · rw [L2.del_ne hb] at h
    exact del_at hb (e b o hb h)
theorem but_ex (e : Ex H H2) : But l H H2 := fun b o _ h => e b o h
theorem but_upd {o : HO} (e : Ex H H2) : But l H (upd H2 l o) := fun b o' hb h => (upd_ne hb).trans (e b o' h)
theorem But.trans {H3 : Hp} (e : But l H H2) (f : But l H2 H3) : But l H H3 := fun b o hb h => f b o hb (e b o hb h)
theorem dpa_snoc {xs : List V} {ds : List PyData} {x : V} {d : PyData} (h : DpAll K H xs ds) (hx : Dp K H x d) : DpAll K H (xs ++ [x]) (ds ++ [d]) := by
  induction xs generalizing ds with
  | nil =>
    cases h
    exact .cons hx .nil
  | cons y ys ih =>
    cases h with
    | cons h1 h2 => exact .cons h1 (ih h2)
theorem at_last {α : Type} {xs : List α} {x : α} : atI (xs ++ [x]) (-1) = some x := by
  unfold atI ixN
  rw [if_neg (by omega), if_pos (by rw [List.length_append]; show -((xs.length + 1 : Nat) : Int) ≤ -1; omega), Option.bind_some, List.length_append]
  show (xs ++ [x])[(((xs.length + 1 : Nat) : Int) + -1).toNat]? = some x
  rw [show (((xs.length + 1 : Nat) : Int) + -1).toNat = xs.length by omega, List.getElem?_append_right (Nat.le_refl _), Nat.sub_self]
  rfl
theorem natI_take {f : Nat → Nat} {j : Nat} : (natI ((List.range (j + 1)).map f)).map V.int = (natI ((List.range j).map f)).map V.int ++ [V.int (f j : Int)] := by
  unfold natI
  rw [List.range_succ, List.map_append, List.map_append, List.map_append]
  rfl
theorem eu_tupleL {xs : List V} (ha : EvS K ta σ H xs) : EvU (tCB (cTuple K) (tCons ta tNil)) σ H xs := fun H1 e Q q =>
  ha H1 e _ fun a H2 e2 h2 => ⟨a, xs, rfl, .inl ⟨h2, fun l hl => q l _ (fresh_back e2 hl) (e2.trans (Ex.new hl)) upd_same⟩⟩
theorem pure_orbit_of (h : sp_orbit_of K c vs H Q E) : t_orbit_of K c E { nx := fun _ H' => Q .non H', rt := Q } (start ["row", "turn", "turns"] vs) H := by
  obtain ⟨p, ns, t, rfl, hq, hg, hc, ht, q⟩ := h
  have hn : 0 < ns.length := hg.1
  have h40 := hg.2.1
  have hgo := goes_iff.mp hc
  obtain ⟨back, hper, one, least⟩ := per_spec hn hgo ht
  refine q_asgL (xs := [.int (t : Int)]) (el_lst (ea_cons (ev_var rfl) ea_nil) (by show 1 ≤ 100000; decide)) fun l H1 hl e1 h1 => ?_
  have lenR : ∀ {H' : Hp} {σ : L2.St}, Ex H H' → σ[0]? = some (some (.ref p)) → Ev (tCB (cLen K) (tCons (tVar 0) tNil)) σ H' (.int ((ns.length : Nat) : Int)) := fun e h0 => ev_lenI (evq_of (ev_var h0) (ex_q e hq))
  let W : Nat → L2.St → Hp → Prop := fun m σ' H' => ∃ j, j < perN ns t ∧ m + j = perN ns t ∧ Ex H H' ∧ H' l = some (.lst ((natI ((List.range (j + 1)).map (itN ns t))).map V.int)) ∧ σ' = [some (.ref p), some (.int ((itN ns t j : Nat) : Int)), some (.ref l)]
  refine s_while (D := { nx := _, rt := _ }) W (perN ns t) ⟨0, one, rfl, e1, h1, rfl⟩ ?_
  rintro m σ' H' ⟨j, hj, hm, eH, hll, rfl⟩
  refine ⟨true, et_B ev_c, fun _ H2 e2 => ⟨_, fun _ _ h => h, ?_⟩, fun z => nomatch z⟩
  have eH2 := eH.trans e2
  have hit := it_lt hn ht j
  refine q_asg (v := .int ((itN ns t (j + 1) : Nat) : Int)) (ev_is (ev_op (ev_op (ev_var rfl) (ev_ixI (t := itN ns t j) (evq_of (ev_var rfl) (ex_q eH2 hq)) (fun _ _ => ev_var rfl) hit) rv_addI) (lenR eH2 rfl) (rv_mod (by omega))) ?_) fun H3 e3 => ?_
  · show V.int (place ns (itN ns t j)) = _
    rw [← nx_int hn]
    rfl
  have hl3 := e3 _ _ (e2 _ _ hll)
  have g0 : atI ((natI ((List.range (j + 1)).map (itN ns t))).map V.int) 0 = some (.int (t : Int)) := by
    have z := atI_ints (ns := natI ((List.range (j + 1)).map (itN ns t))) (i := 0) (by decide) (by unfold natI; rw [List.length_map, List.length_map, List.length_range]; omega)
    rw [z]
    congr 2
    show (natI ((List.range (j + 1)).map (itN ns t))).getD 0 0 = _
    unfold natI
    rw [List.map_map]
    exact getD_mapR (f := fun k => ((itN ns t k : Nat) : Int)) (by omega)
  refine q_when (b := decide (itN ns t (j + 1) = t)) (et_is (et_test (ev_op (ev_var rfl) (ev_ix (i := 0) (evq_of (ev_var rfl) (.inl (SqL.of hl3))) (fun _ _ => ev_c) g0) rv_eqI)) (by rw [Bool.eq_iff_iff, decide_eq_true_eq, decide_eq_true_eq]; omega)) (fun hb H4 e4 => ?_) fun hb H4 e4 => ?_
  · have hb := of_decide_eq_true hb
    have e : j + 1 = perN ns t := by
      by_cases h : j + 1 < perN ns t
      · exact absurd hb (least (j + 1) (by omega) h)
      · omega
    rw [e] at hl3
    refine s_retU (xs := (natI (orbN ns t)).map V.int) (eu_tupleL (evs_of (ev_var (i := 2) rfl) (SqL.of (e4 _ _ hl3)))) fun r H5 hr e5 h5 => ?_
    exact q r H5 (fresh_back ((eH2.trans e3).trans e4) hr) (((eH2.trans e3).trans e4).trans e5) h5
  · have hb := of_decide_eq_false hb
    have hj2 : j + 1 < perN ns t := by
      by_cases h : j + 1 = perN ns t
      · rw [h] at hb
        exact absurd back hb
      · omega
    refine s_app (v := .int ((itN ns t (j + 1) : Nat) : Int)) (e4 _ _ hl3) (ev_var rfl) (ev_var rfl) (by unfold natI; rw [List.length_map, List.length_map, List.length_map, List.length_range]; omega) fun H5 e5 => ⟨m - 1, by omega, j + 1, hj2, by omega, Ex.mut (((eH2.trans e3).trans e4).trans e5) hl, ?_, rfl⟩
    rw [upd_same, natI_take (j := j + 1)]
/-- what is no tuple may go -/
theorem sqT_del {a : Addr} {xs : List V} {o : HO} (h : SqT K H a xs) (hl : H l = some o) (ho : ∀ ys, o ≠ .tup ys) (hf : ∀ f u, o ≠ .frz f u) : SqT K (del H l) a xs := by
  rcases h with h | h
  · refine .inl ?_
    rcases h with h | ⟨f, h⟩
    · refine .inl (del_at (fun e => ?_) h)
      subst e
      rw [hl] at h
      cases h
      exact ho _ rfl
    · refine .inr ⟨f, del_at (fun e => ?_) h⟩
      subst e
      rw [hl] at h
      cases h
      exact hf _ _ rfl
  · exact .inr h
theorem dpa_intsH {ns : List Int} : ∀ {vs : List V}, DpAll K H vs (ns.map PyData.int) → DpAll K H2 vs (ns.map PyData.int) := by
  induction ns with
  | nil =>
    intro vs h
    cases h
    exact .nil
  | cons n ns ih =>
    intro vs h
    cases h with
    | cons h1 h2 =>
      cases h1
      exact .cons (.int n) (ih h2)
theorem dpO_del {O : List Nat} {v : V} {o : HO} (h : Dp K H v (dO ns O)) (hl : H l = some o) (ho : ∀ ys, o ≠ .tup ys) (hf : ∀ f u, o ≠ .frz f u) : Dp K (del H l) v (dO ns O) := by
  cases h with
  | tup hs ha =>
  cases ha with
  | cons h1 ha =>
  cases ha with
  | cons h2 ha =>
  cases ha
  cases h2
  cases h1 with
  | tup ht hb => exact .tup (sqT_del hs hl ho hf) (.cons (.tup (sqT_del ht hl ho hf) (dpa_intsH hb)) (.cons (.int _) .nil))
theorem evd_of' {i : Int} (h : Ev te σ H (.int i)) : EvD K te σ H (.int i) := fun H1 e Q q => h H1 e Q fun H2 e2 => q _ H2 e2 (.int i)
theorem evd_tup2 {d1 d2 : PyData} (h1 : EvD K ta σ H d1) (h2 : EvD K tb σ H d2) : EvD K (tTup (tCons ta (tCons tb tNil))) σ H (.tuple [d1, d2]) := fun H1 e Q q =>
  h1 H1 e _ fun v H2 e2 p => h2 H2 (e.trans e2) _ fun w H3 e3 p2 => ⟨sz_of (by show 2 ≤ 100000; decide), fun r hr => q _ _ ((e2.trans e3).trans (Ex.new hr)) (.tup (SqT.of upd_same) (.cons (dp_ex (e3.trans (Ex.new hr)) p) (.cons (dp_ex (Ex.new hr) p2) .nil)))⟩
/-- a value of known data, put at the end of a list -/
theorem s_appD {xs : List V} {d : PyData} (hl : H l = some (.lst xs)) (ha : Ev ta σ H (.ref l)) (h : EvD K te σ H d) (hz : xs.length < 100000) (k : ∀ v H1, Ex H H1 → Dp K H1 v d → D.nx σ (upd H1 l (.lst (xs ++ [v])))) :
    tDrop (tBM K "list" rAppend ta (tCons te tNil)) D σ H := ha H (Ex.refl H) _ fun H1 e1 =>
  ⟨Or.inl ⟨rfl, xs, sq_of (e1 l _ hl)⟩, h H1 e1 _ fun v H2 e2 p => ⟨l, xs, v, rfl, rfl, e2 l _ (e1 l _ hl), sz_lt hz, k v H2 (e1.trans e2) p⟩⟩
theorem eu_orbit_of {p : Addr} {t : Nat} (ha : Ev ta σ H (.ref p)) (hb : Ev tb σ H (.int (t : Int))) (hq : SqQ K H p (ns.map V.int)) (hg : Good ns) (hc : clashF ns = none) (ht : t < ns.length) : EvU (tCall (sp_orbit_of K c) [] E (tCons ta (tCons tb tNil))) σ H ((natI (orbN ns t)).map V.int) := fun H1 e1 Q q =>
  ha H1 e1 _ fun H2 e2 => hb H2 (e1.trans e2) _ fun H3 e3 => ⟨p, ns, t, rfl, ex_q ((e1.trans e2).trans e3) hq, hg, hc, ht, fun r H4 hr e4 h4 => q r H4 (fresh_back (e2.trans e3) hr) ((e2.trans e3).trans e4) h4⟩
theorem mem_natI {O : List Nat} {u : Int} : u ∈ natI O ↔ ∃ t ∈ O, (t : Int) = u := by
  unfold natI
  rw [List.mem_map]
theorem natI_at {O : List Nat} {i : Nat} {x : V} (h : ((natI O).map V.int)[i]? = some x) : ∃ (hi : i < O.length), x = .int ((O[i] : Nat) : Int) := by
  unfold natI at h
  rw [List.map_map, List.getElem?_map] at h
  cases e : O[i]? with
  | none =>
    rw [e] at h
    cases h
  | some z =>
    rw [e] at h
    obtain ⟨hi, ez⟩ := List.getElem?_eq_some_iff.mp e
    refine ⟨hi, ?_⟩
    rw [ez]
    exact (Option.some.inj h).symm
theorem putK_le (kvs : List (Key × V)) (k : Key) (v : V) : (putK kvs k v).length ≤ kvs.length + 1 := by
  unfold putK
  split
  · rw [List.length_map]
    omega
  · rw [List.length_append]
    exact Nat.le_refl _
theorem pure_orbits (h : sp_orbits K c vs H Q E) : t_orbits K c E { nx := fun _ H' => Q .non H', rt := Q } (start ["row", "found", "met", "turn", "turns", "one"] vs) H := by
  obtain ⟨x, rfl, h⟩ := h
  refine ⟨x, rfl, x, rfl, need_up (Ex.refl _) h fun ns hr hg hc q H1 e1 => nx_mk ?_⟩
  obtain ⟨p, rfl, hq⟩ := hr
  have hn : 0 < ns.length := hg.1
  have h40 := hg.2.1
  have hgo := goes_iff.mp hc
  refine q_asgL (xs := []) (el_lst ea_nil (by decide)) fun l H2 hl2 e2 h2 => ?_
  have e12 := e1.trans e2
  have hlH : H l = none := fresh_back e1 hl2
  refine q_asgD fun d hd => ?_
  have hdH : H d = none := fresh_back e12 hd
  have hld : l ≠ d := ne_of_none h2 hd
  have lenR : ∀ {H' : Hp} {σ : L2.St}, Ex H H' → σ[0]? = some (some (.ref p)) → Ev (tCB (cLen K) (tCons (tVar 0) tNil)) σ H' (.int ((ns.length : Nat) : Int)) := fun e h0 => ev_lenI (evq_of (ev_var h0) (ex_q e hq))
  refine q_forR1 (n := (ns.length : Int)) (ea_cons (lenR (e12.trans (Ex.new hd)) rfl) ea_nil) (by omega)
    (fun i σ' H' => Ex H H' ∧ (∃ kvs, H' d = some (.dK kvs) ∧ kvs.length ≤ i * 40 ∧ ∀ u : Int, (valV kvs (Sum.inl u)).isSome = true ↔ ∃ t ∈ (accO ns i).1, (t : Int) = u) ∧ (∃ xs, H' l = some (.lst xs) ∧ xs.length ≤ i ∧ DpAll K (del (del H' d) l) xs (orbsD ns i)) ∧ ∃ u v w, σ' = [some (V.ref p), some (.ref l), some (.ref d), u, v, w])
    (fun H3 e3 => ⟨(e12.trans (Ex.new hd)).trans e3, ⟨[], e3 _ _ upd_same, Nat.zero_le _, fun u => ⟨(fun z => nomatch z), fun ⟨t, ht, _⟩ => absurd ht List.not_mem_nil⟩⟩, ⟨[], e3 _ _ ((upd_ne hld).trans h2), Nat.le_refl _, .nil⟩, none, none, none, rfl⟩) ?_ ?_
  · rintro i σ' H' hi ⟨eH, ⟨kvs, hdk, hkl, hks⟩, ⟨xs, hll, hxl, hdp⟩, u, v, w, rfl⟩
    have hi' : i < ns.length := by omega
    have isd : (valV kvs (Sum.inl (i : Int))).isSome = decide (i ∈ (accO ns i).1) := by
      rw [Bool.eq_iff_iff, hks, decide_eq_true_eq]
      constructor
      · rintro ⟨t, ht, e⟩
        have : t = i := by omega
        rwa [this] at ht
      · exact fun h => ⟨i, h, rfl⟩
    refine q_when (b := decide (i ∈ (accO ns i).1)) (et_is (et_B (ev_din (k := Sum.inl (i : Int)) (ev_var rfl) (ev_var rfl) hdk)) isd) (fun hb H3 e3 => ?_) fun hb H3 e3 => ?_
    · have hm := of_decide_eq_true hb
      have ea : accO ns (i + 1) = accO ns i := by rw [accO_succ]; exact if_pos hm
      refine ⟨eH.trans e3, ⟨kvs, e3 _ _ hdk, by omega, by rw [ea]; exact hks⟩, ⟨xs, e3 _ _ hll, by omega, ?_⟩, some (.int (i : Int)), v, w, rfl⟩
      show DpAll K _ xs ((accO ns (i + 1)).2.map (dO ns))
      rw [ea]
      exact dpa_ex (ex_dels (but_ex (ex_dels (but_ex e3)))) hdp
    have hm := of_decide_eq_false hb
    have ea : accO ns (i + 1) = ((accO ns i).1 ++ orbN ns i, (accO ns i).2 ++ [orbN ns i]) := by rw [accO_succ]; exact if_neg hm
    obtain ⟨back, hper, one, least⟩ := per_spec hn hgo hi'
    have hol : (orbN ns i).length ≤ 40 := by rw [orb_len]; omega
    refine q_asgU (eu_orbit_of (K := K) (c := c) (t := i) (ev_var rfl) (ev_var rfl) (ex_q (eH.trans e3) hq) hg hc hi') fun T H4 hT e4 h4 => ?_
    have eH4 := (eH.trans e3).trans e4
    have hTd : T ≠ d := Ne.symm (ne_of_none (e3 _ _ hdk) hT)
    have hTl : T ≠ l := Ne.symm (ne_of_none (e3 _ _ hll) hT)
    have hdk4 := e4 _ _ (e3 _ _ hdk)
    have hll4 := e4 _ _ (e3 _ _ hll)
    have hTdel : SqQ K (del H4 d) T ((natI (orbN ns i)).map V.int) := .inr (SqT.of (del_at hTd h4))
    refine q_forQ (j := 5) (b := T) (H0 := del H4 d) (ev_var (i := 4) rfl) hTdel ex_del (fun j σ' H' => But d H4 H' ∧ (∃ kvs', H' d = some (.dK kvs') ∧ kvs'.length ≤ i * 40 + j ∧ ∀ u : Int, (valV kvs' (Sum.inl u)).isSome = true ↔ (∃ t ∈ (accO ns i).1, (t : Int) = u) ∨ ∃ t ∈ (orbN ns i).take j, (t : Int) = u) ∧ ∃ w, σ' = [some (V.ref p), some (.ref l), some (.ref d), some (.int (i : Int)), some (.ref T), w])
      (fun H5 e5 => ⟨but_ex e5, ⟨kvs, e5 _ _ hdk4, by omega, fun u => by rw [hks]; simp⟩, w, rfl⟩) (fun j σ' H' z => fun b o hb => by
        by_cases e : b = d
        · subst e
          rw [L2.del_same] at hb
          cases hb
        · rw [L2.del_ne e] at hb
          exact z.1 b o e hb) ?_ ?_
    · rintro j x σ' H5 hx ⟨b5, ⟨kvs', hk', hkl', hks'⟩, w, rfl⟩
      obtain ⟨hj, rfl⟩ := natI_at hx
      refine s_dput (v := .bl true) (k := Sum.inl (((orbN ns i)[j] : Nat) : Int)) ev_c (ev_var rfl) (ev_var rfl) hk' (by omega) fun H6 e6 => ⟨fun b o hb h => (upd_ne hb).trans (e6 _ _ (b5 b o hb h)), ⟨_, upd_same, ?_, fun u => ?_⟩, some _, rfl⟩
      · have := putK_le kvs' (Sum.inl (((orbN ns i)[j] : Nat) : Int)) (.bl true)
        omega
      · rw [valV_put, List.take_succ_eq_append_getElem hj]
        split
        · rename_i e
          have e : u = (((orbN ns i)[j] : Nat) : Int) := by injection e
          constructor
          · intro _
            exact .inr ⟨_, List.mem_append_right _ (List.mem_singleton.mpr rfl), e.symm⟩
          · intro _
            rfl
        · rename_i e
          rw [hks']
          constructor
          · rintro (h | ⟨t, ht, e2⟩)
            · exact .inl h
            · exact .inr ⟨t, List.mem_append_left _ ht, e2⟩
          · rintro (h | ⟨t, ht, e2⟩)
            · exact .inl h
            · rcases List.mem_append.mp ht with ht | ht
              · exact .inr ⟨t, ht, e2⟩
              · rw [List.mem_singleton.mp ht] at e2
                exact absurd (by rw [e2]) e
    · rintro σ' H5 ⟨b5, ⟨kvs', hk', hkl', hks'⟩, w, rfl⟩
      have hlen : ((natI (orbN ns i)).map V.int).length = (orbN ns i).length := by unfold natI; rw [List.length_map, List.length_map]
      rw [hlen, List.take_length] at hks'
      rw [hlen] at hkl'
      have eH5 : Ex H H5 := b5.ex eH4 hdH
      have hT5 := b5 _ _ hTd h4
      have hll5 := b5 _ _ hld hll4
      have row : ∀ {H' : Hp} {σ : L2.St}, Ex H H' → σ[0]? = some (some (.ref p)) → EvQ K (tVar 0) σ H' (ns.map V.int) := fun e h0 => evq_of (ev_var h0) (ex_q e hq)
      have sumE : Ev (tOp xDiv (tCB (cSum K) (tCons (tLc (iSeq K (tVar 4)) (gName 5) tYes (tOp (rIx K) (tVar 0) (tVar 5)) [5]) tNil)) (tCB (cLen K) (tCons (tVar 0) tNil))) [some (V.ref p), some (.ref l), some (.ref d), some (.int (i : Int)), some (.ref T), w] H5 (.int (sumO ns (orbN ns i) / ns.length)) := by
        have z := el_lcQ (K := K) (σ := [some (V.ref p), some (.ref l), some (.ref d), some (.int (i : Int)), some (.ref T), w]) (H := H5) (t := tYes) (te := tOp (rIx K) (tVar 0) (tVar 5)) (tl := tVar 4) (j := 5) (vs := [5]) (a := T) (xs := (natI (orbN ns i)).map V.int)
          (fun _ => true) (fun k => .int ((fun u : Nat => ns.getD u 0) ((orbN ns i).getD k 0))) (ev_var rfl) (.inr (SqT.of hT5)) (by rw [hlen]; omega) (fun _ => rfl)
          (fun k x H6 e6 hx => et_yes) (fun k x H6 e6 hx _ => by
            obtain ⟨hk, rfl⟩ := natI_at hx
            have e : (orbN ns i).getD k 0 = (orbN ns i)[k] := by rw [List.getD_eq_getElem?_getD, List.getElem?_eq_getElem hk]; rfl
            show Ev _ _ _ (.int (ns.getD ((orbN ns i).getD k 0) 0))
            rw [e]
            exact ev_ixI (t := (orbN ns i)[k]) (row (eH5.trans e6) rfl) (fun _ _ => ev_var rfl) (orb_lt hn hi' (List.getElem_mem hk)))
        have e : given ((natI (orbN ns i)).map V.int).length (fun _ => true) (fun k => V.int ((fun u : Nat => ns.getD u 0) ((orbN ns i).getD k 0))) = ((orbN ns i).map fun u => ns.getD u 0).map V.int := by
          rw [hlen, given_all]
          have y : (List.range (orbN ns i).length).map (fun k => (orbN ns i).getD k 0) = orbN ns i := by
            apply List.ext_getElem (by rw [List.length_map, List.length_range])
            intro k h1 h2
            rw [List.getElem_map, List.getElem_range, List.getD_eq_getElem?_getD, List.getElem?_eq_getElem h2]
            rfl
          have y2 := congrArg (fun L => (L.map fun u : Nat => ns.getD u 0).map V.int) y
          simp only [List.map_map] at y2 ⊢
          exact y2
        rw [e] at z
        exact ev_op (ev_sum (evq_s (evs_new z))) (lenR eH5 rfl) (rv_div (by k_caughtB))
      refine s_appD (d := dO ns (orbN ns i)) hll5 (ev_var rfl) (evd_tup2 (evd_w (evw_of (ev_var (i := 4) rfl) (SqT.of hT5)) (dpa_ints _)) (evd_of' sumE)) (by omega) fun v2 H6 e6 hv => ?_
      have hk6 := e6 _ _ hk'
      have hl6 := e6 _ _ hll5
      have hdel : Dp K (del (del H6 d) l) v2 (dO ns (orbN ns i)) := dpO_del (dpO_del hv hk6 (fun _ z => nomatch z) (fun _ _ z => nomatch z)) (del_at hld hl6) (fun _ z => nomatch z) (fun _ _ z => nomatch z)
      refine ⟨Ex.mut (eH5.trans e6) hlH, ⟨kvs', (upd_ne (Ne.symm hld)).trans hk6, by omega, ?_⟩, ⟨xs ++ [v2], upd_same, by rw [List.length_append]; show xs.length + 1 ≤ _; omega, ?_⟩, some (.int (i : Int)), some (.ref T), w, rfl⟩
      · intro u
        rw [hks', ea]
        show _ ↔ ∃ t ∈ (accO ns i).1 ++ orbN ns i, _
        constructor
        · rintro (⟨t, ht, e⟩ | ⟨t, ht, e⟩)
          · exact ⟨t, List.mem_append_left _ ht, e⟩
          · exact ⟨t, List.mem_append_right _ ht, e⟩
        · rintro ⟨t, ht, e⟩
          rcases List.mem_append.mp ht with ht | ht
          · exact .inl ⟨t, ht, e⟩
          · exact .inr ⟨t, ht, e⟩
      · show DpAll K _ (xs ++ [v2]) ((accO ns (i + 1)).2.map (dO ns))
        rw [ea, List.map_append]
        have step1 : Ex (del (del H' d) l) (del (del H6 d) l) := ex_dels (but_ex (ex_dels fun b o hb h => e6 _ _ (b5 b o hb (e4 _ _ (e3 _ _ h)))))
        have step2 : Ex (del (del H6 d) l) (del (del (upd H6 l (.lst (xs ++ [v2]))) d) l) := ex_dels fun b o hb h => by
          by_cases e : b = d
          · subst e
            rw [L2.del_same] at h
            cases h
          · rw [L2.del_ne e] at h ⊢
            exact (upd_ne hb).trans h
        exact dpa_snoc (dpa_ex (step1.trans step2) hdp) (dp_ex step2 hdel)
  · rintro σ' H' ⟨eH, _, ⟨xs, hll, hxl, hdp⟩, u, v, w, rfl⟩
    refine s_ret (v := .ref l) (ev_var rfl) fun H3 e3 => q l xs H3 hlH (eH.trans e3) (e3 _ _ hll) ?_
    exact dpa_ex (ex_dels fun b o hb h => by
      by_cases e : b = d
      · subst e
        rw [L2.del_same] at h
        cases h
      · rw [L2.del_ne e] at h
        exact e3 _ _ h) hdp
end
end Tr

/-! Ways from state to state: paths, which is less, a search round by round that finds the least; how many bits. -/
namespace Tr
open PySem L2 PySem.Spec PyProof.Rows Evl

/-! ### paths -/
/-- throws, each let, lead from a to b -/
inductive PathS : Int → List Int → Int → Prop where
  | nil (a : Int) : PathS a [] a
  | cons {a h : Int} {p : List Int} {b : Int} : h ∈ letsF a → PathS (thrownF a h) p b → PathS a (h :: p) b
def pcI (s : Int) : Nat := pc s.toNat 9
theorem step_fin : ((List.range 512).all fun s => (letsF s).all fun h => decide (0 ≤ thrownF s h) && (decide (thrownF s h ≤ 511) && decide (pcI (thrownF s h) = pcI s))) = true := by decide +kernel
theorem step_ok {s h : Int} (h0 : 0 ≤ s) (h1 : s ≤ 511) (m : h ∈ letsF s) : 0 ≤ thrownF s h ∧ thrownF s h ≤ 511 ∧ pcI (thrownF s h) = pcI s := by
  have z := List.all_eq_true.mp step_fin s.toNat (List.mem_range.mpr (by omega))
  rw [Int.toNat_of_nonneg h0] at z
  have z := List.all_eq_true.mp z h m
  simp only [Bool.and_eq_true, decide_eq_true_eq] at z
  exact z
theorem PathS.ok {a b : Int} {p : List Int} (h : PathS a p b) (h0 : 0 ≤ a) (h1 : a ≤ 511) : 0 ≤ b ∧ b ≤ 511 ∧ pcI b = pcI a := by
  induction h with
  | nil a => exact ⟨h0, h1, rfl⟩
  | @cons a h p b m _ ih =>
    obtain ⟨z0, z1, z2⟩ := step_ok h0 h1 m
    obtain ⟨w0, w1, w2⟩ := ih z0 z1
    exact ⟨w0, w1, w2.trans z2⟩
theorem PathS.snoc {a b h : Int} {p : List Int} (q : PathS a p b) (m : h ∈ letsF b) : PathS a (p ++ [h]) (thrownF b h) := by
  induction q with
  | nil a => exact .cons m (.nil _)
  | cons m' _ ih => exact .cons m' (ih m)
theorem PathS.app {a b c : Int} {p q : List Int} (h : PathS a p b) (k : PathS b q c) : PathS a (p ++ q) c := by
  induction h with
  | nil a => exact k
  | cons m _ ih => exact .cons m (ih k)
theorem PathS.fn {a b b' : Int} {p : List Int} (h : PathS a p b) (k : PathS a p b') : b = b' := by
  induction h with
  | nil a => cases k; rfl
  | cons m _ ih =>
    cases k with
    | cons _ k => exact ih k
theorem PathS.hgt {a b : Int} {p : List Int} (h : PathS a p b) : ∀ x ∈ p, 0 ≤ x ∧ x ≤ 9 := by
  induction h with
  | nil a => exact fun x hx => absurd hx List.not_mem_nil
  | cons m _ ih =>
    intro x hx
    rcases List.mem_cons.mp hx with rfl | hx
    · exact lets_hgt m
    · exact ih x hx
/-! ### a number for a path: the less, the shorter, then the smaller -/
def keyF (c : Int) (p : List Int) : Int := p.foldl (fun acc h => 16 * acc + h) c
theorem key_snoc (c : Int) (p : List Int) (h : Int) : keyF c (p ++ [h]) = 16 * keyF c p + h := by
  unfold keyF
  rw [List.foldl_append]
  rfl
theorem key_app (c : Int) (p q : List Int) : keyF c (p ++ q) = keyF (keyF c p) q := List.foldl_append ..
theorem key_bounds : ∀ (p : List Int) (c : Int), (∀ x ∈ p, 0 ≤ x ∧ x ≤ 9) → c * 16 ^ p.length ≤ keyF c p ∧ keyF c p < (c + 1) * 16 ^ p.length
  | [], c, _ => ⟨by show c * 16 ^ 0 ≤ c; omega, by show c < (c + 1) * 16 ^ 0; omega⟩
  | h :: p, c, hp => by
    have hh := hp h List.mem_cons_self
    obtain ⟨z1, z2⟩ := key_bounds p (16 * c + h) fun x hx => hp x (List.mem_cons_of_mem _ hx)
    have e : keyF c (h :: p) = keyF (16 * c + h) p := rfl
    have hpos : (0 : Int) < 16 ^ p.length := Int.pow_pos (by decide)
    rw [e, List.length_cons, Int.pow_succ]
    generalize (16 : Int) ^ p.length = P at z1 z2 hpos
    constructor
    · refine Int.le_trans ?_ z1
      rw [show c * (P * 16) = (16 * c) * P by rw [Int.mul_comm P 16, ← Int.mul_assoc, Int.mul_comm c 16]]
      exact Int.mul_le_mul_of_nonneg_right (by omega) (by omega)
    · refine Int.lt_of_lt_of_le z2 ?_
      rw [show (c + 1) * (P * 16) = (16 * (c + 1)) * P by rw [Int.mul_comm P 16, ← Int.mul_assoc, Int.mul_comm (c + 1) 16]]
      exact Int.mul_le_mul_of_nonneg_right (by omega) (by omega)
theorem pow_mono {m n : Nat} (h : m ≤ n) : (16 : Int) ^ m ≤ 16 ^ n := by
  obtain ⟨k, rfl⟩ := Nat.exists_eq_add_of_le h
  rw [Int.pow_add]
  have h1 : (0 : Int) < 16 ^ m := Int.pow_pos (by decide)
  have h2 : (0 : Int) < 16 ^ k := Int.pow_pos (by decide)
  have := Int.mul_le_mul_of_nonneg_left (show (1 : Int) ≤ 16 ^ k by omega) (show (0 : Int) ≤ 16 ^ m by omega)
  omega
/-- of lesser number is not longer -/
theorem key_len {c : Int} (hc : 1 ≤ c) {p q : List Int} (hp : ∀ x ∈ p, 0 ≤ x ∧ x ≤ 9) (hq : ∀ x ∈ q, 0 ≤ x ∧ x ≤ 9) (h : keyF c p ≤ keyF c q) : p.length ≤ q.length := by
  by_cases hl : p.length ≤ q.length
  · exact hl
  · have z1 := (key_bounds p c hp).1
    have z2 := (key_bounds q c hq).2
    have hm := pow_mono (show q.length + 1 ≤ p.length by omega)
    have hpos : (0 : Int) < 16 ^ q.length := Int.pow_pos (by decide)
    rw [Int.pow_succ] at hm
    have y1 : c * ((16 : Int) ^ q.length * 16) ≤ c * 16 ^ p.length := Int.mul_le_mul_of_nonneg_left hm (by omega)
    have y2 : (c + 1) * (16 : Int) ^ q.length ≤ (c * 16) * 16 ^ q.length := Int.mul_le_mul_of_nonneg_right (by omega) (by omega)
    rw [show c * ((16 : Int) ^ q.length * 16) = (c * 16) * 16 ^ q.length by rw [Int.mul_comm ((16 : Int) ^ q.length) 16, Int.mul_assoc]] at y1
    omega
theorem key_inj : ∀ (p q : List Int) (c d : Int), p.length = q.length → (∀ x ∈ p, 0 ≤ x ∧ x ≤ 9) → (∀ x ∈ q, 0 ≤ x ∧ x ≤ 9) → keyF c p = keyF d q → c = d ∧ p = q
  | [], [], c, d, _, _, _, e => ⟨e, rfl⟩
  | h :: p, k :: q, c, d, hl, hp, hq, e => by
    obtain ⟨e1, e2⟩ := key_inj p q (16 * c + h) (16 * d + k) (by simpa using hl) (fun x hx => hp x (List.mem_cons_of_mem _ hx)) (fun x hx => hq x (List.mem_cons_of_mem _ hx)) e
    have h1 := hp h List.mem_cons_self
    have h2 := hq k List.mem_cons_self
    exact ⟨by omega, by rw [e2, show h = k by omega]⟩
/-- the least of the shortest -/
def IsWay (a b : Int) (w : List Int) : Prop := PathS a w b ∧ ∀ q, PathS a q b → keyF 1 w ≤ keyF 1 q
theorem way_uniq {a b : Int} {v w : List Int} (h : IsWay a b v) (k : IsWay a b w) : v = w := by
  have e : keyF 1 v = keyF 1 w := Int.le_antisymm (h.2 w k.1) (k.2 v h.1)
  have l1 := key_len (c := 1) (by decide) h.1.hgt k.1.hgt (Int.le_of_eq e)
  have l2 := key_len (c := 1) (by decide) k.1.hgt h.1.hgt (Int.le_of_eq e.symm)
  exact (key_inj v w 1 1 (by omega) h.1.hgt k.1.hgt e).2
open Classical in
noncomputable def wayF (a b : Int) : List Int := if h : ∃ w, IsWay a b w then Classical.choose h else []
theorem way_is {a b : Int} {w : List Int} (h : IsWay a b w) : wayF a b = w := by
  have hx : ∃ w, IsWay a b w := ⟨w, h⟩
  unfold wayF
  rw [dif_pos hx]
  exact way_uniq (Classical.choose_spec hx) h
/-! ### any two states of as many bits are joined -/
def lowS (s : Int) : Int := (letsF s).headD 0
/-- the least throws, n of them -/
def downP : Nat → Int → List Int
  | 0, _ => []
  | n + 1, s => lowS s :: downP n (thrownF s (lowS s))
def downS : Nat → Int → Int
  | 0, s => s
  | n + 1, s => downS n (thrownF s (lowS s))
/-- from the ground up: what threw the highest, going back -/
def topH (t : Nat) : Nat := ((List.range 10).filter fun h => (2 * t).testBit h).getLastD 0
def upP : Nat → Nat → List Int → List Int
  | 0, _, acc => acc
  | n + 1, t, acc => upP n (2 * t - 2 ^ topH t + 1) ((topH t : Int) :: acc)
def runS : Int → List Int → Option Int
  | s, [] => some s
  | s, h :: p => if h ∈ letsF s then runS (thrownF s h) p else none
theorem run_path : ∀ (p : List Int) (s t : Int), runS s p = some t → PathS s p t
  | [], s, t, e => by
    cases e
    exact .nil _
  | h :: p, s, t, e => by
    unfold runS at e
    split at e
    · rename_i m
      exact .cons m (run_path p _ t e)
    · cases e
theorem down_fin : ((List.range 512).all fun s => decide (runS s (downP 9 s) = some (2 ^ pcI s - 1))) = true := by decide +kernel
theorem up_fin : ((List.range 512).all fun s => decide (runS (2 ^ pcI s - 1) (upP (pcI s) s []) = some (s : Int))) = true := by decide +kernel
theorem down_len : ∀ n s, (downP n s).length = n
  | 0, _ => rfl
  | n + 1, s => by
    show (downP n _).length + 1 = _
    rw [down_len n]
theorem up_len : ∀ n t acc, (upP n t acc).length = n + acc.length
  | 0, _, acc => (Nat.zero_add _).symm
  | n + 1, t, acc => by
    show (upP n _ _).length = _
    rw [up_len n, List.length_cons]
    omega
theorem pcI_le (s : Int) : pcI s ≤ 9 := by
  show ((List.range 9).filter _).length ≤ 9
  have z := List.length_filter_le s.toNat.testBit (List.range 9)
  rw [List.length_range] at z
  exact z
/-- .. by at most eighteen throws -/
theorem joined {a b : Int} (a0 : 0 ≤ a) (a1 : a ≤ 511) (b0 : 0 ≤ b) (b1 : b ≤ 511) (h : pcI a = pcI b) : ∃ p, PathS a p b ∧ p.length ≤ 18 := by
  have d := of_decide_eq_true (List.all_eq_true.mp down_fin a.toNat (List.mem_range.mpr (by omega)))
  have u := of_decide_eq_true (List.all_eq_true.mp up_fin b.toNat (List.mem_range.mpr (by omega)))
  rw [Int.toNat_of_nonneg a0] at d
  rw [Int.toNat_of_nonneg b0] at u
  rw [h] at d
  refine ⟨_, (run_path _ _ _ d).app (run_path _ _ _ u), ?_⟩
  rw [List.length_append, down_len, up_len]
  have := pcI_le b
  show 9 + (pcI b + 0) ≤ 18
  omega
end Tr

/-! The search: what it holds, that what it finds is the least; as a list of states with their throws. -/
namespace Tr
open PySem L2 PySem.Spec PyProof.Rows Evl

abbrev Ent := Int × List Int
theorem lets_sorted_fin : ((List.range 512).all fun s => decide ((letsF s).Pairwise (· < ·))) = true := by decide +kernel
theorem lets_sorted {s : Int} (h0 : 0 ≤ s) (h1 : s ≤ 511) : (letsF s).Pairwise (· < ·) := by
  have z := of_decide_eq_true (List.all_eq_true.mp lets_sorted_fin s.toNat (List.mem_range.mpr (by omega)))
  rwa [Int.toNat_of_nonneg h0] at z
/-- between two states looked at -/
structure Bf (one : Int) (L : List Ent) (a : Nat) (B : Int) : Prop where
  nd : (L.map (·.1)).Nodup
  path : ∀ e ∈ L, PathS one e.2 e.1
  srt : L.Pairwise fun e f => keyF 1 e.2 < keyF 1 f.2
  cl : ∀ i e, i < a → L[i]? = some e → ∀ h ∈ letsF e.1, thrownF e.1 h ∈ L.map (·.1)
  mn : ∀ e ∈ L, ∀ q, PathS one q e.1 → keyF 1 e.2 ≤ keyF 1 q
  fst : (one, []) ∈ L
  lo : ∀ e ∈ L, keyF 1 e.2 < 16 * B
  hi : ∀ i e, a ≤ i → L[i]? = some e → B ≤ keyF 1 e.2
  le : a ≤ L.length
/-- within the look at the state s, the throws hs are left -/
structure Bw (one : Int) (L : List Ent) (a : Nat) (s : Int) (p : List Int) (hs : List Int) : Prop where
  nd : (L.map (·.1)).Nodup
  path : ∀ e ∈ L, PathS one e.2 e.1
  srt : L.Pairwise fun e f => keyF 1 e.2 < keyF 1 f.2
  cl : ∀ i e, i < a → L[i]? = some e → ∀ h ∈ letsF e.1, thrownF e.1 h ∈ L.map (·.1)
  mn : ∀ e ∈ L, ∀ q, PathS one q e.1 → keyF 1 e.2 ≤ keyF 1 q
  fst : (one, []) ∈ L
  at_ : L[a]? = some (s, p)
  clh : ∀ h ∈ letsF s, h ∈ hs ∨ thrownF s h ∈ L.map (·.1)
  up : ∀ e ∈ L, ∀ h ∈ hs, keyF 1 e.2 < 16 * keyF 1 p + h
  bnd : ∀ e ∈ L, keyF 1 e.2 < 16 * keyF 1 p + 16
  sub : ∀ h ∈ hs, h ∈ letsF s
  asc : hs.Pairwise (· < ·)
section
variable {one : Int} {L : List Ent} {a : Nat} {B s h : Int} {p hs : List Int}
theorem bf_start : Bf one [(one, [])] 0 1 := by
  refine ⟨?_, ?_, ?_, ?_, ?_, ?_, ?_, ?_, ?_⟩
  · exact List.nodup_cons.mpr ⟨List.not_mem_nil, List.nodup_nil⟩
  · intro e he
    rw [List.mem_singleton.mp he]
    exact .nil _
  · exact List.pairwise_singleton _ _
  · intro i e hi
    omega
  · intro e he q hq
    rw [List.mem_singleton.mp he]
    have z := (key_bounds q 1 hq.hgt).1
    have : (0 : Int) < 16 ^ q.length := Int.pow_pos (by decide)
    show (1 : Int) ≤ _
    omega
  · exact List.mem_singleton.mpr rfl
  · intro e he
    rw [List.mem_singleton.mp he]
    show (1 : Int) < 16
    decide
  · intro i e _ he
    cases i with
    | zero =>
      cases he
      exact Int.le_refl _
    | succ i => cases he
  · exact Nat.zero_le _
theorem bw_start (b : Bf one L a B) (o0 : 0 ≤ one) (o1 : one ≤ 511) (ha : L[a]? = some (s, p)) : Bw one L a s p (letsF s) := by
  have hm := List.mem_of_getElem? ha
  have hk : B ≤ keyF 1 p := b.hi a _ (Nat.le_refl _) ha
  have ok := (b.path _ hm).ok o0 o1
  refine ⟨b.nd, b.path, b.srt, b.cl, b.mn, b.fst, ha, fun h hh => .inl hh, fun e he h hh => ?_, fun e he => ?_, fun h hh => hh, lets_sorted ok.1 ok.2.1⟩
  · have := b.lo e he
    have := lets_hgt hh
    omega
  · have := b.lo e he
    omega
theorem bw_end (b : Bw one L a s p []) : Bf one L (a + 1) (keyF 1 p + 1) := by
  have hal := (List.getElem?_eq_some_iff.mp b.at_).1
  refine ⟨b.nd, b.path, b.srt, fun i e hi he h hh => ?_, b.mn, b.fst, fun e he => ?_, fun i e hi he => ?_, hal⟩
  · by_cases hia : i < a
    · exact b.cl i e hia he h hh
    · have : i = a := by omega
      subst this
      rw [b.at_] at he
      cases he
      rcases b.clh h hh with z | z
      · exact absurd z List.not_mem_nil
      · exact z
  · have := b.bnd e he
    omega
  · obtain ⟨hil, ei⟩ := List.getElem?_eq_some_iff.mp he
    obtain ⟨_, ea⟩ := List.getElem?_eq_some_iff.mp b.at_
    have z := List.pairwise_iff_getElem.mp b.srt a i hal hil (by omega)
    rw [ea, ei] at z
    have z : keyF 1 p < keyF 1 e.2 := z
    omega
theorem bw_old (b : Bw one L a s p (h :: hs)) (ht : thrownF s h ∈ L.map (·.1)) : Bw one L a s p hs :=
  ⟨b.nd, b.path, b.srt, b.cl, b.mn, b.fst, b.at_, fun k hk => by
    rcases b.clh k hk with z | z
    · rcases List.mem_cons.mp z with rfl | z
      · exact .inr ht
      · exact .inl z
    · exact .inr z, fun e he k hk => b.up e he k (List.mem_cons_of_mem _ hk), b.bnd, fun k hk => b.sub k (List.mem_cons_of_mem _ hk), (List.pairwise_cons.mp b.asc).2⟩
/-- where a path leaves what is found -/
theorem leaves {S : Int → Prop} {y x : Int} {q : List Int} (hq : PathS y q x) (hy : S y) (hx : ¬ S x) : ∃ q1 k q2 z, q = q1 ++ k :: q2 ∧ PathS y q1 z ∧ S z ∧ k ∈ letsF z ∧ ¬ S (thrownF z k) := by
  induction hq with
  | nil a => exact absurd hy hx
  | @cons a k r b m _ ih =>
    by_cases hs : S (thrownF a k)
    · obtain ⟨q1, k', q2, z, e, h1, h2, h3, h4⟩ := ih hs hx
      exact ⟨k :: q1, k', q2, z, by rw [e]; rfl, .cons m h1, h2, h3, h4⟩
    · exact ⟨[], k, r, a, rfl, .nil _, hy, m, hs⟩
theorem bw_new (b : Bw one L a s p (h :: hs)) (ht : ¬ thrownF s h ∈ L.map (·.1)) : Bw one (L ++ [(thrownF s h, p ++ [h])]) a s p hs := by
  have hal := (List.getElem?_eq_some_iff.mp b.at_).1
  have hm := List.mem_of_getElem? b.at_
  have hl : h ∈ letsF s := b.sub h List.mem_cons_self
  have hh := lets_hgt hl
  have hasc := List.pairwise_cons.mp b.asc
  have hp := b.path _ hm
  have kp : 1 ≤ keyF 1 p := by
    have z := (key_bounds p 1 hp.hgt).1
    have : (0 : Int) < 16 ^ p.length := Int.pow_pos (by decide)
    omega
  have mem' : ∀ {e : Ent}, e ∈ L ++ [(thrownF s h, p ++ [h])] → e ∈ L ∨ e = (thrownF s h, p ++ [h]) := fun he => by
    rcases List.mem_append.mp he with z | z
    · exact .inl z
    · exact .inr (List.mem_singleton.mp z)
  have map' : (L ++ [(thrownF s h, p ++ [h])]).map (·.1) = L.map (·.1) ++ [thrownF s h] := List.map_append ..
  refine ⟨?_, fun e he => ?_, ?_, fun i e hi he k hk => ?_, fun e he q hq => ?_, List.mem_append_left _ b.fst, ?_, fun k hk => ?_, fun e he k hk => ?_, fun e he => ?_, fun k hk => b.sub k (List.mem_cons_of_mem _ hk), hasc.2⟩
  · rw [map']
    exact List.nodup_append.mpr ⟨b.nd, List.nodup_cons.mpr ⟨List.not_mem_nil, List.nodup_nil⟩, fun x hx y hy e => ht (by rw [← List.mem_singleton.mp hy, ← e]; exact hx)⟩
  · rcases mem' he with z | rfl
    · exact b.path e z
    · exact hp.snoc hl
  · refine List.pairwise_append.mpr ⟨b.srt, List.pairwise_singleton _ _, fun e he f hf => ?_⟩
    rw [List.mem_singleton.mp hf, key_snoc]
    exact b.up e he h List.mem_cons_self
  · rw [List.getElem?_append_left (by omega)] at he
    rw [map']
    exact List.mem_append_left _ (b.cl i e hi he k hk)
  · rcases mem' he with z | rfl
    · exact b.mn e z q hq
    · rw [key_snoc]
      obtain ⟨q1, k, q2, z, rfl, g1, g2, g3, g4⟩ := leaves (S := fun x => x ∈ L.map (·.1)) hq (List.mem_map.mpr ⟨_, b.fst, rfl⟩) ht
      obtain ⟨ez, hez, rfl⟩ := List.mem_map.mp g2
      obtain ⟨iz, hiz, eiz⟩ := List.getElem_of_mem hez
      have k1 := b.mn ez hez q1 g1
      have hiza : a ≤ iz := by
        by_cases w : iz < a
        · exact absurd (b.cl iz ez w (by rw [List.getElem?_eq_getElem hiz, eiz]) k g3) g4
        · omega
      have kk := lets_hgt g3
      have kq : 16 * keyF 1 q1 + k ≤ keyF 1 (q1 ++ k :: q2) := by
        rw [key_app]
        show _ ≤ keyF (16 * keyF 1 q1 + k) q2
        have z := (key_bounds q2 (16 * keyF 1 q1 + k) fun x hx => hq.hgt x (List.mem_append_right _ (List.mem_cons_of_mem _ hx))).1
        have z1 : 1 ≤ keyF 1 q1 := by
          have z := (key_bounds q1 1 g1.hgt).1
          have : (0 : Int) < 16 ^ q1.length := Int.pow_pos (by decide)
          omega
        have z2 : (1 : Int) ≤ 16 ^ q2.length := Int.pow_pos (by decide)
        have z3 := Int.mul_le_mul_of_nonneg_left z2 (show 0 ≤ 16 * keyF 1 q1 + k by omega)
        omega
      by_cases hi : iz = a
      · subst hi
        have e : ez = (s, p) := by
          have w := b.at_
          rw [List.getElem?_eq_getElem hiz, eiz] at w
          exact Option.some.inj w
        subst e
        rcases b.clh k g3 with w | w
        · have : h ≤ k := by
            rcases List.mem_cons.mp w with rfl | w
            · exact Int.le_refl _
            · exact Int.le_of_lt (hasc.1 k w)
          have k1 : keyF 1 p ≤ keyF 1 q1 := k1
          show 16 * keyF 1 p + h ≤ _
          omega
        · exact absurd w g4
      · have w := List.pairwise_iff_getElem.mp b.srt a iz hal hiz (by omega)
        obtain ⟨_, ea⟩ := List.getElem?_eq_some_iff.mp b.at_
        rw [ea, eiz] at w
        have w : keyF 1 p < keyF 1 ez.2 := w
        show 16 * keyF 1 p + h ≤ _
        omega
  · rw [List.getElem?_append_left hal]
    exact b.at_
  · rw [map']
    rcases b.clh k hk with z | z
    · rcases List.mem_cons.mp z with rfl | z
      · exact .inr (List.mem_append_right _ (List.mem_singleton.mpr rfl))
      · exact .inl z
    · exact .inr (List.mem_append_left _ z)
  · rcases mem' he with z | rfl
    · exact b.up e z k (List.mem_cons_of_mem _ hk)
    · rw [key_snoc]
      have := hasc.1 k hk
      omega
  · rcases mem' he with z | rfl
    · exact b.bnd e z
    · rw [key_snoc]
      omega
/-- while the other isn't found there is one to look at -/
theorem bf_more {other : Int} (b : Bf one L a B) (hp : ∃ q, PathS one q other) (ho : ¬ other ∈ L.map (·.1)) : a < L.length := by
  by_cases h : a < L.length
  · exact h
  · obtain ⟨q, hq⟩ := hp
    obtain ⟨q1, k, q2, z, _, _, g2, g3, g4⟩ := leaves (S := fun x => x ∈ L.map (·.1)) hq (List.mem_map.mpr ⟨_, b.fst, rfl⟩) ho
    obtain ⟨ez, hez, rfl⟩ := List.mem_map.mp g2
    obtain ⟨iz, hiz, eiz⟩ := List.getElem_of_mem hez
    exact absurd (b.cl iz ez (by omega) (by rw [List.getElem?_eq_getElem hiz, eiz]) k g3) g4
theorem bf_way {other : Int} {w : List Int} (b : Bf one L a B) (h : (other, w) ∈ L) : IsWay one other w := ⟨b.path _ h, b.mn _ h⟩
theorem nodup_le : ∀ (n : Nat) (l : List Int), l.Nodup → (∀ x ∈ l, 0 ≤ x ∧ x < (n : Int)) → l.length ≤ n
  | 0, l, _, hl => by
    cases l with
    | nil => exact Nat.le_refl _
    | cons x l =>
      have := hl x List.mem_cons_self
      omega
  | n + 1, l, hn, hl => by
    by_cases hm : (n : Int) ∈ l
    · obtain ⟨u, v, rfl⟩ := List.append_of_mem hm
      have hn' := List.nodup_append.mp hn
      have hv := List.nodup_cons.mp hn'.2.1
      have z := nodup_le n (u ++ v) (List.nodup_append.mpr ⟨hn'.1, hv.2, fun x hx y hy => hn'.2.2 x hx y (List.mem_cons_of_mem _ hy)⟩) fun x hx => by
        have h1 : 0 ≤ x ∧ x < ((n + 1 : Nat) : Int) := by
          rcases List.mem_append.mp hx with h | h
          · exact hl x (List.mem_append_left _ h)
          · exact hl x (List.mem_append_right _ (List.mem_cons_of_mem _ h))
        have h2 : x ≠ (n : Int) := fun e => by
          subst e
          rcases List.mem_append.mp hx with h | h
          · exact hn'.2.2 _ h _ List.mem_cons_self rfl
          · exact hv.1 h
        omega
      rw [List.length_append] at z ⊢
      rw [List.length_cons]
      omega
    · have z := nodup_le n l hn fun x hx => by
        have h1 := hl x hx
        have h2 : x ≠ (n : Int) := fun e => hm (e ▸ hx)
        omega
      omega
theorem found_len {L : List Ent} (nd : (L.map (·.1)).Nodup) (path : ∀ e ∈ L, PathS one e.2 e.1) (o0 : 0 ≤ one) (o1 : one ≤ 511) : L.length ≤ 512 := by
  have z := nodup_le 512 (L.map (·.1)) nd fun x hx => by
    obtain ⟨e, he, rfl⟩ := List.mem_map.mp hx
    have := (path e he).ok o0 o1
    omega
  rwa [List.length_map] at z
end
/-! ### the dict of what is found -/
/-- each entry's list stands somewhere -/
def FndAt (H : Hp) (kvs : List (Key × V)) (L : List Ent) : Prop := kvs.length = L.length ∧ ∀ (i : Nat) kv e, kvs[i]? = some kv → L[i]? = some e → ∃ r, kv = (Sum.inl e.1, .ref r) ∧ H r = some (.lst (e.2.map V.int))
theorem fnd_ex {H H' : Hp} {kvs : List (Key × V)} {L : List Ent} (e : Ex H H') (h : FndAt H kvs L) : FndAt H' kvs L := ⟨h.1, fun i kv f h1 h2 => by
  obtain ⟨r, e1, e2⟩ := h.2 i kv f h1 h2
  exact ⟨r, e1, e _ _ e2⟩⟩
theorem fnd_snoc {H : Hp} {kvs : List (Key × V)} {L : List Ent} {r : Addr} {e : Ent} (h : FndAt H kvs L) (hr : H r = some (.lst (e.2.map V.int))) : FndAt H (kvs ++ [(Sum.inl e.1, .ref r)]) (L ++ [e]) := by
  refine ⟨by rw [List.length_append, List.length_append, h.1]; rfl, fun i y q h1 h2 => ?_⟩
  by_cases hi : i < kvs.length
  · rw [List.getElem?_append_left hi] at h1
    rw [List.getElem?_append_left (by have := h.1; omega)] at h2
    exact h.2 i y q h1 h2
  · rw [List.getElem?_append_right (by omega)] at h1
    rw [List.getElem?_append_right (by have := h.1; omega), ← h.1] at h2
    have hi0 : i - kvs.length = 0 := by
      have := (List.getElem?_eq_some_iff.mp h1).1
      simp at this
      omega
    rw [hi0] at h1 h2
    cases h1
    cases h2
    exact ⟨r, rfl, hr⟩
theorem fnd_tail {H : Hp} {kv : Key × V} {kvs : List (Key × V)} {e : Ent} {L : List Ent} (h : FndAt H (kv :: kvs) (e :: L)) : FndAt H kvs L := ⟨by have := h.1; simp at this; exact this, fun i y q h1 h2 => h.2 (i + 1) y q h1 h2⟩
theorem fnd_get {H : Hp} : ∀ {kvs : List (Key × V)} {L : List Ent} (t : Int), FndAt H kvs L → (L.map (·.1)).Nodup → ((valV kvs (Sum.inl t)).isSome = true ↔ t ∈ L.map (·.1)) ∧ ∀ w, (t, w) ∈ L → ∃ r, valV kvs (Sum.inl t) = some (.ref r) ∧ H r = some (.lst (w.map V.int))
  | [], [], t, _, _ => ⟨⟨(fun z => nomatch z), fun z => absurd z List.not_mem_nil⟩, fun w z => absurd z List.not_mem_nil⟩
  | [], _ :: _, _, h, _ => absurd h.1 (by simp)
  | _ :: _, [], _, h, _ => absurd h.1 (by simp)
  | kv :: kvs, e :: L, t, h, nd => by
    obtain ⟨r, rfl, hr⟩ := h.2 0 kv e rfl rfl
    have nd' := List.nodup_cons.mp nd
    obtain ⟨i1, i2⟩ := fnd_get t (fnd_tail h) nd'.2
    by_cases z : e.1 = t
    · subst z
      rw [valV_pos rfl]
      refine ⟨⟨fun _ => List.mem_cons_self, fun _ => rfl⟩, fun w hw => ?_⟩
      rcases List.mem_cons.mp hw with hw | hw
      · exact ⟨r, rfl, by rw [← hw] at hr; exact hr⟩
      · exact absurd (List.mem_map.mpr ⟨_, hw, rfl⟩) nd'.1
    · have zk : ¬ (Sum.inl e.1 : Key) = Sum.inl t := fun y => z (by injection y)
      rw [valV_neg zk]
      refine ⟨i1.trans ⟨fun y => List.mem_cons_of_mem _ y, fun y => ?_⟩, fun w hw => ?_⟩
      · rcases List.mem_cons.mp y with y | y
        · exact absurd y.symm z
        · exact y
      · rcases List.mem_cons.mp hw with hw | hw
        · rw [← hw] at z
          exact absurd rfl z
        · exact i2 w hw
/-! ### promises -/
def sp_bits_in (K : PySem.W.Frag) (c : Cs) : Sp := fun vs H Q _ => ∃ s : Int, vs = [.int s] ∧ 0 ≤ s ∧ s ≤ 511 ∧ RetV (.int (pcI s : Int)) H Q
def sp_way (K : PySem.W.Frag) (c : Cs) : Sp := fun vs H Q E => ∃ x y, vs = [x, y] ∧ ((Typed K H x ∧ OkS x = false ∧ RetE c.nostate H E) ∨ ∃ s, x = .int s ∧ 0 ≤ s ∧ s ≤ 511 ∧
  ((Typed K H y ∧ OkS y = false ∧ RetE c.nostate H E) ∨ ∃ t, y = .int t ∧ 0 ≤ t ∧ t ≤ 511 ∧ ((pcI s ≠ pcI t ∧ RetE c.noway H E) ∨ (pcI s = pcI t ∧ RetL ((wayF s t).map V.int) H Q))))
/-- bits_in: slots state, many -/
def t_bits_in (K : PySem.W.Frag) (c : Cs) (E : XK) : TS :=
  (tSeq (tAsg (tC (.int 0)) (gName 1))
  (tSeq (tWhile (tTest (tOp xGt (tVar 0) (tC (.int 0)))) (tSeq (tAug 1 (tOp xAnd (tVar 0) (tC (.int 1))) (ipI fun i j => i + j))
  (tAug 0 (tC (.int 1)) xShr)))
  (tRet (tVar 1))))

/-- way: slots one, other, found, waiting, at, state, height, behind -/
def t_way (K : PySem.W.Frag) (c : Cs) (E : XK) : TS :=
  (tSeq (tDrop (tCall (sp_need_state K c) [] E (tCons (tVar 0) tNil)))
  (tSeq (tDrop (tCall (sp_need_state K c) [] E (tCons (tVar 1) tNil)))
  (tSeq (tIfS (tTest (tOp (xNe K) (tCall (sp_bits_in K c) [] E0 (tCons (tVar 0) tNil)) (tCall (sp_bits_in K c) [] E0 (tCons (tVar 1) tNil)))) (fun _ σ H => (fun cls d _ H => E cls d H) (.ref c.noway) none σ H) tNext)
  (tSeq (tAsg (tDisp [((tVar 0), (tLst tNil))]) (gName 2))
  (tSeq (tAsg (tLst (tCons (tVar 0) tNil)) (gName 3))
  (tSeq (tAsg (tC (.int 0)) (gName 4))
  (tSeq (tWhile (tB (tDNotIn (tVar 1) (tVar 2))) (tSeq (tAsg (tOp (rIx K) (tVar 3) (tVar 4)) (gName 5))
  (tSeq (tAug 4 (tC (.int 1)) (ipI fun i j => i + j))
  (tFor (iSeq K (tCall (sp_lets K c) [] E (tCons (tVar 5) tNil))) (gName 6) (tSeq (tAsg (tCall (sp_thrown K c) [] E (tCons (tVar 5) (tCons (tVar 6) tNil))) (gName 7))
  (tIfS (tB (tDNotIn (tVar 7) (tVar 2))) (tSeq (sDPut (tVar 2) (tVar 7) (tOp (xAdd K) (tDGet (tVar 2) (tVar 5)) (tLst (tCons (tVar 6) tNil))))
  (tDrop (tBM K "list" rAppend (tVar 3) (tCons (tVar 7) tNil)))) tNext))))))
  (tRet (tCB (cList K) (tCons (tDGet (tVar 2) (tVar 1)) tNil))))))))))

section
variable {K : PySem.W.Frag} {c : Cs} {vs : List V} {H : Hp} {Q : VK} {E : XK}
theorem pos_nat (n : Nat) : decide ((n : Int) > 0) = decide (0 < n) := by
  rw [Bool.eq_iff_iff, decide_eq_true_eq, decide_eq_true_eq]
  omega
theorem pure_bits_in (h : sp_bits_in K c vs H Q E) : t_bits_in K c E { nx := fun _ H' => Q .non H', rt := Q } (start ["state", "many"] vs) H := by
  obtain ⟨s, rfl, h0, h1, q⟩ := h
  obtain ⟨x, rfl⟩ : ∃ x : Nat, s = (x : Int) := ⟨s.toNat, by omega⟩
  refine q_asg (v := .int 0) ev_c fun H1 e1 => ?_
  let W : Nat → L2.St → Hp → Prop := fun m σ' H' => ∃ j, j ≤ 9 ∧ m + j = 9 ∧ Ex H H' ∧ σ' = [some (.int ((x / 2 ^ j : Nat) : Int)), some (.int ((pc x j : Nat) : Int))]
  refine q_while W 9 ⟨0, by omega, rfl, e1, by rw [Nat.pow_zero, Nat.div_one]; rfl⟩ ?_
  rintro m σ' H' ⟨j, hj, hm, eH, rfl⟩
  refine ⟨decide (0 < x / 2 ^ j), et_is (et_test (ev_op (ev_var rfl) ev_c rv_gt)) (pos_nat _), fun hb H2 e2 => ?_, fun hb H2 e2 => ?_⟩
  · have hb := of_decide_eq_true hb
    have hj9 : j < 9 := by
      by_cases z : j = 9
      · subst z
        have : x / 2 ^ 9 = 0 := Nat.div_eq_of_lt (by omega)
        omega
      · omega
    refine ⟨_, fun _ _ h => h, ?_⟩
    refine q_aug (a := ((pc x j : Nat) : Int)) (b := (((x / 2 ^ j) % 2 : Nat) : Int)) rfl (ev_is (ev_op (ev_var rfl) ev_c rv_and) (by rw [PyProof.Rows.bitAnd_m1, Int.natCast_emod]; rfl)) fun H3 e3 => ?_
    refine s_augO (x := .int ((x / 2 ^ j : Nat) : Int)) (y := .int 1) (z := .int ((x / 2 ^ (j + 1) : Nat) : Int)) rfl ev_c (fun H4 e4 => by
      have z := rv_shr (H := H4) (i := ((x / 2 ^ j : Nat) : Int)) (j := 1) (by decide)
      rw [show ((x / 2 ^ (j + 1) : Nat) : Int) = ((x / 2 ^ j : Nat) : Int) / 2 ^ (1 : Int).toNat by
        rw [Nat.pow_succ, ← Nat.div_div_eq_div_mul, Int.natCast_ediv]
        rfl]
      exact z) fun H4 e4 => ⟨m - 1, by omega, j + 1, by omega, by omega, ((eH.trans e2).trans e3).trans e4, ?_⟩
    have e : ((pc x (j + 1) : Nat) : Int) = ((pc x j : Nat) : Int) + (((x / 2 ^ j) % 2 : Nat) : Int) := by
      rw [pc_succ, Nat.testBit_eq_decide_div_mod_eq]
      by_cases z : x / 2 ^ j % 2 = 1
      · rw [if_pos (decide_eq_true z), z]
        omega
      · rw [if_neg (by rw [decide_eq_true_eq]; exact z), show x / 2 ^ j % 2 = 0 by omega]
        omega
    rw [e]
    rfl
  · have hb := of_decide_eq_false hb
    have z : ∀ k, pc x (j + k) = pc x j := fun k => by
      induction k with
      | zero => rfl
      | succ k ih =>
        rw [show j + (k + 1) = (j + k) + 1 from rfl, pc_succ, ih, if_neg (by
          rw [Nat.testBit_eq_decide_div_mod_eq, decide_eq_true_eq, Nat.pow_add, ← Nat.div_div_eq_div_mul, Nat.eq_zero_of_not_pos hb, Nat.zero_div]
          decide)]
        rfl
    have z9 := z (9 - j)
    rw [show j + (9 - j) = 9 by omega] at z9
    refine s_ret (v := .int (pcI (x : Int) : Int)) (ev_is (ev_var rfl) ?_) fun H3 e3 => q H3 ((eH.trans e2).trans e3)
    show V.int ((pc x j : Nat) : Int) = V.int ((pc (x : Int).toNat 9 : Nat) : Int)
    rw [Int.toNat_natCast, z9]
theorem ev_bits_in {σ : L2.St} {ta : TE} {s : Int} (ha : Ev ta σ H (.int s)) (h0 : 0 ≤ s) (h1 : s ≤ 511) : Ev (tCall (sp_bits_in K c) [] E (tCons ta tNil)) σ H (.int (pcI s : Int)) :=
  ev_call (ea_cons ha ea_nil) fun H1 e Q q _ => ⟨s, rfl, h0, h1, q⟩
theorem ev_thrownS {σ : L2.St} {ta tb : TE} {s h : Int} (ha : Ev ta σ H (.int s)) (hb : Ev tb σ H (.int h)) (h0 : 0 ≤ s) (h1 : s ≤ 511) (hm : h ∈ letsF s) : Ev (tCall (sp_thrown K c) [] E (tCons ta (tCons tb tNil))) σ H (.int (thrownF s h)) :=
  ev_call (ea_cons ha (ea_cons hb ea_nil)) fun H1 e Q q _ => ⟨_, _, rfl, typed_int, typed_int, .inr ⟨s, rfl, h0, h1, .inr ⟨h, rfl, hm, q⟩⟩⟩
theorem el_letsS {σ : L2.St} {ta : TE} {s : Int} (ha : Ev ta σ H (.int s)) (h0 : 0 ≤ s) (h1 : s ≤ 511) : EvL (tCall (sp_lets K c) [] E (tCons ta tNil)) σ H ((letsF s).map V.int) :=
  el_call (ea_cons ha ea_nil) fun H1 e1 Q' q' _ => ⟨.int s, rfl, typed_int, .inr ⟨s, rfl, h0, h1, q'⟩⟩
/-- d[k] = e, e a new list -/
theorem q_dputL {σ : L2.St} {D : Ends} {tz : TS} {td ty te : TE} {a : Addr} {kvs : List (Key × V)} {k : Key} {xs : List V} (hv : EvL te σ H xs) (hd : ∀ H1, Ex H H1 → Ev td σ H1 (.ref a)) (hk : ∀ H1, Ex H H1 → Ev ty σ H1 (kV k)) (ha : H a = some (.dK kvs)) (hz : kvs.length < 100000)
    (q : ∀ r H1, H r = none → Ex H H1 → H1 r = some (.lst xs) → tz D σ (upd H1 a (.dK (putK kvs k (.ref r))))) : tSeq (sDPut td ty te) tz D σ H :=
  hv H (Ex.refl H) _ fun r H1 hr e1 h1 => hd H1 e1 H1 (Ex.refl _) _ fun H2 e2 => hk H2 (e1.trans e2) H2 (Ex.refl _) _ fun H3 e3 => ⟨a, _, rfl, DPut.k (((e1.trans e2).trans e3) a _ ha) (sz_lt hz), q r H3 hr ((e1.trans e2).trans e3) (e3 _ _ (e2 _ _ h1))⟩
theorem pure_way (h : sp_way K c vs H Q E) : t_way K c E { nx := fun _ H' => Q .non H', rt := Q } (start ["one", "other", "found", "waiting", "at", "state", "height", "behind"] vs) H := by
  obtain ⟨x, y, rfl, ⟨tx, hx, q⟩ | ⟨one, rfl, o0, o1, h⟩⟩ := h
  · exact ⟨x, rfl, x, rfl, tx, .inl ⟨hx, q⟩⟩
  refine ⟨.int one, rfl, .int one, rfl, typed_int, .inr ⟨one, rfl, o0, o1, fun H1 e1 => nx_mk ?_⟩⟩
  rcases h with ⟨ty, hy, q⟩ | ⟨oth, rfl, p0, p1, h⟩
  · exact ⟨y, rfl, y, rfl, typed_ex e1 ty, .inl ⟨hy, fun H2 e2 => q H2 (e1.trans e2)⟩⟩
  refine ⟨.int oth, rfl, .int oth, rfl, typed_int, .inr ⟨oth, rfl, p0, p1, fun H2 e2 => nx_mk ?_⟩⟩
  have e12 := e1.trans e2
  refine q_when (b := !decide (pcI one = pcI oth)) (et_is (et_test (ev_op (ev_bits_in (ev_var rfl) o0 o1) (ev_bits_in (ev_var rfl) p0 p1) rv_neI)) (by congr 1; rw [Bool.eq_iff_iff, decide_eq_true_eq, decide_eq_true_eq]; omega)) (fun hb H3 e3 => ?_) fun hb H3 e3 => ?_
  · rcases h with ⟨_, q⟩ | ⟨e, _⟩
    · exact q H3 (e12.trans e3)
    · rw [decide_eq_true e] at hb
      cases hb
  rcases h with ⟨e, _⟩ | ⟨hpc, q⟩
  · rw [decide_eq_false e] at hb
    cases hb
  have e13 := e12.trans e3
  obtain ⟨pw, hpw, _⟩ := joined o0 o1 p0 p1 hpc
  -- the dict of what is found
  refine fun d hd => ⟨.int one, rfl, sz_of (by decide), fun r hr => ⟨?_, [(Sum.inl one, .ref r)], rfl, by show 1 ≤ 15; decide, ?_⟩⟩
  · exact (upd_ne (ne_of_none upd_same hr)).trans upd_same
  have hrd : r ≠ d := Ne.symm (ne_of_none upd_same hr)
  refine nx_mk ?_
  have hdH : H d = none := fresh_back e13 hd
  have e14 : Ex H (upd (upd (upd H3 d (.dK [])) r (.lst [])) d (.dK (mergeK [] [(Sum.inl one, V.ref r)]))) := Ex.mut ((e13.trans (Ex.new hd)).trans (Ex.new hr)) hdH
  have r4 : (upd (upd (upd H3 d (.dK [])) r (.lst [])) d (.dK (mergeK [] [(Sum.inl one, V.ref r)]))) r = some (.lst []) := (upd_ne hrd).trans upd_same
  have d4 : (upd (upd (upd H3 d (.dK [])) r (.lst [])) d (.dK (mergeK [] [(Sum.inl one, V.ref r)]))) d = some (.dK [(Sum.inl one, V.ref r)]) := upd_same
  generalize upd (upd (upd H3 d (.dK [])) r (.lst [])) d (.dK (mergeK [] [(Sum.inl one, V.ref r)])) = H4 at e14 r4 d4
  refine q_asgL (xs := [.int one]) (el_lst (ea_cons (ev_var rfl) ea_nil) (by show 1 ≤ 100000; decide)) fun w H5 hw e5 h5 => ?_
  have hwH : H w = none := fresh_back e14 hw
  have hdw : d ≠ w := ne_of_none d4 hw
  have hrw : r ≠ w := ne_of_none r4 hw
  refine q_asg (v := .int 0) ev_c fun H6 e6 => ?_
  let W : Nat → L2.St → Hp → Prop := fun m σ' H' => ∃ (a : Nat) (L : List Ent) (B : Int) (kvs : List (Key × V)) (u5 u6 u7 : Option V), Bf one L a B ∧ m + a = 513 ∧ Ex H H' ∧ H' d = some (.dK kvs) ∧ H' w = some (.lst ((L.map (·.1)).map V.int)) ∧ FndAt (del (del H' d) w) kvs L ∧
    σ' = [some (.int one), some (.int oth), some (.ref d), some (.ref w), some (.int (a : Int)), u5, u6, u7]
  refine q_while W 513 ⟨0, [(one, [])], 1, [(Sum.inl one, .ref r)], none, none, none, bf_start, rfl, (e14.trans e5).trans e6, e6 _ _ (e5 _ _ d4), e6 _ _ h5, ⟨rfl, fun i kv e h1 h2 => ?_⟩, rfl⟩ ?_
  · cases i with
    | zero =>
      cases h1
      cases h2
      exact ⟨r, rfl, del_at hrw (del_at hrd (e6 _ _ (e5 _ _ r4)))⟩
    | succ i => cases h1
  rintro m σ' H' ⟨a, L, B, kvs, u5, u6, u7, b, hm, eH, hdk, hww, hf, rfl⟩
  obtain ⟨g1, g2⟩ := fnd_get oth hf b.nd
  refine ⟨!(valV kvs (Sum.inl oth)).isSome, et_B (ev_dnotin (k := Sum.inl oth) (ev_var rfl) (ev_var rfl) hdk), fun hb H7 e7 => ⟨_, fun _ _ h => h, ?_⟩, fun hb H7 e7 => ?_⟩
  · have hno : ¬ oth ∈ L.map (·.1) := fun z => by
      rw [g1.mpr z] at hb
      cases hb
    have hal := bf_more b ⟨_, hpw⟩ hno
    have hlen := found_len b.nd b.path o0 o1
    obtain ⟨⟨s, p⟩, ha⟩ : ∃ e, L[a]? = some e := ⟨_, List.getElem?_eq_getElem hal⟩
    have hsm := List.mem_of_getElem? ha
    have ok := (b.path _ hsm).ok o0 o1
    have s0 : 0 ≤ s := ok.1
    have s1 : s ≤ 511 := ok.2.1
    have eH7 := eH.trans e7
    have hat : atI ((L.map (·.1)).map V.int) (a : Int) = some (.int s) := by
      have z : ((L.map (·.1)).map V.int)[a]? = some (.int s) := by
        rw [List.getElem?_map, List.getElem?_map, ha]
        rfl
      exact at_lt (n := 0) (by omega) (by rw [List.length_map, List.length_map]; omega) (by rw [Int.toNat_natCast]; exact z)
    refine q_asg (v := .int s) (ev_ix (i := (a : Int)) (evq_of (ev_var rfl) (.inl (SqL.of (e7 _ _ hww)))) (fun _ _ => ev_var rfl) hat) fun H8 e8 => ?_
    refine q_aug (a := (a : Int)) (b := 1) rfl ev_c fun H9 e9 => ?_
    have e79 := (e7.trans e8).trans e9
    have eH9 := eH.trans e79
    have bw := bw_start b o0 o1 ha
    refine s_forN (xs := (letsF s).map V.int) (el_letsS (K := K) (c := c) (ev_var rfl) s0 s1) (fun f i σ' H' => H' f = some (.lst ((letsF s).map V.int)) ∧ f ≠ w ∧ Ex H H' ∧ (∃ (L : List Ent) (kvs : List (Key × V)), Bw one L a s p ((letsF s).drop i) ∧ H' d = some (.dK kvs) ∧ H' w = some (.lst ((L.map (·.1)).map V.int)) ∧ FndAt (del (del H' d) w) kvs L) ∧
      ∃ u v, σ' = [some (.int one), some (.int oth), some (.ref d), some (.ref w), some (.int ((a : Int) + 1)), some (.int s), u, v])
      (fun f H10 hf10 e10 h10 => ⟨h10, Ne.symm (ne_of_none (e79 _ _ hww) hf10), eH9.trans e10, ⟨L, kvs, bw, e10 _ _ (e79 _ _ hdk), e10 _ _ (e79 _ _ hww), fnd_ex (ex_dels (but_ex (ex_dels (but_ex (e79.trans e10))))) hf⟩, u6, u7, rfl⟩) (fun f i σ' H' z => z.1) ?_ ?_
    · rintro f i x σ' H10 hx ⟨hff, hfw, eH10, ⟨L, kvs, bw, hdk, hww, hf⟩, u, v, rfl⟩
      obtain ⟨hil, rfl⟩ := getD_of hx
      have hdrop : (letsF s).drop i = (letsF s).getD i 0 :: (letsF s).drop (i + 1) := by
        rw [List.drop_eq_getElem_cons hil, List.getD_eq_getElem?_getD, List.getElem?_eq_getElem hil]
        rfl
      rw [hdrop] at bw
      generalize (letsF s).getD i 0 = h at bw
      have hl : h ∈ letsF s := bw.sub h List.mem_cons_self
      have hh := lets_hgt hl
      have hlen := found_len bw.nd bw.path o0 o1
      refine q_asg (v := .int (thrownF s h)) (ev_thrownS (K := K) (c := c) (ev_var rfl) (ev_var rfl) s0 s1 hl) fun H11 e11 => ?_
      obtain ⟨g1, g2⟩ := fnd_get (thrownF s h) hf bw.nd
      refine s_when (b := !(valV kvs (Sum.inl (thrownF s h))).isSome) (et_B (ev_dnotin (k := Sum.inl (thrownF s h)) (ev_var rfl) (ev_var rfl) (e11 _ _ hdk))) (fun hb H12 e12 => ?_) fun hb H12 e12 => ?_
      · have hno : ¬ thrownF s h ∈ L.map (·.1) := fun z => by
          rw [g1.mpr z] at hb
          cases hb
        have hvn : valV kvs (Sum.inl (thrownF s h)) = none := by
          cases z : valV kvs (Sum.inl (thrownF s h)) with
          | none => rfl
          | some o =>
            rw [z] at hb
            cases hb
        have e1012 := e11.trans e12
        obtain ⟨_, g4⟩ := fnd_get s hf bw.nd
        obtain ⟨r0, hv0, hr0⟩ := g4 p (List.mem_of_getElem? bw.at_)
        have hr12 : H12 r0 = some (.lst (p.map V.int)) := e1012 _ _ (ex_del _ _ (ex_del _ _ hr0))
        have bw' := bw_new bw hno
        have pl : p.length ≤ 18 := by
          have hmem := List.mem_of_getElem? bw.at_
          have hpp := bw.path _ hmem
          obtain ⟨q', hq', hl'⟩ := joined o0 o1 s0 s1 (hpp.ok o0 o1).2.2.symm
          have := key_len (c := 1) (by decide) hpp.hgt hq'.hgt (bw.mn _ hmem q' hq')
          show p.length ≤ 18
          have e : (s, p).2 = p := rfl
          rw [e] at this
          omega
        refine q_dputL (k := Sum.inl (thrownF s h)) (xs := (p ++ [h]).map V.int) ?_ (fun _ _ => ev_var rfl) (fun _ _ => ev_var rfl) (e1012 _ _ hdk) (by have := hf.1; omega) fun rn H13 hrn e13' h13 => ?_
        · rw [List.map_append]
          exact el_cat (evs_of (ev_dget (k := Sum.inl s) (ev_var rfl) (ev_var rfl) (e1012 _ _ hdk) hv0) (SqL.of hr12)) (evs_new (el_lst (ea_cons (ev_var rfl) ea_nil) (by show 1 ≤ 100000; decide))) (by rw [List.length_map]; show p.length + 1 ≤ 100000; omega)
        have e1013 := e1012.trans e13'
        have hrd' : rn ≠ d := Ne.symm (ne_of_none (e1012 _ _ hdk) hrn)
        have hrw' : rn ≠ w := Ne.symm (ne_of_none (e1012 _ _ hww) hrn)
        have eH14 : Ex H (upd H13 d (.dK (putK kvs (Sum.inl (thrownF s h)) (.ref rn)))) := Ex.mut (eH10.trans e1013) hdH
        have b14 : But d H10 (upd H13 d (.dK (putK kvs (Sum.inl (thrownF s h)) (.ref rn)))) := but_upd e1013
        have d14 : (upd H13 d (.dK (putK kvs (Sum.inl (thrownF s h)) (.ref rn)))) d = some (.dK (kvs ++ [(Sum.inl (thrownF s h), .ref rn)])) := by rw [upd_same, putK_new _ hvn]
        have rn14 : (upd H13 d (.dK (putK kvs (Sum.inl (thrownF s h)) (.ref rn)))) rn = some (.lst ((p ++ [h]).map V.int)) := (upd_ne hrd').trans h13
        generalize upd H13 d (.dK (putK kvs (Sum.inl (thrownF s h)) (.ref rn))) = H14 at eH14 b14 d14 rn14
        refine s_app (v := .int (thrownF s h)) (b14 _ _ (Ne.symm hdw) hww) (ev_var rfl) (ev_var rfl) (by rw [List.length_map, List.length_map]; omega) fun H15 e15 => ⟨(upd_ne hfw).trans (e15 _ _ (b14 _ _ (fun z => by
          subst z
          rw [hdk] at hff
          cases hff) hff)), hfw, Ex.mut (eH14.trans e15) hwH, ⟨L ++ [(thrownF s h, p ++ [h])], kvs ++ [(Sum.inl (thrownF s h), .ref rn)], bw', (upd_ne hdw).trans (e15 _ _ d14), ?_, ?_⟩, some (.int h), some (.int (thrownF s h)), rfl⟩
        · rw [upd_same, List.map_append, List.map_append]
          rfl
        · have st : Ex (del (del H10 d) w) (del (del (upd H15 w (.lst ((L.map (·.1)).map V.int ++ [.int (thrownF s h)]))) d) w) := ex_dels fun b o hb ho => by
            by_cases z : b = d
            · subst z
              rw [L2.del_same] at ho
              cases ho
            · rw [L2.del_ne z] at ho ⊢
              exact (upd_ne hb).trans (e15 _ _ (b14 _ _ z ho))
          exact fnd_snoc (e := (thrownF s h, p ++ [h])) (fnd_ex st hf) (del_at hrw' (del_at hrd' ((upd_ne hrw').trans (e15 _ _ rn14))))
      · have hyes : thrownF s h ∈ L.map (·.1) := by
          rw [Bool.not_eq_false'] at hb
          exact g1.mp hb
        have e1012 := e11.trans e12
        exact ⟨e1012 _ _ hff, hfw, eH10.trans e1012, ⟨L, kvs, bw_old bw hyes, e1012 _ _ hdk, e1012 _ _ hww, fnd_ex (ex_dels (but_ex (ex_dels (but_ex e1012)))) hf⟩, some (.int h), some (.int (thrownF s h)), rfl⟩
    · rintro f σ' H10 ⟨hff, hfw, eH10, ⟨L, kvs, bw, hdk, hww, hf⟩, u, v, rfl⟩
      rw [List.length_map, List.drop_length] at bw
      exact ⟨m - 1, by omega, a + 1, L, keyF 1 p + 1, kvs, some (.int s), u, v, bw_end bw, by omega, eH10, hdk, hww, hf, rfl⟩
  · have hyes : oth ∈ L.map (·.1) := by
      rw [Bool.not_eq_false'] at hb
      exact g1.mp hb
    obtain ⟨⟨t', wy⟩, hmem, et⟩ := List.mem_map.mp hyes
    have et : t' = oth := et
    subst et
    obtain ⟨r', hv, hr'⟩ := g2 wy hmem
    have hw' := way_is (bf_way b hmem)
    have eH7 := eH.trans e7
    have hr7 : H7 r' = some (.lst (wy.map V.int)) := e7 _ _ (ex_del _ _ (ex_del _ _ hr'))
    rw [hw'] at q
    refine s_retL (xs := wy.map V.int) (el_listQ (evq_of (ev_dget (k := Sum.inl t') (ev_var rfl) (ev_var rfl) (e7 _ _ hdk) hv) (.inl (SqL.of hr7)))) fun l H8 hl e8 h8 => q l H8 (fresh_back eH7 hl) (eH7.trans e8) h8
end
end Tr

/-! Comprehensions in comprehensions. -/
namespace Tr
open PySem L2 PySem.Spec PyProof.Rows Evl

theorem lookup_relabel_ne {env : Env} {x : PySem.Str} {k : NameKind} (hk : k = .cell ∨ k = .free) : ∀ {l : List (PySem.Str × NameKind)}, l.lookup x = some k →
    (l.map fun y => if (y.2 == NameKind.free && env.scope.kind == ScopeKind.function && env.kindOf y.1 == some NameKind.cell) = true then (y.1, NameKind.cell) else (y.1, y.2)).lookup x = some .cell ∨
    (l.map fun y => if (y.2 == NameKind.free && env.scope.kind == ScopeKind.function && env.kindOf y.1 == some NameKind.cell) = true then (y.1, NameKind.cell) else (y.1, y.2)).lookup x = some .free
  | [], h => nomatch h
  | (a, b) :: l, h => by
    rw [List.lookup_cons] at h
    rw [List.map_cons]
    cases hb : x == a with
    | true =>
      rw [hb] at h
      have hbk : b = k := Option.some.inj h
      by_cases q : (b == NameKind.free && env.scope.kind == ScopeKind.function && env.kindOf a == some NameKind.cell) = true
      · rw [if_pos q, List.lookup_cons, hb]
        exact .inl rfl
      · rw [if_neg q, List.lookup_cons, hb]
        rcases hk with hk | hk
        · exact .inl (by rw [← hk, ← hbk])
        · exact .inr (by rw [← hk, ← hbk])
    | false =>
      rw [hb] at h
      have z := lookup_relabel_ne (env := env) hk h
      by_cases q : (b == NameKind.free && env.scope.kind == ScopeKind.function && env.kindOf a == some NameKind.cell) = true
      · rw [if_pos q, List.lookup_cons, hb]
        exact z
      · rw [if_neg q, List.lookup_cons, hb]
        exact z
theorem blkOk_in {X : Cx} {s : Shared} {H : Hp} {scope0 scope : Scope} {cl : List (PySem.Str × Addr)} {C : Addr} {fp : List Addr} {N : List PySem.Str} {own : List (PySem.Str × Nat)} (hN : X.N = N) (h : blkC N scope0 scope own = true) :
    BlkOk (X.blk s H scope0 (compEnvC scope0 cl C X.env) fp).N (X.blk s H scope0 (compEnvC scope0 cl C X.env) fp).env.scope scope own := by
  subst hN
  have b := blkOk_by h
  exact ⟨b.kind, b.uniq, b.ix, fun y hy e => (b.free y hy e).elim (lookup_relabel_ne (.inl rfl)) (lookup_relabel_ne (.inr rfl)), b.own⟩

section
variable {K : PySem.W.Frag} {σ : L2.St} {H : Hp} {t : TT} {te tl : TE} {ta : TA}
/-- [e for i, x in enumerate(..)] -/
theorem lcEn {J : It} {xs : List V} {p q : Nat} {ws : List Nat} {Q : VK} {H0 H1 : Hp} (f : Nat → Bool) (v : Nat → V) (e0 : Ex H0 H1) (hn : xs.length ≤ 40000) (hgo : ∀ i H', i < xs.length → Ex H1 H' → J.go i H') (hst : ∀ H', Ex H1 H' → J.stop xs.length H')
    (hy : ∀ i x H' H'', i < xs.length → Ex H1 H' → J.yld i H' x H'' → ∃ T y, x = .ref T ∧ H' T = none ∧ H'' = upd H' T (.tup [.int (i : Nat), y]) ∧ xs[i]? = some y)
    (hw : ∀ x y, wipe (((wipe σ ws).set p (some x)).set q (some y)) ws = wipe σ ws)
    (ht : ∀ (i : Nat) (x : V) H1, Ex H0 H1 → xs[i]? = some x → EvT t (((wipe σ ws).set p (some (.int (i : Int)))).set q (some x)) H1 (f i))
    (he : ∀ (i : Nat) (x : V) H1, Ex H0 H1 → xs[i]? = some x → f i = true → Ev te (((wipe σ ws).set p (some (.int (i : Int)))).set q (some x)) H1 (v i))
    (k : ∀ D H2, H1 D = none → Ex H1 H2 → H2 D = some (.lst (given xs.length f v)) → Q (.ref D) H2) :
    ∀ D, H1 D = none → ∃ W : Nat → Nat → Hp → Prop, (∃ m, W 0 m (upd H1 D (.lst []))) ∧ ∀ i m H, W i m H →
      (J.stop i H ∧ Q (.ref D) H) ∨ (J.go i H ∧ ∃ Nx : Hp → Prop, (∀ H', Nx H' → ∃ m', m' < m ∧ W (i + 1) m' H') ∧ ∀ x H', J.yld i H x H' → gTup K 2 (gCons (gName p) (gCons (gName q) gNil)) x (wipe σ ws) H' fun σ2 H2 => wipe σ2 ws = wipe σ ws ∧ t σ2 H2 fun b H3 =>
        if b = true then te σ2 H3 fun y H4 => ∃ acc, H4 D = some (.lst acc) ∧ acc.length < sizeLine ∧ Nx (upd H4 D (.lst (acc ++ [y]))) else Nx H3) := by
  intro D hD
  refine ⟨fun i m H => m + i = xs.length ∧ Cw H1 f v D i H, ⟨xs.length, rfl, hD, Ex.new hD, upd_same⟩, ?_⟩
  rintro i m H ⟨hm, p1, p2, p3⟩
  by_cases hi : i < xs.length
  · refine .inr ⟨hgo i H hi p2, Cw H1 f v D (i + 1), fun H' z => ⟨m - 1, by omega, by omega, z⟩, fun x H' hyl => ?_⟩
    obtain ⟨T, y, rfl, hT, rfl, hxy⟩ := hy i x H H' hi p2 hyl
    have p2' := p2.trans (Ex.new (o := .tup [.int (i : Nat), y]) hT)
    refine g_two ⟨hw _ _, ?_⟩
    refine cw_turn (H := H1) ⟨p1, p2', ?_⟩ (by omega) ?_ fun hf => ?_
    · rw [upd_ne (fun z => by rw [← z, p3] at hT; cases hT)]
      exact p3
    · exact ht i y H1 e0 hxy
    · exact he i y H1 e0 hxy hf
  · have : i = xs.length := by omega
    subst this
    exact .inl ⟨hst H p2, k D H p1 p2 p3⟩
theorem el_lcEn {a : Addr} {xs : List V} {p q : Nat} {ws : List Nat} (f : Nat → Bool) (v : Nat → V) (h : Ev tl σ H (.ref a)) (hx : SqQ K H a xs) (hz : xs.length ≤ 40000) (hw : ∀ x y, wipe (((wipe σ ws).set p (some x)).set q (some y)) ws = wipe σ ws)
    (ht : ∀ (i : Nat) (x : V) H1, Ex H H1 → xs[i]? = some x → EvT t (((wipe σ ws).set p (some (.int (i : Int)))).set q (some x)) H1 (f i))
    (he : ∀ (i : Nat) (x : V) H1, Ex H H1 → xs[i]? = some x → f i = true → Ev te (((wipe σ ws).set p (some (.int (i : Int)))).set q (some x)) H1 (v i)) :
    EvL (tLc (iEnumQ K (tCons tl tNil)) (gTup K 2 (gCons (gName p) (gCons (gName q) gNil))) t te ws) σ H (given xs.length f v) := fun H0 e Q k => by
  rcases hx with hx | hx
  · refine .inl (h H0 e _ fun H1 e1 => ⟨a, xs, rfl, ex_l (e.trans e1) hx, lcEn f v (e.trans e1) hz (fun i H' hi e' => ⟨xs, xs[i], ex_l ((e.trans e1).trans e') hx, List.getElem?_eq_getElem hi⟩)
      (fun H' e' => ⟨xs, ex_l ((e.trans e1).trans e') hx, Nat.le_refl _⟩) ?_ hw ht he fun D H2 hD e2 h2 => k D H2 (fresh_back e1 hD) (e1.trans e2) h2⟩)
    rintro i x H' H'' hi e' ⟨T, y, rfl, hT, rfl, hy⟩
    exact ⟨T, y, rfl, hT, rfl, hy xs (ex_l ((e.trans e1).trans e') hx)⟩
  · refine .inr (h H0 e _ fun H1 e1 => ⟨a, xs, rfl, ex_t (e.trans e1) hx, lcEn f v (e.trans e1) hz (fun i H' hi e' => ⟨xs, xs[i], ex_t ((e.trans e1).trans e') hx, List.getElem?_eq_getElem hi⟩)
      (fun H' e' => ⟨xs, ex_t ((e.trans e1).trans e') hx, Nat.le_refl _⟩) ?_ hw ht he fun D H2 hD e2 h2 => k D H2 (fresh_back e1 hD) (e1.trans e2) h2⟩)
    rintro i x H' H'' hi e' ⟨T, y, rfl, hT, rfl, hy⟩
    exact ⟨T, y, rfl, hT, rfl, hy xs (ex_t ((e.trans e1).trans e') hx)⟩
/-- len(set(..)) of ints that differ -/
theorem ev_lenSet {ns : List Int} (h : EvS K te σ H (ns.map V.int)) (h64 : ns.length < 64) (nd : ns.Nodup) : Ev (tLenSetI K te) σ H (.int ((ns.length : Nat) : Int)) := fun H1 e1 Q q =>
  h H1 e1 _ fun p H2 e2 hp => ⟨p, ns, rfl, hp, h64, nd, q H2 e2⟩
end
end Tr

/-! Own classes: methods with their promises, instances made, also within a try's body; fields. -/
namespace Tr
open PySem L2 PySem.Spec PyProof.Rows Evl

/-- the method m of the text st stands at f, in the class at C -/
structure MAt (K : PySem.W.Frag) (C : Addr) (m q : Str) (st : Stmt) (ps : List Str) (f : Addr) : Prop where
  fn : ∃ fd, Fun K m q st f fd ∧ Binds K fd ps []
  me : Meth K C m f
/-- the method keeps its promise -/
structure MD (P : Program) (w : World) (K : PySem.W.Frag) (mg : Str → Option Value) (base : Heap) (k : Nat) (C : Addr) (m : Str) (f : Addr) (ps : List Str) (sp : Sp) : Prop where
  fn : ∃ fd, FnOk P w K mg base (L2.CX P w) k f fd ps sp ∧ Binds K fd ps []
  me : Meth K C m f
section
variable {P : Program} {w : World} {K : PySem.W.Frag} {mg : Str → Option Value} {base : Heap}
theorem MAt.keeps {C : Addr} {m q : Str} {st : Stmt} {f : Addr} {N ps : List Str} {k : Nat} {sp : Sp} (D : MAt K C m q st ps f) (S : FnScope N ps (defScope st)) (len : ∀ vs H Q E, sp vs H Q E → vs.length = ps.length)
    (hbody : ∀ (cdv : Value) (A : Around) (outer : List Env) (s : Shared) (H : Hp) (vs : List V) (Q : VK) (E : XK), Room k (A.deeper (envOfC q (defScope st) s.heap.objs.size f cdv)) → sp vs H Q E →
      ∃ t, PSs (cxOf (L2.CX P w) P w K mg base N q (defScope st) f cdv A outer s H E) (defBody st) t ∧ t { nx := fun _ H' => Q .non H', rt := Q } (start N vs) H) : MD P w K mg base (k + 1) C m f ps sp := by
  obtain ⟨fd, F, b⟩ := D.fn
  exact ⟨⟨fd, F.okX S len hbody, b⟩, D.me⟩
end
section
variable {X : Cx} {k j : Nat} {f C : Addr} {ps : List Str} {sp : Sp} {E : XK} {m x : Str} {p pos apos : Pos} {e o : Expr} {es : List Expr} {t : TA} {ta : TE} {pl : Sem Bool}
theorem pe_md (he : PE X o ta) (c : Cls X.K C) (D : MD X.prog X.w X.K X.mg X.base k C m f ps sp) (hr : Room k X.A) (hx : Passes (L2.CX X.prog X.w) X E) (ha : PA X (e :: es) t)
    (hst : starEach (e :: es) X.env = (false, eval e X.env) :: starEach es X.env := by rfl) (hpl : (backTo pos (starEach es X.env)).any (·.1) = false := by rfl)
    (ht : eval (.Call (.Attribute o m apos) (e :: es) [] pos) X.env = (do
      let ov ← eval o X.env
      standAt apos.atName
      let (f, first) ← holding [ov] (getMethod ov m pl)
      callWith pos f first (backTo pos (starEach (e :: es) X.env)) (backToKw pos (keywordEach [] X.env))) := by rfl) :
    PE X (.Call (.Attribute o m apos) (e :: es) [] pos) (tMeth C m sp [] E ta t) := by
  obtain ⟨fd, F, b⟩ := D.fn
  exact pe_meth he c D.me F hr b .nil hx ha hst hpl ht
theorem pe_md0 (he : PE X o ta) (c : Cls X.K C) (D : MD X.prog X.w X.K X.mg X.base k C m f ps sp) (hr : Room k X.A) (hx : Passes (L2.CX X.prog X.w) X E)
    (ht : eval (.Call (.Attribute o m apos) [] [] pos) X.env = (do
      let ov ← eval o X.env
      standAt apos.atName
      let (f, first) ← holding [ov] (getMethod ov m pl)
      callWith pos f first (backTo pos (starEach [] X.env)) (backToKw pos (keywordEach [] X.env))) := by rfl) :
    PE X (.Call (.Attribute o m apos) [] [] pos) (tMeth C m sp [] E ta tNil) := by
  obtain ⟨fd, F, b⟩ := D.fn
  exact pe_meth0 he c D.me F hr b .nil hx ht
/-- the same within a try's body -/
def tMethS (C : Addr) (m : Str) (sp : Sp) (E : L2.St → XK) (ta : TE) (t : TA) : TE := fun σ H Q => ta σ H fun x H1 => ∃ a dx fs, x = .ref a ∧ H1 a = some (.ins C dx fs) ∧ fs.lookup m = none ∧ t σ H1 fun vs H2 => sp (x :: vs) H2 Q (E σ)
theorem pe_mdS {E : L2.St → XK} (he : PE X o ta) (c : Cls X.K C) (D : MD X.prog X.w X.K X.mg X.base k C m f ps sp) (hr : Room k X.A) (hx : ∀ σ, PassesAt (L2.CX X.prog X.w) X σ (E σ)) (ha : PA X (e :: es) t)
    (hst : starEach (e :: es) X.env = (false, eval e X.env) :: starEach es X.env := by rfl) (hpl : (backTo pos (starEach es X.env)).any (·.1) = false := by rfl)
    (ht : eval (.Call (.Attribute o m apos) (e :: es) [] pos) X.env = (do
      let ov ← eval o X.env
      standAt apos.atName
      let (f, first) ← holding [ov] (getMethod ov m pl)
      callWith pos f first (backTo pos (starEach (e :: es) X.env)) (backToKw pos (keywordEach [] X.env))) := by rfl) :
    PE X (.Call (.Attribute o m apos) (e :: es) [] pos) (tMethS C m sp E ta t) := by
  obtain ⟨fd, F, hb⟩ := D.fn
  refine ⟨fun pins s σ H Q I h => ?_⟩
  refine PySem.W.methodCall_KW (pl := pl) (thn (he.run pins s σ H _ I h) fun u s1 ⟨x, H1, I1, rx, a, dx, fs, ex, ea, l, q⟩ => ?_) ht
  subst ex
  obtain rfl : u = Value.ref a := rx
  refine getmeth_ok I1 ea c D.me l ?_
  refine PySem.W.callWith_K (first := [.ref a]) (h₀ := X.base) I.ok.mod.kin D.me.kp (thn (ha.run pos pins s1 σ H1 _ I1 q) fun us s2 ⟨vs, H2, I2, r, q2⟩ => ⟨I2.kIn, ?_⟩) hst hpl
  exact run_fnS (us := .ref a :: us) (vs := .ref a :: vs) F hr hb (hx σ) I2 (.cons rfl r) q2
/-- C(e, ..) -/
theorem pe_mk (kc : PySem.W.makesIn X.K C = true) (kk : PySem.W.keepIn X.K (.ref C) = true) (D : MD X.prog X.w X.K X.mg X.base k C "__init__" f ps sp) (hr : Room (k + 1) X.A) (hg : Gl X x) (hm : X.mg x = some (.ref C)) (hx : Passes (L2.CX X.prog X.w) X E) (ha : PA X (e :: es) t)
    (hdb : (x == ("__debug__" : Str)) = false := by decide) (he : starEach (e :: es) X.env = (false, eval e X.env) :: starEach es X.env := by rfl) (hpl : (backTo pos (starEach es X.env)).any (·.1) = false := by rfl) :
    PE X (.Call (.Name x p) (e :: es) [] pos) (tMake C sp [] E t) := by
  obtain ⟨fd, F, b⟩ := D.fn
  exact pe_make ⟨kc, D.me.at_, D.me.fn, kk⟩ F hr hg hm b .nil hx ha hdb he hpl
def tMakeS (C : Addr) (sp : Sp) (E : L2.St → XK) (t : TA) : TE := fun σ H Q => t σ H fun vs H1 => ∀ x dx, H1 x = none → H1 dx = none → dx ≠ x →
  sp (.ref x :: vs) (upd (upd H1 dx (.own x)) x (.ins C dx [])) (fun v H2 => v = .non ∧ Q (.ref x) H2) (E σ)
theorem run_makeG {CX : CXT} {fd : FuncData} {E : XK} {pins : List (Addr × Obj)} {σ : L2.St} {H : Hp} {s : Shared} {Q : VK} {us : List Value} {vs : List V} (M : Mk X.K C f) (F : FnOk X.prog X.w X.K X.mg X.base CX k f fd ps sp) (hr : Room (k + 1) X.A) (hb : Binds X.K fd ps [])
    (hx : PassesAt CX X σ E) (I : Inv X pins σ H s) (r : Vals vs us)
    (h : ∀ x dx, H x = none → H dx = none → dx ≠ x → sp (.ref x :: vs) (upd (upd H dx (.own x)) x (.ins C dx [])) (fun v H2 => v = .non ∧ Q (.ref x) H2) E) :
    wpAny (model X.prog X.w) X.A (call (.ref C) us) (EP X pins σ Q) X.xe s := by
  have hq := h (s.heap.objs.size + 1) s.heap.objs.size (I.hok.fresh (Nat.le_succ _)) (I.hok.fresh (Nat.le_refl _)) (Nat.ne_of_lt (Nat.lt_succ_self _))
  have I2 := Inv.made (C := C) I
  have r2 : Vals (V.ref (s.heap.objs.size + 1) :: vs) (Value.ref (s.heap.objs.size + 1) :: us) := .cons rfl r
  have hl : (Value.ref (s.heap.objs.size + 1) :: us).length = ps.length := by
    have e := r2.length
    rw [F.len _ _ _ _ hq] at e
    exact e.symm
  have b := hb { s with heap := (s.heap.push PySem.W.emptyDict).push (PySem.W.instObj C s.heap.objs.size) } (Value.ref (s.heap.objs.size + 1) :: us) I2.kIn (by rw [List.append_nil]; exact hl)
  rw [List.append_nil] at b
  refine wpAny_call (make_map (f := f) I.kIn M.makes M.init (beq_iff_eq.mp M.fn) (codeAny_mono (F.run _ X.stack _ _ ⟨Value.ref (s.heap.objs.size + 1) :: us, []⟩ (Value.ref (s.heap.objs.size + 1) :: us) _ _ E (hr.make C us [])
    (I2.env0.make C us []) b r2 hq) fun r s' hq' => ?_))
  cases r with
  | error e => exact hx pins _ _ e s' I2 hq'
  | ok fl =>
    cases fl with
    | ret u =>
      obtain ⟨v, H', I3, rv, ev, q3⟩ := I2.after hq'
      subst ev
      exact ⟨rv, ⟨V.ref (s.heap.objs.size + 1), H', I3, rfl, q3⟩⟩
    | next => exact False.elim hq'
    | brk => exact False.elim hq'
    | cont => exact False.elim hq'
theorem pe_mkS {E : L2.St → XK} (kc : PySem.W.makesIn X.K C = true) (kk : PySem.W.keepIn X.K (.ref C) = true) (D : MD X.prog X.w X.K X.mg X.base k C "__init__" f ps sp) (hr : Room (k + 1) X.A) (hg : Gl X x) (hm : X.mg x = some (.ref C)) (hx : ∀ σ, PassesAt (L2.CX X.prog X.w) X σ (E σ)) (ha : PA X (e :: es) t)
    (hdb : (x == ("__debug__" : Str)) = false := by decide) (he : starEach (e :: es) X.env = (false, eval e X.env) :: starEach es X.env := by rfl) (hpl : (backTo pos (starEach es X.env)).any (·.1) = false := by rfl) :
    PE X (.Call (.Name x p) (e :: es) [] pos) (tMakeS C sp E t) := by
  obtain ⟨fd, F, b⟩ := D.fn
  refine ⟨fun pins s σ H Q I h => ?_⟩
  refine wpAny_Call_Name_kw (ld_glob I hg hm ?_ hdb)
  refine PySem.W.callWith_K (h₀ := X.base) I.ok.mod.kin kk (thn (ha.run pos pins s σ H _ I h) fun us s1 ⟨vs, H1, I1, r, q⟩ => ⟨I1.kIn, ?_⟩) he hpl
  exact run_makeG ⟨kc, D.me.at_, D.me.fn, kk⟩ F hr b (hx σ) I1 r q
end
/-- what of the text a hall must have -/
structure HallK (K : PySem.W.Frag) (C : Addr) : Prop where
  cl : Cls K C
  now : NoAttr K C "now"
  bits : NoAttr K C "bits"
  flying : NoAttr K C "flying"
  path : NoAttr K C "path"
  form : NoAttr K C "form"
  spot : NoAttr K C "spot"
  notes : NoAttr K C "notes"
structure HallC (K : PySem.W.Frag) (mg : Str → Option Value) (C : Addr) : Prop where
  g : mg "Hall" = some (.ref C)
  k : HallK K C
  ms : PySem.W.makesIn K C = true
  kp : PySem.W.keepIn K (.ref C) = true
end Tr

/-! The row backward: its mathematics; sorted lists of pairs; comprehensions of pairs; walks over a dict's keys. -/
namespace Tr
open PySem L2 PySem.Spec PyProof.Rows Evl

/-! ### the row backward -/
def ngN (ns : List Int) (u : Nat) : Nat := ((-(u : Int)) % ns.length).toNat
def backUp (ns : List Int) (i : Nat) : List Int := (List.range i).foldl (fun r t => r.set (ngN ns (nxN ns t)) (ns.getD t 0)) (List.replicate ns.length 0)
def backF (ns : List Int) : List Int := backUp ns ns.length
section
variable {ns : List Int}
theorem backUp_succ (i : Nat) : backUp ns (i + 1) = (backUp ns i).set (ngN ns (nxN ns i)) (ns.getD i 0) := by
  unfold backUp
  rw [List.range_succ, List.foldl_append]
  rfl
theorem backUp_len : ∀ i, (backUp ns i).length = ns.length
  | 0 => List.length_replicate ..
  | i + 1 => by rw [backUp_succ, List.length_set, backUp_len i]
theorem back_len : (backF ns).length = ns.length := backUp_len _
theorem ng_lt (hn : 0 < ns.length) (u : Nat) : ngN ns u < ns.length := by
  have b0 : 0 ≤ (-(u : Int)) % (ns.length : Int) := Int.emod_nonneg _ (by omega)
  have b1 : (-(u : Int)) % (ns.length : Int) < ns.length := Int.emod_lt_of_pos _ (by omega)
  unfold ngN
  omega
theorem ng_int (hn : 0 < ns.length) (u : Nat) : ((ngN ns u : Nat) : Int) = (-(u : Int)) % ns.length := by
  have b0 : 0 ≤ (-(u : Int)) % (ns.length : Int) := Int.emod_nonneg _ (by omega)
  unfold ngN
  omega
theorem neg_mod {a n : Int} : (-(a % n)) % n = (-a) % n := by
  have e : -(a % n) = -a + n * (a / n) := by
    have z := Int.mul_ediv_add_emod a n
    omega
  rw [e, Int.add_mul_emod_self_left]
theorem ng_ng (hn : 0 < ns.length) {u : Nat} (hu : u < ns.length) : ngN ns (ngN ns u) = u := by
  have z := ng_int hn (ngN ns u)
  rw [ng_int hn u] at z
  have e : (-((-(u : Int)) % ns.length)) % (ns.length : Int) = u := by
    rw [neg_mod, Int.neg_neg, Int.emod_eq_of_lt (by omega) (by omega)]
  omega
theorem ng_inj (hn : 0 < ns.length) {u v : Nat} (hu : u < ns.length) (hv : v < ns.length) (e : ngN ns u = ngN ns v) : u = v := by
  have z := congrArg (ngN ns) e
  rwa [ng_ng hn hu, ng_ng hn hv] at z
theorem backUp_at (hn : 0 < ns.length) (hg : Goes ns) : ∀ i, i ≤ ns.length → ∀ t, t < i → (backUp ns i).getD (ngN ns (nxN ns t)) 0 = ns.getD t 0
  | 0, _, t, ht => absurd ht (Nat.not_lt_zero _)
  | i + 1, hi, t, ht => by
    rw [backUp_succ, getD_set (by rw [backUp_len]; exact ng_lt hn _)]
    split
    · rename_i e
      have := nx_inj hn hg (by omega) (by omega) (ng_inj hn (nx_lt hn) (nx_lt hn) e)
      rw [this]
    · rename_i e
      refine backUp_at hn hg i (by omega) t ?_
      by_cases h : t = i
      · subst h
        exact absurd rfl e
      · omega
theorem back_at (hn : 0 < ns.length) (hg : Goes ns) {t : Nat} (ht : t < ns.length) : (backF ns).getD (ngN ns (nxN ns t)) 0 = ns.getD t 0 := backUp_at hn hg _ (Nat.le_refl _) t ht
/-- each place is one's -/
theorem ng_onto (hn : 0 < ns.length) (hg : Goes ns) {u : Nat} (hu : u < ns.length) : ∃ t, t < ns.length ∧ ngN ns (nxN ns t) = u :=
  pigeon ns.length (fun t => ngN ns (nxN ns t)) (fun i _ => ng_lt hn _) (fun i j hi hj e => nx_inj hn hg hi hj (ng_inj hn (nx_lt hn) (nx_lt hn) e)) u hu
theorem back_good (hg : Good ns) (hc : clashF ns = none) : Good (backF ns) := by
  have hn : 0 < ns.length := hg.1
  refine ⟨by rw [back_len]; exact hg.1, by rw [back_len]; exact hg.2.1, fun x hx => ?_⟩
  obtain ⟨u, hu, rfl⟩ := List.getElem_of_mem hx
  rw [back_len] at hu
  obtain ⟨t, ht, e⟩ := ng_onto hn (goes_iff.mp hc) hu
  have z := back_at hn (goes_iff.mp hc) ht
  rw [e, List.getD_eq_getElem?_getD, List.getElem?_eq_getElem (by rw [back_len]; exact hu)] at z
  have z : (backF ns)[u] = ns.getD t 0 := z
  rw [z]
  exact hg.2.2 _ (mem_getD0 ht)
/-- one step of the backward row undoes one step -/
theorem back_nx (hn : 0 < ns.length) (hg : Goes ns) {t : Nat} (ht : t < ns.length) : nxN (backF ns) (ngN ns (nxN ns t)) = ngN ns t := by
  have hb : 0 < (backF ns).length := by rw [back_len]; exact hn
  have e : place (backF ns) (ngN ns (nxN ns t)) = (-(t : Int)) % ns.length := by
    unfold place
    rw [back_len, back_at hn hg ht, ng_int hn, nx_int hn]
    unfold place
    rw [neg_mod, Int.emod_add_emod, show -((t : Int) + ns.getD t 0) + ns.getD t 0 = -(t : Int) by omega]
  have z := nx_int hb (t := ngN ns (nxN ns t))
  rw [e, ← ng_int hn] at z
  omega
theorem back_goes (hn : 0 < ns.length) (hg : Goes ns) : Goes (backF ns) := by
  have hb : 0 < (backF ns).length := by rw [back_len]; exact hn
  intro i j hi hj e
  rw [back_len] at hi hj
  obtain ⟨s, hs, rfl⟩ := ng_onto hn hg hi
  obtain ⟨t, ht, rfl⟩ := ng_onto hn hg hj
  have e2 : nxN (backF ns) (ngN ns (nxN ns s)) = nxN (backF ns) (ngN ns (nxN ns t)) := by
    have h1 := nx_int hb (t := ngN ns (nxN ns s))
    have h2 := nx_int hb (t := ngN ns (nxN ns t))
    rw [e] at h1
    omega
  rw [back_nx hn hg hs, back_nx hn hg ht] at e2
  rw [ng_inj hn hs ht e2]
theorem back_clash (hn : 0 < ns.length) (hc : clashF ns = none) : clashF (backF ns) = none := goes_iff.mpr (back_goes hn (goes_iff.mp hc))
theorem ng_back {u : Nat} : ngN (backF ns) u = ngN ns u := by
  unfold ngN
  rw [back_len]
theorem back_back (hn : 0 < ns.length) (hg : Goes ns) : backF (backF ns) = ns := by
  have hb : 0 < (backF ns).length := by rw [back_len]; exact hn
  refine list_ext0 (by rw [back_len, back_len]) fun s hs => ?_
  rw [back_len, back_len] at hs
  have z := back_at (ns := backF ns) hb (back_goes hn hg) (t := ngN ns (nxN ns s)) (by rw [back_len]; exact ng_lt hn _)
  rw [back_nx hn hg hs, back_at hn hg hs, ng_back, ng_ng hn hs] at z
  exact z
theorem back_sum (hn : 0 < ns.length) (hg : Goes ns) : (backF ns).sum = ns.sum := by
  have e1 : sumO (backF ns) ((List.range ns.length).map fun t => ngN ns (nxN ns t)) = ns.sum := by
    unfold sumO
    rw [List.map_map, sum_range]
    have z := congrArg List.sum (map_getD0 ns)
    rw [sum_range] at z
    rw [← z]
    exact sumN_congr fun t ht => back_at hn hg ht
  rw [sum_perm ns.length _ (nodup_mapOn List.nodup_range fun a ha b hb e => nx_inj hn hg (List.mem_range.mp ha) (List.mem_range.mp hb) (ng_inj hn (nx_lt hn) (nx_lt hn) e)) (fun u hu => by
    obtain ⟨t, _, rfl⟩ := List.mem_map.mp hu
    exact ng_lt hn _) (fun t ht => by
    obtain ⟨s, hs, e⟩ := ng_onto hn hg ht
    exact List.mem_map.mpr ⟨s, List.mem_range.mpr hs, e⟩)] at e1
  rw [← e1]
  have z := congrArg List.sum (map_getD0 (backF ns))
  rw [sum_range, back_len] at z
  exact z.symm
/-! ### as many orbits of each length, with as many things -/
/-- what a turn's orbit is: how long, how many things -/
def valN (ns : List Int) (t : Nat) : Int × Int := ((perN ns t : Int), sumO ns (orbN ns t) / ns.length)
def valO (ns : List Int) (O : List Nat) : Int × Int := ((O.length : Int), sumO ns O / ns.length)
theorem valO_orb {t : Nat} : valO ns (orbN ns t) = valN ns t := by
  unfold valO valN
  rw [orb_len]
theorem per_congr {bs : List Int} {t u : Nat} (hl : ns.length = bs.length) (h : ∀ k, itN ns t (k + 1) = t ↔ itN bs u (k + 1) = u) : perN ns t = perN bs u := by
  unfold perN
  rw [hl]
  congr 2
  apply congrArg (fun p => (List.range bs.length).find? p)
  funext k
  rw [Bool.eq_iff_iff, decide_eq_true_eq, decide_eq_true_eq]
  exact h k
theorem it_nx (t : Nat) : ∀ k, itN ns (nxN ns t) k = nxN ns (itN ns t k)
  | 0 => rfl
  | k + 1 => by
    show nxN ns (itN ns (nxN ns t) k) = nxN ns (nxN ns (itN ns t k))
    rw [it_nx t k]
theorem val_nx (hn : 0 < ns.length) (hg : Goes ns) {t : Nat} (ht : t < ns.length) : valN ns (nxN ns t) = valN ns t := by
  have hp : perN ns (nxN ns t) = perN ns t := per_congr rfl fun k => by
    rw [it_nx]
    exact ⟨fun e => nx_inj hn hg (it_lt hn ht _) ht e, fun e => by rw [e]⟩
  have hs : sumO ns (orbN ns (nxN ns t)) = sumO ns (orbN ns t) := by
    rw [sumO_far, sumO_far, hp]
    unfold farN
    obtain ⟨back, _, one, _⟩ := per_spec hn hg ht
    have z : ∀ n, sumN (fun k => ns.getD (itN ns (nxN ns t) k) 0) n + ns.getD t 0 = sumN (fun k => ns.getD (itN ns t k) 0) n + ns.getD (itN ns t n) 0 := fun n => by
      induction n with
      | zero => rfl
      | succ n ih =>
        rw [sumN, sumN, it_nx]
        show _ + ns.getD (itN ns t (n + 1)) 0 + _ = _
        omega
    have w := z (perN ns t)
    rw [back] at w
    omega
  unfold valN
  rw [hp, hs]
theorem val_it (hn : 0 < ns.length) (hg : Goes ns) {t : Nat} (ht : t < ns.length) : ∀ k, valN ns (itN ns t k) = valN ns t
  | 0 => rfl
  | k + 1 => by
    show valN ns (nxN ns (itN ns t k)) = _
    rw [val_nx hn hg (it_lt hn ht k), val_it hn hg ht k]
/-- going back along the backward row -/
theorem it_undo (hn : 0 < ns.length) (hg : Goes ns) {t : Nat} (ht : t < ns.length) : ∀ k, itN (backF ns) (ngN ns (itN ns t k)) k = ngN ns t
  | 0 => rfl
  | k + 1 => by
    show nxN (backF ns) (itN (backF ns) (ngN ns (nxN ns (itN ns t k))) k) = _
    rw [← it_nx, back_nx hn hg (it_lt hn ht k)]
    exact it_undo hn hg ht k
theorem it_inj (hn : 0 < ns.length) (hg : Goes ns) {s t : Nat} (hs : s < ns.length) (ht : t < ns.length) : ∀ k, itN ns s k = itN ns t k → s = t
  | 0, e => e
  | k + 1, e => it_inj hn hg hs ht k (nx_inj hn hg (it_lt hn hs _) (it_lt hn ht _) e)
theorem val_back (hn : 0 < ns.length) (hg : Goes ns) {t : Nat} (ht : t < ns.length) : valN (backF ns) (ngN ns t) = valN ns t := by
  have hb : 0 < (backF ns).length := by rw [back_len]; exact hn
  have hgb := back_goes hn hg
  have hp : perN (backF ns) (ngN ns t) = perN ns t := per_congr back_len fun k => by
    have z := it_undo hn hg ht (k + 1)
    constructor
    · intro e
      have w := it_inj hb hgb (by rw [back_len]; exact ng_lt hn _) (by rw [back_len]; exact ng_lt hn _) (k + 1) (z.trans e.symm)
      exact ng_inj hn (it_lt hn ht _) ht w
    · intro e
      rw [e] at z
      exact z
  obtain ⟨back, _, one, _⟩ := per_spec hn hg ht
  have step : ∀ k, k < perN ns t → (backF ns).getD (itN (backF ns) (ngN ns t) k) 0 = ns.getD (itN ns t (perN ns t - 1 - k)) 0 := fun k hk => by
    have z := it_undo hn hg (t := itN ns t (perN ns t - k)) (it_lt hn ht _) k
    have e : ∀ a b, itN ns (itN ns t a) b = itN ns t (a + b) := fun a b => by
      induction b with
      | zero => rfl
      | succ b ih => show nxN ns (itN ns (itN ns t a) b) = nxN ns (itN ns t (a + b)); rw [ih]
    rw [e, show perN ns t - k + k = perN ns t by omega, back] at z
    rw [z]
    have w := back_at hn hg (t := itN ns t (perN ns t - 1 - k)) (it_lt hn ht _)
    rw [show perN ns t - k = (perN ns t - 1 - k) + 1 by omega]
    exact w
  have rev : ∀ (f : Nat → Int) (n : Nat), sumN (fun k => f (n - 1 - k)) n = sumN f n := fun f n => by
    induction n with
    | zero => rfl
    | succ n ih =>
      have z : ∀ m, sumN (fun k => f (n + 1 - 1 - k)) (m + 1) = f n + sumN (fun k => f (n - 1 - k)) m := fun m => by
        induction m with
        | zero => show 0 + f (n + 1 - 1 - 0) = f n + 0; rw [show n + 1 - 1 - 0 = n by omega]; omega
        | succ m ihm =>
          rw [sumN, ihm, sumN, show n + 1 - 1 - (m + 1) = n - 1 - m by omega]
          omega
      rw [z n, ih, sumN]
      omega
  have hs : sumO (backF ns) (orbN (backF ns) (ngN ns t)) = sumO ns (orbN ns t) := by
    rw [sumO_far, sumO_far, hp]
    unfold farN
    rw [← rev (fun k => ns.getD (itN ns t k) 0) (perN ns t)]
    exact sumN_congr fun k hk => step k hk
  unfold valN
  rw [hp, hs, back_len]
theorem acc_flat : ∀ i, (accO ns i).1 = (accO ns i).2.flatten
  | 0 => rfl
  | i + 1 => by
    rw [accO_succ]
    unfold stepO
    split
    · exact acc_flat i
    · show _ ++ _ = (_ ++ [_]).flatten
      rw [List.flatten_append, acc_flat i, List.flatten_cons, List.flatten_nil, List.append_nil]
theorem acc_orb : ∀ i, i ≤ ns.length → ∀ O ∈ (accO ns i).2, ∃ t, t < ns.length ∧ O = orbN ns t
  | 0, _, O, h => absurd h List.not_mem_nil
  | i + 1, hi, O, h => by
    rw [accO_succ] at h
    unfold stepO at h
    split at h
    · exact acc_orb i (by omega) O h
    · rcases List.mem_append.mp h with h | h
      · exact acc_orb i (by omega) O h
      · exact ⟨i, by omega, List.mem_singleton.mp h⟩
theorem count_vals (hn : 0 < ns.length) (hg : Goes ns) (v : Int × Int) : ∀ L : List (List Nat), (∀ O ∈ L, ∃ t, t < ns.length ∧ O = orbN ns t) → ((L.map (valO ns)).count v : Int) * v.1 = ((L.flatten.countP fun u => valN ns u == v : Nat) : Int)
  | [], _ => by show ((0 : Nat) : Int) * v.1 = 0; omega
  | O :: L, h => by
    have ih := count_vals hn hg v L fun O' h' => h O' (List.mem_cons_of_mem _ h')
    obtain ⟨t, ht, rfl⟩ := h O List.mem_cons_self
    rw [List.map_cons, List.count_cons, List.flatten_cons, List.countP_append, valO_orb]
    have hall : ∀ u ∈ orbN ns t, (valN ns u == v) = (valN ns t == v) := fun u hu => by
      obtain ⟨k, _, rfl⟩ := List.mem_map.mp hu
      rw [val_it hn hg ht k]
    have hc : (orbN ns t).countP (fun u => valN ns u == v) = if (valN ns t == v) = true then perN ns t else 0 := by
      rw [List.countP_congr (q := fun _ => valN ns t == v) fun u hu => by rw [hall u hu]]
      split
      · rename_i e
        rw [e, ← orb_len (ns := ns) (t := t)]
        exact List.countP_eq_length.mpr fun _ _ => rfl
      · rename_i e
        exact List.countP_eq_zero.mpr fun _ _ => e
    rw [hc]
    split
    · rename_i e
      have e1 : v.1 = (perN ns t : Int) := by rw [← eq_of_beq e]; rfl
      rw [Int.natCast_add, Int.natCast_add, Int.add_mul, ih, e1]
      omega
    · rw [Nat.add_zero, ih, Nat.zero_add]
def prs (ns : List Int) : List (Int × Int) := (accO ns ns.length).2.map (valO ns)
theorem prs_perm (hn : 0 < ns.length) (hg : Goes ns) : (prs (backF ns)).Perm (prs ns) := by
  have hb : 0 < (backF ns).length := by rw [back_len]; exact hn
  have hgb := back_goes hn hg
  rw [List.perm_iff_count]
  intro v
  have c1 := count_vals hn hg v _ (acc_orb ns.length (Nat.le_refl _))
  have c2 := count_vals hb hgb v _ (acc_orb (backF ns).length (Nat.le_refl _))
  rw [← acc_flat] at c1 c2
  have all : ∀ {bs : List Int}, 0 < bs.length → Goes bs → (accO bs bs.length).1.Perm (List.range bs.length) := fun {bs} h1 h2 => by
    obtain ⟨M, al, _, _⟩ := accO_met h1 h2 bs.length (Nat.le_refl _)
    exact (List.perm_ext_iff_of_nodup M.nd List.nodup_range).mpr fun u => ⟨fun h => List.mem_range.mpr (M.lt u h), fun h => al u (List.mem_range.mp h)⟩
  rw [(all hn hg).countP_eq] at c1
  rw [(all hb hgb).countP_eq, back_len] at c2
  have ngs : ((List.range ns.length).map (ngN ns)).Perm (List.range ns.length) := (List.perm_ext_iff_of_nodup (nodup_mapOn List.nodup_range fun a ha b hb e => ng_inj hn (List.mem_range.mp ha) (List.mem_range.mp hb) e) List.nodup_range).mpr fun u => ⟨fun h => by
    obtain ⟨t, _, rfl⟩ := List.mem_map.mp h
    exact List.mem_range.mpr (ng_lt hn _), fun h => List.mem_map.mpr ⟨ngN ns u, List.mem_range.mpr (ng_lt hn _), ng_ng hn (List.mem_range.mp h)⟩⟩
  rw [← ngs.countP_eq, List.countP_map, List.countP_congr (q := fun u => valN ns u == v) fun u hu => by
    show ((valN (backF ns) (ngN ns u) == v) = true) ↔ _
    rw [val_back hn hg (List.mem_range.mp hu)]] at c2
  have key : ((prs (backF ns)).count v : Int) * v.1 = ((prs ns).count v : Int) * v.1 := by
    unfold prs
    rw [back_len]
    exact c2.trans c1.symm
  by_cases hv : 1 ≤ v.1
  · have := Int.eq_of_mul_eq_mul_right (by omega) key
    omega
  · have no : ∀ {bs : List Int}, 0 < bs.length → Goes bs → (prs bs).count v = 0 := fun {bs} h1 h2 => List.count_eq_zero.mpr fun hm => by
      obtain ⟨O, hO, e⟩ := List.mem_map.mp hm
      obtain ⟨t, ht, rfl⟩ := acc_orb bs.length (Nat.le_refl _) O hO
      obtain ⟨_, _, one, _⟩ := per_spec h1 h2 ht
      rw [valO_orb] at e
      have : v.1 = (perN bs t : Int) := by rw [← e]; rfl
      omega
    rw [no hb hgb, no hn hg]
theorem prs_len : (prs ns).length = (accO ns ns.length).2.length := List.length_map ..
end
/-! ### sorted pairs -/
/-- the pairs stand there, each at a new tuple -/
def PairAt (H : Hp) (x : V) (p : Int × Int) : Prop := ∃ t, x = .ref t ∧ H t = some (.tup [.int p.1, .int p.2])
def PairsAt (H : Hp) (xs : List V) (ps : List (Int × Int)) : Prop := xs.length = ps.length ∧ ∀ (i : Nat) x p, xs[i]? = some x → ps[i]? = some p → PairAt H x p
theorem pairs_ex {H H' : Hp} {xs : List V} {ps : List (Int × Int)} (e : Ex H H') (h : PairsAt H xs ps) : PairsAt H' xs ps := ⟨h.1, fun i x p h1 h2 => by
  obtain ⟨t, e1, e2⟩ := h.2 i x p h1 h2
  exact ⟨t, e1, e _ _ e2⟩⟩
theorem pairs_tup {H H' : Hp} {xs : List V} {ps : List (Int × Int)} (e : ∀ t ys, H t = some (.tup ys) → H' t = some (.tup ys)) (h : PairsAt H xs ps) : PairsAt H' xs ps := ⟨h.1, fun i x p h1 h2 => by
  obtain ⟨t, e1, e2⟩ := h.2 i x p h1 h2
  exact ⟨t, e1, e _ _ e2⟩⟩
theorem pairs_snoc {H : Hp} {xs : List V} {ps : List (Int × Int)} {x : V} {p : Int × Int} (h : PairsAt H xs ps) (hx : PairAt H x p) : PairsAt H (xs ++ [x]) (ps ++ [p]) := by
  refine ⟨by rw [List.length_append, List.length_append, h.1]; rfl, fun i y q h1 h2 => ?_⟩
  by_cases hi : i < xs.length
  · rw [List.getElem?_append_left hi] at h1
    rw [List.getElem?_append_left (by have := h.1; omega)] at h2
    exact h.2 i y q h1 h2
  · rw [List.getElem?_append_right (by omega)] at h1
    rw [List.getElem?_append_right (by have := h.1; omega), ← h.1] at h2
    have hi0 : i - xs.length = 0 := by
      have := (List.getElem?_eq_some_iff.mp h1).1
      simp at this
      omega
    rw [hi0] at h1 h2
    cases h1
    cases h2
    exact hx
/-- the pair that a value is -/
def keyP (H : Hp) (x : V) : Int × Int := match x with
  | .ref t => (match H t with
    | some (.tup [.int a, .int b]) => (a, b)
    | _ => (0, 0))
  | _ => (0, 0)
theorem key_at {H : Hp} {x : V} {p : Int × Int} (h : PairAt H x p) : keyP H x = p := by
  obtain ⟨t, rfl, h⟩ := h
  show (match H t with
    | some (.tup [.int a, .int b]) => (a, b)
    | _ => (0, 0)) = p
  rw [h]
theorem keys_at {H : Hp} {xs : List V} {ps : List (Int × Int)} (h : PairsAt H xs ps) : xs.map (keyP H) = ps := by
  apply List.ext_getElem (by rw [List.length_map]; exact h.1)
  intro i h1 h2
  rw [List.length_map] at h1
  rw [List.getElem_map]
  exact key_at (h.2 i _ _ (List.getElem?_eq_getElem h1) (List.getElem?_eq_getElem h2))
def dP (p : Int × Int) : PyData := .tuple [.int p.1, .int p.2]
theorem pairs_dp {K : PySem.W.Frag} {H : Hp} : ∀ {xs : List V} {ps : List (Int × Int)}, PairsAt H xs ps → DpAll K H xs (ps.map dP)
  | [], [], _ => .nil
  | [], _ :: _, h => absurd h.1 (by simp)
  | _ :: _, [], h => absurd h.1 (by simp)
  | x :: xs, p :: ps, h => by
    obtain ⟨t, rfl, e⟩ := h.2 0 x p rfl rfl
    exact .cons (.tup (SqT.of e) (.cons (.int _) (.cons (.int _) .nil))) (pairs_dp ⟨by have := h.1; simp at this; exact this, fun i y q h1 h2 => h.2 (i + 1) y q h1 h2⟩)
/-- two sorted rearrangements of the same pairs -/
theorem sorted_same {H H' : Hp} {xs ys xs' ys' : List V} {ps ps' : List (Int × Int)} (h : PairsAt H xs ps) (h' : PairsAt H' xs' ps') (hp : ps.Perm ps') (s : SrtO.Srtd (ltP (keyP H)) ys) (b : SrtO.Stb (ltP (keyP H)) ys xs) (s' : SrtO.Srtd (ltP (keyP H')) ys') (b' : SrtO.Stb (ltP (keyP H')) ys' xs') :
    ys.map (keyP H) = ys'.map (keyP H') := by
  have swo : SrtO.Swo SrtO.lexB := ⟨fun x y h => by
    have a := SrtO.lexB_iff.mp h
    refine SrtO.lexB_no.mpr ?_
    omega, fun x y z h1 h2 => by
    have a := SrtO.lexB_no.mp h1
    have b := SrtO.lexB_no.mp h2
    refine SrtO.lexB_no.mpr ?_
    omega⟩
  have m := SrtO.Stb.map (lt := SrtO.lexB) swo (keyP H) b
  have m' := SrtO.Stb.map (lt := SrtO.lexB) swo (keyP H') b'
  rw [keys_at h] at m
  rw [keys_at h'] at m'
  refine SrtO.stb_uniq swo (SrtO.srtd_map s) (SrtO.srtd_map s') ⟨m.perm.trans (hp.trans m'.perm.symm), fun u => ?_⟩
  rw [m.cls u, m'.cls u]
  have e : SrtO.eqv SrtO.lexB u = (· == u) := by
    funext v
    rw [Bool.eq_iff_iff, SrtO.eqv_iff, SrtO.lexB_no, SrtO.lexB_no, beq_iff_eq]
    constructor
    · rintro ⟨h1, h2⟩
      exact Prod.ext (by omega) (by omega)
    · rintro rfl
      omega
  rw [e, List.filter_beq, List.filter_beq, List.perm_iff_count.mp hp u]
/-! ### comprehensions of pairs -/
section
variable {K : PySem.W.Frag} {c : Cs} {E : XK} {σ : L2.St} {H : Hp} {te tl ta : TE}
/-- a new list of new pairs -/
def EvP2 (te : TE) (σ : L2.St) (H : Hp) (ps : List (Int × Int)) : Prop := ∀ H1, Ex H H1 → ∀ Q : VK, (∀ l xs H2, H1 l = none → Ex H1 H2 → H2 l = some (.lst xs) → PairsAt (del H2 l) xs ps → Q (.ref l) H2) → te σ H1 Q
theorem lcPair {J : It} {n : Nat} {ab : Nat → Int × Int} {g : TG} {ws : List Nat} {Q : VK} {H1 : Hp} (hn : n ≤ 40000) (hgo : ∀ i H', i < n → Ex H1 H' → J.go i H') (hst : ∀ H', Ex H1 H' → J.stop n H')
    (hy : ∀ i x H' H'', i < n → Ex H1 H' → J.yld i H' x H'' → H'' = H' ∧ ∀ G : L2.St → Hp → Prop, (∀ σ2, wipe σ2 ws = wipe σ ws → EvU te σ2 H' [.int (ab i).1, .int (ab i).2] → G σ2 H') → g x (wipe σ ws) H' G)
    (q : ∀ D xs H2, H1 D = none → Ex H1 H2 → H2 D = some (.lst xs) → PairsAt (del H2 D) xs ((List.range n).map ab) → Q (.ref D) H2) :
    ∀ D, H1 D = none → ∃ W : Nat → Nat → Hp → Prop, (∃ m, W 0 m (upd H1 D (.lst []))) ∧ ∀ i m H, W i m H →
      (J.stop i H ∧ Q (.ref D) H) ∨ (J.go i H ∧ ∃ Nx : Hp → Prop, (∀ H', Nx H' → ∃ m', m' < m ∧ W (i + 1) m' H') ∧ ∀ x H', J.yld i H x H' → g x (wipe σ ws) H' fun σ2 H2 => wipe σ2 ws = wipe σ ws ∧ tYes σ2 H2 fun b H3 =>
        if b = true then te σ2 H3 fun y H4 => ∃ acc, H4 D = some (.lst acc) ∧ acc.length < sizeLine ∧ Nx (upd H4 D (.lst (acc ++ [y]))) else Nx H3) := by
  intro D hD
  refine ⟨fun i m H => m + i = n ∧ Ex H1 H ∧ ∃ xs, H D = some (.lst xs) ∧ PairsAt (del H D) xs ((List.range i).map ab), ⟨n, rfl, Ex.new hD, [], upd_same, rfl, fun i x p h => nomatch h⟩, ?_⟩
  rintro i m H ⟨hm, e1, xs, hx, hp⟩
  by_cases hi : i < n
  · refine .inr ⟨hgo i H hi e1, fun H' => Ex H1 H' ∧ ∃ xs, H' D = some (.lst xs) ∧ PairsAt (del H' D) xs ((List.range (i + 1)).map ab), fun H' z => ⟨m - 1, by omega, by omega, z⟩, fun x H' hyl => ?_⟩
    obtain ⟨rfl, hg⟩ := hy i x H H' hi e1 hyl
    refine hg _ fun σ2 hw hu => ⟨hw, ?_⟩
    show te σ2 H' _
    refine hu H' (Ex.refl _) _ fun t H4 ht e4 h4 => ⟨xs, e4 _ _ hx, sz_lt (by have := hp.1; rw [List.length_map, List.length_range] at this; omega), Ex.mut (e1.trans e4) hD, xs ++ [.ref t], upd_same, ?_⟩
    have htD : t ≠ D := Ne.symm (ne_of_none hx ht)
    have ex1 : Ex (del H' D) (del (upd H4 D (.lst (xs ++ [.ref t]))) D) := ex_dels (but_upd e4)
    rw [List.range_succ, List.map_append]
    exact pairs_snoc (pairs_ex ex1 hp) ⟨t, rfl, del_at htD ((upd_ne htD).trans h4)⟩
  · have : i = n := by omega
    subst this
    exact .inl ⟨hst H e1, q D xs H hD e1 hx hp⟩
/-- [(a, b) for k in d] -/
theorem ep_keys {d : Addr} {kvs : List (Key × V)} {j : Nat} {ws : List Nat} (ab : Nat → Int × Int) (h : ∀ H1, Ev tl σ H1 (.ref d)) (hd : H d = some (.dK kvs)) (hn : kvs.length ≤ 40000) (hw : ∀ x, wipe ((wipe σ ws).set j (some x)) ws = wipe σ ws)
    (he : ∀ (i : Nat) k v H' od, kvs[i]? = some (k, v) → (∀ b o, b ≠ d → H b = some o → H' b = some o) → H' d = some (.frz od (.dK kvs)) → EvU te ((wipe σ ws).set j (some (kV k))) H' [.int (ab i).1, .int (ab i).2]) :
    EvP2 (tLockE (tLc (iKeys tl) (gName j) tYes te ws)) σ H ((List.range kvs.length).map ab) := fun H1 e1 Q q => by
  have hd1 := e1 _ _ hd
  refine ⟨d, .dK kvs, hd1, trivial, fun od => ?_⟩
  have hdf : (upd H1 d (.frz od (.dK kvs))) d = some (.frz od (.dK kvs)) := upd_same
  refine h _ _ (Ex.refl _) _ fun H2 e2 => ⟨d, od, rfl, .inl ⟨kvs, e2 _ _ hdf, lcPair (J := Itk d od kvs) (σ := σ) (te := te) (g := gName j) (ws := ws) (Q := fun v H' => H' d = some (.frz od (.dK kvs)) ∧ Q v (upd H' d (.dK kvs))) (H1 := H2) (n := kvs.length) (ab := ab) hn (fun i H' hi e' => ⟨e' _ _ (e2 _ _ hdf), hi⟩) (fun H' e' => ⟨e' _ _ (e2 _ _ hdf), Nat.le_refl _⟩) (fun i x H' H'' hi e' y => ?_) fun D xs H3 hD e3 h3 hp => ?_⟩⟩
  · obtain ⟨rfl, k, v, hk, rfl⟩ := y
    refine ⟨rfl, fun G hG => hG _ (hw _) (he i k v _ od hk (fun b o hb ho => e' _ _ (e2 _ _ ((upd_ne hb).trans (e1 _ _ ho)))) (e' _ _ (e2 _ _ hdf)))⟩
  · have hd3 := e3 _ _ (e2 _ _ hdf)
    have hDd : D ≠ d := Ne.symm (ne_of_none (e2 _ _ hdf) hD)
    have hD1 : H1 D = none := by
      cases z : H1 D with
      | none => rfl
      | some o =>
        have := e2 _ _ ((upd_ne hDd).trans z)
        rw [hD] at this
        cases this
    refine ⟨hd3, q D xs _ hD1 (fun b o hb => ?_) ((upd_ne hDd).trans h3) (pairs_tup (fun b ys hb => ?_) hp)⟩
    · by_cases z : b = d
      · subst z
        rw [hd1] at hb
        cases hb
        exact upd_same
      · exact (upd_ne z).trans (e3 _ _ (e2 _ _ ((upd_ne z).trans hb)))
    · by_cases zD : b = D
      · subst zD
        rw [L2.del_same] at hb
        cases hb
      · rw [L2.del_ne zD] at hb ⊢
        by_cases z : b = d
        · subst z
          rw [hd3] at hb
          cases hb
        · exact (upd_ne z).trans hb
/-- [(len(a), b) for a, b in e], e a new list of known data -/
theorem ep_lens {ns : List Int} {j1 j2 : Nat} (h : ∀ H1, Ex H H1 → ∀ Q : VK, (∀ l xs H2, H1 l = none → Ex H1 H2 → H2 l = some (.lst xs) → DpAll K (del H2 l) xs (orbsD ns ns.length) → Q (.ref l) H2) → tl σ H1 Q) (hl : (accO ns ns.length).2.length ≤ 40)
    (hw : ∀ x y, wipe (((wipe σ [j1, j2]).set j1 (some x)).set j2 (some y)) [j1, j2] = wipe σ [j1, j2]) (h1 : ∀ x y, (((wipe σ [j1, j2]).set j1 (some x)).set j2 (some y))[j1]? = some (some x)) (h2 : ∀ x y, (((wipe σ [j1, j2]).set j1 (some x)).set j2 (some y))[j2]? = some (some y)) :
    EvP2 (tLc (iSeq K tl) (gTup K 2 (gCons (gName j1) (gCons (gName j2) gNil))) tYes (tTup (tCons (tCB (cLen K) (tCons (tVar j1) tNil)) (tCons (tVar j2) tNil))) [j1, j2]) σ H (prs ns) := fun H1 e1 Q q =>
  .inl (h H1 e1 _ fun l xs H2 hl2 e2 hx hd => ⟨l, rfl, ⟨xs, SqL.of hx⟩, by
    have hlen : xs.length = (accO ns ns.length).2.length := by
      have z : ∀ {xs : List V} {ds : List PyData} {H : Hp}, DpAll K H xs ds → xs.length = ds.length := fun {xs} => by
        induction xs with
        | nil =>
          intro ds H h
          cases h
          rfl
        | cons y ys ih =>
          intro ds H h
          cases h with
          | cons h1 h2 => rw [List.length_cons, List.length_cons, ih h2]
      rw [z hd]
      exact List.length_map ..
    have get : ∀ {xs : List V} {ds : List PyData} {H : Hp}, DpAll K H xs ds → ∀ {i : Nat} {x : V}, xs[i]? = some x → ∃ d, ds[i]? = some d ∧ Dp K H x d := fun {xs} => by
      induction xs with
      | nil =>
        intro ds H h i x e
        cases e
      | cons y ys ih =>
        intro ds H h i x e
        cases h with
        | cons h1 h2 =>
          cases i with
          | zero =>
            cases e
            exact ⟨_, rfl, h1⟩
          | succ i => exact ih h2 e
    have go := lcPair (J := Itl K l) (σ := σ) (te := tTup (tCons (tCB (cLen K) (tCons (tVar j1) tNil)) (tCons (tVar j2) tNil))) (g := gTup K 2 (gCons (gName j1) (gCons (gName j2) gNil))) (ws := [j1, j2]) (Q := Q) (H1 := H2) (n := xs.length) (ab := fun i => (prs ns).getD i (0, 0)) (by omega)
      (fun i H' hi e' => ⟨xs, xs[i], SqL.of (e' _ _ hx), List.getElem?_eq_getElem hi⟩) (fun H' e' => ⟨xs, SqL.of (e' _ _ hx), Nat.le_refl _⟩) (fun i x H' H'' hi e' y => by
        obtain ⟨rfl, hy⟩ := y
        have hxi := hy xs (SqL.of (e' _ _ hx))
        refine ⟨rfl, fun G hG => ?_⟩
        obtain ⟨d, hd1, hd2⟩ := get hd hxi
        obtain ⟨O, hO, rfl⟩ : ∃ O, (accO ns ns.length).2[i]? = some O ∧ d = dO ns O := by
          have hd1 : ((accO ns ns.length).2.map (dO ns))[i]? = some d := hd1
          rw [List.getElem?_map] at hd1
          cases e : (accO ns ns.length).2[i]? with
          | none =>
            rw [e] at hd1
            cases hd1
          | some O =>
            rw [e] at hd1
            exact ⟨O, rfl, (Option.some.inj hd1).symm⟩
        have hab : (prs ns).getD i (0, 0) = valO ns O := by
          unfold prs
          rw [List.getD_eq_getElem?_getD, List.getElem?_map, hO]
          rfl
        cases hd2 with
        | @tup t ys _ hs ha =>
        cases ha with
        | @cons v1 _ _ _ g1 ha =>
        cases ha with
        | @cons v2 _ _ _ g2 ha =>
        cases ha
        cases g2
        cases g1 with
        | @tup t1 zs _ ht hb =>
        have hzl : zs.length = O.length := by
          have z : ∀ {xs : List V} {ds : List PyData} {H : Hp}, DpAll K H xs ds → xs.length = ds.length := fun {xs} => by
            induction xs with
            | nil =>
              intro ds H h
              cases h
              rfl
            | cons y ys ih =>
              intro ds H h
              cases h with
              | cons h1 h2 => rw [List.length_cons, List.length_cons, ih h2]
          rw [z hb, List.length_map, List.length_map]
        refine ⟨t, [.ref t1, .int _], rfl, ex_t (ex_del.trans e') hs, rfl, .ref t1, [.int _], rfl, .int _, [], rfl, rfl, hG _ (hw _ _) ?_⟩
        show EvU _ _ _ [.int ((prs ns).getD i (0, 0)).1, .int ((prs ns).getD i (0, 0)).2]
        rw [hab]
        refine eu_tup (ea_cons (ev_is (ev_lenQ (evq_of (ev_var (h1 _ _)) (.inr (ex_t (ex_del.trans e') ht)))) (by rw [hzl]; rfl)) (ea_cons (ev_var (h2 _ _)) ea_nil)) (by show 2 ≤ 100000; decide))
      (fun D ys H3 hD e3 h3 hp => q D ys H3 (fresh_of e2 hD) (e2.trans e3) h3 (by
        have e : (List.range xs.length).map (fun i => (prs ns).getD i (0, 0)) = prs ns := by
          rw [hlen]
          apply List.ext_getElem (by rw [List.length_map, List.length_range, prs_len])
          intro k g1 g2
          rw [List.getElem_map, List.getElem_range, List.getD_eq_getElem?_getD, List.getElem?_eq_getElem g2]
          rfl
        rw [e] at hp
        exact hp))
    exact go⟩)
/-- sorted(..) of such a list -/
def EvS2 (te : TE) (σ : L2.St) (H : Hp) (ps : List (Int × Int)) : Prop := ∀ H1, Ex H H1 → ∀ Q : VK, (∀ l xs ys H0 H2, H1 l = none → Ex H1 H2 → H2 l = some (.lst ys) → Ex H0 H2 → PairsAt H0 xs ps → SrtO.Srtd (ltP (keyP H0)) ys → SrtO.Stb (ltP (keyP H0)) ys xs → PairsAt H2 ys (ys.map (keyP H0)) → Q (.ref l) H2) → te σ H1 Q
theorem es_sorted {ps : List (Int × Int)} (h : EvP2 te σ H ps) : EvS2 (tCB (rSortedPO K) (tCons te tNil)) σ H ps := fun H1 e1 Q q =>
  h H1 e1 _ fun l xs H2 hl e2 h2 hp => by
    have hp2 : PairsAt H2 xs ps := pairs_ex ex_del hp
    have each : ∀ x ∈ xs, ∃ t, x = V.ref t ∧ H2 t = some (.tup [.int (keyP H2 x).1, .int (keyP H2 x).2]) := fun x hx => by
      obtain ⟨i, hi, rfl⟩ := List.getElem_of_mem hx
      have z := hp2.2 i _ _ (List.getElem?_eq_getElem hi) (List.getElem?_eq_getElem (by have := hp2.1; omega))
      rw [key_at z]
      exact z
    refine ⟨l, xs, keyP H2, rfl, SqL.of h2, each, fun ys p s b hpn => q p xs ys H2 _ (fresh_of e2 hpn) (e2.trans (Ex.new hpn)) upd_same (Ex.new hpn) hp2 s b ⟨by rw [List.length_map], fun i x pr g1 g2 => ?_⟩⟩
    rw [List.getElem?_map, g1] at g2
    cases g2
    obtain ⟨t, rfl, ht⟩ := each x (b.perm.mem_iff.mp (List.mem_of_getElem? g1))
    exact ⟨t, rfl, Ex.new hpn _ _ ht⟩
end
end Tr

/-! The class Hall: its state, what its methods make of it. -/
namespace Tr
open PySem L2 PySem.Spec PyProof.Rows Evl

/-! ### a walk that comes back is a row without a clash -/
theorem PathS.split {a b : Int} {p : List Int} (h : PathS a p b) : ∀ i, i ≤ p.length → ∃ c, PathS a (p.take i) c ∧ PathS c (p.drop i) b := by
  induction h with
  | nil a =>
    intro i hi
    have : i = 0 := Nat.le_zero.mp hi
    subst this
    exact ⟨a, .nil _, .nil _⟩
  | @cons a h p b m k ih =>
    intro i hi
    cases i with
    | zero => exact ⟨a, .nil _, .cons m k⟩
    | succ i =>
      obtain ⟨c, h1, h2⟩ := ih i (by rw [List.length_cons] at hi; omega)
      exact ⟨c, .cons m h1, h2⟩
theorem thrown_bit {s h : Int} (h0 : 0 ≤ s) (h1 : 0 ≤ h) {k : Nat} : bitS (thrownF s h) k = (bitS s (k + 1) || (decide (0 < h) && decide (h.toNat = k + 1))) := by
  obtain ⟨n, rfl⟩ : ∃ n : Nat, s = (n : Int) := ⟨s.toNat, by omega⟩
  rw [thrown_nat h1, bitS_nat, bitS_nat]
  rw [show ∀ x : Nat, (x / 2).testBit k = x.testBit (k + 1) from fun x => by rw [Nat.testBit_succ]]
  by_cases h2 : 0 < h
  · rw [if_pos h2, Nat.testBit_or, Nat.testBit_two_pow]
    simp [h2]
  · rw [if_neg h2]
    simp [h2]
theorem bit_keep {a b : Int} {p : List Int} (h : PathS a p b) : 0 ≤ a → a ≤ 511 → ∀ k : Nat, p.length ≤ k → bitS a k = true → bitS b (k - p.length) = true := by
  induction h with
  | nil a => exact fun _ _ k _ hb => hb
  | @cons a h p b m _ ih =>
    intro a0 a1 k hk hb
    obtain ⟨z0, z1, _⟩ := step_ok a0 a1 m
    rw [List.length_cons] at hk
    have e := ih z0 z1 (k - 1) (by omega) (by
      rw [thrown_bit a0 (lets_hgt m).1, show k - 1 + 1 = k by omega, hb]
      rfl)
    rw [List.length_cons, show k - (p.length + 1) = k - 1 - p.length by omega]
    exact e
theorem let_clear {s h : Int} (m : h ∈ letsF s) : bitS s h.toNat = false := by
  unfold letsF at m
  split at m
  · rename_i e
    rw [List.mem_singleton.mp m]
    show decide (s / 2 ^ 0 % 2 = 1) = false
    rw [decide_eq_false_iff_not]
    omega
  · obtain ⟨i, hi, rfl⟩ := List.mem_map.mp m
    have z := (List.mem_filter.mp hi).2
    rw [show (1 + (i : Int)).toNat = i + 1 by omega]
    simpa using z
theorem path_clash {a b : Int} {p : List Int} (h : PathS a p b) (a0 : 0 ≤ a) (a1 : a ≤ 511) {i j : Nat} (hij : i < j) (hj : j < p.length) : (i : Int) + p.getD i 0 ≠ (j : Int) + p.getD j 0 := by
  intro e
  obtain ⟨c, h1, h2⟩ := h.split i (by omega)
  obtain ⟨c0, c1, _⟩ := h1.ok a0 a1
  have ei : p.drop i = p.getD i 0 :: p.drop (i + 1) := by
    rw [List.drop_eq_getElem_cons (by omega), List.getD_eq_getElem?_getD, List.getElem?_eq_getElem (by omega)]
    rfl
  rw [ei] at h2
  generalize p.getD i 0 = x at e h2
  cases h2 with
  | cons m h2 =>
  obtain ⟨d0, d1, _⟩ := step_ok c0 c1 m
  obtain ⟨g, k1, k2⟩ := h2.split (j - (i + 1)) (by rw [List.length_drop]; omega)
  rw [List.drop_drop, show i + 1 + (j - (i + 1)) = j by omega] at k2
  have ej : p.drop j = p.getD j 0 :: p.drop (j + 1) := by
    rw [List.drop_eq_getElem_cons (by omega), List.getD_eq_getElem?_getD, List.getElem?_eq_getElem (by omega)]
    rfl
  rw [ej] at k2
  generalize p.getD j 0 = y at e k2
  cases k2 with
  | cons m2 k2 =>
  have hx := lets_hgt m
  have hy := lets_hgt m2
  have hl : ((p.drop (i + 1)).take (j - (i + 1))).length = j - (i + 1) := by
    rw [List.length_take, List.length_drop]
    omega
  have z := bit_keep k1 d0 d1 (x.toNat - 1) (by rw [hl]; omega) (by
    rw [thrown_bit c0 hx.1, show x.toNat - 1 + 1 = x.toNat by omega]
    have h1 : 0 < x := by omega
    simp [h1])
  rw [hl, show x.toNat - 1 - (j - (i + 1)) = y.toNat by omega, let_clear m2] at z
  cases z
theorem path_rep {a : Int} {ns : List Int} (h : PathS a ns a) : ∀ m : Nat, PathS a (List.replicate m ns).flatten a
  | 0 => .nil _
  | m + 1 => by
    rw [List.replicate_succ, List.flatten_cons]
    exact h.app (path_rep h m)
theorem path_goes {a : Int} {ns : List Int} (h : PathS a ns a) (a0 : 0 ≤ a) (a1 : a ≤ 511) (hn : 0 < ns.length) : Goes ns := by
  have hgt : ∀ t, 0 ≤ hAt ns t ∧ hAt ns t ≤ 9 := fun t => by
    have b0 : 0 ≤ t % (ns.length : Int) := Int.emod_nonneg _ (by omega)
    have b1 : t % (ns.length : Int) < ns.length := Int.emod_lt_of_pos _ (by omega)
    exact h.hgt _ (mem_getD0 (by omega))
  have lt : ∀ s t : Int, s < t → s + hAt ns s ≠ t + hAt ns t := by
    intro s t hst e
    have b0 : 0 ≤ s % (ns.length : Int) := Int.emod_nonneg _ (by omega)
    have b1 : s % (ns.length : Int) < ns.length := Int.emod_lt_of_pos _ (by omega)
    have hs := hgt s
    have ht := hgt t
    have hp := path_rep h 10
    rw [rep_cut hn 10] at hp
    have hl : (repF ns 10).length = 10 * ns.length := rep_len
    have at' : ∀ k : Nat, k < 10 * ns.length → (repF ns 10).getD k 0 = hAt ns (k : Int) := fun k hk => getD_mapR hk
    refine path_clash hp a0 a1 (i := (s % (ns.length : Int)).toNat) (j := (s % (ns.length : Int)).toNat + (t - s).toNat) (by omega) (by rw [hl]; omega) ?_
    rw [at' _ (by omega), at' _ (by omega)]
    have e1 : hAt ns (((s % (ns.length : Int)).toNat : Nat) : Int) = hAt ns s := hAt_of (by
      rw [Int.toNat_of_nonneg b0, Int.emod_emod_of_dvd _ (Int.dvd_refl _)])
    have e2 : hAt ns (((s % (ns.length : Int)).toNat + (t - s).toNat : Nat) : Int) = hAt ns t := hAt_of (by
      rw [show (((s % (ns.length : Int)).toNat + (t - s).toNat : Nat) : Int) = s % (ns.length : Int) + (t - s) by omega, Int.add_emod, Int.emod_emod_of_dvd _ (Int.dvd_refl _), ← Int.add_emod, show s + (t - s) = t by omega])
    rw [e1, e2]
    omega
  refine (goes_z hn).mpr fun s t e => ?_
  rcases Int.lt_trichotomy s t with h | h | h
  · exact absurd e (lt s t h)
  · exact h
  · exact absurd e.symm (lt t s h)
/-! ### any two states of as many bits are joined by nine throws -/
theorem down_fin9 : ((List.range 512).all fun s => decide (runS s (downP (9 - pcI s) s) = some (2 ^ pcI s - 1))) = true := by decide +kernel
theorem joined9 {a b : Int} (a0 : 0 ≤ a) (a1 : a ≤ 511) (b0 : 0 ≤ b) (b1 : b ≤ 511) (h : pcI a = pcI b) : ∃ p, PathS a p b ∧ p.length ≤ 9 := by
  have d := of_decide_eq_true (List.all_eq_true.mp down_fin9 a.toNat (List.mem_range.mpr (by omega)))
  have u := of_decide_eq_true (List.all_eq_true.mp up_fin b.toNat (List.mem_range.mpr (by omega)))
  rw [Int.toNat_of_nonneg a0] at d
  rw [Int.toNat_of_nonneg b0] at u
  rw [h] at d
  refine ⟨_, (run_path _ _ _ d).app (run_path _ _ _ u), ?_⟩
  rw [List.length_append, down_len, up_len]
  have := pcI_le b
  show 9 - pcI b + (pcI b + 0) ≤ 9
  omega
theorem way_min {a b : Int} : ∀ (n : Nat) (p : List Int), PathS a p b → (keyF 1 p).toNat ≤ n → ∃ w, IsWay a b w
  | 0, p, hp, hn => ⟨p, hp, fun q hq => by
    have z := (key_bounds q 1 hq.hgt).1
    have : (0 : Int) < 16 ^ q.length := Int.pow_pos (by decide)
    omega⟩
  | n + 1, p, hp, hn => by
    by_cases h : ∃ q, PathS a q b ∧ keyF 1 q < keyF 1 p
    · obtain ⟨q, hq, hlt⟩ := h
      have z := (key_bounds q 1 hq.hgt).1
      have : (0 : Int) < 16 ^ q.length := Int.pow_pos (by decide)
      exact way_min n q hq (by omega)
    · refine ⟨p, hp, fun q hq => ?_⟩
      by_cases hlt : keyF 1 q < keyF 1 p
      · exact absurd ⟨q, hq, hlt⟩ h
      · omega
theorem way_short {a b : Int} (a0 : 0 ≤ a) (a1 : a ≤ 511) (b0 : 0 ≤ b) (b1 : b ≤ 511) (h : pcI a = pcI b) : PathS a (wayF a b) b ∧ (wayF a b).length ≤ 9 := by
  obtain ⟨p, hp, hl⟩ := joined9 a0 a1 b0 b1 h
  obtain ⟨w, hw⟩ := way_min _ p hp (Nat.le_refl _)
  rw [way_is hw]
  have := key_len (c := 1) (by decide) hw.1.hgt hp.hgt (hw.2 p hp)
  exact ⟨hw.1, by omega⟩
/-! ### the rows drawn -/
theorem walk_row {h : Int → Int} (hh : ∀ t, 0 ≤ h t ∧ h t ≤ 9) (hg : GoesZ h) (hs : ∀ t, ∃ s, s + h s = t) : ∀ n : Nat, PathS (stF h 0) ((List.range n).map fun (t : Nat) => h (t : Int)) (stF h (n : Int))
  | 0 => .nil _
  | n + 1 => by
    rw [List.range_succ, List.map_append]
    have z := (walk_row hh hg hs n).snoc (st_let hh hg hs n)
    rw [st_step hh n] at z
    exact z
theorem walk_reps {ns : List Int} (hg : Good ns) (hc : clashF ns = none) (m : Nat) : PathS (stF (hAt ns) 0) (List.replicate m ns).flatten (stF (hAt ns) 0) := by
  have hn : 0 < ns.length := hg.1
  rw [rep_cut hn m]
  have z := walk_row (hAt_hgt hg) ((goes_z hn).mp (goes_iff.mp hc)) (lands hn (goes_iff.mp hc)) (m * ns.length)
  have e : stF (hAt ns) ((m * ns.length : Nat) : Int) = stF (hAt ns) 0 := stF_congr fun b => by
    rw [show ((m * ns.length : Nat) : Int) - b = (0 - b) + (m : Int) * ns.length by rw [Int.natCast_mul]; omega]
    exact hAt_add
  rw [e] at z
  exact z
theorem exch_sum {ns : List Int} {i j : Int} (h0 : 0 ≤ i) (h1 : i < j) (h2 : j < ns.length) : (exch ns i j).sum = ns.sum := by
  unfold exch
  simp only
  split
  · have z := xch_sum (ns := ns) (i := i.toNat) (j := j.toNat) (by omega) (by omega)
    unfold xchF at z
    rw [Int.toNat_of_nonneg h0, Int.toNat_of_nonneg (by omega)] at z
    have e1 : gi ns j = ns.getD j.toNat 0 := rfl
    have e2 : gi ns i - j + i = ns.getD i.toNat 0 - (j - i) := by show ns.getD i.toNat 0 - j + i = _; omega
    rw [e1, e2]
    exact z
  · rfl
theorem exchD_sum {ns : List Int} {d : Int} (hd : 0 ≤ d) (hn : 2 ≤ ns.length) : (exchD ns d).sum = ns.sum := by
  unfold exchD
  simp only
  have a0 : 0 ≤ d % (ns.length : Int) := Int.emod_nonneg _ (by omega)
  have a1 : d % (ns.length : Int) < ns.length := Int.emod_lt_of_pos _ (by omega)
  have c0 : 0 ≤ d / 64 % ((ns.length : Int) - 1) := Int.emod_nonneg _ (by omega)
  have c1 : d / 64 % ((ns.length : Int) - 1) < (ns.length : Int) - 1 := Int.emod_lt_of_pos _ (by omega)
  generalize d % (ns.length : Int) = a at a0 a1
  generalize d / 64 % ((ns.length : Int) - 1) = c at c0 c1
  have b0 : 0 ≤ (a + 1 + c) % (ns.length : Int) := Int.emod_nonneg _ (by omega)
  have b1 : (a + 1 + c) % (ns.length : Int) < ns.length := Int.emod_lt_of_pos _ (by omega)
  have hab : (a + 1 + c) % (ns.length : Int) ≠ a := fun z => by
    by_cases h : a + 1 + c < ns.length
    · rw [Int.emod_eq_of_lt (by omega) h] at z
      omega
    · rw [show a + 1 + c = (a + 1 + c - ns.length) + 1 * (ns.length : Int) by omega, Int.add_mul_emod_self_right, Int.emod_eq_of_lt (by omega) (by omega)] at z
      omega
  generalize (a + 1 + c) % (ns.length : Int) = b at b0 b1 hab
  split
  · exact exch_sum b0 (by omega) a1
  · exact exch_sum a0 (by omega) b1
theorem mixedUp_sum {ns : List Int} {cell : Int} (hn : 2 ≤ ns.length) : ∀ n, (mixedUp ns cell n).sum = ns.sum
  | 0 => rfl
  | n + 1 => by
    rw [mixedUp_succ, exchD_sum (mixed_lo _ _) (by rw [mixedUp_len]; exact hn)]
    exact mixedUp_sum hn n
theorem goStep_sum {ns : List Int} {cell k : Int} : (goStep cell ns k).sum = ns.sum := by
  unfold goStep
  simp only
  rw [List.sum_append, Int.add_comm, ← List.sum_append, List.take_append_drop]
  unfold turns2
  split
  · exact mixedUp_sum (by omega) _
  · rfl
theorem rep_sum1 {x : Int} : ∀ n : Nat, (List.replicate n x).sum = n * x
  | 0 => by simp
  | n + 1 => by
    rw [List.replicate_succ, List.sum_cons, rep_sum1 n, Int.natCast_add, Int.add_mul]
    omega
theorem going_sum {a m : Int} (h1 : 1 ≤ m) : (going a m).sum = m * (a % 10) := by
  unfold going
  rw [goStep_sum, goStep_sum, rep_sum1, Int.toNat_of_nonneg (by omega)]
theorem going_lenI {a m : Int} (h1 : 1 ≤ m) : ((going a m).length : Int) = m := by
  unfold going
  rw [goStep_len, goStep_len, List.length_replicate]
  omega
/-- as many things as the least figure says -/
theorem going_up {a m : Int} (h1 : 1 ≤ m) (h40 : m ≤ 40) : (pcI (stF (hAt (going a m)) 0) : Int) = a % 10 := by
  have e := up_things (good_going (a := a) h1 h40) (going_clash (a := a) h1)
  rw [going_sum h1, going_lenI h1, Int.mul_ediv_cancel_left _ (by omega)] at e
  rw [e]
  show ((pc (stF (hAt (going a m)) 0).toNat 9 : Nat) : Int) = ((pc (stS (hAt (going a m)) 0) 9 : Nat) : Int)
  rw [stF_nat, Int.toNat_natCast]
theorem going_things {a m : Int} (h1 : 1 ≤ m) : (going a m).sum / ((going a m).length : Int) = a % 10 := by
  rw [going_sum h1, going_lenI h1, Int.mul_ediv_cancel_left _ (by omega)]

def upS (ns : List Int) : Int := stF (hAt ns) 0
theorem upS_ok {ns : List Int} (hg : Good ns) : 0 ≤ upS ns ∧ upS ns ≤ 511 := by
  have := st_lt (hAt_hgt hg) 0
  unfold upS
  rw [stF_nat]
  omega
theorem upS_things {ns : List Int} (hg : Good ns) (hc : clashF ns = none) : ns.sum / (ns.length : Int) = (pcI (upS ns) : Int) := by
  rw [up_things hg hc]
  show ((pc (stS (hAt ns) 0) 9 : Nat) : Int) = ((pc (stF (hAt ns) 0).toNat 9 : Nat) : Int)
  rw [stF_nat, Int.toNat_natCast]
/-! ### a hall's state -/
structure HS where
  now : Int
  bits : Int
  fly : List (Int × Int)
  path : List Int
  form : List Int
  spot : Int
structure HInv (s : HS) : Prop where
  good : Good s.form
  goes : clashF s.form = none
  b0 : 0 ≤ s.bits
  b1 : s.bits ≤ 511
  now : 0 ≤ s.now
  nd : (s.fly.map (·.1)).Nodup
  nt : (s.fly.map (·.2)).Nodup
  bit : ∀ k : Nat, bitS s.bits k = true ↔ s.now + (k : Int) ∈ s.fly.map (·.1)
  lo : ∀ w ∈ s.fly.map (·.1), s.now ≤ w
  many : s.fly.length = pcI s.bits
  s0 : 0 ≤ s.spot
  s1 : s.spot < (s.form.length : Int)
  way : PathS s.bits s.path (stF (hAt s.form) s.spot)
  short : s.path.length ≤ 18
def nextH (s : HS) : Int := match s.path with
  | h :: _ => h
  | [] => hAt s.form s.spot
def lookF (l : List (Int × Int)) (w : Int) : Option Int := (l.find? fun p => decide (p.1 = w)).map (·.2)
def dropF (l : List (Int × Int)) (w : Int) : List (Int × Int) := l.filter fun p => decide (p.1 ≠ w)
def thingS (s : HS) : Option Int := lookF s.fly s.now
def flyS (s : HS) : List (Int × Int) := match thingS s with
  | some x => dropF s.fly s.now ++ [(s.now + nextH s, x)]
  | none => s.fly
def stepS (s : HS) : HS where
  now := s.now + 1
  bits := thrownF s.bits (nextH s)
  fly := flyS s
  path := s.path.tail
  form := s.form
  spot := match s.path with
    | _ :: _ => s.spot
    | [] => (s.spot + 1) % s.form.length
noncomputable def changeS (s : HS) (ns : List Int) : HS := { s with path := wayF s.bits (upS ns), form := ns, spot := 0 }
def bitFly (b : Int) : Nat → List (Int × Int)
  | 0 => []
  | n + 1 => if bitS b n = true then bitFly b n ++ [((n : Int), ((bitFly b n).length : Int))] else bitFly b n
def initS (ns : List Int) : HS where
  now := 0
  bits := upS ns
  fly := bitFly (upS ns) 10
  path := []
  form := ns
  spot := 0
def aheadF (s : HS) (m : Nat) : List Int := (List.range m).map fun i => if i < s.path.length then s.path.getD i 0 else hAt s.form (s.spot + (i : Int) - s.path.length)

theorem next_let {s : HS} (I : HInv s) : nextH s ∈ letsF s.bits := by
  have w := I.way
  unfold nextH
  cases h : s.path with
  | nil =>
    rw [h] at w
    have e : s.bits = stF (hAt s.form) s.spot := by
      generalize stF (hAt s.form) s.spot = z at w
      cases w
      rfl
    have hn : 0 < s.form.length := I.good.1
    have hg := goes_iff.mp I.goes
    show hAt s.form s.spot ∈ _
    rw [e]
    exact st_let (hAt_hgt I.good) ((goes_z hn).mp hg) (lands hn hg) _
  | cons a p =>
    rw [h] at w
    cases w with
    | cons m _ => exact m
theorem mem_keysF {l : List (Int × Int)} {w : Int} : w ∈ l.map (·.1) ↔ ∃ x, (w, x) ∈ l := by
  constructor
  · intro h
    obtain ⟨p, hp, rfl⟩ := List.mem_map.mp h
    exact ⟨p.2, hp⟩
  · rintro ⟨x, hx⟩
    exact List.mem_map.mpr ⟨_, hx, rfl⟩
theorem look_some {l : List (Int × Int)} {w x : Int} (h : lookF l w = some x) : (w, x) ∈ l := by
  unfold lookF at h
  cases hf : l.find? fun p => decide (p.1 = w) with
  | none => rw [hf] at h; cases h
  | some p =>
    rw [hf] at h
    have h1 := List.find?_some hf
    have h2 := List.mem_of_find?_eq_some hf
    simp only [decide_eq_true_eq] at h1
    cases h
    rw [← h1]
    exact h2
theorem look_none {l : List (Int × Int)} {w : Int} (h : lookF l w = none) : ¬ w ∈ l.map (·.1) := by
  intro m
  obtain ⟨x, hx⟩ := mem_keysF.mp m
  unfold lookF at h
  rw [Option.map_eq_none_iff, List.find?_eq_none] at h
  exact h _ hx (by simp)
theorem bit0_let {s : HS} (I : HInv s) : bitS s.bits 0 = true ↔ 0 < nextH s := by
  have m := next_let I
  unfold letsF at m
  have e : bitS s.bits 0 = decide (s.bits % 2 = 1) := by
    show decide (s.bits / 2 ^ 0 % 2 = 1) = _
    rw [show s.bits / 2 ^ 0 = s.bits from Int.ediv_one _]
  rw [e]
  split at m
  · rename_i h
    rw [List.mem_singleton.mp m]
    simp [h]
  · rename_i h
    obtain ⟨i, hi, e⟩ := List.mem_map.mp m
    rw [← e]
    have h1 : s.bits % 2 = 1 := by omega
    simp only [h1, decide_true]
    constructor
    · intro _; omega
    · intro _; trivial
theorem thing_iff {s : HS} (I : HInv s) : (thingS s).isSome = true ↔ 0 < nextH s := by
  rw [← bit0_let I, I.bit 0, show s.now + ((0 : Nat) : Int) = s.now from Int.add_zero _]
  unfold thingS
  cases h : lookF s.fly s.now with
  | none => simp [look_none h]
  | some x => simp only [Option.isSome_some, true_iff]; exact mem_keysF.mpr ⟨x, look_some h⟩
theorem keys_drop {l : List (Int × Int)} {w v : Int} : v ∈ (dropF l w).map (·.1) ↔ v ∈ l.map (·.1) ∧ v ≠ w := by
  unfold dropF
  constructor
  · intro h
    obtain ⟨p, hp, rfl⟩ := List.mem_map.mp h
    obtain ⟨h1, h2⟩ := List.mem_filter.mp hp
    exact ⟨List.mem_map.mpr ⟨p, h1, rfl⟩, by simpa using h2⟩
  · rintro ⟨h, hn⟩
    obtain ⟨p, hp, rfl⟩ := List.mem_map.mp h
    exact List.mem_map.mpr ⟨p, List.mem_filter.mpr ⟨hp, by simpa using hn⟩, rfl⟩
theorem fly_keys {s : HS} (I : HInv s) (v : Int) : v ∈ (flyS s).map (·.1) ↔ (v ∈ s.fly.map (·.1) ∧ v ≠ s.now) ∨ (0 < nextH s ∧ v = s.now + nextH s) := by
  unfold flyS
  have ti := thing_iff I
  cases h : thingS s with
  | none =>
    rw [h] at ti
    have hk := look_none h
    have h0 : ¬ 0 < nextH s := fun z => by have := ti.mpr z; cases this
    constructor
    · intro m
      exact .inl ⟨m, fun z => hk (z ▸ m)⟩
    · rintro (m | m)
      · exact m.1
      · exact absurd m.1 h0
  | some x =>
    rw [h] at ti
    have h0 := ti.mp rfl
    show v ∈ (dropF s.fly s.now ++ [(s.now + nextH s, x)]).map (·.1) ↔ _
    rw [List.map_append, List.mem_append, keys_drop]
    simp [h0]
theorem nodup_dropF {l : List (Int × Int)} {w : Int} {β : Type} (g : Int × Int → β) (h : (l.map g).Nodup) : ((dropF l w).map g).Nodup := by
  unfold dropF
  exact List.Sublist.nodup (List.Sublist.map g List.filter_sublist) h
theorem len_dropF : ∀ {l : List (Int × Int)} {w : Int}, (l.map (·.1)).Nodup → w ∈ l.map (·.1) → (dropF l w).length + 1 = l.length
  | [], w, _, m => nomatch m
  | p :: l, w, nd, m => by
    rw [List.map_cons, List.nodup_cons] at nd
    unfold dropF
    by_cases e : p.1 = w
    · rw [List.filter_cons_of_neg (by simp [e])]
      have : l.filter (fun p => decide (p.1 ≠ w)) = l := List.filter_eq_self.mpr fun q hq => by
        have : q.1 ≠ w := fun z => nd.1 (by rw [e, ← z]; exact List.mem_map.mpr ⟨q, hq, rfl⟩)
        simpa using this
      rw [this, List.length_cons]
    · rw [List.filter_cons_of_pos (by simp [e]), List.length_cons, List.length_cons]
      rw [List.map_cons, List.mem_cons] at m
      have := len_dropF nd.2 (m.resolve_left fun z => e z.symm)
      unfold dropF at this
      omega
theorem things_fly {s : HS} (I : HInv s) : ((flyS s).map (·.2)).Nodup := by
  unfold flyS
  cases h : thingS s with
  | none => exact I.nt
  | some x =>
    show ((dropF s.fly s.now ++ [(s.now + nextH s, x)]).map (·.2)).Nodup
    rw [List.map_append, List.nodup_append]
    refine ⟨nodup_dropF _ I.nt, by simp, fun a ha b hb => ?_⟩
    have hx := look_some h
    rw [List.map_cons, List.map_nil, List.mem_singleton] at hb
    obtain ⟨p, hp, rfl⟩ := List.mem_map.mp ha
    obtain ⟨h1, h2⟩ := List.mem_filter.mp hp
    rw [hb]
    intro e
    have : p = (s.now, x) := by
      obtain ⟨i, hi, ei⟩ := List.getElem_of_mem h1
      obtain ⟨j, hj, ej⟩ := List.getElem_of_mem hx
      have nd := List.pairwise_iff_getElem.mp I.nt
      rcases Nat.lt_trichotomy i j with q | q | q
      · exact absurd (by rw [List.getElem_map, List.getElem_map, ei, ej]; exact e) (nd i j (by rw [List.length_map]; exact hi) (by rw [List.length_map]; exact hj) q)
      · subst q
        rw [← ei, ← ej]
      · exact absurd (by rw [List.getElem_map, List.getElem_map, ei, ej]; exact e.symm) (nd j i (by rw [List.length_map]; exact hj) (by rw [List.length_map]; exact hi) q)
    rw [this] at h2
    simp at h2
theorem step_inv {s : HS} (I : HInv s) : HInv (stepS s) := by
  have hl := next_let I
  have ok := step_ok I.b0 I.b1 hl
  have hh := lets_hgt hl
  have clear := let_clear hl
  have hn : 0 < s.form.length := I.good.1
  have newK : ¬ s.now + nextH s ∈ s.fly.map (·.1) := fun m => by
    have z := (I.bit (nextH s).toNat).mpr (by rw [Int.toNat_of_nonneg hh.1]; exact m)
    rw [clear] at z
    cases z
  refine { good := I.good, goes := I.goes, b0 := ok.1, b1 := ok.2.1, now := by show 0 ≤ s.now + 1; have := I.now; omega, nd := ?_, nt := things_fly I, bit := ?_, lo := ?_, many := ?_, s0 := ?_, s1 := ?_, way := ?_, short := ?_ }
  · show ((flyS s).map (·.1)).Nodup
    unfold flyS
    cases h : thingS s with
    | none => exact I.nd
    | some x =>
      show ((dropF s.fly s.now ++ [(s.now + nextH s, x)]).map (·.1)).Nodup
      rw [List.map_append, List.nodup_append]
      refine ⟨nodup_dropF _ I.nd, by simp, fun a ha b hb => ?_⟩
      rw [List.map_cons, List.map_nil, List.mem_singleton] at hb
      rw [hb]
      intro e
      have z := (keys_drop.mp ha).1
      rw [e] at z
      exact newK z
  · intro k
    show bitS (thrownF s.bits (nextH s)) k = true ↔ s.now + 1 + (k : Int) ∈ (flyS s).map (·.1)
    rw [thrown_bit I.b0 hh.1, fly_keys I, Bool.or_eq_true, Bool.and_eq_true, decide_eq_true_eq, decide_eq_true_eq, I.bit (k + 1)]
    rw [show s.now + ((k + 1 : Nat) : Int) = s.now + 1 + (k : Int) by omega]
    constructor
    · rintro (m | ⟨h1, h2⟩)
      · exact .inl ⟨m, by omega⟩
      · exact .inr ⟨h1, by omega⟩
    · rintro (⟨m, _⟩ | ⟨h1, h2⟩)
      · exact .inl m
      · exact .inr ⟨h1, by omega⟩
  · intro w hw
    show s.now + 1 ≤ w
    rcases (fly_keys I w).mp hw with ⟨m, hne⟩ | ⟨h1, h2⟩
    · have := I.lo w m
      omega
    · omega
  · show (flyS s).length = pcI (thrownF s.bits (nextH s))
    rw [ok.2.2, ← I.many]
    unfold flyS
    cases h : thingS s with
    | none => rfl
    | some x =>
      show (dropF s.fly s.now ++ [(s.now + nextH s, x)]).length = _
      rw [List.length_append]
      have := len_dropF I.nd (mem_keysF.mpr ⟨x, look_some h⟩)
      simp only [List.length_singleton]
      omega
  · show 0 ≤ (match s.path with | _ :: _ => s.spot | [] => (s.spot + 1) % (s.form.length : Int))
    split
    · exact I.s0
    · exact Int.emod_nonneg _ (by omega)
  · show (match s.path with | _ :: _ => s.spot | [] => (s.spot + 1) % (s.form.length : Int)) < (s.form.length : Int)
    split
    · exact I.s1
    · exact Int.emod_lt_of_pos _ (by omega)
  · show PathS (thrownF s.bits (nextH s)) s.path.tail (stF (hAt s.form) (match s.path with | _ :: _ => s.spot | [] => (s.spot + 1) % (s.form.length : Int)))
    have w := I.way
    unfold nextH
    cases h : s.path with
    | nil =>
      rw [h] at w
      have e : s.bits = stF (hAt s.form) s.spot := by
        generalize stF (hAt s.form) s.spot = z at w
        cases w
        rfl
      show PathS (thrownF s.bits (hAt s.form s.spot)) [] (stF (hAt s.form) ((s.spot + 1) % (s.form.length : Int)))
      have e2 : stF (hAt s.form) ((s.spot + 1) % (s.form.length : Int)) = stF (hAt s.form) (s.spot + 1) := stF_congr fun b => hAt_of (by rw [Int.sub_emod, Int.emod_emod_of_dvd _ (Int.dvd_refl _), ← Int.sub_emod])
      rw [e2, e, st_step (hAt_hgt I.good)]
      exact .nil _
    | cons a p =>
      rw [h] at w
      cases w with
      | cons m k => exact k
  · show s.path.tail.length ≤ 18
    have := I.short
    rw [List.length_tail]
    omega
theorem change_inv {s : HS} {ns : List Int} (I : HInv s) (hg : Good ns) (hc : clashF ns = none) (he : pcI (upS ns) = pcI s.bits) : HInv (changeS s ns) := by
  have w := way_short I.b0 I.b1 (upS_ok hg).1 (upS_ok hg).2 he.symm
  exact { good := hg, goes := hc, b0 := I.b0, b1 := I.b1, now := I.now, nd := I.nd, nt := I.nt, bit := I.bit, lo := I.lo, many := I.many, s0 := Int.le_refl _, s1 := by show (0 : Int) < ns.length; have := hg.1; omega, way := w.1, short := by show (wayF s.bits (upS ns)).length ≤ 18; omega }
theorem bitFly_keys (b : Int) (w : Int) : ∀ n, w ∈ (bitFly b n).map (·.1) ↔ ∃ k : Nat, k < n ∧ w = (k : Int) ∧ bitS b k = true
  | 0 => by simp [bitFly]
  | n + 1 => by
    unfold bitFly
    split
    · rename_i h
      rw [List.map_append, List.mem_append, bitFly_keys b w n]
      constructor
      · rintro (⟨k, h1, h2⟩ | m)
        · exact ⟨k, by omega, h2⟩
        · exact ⟨n, by omega, by simpa using m, h⟩
      · rintro ⟨k, h1, h2, h3⟩
        by_cases e : k = n
        · exact .inr (by simp [h2, e])
        · exact .inl ⟨k, by omega, h2, h3⟩
    · rename_i h
      rw [bitFly_keys b w n]
      constructor
      · rintro ⟨k, h1, h2⟩
        exact ⟨k, by omega, h2⟩
      · rintro ⟨k, h1, h2, h3⟩
        exact ⟨k, by by_cases e : k = n; · rw [e] at h3; exact absurd h3 h
                     · omega, h2, h3⟩
theorem bitFly_things (b : Int) : ∀ n, (bitFly b n).map (·.2) = (List.range (bitFly b n).length).map fun (k : Nat) => (k : Int)
  | 0 => rfl
  | n + 1 => by
    unfold bitFly
    split
    · rw [List.map_append, bitFly_things b n, List.length_append]
      show _ = (List.range ((bitFly b n).length + 1)).map _
      rw [List.range_succ, List.map_append]
      rfl
    · exact bitFly_things b n
theorem bitFly_nd (b : Int) : ∀ n, ((bitFly b n).map (·.1)).Nodup
  | 0 => by simp [bitFly]
  | n + 1 => by
    unfold bitFly
    split
    · rw [List.map_append, List.nodup_append]
      refine ⟨bitFly_nd b n, by simp, fun a ha c hc => ?_⟩
      obtain ⟨k, h1, h2, _⟩ := (bitFly_keys b a n).mp ha
      have : c = (n : Int) := by simpa using hc
      omega
    · exact bitFly_nd b n
theorem bitFly_len (b : Nat) : ∀ n, (bitFly (b : Int) n).length = pc b n
  | 0 => (by rfl)
  | n + 1 => by
    rw [pc_succ]
    unfold bitFly
    rw [bitS_nat]
    split
    · rw [List.length_append, bitFly_len b n]; rfl
    · rw [bitFly_len b n, Nat.add_zero]
theorem init_inv {ns : List Int} (hg : Good ns) (hc : clashF ns = none) : HInv (initS ns) := by
  have u := upS_ok hg
  have hi : ∀ k : Nat, 9 ≤ k → bitS (upS ns) k = false := fun k hk => by
    obtain ⟨b, hb⟩ : ∃ b : Nat, upS ns = (b : Int) := ⟨(upS ns).toNat, by omega⟩
    rw [hb, bitS_nat]
    exact Nat.testBit_lt_two_pow (Nat.lt_of_lt_of_le (show b < 2 ^ 9 by have : (2 : Nat) ^ 9 = 512 := rfl; omega) (Nat.pow_le_pow_right (by decide) hk))
  refine { good := hg, goes := hc, b0 := u.1, b1 := u.2, now := Int.le_refl _, nd := bitFly_nd _ 10, nt := ?_, bit := ?_, lo := ?_, many := ?_, s0 := Int.le_refl _, s1 := by show (0 : Int) < ns.length; have := hg.1; omega, way := .nil _, short := Nat.zero_le _ }
  · show ((bitFly (upS ns) 10).map (·.2)).Nodup
    rw [bitFly_things]
    refine List.pairwise_iff_getElem.mpr fun i j hi hj hij => ?_
    rw [List.getElem_map, List.getElem_map, List.getElem_range, List.getElem_range]
    omega
  · intro k
    show bitS (upS ns) k = true ↔ 0 + (k : Int) ∈ (bitFly (upS ns) 10).map (·.1)
    rw [Int.zero_add, bitFly_keys]
    constructor
    · intro h
      refine ⟨k, ?_, rfl, h⟩
      by_cases hk : 9 ≤ k
      · rw [hi k hk] at h; cases h
      · omega
    · rintro ⟨j, _, e, h⟩
      have : k = j := by omega
      rw [this]; exact h
  · intro w hw
    obtain ⟨k, _, e, _⟩ := (bitFly_keys _ _ _).mp hw
    show 0 ≤ w
    omega
  · show (bitFly (upS ns) 10).length = pcI (upS ns)
    obtain ⟨b, hb⟩ : ∃ b : Nat, upS ns = (b : Int) := ⟨(upS ns).toNat, by omega⟩
    have h9 := hi 9 (Nat.le_refl _)
    rw [hb] at h9 ⊢
    rw [bitFly_len, pc_succ]
    rw [bitS_nat] at h9
    rw [h9]
    show pc b 9 + 0 = pc ((b : Int).toNat) 9
    rw [Int.toNat_natCast, Nat.add_zero]
end Tr

/-! The class Hall: where a hall stands, what its methods promise; the methods that only tell. -/
namespace Tr
open PySem L2 PySem.Spec PyProof.Rows Evl

def rSortD : List V → Hp → VK → Prop := fun xs H Q => ∃ (a : Addr) (kvs : List (Key × V)) (ks : List Int), xs = [.ref a] ∧ Rd H a (.dK kvs) ∧ kvs.map (·.1) = ks.map Sum.inl ∧ ks.length < 64 ∧
    ∀ (ys : List Int) (p : Addr), ys.Perm ks → ys.Pairwise (· ≤ ·) → H p = none → Q (.ref p) (upd H p (.lst (ys.map V.int)))
theorem fnSortD {X : Cx} (hc : X.calm = true) : CallR X (.builtin "sorted") rSortD := call_sortedDI hc
/-! ### what stays -/
def TupO (o : HO) : Prop := (∃ ys, o = .tup ys) ∨ ∃ f u, o = .frz f u
/-- all but the objects at W, and tuples, are as they were -/
def Mut (W : List Addr) (H H' : Hp) : Prop := ∀ b o, H b = some o → (b ∉ W ∨ TupO o) → H' b = some o
theorem Mut.refl (W : List Addr) (H : Hp) : Mut W H H := fun _ _ h _ => h
theorem Mut.trans {W : List Addr} {H H1 H2 : Hp} (a : Mut W H H1) (b : Mut W H1 H2) : Mut W H H2 := fun x o h k => b x o (a x o h k) k
theorem Mut.of {W : List Addr} {H H1 : Hp} (e : Ex H H1) : Mut W H H1 := fun x o h _ => e x o h
theorem Mut.mono {W W' : List Addr} {H H1 : Hp} (a : Mut W H H1) (h : ∀ x ∈ W, x ∈ W') : Mut W' H H1 := fun x o hx k => a x o hx (k.imp (fun z m => z (h x m)) id)
theorem Mut.upd {W : List Addr} {H : Hp} {a : Addr} {o u : HO} (ha : H a = some u) (hu : ¬ TupO u) (hw : a ∈ W) : Mut W H (upd H a o) := fun x v hx k => by
  rw [upd_ne ?_]
  · exact hx
  · intro e
    subst e
    rw [ha] at hx
    cases hx
    rcases k with k | k
    · exact k hw
    · exact hu k
theorem Mut.sqT {W : List Addr} {H H1 : Hp} {K : PySem.W.Frag} {t : Addr} {xs : List V} (m : Mut W H H1) (h : SqT K H t xs) : SqT K H1 t xs := by
  rcases h with h | h
  · refine .inl ?_
    rcases h with h | ⟨f, h⟩
    · exact .inl (m _ _ h (.inr (.inl ⟨_, rfl⟩)))
    · exact .inr ⟨f, m _ _ h (.inr (.inr ⟨_, _, rfl⟩))⟩
  · exact .inr h
theorem no_lst {xs : List V} : ¬ TupO (.lst xs) := fun z => by rcases z with ⟨_, z⟩ | ⟨_, _, z⟩ <;> cases z
theorem no_dK {xs : List (Key × V)} : ¬ TupO (.dK xs) := fun z => by rcases z with ⟨_, z⟩ | ⟨_, _, z⟩ <;> cases z
theorem no_ins {C d : Addr} {xs : List (Str × V)} : ¬ TupO (.ins C d xs) := fun z => by rcases z with ⟨_, z⟩ | ⟨_, _, z⟩ <;> cases z
/-! ### the log -/
inductive Note where
  | beg (ns : List Int)
  | chg (ns : List Int)
  | stp (th : Option Int) (h : Int)
def thV : Option Int → V
  | none => .non
  | some x => .int x
def NoteAt (K : PySem.W.Frag) (H : Hp) (v : V) : Note → Prop
  | .beg ns => ∃ t u, v = .ref t ∧ H t = some (.tup [.str "begin", .ref u]) ∧ SqT K H u (ns.map V.int)
  | .chg ns => ∃ t u, v = .ref t ∧ H t = some (.tup [.str "change", .ref u]) ∧ SqT K H u (ns.map V.int)
  | .stp th h => ∃ t, v = .ref t ∧ H t = some (.tup [.str "step", thV th, .int h])
def NotesAt (K : PySem.W.Frag) (H : Hp) (vs : List V) (ns : List Note) : Prop := vs.length = ns.length ∧ ∀ (i : Nat) v n, vs[i]? = some v → ns[i]? = some n → NoteAt K H v n
theorem Mut.note {W : List Addr} {H H1 : Hp} {K : PySem.W.Frag} {v : V} {n : Note} (m : Mut W H H1) (h : NoteAt K H v n) : NoteAt K H1 v n := by
  cases n with
  | beg ns => obtain ⟨t, u, e, h1, h2⟩ := h; exact ⟨t, u, e, m _ _ h1 (.inr (.inl ⟨_, rfl⟩)), m.sqT h2⟩
  | chg ns => obtain ⟨t, u, e, h1, h2⟩ := h; exact ⟨t, u, e, m _ _ h1 (.inr (.inl ⟨_, rfl⟩)), m.sqT h2⟩
  | stp th x => obtain ⟨t, e, h1⟩ := h; exact ⟨t, e, m _ _ h1 (.inr (.inl ⟨_, rfl⟩))⟩
theorem Mut.notes {W : List Addr} {H H1 : Hp} {K : PySem.W.Frag} {vs : List V} {ns : List Note} (m : Mut W H H1) (h : NotesAt K H vs ns) : NotesAt K H1 vs ns := ⟨h.1, fun i v n a b => m.note (h.2 i v n a b)⟩
theorem notes_snoc {H : Hp} {K : PySem.W.Frag} {vs : List V} {ns : List Note} {v : V} {n : Note} (h : NotesAt K H vs ns) (hx : NoteAt K H v n) : NotesAt K H (vs ++ [v]) (ns ++ [n]) := by
  refine ⟨by rw [List.length_append, List.length_append, h.1]; rfl, fun i w m a b => ?_⟩
  by_cases hi : i < vs.length
  · rw [List.getElem?_append_left hi] at a
    rw [List.getElem?_append_left (by rw [← h.1]; exact hi)] at b
    exact h.2 i w m a b
  · rw [List.getElem?_append_right (by omega)] at a
    rw [List.getElem?_append_right (by rw [← h.1]; omega), ← h.1] at b
    cases hk : i - vs.length with
    | zero =>
      rw [hk] at a b
      cases a
      cases b
      exact hx
    | succ k =>
      rw [hk] at a
      cases a
/-! ### where a hall stands -/
def hFs (now bits fly path form spot notes : V) : List (Str × V) := [("now", now), ("bits", bits), ("flying", fly), ("path", path), ("form", form), ("spot", spot), ("notes", notes)]
def flyK (l : List (Int × Int)) : List (Key × V) := l.map fun p => (Sum.inl p.1, V.int p.2)
structure HallO (K : PySem.W.Frag) (C : Addr) (H : Hp) (a dx f n p t : Addr) (s : HS) (vs : List V) : Prop where
  ha : H a = some (.ins C dx (hFs (.int s.now) (.int s.bits) (.ref f) (.ref p) (.ref t) (.int s.spot) (.ref n)))
  hf : H f = some (.dK (flyK s.fly))
  hp : H p = some (.lst (s.path.map V.int))
  ht : SqT K H t (s.form.map V.int)
  hn : H n = some (.lst vs)
  pn : p ≠ n
def HallAt (K : PySem.W.Frag) (C : Addr) (H : Hp) (a f n p : Addr) (s : HS) (nts : List Note) : Prop := ∃ dx t vs, HallO K C H a dx f n p t s vs ∧ NotesAt K H vs nts
section
variable {K : PySem.W.Frag} {C : Addr} {H H1 : Hp} {a dx f n p t : Addr} {s : HS} {vs : List V} {nts : List Note}
theorem HallO.mut {W : List Addr} (m : Mut W H H1) (h : HallO K C H a dx f n p t s vs) (ha : a ∉ W) (hf : f ∉ W) (hn : n ∉ W) (hp : p ∉ W) : HallO K C H1 a dx f n p t s vs :=
  ⟨m _ _ h.ha (.inl ha), m _ _ h.hf (.inl hf), m _ _ h.hp (.inl hp), m.sqT h.ht, m _ _ h.hn (.inl hn), h.pn⟩
theorem HallO.ex (e : Ex H H1) (h : HallO K C H a dx f n p t s vs) : HallO K C H1 a dx f n p t s vs := ⟨e _ _ h.ha, e _ _ h.hf, e _ _ h.hp, ex_t e h.ht, e _ _ h.hn, h.pn⟩
theorem HallAt.mut {W : List Addr} (m : Mut W H H1) (h : HallAt K C H a f n p s nts) (ha : a ∉ W) (hf : f ∉ W) (hn : n ∉ W) (hp : p ∉ W) : HallAt K C H1 a f n p s nts :=
  let ⟨dx, t, vs, o, w⟩ := h
  ⟨dx, t, vs, o.mut m ha hf hn hp, m.notes w⟩
theorem HallAt.ex (e : Ex H H1) (h : HallAt K C H a f n p s nts) : HallAt K C H1 a f n p s nts :=
  let ⟨dx, t, vs, o, w⟩ := h
  ⟨dx, t, vs, o.ex e, (Mut.of (W := []) e).notes w⟩
end
/-! ### promises -/
/-- a number of heights that may be asked for -/
def OkA (t : V) : Bool := match t with
  | .int s => decide (0 ≤ s) && decide (s ≤ 400)
  | _ => false
theorem okA_is {t : V} (h : OkA t = true) : ∃ s, t = .int s ∧ 0 ≤ s ∧ s ≤ 400 := by
  cases t with
  | int s =>
    have h : (decide (0 ≤ s) && decide (s ≤ 400)) = true := h
    rw [Bool.and_eq_true, decide_eq_true_eq, decide_eq_true_eq] at h
    exact ⟨s, rfl, h⟩
  | _ => cases h
theorem okA_int {s : Int} (h0 : 0 ≤ s) (h1 : s ≤ 400) : OkA (.int s) = true := by
  show (decide (0 ≤ s) && decide (s ≤ 400)) = true
  rw [decide_eq_true h0, decide_eq_true h1]
  rfl
/-- the things in the air with their waits, by the waits -/
def airF (s : HS) : List (Int × Int) := ((List.range 9).filter fun (k : Nat) => bitS s.bits k).map fun (k : Nat) => ((lookF s.fly (s.now + (k : Int))).getD 0, (k : Int))
def RetA (ps : List (Int × Int)) (H : Hp) (Q : VK) : Prop := ∀ l xs H2, H l = none → Ex H H2 → H2 l = some (.lst xs) → PairsAt (del H2 l) xs ps → Q (.ref l) H2
def AtHall (K : PySem.W.Frag) (c : Cs) (v : V) (H : Hp) (go : Addr → Addr → Addr → Addr → HS → List Note → Prop) : Prop := ∃ a f n p s nts, v = .ref a ∧ HallAt K c.hall H a f n p s nts ∧ HInv s ∧ go a f n p s nts
def sp_h_turn (K : PySem.W.Frag) (c : Cs) : Sp := fun vs H Q _ => ∃ x, vs = [x] ∧ AtHall K c x H fun _ _ _ _ s _ => RetV (.int s.now) H Q
def sp_h_state (K : PySem.W.Frag) (c : Cs) : Sp := fun vs H Q _ => ∃ x, vs = [x] ∧ AtHall K c x H fun _ _ _ _ s _ => RetV (.int s.bits) H Q
def sp_h_air (K : PySem.W.Frag) (c : Cs) : Sp := fun vs H Q _ => ∃ x, vs = [x] ∧ AtHall K c x H fun _ _ _ _ s _ => RetA (airF s) H Q
def sp_h_ahead (K : PySem.W.Frag) (c : Cs) : Sp := fun vs H Q E => ∃ x m, vs = [x, m] ∧ Typed K H m ∧ AtHall K c x H fun _ _ _ _ s _ => (OkA m = false ∧ RetE c.noturn H E) ∨ ∃ k : Int, m = .int k ∧ 0 ≤ k ∧ k ≤ 400 ∧ RetL ((aheadF s k.toNat).map V.int) H Q
def sp_h_log (K : PySem.W.Frag) (c : Cs) : Sp := fun vs H Q _ => ∃ x, vs = [x] ∧ AtHall K c x H fun _ _ _ _ _ nts => ∀ l xs H2, H l = none → Ex H H2 → H2 l = some (.lst xs) → NotesAt K H2 xs nts → Q (.ref l) H2
def sp_h_init (K : PySem.W.Frag) (c : Cs) : Sp := fun vs H Q E => ∃ a dx x, vs = [.ref a, x] ∧ H a = some (.ins c.hall dx []) ∧ Need K c x H E fun ns => ∀ f n p H2, Mut [a] H H2 → H f = none → H n = none → H p = none → HallAt K c.hall H2 a f n p (initS ns) [.beg ns] → Q .non H2
def sp_h_step (K : PySem.W.Frag) (c : Cs) : Sp := fun vs H Q _ => ∃ x, vs = [x] ∧ AtHall K c x H fun a f n p s nts => nts.length < 90000 ∧
  ∀ t p2 H2, Mut [a, f, n] H H2 → (p2 = p ∨ H p2 = none) → H t = none → H2 t = some (.tup [.int s.now, thV (thingS s), .int (nextH s)]) → HallAt K c.hall H2 a f n p2 (stepS s) (nts ++ [.stp (thingS s) (nextH s)]) → Q (.ref t) H2
def sp_h_change (K : PySem.W.Frag) (c : Cs) : Sp := fun vs H Q E => ∃ x y, vs = [x, y] ∧ AtHall K c x H fun a f n p s nts => nts.length < 90000 ∧ Need K c y H E fun ns =>
  (pcI (upS ns) ≠ pcI s.bits ∧ RetE c.noway H E) ∨ (pcI (upS ns) = pcI s.bits ∧ ∀ p2 H2, Mut [a, n] H H2 → H p2 = none → HallAt K c.hall H2 a f n p2 (changeS s ns) (nts ++ [.chg ns]) → Q .non H2)
/-- __init__: slots self, row, wait -/
def t_h_init (K : PySem.W.Frag) (c : Cs) (E : XK) : TS :=
  (tSeq (tDrop (tCall (sp_need_going K c) [] E (tCons (tVar 1) tNil)))
  (tSeq (sFld K (tVar 0) (tC (.int 0)) "now")
  (tSeq (sFld K (tVar 0) (tCall (sp_state_at K c) [.int 0] E (tCons (tVar 1) tNil)) "bits")
  (tSeq (sFld K (tVar 0) tDNewK "flying")
  (tSeq (tFor (iRng1 (tCons (tC (.int 10)) tNil)) (gName 2) (tIfS (tTest (tOp (xEq K) (tOp xAnd (tOp xShr (tFld K (tVar 0) "bits") (tVar 2)) (tC (.int 1))) (tC (.int 1)))) (sDPut (tFld K (tVar 0) "flying") (tVar 2) (tCB (cLen K) (tCons (tFld K (tVar 0) "flying") tNil))) tNext))
  (tSeq (sFld K (tVar 0) (tLst tNil) "path")
  (tSeq (sFld K (tVar 0) (tCB (cTuple K) (tCons (tVar 1) tNil)) "form")
  (tSeq (sFld K (tVar 0) (tC (.int 0)) "spot")
  (sFld K (tVar 0) (tLst (tCons (tTup (tCons (tC (.str "begin")) (tCons (tFld K (tVar 0) "form") tNil))) tNil)) "notes")))))))))

/-- turn: slots self -/
def t_h_turn (K : PySem.W.Frag) (c : Cs) (E : XK) : TS :=
  (tRet (tFld K (tVar 0) "now"))

/-- state: slots self -/
def t_h_state (K : PySem.W.Frag) (c : Cs) (E : XK) : TS :=
  (tRet (tFld K (tVar 0) "bits"))

/-- air: slots self, when -/
def t_h_air (K : PySem.W.Frag) (c : Cs) (E : XK) : TS :=
  (tRet (tLc (iSeq K (tCB rSortD (tCons (tFld K (tVar 0) "flying") tNil))) (gName 1) tYes (tTup (tCons (tDGet (tFld K (tVar 0) "flying") (tVar 1)) (tCons (tOp xSub (tVar 1) (tFld K (tVar 0) "now")) tNil))) [1]))

/-- ahead: slots self, many, found -/
def t_h_ahead (K : PySem.W.Frag) (c : Cs) (E : XK) : TS :=
  (tSeq (tIfS (tOr (tNot (tB (tCall (sp_is_number K c) [] E0 (tCons (tVar 1) tNil)))) (tNot (tTest (tChain xLe xLe (tC (.int 0)) (tVar 1) (tC (.int 400)))))) (fun _ σ H => (fun cls d _ H => E cls d H) (.ref c.noturn) none σ H) tNext)
  (tSeq (tAsg (tSl (xSl K) (tFld K (tVar 0) "path") tNoPart (tPart (tVar 1))) (gName 2))
  (tSeq (tWhile (tTest (tOp xLt (tCB (cLen K) (tCons (tVar 2) tNil)) (tVar 1))) (tDrop (tBM K "list" rAppend (tVar 2) (tCons (tOp (rIx K) (tFld K (tVar 0) "form") (tOp xMod (tOp xSub (tOp (xAdd K) (tFld K (tVar 0) "spot") (tCB (cLen K) (tCons (tVar 2) tNil))) (tCB (cLen K) (tCons (tFld K (tVar 0) "path") tNil))) (tCB (cLen K) (tCons (tFld K (tVar 0) "form") tNil)))) tNil))))
  (tRet (tVar 2)))))

/-- step: slots self, height, thing -/
def t_h_step (K : PySem.W.Frag) (c : Cs) (E : XK) : TS :=
  (tSeq (tAsg (tOp (rIx K) (tMeth c.hall "ahead" (sp_h_ahead K c) [] E0 (tVar 0) (tCons (tC (.int 1)) tNil)) (tC (.int 0))) (gName 1))
  (tSeq (tIfS (tTest (tOp (xNe K) (tFld K (tVar 0) "path") (tLst tNil))) (sFld K (tVar 0) (tSl (xSl K) (tFld K (tVar 0) "path") (tPart (tC (.int 1))) tNoPart) "path") (sFld K (tVar 0) (tOp xMod (tOp (xAdd K) (tFld K (tVar 0) "spot") (tC (.int 1))) (tCB (cLen K) (tCons (tFld K (tVar 0) "form") tNil))) "spot"))
  (tSeq (tAsg (tDPop2 (tFld K (tVar 0) "flying") (tFld K (tVar 0) "now") (tC .non)) (gName 2))
  (tSeq (tIfS (tTest (tOp xNotN (tVar 2) (tC .non))) (sDPut (tFld K (tVar 0) "flying") (tOp (xAdd K) (tFld K (tVar 0) "now") (tVar 1)) (tVar 2)) tNext)
  (tSeq (sFld K (tVar 0) (tCall (sp_thrown K c) [] E0 (tCons (tFld K (tVar 0) "bits") (tCons (tVar 1) tNil))) "bits")
  (tSeq (sFldAug K (tVar 0) (tC (.int 1)) rAdd "now")
  (tSeq (tDrop (tBM K "list" rAppend (tFld K (tVar 0) "notes") (tCons (tTup (tCons (tC (.str "step")) (tCons (tVar 2) (tCons (tVar 1) tNil)))) tNil)))
  (tRet (tTup (tCons (tOp xSub (tFld K (tVar 0) "now") (tC (.int 1))) (tCons (tVar 2) (tCons (tVar 1) tNil))))))))))))

/-- change: slots self, row -/
def t_h_change (K : PySem.W.Frag) (c : Cs) (E : XK) : TS :=
  (tSeq (tIfS (tTest (tOp (xNe K) (tCall (sp_things K c) [] E (tCons (tVar 1) tNil)) (tCB (cLen K) (tCons (tFld K (tVar 0) "flying") tNil)))) (fun _ σ H => (fun cls d _ H => E cls d H) (.ref c.noway) none σ H) tNext)
  (tSeq (sFld K (tVar 0) (tCall (sp_way K c) [] E (tCons (tFld K (tVar 0) "bits") (tCons (tCall (sp_state_at K c) [.int 0] E (tCons (tVar 1) tNil)) tNil))) "path")
  (tSeq (sFld K (tVar 0) (tCB (cTuple K) (tCons (tVar 1) tNil)) "form")
  (tSeq (sFld K (tVar 0) (tC (.int 0)) "spot")
  (tDrop (tBM K "list" rAppend (tFld K (tVar 0) "notes") (tCons (tTup (tCons (tC (.str "change")) (tCons (tFld K (tVar 0) "form") tNil))) tNil)))))))

/-- log: slots self -/
def t_h_log (K : PySem.W.Frag) (c : Cs) (E : XK) : TS :=
  (tRet (tCB (cList K) (tCons (tFld K (tVar 0) "notes") tNil)))

section
variable {K : PySem.W.Frag} {c : Cs} {vs : List V} {H : Hp} {Q : VK} {E : XK}
theorem ev_fld {σ : L2.St} {ta : TE} {a C dx : Addr} {fs : List (Str × V)} {f : Str} {v : V} (ha : Ev ta σ H (.ref a)) (hi : H a = some (.ins C dx fs)) (hc : Cls K C) (hn : NoAttr K C f) (l : fs.lookup f = some v) : Ev (tFld K ta f) σ H v := fun H1 e Q q =>
  ha H1 e _ fun H2 e2 => ⟨a, C, dx, fs, v, rfl, e2 _ _ (e _ _ hi), hc, hn, l, q H2 e2⟩
theorem pure_h_turn (hK : HallK K c.hall) (h : sp_h_turn K c vs H Q E) : t_h_turn K c E { nx := fun _ H' => Q .non H', rt := Q } (start ["self"] vs) H := by
  obtain ⟨x, rfl, a, f, n, p, s, nts, rfl, ⟨dx, t, ws, o, _⟩, _, q⟩ := h
  exact s_ret (ev_fld (ev_var (i := 0) rfl) o.ha hK.cl hK.now rfl) q
theorem pure_h_state (hK : HallK K c.hall) (h : sp_h_state K c vs H Q E) : t_h_state K c E { nx := fun _ H' => Q .non H', rt := Q } (start ["self"] vs) H := by
  obtain ⟨x, rfl, a, f, n, p, s, nts, rfl, ⟨dx, t, ws, o, _⟩, _, q⟩ := h
  exact s_ret (ev_fld (ev_var (i := 0) rfl) o.ha hK.cl hK.bits rfl) q
theorem pure_h_log (hK : HallK K c.hall) (h : sp_h_log K c vs H Q E) : t_h_log K c E { nx := fun _ H' => Q .non H', rt := Q } (start ["self"] vs) H := by
  obtain ⟨x, rfl, a, f, n, p, s, nts, rfl, ⟨dx, t, ws, o, w⟩, _, q⟩ := h
  refine ev_fld (σ := start ["self"] [V.ref a]) (ev_var (i := 0) rfl) o.ha hK.cl hK.notes rfl H (Ex.refl _) _ fun H1 e1 => ⟨n, ws, rfl, .inl (SqL.of (e1 _ _ o.hn)), fun l hl => q l ws _ (fresh_back e1 hl) (e1.trans (Ex.new hl)) upd_same ((Mut.of (W := []) (e1.trans (Ex.new hl))).notes w)⟩
theorem cutV_up {xs : List V} {i : Int} (h0 : 0 ≤ i) : cutV xs none (some i) = xs.take i.toNat := by
  unfold cutV
  have e1 : HT.sIx xs.length xs.length (some i) = min i.toNat xs.length := by
    unfold HT.sIx
    simp only
    rw [if_neg (by omega)]
  have e2 : HT.sIx xs.length 0 none = 0 := rfl
  rw [e1, e2, List.drop_zero, Nat.sub_zero]
  by_cases h : i.toNat ≤ xs.length
  · rw [Nat.min_eq_left h]
  · rw [Nat.min_eq_right (by omega), List.take_of_length_le (Nat.le_refl _), List.take_of_length_le (by omega)]
theorem ahead_take {s : HS} {m : Nat} (h : m ≤ s.path.length) : aheadF s m = s.path.take m := by
  refine List.ext_getElem ?_ fun i h1 h2 => ?_
  · unfold aheadF
    rw [List.length_map, List.length_range, List.length_take]
    omega
  · unfold aheadF at h1 ⊢
    rw [List.length_map, List.length_range] at h1
    rw [List.getElem_map, List.getElem_range, if_pos (by omega), List.getElem_take, List.getD_eq_getElem?_getD, List.getElem?_eq_getElem (by omega)]
    rfl
theorem ahead_succ {s : HS} {m : Nat} (h : s.path.length ≤ m) : aheadF s (m + 1) = aheadF s m ++ [hAt s.form (s.spot + (m : Int) - s.path.length)] := by
  unfold aheadF
  rw [List.range_succ, List.map_append, List.map_singleton, if_neg (by omega)]
theorem ahead_len {s : HS} {m : Nat} : (aheadF s m).length = m := by
  unfold aheadF
  rw [List.length_map, List.length_range]
theorem pure_h_ahead (hK : HallK K c.hall) (h : sp_h_ahead K c vs H Q E) : t_h_ahead K c E { nx := fun _ H' => Q .non H', rt := Q } (start ["self", "many", "found"] vs) H := by
  obtain ⟨x, m, rfl, ty, a, f, n, p, s, nts, rfl, ⟨dx, t, ws, o, w⟩, I, h⟩ := h
  have test : EvT (tOr (tNot (tB (tCall (sp_is_number K c) [] E0 (tCons (tVar 1) tNil)))) (tNot (tTest (tChain xLe xLe (tC (.int 0)) (tVar 1) (tC (.int 400)))))) (start ["self", "many", "found"] [.ref a, m]) H (!OkA m) := by
    cases hn : numV m with
    | false => exact et_is (et_or (b := true) (et_not (et_B (ev_is_number (ev_var rfl) ty))) fun z => by rw [hn] at z; cases z) (by rw [hn]; cases m <;> first | rfl | cases hn)
    | true =>
      obtain ⟨n, rfl⟩ := num_is hn
      exact et_or (et_not (et_B (ev_is_number (ev_var rfl) ty))) fun _ => et_not (et_test (ev_chain ev_c (ev_var rfl) ev_c))
  refine q_when test (fun hb H2 e2 => ?_) fun hb H2 e2 => ?_
  · rcases h with ⟨_, q⟩ | ⟨k, rfl, h0, h1, q⟩
    · exact q H2 e2
    · rw [okA_int h0 h1] at hb
      cases hb
  · rcases h with ⟨z, q⟩ | ⟨k, rfl, h0, h1, q⟩
    · rw [z] at hb
      cases hb
    · have o2 := o.ex e2
      have fld : ∀ {H' : Hp} {σ : L2.St} {g : Str} {v : V}, Ex H2 H' → σ[0]? = some (some (.ref a)) → NoAttr K c.hall g → (hFs (.int s.now) (.int s.bits) (.ref f) (.ref p) (.ref t) (.int s.spot) (.ref n)).lookup g = some v → Ev (tFld K (tVar 0) g) σ H' v := fun e h0 hn l => ev_fld (ev_var h0) (e _ _ o2.ha) hK.cl hn l
      have sh := I.short
      refine q_asgL (xs := (s.path.take k.toNat).map V.int) ?_ fun l H3 hl e3 h3 => ?_
      · have z := el_slX (K := K) (σ := start ["self", "many", "found"] [V.ref a, V.int k]) (H := H2) (te := tFld K (tVar 0) "path") (lo := none) (hi := some k) (evs_of (fld (Ex.refl _) rfl hK.path rfl) (SqL.of o2.hp)) eo_none (eo_some (ev_var (i := 1) rfl))
        rw [cutV_up h0, ← List.map_take] at z
        exact z
      have hex : ∀ (m' : Nat) (H' : Hp), H' l = some (.lst ((aheadF s m').map V.int)) → Ex H2 (del H' l) → Ex H2 H' := fun m' H' _ e b o' hb => by
        have hb2 := e b o' hb
        unfold del at hb2
        split at hb2
        · cases hb2
        · exact hb2
      refine q_while (W := fun j σ' H' => ∃ m' : Nat, m' + j = k.toNat + 20 ∧ m' ≤ k.toNat ∧ (m' < k.toNat → s.path.length ≤ m') ∧ σ' = [some (.ref a), some (.int k), some (.ref l)] ∧ H' l = some (.lst ((aheadF s m').map V.int)) ∧ ∀ b o', b ≠ l → H2 b = some o' → H' b = some o') (k.toNat + 20 - min k.toNat s.path.length) ?_ ?_
      · refine ⟨min k.toNat s.path.length, by omega, by omega, fun z => by omega, rfl, ?_, fun b o' _ hb => e3 _ _ hb⟩
        rw [h3]
        by_cases hk : k.toNat ≤ s.path.length
        · rw [Nat.min_eq_left hk, ahead_take hk]
        · rw [Nat.min_eq_right (by omega), ahead_take (Nat.le_refl _), List.take_of_length_le (Nat.le_refl _), List.take_of_length_le (by omega)]
      · rintro j σ' H' ⟨m', hm, hmk, hpl, rfl, hl', keep⟩
        have hlx : ∀ {H'' : Hp}, Ex H' H'' → ∀ b o', b ≠ l → H2 b = some o' → H'' b = some o' := fun e b o' hb h => e _ _ (keep b o' hb h)
        have hal : a ≠ l := ne_of_none o2.ha hl
        have hpl' : p ≠ l := ne_of_none o2.hp hl
        have ha' : H' a = _ := keep _ _ hal o2.ha
        have fld' : ∀ {H'' : Hp} {g : Str} {v : V}, Ex H' H'' → NoAttr K c.hall g → (hFs (.int s.now) (.int s.bits) (.ref f) (.ref p) (.ref t) (.int s.spot) (.ref n)).lookup g = some v → Ev (tFld K (tVar 0) g) [some (.ref a), some (.int k), some (.ref l)] H'' v := fun e hn lk => ev_fld (ev_var (i := 0) rfl) (e _ _ ha') hK.cl hn lk
        have hlen : Ev (tCB (cLen K) (tCons (tVar 2) tNil)) [some (.ref a), some (.int k), some (.ref l)] H' (.int (m' : Int)) := ev_is (ev_lenI (ns := aheadF s m') (evq_of (ev_var (i := 2) rfl) (.inl (SqL.of hl')))) (by rw [ahead_len])
        refine ⟨decide ((m' : Int) < k), et_test (ev_op hlen (ev_var (i := 1) rfl) rv_lt), fun hb H4 e4 => ?_, fun hb H4 e4 => ?_⟩
        · have hlt := of_decide_eq_true hb
          have hml := hpl (by omega)
          have hT : SqT K H' t (s.form.map V.int) := by
            rcases o2.ht with h | h
            · refine .inl ?_
              rcases h with h | ⟨g, h⟩
              · exact .inl (keep _ _ (ne_of_none h hl) h)
              · exact .inr ⟨g, keep _ _ (ne_of_none h hl) h⟩
            · exact .inr h
          have hform : ∀ {H'' : Hp}, Ex H' H'' → EvQ K (tFld K (tVar 0) "form") [some (.ref a), some (.int k), some (.ref l)] H'' (s.form.map V.int) := fun e => evq_of (fld' e hK.form rfl) (.inr (ex_t e hT))
          have hgood := I.good.1
          refine ⟨_, fun _ _ h => h, ?_⟩
          refine s_app (l := l) (xs := (aheadF s m').map V.int) (v := .int (hAt s.form (s.spot + (m' : Int) - s.path.length))) (e4 _ _ hl') (ev_var (i := 2) rfl) (ev_hAt (hform e4) (fun H5 e5 => ev_op (ev_op (ev_op (fld' (e4.trans e5) hK.spot rfl) (hlen.mono (e4.trans e5)) rv_addI) (ev_lenI (ns := s.path) (evq_of (fld' (e4.trans e5) hK.path rfl) (.inl (SqL.of ((e4.trans e5) _ _ (keep _ _ hpl' o2.hp)))))) rv_sub) (ev_lenI (hform (e4.trans e5))) (rv_mod (by omega))) (by omega)) (by rw [List.length_map, ahead_len]; omega) fun H5 e5 => ?_
          refine ⟨j - 1, by omega, m' + 1, by omega, by omega, fun _ => by omega, rfl, ?_, fun b o' hb h => ?_⟩
          · rw [upd_same, ahead_succ hml, List.map_append]
            rfl
          · rw [upd_ne hb]
            exact hlx (e4.trans e5) b o' hb h
        · have hge := of_decide_eq_false hb
          have hmk' : m' = k.toNat := by omega
          subst hmk'
          refine s_ret (v := .ref l) (ev_var (i := 2) rfl) fun H5 e5 => ?_
          refine q l H5 (fresh_back e2 hl) (fun b o' hb => ?_) (e5 _ _ (e4 _ _ hl'))
          have hbl : b ≠ l := ne_of_none (e2 _ _ hb) hl
          exact (e4.trans e5) _ _ (keep _ _ hbl (e2 _ _ hb))
end
end Tr

/-! The class Hall: what is in the air; its making, a step, another row. -/
namespace Tr
open PySem L2 PySem.Spec PyProof.Rows Evl

theorem sorted_ext : ∀ {xs ys : List Int}, xs.Pairwise (· < ·) → ys.Pairwise (· < ·) → (∀ a, a ∈ xs ↔ a ∈ ys) → xs = ys
  | [], [], _, _, _ => rfl
  | [], y :: ys, _, _, h => absurd ((h y).mpr List.mem_cons_self) List.not_mem_nil
  | x :: xs, [], _, _, h => absurd ((h x).mp List.mem_cons_self) List.not_mem_nil
  | x :: xs, y :: ys, hx, hy, h => by
    rw [List.pairwise_cons] at hx hy
    have e : x = y := by
      rcases List.mem_cons.mp ((h x).mp List.mem_cons_self) with e | m
      · exact e
      · rcases List.mem_cons.mp ((h y).mpr List.mem_cons_self) with e | m2
        · exact e.symm
        · have a := hy.1 x m
          have b := hx.1 y m2
          omega
    subst e
    rw [sorted_ext hx.2 hy.2 fun a => ?_]
    constructor
    · intro m
      rcases List.mem_cons.mp ((h a).mp (List.mem_cons_of_mem _ m)) with e | m2
      · have := hx.1 a m
        omega
      · exact m2
    · intro m
      rcases List.mem_cons.mp ((h a).mpr (List.mem_cons_of_mem _ m)) with e | m2
      · have := hy.1 a m
        omega
      · exact m2
def keysC (s : HS) : List Int := ((List.range 9).filter fun (k : Nat) => bitS s.bits k).map fun (k : Nat) => s.now + (k : Int)
theorem bit_hi {s : HS} (I : HInv s) {k : Nat} (h : bitS s.bits k = true) : k < 9 := by
  by_cases hk : 9 ≤ k
  · have b0 := I.b0
    have b1 := I.b1
    obtain ⟨b, hb⟩ : ∃ b : Nat, s.bits = (b : Int) := ⟨s.bits.toNat, by omega⟩
    rw [hb, bitS_nat] at h
    rw [Nat.testBit_lt_two_pow (Nat.lt_of_lt_of_le (show b < 2 ^ 9 by have : (2 : Nat) ^ 9 = 512 := rfl; omega) (Nat.pow_le_pow_right (by decide) hk))] at h
    cases h
  · omega
theorem keysC_mem {s : HS} (I : HInv s) (w : Int) : w ∈ keysC s ↔ w ∈ s.fly.map (·.1) := by
  unfold keysC
  constructor
  · intro h
    obtain ⟨k, hk, rfl⟩ := List.mem_map.mp h
    exact (I.bit k).mp (List.mem_filter.mp hk).2
  · intro h
    have := I.lo w h
    obtain ⟨k, hk⟩ : ∃ k : Nat, w = s.now + (k : Int) := ⟨(w - s.now).toNat, by omega⟩
    subst hk
    have hb := (I.bit k).mpr h
    exact List.mem_map.mpr ⟨k, List.mem_filter.mpr ⟨List.mem_range.mpr (bit_hi I hb), hb⟩, rfl⟩
theorem keysC_sorted (s : HS) : (keysC s).Pairwise (· < ·) := by
  unfold keysC
  rw [List.pairwise_map]
  exact List.Pairwise.imp (fun h => by omega) (List.Pairwise.filter _ (List.pairwise_lt_range))
theorem keys_are {s : HS} (I : HInv s) {ys : List Int} (hp : ys.Perm (s.fly.map (·.1))) (hs : ys.Pairwise (· ≤ ·)) : ys = keysC s := by
  refine sorted_ext ?_ (keysC_sorted s) fun a => ?_
  · have nd : ys.Nodup := hp.nodup_iff.mpr I.nd
    exact List.Pairwise.imp (fun ⟨h1, h2⟩ => by omega) (List.Pairwise.and hs nd)
  · rw [keysC_mem I]
    exact hp.mem_iff
theorem flyK_val (l : List (Int × Int)) (w : Int) : valV (flyK l) (Sum.inl w) = (lookF l w).map V.int := by
  unfold valV flyK lookF
  rw [List.find?_map]
  have e : ((fun kv : Key × V => decide (kv.1 = Sum.inl w)) ∘ fun p : Int × Int => ((Sum.inl p.1 : Key), V.int p.2)) = fun p => decide (p.1 = w) := by
    funext p
    exact decide_eq_decide.mpr ⟨fun z => Sum.inl.inj z, fun z => by show Sum.inl p.1 = _; rw [z]⟩
  rw [e]
  cases l.find? fun p => decide (p.1 = w) <;> rfl
theorem look_is {l : List (Int × Int)} {w : Int} (h : w ∈ l.map (·.1)) : ∃ x, lookF l w = some x := by
  cases e : lookF l w with
  | none => exact absurd h (look_none e)
  | some x => exact ⟨x, rfl⟩
theorem flyK_drop (l : List (Int × Int)) (w : Int) : dropK (flyK l) (Sum.inl w) = flyK (dropF l w) := by
  unfold dropK flyK dropF
  rw [List.filter_map]
  have e : ((fun kv : Key × V => decide (kv.1 ≠ Sum.inl w)) ∘ fun p : Int × Int => ((Sum.inl p.1 : Key), V.int p.2)) = fun p => decide (p.1 ≠ w) := by
    funext p
    exact decide_eq_decide.mpr ⟨fun z e => z (by show Sum.inl p.1 = _; rw [e]), fun z e => z (Sum.inl.inj e)⟩
  rw [e]
theorem flyK_put {l : List (Int × Int)} {w x : Int} (h : ¬ w ∈ l.map (·.1)) : putK (flyK l) (Sum.inl w) (.int x) = flyK (l ++ [(w, x)]) := by
  unfold putK
  rw [if_neg]
  · unfold flyK
    rw [List.map_append]
    rfl
  · intro z
    obtain ⟨kv, hkv, e⟩ := List.any_eq_true.mp z
    unfold flyK at hkv
    obtain ⟨p, hp, rfl⟩ := List.mem_map.mp hkv
    have e2 := of_decide_eq_true e
    exact h (List.mem_map.mpr ⟨p, hp, Sum.inl.inj e2⟩)
section
variable {K : PySem.W.Frag} {c : Cs} {vs : List V} {H : Hp} {Q : VK} {E : XK}
theorem pure_h_air (hK : HallK K c.hall) (h : sp_h_air K c vs H Q E) : t_h_air K c E { nx := fun _ H' => Q .non H', rt := Q } (start ["self", "when"] vs) H := by
  obtain ⟨x, rfl, a, f, n, p, s, nts, rfl, ⟨dx, t, ws, o, _⟩, I, q⟩ := h
  have hlen : (keysC s).length ≤ 9 := by
    unfold keysC
    rw [List.length_map]
    exact Nat.le_trans (List.length_filter_le _ _) (by rw [List.length_range]; exact Nat.le_refl _)
  have hf9 : s.fly.length ≤ 9 := by rw [I.many]; exact pcI_le _
  refine .inl (ev_fld (σ := start ["self", "when"] [V.ref a]) (ev_var (i := 0) rfl) o.ha hK.cl hK.flying rfl H (Ex.refl _) _ fun H1 e1 => ⟨f, flyK s.fly, s.fly.map (·.1), rfl, .inl (e1 _ _ o.hf), by unfold flyK; rw [List.map_map, List.map_map]; rfl, by rw [List.length_map]; omega, fun ys l hperm hsort hl => ?_⟩)
  have hys := keys_are I hperm hsort
  have e2 : Ex H (upd H1 l (.lst (ys.map V.int))) := e1.trans (Ex.new hl)
  have hfl : (upd H1 l (.lst (ys.map V.int))) f = some (.dK (flyK s.fly)) := e2 _ _ o.hf
  refine ⟨l, rfl, ⟨_, SqL.of upd_same⟩, ?_⟩
  refine lcPair (J := Itl K l) (σ := start ["self", "when"] [V.ref a]) (n := ys.length) (ab := fun i => ((lookF s.fly (ys.getD i 0)).getD 0, ys.getD i 0 - s.now)) (by rw [hys]; omega) ?_ ?_ ?_ ?_
  · intro i H' hi e'
    exact ⟨ys.map V.int, .int (ys.getD i 0), ex_l e' (SqL.of upd_same), by rw [List.getElem?_map, List.getD_eq_getElem?_getD, List.getElem?_eq_getElem hi]; rfl⟩
  · intro H' e'
    exact ⟨ys.map V.int, ex_l e' (SqL.of upd_same), by rw [List.length_map]; exact Nat.le_refl _⟩
  · rintro i x H' H'' hi e' ⟨rfl, hx⟩
    have hx2 := hx (ys.map V.int) (ex_l e' (SqL.of upd_same))
    obtain ⟨hil, rfl⟩ := getD_of hx2
    refine ⟨rfl, fun G hG => hG _ rfl (eu_tup (ea_cons ?_ (ea_cons ?_ ea_nil)) (by show 2 ≤ 100000; decide))⟩
    · have hm : ys.getD i 0 ∈ s.fly.map (·.1) := hperm.mem_iff.mp (mem_getD0 hil)
      obtain ⟨y, hy⟩ := look_is hm
      refine ev_is (ev_dget (k := Sum.inl (ys.getD i 0)) (ev_fld (ev_var (i := 0) rfl) ((e2.trans e') _ _ o.ha) hK.cl hK.flying rfl) (ev_var (i := 1) rfl) (e' _ _ hfl) (v := .int y) (by rw [flyK_val, hy]; rfl)) (by rw [hy]; rfl)
    · exact ev_op (ev_var (i := 1) rfl) (ev_fld (ev_var (i := 0) rfl) ((e2.trans e') _ _ o.ha) hK.cl hK.now rfl) rv_sub
  · intro D xs H2 hD e3 h3 hp
    refine q D xs H2 (fresh_of e2 hD) (e2.trans e3) h3 ?_
    have e : (List.range ys.length).map (fun i => ((lookF s.fly (ys.getD i 0)).getD 0, ys.getD i 0 - s.now)) = airF s := by
      have e1 : (List.range ys.length).map (fun i => ((lookF s.fly (ys.getD i 0)).getD 0, ys.getD i 0 - s.now)) = ((List.range ys.length).map fun i => ys.getD i 0).map fun w => ((lookF s.fly w).getD 0, w - s.now) := by rw [List.map_map]; rfl
      rw [e1, map_getD0, hys]
      unfold keysC airF
      rw [List.map_map]
      refine List.map_congr_left fun k _ => ?_
      show ((lookF s.fly (s.now + (k : Int))).getD 0, s.now + (k : Int) - s.now) = _
      rw [show s.now + (k : Int) - s.now = (k : Int) by omega]
    rw [e] at hp
    exact hp
end
end Tr

/-! The class Hall: its making, a step, another row. -/
namespace Tr
open PySem L2 PySem.Spec PyProof.Rows Evl

section
variable {K : PySem.W.Frag} {σ : L2.St} {H : Hp} {D : Ends} {tz : TS} {tv : TE} {a C dx : Addr} {fs : List (Str × V)} {f : Str} {v : V} {i : Nat}
theorem q_fldP {P : HP} (hv : EvP P tv σ H) (h0 : σ[i]? = some (some (.ref a))) (hi : H a = some (.ins C dx fs)) (hc : Cls K C) (hn : NoAttr K C f) (hl : fs.length < 1000) (k : ∀ v H1, Ex H H1 → P v H1 → tz D σ (upd H1 a (.ins C dx (putF f v fs)))) : tSeq (sFld K (tVar i) tv f) tz D σ H :=
  hv H (Ex.refl _) _ fun v H1 e p => ⟨_, h0, a, C, dx, fs, rfl, e _ _ hi, hc, hn, hl, k v H1 e p⟩
theorem q_fldL {xs : List V} (hv : EvL tv σ H xs) (h0 : σ[i]? = some (some (.ref a))) (hi : H a = some (.ins C dx fs)) (hc : Cls K C) (hn : NoAttr K C f) (hl : fs.length < 1000) (k : ∀ p H1, H p = none → Ex H H1 → H1 p = some (.lst xs) → tz D σ (upd H1 a (.ins C dx (putF f (.ref p) fs)))) : tSeq (sFld K (tVar i) tv f) tz D σ H :=
  hv H (Ex.refl _) _ fun p H1 hp e h => ⟨_, h0, a, C, dx, fs, rfl, e _ _ hi, hc, hn, hl, k p H1 hp e h⟩
theorem q_fldW {xs : List V} (hv : EvW K tv σ H xs) (h0 : σ[i]? = some (some (.ref a))) (hi : H a = some (.ins C dx fs)) (hc : Cls K C) (hn : NoAttr K C f) (hl : fs.length < 1000) (k : ∀ p H1, Ex H H1 → SqT K H1 p xs → tz D σ (upd H1 a (.ins C dx (putF f (.ref p) fs)))) : tSeq (sFld K (tVar i) tv f) tz D σ H :=
  hv H (Ex.refl _) _ fun p H1 e h => ⟨_, h0, a, C, dx, fs, rfl, e _ _ hi, hc, hn, hl, k p H1 e h⟩
theorem q_fldV (hv : Ev tv σ H v) (h0 : σ[i]? = some (some (.ref a))) (hi : H a = some (.ins C dx fs)) (hc : Cls K C) (hn : NoAttr K C f) (hl : fs.length < 1000) (k : ∀ H1, Ex H H1 → tz D σ (upd H1 a (.ins C dx (putF f v fs)))) : tSeq (sFld K (tVar i) tv f) tz D σ H :=
  hv H (Ex.refl _) _ fun H1 e => ⟨_, h0, a, C, dx, fs, rfl, e _ _ hi, hc, hn, hl, k H1 e⟩
/-- self.f += n -/
theorem q_fldAug {n m : Int} (hv : ∀ H1, Ex H H1 → Ev tv σ H1 (.int m)) (h0 : σ[i]? = some (some (.ref a))) (hi : H a = some (.ins C dx fs)) (hc : Cls K C) (hn : NoAttr K C f) (lk : fs.lookup f = some (.int n)) (hl : fs.length < 1000) (k : ∀ H1, Ex H H1 → tz D σ (upd H1 a (.ins C dx (putF f (.int (n + m)) fs)))) : tSeq (sFldAug K (tVar i) tv rAdd f) tz D σ H :=
  ⟨_, h0, a, C, dx, fs, _, rfl, hi, hc, hn, lk, hv H (Ex.refl _) H (Ex.refl _) _ fun H1 e => ⟨n, m, rfl, rfl, dx, fs, e _ _ hi, hl, k H1 e⟩⟩
theorem Mut.fresh {W : List Addr} {H1 : Hp} {b : Addr} (m : Mut W H H1) (hW : ∀ x ∈ W, H1 x ≠ none) (h : H1 b = none) : H b = none := by
  cases z : H b with
  | none => rfl
  | some o =>
    by_cases hb : b ∈ W
    · exact absurd h (hW b hb)
    · rw [m _ _ z (.inl hb)] at h
      cases h
theorem Mut.sqQ {W : List Addr} {H1 : Hp} {b : Addr} {xs : List V} (m : Mut W H H1) (hW : ∀ x ∈ W, ∀ ys, H x ≠ some (.lst ys)) (h : SqQ K H b xs) : SqQ K H1 b xs := by
  rcases h with h | h
  · refine .inl ?_
    rcases h with h | h
    · rcases h with h | ⟨f, h⟩
      · exact .inl (.inl (m _ _ h (.inl fun z => hW _ z _ h)))
      · exact .inl (.inr ⟨f, m _ _ h (.inr (.inr ⟨_, _, rfl⟩))⟩)
    · exact .inr h
  · exact .inr (m.sqT h)
theorem Mut.row {W : List Addr} {H1 : Hp} {x : V} {ns : List Int} (m : Mut W H H1) (hW : ∀ x ∈ W, ∀ ys, H x ≠ some (.lst ys)) (h : Row K H x ns) : Row K H1 x ns := let ⟨b, e, q⟩ := h; ⟨b, e, m.sqQ hW q⟩
/-- d.pop(k, None) -/
theorem q_popS {td ty : TE} {d : Addr} {l : List (Int × Int)} {w : Int} (hd : Ev td σ H (.ref d)) (hk : ∀ H1, Ex H H1 → Ev ty σ H1 (.int w)) (hf : H d = some (.dK (flyK l))) (k : ∀ H2, H2 d = some (.dK (flyK (dropF l w))) → (∀ b o, b ≠ d → H b = some o → H2 b = some o) → tz D (σ.set i (some (thV (lookF l w)))) H2) :
    tSeq (tAsg (tDPop2 td ty (tC .non)) (gName i)) tz D σ H :=
  hd H (Ex.refl _) _ fun H1 e1 => ⟨d, rfl, .inl ⟨_, .inl (e1 _ _ hf)⟩, hk H1 e1 H1 (Ex.refl _) _ fun H2 e2 => by
    have e12 := e1.trans e2
    refine ev_c H2 (Ex.refl _) _ fun H3 e3 => ?_
    have e13 := e12.trans e3
    refine ⟨flyK l, Sum.inl w, e13 _ _ hf, rfl, fun v hv => ?_, fun hn => ?_⟩
    · rw [flyK_val] at hv
      cases hl : lookF l w with
      | none => rw [hl] at hv; cases hv
      | some x =>
        rw [hl] at hv
        cases hv
        have z := k (upd H3 d (.dK (dropK (flyK l) (Sum.inl w)))) (by rw [flyK_drop]; exact upd_same) fun b o hb h => (upd_ne hb).trans (e13 _ _ h)
        rw [hl] at z
        exact z
    · rw [flyK_val] at hn
      cases hl : lookF l w with
      | some x => rw [hl] at hn; cases hn
      | none =>
        have hd2 : dropF l w = l := List.filter_eq_self.mpr fun p hp => by
          have : p.1 ≠ w := fun z => look_none hl (z ▸ List.mem_map.mpr ⟨p, hp, rfl⟩)
          simpa using this
        have z := k H3 (by rw [hd2]; exact e13 _ _ hf) fun b o hb h => e13 _ _ h
        rw [hl] at z
        exact z⟩
end
section
variable {K : PySem.W.Frag} {c : Cs} {vs : List V} {H : Hp} {Q : VK} {E : XK}
theorem el_ahead {σ : L2.St} {ta tb : TE} {a f n p : Addr} {s : HS} {nts : List Note} {k : Int} (ha : Ev ta σ H (.ref a)) (hb : ∀ H1, Ex H H1 → Ev tb σ H1 (.int k)) (h : HallAt K c.hall H a f n p s nts) (I : HInv s) (h0 : 0 ≤ k) (h1 : k ≤ 400) : EvL (tMeth c.hall "ahead" (sp_h_ahead K c) [] E ta (tCons tb tNil)) σ H ((aheadF s k.toNat).map V.int) := fun H1 e1 Q q =>
  ha H1 e1 _ fun H2 e2 => by
    obtain ⟨dx, t, ws, o, w⟩ := h.ex (e1.trans e2)
    refine ⟨a, dx, _, rfl, o.ha, rfl, hb H2 (e1.trans e2) H2 (Ex.refl _) _ fun H3 e3 => ⟨_, _, rfl, typed_int, a, f, n, p, s, nts, rfl, HallAt.ex e3 ⟨dx, t, ws, o, w⟩, I, .inr ⟨k, rfl, h0, h1, fun l H4 hl e4 h4 => q l H4 (fresh_of (e2.trans e3) hl) ((e2.trans e3).trans e4) h4⟩⟩⟩
theorem ahead_one {s : HS} (I : HInv s) : aheadF s 1 = [nextH s] := by
  unfold aheadF nextH
  show [_] = [_]
  congr 1
  cases h : s.path with
  | nil =>
    show hAt s.form (s.spot + ((0 : Nat) : Int) - ((0 : Nat) : Int)) = _
    rw [show s.spot + ((0 : Nat) : Int) - ((0 : Nat) : Int) = s.spot by omega]
  | cons a p => rfl
theorem pure_h_step (hK : HallK K c.hall) (h : sp_h_step K c vs H Q E) : t_h_step K c E { nx := fun _ H' => Q .non H', rt := Q } (start ["self", "height", "thing"] vs) H := by
  obtain ⟨x, rfl, a, f, n, p, s, nts, rfl, hA, I, hnt, q⟩ := h
  have hA0 := hA
  obtain ⟨dx, t, ws, o, w⟩ := hA
  have hlet := next_let I
  have hn0 := I.good.1
  refine q_asg (v := .int (nextH s)) (ev_ix (i := 0) (evq_s (evs_new (el_ahead (K := K) (c := c) (k := 1) (ev_var (i := 0) rfl) (fun _ _ => ev_c) hA0 I (by decide) (by decide)))) (fun _ _ => ev_c) (by show atI ((aheadF s 1).map V.int) 0 = _; rw [ahead_one I]; rfl)) fun H1 e1 => ?_
  have o1 := o.ex e1
  have w1 := (Mut.of (W := []) e1).notes w
  have M1 : Mut [a, f, n] H H1 := .of e1
  have haf : a ≠ f := ne_of o1.ha o1.hf (fun z => by cases z)
  have han : a ≠ n := ne_of o1.ha o1.hn (fun z => by cases z)
  have hap : a ≠ p := ne_of o1.ha o1.hp (fun z => by cases z)
  have hfn : f ≠ n := ne_of o1.hf o1.hn (fun z => by cases z)
  have hfp : f ≠ p := ne_of o1.hf o1.hp (fun z => by cases z)
  have rest : ∀ (H3 : Hp) (p2 : Addr), Mut [a, f, n] H H3 → (p2 = p ∨ H p2 = none) → HallO K c.hall H3 a dx f n p2 t { s with path := s.path.tail, spot := (stepS s).spot } ws → NotesAt K H3 ws nts →
      (tSeq (tAsg (tDPop2 (tFld K (tVar 0) "flying") (tFld K (tVar 0) "now") (tC .non)) (gName 2))
  (tSeq (tIfS (tTest (tOp xNotN (tVar 2) (tC .non))) (sDPut (tFld K (tVar 0) "flying") (tOp (xAdd K) (tFld K (tVar 0) "now") (tVar 1)) (tVar 2)) tNext)
  (tSeq (sFld K (tVar 0) (tCall (sp_thrown K c) [] E0 (tCons (tFld K (tVar 0) "bits") (tCons (tVar 1) tNil))) "bits")
  (tSeq (sFldAug K (tVar 0) (tC (.int 1)) rAdd "now")
  (tSeq (tDrop (tBM K "list" rAppend (tFld K (tVar 0) "notes") (tCons (tTup (tCons (tC (.str "step")) (tCons (tVar 2) (tCons (tVar 1) tNil)))) tNil)))
  (tRet (tTup (tCons (tOp xSub (tFld K (tVar 0) "now") (tC (.int 1))) (tCons (tVar 2) (tCons (tVar 1) tNil)))))))))) { nx := fun _ H' => Q .non H', rt := Q } [some (.ref a), some (.int (nextH s)), none] H3 := by
    intro H3 p2 M3 hp2 o3 w3
    have hap2 : a ≠ p2 := ne_of o3.ha o3.hp (fun z => by cases z)
    have hfp2 : f ≠ p2 := ne_of o3.hf o3.hp (fun z => by cases z)
    refine q_popS (d := f) (l := s.fly) (w := s.now) (ev_fld (ev_var (i := 0) rfl) o3.ha hK.cl hK.flying rfl) (fun H' e' => ev_fld (ev_var (i := 0) rfl) (e' _ _ o3.ha) hK.cl hK.now rfl) o3.hf fun H4 hf4 keep4 => ?_
    have ha4 := keep4 _ _ haf o3.ha
    have hn4 := keep4 _ _ (Ne.symm hfn) o3.hn
    have hp4 := keep4 _ _ (Ne.symm hfp2) o3.hp
    have M4 : Mut [a, f, n] H H4 := M3.trans fun b u hb k => by
      by_cases z : b = f
      · subst z
        rcases k with k | k
        · exact absurd (by simp) k
        · rw [o3.hf] at hb
          cases hb
          exact absurd k no_dK
      · exact keep4 b u z hb
    have m34 : Mut [f] H3 H4 := fun b u hb k => by
      by_cases z : b = f
      · subst z
        rcases k with k | k
        · exact absurd (by simp) k
        · rw [o3.hf] at hb
          cases hb
          exact absurd k no_dK
      · exact keep4 b u z hb
    have newK : ¬ s.now + nextH s ∈ (dropF s.fly s.now).map (·.1) := fun m => by
      have z := (I.bit (nextH s).toNat).mpr (by rw [Int.toNat_of_nonneg (lets_hgt hlet).1]; exact (keys_drop.mp m).1)
      rw [let_clear hlet] at z
      cases z
    have rest2 : ∀ (H5 : Hp), Mut [f] H4 H5 → H5 f = some (.dK (flyK (flyS s))) → (tSeq (sFld K (tVar 0) (tCall (sp_thrown K c) [] E0 (tCons (tFld K (tVar 0) "bits") (tCons (tVar 1) tNil))) "bits")
  (tSeq (sFldAug K (tVar 0) (tC (.int 1)) rAdd "now")
  (tSeq (tDrop (tBM K "list" rAppend (tFld K (tVar 0) "notes") (tCons (tTup (tCons (tC (.str "step")) (tCons (tVar 2) (tCons (tVar 1) tNil)))) tNil)))
  (tRet (tTup (tCons (tOp xSub (tFld K (tVar 0) "now") (tC (.int 1))) (tCons (tVar 2) (tCons (tVar 1) tNil)))))))) { nx := fun _ H' => Q .non H', rt := Q } [some (.ref a), some (.int (nextH s)), some (thV (thingS s))] H5 := by
      intro H5 m45 hf5
      have na : a ∉ [f] := by simp [haf]
      have nn : n ∉ [f] := by simp [Ne.symm hfn]
      have np : p2 ∉ [f] := by simp [Ne.symm hfp2]
      have ha5 := m45 _ _ ha4 (.inl na)
      have hn5 := m45 _ _ hn4 (.inl nn)
      have hp5 := m45 _ _ hp4 (.inl np)
      have m35 := m34.trans m45
      have ht5 := m35.sqT o3.ht
      have w5 := m35.notes w3
      have M5 : Mut [a, f, n] H H5 := M4.trans (m45.mono fun x hx => by simp at hx; simp [hx])
      refine q_fldV (v := .int (thrownF s.bits (nextH s))) (ev_thrownS (K := K) (c := c) (ev_fld (ev_var (i := 0) rfl) ha5 hK.cl hK.bits rfl) (ev_var (i := 1) rfl) I.b0 I.b1 hlet) rfl ha5 hK.cl hK.bits (by show 7 < 1000; decide) fun H6 e6 => ?_
      have m67 : ∀ {o' : HO}, Mut [a] H6 (upd H6 a o') := fun {o'} => Mut.upd (e6 _ _ ha5) no_ins (by simp)
      refine q_fldAug (n := s.now) (m := 1) (fun _ _ => ev_c) rfl upd_same hK.cl hK.now rfl (by show 7 < 1000; decide) fun H8 e8 => ?_
      have ha8 := e8 _ _ (upd_same (H := H6) (a := a))
      generalize hH9 : upd H8 a _ = H9
      have ha9 : H9 a = some (.ins c.hall dx (hFs (.int (s.now + 1)) (.int (thrownF s.bits (nextH s))) (.ref f) (.ref p2) (.ref t) (.int (stepS s).spot) (.ref n))) := by
        rw [← hH9]
        exact upd_same
      have m59 : Mut [a] H5 H9 := by
        rw [← hH9]
        exact (((Mut.of e6).trans m67).trans (Mut.of e8)).trans (Mut.upd ha8 no_ins (by simp))
      have k9 : ∀ {b : Addr} {u : HO}, a ≠ b → H5 b = some u → H9 b = some u := fun hb h => m59 _ _ h (.inl (by simp [Ne.symm hb]))
      have hn9 := k9 han hn5
      have hwl : ws.length < 100000 := by rw [w3.1]; omega
      refine q_appU (l := n) (xs := ws) hn9 (ev_fld (ev_var (i := 0) rfl) ha9 hK.cl hK.notes rfl) (eu_tup (ea_cons ev_c (ea_cons (ev_var (i := 2) rfl) (ea_cons (ev_var (i := 1) rfl) ea_nil))) (by show 3 ≤ 100000; decide)) hwl fun T H10 hT e10 hT10 => ?_
      generalize hH11 : upd H10 n _ = H11
      have m911 : Mut [n] H9 H11 := by
        rw [← hH11]
        exact (Mut.of e10).trans (Mut.upd (e10 _ _ hn9) no_lst (by simp))
      have ha11 : H11 a = _ := m911 _ _ ha9 (.inl (by simp [han]))
      have hT11 : H11 T = some (.tup [.str "step", thV (thingS s), .int (nextH s)]) := by
        rw [← hH11, upd_ne]
        · exact hT10
        · intro z
          rw [z, e10 _ _ hn9] at hT10
          cases hT10
      have o11 : HallO K c.hall H11 a dx f n p2 t (stepS s) (ws ++ [.ref T]) := by
        refine ⟨ha11, m911 _ _ (k9 haf hf5) (.inl (by simp [hfn])), m911 _ _ (k9 hap2 hp5) (.inl (by simp [o3.pn])), m911.sqT (m59.sqT ht5), ?_, o3.pn⟩
        rw [← hH11]
        exact upd_same
      have w11 : NotesAt K H11 (ws ++ [.ref T]) (nts ++ [.stp (thingS s) (nextH s)]) := notes_snoc (m911.notes (m59.notes w5)) ⟨T, rfl, hT11⟩
      have M11 : Mut [a, f, n] H H11 := (M5.trans (m59.mono fun x hx => by simp at hx; simp [hx])).trans (m911.mono fun x hx => by simp at hx; simp [hx])
      refine s_retU (eu_tup (ea_cons (ev_is (ev_op (ev_fld (ev_var (i := 0) rfl) ha11 hK.cl hK.now rfl) ev_c rv_sub) (by show V.int (s.now + 1 - 1) = _; rw [show s.now + 1 - 1 = s.now by omega])) (ea_cons (ev_var (i := 2) rfl) (ea_cons (ev_var (i := 1) rfl) ea_nil))) (by show 3 ≤ 100000; decide)) fun r H12 hr e12 hr12 => ?_
      refine q r p2 H12 (M11.trans (Mut.of e12)) hp2 (M11.fresh ?_ hr) hr12 ⟨dx, t, _, o11.ex e12, (Mut.of (W := []) e12).notes w11⟩
      intro x hx
      simp at hx
      rcases hx with rfl | rfl | rfl
      · rw [ha11]; exact fun z => by cases z
      · rw [o11.hf]; exact fun z => by cases z
      · rw [o11.hn]; exact fun z => by cases z
    have ti : thingS s = lookF s.fly s.now := rfl
    cases hth : lookF s.fly s.now with
    | none =>
      have hfs : flyS s = dropF s.fly s.now := by
        unfold flyS
        rw [ti, hth]
        exact (List.filter_eq_self.mpr fun p hp => by
          have : p.1 ≠ s.now := fun z => look_none hth (z ▸ List.mem_map.mpr ⟨p, hp, rfl⟩)
          simpa using this).symm
      refine q_when (b := false) (et_is (et_test (ev_op (ev_var (i := 2) rfl) ev_c (fun H1 _ _ q => ⟨rfl, q H1 (Ex.refl _)⟩))) rfl) (fun z => nomatch z) fun _ H5 e5 => ?_
      have z := rest2 H5 (.of e5) (by rw [hfs]; exact e5 _ _ hf4)
      rw [ti, hth] at z
      exact z
    | some y =>
      have hfs : flyS s = dropF s.fly s.now ++ [(s.now + nextH s, y)] := by
        unfold flyS
        rw [ti, hth]
      refine q_when (b := true) (et_is (et_test (ev_op (ev_var (i := 2) rfl) ev_c (fun H1 _ _ q => ⟨rfl, q H1 (Ex.refl _)⟩))) rfl) (fun _ H5 e5 => ?_) (fun z => nomatch z)
      have hl9 : (dropF s.fly s.now).length ≤ 9 := Nat.le_trans (List.length_filter_le _ _) (by rw [I.many]; exact pcI_le _)
      refine s_dput (a := f) (kvs := flyK (dropF s.fly s.now)) (k := Sum.inl (s.now + nextH s)) (v := .int y) (ev_var (i := 2) rfl) (ev_fld (ev_var (i := 0) rfl) (e5 _ _ ha4) hK.cl hK.flying rfl) (ev_op (ev_fld (ev_var (i := 0) rfl) (e5 _ _ ha4) hK.cl hK.now rfl) (ev_var (i := 1) rfl) rv_addI) (e5 _ _ hf4) (by unfold flyK; rw [List.length_map]; omega) fun H6 e6 => ?_
      have e56 := e5.trans e6
      have z := rest2 (upd H6 f (.dK (putK (flyK (dropF s.fly s.now)) (Sum.inl (s.now + nextH s)) (.int y)))) ((Mut.of e56).trans (Mut.upd (e56 _ _ hf4) no_dK (by simp))) (by rw [hfs, flyK_put newK]; exact upd_same)
      rw [ti, hth] at z
      exact z
  have nil_ : ∀ {σ : L2.St} {H' : Hp}, EvD K (tLst tNil) σ H' (.list []) := evd_l (evs_new (el_lst ea_nil (by decide))) .nil
  have fl0 : Flat 1 (.list []) := flat_list fun d hd => absurd hd List.not_mem_nil
  have test : EvT (tTest (tOp (xNe K) (tFld K (tVar 0) "path") (tLst tNil))) [some (.ref a), some (.int (nextH s)), none] H1 (decide (s.path ≠ [])) := by
    refine et_is (et_test (ev_neD (evd_l (evs_of (ev_fld (ev_var (i := 0) rfl) o1.ha hK.cl hK.path rfl) (SqL.of o1.hp)) (dpa_ints _)) nil_ (flat_ints.shaped (by decide)) (fl0.shaped (by decide)))) ?_
    cases s.path with
    | nil => rfl
    | cons a p => rfl
  refine q_if test (fun hb H2 e2 => ?_) fun hb H2 e2 => ?_
  · have o2 := o1.ex e2
    refine (el_slX (K := K) (σ := [some (.ref a), some (.int (nextH s)), none]) (H := H2) (te := tFld K (tVar 0) "path") (lo := some 1) (hi := none) (evs_of (ev_fld (ev_var (i := 0) rfl) o2.ha hK.cl hK.path rfl) (SqL.of o2.hp)) (eo_some ev_c) eo_none) H2 (Ex.refl _) _ fun p2 H3 hp2 e3 h3 => ?_
    refine ⟨_, rfl, a, _, dx, _, rfl, e3 _ _ o2.ha, hK.cl, hK.path, by show 7 < 1000; decide, ?_⟩
    have hne := of_decide_eq_true hb
    obtain ⟨y, ys, hpy⟩ := List.exists_cons_of_ne_nil hne
    have htail : cutV (s.path.map V.int) (some 1) none = s.path.tail.map V.int := by
      rw [cutV_from (by decide) (by rw [List.length_map, hpy, List.length_cons]; omega), hpy]
      rfl
    have hspot : (stepS s).spot = s.spot := by
      show (match s.path with | _ :: _ => s.spot | [] => (s.spot + 1) % (s.form.length : Int)) = s.spot
      rw [hpy]
    have hfr : H p2 = none := fresh_of (e1.trans e2) hp2
    have hap2 : a ≠ p2 := ne_of_none o2.ha hp2
    have hfp2 : f ≠ p2 := ne_of_none o2.hf hp2
    have hnp2 : n ≠ p2 := ne_of_none o2.hn hp2
    have m23 : Mut [a] H2 (upd H3 a (.ins c.hall dx (hFs (.int s.now) (.int s.bits) (.ref f) (.ref p2) (.ref t) (.int s.spot) (.ref n)))) := (Mut.of e3).trans (Mut.upd (e3 _ _ o2.ha) no_ins (by simp))
    refine rest (upd H3 a (.ins c.hall dx (hFs (.int s.now) (.int s.bits) (.ref f) (.ref p2) (.ref t) (.int s.spot) (.ref n)))) p2 ((M1.trans (Mut.of e2)).trans (m23.mono fun x hx => by simp at hx; simp [hx])) (.inr hfr) ⟨?_, m23 _ _ o2.hf (.inl (by simp [Ne.symm haf])), ?_, m23.sqT o2.ht, m23 _ _ o2.hn (.inl (by simp [Ne.symm han])), Ne.symm hnp2⟩ (m23.notes ((Mut.of (W := []) e2).notes w1))
    · show upd H3 a _ a = some (.ins c.hall dx (hFs (.int s.now) (.int s.bits) (.ref f) (.ref p2) (.ref t) (.int (stepS s).spot) (.ref n)))
      rw [upd_same, hspot]
    · show upd H3 a _ p2 = some (.lst (s.path.tail.map V.int))
      rw [upd_ne (Ne.symm hap2), h3, htail]
  · have o2 := o1.ex e2
    have hnil : s.path = [] := by
      have := of_decide_eq_false hb
      exact Classical.not_not.mp this
    have hspot : (stepS s).spot = (s.spot + 1) % (s.form.length : Int) := by
      show (match s.path with | _ :: _ => s.spot | [] => (s.spot + 1) % (s.form.length : Int)) = _
      rw [hnil]
    refine (ev_op (ev_op (ev_fld (σ := [some (.ref a), some (.int (nextH s)), none]) (ev_var (i := 0) rfl) o2.ha hK.cl hK.spot rfl) ev_c rv_addI) (ev_lenI (ns := s.form) (evq_of (ev_fld (ev_var (i := 0) rfl) o2.ha hK.cl hK.form rfl) (.inr o2.ht))) (rv_mod (by omega))) H2 (Ex.refl _) _ fun H3 e3 => ?_
    refine ⟨_, rfl, a, _, dx, _, rfl, e3 _ _ o2.ha, hK.cl, hK.spot, by show 7 < 1000; decide, ?_⟩
    have m23 : Mut [a] H2 (upd H3 a (.ins c.hall dx (hFs (.int s.now) (.int s.bits) (.ref f) (.ref p) (.ref t) (.int ((s.spot + 1) % (s.form.length : Int))) (.ref n)))) := (Mut.of e3).trans (Mut.upd (e3 _ _ o2.ha) no_ins (by simp))
    refine rest (upd H3 a (.ins c.hall dx (hFs (.int s.now) (.int s.bits) (.ref f) (.ref p) (.ref t) (.int ((s.spot + 1) % (s.form.length : Int))) (.ref n)))) p ((M1.trans (Mut.of e2)).trans (m23.mono fun x hx => by simp at hx; simp [hx])) (.inl rfl) ⟨?_, m23 _ _ o2.hf (.inl (by simp [Ne.symm haf])), ?_, m23.sqT o2.ht, m23 _ _ o2.hn (.inl (by simp [Ne.symm han])), o2.pn⟩ (m23.notes ((Mut.of (W := []) e2).notes w1))
    · show upd H3 a _ a = some (.ins c.hall dx (hFs (.int s.now) (.int s.bits) (.ref f) (.ref p) (.ref t) (.int (stepS s).spot) (.ref n)))
      rw [upd_same, hspot]
    · show upd H3 a _ p = some (.lst (s.path.tail.map V.int))
      rw [upd_ne (Ne.symm hap), e3 _ _ o2.hp, hnil]
      rfl
end
end Tr

/-! The class Hall: another row, its making. -/
namespace Tr
open PySem L2 PySem.Spec PyProof.Rows Evl

section
variable {K : PySem.W.Frag} {c : Cs} {vs : List V} {H : Hp} {Q : VK} {E : XK}
theorem el_way8 {σ : L2.St} {ta tb : TE} {s t : Int} (ha : Ev ta σ H (.int s)) (hb : Ev tb σ H (.int t)) (hs : 0 ≤ s ∧ s ≤ 511) (ht : 0 ≤ t ∧ t ≤ 511) (he : pcI s = pcI t) : EvL (tCall (sp_way K c) [] E (tCons ta (tCons tb tNil))) σ H ((wayF s t).map V.int) :=
  el_call (ea_cons ha (ea_cons hb ea_nil)) fun H1 e1 Q' q' _ => ⟨_, _, rfl, .inr ⟨s, rfl, hs.1, hs.2, .inr ⟨t, rfl, ht.1, ht.2, .inr ⟨he, q'⟩⟩⟩⟩
theorem bit_one {s : Int} {k : Nat} : decide (Builtin.bitAnd (s / 2 ^ k) 1 = 1) = bitS s k := by
  rw [PyProof.Rows.bitAnd_m1]
  rfl
/-- self.f = [(..)] -/
theorem s_fldLU {σ : L2.St} {D : Ends} {tu : TE} {a C dx : Addr} {fs : List (Str × V)} {f : Str} {i : Nat} {ys : List V} (hv : EvU tu σ H ys) (h0 : σ[i]? = some (some (.ref a))) (hi : H a = some (.ins C dx fs)) (hc : Cls K C) (hn : NoAttr K C f) (hl : fs.length < 1000)
    (k : ∀ T n H1, H T = none → Ex H H1 → H1 T = some (.tup ys) → H1 n = none → D.nx σ (upd (upd H1 n (.lst [.ref T])) a (.ins C dx (putF f (.ref n) fs)))) : sFld K (tVar i) (tLst (tCons tu tNil)) f D σ H :=
  hv H (Ex.refl _) _ fun T H1 hT e h => ⟨sz_of (n := 1) (by decide), fun n hn1 => ⟨_, h0, a, C, dx, fs, rfl, (Ex.new hn1) _ _ (e _ _ hi), hc, hn, hl, k T n H1 hT e h hn1⟩⟩
theorem row_evq {σ : L2.St} {i : Nat} {x : V} {ns : List Int} (h : Row K H x ns) (h0 : σ[i]? = some (some x)) : EvQ K (tVar i) σ H (ns.map V.int) := by
  obtain ⟨b, rfl, q⟩ := h
  exact evq_of (ev_var h0) q
theorem pure_h_change (hK : HallK K c.hall) (h : sp_h_change K c vs H Q E) : t_h_change K c E { nx := fun _ H' => Q .non H', rt := Q } (start ["self", "row"] vs) H := by
  obtain ⟨x, y, rfl, a, f, n, p, s, nts, rfl, ⟨dx, t, ws, o, w⟩, I, hnt, hy⟩ := h
  refine ⟨y, rfl, y, rfl, need_up (Ex.refl _) hy fun ns hr hg hc hgo H1 e1 => ?_⟩
  have o1 := o.ex e1
  refine ev_lenD (a := f) (kvs := flyK s.fly) (ev_fld (σ := start ["self", "row"] [V.ref a, y]) (ev_var (i := 0) rfl) o1.ha hK.cl hK.flying rfl) o1.hf H1 (Ex.refl _) _ fun H2 e2 => ?_
  refine rv_neI H2 (Ex.refl _) _ fun H3 e3 => ?_
  have e13 := e2.trans e3
  have eH3 := e1.trans e13
  have hlen : ((flyK s.fly).length : Int) = (pcI s.bits : Int) := by
    unfold flyK
    rw [List.length_map, I.many]
  rw [hlen, upS_things hg hc]
  refine ⟨_, rfl, ?_⟩
  have r3 := row_ex eH3 hr
  have o3 := o1.ex e13
  have w3 := (Mut.of (W := []) eH3).notes w
  rcases hgo with ⟨hne, q⟩ | ⟨he, q⟩
  · have hb : (!decide ((pcI (upS ns) : Int) = (pcI s.bits : Int))) = true := by
      rw [decide_eq_false (fun z => hne (by omega))]
      rfl
    rw [hb]
    exact q H3 eH3
  · have hb : (!decide ((pcI (upS ns) : Int) = (pcI s.bits : Int))) = false := by
      rw [he, decide_eq_true rfl]
      rfl
    rw [hb]
    refine nx_mk ?_
    have haf : a ≠ f := ne_of o3.ha o3.hf (fun z => by cases z)
    have han : a ≠ n := ne_of o3.ha o3.hn (fun z => by cases z)
    have hfn : f ≠ n := ne_of o3.hf o3.hn (fun z => by cases z)
    have hal : ∀ x ∈ [a], ∀ ys, H3 x ≠ some (.lst ys) := fun x hx ys => by
      rw [List.mem_singleton.mp hx, o3.ha]
      exact fun z => by cases z
    refine q_fldL (xs := (wayF s.bits (upS ns)).map V.int) (el_way8 (K := K) (c := c) (ev_fld (ev_var (i := 0) rfl) o3.ha hK.cl hK.bits rfl) (ev_state_at0 (K := K) (c := c) (row_evq r3 rfl) hg hc) ⟨I.b0, I.b1⟩ (upS_ok hg) he.symm) rfl o3.ha hK.cl hK.path (by show 7 < 1000; decide) fun p2 H4 hp2 e4 h4 => ?_
    generalize hH5 : upd H4 a _ = H5
    have ha5 : H5 a = some (.ins c.hall dx (hFs (.int s.now) (.int s.bits) (.ref f) (.ref p2) (.ref t) (.int s.spot) (.ref n))) := by
      rw [← hH5]
      exact upd_same
    have m35 : Mut [a] H3 H5 := by
      rw [← hH5]
      exact (Mut.of e4).trans (Mut.upd (e4 _ _ o3.ha) no_ins (by simp))
    have hp5 : H5 p2 = some (.lst ((wayF s.bits (upS ns)).map V.int)) := by
      rw [← hH5, upd_ne (Ne.symm (ne_of_none o3.ha hp2))]
      exact h4
    have r5 := m35.row hal r3
    refine q_fldW (xs := ns.map V.int) (evw_tuple (row_evq r5 rfl)) rfl ha5 hK.cl hK.form (by show 7 < 1000; decide) fun t2 H6 e6 ht6 => ?_
    generalize hH7 : upd H6 a _ = H7
    have ha7 : H7 a = some (.ins c.hall dx (hFs (.int s.now) (.int s.bits) (.ref f) (.ref p2) (.ref t2) (.int s.spot) (.ref n))) := by
      rw [← hH7]
      exact upd_same
    have m67 : Mut [a] H6 H7 := by
      rw [← hH7]
      exact Mut.upd (e6 _ _ ha5) no_ins (by simp)
    have m57 : Mut [a] H5 H7 := (Mut.of e6).trans m67
    have ht7 := m67.sqT ht6
    refine q_fldV (v := .int 0) ev_c rfl ha7 hK.cl hK.spot (by show 7 < 1000; decide) fun H8 e8 => ?_
    generalize hH9 : upd H8 a _ = H9
    have ha9 : H9 a = some (.ins c.hall dx (hFs (.int s.now) (.int s.bits) (.ref f) (.ref p2) (.ref t2) (.int 0) (.ref n))) := by
      rw [← hH9]
      exact upd_same
    have m79 : Mut [a] H7 H9 := by
      rw [← hH9]
      exact (Mut.of e8).trans (Mut.upd (e8 _ _ ha7) no_ins (by simp))
    have m39 := (m35.trans m57).trans m79
    have na : ∀ {b : Addr}, a ≠ b → b ∉ [a] := fun h => by simp [Ne.symm h]
    have hn9 := m39 _ _ o3.hn (.inl (na han))
    have ap2 : a ≠ p2 := ne_of_none o3.ha hp2
    have np2 : n ≠ p2 := ne_of_none o3.hn hp2
    have hp9 := (m57.trans m79) _ _ hp5 (.inl (na ap2))
    have hwl : ws.length < 100000 := by rw [w3.1]; omega
    refine s_appU (l := n) (xs := ws) hn9 (ev_fld (ev_var (i := 0) rfl) ha9 hK.cl hK.notes rfl) (eu_tup (ea_cons ev_c (ea_cons (ev_fld (ev_var (i := 0) rfl) ha9 hK.cl hK.form rfl) ea_nil)) (by show 2 ≤ 100000; decide)) hwl fun T H10 hT e10 hT10 => ?_
    generalize hH11 : upd H10 n _ = H11
    have m911 : Mut [n] H9 H11 := by
      rw [← hH11]
      exact (Mut.of e10).trans (Mut.upd (e10 _ _ hn9) no_lst (by simp))
    have nn : ∀ {b : Addr}, n ≠ b → b ∉ [n] := fun h => by simp [Ne.symm h]
    have ht11 := m911.sqT (m79.sqT ht7)
    have hT11 : H11 T = some (.tup [.str "change", .ref t2]) := by
      rw [← hH11, upd_ne]
      · exact hT10
      · intro z
        rw [z, e10 _ _ hn9] at hT10
        cases hT10
    have o11 : HallO K c.hall H11 a dx f n p2 t2 (changeS s ns) (ws ++ [.ref T]) := by
      refine ⟨m911 _ _ ha9 (.inl (nn (Ne.symm han))), m911 _ _ (m39 _ _ o3.hf (.inl (na haf))) (.inl (nn (Ne.symm hfn))), m911 _ _ hp9 (.inl (nn np2)), ht11, ?_, Ne.symm np2⟩
      rw [← hH11]
      exact upd_same
    refine q p2 H11 (((Mut.of eH3).trans (m39.mono fun x hx => by simp at hx; simp [hx])).trans (m911.mono fun x hx => by simp at hx; simp [hx])) (fresh_of eH3 hp2) ⟨dx, t2, _, o11, notes_snoc (m911.notes (m39.notes w3)) ⟨T, t2, rfl, hT11, ht11⟩⟩
theorem pure_h_init (hK : HallK K c.hall) (h : sp_h_init K c vs H Q E) : t_h_init K c E { nx := fun _ H' => Q .non H', rt := Q } (start ["self", "row", "wait"] vs) H := by
  obtain ⟨a, dx, x, rfl, ha, hx⟩ := h
  refine ⟨x, rfl, x, rfl, need_up (Ex.refl _) hx fun ns hr hg hc q H1 e1 => ?_⟩
  have hal : ∀ {H' : Hp} {fs : List (Str × V)}, H' a = some (.ins c.hall dx fs) → ∀ x ∈ [a], ∀ ys, H' x ≠ some (.lst ys) := fun h x hx ys => by
    rw [List.mem_singleton.mp hx, h]
    exact fun z => by cases z
  have ha1 := e1 _ _ ha
  refine nx_mk ?_
  refine q_fldV (fs := []) (v := .int 0) ev_c rfl ha1 hK.cl hK.now (by show 0 < 1000; decide) fun H2 e2 => ?_
  generalize hH3 : upd H2 a _ = H3
  have ha3 : H3 a = some (.ins c.hall dx [("now", .int 0)]) := by
    rw [← hH3]
    exact upd_same
  have m3 : Mut [a] H H3 := by
    rw [← hH3]
    exact (Mut.of (e1.trans e2)).trans (Mut.upd ((e1.trans e2) _ _ ha) no_ins (by simp))
  have r3 := m3.row (hal ha) hr
  refine q_fldV (v := .int (upS ns)) (ev_state_at0 (K := K) (c := c) (row_evq r3 rfl) hg hc) rfl ha3 hK.cl hK.bits (by show 1 < 1000; decide) fun H4 e4 => ?_
  generalize hH5 : upd H4 a _ = H5
  have ha5 : H5 a = some (.ins c.hall dx [("now", .int 0), ("bits", .int (upS ns))]) := by
    rw [← hH5]
    exact upd_same
  have m5 : Mut [a] H H5 := by
    rw [← hH5]
    exact (m3.trans (Mut.of e4)).trans (Mut.upd (e4 _ _ ha3) no_ins (by simp))
  -- flying
  intro f hf
  refine ⟨_, rfl, a, c.hall, dx, _, rfl, (Ex.new hf) _ _ ha5, hK.cl, hK.flying, by show 2 < 1000; decide, ?_⟩
  have haf : a ≠ f := ne_of_none ha5 hf
  have hff : H f = none := m5.fresh (fun x hx => by rw [List.mem_singleton.mp hx, ha5]; exact fun z => by cases z) hf
  refine nx_mk ?_
  generalize hH6 : upd (upd H5 f (.dK [])) a _ = H6
  have ha6 : H6 a = some (.ins c.hall dx [("now", .int 0), ("bits", .int (upS ns)), ("flying", .ref f)]) := by
    rw [← hH6]
    exact upd_same
  have hf6 : H6 f = some (.dK []) := by
    rw [← hH6, upd_ne (Ne.symm haf)]
    exact upd_same
  have m6 : Mut [a] H H6 := by
    rw [← hH6]
    exact (m5.trans (Mut.of (Ex.new hf))).trans (Mut.upd ((Ex.new hf) _ _ ha5) no_ins (by simp))
  have u := upS_ok hg
  have bl : ∀ n, (bitFly (upS ns) n).length ≤ n := fun n => by
    induction n with
    | zero => exact Nat.le_refl _
    | succ n ih =>
      unfold bitFly
      split
      · rw [List.length_append]; show _ + 1 ≤ n + 1; omega
      · omega
  refine q_forR1 (n := 10) (ea_cons ev_c ea_nil) (by decide) (fun i σ' H' => (∃ u, σ' = [some (.ref a), some x, u]) ∧ H' f = some (.dK (flyK (bitFly (upS ns) i))) ∧ ∀ b o, b ≠ f → H6 b = some o → H' b = some o)
    (fun H7 e7 => ⟨⟨none, rfl⟩, e7 _ _ hf6, fun b o _ h => e7 _ _ h⟩) ?_ ?_
  · rintro i σ' H' hi ⟨⟨u', rfl⟩, hf', keep⟩
    have ha' := keep _ _ haf ha6
    have fldB : ∀ {H'' : Hp} {g : Str} {v : V}, Ex H' H'' → NoAttr K c.hall g → List.lookup g [(("now" : Str), V.int 0), ("bits", .int (upS ns)), ("flying", .ref f)] = some v → Ev (tFld K (tVar 0) g) [some (.ref a), some x, some (.int (i : Int))] H'' v := fun e hn l => ev_fld (ev_var (i := 0) rfl) (e _ _ ha') hK.cl hn l
    refine s_when (b := bitS (upS ns) i) (et_is (et_test (ev_op (ev_op (ev_op (fldB (Ex.refl _) hK.bits rfl) (ev_var (i := 2) rfl) (rv_shr (by omega))) ev_c rv_and) ev_c rv_eqI)) ?_) (fun hb H7 e7 => ?_) fun hb H7 e7 => ?_
    · rw [Int.toNat_natCast]
      exact bit_one
    · refine s_dput (a := f) (k := Sum.inl (i : Int)) (v := .int ((bitFly (upS ns) i).length : Int)) (ev_is (ev_lenD (fldB e7 hK.flying rfl) (e7 _ _ hf')) (by unfold flyK; rw [List.length_map])) (fldB e7 hK.flying rfl) (ev_var (i := 2) rfl) (e7 _ _ hf') (by unfold flyK; rw [List.length_map]; have := bl i; omega) fun H8 e8 => ?_
      refine ⟨⟨_, rfl⟩, ?_, fun b o hb h => (upd_ne hb).trans (e8 _ _ (e7 _ _ (keep b o hb h)))⟩
      have nk : ¬ (i : Int) ∈ (bitFly (upS ns) i).map (·.1) := fun m => by
        obtain ⟨k, h1, h2, _⟩ := (bitFly_keys _ _ _).mp m
        omega
      rw [upd_same, flyK_put nk]
      show some (HO.dK (flyK (bitFly (upS ns) i ++ _))) = some (HO.dK (flyK (bitFly (upS ns) (i + 1))))
      rw [bitFly, if_pos hb]
    · refine ⟨⟨_, rfl⟩, ?_, fun b o hb' h => e7 _ _ (keep b o hb' h)⟩
      rw [e7 _ _ hf', bitFly, if_neg (by rw [hb]; exact fun z => nomatch z)]
  · rintro σ' H7 ⟨⟨u', rfl⟩, hf7, keep⟩
    have ha7 := keep _ _ haf ha6
    have m7 : Mut [a] H H7 := fun b o hb k => keep _ _ (fun z => by rw [z, hff] at hb; cases hb) (m6 b o hb k)
    refine q_fldL (xs := []) (el_lst ea_nil (by show 0 ≤ 100000; decide)) rfl ha7 hK.cl hK.path (by show 3 < 1000; decide) fun p H8 hp e8 h8 => ?_
    generalize hH9 : upd H8 a _ = H9
    have ha9 : H9 a = some (.ins c.hall dx [("now", .int 0), ("bits", .int (upS ns)), ("flying", .ref f), ("path", .ref p)]) := by
      rw [← hH9]
      exact upd_same
    have hpH : H p = none := m7.fresh (fun x hx => by rw [List.mem_singleton.mp hx, ha7]; exact fun z => by cases z) hp
    have hap : a ≠ p := ne_of_none ha7 hp
    have m79 : Mut [a] H7 H9 := by
      rw [← hH9]
      exact (Mut.of e8).trans (Mut.upd (e8 _ _ ha7) no_ins (by simp))
    have hp9 : H9 p = some (.lst []) := by
      rw [← hH9, upd_ne (Ne.symm hap)]
      exact h8
    have m9 := m7.trans m79
    have na : ∀ {b : Addr}, a ≠ b → b ∉ [a] := fun h => by simp [Ne.symm h]
    have hf9 := m79 _ _ hf7 (.inl (na haf))
    have r9 := m9.row (hal ha) hr
    refine q_fldW (xs := ns.map V.int) (evw_tuple (row_evq r9 rfl)) rfl ha9 hK.cl hK.form (by show 4 < 1000; decide) fun t H10 e10 ht10 => ?_
    generalize hH11 : upd H10 a _ = H11
    have ha11 : H11 a = some (.ins c.hall dx [("now", .int 0), ("bits", .int (upS ns)), ("flying", .ref f), ("path", .ref p), ("form", .ref t)]) := by
      rw [← hH11]
      exact upd_same
    have m1011 : Mut [a] H10 H11 := by
      rw [← hH11]
      exact Mut.upd (e10 _ _ ha9) no_ins (by simp)
    refine q_fldV (v := .int 0) ev_c rfl ha11 hK.cl hK.spot (by show 5 < 1000; decide) fun H12 e12 => ?_
    generalize hH13 : upd H12 a _ = H13
    have ha13 : H13 a = some (.ins c.hall dx [("now", .int 0), ("bits", .int (upS ns)), ("flying", .ref f), ("path", .ref p), ("form", .ref t), ("spot", .int 0)]) := by
      rw [← hH13]
      exact upd_same
    have m1113 : Mut [a] H11 H13 := by
      rw [← hH13]
      exact (Mut.of e12).trans (Mut.upd (e12 _ _ ha11) no_ins (by simp))
    have m913 := ((Mut.of (W := [a]) e10).trans m1011).trans m1113
    have ht13 := m1113.sqT (m1011.sqT ht10)
    refine s_fldLU (eu_tup (ea_cons ev_c (ea_cons (ev_fld (ev_var (i := 0) rfl) ha13 hK.cl hK.form rfl) ea_nil)) (by show 2 ≤ 100000; decide)) rfl ha13 hK.cl hK.notes (by show 6 < 1000; decide) fun T n H14 hT e14 hT14 hn => ?_
    generalize hH15 : upd (upd H14 n (.lst [.ref T])) a _ = H15
    have ha15 : H15 a = some (.ins c.hall dx (hFs (.int 0) (.int (upS ns)) (.ref f) (.ref p) (.ref t) (.int 0) (.ref n))) := by
      rw [← hH15]
      exact upd_same
    have m1315 : Mut [a] H13 H15 := by
      rw [← hH15]
      exact ((Mut.of e14).trans (Mut.of (Ex.new hn))).trans (Mut.upd ((Ex.new hn) _ _ (e14 _ _ ha13)) no_ins (by simp))
    have han : a ≠ n := ne_of_none (e14 _ _ ha13) hn
    have hn15 : H15 n = some (.lst [.ref T]) := by
      rw [← hH15, upd_ne (Ne.symm han)]
      exact upd_same
    have hTn : T ≠ n := ne_of_none hT14 hn
    have haT : a ≠ T := ne_of (e14 _ _ ha13) hT14 (fun z => by cases z)
    have hT15 : H15 T = some (.tup [.str "begin", .ref t]) := by
      rw [← hH15, upd_ne (Ne.symm haT), upd_ne hTn]
      exact hT14
    have m915 := m913.trans m1315
    have hp14 := e14 _ _ (m913 _ _ hp9 (.inl (na hap)))
    have hnH : H n = none := (m9.trans (m913.trans (Mut.of e14))).fresh (fun x hx => by rw [List.mem_singleton.mp hx, e14 _ _ ha13]; exact fun z => by cases z) hn
    have ht15 := m1315.sqT ht13
    refine q f n p H15 (m9.trans m915) hff hnH hpH ⟨dx, t, [.ref T], ⟨ha15, m915 _ _ hf9 (.inl (na haf)), m915 _ _ hp9 (.inl (na hap)), ht15, hn15, ne_of_none hp14 hn⟩, rfl, fun i v nt h1 h2 => ?_⟩
    cases i with
    | zero =>
      cases h1
      cases h2
      exact ⟨T, t, rfl, hT15, ht15⟩
    | succ i => cases h1
end
end Tr

/-! Own rules: errors whose context is None, through calls; a clause that raises an own error with fields. -/
namespace Tr
open PySem L2 PySem.Spec PyProof.Rows Evl

/-! ### defs that let out errors without a context -/
structure PDN (P : Program) (w : World) (K : PySem.W.Frag) (mg : Str → Option Value) (base : Heap) (k : Nat) (x : Str) (f : Addr) (ps : List Str) (sp : Sp) : Prop where
  fn : ∃ fd, FnOk P w K mg base (L2N.CX P w) k f fd ps sp ∧ Binds K fd ps []
  g : mg x = some (.ref f)
  kp : PySem.W.keepIn K (.ref f) = true
structure PDdN (P : Program) (w : World) (K : PySem.W.Frag) (mg : Str → Option Value) (base : Heap) (k : Nat) (x : Str) (f : Addr) (ps : List Str) (dvs : List V) (sp : Sp) : Prop where
  fn : ∃ (fd : FuncData) (ds : List Value), FnOk P w K mg base (L2N.CX P w) k f fd ps sp ∧ Binds K fd ps ds ∧ Vals dvs ds
  g : mg x = some (.ref f)
  kp : PySem.W.keepIn K (.ref f) = true
structure MDN (P : Program) (w : World) (K : PySem.W.Frag) (mg : Str → Option Value) (base : Heap) (k : Nat) (C : Addr) (m : Str) (f : Addr) (ps : List Str) (sp : Sp) : Prop where
  fn : ∃ fd, FnOk P w K mg base (L2N.CX P w) k f fd ps sp ∧ Binds K fd ps []
  me : Meth K C m f
section
variable {P : Program} {w : World} {K : PySem.W.Frag} {mg : Str → Option Value} {base : Heap}
theorem Fun.okN {x qual : Str} {st : Stmt} {f : Addr} {fd : FuncData} {N ps : List Str} {k : Nat} {sp : Sp} (F : Fun K x qual st f fd) (S : FnScope N ps (defScope st)) (len : ∀ vs H Q E, sp vs H Q E → vs.length = ps.length)
    (hbody : ∀ (cdv : Value) (A : Around) (outer : List Env) (s : Shared) (H : Hp) (vs : List V) (Q : VK) (E : XK), Room k (A.deeper (envOfC qual (defScope st) s.heap.objs.size f cdv)) → sp vs H Q E →
      ∃ t, PSs (cxOf (L2N.CX P w) P w K mg base N qual (defScope st) f cdv A outer s H E) (defBody st) t ∧ t { nx := fun _ H' => Q .non H', rt := Q } (start N vs) H) : FnOk P w K mg base (L2N.CX P w) (k + 1) f fd ps sp := by
  obtain ⟨_, _, _, _, _, _, cdv, _, _, rfl, lk, cd⟩ := F.ex
  exact fn_of lk cd S len fun A outer s H vs Q E hr q => hbody cdv A outer s H vs Q E hr q
theorem DefAt.keepsN {x : Str} {st : Stmt} {f : Addr} {N ps : List Str} {k : Nat} {sp : Sp} (D : DefAt K mg x st ps f) (S : FnScope N ps (defScope st)) (len : ∀ vs H Q E, sp vs H Q E → vs.length = ps.length)
    (hbody : ∀ (cdv : Value) (A : Around) (outer : List Env) (s : Shared) (H : Hp) (vs : List V) (Q : VK) (E : XK), Room k (A.deeper (envOfC x (defScope st) s.heap.objs.size f cdv)) → sp vs H Q E →
      ∃ t, PSs (cxOf (L2N.CX P w) P w K mg base N x (defScope st) f cdv A outer s H E) (defBody st) t ∧ t { nx := fun _ H' => Q .non H', rt := Q } (start N vs) H) : PDN P w K mg base (k + 1) x f ps sp := by
  obtain ⟨fd, F, b⟩ := D.fn
  exact ⟨⟨fd, Fun.okN F S len hbody, b⟩, D.g, F.kp⟩
theorem DefAtD.keepsN {x : Str} {st : Stmt} {f : Addr} {N ps : List Str} {k : Nat} {sp : Sp} {d : V} (D : DefAtD K mg x st ps d f) (S : FnScope N ps (defScope st)) (len : ∀ vs H Q E, sp vs H Q E → vs.length = ps.length)
    (hbody : ∀ (cdv : Value) (A : Around) (outer : List Env) (s : Shared) (H : Hp) (vs : List V) (Q : VK) (E : XK), Room k (A.deeper (envOfC x (defScope st) s.heap.objs.size f cdv)) → sp vs H Q E →
      ∃ t, PSs (cxOf (L2N.CX P w) P w K mg base N x (defScope st) f cdv A outer s H E) (defBody st) t ∧ t { nx := fun _ H' => Q .non H', rt := Q } (start N vs) H) : PDdN P w K mg base (k + 1) x f ps [d] sp := by
  obtain ⟨fd, F, b, ds, v, b1⟩ := D.fn
  exact ⟨⟨fd, ds, F.ok S len hbody, b1, v⟩, D.g, F.kp⟩
theorem MAt.keepsN {C : Addr} {m q : Str} {st : Stmt} {f : Addr} {N ps : List Str} {k : Nat} {sp : Sp} (D : MAt K C m q st ps f) (S : FnScope N ps (defScope st)) (len : ∀ vs H Q E, sp vs H Q E → vs.length = ps.length)
    (hbody : ∀ (cdv : Value) (A : Around) (outer : List Env) (s : Shared) (H : Hp) (vs : List V) (Q : VK) (E : XK), Room k (A.deeper (envOfC q (defScope st) s.heap.objs.size f cdv)) → sp vs H Q E →
      ∃ t, PSs (cxOf (L2N.CX P w) P w K mg base N q (defScope st) f cdv A outer s H E) (defBody st) t ∧ t { nx := fun _ H' => Q .non H', rt := Q } (start N vs) H) : MDN P w K mg base (k + 1) C m f ps sp := by
  obtain ⟨fd, F, b⟩ := D.fn
  exact ⟨⟨fd, Fun.okN F S len hbody, b⟩, D.me⟩
end
theorem passEN {E : XK} {Y : Cx} (tk : L2N.Takes Y (fun cls d _ H => E cls d H)) : Passes (L2N.CX Y.prog Y.w) Y E := L2N.passes_call tk fun _ _ _ _ h => h
section
variable {X : Cx} {k : Nat} {f C : Addr} {ps : List Str} {sp : Sp} {E : XK} {x m : Str} {p p1 pos pos2 : Pos} {j : Nat} {e e2 : Expr} {es : List Expr} {t ta : TA} {dvs : List V} {W : WX}
theorem pe_pdN (D : PDN X.prog X.w X.K X.mg X.base k x f ps sp) (hr : Room k X.A) (hx : Passes (L2N.CX X.prog X.w) X E) (hg : Gl X x) (ha : PA X (e :: es) t) (hdb : (x == ("__debug__" : Str)) = false := by decide)
    (he : starEach (e :: es) X.env = (false, eval e X.env) :: starEach es X.env := by rfl) (hpl : (backTo pos (starEach es X.env)).any (·.1) = false := by rfl) :
    PE X (.Call (.Name x p) (e :: es) [] pos) (tCall sp [] E t) := by
  obtain ⟨fd, F, b⟩ := D.fn
  exact pe_call F hr hg D.g D.kp b .nil hx ha hdb he hpl
theorem pe_pddN (D : PDdN X.prog X.w X.K X.mg X.base k x f ps dvs sp) (hr : Room k X.A) (hx : Passes (L2N.CX X.prog X.w) X E) (hg : Gl X x) (ha : PA X (e :: es) t) (hdb : (x == ("__debug__" : Str)) = false := by decide)
    (he : starEach (e :: es) X.env = (false, eval e X.env) :: starEach es X.env := by rfl) (hpl : (backTo pos (starEach es X.env)).any (·.1) = false := by rfl) :
    PE X (.Call (.Name x p) (e :: es) [] pos) (tCall sp dvs E t) := by
  obtain ⟨fd, ds, F, b, v⟩ := D.fn
  exact pe_call F hr hg D.g D.kp b v hx ha hdb he hpl
/-- raise x('..') -/
theorem ps_raisePN (hc : X.calm = true) (tk : L2N.Takes X W) (P : ExP X.K X.mg x C) (hg : Gl X x) (hdb : (x == ("__debug__" : Str)) = false := by decide) :
    PS X (.Raise (some (.Call (.Name x p) [.Constant (.str m) j p1] [] pos)) none pos2) (fun _ σ H => W (.ref C) none σ H) :=
  L2N.ps_raise hc tk (L2N.pmk_own PySem.F.excBase_ValueError P.xq P.g P.kp (raises_own P.sb P.ty) hg hdb)
/-- C(..), C with an __init__ of its own: the new error has no context -/
theorem made_ownN {fI : Addr} {fd : FuncData} {qs : List Str} {sq : Sp} {n : Nat} (P : ExI X.K X.mg x C fI) (F : FnOk X.prog X.w X.K X.mg X.base (L2.CX X.prog X.w) n fI fd qs sq) (hr : Room (n + 1) X.A) (hb : Binds X.K fd qs []) (hg : Gl X x) (ha : PA X (e :: es) ta)
    (hdb : (x == ("__debug__" : Str)) = false := by decide) (he : starEach (e :: es) X.env = (false, eval e X.env) :: starEach es X.env := by rfl) (hpl : (backTo pos (starEach es X.env)).any (·.1) = false := by rfl) :
    L2N.PMk X (.Call (.Name x p) (e :: es) [] pos) (tMkO C sq [] ta) := fun pins s σ H Q I h => by
  have K1 := P.ox
  obtain ⟨_, _, _, _, bm, _, _, _, _, _, _, _, _, _, _, hC, hbm⟩ := K1.cls
  refine wpAny_Call_Name_kw (ld_glob I hg P.g ?_ hdb)
  refine PySem.W.callWith_K (h₀ := X.base) I.ok.mod.kin K1.kC (thn (ha.run pos pins s σ H _ I h) fun us y ⟨vs, HV, J, rv, few, go⟩ => ⟨J.kIn, ?_⟩) he hpl
  show wpAny _ _ (call (.ref C) us) _ _ _
  obtain ⟨hp, gn, dw, tks, osx⟩ := y
  generalize hN : hp.objs.size + 1 = new
  have le : hp.objs.size ≤ new := by omega
  have free : HV new = none := J.hok.fresh le
  have want := go new free
  rw [List.append_nil] at want
  have there : ((hp.push (PySem.W.kdv_tup us)).push (PySem.HandSPX.excO C hp.objs.size)).get? new = some (PySem.HandSPX.excO C hp.objs.size) := by
    rw [← hN]
    heap_get
  have more : ∀ b o, hp.get? b = some o → ((hp.push (PySem.W.kdv_tup us)).push (PySem.HandSPX.excO C hp.objs.size)).get? b = some o := fun b o z => Heap.get?_push_of_some _ (Heap.get?_push_of_some _ z)
  have J2 := J.laid (t' := tks) (a := new) (o := exo new C none) (h' := (hp.push (PySem.W.kdv_tup us)).push (PySem.HandSPX.excO C hp.objs.size)) more le (exo_ok there)
  have rv2 : Vals (V.ref new :: vs) (Value.ref new :: us) := .cons rfl rv
  have count : (Value.ref new :: us ++ []).length = qs.length := by
    have z := rv2.length
    rw [F.len _ _ _ _ want] at z
    rw [List.append_nil]
    exact z.symm
  have few2 : us.length ≤ sizeLine := by
    rw [← Paired.length rv, sizeLine_eq]
    omega
  have bound := hb _ (Value.ref new :: us) J2.kIn count
  rw [List.append_nil] at bound
  have run := F.run _ X.stack _ _ ⟨Value.ref new :: us, []⟩ (Value.ref new :: us) _ _ (fun _ _ _ => False) (hr.make C us []) (J2.env0.make C us []) bound rv2 want
  rw [← hN] at run
  refine wpAny_call (PySem.HandSPX.call_own PySem.F.excBase_ValueError (fun Y => PySem.HandSPX.refsVE_contains Y bm hbm) (J.kIn _ _ hC) (PySem.W.looks_findIn J.kIn P.at_) (fun self => PySem.W.bind_fn J.kIn self P.tI) few2 (codeAny_mono run fun r z hz => ?_))
  rw [hN] at hz
  cases r with
  | error er => exact passL pins σ _ _ er z J2 hz
  | ok fl =>
    cases fl with
    | ret u =>
      obtain ⟨v, HW, sameOs, bare, un, ok, ru, isNon, d, fs, atA, atD, freeD, last⟩ := hz
      subst isNon
      obtain ⟨h2, g2, d2, t2, os2⟩ := z
      obtain ⟨t0, G, JG, keep, gone, hoe, fr⟩ := mk_end0 (d2 := d2) (t2 := t2) J le more un ok sameOs bare atA atD freeD
      refine ⟨ru, new, _, _, ⟨G, g2, d2, t2, os2⟩, _, .ref C, some d, by rw [hN], JG, keep, gone, hoe, ⟨rfl, rfl, fun ws hw => ?_⟩, rfl, rfl, fr, rfl, bare, raises_own K1.exC K1.tyC, last⟩
      cases hw
      rfl
    | next => exact False.elim hz
    | brk => exact False.elim hz
    | cont => exact False.elim hz
theorem ps_raise2RN {f g : Str} (hc : X.calm = true) (tk : L2N.Takes X W) (R : Rais2 X.prog X.w X.K X.mg X.base x C f g) (hr : Room 2 X.A) (hg : Gl X x) (ha : PA X [e, e2] ta) (hdb : (x == ("__debug__" : Str)) = false := by decide)
    (he : starEach (e :: [e2]) X.env = (false, eval e X.env) :: starEach [e2] X.env := by rfl) (hpl : (backTo pos (starEach [e2] X.env)).any (·.1) = false := by rfl) :
    PS X (.Raise (some (.Call (.Name x p) [e, e2] [] pos)) none pos2) (tRaise2 C f g W ta) := by
  obtain ⟨fI, fd, P, hf, hgg, F, hb⟩ := R
  have R := L2N.ps_raise (pos := pos2) hc tk (made_ownN (pos := pos) (p := p) P F hr hb hg (pa_mono ha) hdb he hpl)
  refine ⟨fun pins s σ H D I h => R.run pins s σ H D I ⟨_, h, ?_⟩⟩
  rintro vs H1 ⟨u, v, rfl, hw⟩
  refine ⟨by show 2 ≤ 1000; decide, fun a ha' => ⟨a, C, u, v, rfl, P.ox, hf, hgg, upd_same, fun d hd hda H' hH => ⟨rfl, d, [(g, v), (f, u)], ?_, ?_, ?_, ?_⟩⟩⟩
  · rw [hH, upd_ne (Ne.symm hda), upd_same]
  · rw [hH, upd_same]
  · rw [upd_ne hda] at hd
    exact hd
  · rw [upd_ne hda] at hd
    rw [hH, del_up3 hd ha' hda]
    exact hw d hd
end
end Tr

/-! Own rules: a clause that raises an own error with a field, an else behind it. -/
namespace Tr
open PySem L2 PySem.Spec PyProof.Rows Evl L2H HotX

/-- an error with one field, raised while another is handled -/
def Rais1H (P : Program) (w : World) (K : PySem.W.Frag) (mg : Str → Option Value) (base : Heap) (x : Str) (C : Addr) (f : Str) : Prop :=
  ∃ (fI : Addr) (fd : FuncData), ExI K mg x C fI ∧ PySem.W.findIn K (.ref C) f = some none ∧ FnH P w K mg base (L2.CX P w) 1 fI fd ["self", f] (spInit1 K f) ∧ Binds K fd ["self", f] []
section
variable {P : Program} {w : World} {K : PySem.W.Frag} {mg : Str → Option Value} {base : Heap}
theorem Fun.okH {x qual : Str} {st : Stmt} {f : Addr} {fd : FuncData} {N ps : List Str} {k : Nat} {sp : Sp} (F : Fun K x qual st f fd) (S : FnScope N ps (defScope st)) (len : ∀ vs H Q E, sp vs H Q E → vs.length = ps.length)
    (hbody : ∀ (cdv : Value) (A : Around) (outer : List Env) (s : Shared) (H : Hp) (vs : List V) (Q : VK) (E : XK) (p : Addr × Obj), Hot1 A p → RoomH k (A.deeper (envOfC qual (defScope st) s.heap.objs.size f cdv)) → sp vs H Q E →
      ∃ t, PSs (cxH (L2.CX P w) P w K mg base N qual (defScope st) f cdv A outer s H E p) (defBody st) t ∧ t { nx := fun _ H' => Q .non H', rt := Q } (start N vs) H) : FnH P w K mg base (L2.CX P w) (k + 1) f fd ps sp := by
  obtain ⟨_, _, _, _, _, _, cdv, _, _, rfl, lk, cd⟩ := F.ex
  exact fn_ofH lk cd S len fun A outer s H vs Q E p hot hr q => hbody cdv A outer s H vs Q E p hot hr q
end
section
variable {X : Cx} {C : Addr} {x f : Str} {p pos pos2 np pos' : Pos} {e : Expr} {ta : TA} {W Wout : WX} {c : Value} {body suite orelse : List Stmt} {b₀ : Stmt} {tb : WX → TS} {ts : Addr → Value → Option Addr → TS} {u : TS}
theorem ps_raise1H (hc : HotC X) (tk : L2.Takes X W) (R : Rais1H X.prog X.w X.K X.mg X.base x C f) (hr : RoomH 2 X.A) (hg : Gl X x) (ha : PA X [e] ta) (hdb : (x == ("__debug__" : Str)) = false := by decide)
    (he : starEach (e :: []) X.env = (false, eval e X.env) :: starEach [] X.env := by rfl) (hpl : (backTo pos (starEach [] X.env)).any (·.1) = false := by rfl) :
    PS X (.Raise (some (.Call (.Name x p) [e] [] pos)) none pos2) (tRaise1 C f W ta) := by
  obtain ⟨fI, fd, P, hf, F, hb⟩ := R
  have R := ps_raiseH (pos := pos2) hc tk (pmk5_oexH (pos := pos) (p := p) P.ox P.at_ P.tI F hr hc hb passL hg P.g (pa_mono ha) hdb he hpl).pmk
  refine ⟨fun pins s σ H D I h => R.run pins s σ H D I ⟨_, h, ?_⟩⟩
  rintro vs H1 ⟨v, rfl, hw⟩
  refine ⟨by show 1 ≤ 1000; decide, fun a ha' => ⟨a, C, v, rfl, P.ox, hf, upd_same, fun d hd hda H' hH => ⟨rfl, d, [(f, v)], ?_, ?_, ?_, ?_⟩⟩⟩
  · rw [hH, upd_same]
  · rw [hH, upd_ne hda, upd_same]
  · rw [upd_ne hda] at hd
    exact hd
  · rw [upd_ne hda] at hd
    rw [hH, del_up2 hd ha' hda]
    exact hw d hd
/-- what the clause wishes: it names the error -/
def wYes (K : PySem.W.Frag) (c : Value) (ts : Addr → Value → Option Addr → TS) (D : Ends) : WX := fun cls d σ H => PySem.W.exmOne K cls c = some true ∧ ∀ a, H a = none → ts a cls d D σ H
/-- try: .. except x: a suite that may raise out of it; else: .. -/
theorem ps_try_hot (ho : PSs X orelse u) (hs : X.stack = X.env :: X.outer) (hf : X.env.frame = some X.env.locals) (hc : Names X x c) (hpa : ∀ hd : Option Value, PassesOwnAt (model X.prog X.w) (X.A.mark hd) X.A X.env X.xe) (tk : L2.Takes X Wout)
    (hb : ∀ (W : WX) (pn : List (Addr × Obj)) (xe : Value → Shared → Prop), L2N.Takes (X.tr pn xe) W → PassesOwn (model X.prog X.w) X.A X.env xe → PSs (X.tr pn xe) body (tb W))
    (hsu : ∀ (a : Addr) (oe : Obj) (cls : Value) (d : Option Addr) (pn : List (Addr × Obj)), L2.Takes (suiteX X a ((a, oe) :: pn)) Wout → HotC (suiteX X a ((a, oe) :: pn)) → PSs (suiteX X a ((a, oe) :: pn)) (b₀ :: suite) (ts a cls d)) :
    PS X (.Try body [.ExceptHandler (some (.Name x np)) none (b₀ :: suite) pos'] orelse [] pos) (fun D σ H => tb (wYes X.K c ts D) { D with nx := u D } σ H) := by
  refine ⟨fun pins s σ H D I h => ?_⟩
  have ok := I.ok
  have frA : X.A.frames = some (X.env :: X.outer) := ok.frames.trans (congrArg some hs)
  refine wpAny_Try_except (wpAny_mono ((hb (wYes X.K c ts D) (X.pn ++ pins) (fun e y1 => wpAny (model X.prog X.w) X.A (noteFrame e X.env) (fun _ y2 => wpAny (model X.prog X.w) X.A (setFlight e none)
    (fun _ y3 => wpAny (model X.prog X.w) X.A (handleBy e X.env [.ExceptHandler (some (.Name x np)) none (b₀ :: suite) pos']) (SP X pins D) X.xe y3) X.xe y2) X.xe y1) (fun v y xx => ?_) PassesOwn.looking).run [] s σ H { D with nx := u D } (I.toTry _) h)
    (fun f s1 hsp => ?_) (fun e s1 he => he))
  · obtain ⟨a, B, sI, pins1, σ1, H1, cls, d, rfl, J0, nb, up, sky, na, os, ag, isOf, hyes⟩ := xx
    have J : Inv X pins σ1 H1 sI := J0.ofTry ok
    have sky1 : Sky B (X.env :: X.outer) a (L2N.Zn cls d) X.env.locals y.heap := by rw [← hs]; exact sky
    refine L2N.Sky.land L2N.Zn.steady frA hf sky1 fun h3 fl3 up3 => ?_
    have J3 : Inv X pins σ1 H1 { y with heap := h3 } := J.landed nb fl3.1 (up.trans up3) os ag
    obtain ⟨o3, v3, g3, z3, d3⟩ := fl3.there
    have aFr : a ∉ frs (X.env :: X.outer) := fun hm => by
      obtain ⟨_, o', e', hnf⟩ := fl3.2.2.1.mem hm
      rw [g3] at e'
      cases e'
      exact hnf _ d3
    have aL : a ≠ X.env.locals := fun w => aFr (List.mem_filterMap.mpr ⟨X.env, List.mem_cons_self, hf.trans (congrArg some w.symm)⟩)
    have aF : a ∉ X.fs := fun hm => by
      obtain ⟨e, he, q⟩ := List.mem_filterMap.mp hm
      exact aFr (List.mem_filterMap.mpr ⟨e, List.mem_cons_of_mem _ he, q⟩)
    have S3 := J3.suite g3 d3 na aL aF
    have nameIs : ∀ {Q : Value → Shared → Prop} {E : Value → Shared → Prop}, Q c { y with heap := h3 } → wpAny (model X.prog X.w) (X.A.mark (some (.ref a))) (eval (.Name x np) X.env) Q E { y with heap := h3 } := fun {Q E} q => by
      rcases hc with ⟨hg, hdb, hm | ⟨hm, hv, hnn⟩⟩
      · exact ld_glob (X := X.suite a ((a, o3) :: (X.pn ++ pins))) S3 hg hm q hdb
      · exact ld_blt (X := X.suite a ((a, o3) :: (X.pn ++ pins))) S3 hg hm hv q hnn hdb
    have LM := PySem.W.exm_one (M := model X.prog X.w) (J3.kIn) (fun A Q E s k q => wpAny_typeOf_ref (k _ _ g3) (by rw [z3.1]; exact q)) isOf
    refine wpAny_handleBy_cons (codeAny_handlers_test (nameIs (LM.here ?_))) (by intro q; cases q)
    refine codeAny_handlers_suite (HandSPX.lands_againZ fl3 fun h4 fl4 up4 => ?_)
    obtain ⟨o4, v4, g4, z4, d4⟩ := fl4.there
    have S4 := (J.landed (s' := { y with heap := h4 }) nb fl4.1 ((up.trans up3).trans up4) os ag).suite g4 d4 na aL aF
    have tkS : L2.Takes (suiteX X a ((a, o4) :: (X.pn ++ pins))) Wout := fun v2 y2 xx2 => by
      obtain ⟨a2, B2, sI2, pn2, σ2, H2, cls2, d2, e2, I2, r2⟩ := xx2
      exact tk v2 y2 ⟨a2, B2, sI2, pins, σ2, H2, cls2, d2, e2, unsuiteX I2 ok, r2⟩
    have hot : HotC (suiteX X a ((a, o4) :: (X.pn ++ pins))) := ⟨(a, o4), ⟨rfl, v4, d4, z4.2.2 v4 d4⟩, List.mem_cons_self⟩
    refine wpAny_mono ((hsu a o4 cls d (X.pn ++ pins) tkS hot).run [] _ _ H1 _ (suiteX_of S4) (hyes a na)) (fun f s6 hsp => ?_) (fun e6 s6 z => hpa (some (.ref a)) e6 s6 z)
    cases f with
    | ret u =>
      obtain ⟨v6, σ6, H6, S6, r6, q6⟩ := hsp
      exact ⟨_, _, _, unsuiteX S6 ok, r6, q6⟩
    | _ =>
      obtain ⟨σ6, H6, S6, q6⟩ := hsp
      exact ⟨_, _, unsuiteX S6 ok, q6⟩
  · cases f with
    | next =>
      obtain ⟨σ', H', J', q⟩ := hsp
      exact ho.run pins s1 σ' H' D (J'.ofTry ok) q
    | ret u =>
      obtain ⟨v, σ', H', J', r, q⟩ := hsp
      exact ⟨v, σ', H', J'.ofTry ok, r, q⟩
    | _ =>
      obtain ⟨σ', H', J', q⟩ := hsp
      exact ⟨σ', H', J'.ofTry ok, q⟩
/-- C(..) in such a try's body -/
theorem pe_mkN {k : Nat} {ps : List Str} {sp : Sp} {E : L2.St → XK} {es : List Expr} {t : TA} (kc : PySem.W.makesIn X.K C = true) (kk : PySem.W.keepIn X.K (.ref C) = true) {fI : Addr} (D : MDN X.prog X.w X.K X.mg X.base k C "__init__" fI ps sp) (hr : Room (k + 1) X.A) (hg : Gl X x) (hm : X.mg x = some (.ref C)) (hx : ∀ σ, PassesAt (L2N.CX X.prog X.w) X σ (E σ)) (ha : PA X (e :: es) t)
    (hdb : (x == ("__debug__" : Str)) = false := by decide) (he : starEach (e :: es) X.env = (false, eval e X.env) :: starEach es X.env := by rfl) (hpl : (backTo pos (starEach es X.env)).any (·.1) = false := by rfl) :
    PE X (.Call (.Name x p) (e :: es) [] pos) (tMakeS C sp E t) := by
  obtain ⟨fd, F, b⟩ := D.fn
  refine ⟨fun pins s σ H Q I h => ?_⟩
  refine wpAny_Call_Name_kw (ld_glob I hg hm ?_ hdb)
  refine PySem.W.callWith_K (h₀ := X.base) I.ok.mod.kin kk (thn (ha.run pos pins s σ H _ I h) fun us s1 ⟨vs, H1, I1, r, q⟩ => ⟨I1.kIn, ?_⟩) he hpl
  exact run_makeG ⟨kc, D.me.at_, D.me.fn, kk⟩ F hr b (hx σ) I1 r q
end
end Tr

/-! Own rule: x in d.values(), ints. -/
namespace Tr
open PySem L2 PySem.Spec PyProof.Rows Evl

theorem entry_contIter : entryFor table "proto.contains_iter" = some Builtin.«proto.contains_iter» := entryFor_of_fast (by kernel_rfl)
theorem plain_contIter : plainId "proto.contains_iter" = true := by decide +kernel
section
variable {prog : Program} {w : World} {A : Around} {R : Result → Shared → Prop} {I : Addr} {fp wr : List Addr} {n : Nat} {P : Nat → Value → Prop} {St : Nat → Heap → Prop}
/-- an iterator asked for a number -/
theorem cont_loop (W : Walks prog w A.in1 I fp wr n P St) (g : Nat → Int) (hg : ∀ i v, P i v → ∃ t, v = .int (g i) t) (x : Int) (tx : Tok) : ∀ (k i : Nat) (s : Shared), n - i = k → i ≤ n → St i s.heap →
    (∀ h' tk, (∀ b o, b ∉ wr → s.heap.get? b = some o → h'.get? b = some o) → R (.ok (.ret (.bool (((List.range n).drop i).any fun j => decide (g j = x))))) { s with heap := h', toks := tk }) →
    codeAny (model prog w) A (.builtin "proto.contains_iter" ⟨[.ref I, .int x tx], []⟩) R s := by
  intro k
  induction k with
  | zero =>
    intro i s hk hi st fin
    obtain rfl : i = n := by omega
    refine codeAny_builtin entry_contIter ?_
    rw [Around.under_plainId plain_contIter _]
    refine wpAny_bind (W.done s _ _ st fun h1 t1 keep => wpAny_bind (wpAny_rule (wpAny_pure ?_)))
    have z := fin h1 t1 keep
    rw [List.drop_of_length_le (by simp)] at z
    exact z
  | succ k ih =>
    intro i s hk hi st fin
    have lt : i < n := by omega
    have cut : (List.range n).drop i = i :: (List.range n).drop (i + 1) := by
      rw [List.drop_eq_getElem_cons (by simpa using lt), List.getElem_range]
    refine codeAny_builtin entry_contIter ?_
    rw [Around.under_plainId plain_contIter _]
    refine wpAny_bind (W.item i s _ _ lt st fun v h1 t1 isP st1 keep => ?_)
    obtain ⟨t, rfl⟩ := hg i v isP
    refine wpAny_bind (wpAny_eqBool_int ?_)
    by_cases same : g i = x
    · rw [if_pos (by simpa using same)]
      refine wpAny_bind (wpAny_rule (wpAny_pure ?_))
      have z := fin h1 t1 keep
      rw [cut, List.any_cons, decide_eq_true same, Bool.true_or] at z
      exact z
    · rw [if_neg (by simpa using same)]
      refine wpAny_pure ⟨plainId_quiet plain_contIter _, ih (i + 1) _ (by omega) lt st1 fun h2 t2 keep2 => ?_⟩
      have z := fin h2 t2 fun b o hb e => keep2 b o hb (keep b o hb e)
      rw [cut, List.any_cons, decide_eq_false same, Bool.false_or] at z
      exact z
end
/-- d.values() -/
def tVals (td : TE) : TE := fun σ H Q => td σ H fun x H1 => ∃ a kvs, x = .ref a ∧ H1 a = some (.dK kvs) ∧ ∀ p, H1 p = none → Q (.ref p) (upd H1 p (viewO "dict_values" p a))
def rInVals : R2 := fun x y H Q => ∃ (k : Int) (p a : Addr) (kvs : List (Key × V)) (is : List Int), x = .int k ∧ y = .ref p ∧ H p = some (viewO "dict_values" p a) ∧ H a = some (.dK kvs) ∧ kvs.map (·.2) = is.map V.int ∧ Q (.bl (decide (k ∈ is))) H
section
variable {X : Cx} {o : Expr} {td : TE} {apos pos : Pos}
theorem pe_vals (hd : PE X o td) (hbase : attributeBase o "values" X.env (eval o X.env) = eval o X.env := by rfl) (hline : (apos.endLine == pos.line) = true := by rfl) : PE X (.Call (.Attribute o "values" apos) [] [] pos) (tVals td) := by
  refine ⟨fun pins s σ H Q I h => ?_⟩
  refine wpAny_Call_method0_late hbase hline (thn (hd.run pins s σ H _ I h) fun v s1 ⟨x, H1, I1, r1, a, kvs, ex, ha, q⟩ => ?_)
  subst ex
  obtain rfl : v = Value.ref a := r1
  obtain ⟨_, notMods, vs, rel, dof⟩ := dk_of I1.hok ha
  have dof' := dof
  obtain ⟨ob, es, ep, ho, ex, _⟩ := dof'
  refine ⟨"dict", "dict.values", F.plainAttrs_dict, F.slot_dict_values, F.type_dict_values, ⟨ob, ho, ex.1⟩, fun b e => ?_, Calls.callWith_builtin rfl (PySem.evalArgs_none ?_)⟩
  · cases e
    exact ⟨ob, ho, ex.2.1⟩
  refine call_meetsIn F.slot_dict_values ⟨ob, ho, ex.1⟩ F.entry_dict_values (F.args_dict_values_1 _) (meets_dict_values (mixKind X.prog X.w) a notMods) ⟨⟨vs, dof⟩, ?_⟩
  have new : (s1.heap.push (DSub.viewOb "dict_values" a)).get? s1.heap.objs.size = some (DSub.viewOb "dict_values" a) := Heap.get?_push_size _ rfl
  exact ⟨.ref s1.heap.objs.size, upd H1 s1.heap.objs.size (viewO "dict_values" s1.heap.objs.size a), I1.laid (t' := s1.toks) (fun b u e => Heap.get?_push_of_some _ e) (Nat.le_refl _) (viewO_ok new), rfl, q _ (I1.hok.fresh (Nat.le_refl _))⟩
theorem op_inVals (hc : X.calm = true) : OpR X (compareOp .In) rInVals := by
  rintro pins s σ H x y u v Q I rx ry ⟨k, p, a, kvs, is, rfl, rfl, hp, ha, hv, q⟩
  obtain ⟨t, rfl⟩ := (show ∃ t, u = Value.int k t from rx)
  obtain rfl : v = Value.ref p := ry
  have at_ : s.heap.get? p = some (DSub.viewOb "dict_values" a) := (I.hok p _ hp).1
  obtain ⟨_, _, vs, rel, dof⟩ := dk_of I.hok ha
  obtain ⟨ep, dat⟩ := dof.dictAt
  have isV : s.TypeIs (.ref p) "dict_values" := ⟨_, at_, rfl⟩
  have none_ : typeLookup (.type "dict_values") "__contains__" = pure none := by kernel_rfl
  have calm := I.ok.hd hc
  have lt : a < s.heap.objs.size := by
    obtain ⟨ob, es, ep2, ho, _⟩ := dof
    exact Heap.lt_size ho
  have hlv : vs.length = is.length := by
    have e1 := congrArg List.length hv
    rw [List.length_map, List.length_map] at e1
    rw [← e1]
    exact (KV.length rel).symm
  have hval : ∀ (i : Nat) (v : Value), (∃ k, vs[i]? = some (k, v)) → ∃ t, v = Value.int (is.getD i 0) t := fun i v ⟨k, hk⟩ => by
    obtain ⟨x, h1, h2⟩ := KV.at' rel hk
    have e1 : (kvs.map (·.2))[i]? = some x := by rw [List.getElem?_map, h1]; rfl
    rw [hv, List.getElem?_map] at e1
    obtain ⟨j, hj, e2⟩ := Option.map_eq_some_iff.mp e1
    subst e2
    obtain ⟨t, e3⟩ := h2
    refine ⟨t, ?_⟩
    rw [e3, List.getD_eq_getElem?_getD, hj]
    rfl
  have any_ : ((List.range vs.length).drop 0).any (fun j => decide (is.getD j 0 = k)) = decide (k ∈ is) := by
    rw [List.drop_zero, hlv]
    by_cases m : k ∈ is
    · rw [decide_eq_true m, List.any_eq_true]
      obtain ⟨i, hi, e⟩ := List.getElem_of_mem m
      refine ⟨i, List.mem_range.mpr hi, ?_⟩
      rw [List.getD_eq_getElem?_getD, List.getElem?_eq_getElem hi, Option.getD_some, e]
      simp
    · rw [decide_eq_false m, List.any_eq_false]
      intro i hi
      have hi := List.mem_range.mp hi
      rw [List.getD_eq_getElem?_getD, List.getElem?_eq_getElem hi, Option.getD_some]
      simp
      exact fun e => m (e ▸ List.getElem_mem hi)
  show wpAny _ _ (contains (.ref p) (.int k t) >>= fun b => pure (Value.bool b)) _ _ s
  unfold contains
  refine wpAny_bind (wpAny_holding ?_)
  show wpAny _ _ (specialOf (.ref p) "__contains__" >>= _) _ _ s
  refine wpAny_bind (wpAny_specialOf isV none_ ?_)
  rw [if_neg (by decide)]
  refine wpAny_bind (wpAny_callSpecialUnlessNone?_none isV none_ ?_)
  refine wpAny_bind (wpAny_rule ?_)
  refine wpAny_bind (wpAny_tryCatch (wpAny_pyIter_values (d := a) ⟨_, at_, rfl, rfl⟩ dat ?_))
  have W := Walks.dictValues (prog := X.prog) (w := X.w) (knd := mixKind X.prog X.w) (A := X.A.in1) calm s.heap.objs.size a (Nat.ne_of_lt lt) vs ep
  refine wpAny_bind (wpAny_runValue (cont_loop W (fun i => is.getD i 0) hval k t vs.length 0 _ (by omega) (Nat.zero_le _) ⟨⟨_, Heap.get?_push_size _ rfl, rfl, rfl⟩, dat.keep fun b u e => Heap.get?_push_of_some _ e⟩ fun h' tk keep => ?_))
  rw [any_]
  refine wpAny_pure (wpAny_pure ⟨.bl (decide (k ∈ is)), H, I.kept (t' := tk) fun b u e => keep b u (fun m => ?_) (Heap.get?_push_of_some _ e), rfl, q⟩)
  have := Heap.lt_size e
  rw [List.mem_singleton.mp m] at this
  exact absurd this (Nat.lt_irrefl _)
end
end Tr

/-! Law k13: logs, and what replays them. -/
namespace Tr
open PySem L2 PySem.Spec PyProof.Rows Evl

/-! ### what a log tells -/
def okN (s : HS) : Note → Prop
  | .beg _ => False
  | .chg ns => Good ns ∧ clashF ns = none ∧ pcI (upS ns) = pcI s.bits
  | .stp th h => th = thingS s ∧ h = nextH s
noncomputable def nxt (s : HS) : Note → HS
  | .beg _ => s
  | .chg ns => changeS s ns
  | .stp _ _ => stepS s
noncomputable def okL : HS → List Note → Prop
  | _, [] => True
  | s, n :: l => okN s n ∧ okL (nxt s n) l
noncomputable def playF : HS → List Note → HS
  | s, [] => s
  | s, n :: l => playF (nxt s n) l
theorem nxt_inv {s : HS} {n : Note} (I : HInv s) (h : okN s n) : HInv (nxt s n) := by
  cases n with
  | beg ns => exact h.elim
  | chg ns => exact change_inv I h.1 h.2.1 h.2.2
  | stp th x => exact step_inv I
theorem play_inv : ∀ {l : List Note} {s : HS}, HInv s → okL s l → HInv (playF s l)
  | [], _, I, _ => I
  | n :: l, s, I, h => play_inv (l := l) (s := nxt s n) (nxt_inv I h.1) h.2
theorem play_app : ∀ {l k : List Note} {s : HS}, playF s (l ++ k) = playF (playF s l) k
  | [], _, _ => rfl
  | n :: l, k, s => play_app (l := l) (k := k) (s := nxt s n)
theorem ok_app : ∀ {l k : List Note} {s : HS}, okL s (l ++ k) ↔ okL s l ∧ okL (playF s l) k
  | [], _, _ => ⟨fun h => ⟨trivial, h⟩, fun h => h.2⟩
  | _ :: l, _, _ => ⟨fun h => ⟨⟨h.1, (ok_app.mp h.2).1⟩, (ok_app.mp h.2).2⟩, fun h => ⟨h.1.1, ok_app.mpr ⟨h.1.2, h.2⟩⟩⟩
theorem ok_take {l : List Note} {s : HS} (h : okL s l) (k : Nat) : okL s (l.take k) := by
  rw [← List.take_append_drop k l] at h
  exact (ok_app.mp h).1
theorem ok_at {l : List Note} {s : HS} (h : okL s l) {i : Nat} {n : Note} (hi : l[i]? = some n) : okN (playF s (l.take i)) n ∧ playF s (l.take (i + 1)) = nxt (playF s (l.take i)) n := by
  have hl := (List.getElem?_eq_some_iff.mp hi).1
  have e : l.take (i + 1) = l.take i ++ [n] := by
    rw [List.take_succ, hi]
    rfl
  have h2 := ok_take h (i + 1)
  rw [e] at h2 ⊢
  rw [play_app]
  exact ⟨(ok_app.mp h2).2.1, rfl⟩
/-- a log, and where it ends -/
structure LogOf (nts : List Note) (s : HS) : Prop where
  ex : ∃ ns rest, nts = .beg ns :: rest ∧ Good ns ∧ clashF ns = none ∧ okL (initS ns) rest ∧ s = playF (initS ns) rest
theorem LogOf.inv {nts : List Note} {s : HS} (h : LogOf nts s) : HInv s := by
  obtain ⟨ns, rest, _, hg, hc, hk, rfl⟩ := h.ex
  exact play_inv (init_inv hg hc) hk
theorem LogOf.fn {nts : List Note} {s s' : HS} (h : LogOf nts s) (h' : LogOf nts s') : s = s' := by
  obtain ⟨ns, rest, rfl, _, _, _, rfl⟩ := h.ex
  obtain ⟨ns', rest', e, _, _, _, rfl⟩ := h'.ex
  cases e
  rfl
theorem LogOf.snoc {nts : List Note} {s : HS} {n : Note} (h : LogOf nts s) (hn : okN s n) : LogOf (nts ++ [n]) (nxt s n) := by
  obtain ⟨ns, rest, rfl, hg, hc, hk, rfl⟩ := h.ex
  exact ⟨ns, rest ++ [n], rfl, hg, hc, ok_app.mpr ⟨hk, hn, trivial⟩, by rw [play_app]; rfl⟩
theorem LogOf.take {nts : List Note} {s : HS} (h : LogOf nts s) {k : Nat} (hk : 1 ≤ k) : ∃ s', LogOf (nts.take k) s' := by
  obtain ⟨ns, rest, rfl, hg, hc, ho, rfl⟩ := h.ex
  obtain ⟨j, rfl⟩ : ∃ j, k = j + 1 := ⟨k - 1, by omega⟩
  exact ⟨_, ns, rest.take j, rfl, hg, hc, ok_take ho j, rfl⟩
/-- a log's next row fits -/
theorem LogOf.next {nts : List Note} {s : HS} (h : LogOf nts s) {i : Nat} {n : Note} {s' : HS} (h1 : 1 ≤ i) (hi : nts[i]? = some n) (h' : LogOf (nts.take i) s') : okN s' n ∧ LogOf (nts.take (i + 1)) (nxt s' n) := by
  obtain ⟨ns, rest, rfl, hg, hc, ho, rfl⟩ := h.ex
  obtain ⟨j, rfl⟩ : ∃ j, i = j + 1 := ⟨i - 1, by omega⟩
  rw [List.getElem?_cons_succ] at hi
  have z := ok_at ho hi
  have e := h'.fn ⟨ns, rest.take j, rfl, hg, hc, ok_take ho j, rfl⟩
  subst e
  exact ⟨z.1, ns, rest.take (j + 1), rfl, hg, hc, ok_take ho (j + 1), z.2.symm⟩
theorem log_beg {ns : List Int} (hg : Good ns) (hc : clashF ns = none) : LogOf [.beg ns] (initS ns) := ⟨ns, [], rfl, hg, hc, trivial, rfl⟩
/-! ### rows as data -/
def dTh : Option Int → PyData
  | none => .none
  | some x => .int x
def dN : Note → PyData
  | .beg ns => .tuple [.str "begin", .tuple (ns.map PyData.int)]
  | .chg ns => .tuple [.str "change", .tuple (ns.map PyData.int)]
  | .stp th h => .tuple [.str "step", dTh th, .int h]
theorem dp_th {K : PySem.W.Frag} {H : Hp} (th : Option Int) : Dp K H (thV th) (dTh th) := by
  cases th with
  | none => exact .non
  | some x => exact .int x
theorem note_dp {K : PySem.W.Frag} {H : Hp} {v : V} {n : Note} (h : NoteAt K H v n) : Dp K H v (dN n) := by
  cases n with
  | beg ns => obtain ⟨t, u, rfl, h1, h2⟩ := h; exact .tup (SqT.of h1) (.cons (.str _) (.cons (.tup h2 (dpa_ints _)) .nil))
  | chg ns => obtain ⟨t, u, rfl, h1, h2⟩ := h; exact .tup (SqT.of h1) (.cons (.str _) (.cons (.tup h2 (dpa_ints _)) .nil))
  | stp th x => obtain ⟨t, rfl, h1⟩ := h; exact .tup (SqT.of h1) (.cons (.str _) (.cons (dp_th th) (.cons (.int _) .nil)))
theorem flat_ntup {ns : List Int} : Flat 1 (.tuple (ns.map PyData.int)) := flat_tuple fun d hd => by
  obtain ⟨i, _, rfl⟩ := List.mem_map.mp hd
  exact flat_int
theorem flat_th (th : Option Int) : Flat 0 (dTh th) := by
  cases th with
  | none => exact flat_non
  | some x => exact flat_int
theorem flat_note (n : Note) : Flat 2 (dN n) := by
  cases n with
  | beg ns =>
    refine flat_tuple fun d hd => ?_
    rcases List.mem_cons.mp hd with rfl | hd
    · exact (flat_str (by decide +kernel)).mono (by decide)
    · rw [List.mem_singleton.mp hd]
      exact flat_ntup
  | chg ns =>
    refine flat_tuple fun d hd => ?_
    rcases List.mem_cons.mp hd with rfl | hd
    · exact (flat_str (by decide +kernel)).mono (by decide)
    · rw [List.mem_singleton.mp hd]
      exact flat_ntup
  | stp th x =>
    refine flat_tuple fun d hd => ?_
    rcases List.mem_cons.mp hd with rfl | hd
    · exact (flat_str (by decide +kernel)).mono (by decide)
    · rcases List.mem_cons.mp hd with rfl | hd
      · exact (flat_th th).mono (by decide)
      · rw [List.mem_singleton.mp hd]
        exact flat_int.mono (by decide)
/-- a thing that can be compared -/
def IsD (K : PySem.W.Frag) (H : Hp) (v : V) : Prop := ∃ d, Dp K H v d ∧ Flat 10 d
theorem IsD.ex {K : PySem.W.Frag} {H H' : Hp} {v : V} (e : Ex H H') (h : IsD K H v) : IsD K H' v := let ⟨d, a, b⟩ := h; ⟨d, dp_ex e a, b⟩
theorem note_isD {K : PySem.W.Frag} {H : Hp} {v : V} {n : Note} (h : NoteAt K H v n) : IsD K H v := ⟨_, note_dp h, (flat_note n).mono (by decide)⟩
theorem isD_all {K : PySem.W.Frag} {H : Hp} : ∀ {xs : List V}, (∀ x ∈ xs, IsD K H x) → ∃ ds, DpAll K H xs ds ∧ ∀ d ∈ ds, Flat 10 d
  | [], _ => ⟨[], .nil, fun d hd => absurd hd List.not_mem_nil⟩
  | x :: xs, h => by
    obtain ⟨d, h1, h2⟩ := h x List.mem_cons_self
    obtain ⟨ds, h3, h4⟩ := isD_all fun y hy => h y (List.mem_cons_of_mem _ hy)
    exact ⟨d :: ds, .cons h1 h3, fun e he => (List.mem_cons.mp he).elim (fun z => z ▸ h2) (h4 e)⟩
/-! ### rows that can't be -/
def NotTup (K : PySem.W.Frag) (H : Hp) (v : V) : Prop := ∃ T, TyX K H v (.type T) ∧ kitB T "tuple" = some false
/-- a tuple that is no row that goes on -/
def NoRowT (K : PySem.W.Frag) (H : Hp) (y : V) : Prop := (∃ t ys, y = .ref t ∧ SqT K H t ys) ∧ (Bad K H y ∨ ∃ ns, Row K H y ns ∧ Good ns ∧ clashF ns ≠ none)
inductive BadRow (K : PySem.W.Frag) (H : Hp) (s : HS) (v : V) : Prop
  | no (h : NotTup K H v)
  | len (t : Addr) (ys : List V) (e : v = .ref t) (h : SqT K H t ys) (h2 : ys.length ≠ 2) (h3 : ys.length ≠ 3)
  | two (t : Addr) (w : Str) (y : V) (e : v = .ref t) (h : SqT K H t [.str w, y]) (hw : w ≠ "change")
  | chg (t : Addr) (y : V) (e : v = .ref t) (h : SqT K H t [.str "change", y]) (hy : NotTup K H y ∨ NoRowT K H y)
  | thr (t : Addr) (w : Str) (y z : V) (e : v = .ref t) (h : SqT K H t [.str w, y, z]) (hw : w ≠ "step")
  | bl (t : Addr) (y z : V) (e : v = .ref t) (h : SqT K H t [.str "step", y, z]) (py : Plain y) (pz : Plain z) (hb : (∃ b, y = .bl b) ∨ ∃ b, z = .bl b)
  | stp (t : Addr) (y : Option Int) (z : Int) (e : v = .ref t) (h : SqT K H t [.str "step", thV y, .int z]) (hne : y ≠ thingS s ∨ z ≠ nextH s)
inductive BadFirst (K : PySem.W.Frag) (H : Hp) (v : V) : Prop
  | no (h : NotTup K H v)
  | len (t : Addr) (ys : List V) (e : v = .ref t) (h : SqT K H t ys) (h2 : ys.length ≠ 2)
  | two (t : Addr) (w : Str) (y : V) (e : v = .ref t) (h : SqT K H t [.str w, y]) (hw : w ≠ "begin")
  | beg (t : Addr) (y : V) (e : v = .ref t) (h : SqT K H t [.str "begin", y]) (hy : NotTup K H y ∨ NoRowT K H y)
section
variable {K : PySem.W.Frag} {H H' : Hp}
theorem notTup_ex {v : V} (e : Ex H H') (h : NotTup K H v) : NotTup K H' v := let ⟨T, a, b⟩ := h; ⟨T, tyx_ex e a, b⟩
theorem noRowT_ex {v : V} (e : Ex H H') (h : NoRowT K H v) : NoRowT K H' v := by
  obtain ⟨⟨t, ys, e1, ht⟩, h⟩ := h
  refine ⟨⟨t, ys, e1, ex_t e ht⟩, ?_⟩
  rcases h with h | ⟨ns, hr, hg, hc⟩
  · exact .inl (bad_ex e h)
  · exact .inr ⟨ns, row_ex e hr, hg, hc⟩
theorem badRow_ex {s : HS} {v : V} (e : Ex H H') (h : BadRow K H s v) : BadRow K H' s v := by
  cases h with
  | no h => exact .no (notTup_ex e h)
  | len t ys e1 h h2 h3 => exact .len t ys e1 (ex_t e h) h2 h3
  | two t w y e1 h hw => exact .two t w y e1 (ex_t e h) hw
  | chg t y e1 h hy => exact .chg t y e1 (ex_t e h) (hy.imp (notTup_ex e) (noRowT_ex e))
  | thr t w y z e1 h hw => exact .thr t w y z e1 (ex_t e h) hw
  | bl t y z e1 h py pz hb => exact .bl t y z e1 (ex_t e h) py pz hb
  | stp t y z e1 h hne => exact .stp t y z e1 (ex_t e h) hne
theorem badFirst_ex {v : V} (e : Ex H H') (h : BadFirst K H v) : BadFirst K H' v := by
  cases h with
  | no h => exact .no (notTup_ex e h)
  | len t ys e1 h h2 => exact .len t ys e1 (ex_t e h) h2
  | two t w y e1 h hw => exact .two t w y e1 (ex_t e h) hw
  | beg t y e1 h hy => exact .beg t y e1 (ex_t e h) (hy.imp (notTup_ex e) (noRowT_ex e))
end
/-! ### promises -/
def sp_k13_is_change (K : PySem.W.Frag) (c : Cs) : Sp := fun vs H Q _ => ∃ v, vs = [v] ∧ ((NotTup K H v ∧ RetV (.bl false) H Q) ∨ ∃ t ys, v = .ref t ∧ SqT K H t ys ∧ ((ys.length ≠ 2 ∧ RetV (.bl false) H Q) ∨ ∃ w y, ys = [.str w, y] ∧ RetV (.bl (decide (w = "change"))) H Q))
/-- a new hall -/
def RetH (K : PySem.W.Frag) (c : Cs) (s : HS) (nts : List Note) (H : Hp) (Q : VK) : Prop := ∀ a f n p H2, Ex H H2 → H a = none → H f = none → H n = none → H p = none → HallAt K c.hall H2 a f n p s nts → Q (.ref a) H2
def sp_k13_begun (K : PySem.W.Frag) (c : Cs) : Sp := fun vs H Q E => ∃ x, vs = [x] ∧ (
  ((∃ T, TyX K H x (.type T) ∧ kitB T "list" = some false) ∧ RetX c.nolog [("row", .int 0)] H E) ∨
  ∃ l xs, x = .ref l ∧ SqL K H l xs ∧ ((xs = [] ∧ RetX c.nolog [("row", .int 0)] H E) ∨ ∃ v rest, xs = v :: rest ∧ (∀ y ∈ xs, IsD K H y) ∧
    ((BadFirst K H v ∧ RetX c.nolog [("row", .int 0)] H E) ∨ ∃ ns, NoteAt K H v (.beg ns) ∧ Good ns ∧ clashF ns = none ∧ RetH K c (initS ns) [.beg ns] H Q)))
def sp_k13_done_again (K : PySem.W.Frag) (c : Cs) : Sp := fun vs H Q _ => ∃ x v, vs = [x, v] ∧ AtHall K c x H fun a f n p s nts => nts.length < 90000 ∧
  ((BadRow K H s v ∧ ∀ H2, Mut [a, f, n] H H2 → Q (.bl false) H2) ∨
    ∃ nt, NoteAt K H v nt ∧ okN s nt ∧ ∀ p2 H2, Mut [a, f, n] H H2 → (p2 = p ∨ H p2 = none) → HallAt K c.hall H2 a f n p2 (nxt s nt) (nts ++ [nt]) → Q (.bl true) H2)
def sp_k13_replayed (K : PySem.W.Frag) (c : Cs) : Sp := fun vs H Q E => ∃ x, vs = [x] ∧ (
  ((∃ T, TyX K H x (.type T) ∧ kitB T "list" = some false) ∧ RetX c.nolog [("row", .int 0)] H E) ∨
  ∃ l xs, x = .ref l ∧ SqL K H l xs ∧ xs.length < 90000 ∧ (∀ y ∈ xs, IsD K H y) ∧ ((xs = [] ∧ RetX c.nolog [("row", .int 0)] H E) ∨ (∃ v rest, xs = v :: rest ∧ BadFirst K H v ∧ RetX c.nolog [("row", .int 0)] H E) ∨
    (∃ k nts s v, 1 ≤ k ∧ NotesAt K H (xs.take k) nts ∧ LogOf nts s ∧ xs[k]? = some v ∧ BadRow K H s v ∧ RetX c.nolog [("row", .int (k : Int))] H E) ∨
    ∃ nts s, NotesAt K H xs nts ∧ LogOf nts s ∧ RetH K c s nts H Q))
structure Ex13 (K : PySem.W.Frag) (c : Cs) : Prop where
  rt : PySem.W.exmOne K (.ref c.norow) (.ref c.toss) = some true
  ct : PySem.W.exmOne K (.ref c.clash) (.ref c.toss) = some true
  wt : PySem.W.exmOne K (.ref c.noway) (.ref c.toss) = some true
  ll : PySem.W.exmOne K (.ref c.nolog) (.ref c.nolog) = some true
/-- is_change: slots row -/
def t_k13_is_change (K : PySem.W.Frag) (c : Cs) (E : XK) : TS :=
  (tRet (tAndV (tCB (cIsi K) (tCons (tVar 0) (tCons (tC (.ty "tuple")) tNil))) (tAndV (tOp (xEq K) (tCB (cLen K) (tCons (tVar 0) tNil)) (tC (.int 2))) (tOp (xEq K) (tOp (rIx K) (tVar 0) (tC (.int 0))) (tC (.str "change"))))))

/-- begun: slots log, first, hall -/
def t_k13_begun (K : PySem.W.Frag) (c : Cs) (E : XK) : TS :=
  (tSeq (tIfS (tOr (tNot (tB (tCB (cIsi K) (tCons (tVar 0) (tCons (tC (.ty "list")) tNil))))) (tTest (tOp (xEq K) (tVar 0) (tLst tNil)))) (tRaise1 c.nolog "row" (fun cls d _ H => E cls d H) (tCons (tC (.int 0)) tNil)) tNext)
  (tSeq (tAsg (tOp (rIx K) (tVar 0) (tC (.int 0))) (gName 1))
  (tSeq (tIfS (tOr (tNot (tB (tCB (cIsi K) (tCons (tVar 1) (tCons (tC (.ty "tuple")) tNil))))) (tOr (tTest (tOp (xNe K) (tCB (cLen K) (tCons (tVar 1) tNil)) (tC (.int 2)))) (tOr (tTest (tOp (xNe K) (tOp (rIx K) (tVar 1) (tC (.int 0))) (tC (.str "begin")))) (tNot (tB (tCB (cIsi K) (tCons (tOp (rIx K) (tVar 1) (tC (.int 1))) (tCons (tC (.ty "tuple")) tNil)))))))) (tRaise1 c.nolog "row" (fun cls d _ H => E cls d H) (tCons (tC (.int 0)) tNil)) tNext)
  (fun D σ H => (fun W => (tAsg (tMakeS c.hall (sp_h_init K c) (WE W) (tCons (tOp (rIx K) (tVar 1) (tC (.int 1))) tNil)) (gName 2))) (wYes K (.ref c.toss) (fun a cls d => (tRaise1 c.nolog "row" (fun cls d _ H => E cls d H) (tCons (tC (.int 0)) tNil))) D) { D with nx := (tRet (tVar 2)) D } σ H))))

/-- done_again: slots hall, row -/
def t_k13_done_again (K : PySem.W.Frag) (c : Cs) (E : XK) : TS :=
  (tSeq (tIfS (tAnd (tB (tCall (sp_k13_is_change K c) [] E0 (tCons (tVar 1) tNil))) (tB (tCB (cIsi K) (tCons (tOp (rIx K) (tVar 1) (tC (.int 1))) (tCons (tC (.ty "tuple")) tNil))))) (fun D σ H => (fun W => (tDrop (tMethS c.hall "change" (sp_h_change K c) (WE W) (tVar 0) (tCons (tOp (rIx K) (tVar 1) (tC (.int 1))) tNil)))) (wMix K (fun _ _ _ _ => False) D [((.ref c.toss), none, fun a cls d => (tRet (tC (.bl false))))]) { D with nx := (tRet (tC (.bl true))) D } σ H) tNext)
  (tSeq (tIfS (tOr (tNot (tB (tCB (cIsi K) (tCons (tVar 1) (tCons (tC (.ty "tuple")) tNil))))) (tOr (tTest (tOp (xNe K) (tCB (cLen K) (tCons (tVar 1) tNil)) (tC (.int 3)))) (tTest (tOp (xNe K) (tOp (rIx K) (tVar 1) (tC (.int 0))) (tC (.str "step")))))) (tRet (tC (.bl false))) tNext)
  (tSeq (tIfS (tOr (tB (tCB (cIsi K) (tCons (tOp (rIx K) (tVar 1) (tC (.int 1))) (tCons (tC (.ty "bool")) tNil)))) (tB (tCB (cIsi K) (tCons (tOp (rIx K) (tVar 1) (tC (.int 2))) (tCons (tC (.ty "bool")) tNil))))) (tRet (tC (.bl false))) tNext)
  (tRet (tOp (xEq K) (tSl (xSl K) (tMeth c.hall "step" (sp_h_step K c) [] E0 (tVar 0) tNil) (tPart (tC (.int 1))) tNoPart) (tSl (xSl K) (tVar 1) (tPart (tC (.int 1))) tNoPart))))))

/-- replayed: slots log, hall, number, row -/
def t_k13_replayed (K : PySem.W.Frag) (c : Cs) (E : XK) : TS :=
  (tSeq (tAsg (tCall (sp_k13_begun K c) [] E (tCons (tVar 0) tNil)) (gName 1))
  (tSeq (tFor (iEnumQ K (tCons (tVar 0) tNil)) (gTup K 2 (gCons (gName 2) (gCons (gName 3) gNil))) (tIfS (tAnd (tTest (tOp xGt (tVar 2) (tC (.int 0)))) (tNot (tB (tCall (sp_k13_done_again K c) [] E0 (tCons (tVar 1) (tCons (tVar 3) tNil)))))) (tRaise1 c.nolog "row" (fun cls d _ H => E cls d H) (tCons (tVar 2) tNil)) tNext))
  (tRet (tVar 1))))

section
variable {K : PySem.W.Frag} {c : Cs} {vs : List V} {H : Hp} {Q : VK} {E : XK}
theorem ev_notTup {σ : L2.St} {ta : TE} {v : V} (ha : Ev ta σ H v) (h : NotTup K H v) : Ev (tCB (cIsi K) (tCons ta (tCons (tC (.ty "tuple")) tNil))) σ H (.bl false) := let ⟨_, a, b⟩ := h; ev_isi ha a b
theorem ev_isTup {σ : L2.St} {ta : TE} {t : Addr} {ys : List V} (ha : Ev ta σ H (.ref t)) (h : SqT K H t ys) : Ev (tCB (cIsi K) (tCons ta (tCons (tC (.ty "tuple")) tNil))) σ H (.bl true) := ev_isi ha (tyx_t h) (by decide +kernel)
theorem ev_lenT {σ : L2.St} {ta : TE} {t : Addr} {ys : List V} (ha : Ev ta σ H (.ref t)) (h : SqT K H t ys) : Ev (tCB (cLen K) (tCons ta tNil)) σ H (.int (ys.length : Int)) := ev_lenQ (evq_of ha (.inr h))
theorem pure_k13_is_change (h : sp_k13_is_change K c vs H Q E) : t_k13_is_change K c E { nx := fun _ H' => Q .non H', rt := Q } (start ["row"] vs) H := by
  obtain ⟨v, rfl, ⟨hb, q⟩ | ⟨t, ys, rfl, ht, h⟩⟩ := h
  · exact s_ret (v := .bl false) (ev_is (ev_andV (b := false) (ev_notTup (ev_var (i := 0) rfl) hb) (fun z => nomatch z)) rfl) q
  · rcases h with ⟨hl, q⟩ | ⟨w, y, rfl, q⟩
    · refine s_ret (v := .bl false) (ev_is (ev_andV (b := false) (ev_isTup (ev_var (i := 0) rfl) ht) fun _ => ev_is (ev_andV (a := false) (b := false) (ev_is (ev_op (ev_lenT (ev_var (i := 0) rfl) ht) ev_c rv_eqI) ?_) (fun z => nomatch z)) rfl) rfl) q
      rw [decide_eq_false (fun z => hl (by omega))]
    · refine s_ret (v := .bl (decide (w = "change"))) (ev_is (ev_andV (b := decide (w = "change")) (ev_isTup (ev_var (i := 0) rfl) ht) fun _ => ev_is (ev_andV (a := true) (b := decide (w = "change")) (ev_is (ev_op (ev_lenT (ev_var (i := 0) rfl) ht) ev_c rv_eqI) rfl) fun _ => ?_) (by rw [Bool.true_and])) (by rw [Bool.true_and])) q
      refine ev_is (ev_op (ev_ix (i := 0) (evq_of (ev_var (i := 0) rfl) (.inr ht)) (fun _ _ => ev_c) rfl) ev_c (rv_eqV rfl)) ?_
      congr 1
      exact decide_eq_decide.mpr ⟨fun z => V.str.inj z, fun z => by rw [z]⟩
end
end Tr

/-! Law k13: begun, done_again, replayed. -/
namespace Tr
open PySem L2 PySem.Spec PyProof.Rows Evl

section
variable {K : PySem.W.Frag} {c : Cs} {vs : List V} {H : Hp} {Q : VK} {E : XK}
theorem cut_whole {xs : List V} {lo hi : Option Int} (h : HT.sIx xs.length 0 lo = 0 ∧ HT.sIx xs.length xs.length hi = xs.length) : cutV xs lo hi = xs := by
  unfold cutV
  rw [h.1, h.2, List.drop_zero, Nat.sub_zero, List.take_of_length_le (Nat.le_refl _)]
/-- a slice of a tuple -/
theorem evw_sl {σ : L2.St} {te : TE} {tl th : TO} {xs : List V} {lo hi : Option Int} (h : EvW K te σ H xs) (h1 : EvO tl σ H lo) (h2 : EvO th σ H hi) : EvW K (tSl (xSl K) te tl th) σ H (cutV xs lo hi) := fun H1 e Q q =>
  h H1 e _ fun a H2 e2 hs => h1 H2 (e.trans e2) _ fun H3 e3 => h2 H3 ((e.trans e2).trans e3) _ fun H4 e4 => .inr (.inl ⟨a, xs, rfl, ex_t (e3.trans e4) hs,
    fun z => q a H4 ((e2.trans e3).trans e4) (by rw [cut_whole z]; exact ex_t (e3.trans e4) hs), fun _ p hp => q p _ (((e2.trans e3).trans e4).trans (Ex.new hp)) (SqT.of upd_same)⟩)
/-- raise C(v) -/
theorem raise1_x {σ : L2.St} {te : TE} {D : Ends} {C : Addr} {v : V} (q : RetX C [("row", v)] H E) (hv : Ev te σ H v) : tRaise1 C "row" (fun cls d _ H => E cls d H) (tCons te tNil) D σ H :=
  hv H (Ex.refl _) _ fun H1 e => ⟨v, rfl, fun d hd => q d _ (fresh_of e hd) (e.trans (Ex.new hd)) upd_same⟩
theorem retX_up {C : Addr} {fs : List (Str × V)} {H' : Hp} (e : Ex H H') (q : RetX C fs H E) : RetX C fs H' E := fun d H2 hd e2 h2 => q d H2 (fresh_of e hd) (e.trans e2) h2
theorem atI_one {α : Type} {x y : α} {xs : List α} : atI (x :: y :: xs) 1 = some y := by
  have h : (1 : Int) < xs.length + 1 + 1 := by omega
  simp [atI, ixN, h]
theorem pure_k13_begun (N : Ex13 K c) (h : sp_k13_begun K c vs H Q E) : t_k13_begun K c E { nx := fun _ H' => Q .non H', rt := Q } (start ["log", "first", "hall"] vs) H := by
  obtain ⟨x, rfl, ⟨⟨T, hT, hk⟩, q⟩ | ⟨l, xs, rfl, hl, h⟩⟩ := h
  · exact q_when (et_or (b := false) (et_not (et_B (ev_isi (ev_var (i := 0) rfl) hT hk))) fun z => nomatch z) (fun _ H1 e1 => raise1_x (retX_up e1 q) ev_c) fun z => nomatch z
  have isl : Ev (tCB (cIsi K) (tCons (tVar 0) (tCons (tC (.ty "list")) tNil))) (start ["log", "first", "hall"] [V.ref l]) H (.bl true) := ev_isi (ev_var (i := 0) rfl) (tyx_l hl) (by decide +kernel)
  have nil_ : ∀ {σ : L2.St} {H' : Hp}, EvD K (tLst tNil) σ H' (.list []) := evd_l (evs_new (el_lst ea_nil (by decide))) .nil
  have fl0 : Flat 1 (.list []) := flat_list fun d hd => absurd hd List.not_mem_nil
  rcases h with ⟨rfl, q⟩ | ⟨v, rest, rfl, hd, h⟩
  · refine q_when (b := true) (et_is (et_or (et_not (et_B isl)) fun _ => et_test (ev_eqD (evd_l (evs_of (ev_var (i := 0) rfl) hl) .nil) nil_ (fl0.shaped (by decide)) (fl0.shaped (by decide)))) (by rw [eqv_nil]; rfl)) (fun _ H1 e1 => raise1_x (retX_up e1 q) ev_c) fun z => nomatch z
  obtain ⟨ds, hds, hfl⟩ := isD_all hd
  have fl : Flat 11 (.list ds) := flat_list hfl
  have hne : PyData.eqv (.list ds) (.list []) = false := by
    cases hds with
    | cons a b =>
      rw [eqv_nil]
      rfl
  refine q_when (b := false) (et_is (et_or (et_not (et_B isl)) fun _ => et_test (ev_eqD (evd_l (evs_of (ev_var (i := 0) rfl) hl) hds) nil_ (fl.shaped (by decide)) (fl0.shaped (by decide)))) (by rw [hne]; rfl)) (fun z => nomatch z) fun _ H1 e1 => ?_
  have hl1 := ex_l e1 hl
  refine q_asg (v := v) (ev_ix (i := 0) (evq_of (ev_var (i := 0) rfl) (.inl hl1)) (fun _ _ => ev_c) atI_zero) fun H2 e2 => ?_
  have e12 := e1.trans e2
  have hv : ∀ {H' : Hp}, Ev (tVar 1) [some (.ref l), some v, none] H' v := ev_var rfl
  -- the try
  have tr : ∀ (t : Addr) (y : V) (H3 : Hp), Ex H H3 → v = .ref t → SqT K H3 t [.str "begin", y] → Need K c y H3 (fun cls d H' => wYes K (.ref c.toss) (fun a cls d => (tRaise1 c.nolog "row" (fun cls d _ H => E cls d H) (tCons (tC (.int 0)) tNil))) { nx := fun _ H' => Q .non H', rt := Q } cls d [some (.ref l), some v, none] H') (fun ns => RetH K c (initS ns) [.beg ns] H3 Q) →
      (fun D σ H => (fun W => (tAsg (tMakeS c.hall (sp_h_init K c) (WE W) (tCons (tOp (rIx K) (tVar 1) (tC (.int 1))) tNil)) (gName 2))) (wYes K (.ref c.toss) (fun a cls d => (tRaise1 c.nolog "row" (fun cls d _ H => E cls d H) (tCons (tC (.int 0)) tNil))) D) { D with nx := (tRet (tVar 2)) D } σ H) { nx := fun _ H' => Q .non H', rt := Q } [some (.ref l), some v, none] H3 := by
    rintro t y H3 e3 rfl ht hn
    refine (ev_ix (K := K) (σ := [some (.ref l), some (.ref t), none]) (ta := tVar 1) (tb := tC (.int 1)) (i := 1) (evq_of (ev_var (i := 1) rfl) (.inr ht)) (fun _ _ => ev_c) atI_one) H3 (Ex.refl _) _ fun H4 e4 => ?_
    intro a dx ha hdx hne2
    have eN : Ex H4 (upd (upd H4 dx (.own a)) a (.ins c.hall dx [])) := (Ex.new hdx).trans (Ex.new (by rw [upd_ne (Ne.symm hne2)]; exact ha))
    refine ⟨a, dx, y, rfl, upd_same, need_up (e4.trans eN) hn fun ns hr hg hc hq f n p H5 m5 hf hn5 hp hA => ⟨rfl, ?_⟩⟩
    have e5 : Ex H4 H5 := fun b o hb => m5 b o (eN _ _ hb) (.inl (by
      intro z
      rw [List.mem_singleton.mp z, ha] at hb
      cases hb))
    refine s_ret (v := .ref a) (ev_var (i := 2) rfl) fun H6 e6 => ?_
    have e46 := e4.trans (e5.trans e6)
    refine hq a f n p H6 e46 (fresh_of e4 ha) (fresh_of (e4.trans eN) hf) (fresh_of (e4.trans eN) hn5) (fresh_of (e4.trans eN) hp) (hA.ex e6)
  rcases h with ⟨hb, q⟩ | ⟨ns, hnote, hg, hc, q⟩
  · have hb2 := badFirst_ex e12 hb
    have q2 := retX_up e12 q
    cases hb2 with
    | no h =>
      exact q_when (b := true) (et_or (b := false) (et_not (et_B (ev_notTup hv h))) fun z => nomatch z) (fun _ H3 e3 => raise1_x (retX_up e3 q2) ev_c) fun z => nomatch z
    | len t ys e1' h h2 =>
      subst e1'
      refine q_when (b := true) (et_is (et_or (et_not (et_B (ev_isTup hv h))) fun _ => et_or (a := true) (b := false) (et_is (et_test (ev_op (ev_lenT hv h) ev_c rv_neI)) ?_) fun z => nomatch z) rfl) (fun _ H3 e3 => raise1_x (retX_up e3 q2) ev_c) fun z => nomatch z
      rw [decide_eq_false (fun z => h2 (by omega))]
      rfl
    | two t w y e1' h hw =>
      subst e1'
      refine q_when (b := true) (et_is (et_or (et_not (et_B (ev_isTup hv h))) fun _ => et_or (a := false) (et_is (et_test (ev_op (ev_lenT hv h) ev_c rv_neI)) rfl) fun _ => et_or (a := true) (b := false) (et_is (et_test (ev_op (ev_ix (i := 0) (evq_of hv (.inr h)) (fun _ _ => ev_c) atI_zero) ev_c (rv_neV rfl))) ?_) fun z => nomatch z) rfl) (fun _ H3 e3 => raise1_x (retX_up e3 q2) ev_c) fun z => nomatch z
      rw [decide_eq_false (fun z => hw (V.str.inj z))]
      rfl
    | beg t y e1' h hy =>
      subst e1'
      rcases hy with hy | ⟨⟨u, ys, rfl, hu⟩, hy⟩
      · refine q_when (b := true) (et_is (et_or (et_not (et_B (ev_isTup hv h))) fun _ => et_or (a := false) (et_is (et_test (ev_op (ev_lenT hv h) ev_c rv_neI)) rfl) fun _ => et_or (a := false) (et_is (et_test (ev_op (ev_ix (i := 0) (evq_of hv (.inr h)) (fun _ _ => ev_c) atI_zero) ev_c (rv_neV rfl))) (by simp)) fun _ => et_not (et_B (ev_notTup (ev_ix (i := 1) (evq_of hv (.inr h)) (fun _ _ => ev_c) atI_one) hy))) rfl) (fun _ H3 e3 => raise1_x (retX_up e3 q2) ev_c) fun z => nomatch z
      · refine q_when (b := false) (et_is (et_or (et_not (et_B (ev_isTup hv h))) fun _ => et_or (a := false) (et_is (et_test (ev_op (ev_lenT hv h) ev_c rv_neI)) rfl) fun _ => et_or (a := false) (et_is (et_test (ev_op (ev_ix (i := 0) (evq_of hv (.inr h)) (fun _ _ => ev_c) atI_zero) ev_c (rv_neV rfl))) (by simp)) fun _ => et_not (et_B (ev_isTup (ev_ix (i := 1) (evq_of hv (.inr h)) (fun _ _ => ev_c) atI_one) hu))) rfl) (fun z => nomatch z) fun _ H3 e3 => ?_
        refine tr t (.ref u) H3 (e12.trans e3) rfl (ex_t e3 h) ?_
        rcases hy with hy | ⟨ns, hr, hg, hc⟩
        · exact .inl ⟨bad_ex e3 hy, fun H4 e4 => ⟨N.rt, fun a ha => raise1_x (retX_up (e3.trans e4) q2) ev_c⟩⟩
        · cases hcl : clashF ns with
          | none => exact absurd hcl hc
          | some ij =>
            obtain ⟨i, j⟩ := ij
            exact .inr ⟨ns, row_ex e3 hr, hg, .inl ⟨i, j, hcl, fun d H4 hd e4 h4 => ⟨N.ct, fun a ha => raise1_x (retX_up (e3.trans e4) q2) ev_c⟩⟩⟩
  · obtain ⟨t, u, rfl, h, hu⟩ := hnote
    have h2 : SqT K H2 t [.str "begin", .ref u] := SqT.of (e12 _ _ h)
    have hu2 := ex_t e12 hu
    refine q_when (b := false) (et_is (et_or (et_not (et_B (ev_isTup hv h2))) fun _ => et_or (a := false) (et_is (et_test (ev_op (ev_lenT hv h2) ev_c rv_neI)) rfl) fun _ => et_or (a := false) (et_is (et_test (ev_op (ev_ix (i := 0) (evq_of hv (.inr h2)) (fun _ _ => ev_c) atI_zero) ev_c (rv_neV rfl))) (by simp)) fun _ => et_not (et_B (ev_isTup (ev_ix (i := 1) (evq_of hv (.inr h2)) (fun _ _ => ev_c) atI_one) hu2))) rfl) (fun z => nomatch z) fun _ H3 e3 => ?_
    refine tr t (.ref u) H3 (e12.trans e3) rfl (ex_t e3 h2) (.inr ⟨ns, ⟨u, rfl, .inr (ex_t e3 hu2)⟩, hg, .inr ⟨hc, fun a f n p H4 e4 h1 h2 h3 h4 hA => ?_⟩⟩)
    have e13 := e12.trans e3
    exact q a f n p H4 (e13.trans e4) (fresh_of e13 h1) (fresh_of e13 h2) (fresh_of e13 h3) (fresh_of e13 h4) hA
end
end Tr

/-! Law k13: a row done again; a log replayed. -/
namespace Tr
open PySem L2 PySem.Spec PyProof.Rows Evl

def IsChg (K : PySem.W.Frag) (H : Hp) (v : V) (b : Bool) : Prop := (NotTup K H v ∧ b = false) ∨ ∃ t ys, v = .ref t ∧ SqT K H t ys ∧ ((ys.length ≠ 2 ∧ b = false) ∨ ∃ w y, ys = [.str w, y] ∧ b = decide (w = "change"))
theorem eqv_th (a b : Option Int) : PyData.eqv (dTh a) (dTh b) = decide (b = a) := by
  cases a <;> cases b <;> simp [dTh, PyData.eqv, eq_comm] <;> rw [Bool.eq_iff_iff] <;> simp
section
variable {K : PySem.W.Frag} {c : Cs} {vs : List V} {H : Hp} {Q : VK} {E : XK}
theorem ev_is_change {σ : L2.St} {ta : TE} {v : V} {b : Bool} (ha : Ev ta σ H v) (h : IsChg K H v b) : Ev (tCall (sp_k13_is_change K c) [] E (tCons ta tNil)) σ H (.bl b) :=
  ev_call (ea_cons ha ea_nil) fun H1 e1 Q' q' _ => ⟨v, rfl, by
    rcases h with ⟨hn, rfl⟩ | ⟨t, ys, rfl, ht, h⟩
    · exact .inl ⟨notTup_ex e1 hn, q'⟩
    · rcases h with ⟨hl, rfl⟩ | ⟨w, y, rfl, rfl⟩
      · exact .inr ⟨t, ys, rfl, ex_t e1 ht, .inl ⟨hl, q'⟩⟩
      · exact .inr ⟨t, _, rfl, ex_t e1 ht, .inr ⟨w, y, rfl, q'⟩⟩⟩
theorem told_mix {σ : L2.St} {cls : Value} {D : Ends} {cc : Value} {ts : Addr → Value → Option Addr → TS} {Wout : WX} {d : Option Addr} (hm : PySem.W.exmOne K cls cc = some true) (k : ∀ a, H a = none → ts a cls d D σ H) : wMix K Wout D [(cc, none, ts)] cls d σ H :=
  ⟨true, hm, fun _ => k, fun z => nomatch z⟩
theorem thV_plain (y : Option Int) : Plain (thV y) := by
  cases y with
  | none => exact .inr (.inr (.inl rfl))
  | some i => exact .inl ⟨i, rfl⟩
/-- isinstance(x, bool) -/
theorem ev_isBoolP {σ : L2.St} {ta : TE} {x : V} (ha : Ev ta σ H x) (hp : Plain x) : Ev (tCB (cIsi K) (tCons ta (tCons (tC (.ty "bool")) tNil))) σ H (.bl (match x with | .bl _ => true | _ => false)) := by
  rcases hp with ⟨i, rfl⟩ | ⟨b, rfl⟩ | rfl | ⟨w, rfl⟩
  · exact ev_isi ha (.base (.int i)) (show kitB "int" "bool" = some false by decide +kernel)
  · exact ev_isi ha (.base (.bl b)) (show kitB "bool" "bool" = some true by decide +kernel)
  · exact ev_isi ha (.base .non) (show kitB "NoneType" "bool" = some false by decide +kernel)
  · exact ev_isi ha (.base (.str w)) (show kitB "str" "bool" = some false by decide +kernel)
theorem atI_two {α : Type} {x y z : α} : atI [x, y, z] 2 = some z := by simp [atI, ixN]
theorem ex_mut {W : List Addr} {H1 H2 : Hp} (e : Ex H H1) (m : Mut W H1 H2) (hW : ∀ x ∈ W, H x = none) : Ex H H2 := fun b o hb => m b o (e b o hb) (.inl fun hm => by
  rw [hW b hm] at hb
  cases hb)
theorem pure_k13_done_again (N : Ex13 K c) (h : sp_k13_done_again K c vs H Q E) : t_k13_done_again K c E { nx := fun _ H' => Q .non H', rt := Q } (start ["hall", "row"] vs) H := by
  obtain ⟨x, v, rfl, a, f, n, p, s, nts, rfl, hA, I, hnt, h⟩ := h
  have hv : ∀ {H' : Hp}, Ev (tVar 1) (start ["hall", "row"] [V.ref a, v]) H' v := ev_var rfl
  have noC : IsChg K H v false → EvT (tAnd (tB (tCall (sp_k13_is_change K c) [] E0 (tCons (tVar 1) tNil))) (tB (tCB (cIsi K) (tCons (tOp (rIx K) (tVar 1) (tC (.int 1))) (tCons (tC (.ty "tuple")) tNil))))) (start ["hall", "row"] [V.ref a, v]) H false := fun hc =>
    et_is (et_and (a := false) (b := false) (et_B (ev_is_change hv hc)) fun z => nomatch z) rfl
  have len3 : ∀ {t : Addr} {ys : List V} {H' : Hp}, v = .ref t → SqT K H' t ys → EvT (tTest (tOp (xNe K) (tCB (cLen K) (tCons (tVar 1) tNil)) (tC (.int 3)))) (start ["hall", "row"] [V.ref a, v]) H' (!decide (ys.length = 3)) := fun {t ys H'} e ht => by
    subst e
    refine et_is (et_test (ev_op (ev_lenT hv ht) ev_c rv_neI)) ?_
    rw [decide_eq_decide.mpr (show (ys.length : Int) = 3 ↔ ys.length = 3 by omega)]
  have steps : ∀ (y : Option Int) (z : Int) (t : Addr), v = .ref t → SqT K H t [.str "step", thV y, .int z] →
      (∀ p2 H2, Mut [a, f, n] H H2 → (p2 = p ∨ H p2 = none) → HallAt K c.hall H2 a f n p2 (stepS s) (nts ++ [.stp (thingS s) (nextH s)]) → Q (.bl (decide (y = thingS s ∧ z = nextH s))) H2) →
      t_k13_done_again K c E { nx := fun _ H' => Q .non H', rt := Q } (start ["hall", "row"] [V.ref a, v]) H := by
    rintro y z t rfl ht q
    refine q_when (noC (.inr ⟨t, _, rfl, ht, .inl ⟨by show ¬ (3 = 2); decide, rfl⟩⟩)) (fun z => nomatch z) fun _ H1 e1 => ?_
    have ht1 := ex_t e1 ht
    refine q_when (b := false) (et_is (et_or (a := false) (et_is (et_not (et_B (ev_isTup hv ht1))) rfl) fun _ => et_or (a := false) (et_is (len3 rfl ht1) (by rfl)) fun _ => et_is (et_test (ev_op (ev_ix (i := 0) (evq_of hv (.inr ht1)) (fun _ _ => ev_c) atI_zero) ev_c (rv_neV rfl))) (by simp)) rfl) (fun z => nomatch z) fun _ H2 e2 => ?_
    have ht2 := ex_t e2 ht1
    refine q_when (b := false) (et_is (et_or (a := false) (et_B (ev_is (ev_isBoolP (ev_ix (i := 1) (evq_of hv (.inr ht2)) (fun _ _ => ev_c) atI_one) (thV_plain y)) (by cases y <;> rfl))) fun _ => et_B (ev_is (ev_isBoolP (ev_ix (i := 2) (evq_of hv (.inr ht2)) (fun _ _ => ev_c) atI_two) (.inl ⟨z, rfl⟩)) rfl)) rfl) (fun z => nomatch z) fun _ H3 e3 => ?_
    have ht3 := ex_t e3 ht2
    have e03 := (e1.trans e2).trans e3
    have hA3 := hA.ex e03
    obtain ⟨dx, tt, ws, o, w⟩ := hA3
    refine ⟨.ref a, rfl, a, dx, _, rfl, o.ha, rfl, _, rfl, a, f, n, p, s, nts, rfl, ⟨dx, tt, ws, o, w⟩, I, hnt, fun T p2 H4 m4 hp2 hT hT4 hA4 => ?_⟩
    have m04 : Mut [a, f, n] H H4 := (Mut.of e03).trans m4
    refine (evw_sl (K := K) (σ := start ["hall", "row"] [V.ref a, V.ref t]) (te := tC (.ref T)) (tl := tPart (tC (.int 1))) (th := tNoPart) (lo := some 1) (hi := none) (evw_of ev_c (SqT.of hT4)) (eo_some ev_c) eo_none) H4 (Ex.refl _) _ fun A H5 e5 hA5 => ?_
    refine (evw_sl (K := K) (σ := start ["hall", "row"] [V.ref a, V.ref t]) (te := tVar 1) (tl := tPart (tC (.int 1))) (th := tNoPart) (lo := some 1) (hi := none) (evw_of (ev_var (i := 1) rfl) (ex_t e5 (m4.sqT ht3))) (eo_some ev_c) eo_none) H5 (Ex.refl _) _ fun B H6 e6 hB6 => ?_
    have hA6 : SqT K H6 A [thV (thingS s), .int (nextH s)] := ex_t e6 hA5
    have hB6 : SqT K H6 B [thV y, .int z] := hB6
    have fl : ∀ (o : Option Int) (k : Int), Flat 1 (.tuple [dTh o, .int k]) := fun o k => flat_tuple fun d hd => by
      rcases List.mem_cons.mp hd with rfl | hd
      · exact flat_th o
      · rw [List.mem_singleton.mp hd]
        exact flat_int
    refine .inr ⟨.tuple [dTh (thingS s), .int (nextH s)], .tuple [dTh y, .int z], .tup hA6 (.cons (dp_th _) (.cons (.int _) .nil)), .tup hB6 (.cons (dp_th _) (.cons (.int _) .nil)), (fl _ _).shaped (by decide), (fl _ _).shaped (by decide), ?_⟩
    have ev : PyData.eqv (.tuple [dTh (thingS s), .int (nextH s)]) (.tuple [dTh y, .int z]) = decide (y = thingS s ∧ z = nextH s) := by
      simp only [PyData.eqv, PyData.eqvAll, eqv_th, Bool.and_true]
      rw [Bool.decide_and]
      congr 1
      exact decide_eq_decide.mpr ⟨fun h => h.symm, fun h => h.symm⟩
    rw [ev]
    have hp2' : p2 = p ∨ H p2 = none := hp2.imp id (fresh_of e03)
    exact q p2 H6 (m04.trans (Mut.of (e5.trans e6))) hp2' (hA4.ex (e5.trans e6))
  rcases h with ⟨hb, q⟩ | ⟨nt, hN, hok, q⟩
  · have fin : ∀ H', Ex H H' → Q (.bl false) H' := fun H' e => q H' (.of e)
    have out : ∀ {H1 : Hp}, Ex H H1 → (tRet (tC (.bl false))) { nx := (tSeq (tIfS (tOr (tB (tCB (cIsi K) (tCons (tOp (rIx K) (tVar 1) (tC (.int 1))) (tCons (tC (.ty "bool")) tNil)))) (tB (tCB (cIsi K) (tCons (tOp (rIx K) (tVar 1) (tC (.int 2))) (tCons (tC (.ty "bool")) tNil))))) (tRet (tC (.bl false))) tNext)
  (tRet (tOp (xEq K) (tSl (xSl K) (tMeth c.hall "step" (sp_h_step K c) [] E0 (tVar 0) tNil) (tPart (tC (.int 1))) tNoPart) (tSl (xSl K) (tVar 1) (tPart (tC (.int 1))) tNoPart)))) { nx := fun _ H' => Q .non H', rt := Q }, rt := Q } (start ["hall", "row"] [V.ref a, v]) H1 := fun e => s_ret (v := .bl false) ev_c fun H2 e2 => fin H2 (e.trans e2)
    have two : ∀ {H1 : Hp} {t : Addr} {ys : List V}, Ex H H1 → v = .ref t → SqT K H1 t ys → ys.length ≠ 3 → EvT (tOr (tNot (tB (tCB (cIsi K) (tCons (tVar 1) (tCons (tC (.ty "tuple")) tNil))))) (tOr (tTest (tOp (xNe K) (tCB (cLen K) (tCons (tVar 1) tNil)) (tC (.int 3)))) (tTest (tOp (xNe K) (tOp (rIx K) (tVar 1) (tC (.int 0))) (tC (.str "step")))))) (start ["hall", "row"] [V.ref a, v]) H1 true := fun {H1 t ys} e ev ht hl => by
      have hv2 : ∀ {H' : Hp}, Ev (tVar 1) (start ["hall", "row"] [V.ref a, v]) H' (.ref t) := by rw [← ev]; exact hv
      exact et_is (et_or (a := false) (et_is (et_not (et_B (ev_isTup hv2 ht))) rfl) fun _ => et_or (a := true) (b := false) (et_is (len3 ev ht) (by rw [decide_eq_false hl]; rfl)) fun z => nomatch z) rfl
    cases hb with
    | no h =>
      refine q_when (noC (.inl ⟨h, rfl⟩)) (fun z => nomatch z) fun _ H1 e1 => ?_
      exact q_when (b := true) (et_is (et_or (a := true) (b := false) (et_is (et_not (et_B (ev_notTup hv (notTup_ex e1 h)))) rfl) fun z => nomatch z) rfl) (fun _ H2 e2 => out (e1.trans e2)) fun z => nomatch z
    | len t ys e h h2 h3 =>
      refine q_when (noC (.inr ⟨t, ys, e, h, .inl ⟨h2, rfl⟩⟩)) (fun z => nomatch z) fun _ H1 e1 => ?_
      exact q_when (two e1 e (ex_t e1 h) h3) (fun _ H2 e2 => out (e1.trans e2)) fun z => nomatch z
    | two t w y e h hw =>
      refine q_when (noC (.inr ⟨t, _, e, h, .inr ⟨w, y, rfl, (decide_eq_false hw).symm⟩⟩)) (fun z => nomatch z) fun _ H1 e1 => ?_
      exact q_when (two e1 e (ex_t e1 h) (by show ¬ (2 = 3); decide)) (fun _ H2 e2 => out (e1.trans e2)) fun z => nomatch z
    | chg t y e h hy =>
      have hv2 : ∀ {H' : Hp}, Ev (tVar 1) (start ["hall", "row"] [V.ref a, v]) H' (.ref t) := by rw [← e]; exact hv
      have hc : IsChg K H v true := .inr ⟨t, _, e, h, .inr ⟨"change", y, rfl, rfl⟩⟩
      have hrow : ∀ {H' : Hp}, Ex H H' → Ev (tOp (rIx K) (tVar 1) (tC (.int 1))) (start ["hall", "row"] [V.ref a, v]) H' y := fun e' => ev_ix (i := 1) (evq_of hv2 (.inr (ex_t e' h))) (fun _ _ => ev_c) atI_one
      rcases hy with hy | ⟨⟨u, ys, rfl, hu⟩, hy⟩
      · refine q_when (b := false) (et_is (et_and (a := true) (b := false) (et_B (ev_is_change hv hc)) fun _ => et_B (ev_notTup (hrow (Ex.refl _)) hy)) rfl) (fun z => nomatch z) fun _ H1 e1 => ?_
        exact q_when (two e1 e (ex_t e1 h) (by show ¬ (2 = 3); decide)) (fun _ H2 e2 => out (e1.trans e2)) fun z => nomatch z
      · refine q_when (b := true) (et_is (et_and (a := true) (b := true) (et_B (ev_is_change hv hc)) fun _ => et_B (ev_isTup (hrow (Ex.refl _)) hu)) rfl) (fun _ H1 e1 => ?_) fun z => nomatch z
        obtain ⟨dx, tt, ws, o, w⟩ := hA.ex e1
        refine ⟨.ref a, rfl, a, dx, _, rfl, o.ha, rfl, hrow e1 H1 (Ex.refl _) _ fun H2 e2 => ⟨.ref a, .ref u, rfl, a, f, n, p, s, nts, rfl, HallAt.ex e2 ⟨dx, tt, ws, o, w⟩, I, hnt, ?_⟩⟩
        have e02 := e1.trans e2
        rcases hy with hy | ⟨ns, hr, hg, hcl⟩
        · exact .inl ⟨bad_ex e02 hy, fun H3 e3 => told_mix N.rt fun _ _ => s_ret (v := .bl false) ev_c fun H4 e4 => fin H4 ((e02.trans e3).trans e4)⟩
        · cases hcl' : clashF ns with
          | none => exact absurd hcl' hcl
          | some ij =>
            obtain ⟨i, j⟩ := ij
            exact .inr ⟨ns, row_ex e02 hr, hg, .inl ⟨i, j, hcl', fun d H3 hd e3 h3 => told_mix N.ct fun _ _ => s_ret (v := .bl false) ev_c fun H4 e4 => fin H4 ((e02.trans e3).trans e4)⟩⟩
    | thr t w y z e h hw =>
      have hv2 : ∀ {H' : Hp}, Ev (tVar 1) (start ["hall", "row"] [V.ref a, v]) H' (.ref t) := by rw [← e]; exact hv
      refine q_when (noC (.inr ⟨t, _, e, h, .inl ⟨by show ¬ (3 = 2); decide, rfl⟩⟩)) (fun z => nomatch z) fun _ H1 e1 => ?_
      have h1 := ex_t e1 h
      refine q_when (b := true) (et_is (et_or (a := false) (b := true) (et_is (et_not (et_B (ev_isTup hv2 h1))) rfl) fun _ => et_is (et_or (a := false) (b := true) (et_is (len3 e h1) (by rfl)) fun _ => et_is (et_test (ev_op (ev_ix (i := 0) (evq_of hv2 (.inr h1)) (fun _ _ => ev_c) atI_zero) ev_c (rv_neV rfl))) ?_) rfl) rfl) (fun _ H2 e2 => out (e1.trans e2)) fun z => nomatch z
      rw [decide_eq_false (fun z => hw (V.str.inj z))]
      rfl
    | bl t y z e h py pz hb =>
      have hv2 : ∀ {H' : Hp}, Ev (tVar 1) (start ["hall", "row"] [V.ref a, v]) H' (.ref t) := by rw [← e]; exact hv
      refine q_when (noC (.inr ⟨t, _, e, h, .inl ⟨by show ¬ (3 = 2); decide, rfl⟩⟩)) (fun z => nomatch z) fun _ H1 e1 => ?_
      have h1 := ex_t e1 h
      refine q_when (b := false) (et_is (et_or (a := false) (et_is (et_not (et_B (ev_isTup hv2 h1))) rfl) fun _ => et_or (a := false) (et_is (len3 e h1) (by rfl)) fun _ => et_is (et_test (ev_op (ev_ix (i := 0) (evq_of hv2 (.inr h1)) (fun _ _ => ev_c) atI_zero) ev_c (rv_neV rfl))) (by simp)) rfl) (fun z => nomatch z) fun _ H2 e2 => ?_
      have h2 := ex_t e2 h1
      refine q_when (b := true) (et_is (et_or (et_B (ev_isBoolP (ev_ix (i := 1) (evq_of hv2 (.inr h2)) (fun _ _ => ev_c) atI_one) py)) fun _ => et_B (ev_isBoolP (ev_ix (i := 2) (evq_of hv2 (.inr h2)) (fun _ _ => ev_c) atI_two) pz)) ?_) (fun _ H3 e3 => s_ret (v := .bl false) ev_c fun H4 e4 => fin H4 (((e1.trans e2).trans e3).trans e4)) fun z => nomatch z
      rcases hb with ⟨b, rfl⟩ | ⟨b, rfl⟩
      · rfl
      · cases y <;> rfl
    | stp t y z e h hne =>
      refine steps y z t e h fun p2 H2 m2 _ _ => ?_
      rw [decide_eq_false (fun w => hne.elim (fun k => k w.1) fun k => k w.2)]
      exact q H2 m2
  · cases nt with
    | beg ns => exact hok.elim
    | stp th hh =>
      obtain ⟨t, e, ht⟩ := hN
      obtain ⟨rfl, rfl⟩ := hok
      refine steps _ _ t e (SqT.of ht) fun p2 H2 m2 hp2 hA2 => ?_
      rw [decide_eq_true ⟨rfl, rfl⟩]
      exact q p2 H2 m2 hp2 hA2
    | chg ns =>
      obtain ⟨t, u, e, ht, hu⟩ := hN
      have h : SqT K H t [.str "change", .ref u] := SqT.of ht
      have hv2 : ∀ {H' : Hp}, Ev (tVar 1) (start ["hall", "row"] [V.ref a, v]) H' (.ref t) := by rw [← e]; exact hv
      have hc : IsChg K H v true := .inr ⟨t, _, e, h, .inr ⟨"change", .ref u, rfl, rfl⟩⟩
      have hrow : ∀ {H' : Hp}, Ex H H' → Ev (tOp (rIx K) (tVar 1) (tC (.int 1))) (start ["hall", "row"] [V.ref a, v]) H' (.ref u) := fun e' => ev_ix (i := 1) (evq_of hv2 (.inr (ex_t e' h))) (fun _ _ => ev_c) atI_one
      refine q_when (b := true) (et_is (et_and (a := true) (b := true) (et_B (ev_is_change hv hc)) fun _ => et_B (ev_isTup (hrow (Ex.refl _)) hu)) rfl) (fun _ H1 e1 => ?_) fun z => nomatch z
      obtain ⟨dx, tt, ws, o, w⟩ := hA.ex e1
      refine ⟨.ref a, rfl, a, dx, _, rfl, o.ha, rfl, hrow e1 H1 (Ex.refl _) _ fun H2 e2 => ⟨.ref a, .ref u, rfl, a, f, n, p, s, nts, rfl, HallAt.ex e2 ⟨dx, tt, ws, o, w⟩, I, hnt, ?_⟩⟩
      have e02 := e1.trans e2
      refine .inr ⟨ns, ⟨u, rfl, .inr (ex_t e02 hu)⟩, hok.1, .inr ⟨hok.2.1, .inr ⟨hok.2.2, fun p2 H3 m3 hp2 hA3 => ?_⟩⟩⟩
      have m03 : Mut [a, f, n] H H3 := (Mut.of e02).trans (m3.mono fun x hx => by simp at hx; rcases hx with rfl | rfl <;> simp)
      refine nx_mk ?_
      exact s_ret (v := .bl true) ev_c fun H4 e4 => q p2 H4 (m03.trans (Mut.of e4)) (.inr (fresh_of e02 hp2)) (hA3.ex e4)
theorem notes_take {xs : List V} {k : Nat} {nts : List Note} (hk : k ≤ xs.length) (h : NotesAt K H (xs.take k) nts) : nts.length = k := by
  rw [← h.1, List.length_take]
  omega
theorem notes_at {xs : List V} {k : Nat} {nts : List Note} {i : Nat} {v : V} (hk : k ≤ xs.length) (h : NotesAt K H (xs.take k) nts) (hi : i < k) (hv : xs[i]? = some v) : ∃ n, nts[i]? = some n ∧ NoteAt K H v n := by
  have hl := notes_take hk h
  have hi' : i < nts.length := by omega
  exact ⟨nts[i], List.getElem?_eq_getElem hi', h.2 i v _ (by rw [List.getElem?_take, if_pos hi]; exact hv) (List.getElem?_eq_getElem hi')⟩
theorem pure_k13_replayed (N : Ex13 K c) (h : sp_k13_replayed K c vs H Q E) : t_k13_replayed K c E { nx := fun _ H' => Q .non H', rt := Q } (start ["log", "hall", "number", "row"] vs) H := by
  obtain ⟨x, rfl, h⟩ := h
  refine ⟨x, rfl, x, rfl, ?_⟩
  have e1 : Ex H H := Ex.refl H
  rcases h with ⟨⟨T, hT, hk⟩, q⟩ | ⟨l, xs, rfl, hl, hlen, hD, h⟩
  · exact .inl ⟨⟨T, tyx_ex e1 hT, hk⟩, retX_up e1 q⟩
  refine .inr ⟨l, xs, rfl, ex_l e1 hl, ?_⟩
  have main : ∀ (m : Nat) (nts : List Note) (s : HS), 1 ≤ m → m ≤ xs.length → NotesAt K H (xs.take m) nts → LogOf nts s → ((m = xs.length ∧ RetH K c s nts H Q) ∨ ∃ v, xs[m]? = some v ∧ BadRow K H s v ∧ RetX c.nolog [("row", .int (m : Int))] H E) →
      (xs = [] ∧ RetX c.nolog [("row", .int 0)] H E) ∨ ∃ v rest, xs = v :: rest ∧ (∀ y ∈ xs, IsD K H y) ∧
    ((BadFirst K H v ∧ RetX c.nolog [("row", .int 0)] H E) ∨ ∃ ns, NoteAt K H v (.beg ns) ∧ Good ns ∧ clashF ns = none ∧ RetH K c (initS ns) [.beg ns] H (fun x H2 => (tSeq (tFor (iEnumQ K (tCons (tVar 0) tNil)) (gTup K 2 (gCons (gName 2) (gCons (gName 3) gNil))) (tIfS (tAnd (tTest (tOp xGt (tVar 2) (tC (.int 0)))) (tNot (tB (tCall (sp_k13_done_again K c) [] E0 (tCons (tVar 1) (tCons (tVar 3) tNil)))))) (tRaise1 c.nolog "row" (fun cls d _ H => E cls d H) (tCons (tVar 2) tNil)) tNext))
  (tRet (tVar 1))) { nx := fun _ H' => Q .non H', rt := Q } [some (.ref l), some x, none, none] H2)) := by
    intro m nts s h1 hm hN hL hend
    have hnl := notes_take hm hN
    cases hx : xs with
    | nil => rw [hx] at hm; simp at hm; omega
    | cons v rest =>
    refine .inr ⟨v, rest, rfl, fun y hy => (hD y (hx ▸ hy)).ex e1, .inr ?_⟩
    obtain ⟨ns, rs, hnts, hg, hc, hok, hs⟩ := hL.ex
    obtain ⟨n0, hn0, hat0⟩ := notes_at (i := 0) (v := v) hm hN (by omega) (by rw [hx]; rfl)
    rw [hnts] at hn0
    cases hn0
    refine ⟨ns, (Mut.of (W := []) e1).note hat0, hg, hc, fun a f n p H2 e2 fa ff fn fp hA => ?_⟩
    have fa' := fresh_of e1 fa
    have ff' := fresh_of e1 ff
    have fn' := fresh_of e1 fn
    have fr : ∀ x ∈ [a, f, n], H x = none := fun x hx => by
      simp at hx
      rcases hx with rfl | rfl | rfl <;> assumption
    have hl2 := ex_l (e1.trans e2) hl
    have max1 : ∀ i : Nat, 1 ≤ i → max i 1 = i := fun i hi => by omega
    refine q_enumQ (H0 := H) (xs := xs) (a := l) (ev_var (i := 0) rfl) (.inl hl) (e1.trans e2) (fun i σ' H' => i ≤ m ∧ (∃ u w, σ' = [some (.ref l), some (.ref a), u, w]) ∧ Ex H H' ∧ ∃ p' s', H p' = none ∧ LogOf (nts.take (max i 1)) s' ∧ HallAt K c.hall H' a f n p' s' (nts.take (max i 1))) ?_ ?_ ?_ ?_
    · intro H3 e3
      refine ⟨by omega, ⟨_, _, rfl⟩, (e1.trans e2).trans e3, p, initS ns, fresh_of e1 fp, ?_, ?_⟩
      · rw [hnts]; exact log_beg hg hc
      · rw [hnts]; exact hA.ex e3
    · rintro i σ' H' ⟨_, _, e, _⟩
      exact e
    · rintro i x σ' H' H3 hi ⟨him, ⟨u, w, rfl⟩, e, p', s', fp', hL', hA'⟩ e3
      have e03 := e.trans e3
      have hA3 := hA'.ex e3
      refine (et_test (σ := [some (.ref l), some (.ref a), some (.int (i : Int)), some x]) (ev_op (ev_var (i := 2) rfl) (ev_c (v := .int 0)) rv_gt)) H3 (Ex.refl _) _ fun H4 e4 => ?_
      have e04 := e03.trans e4
      by_cases hi0 : i = 0
      · subst hi0
        rw [decide_eq_false (show ¬ (0 : Int) < ((0 : Nat) : Int) by omega)]
        refine ⟨by omega, ⟨_, _, rfl⟩, e04, p', s', fp', hL', hA3.ex e4⟩
      · rw [decide_eq_true (show (0 : Int) < (i : Int) by omega)]
        rw [max1 i (by omega)] at hL' hA3
        have hlen' : (nts.take i).length < 90000 := by rw [List.length_take]; omega
        have e5 : Ex H4 H4 := Ex.refl _
        refine ⟨.ref a, rfl, x, rfl, .ref a, x, rfl, a, f, n, p', s', nts.take i, rfl, hA3.ex (e4.trans e5), hL'.inv, hlen', ?_⟩
        have e05 := e04.trans e5
        by_cases him2 : i < m
        · obtain ⟨nt, hnt, hat⟩ := notes_at hm hN him2 hi
          obtain ⟨hok', hL2⟩ := hL.next (by omega) hnt hL'
          refine .inr ⟨nt, (Mut.of (W := []) e05).note hat, hok', fun p2 H6 m6 hp2 hA6 => ⟨true, rfl, ?_⟩⟩
          have e06 := ex_mut e05 m6 fr
          have tk : nts.take i ++ [nt] = nts.take (i + 1) := by
            rw [List.take_succ, hnt]
            rfl
          rw [tk] at hA6
          refine ⟨by omega, ⟨_, _, rfl⟩, e06, p2, nxt s' nt, ?_, ?_, ?_⟩
          · rcases hp2 with rfl | hp2
            · exact fp'
            · exact fresh_of e05 hp2
          · exact (max1 (i + 1) (by omega)).symm ▸ hL2
          · rw [max1 (i + 1) (by omega)]
            exact hA6
        · have hieq : i = m := by omega
          subst hieq
          rcases hend with ⟨he, _⟩ | ⟨v', hv', hb, q⟩
          · have := (List.getElem?_eq_some_iff.mp hi).1
            omega
          · rw [hv'] at hi
            cases hi
            have hss : s' = s := by
              rw [List.take_of_length_le (by omega)] at hL'
              exact hL'.fn hL
            subst hss
            refine .inl ⟨badRow_ex e05 hb, fun H6 m6 => ⟨false, rfl, ?_⟩⟩
            have e06 := ex_mut e05 m6 fr
            exact raise1_x (D := { nx := fun _ _ => True, rt := fun _ _ => True }) (retX_up e06 q) (ev_var (i := 2) rfl)
    · rintro σ' H3 ⟨him, ⟨u, w, rfl⟩, e, p', s', fp', hL', hA'⟩
      have hmx : xs.length = m := by omega
      rw [List.take_of_length_le (by omega)] at hL' hA'
      have hss := hL'.fn hL
      subst hss
      rcases hend with ⟨_, q⟩ | ⟨v', hv', _⟩
      · exact s_ret (v := .ref a) (ev_var (i := 1) rfl) fun H4 e4 => q a f n p' H4 (e.trans e4) fa' ff' fn' fp' (hA'.ex e4)
      · have := (List.getElem?_eq_some_iff.mp hv').1
        omega
  rcases h with ⟨hx, q⟩ | ⟨v, rest, hx, hb, q⟩ | ⟨k, nts, s, v, hk, hN, hL, hv, hb, q⟩ | ⟨nts, s, hN, hL, q⟩
  · exact .inl ⟨hx, retX_up e1 q⟩
  · exact .inr ⟨v, rest, hx, fun y hy => (hD y hy).ex e1, .inl ⟨badFirst_ex e1 hb, retX_up e1 q⟩⟩
  · have hkl := (List.getElem?_eq_some_iff.mp hv).1
    exact main k nts s hk (by omega) hN hL (.inr ⟨v, hv, hb, q⟩)
  · have hl0 : nts.length = xs.length := hN.1.symm
    obtain ⟨ns, rs, hnts, _⟩ := hL.ex
    exact main xs.length nts s (by rw [← hl0, hnts, List.length_cons]; omega) (Nat.le_refl _) (by rw [List.take_of_length_le (Nat.le_refl _)]; exact hN) hL (.inl ⟨rfl, q⟩)
end
end Tr

/-! Law k13: what is seen of a hall; logs taken back, refused; a change that can't be. -/
namespace Tr
open PySem L2 PySem.Spec PyProof.Rows Evl

/-- what replaying makes of a thing -/
def Repl (K : PySem.W.Frag) (x : V) (H : Hp) (bad : Int → Prop) (good : HS → List Note → Prop) : Prop :=
  ((∃ T, TyX K H x (.type T) ∧ kitB T "list" = some false) ∧ bad 0) ∨
  ∃ l xs, x = .ref l ∧ SqL K H l xs ∧ xs.length < 90000 ∧ (∀ y ∈ xs, IsD K H y) ∧ ((xs = [] ∧ bad 0) ∨ (∃ v rest, xs = v :: rest ∧ BadFirst K H v ∧ bad 0) ∨
    (∃ k nts s v, 1 ≤ k ∧ NotesAt K H (xs.take k) nts ∧ LogOf nts s ∧ xs[k]? = some v ∧ BadRow K H s v ∧ bad (k : Int)) ∨
    ∃ nts s, NotesAt K H xs nts ∧ LogOf nts s ∧ good s nts)
theorem repl_up {K : PySem.W.Frag} {x : V} {H H' : Hp} {bad bad' : Int → Prop} {good good' : HS → List Note → Prop} (e : Ex H H') (h : Repl K x H bad good) (hb : ∀ k, bad k → bad' k) (hg : ∀ s nts, good s nts → good' s nts) : Repl K x H' bad' good' := by
  rcases h with ⟨⟨T, hT, hk⟩, q⟩ | ⟨l, xs, rfl, hl, hlen, hD, h⟩
  · exact .inl ⟨⟨T, tyx_ex e hT, hk⟩, hb _ q⟩
  refine .inr ⟨l, xs, rfl, ex_l e hl, hlen, fun y hy => (hD y hy).ex e, ?_⟩
  rcases h with ⟨hx, q⟩ | ⟨v, rest, hx, hf, q⟩ | ⟨k, nts, s, v, hk, hN, hL, hv, hr, q⟩ | ⟨nts, s, hN, hL, q⟩
  · exact .inl ⟨hx, hb _ q⟩
  · exact .inr (.inl ⟨v, rest, hx, badFirst_ex e hf, hb _ q⟩)
  · exact .inr (.inr (.inl ⟨k, nts, s, v, hk, (Mut.of (W := []) e).notes hN, hL, hv, badRow_ex e hr, hb _ q⟩))
  · exact .inr (.inr (.inr ⟨nts, s, (Mut.of (W := []) e).notes hN, hL, hg _ _ q⟩))
theorem replayed_of {K : PySem.W.Frag} {c : Cs} {x : V} {H : Hp} {Q : VK} {E : XK} (h : Repl K x H (fun k => RetX c.nolog [("row", .int k)] H E) (fun s nts => RetH K c s nts H Q)) : sp_k13_replayed K c [x] H Q E := ⟨x, rfl, h⟩
def dSeen (s : HS) (nts : List Note) : PyData := .tuple [.int s.now, .int s.bits, .list ((airF s).map dP), .list ((aheadF s 30).map PyData.int), .list (nts.map dN)]
def sp_k13_l_seen (K : PySem.W.Frag) (c : Cs) : Sp := fun vs H Q _ => ∃ x, vs = [x] ∧ AtHall K c x H fun _ _ _ _ s nts => RetD K (dSeen s nts) H Q
def sp_k13_l_back (K : PySem.W.Frag) (c : Cs) : Sp := fun vs H Q _ => ∃ x, vs = [x] ∧ Repl K x H (fun _ => RetV .non H Q) (fun s nts => RetH K c s nts H Q)
def sp_k13_l_refused (K : PySem.W.Frag) (c : Cs) : Sp := fun vs H Q _ => ∃ x, vs = [x] ∧ Repl K x H (fun k => RetV (.int k) H Q) (fun _ _ => False)
def sp_k13_l_stays (K : PySem.W.Frag) (c : Cs) : Sp := fun vs H Q _ => ∃ (x : V) (cell many : Int), vs = [x, .int cell, .int many] ∧ 0 ≤ cell ∧ AtHall K c x H fun _ _ _ _ s nts => nts.length < 90000 ∧ many = (pcI s.bits : Int) ∧ RetV (.bl true) H Q
/-- _law_seen: slots _law_hall -/
def t_k13_l_seen (K : PySem.W.Frag) (c : Cs) (E : XK) : TS :=
  (tRet (tTup (tCons (tMeth c.hall "turn" (sp_h_turn K c) [] E0 (tVar 0) tNil) (tCons (tMeth c.hall "state" (sp_h_state K c) [] E0 (tVar 0) tNil) (tCons (tMeth c.hall "air" (sp_h_air K c) [] E0 (tVar 0) tNil) (tCons (tMeth c.hall "ahead" (sp_h_ahead K c) [] E0 (tVar 0) (tCons (tC (.int 30)) tNil)) (tCons (tMeth c.hall "log" (sp_h_log K c) [] E0 (tVar 0) tNil) tNil)))))))

/-- _law_back: slots _law_log, _law_found -/
def t_k13_l_back (K : PySem.W.Frag) (c : Cs) (E : XK) : TS :=
  (tSeq (tAsg (tC .non) (gName 1))
  (tSeq (fun D σ H => (fun W => (tAsg (tCallS (sp_k13_replayed K c) (WE W) (tCons (tVar 0) tNil)) (gName 1))) (wOnly K (.ref c.nolog) (fun a cls d => (tAsg (tC .non) (gName 1))) (fun _ _ _ _ => False) D) D σ H)
  (tRet (tVar 1))))

/-- _law_refused: slots _law_log, _law_word, e -/
def t_k13_l_refused (K : PySem.W.Frag) (c : Cs) (E : XK) : TS :=
  (tSeq (tAsg (tUn xNeg (tC (.int 1))) (gName 1))
  (tSeq (fun D σ H => (fun W => (tDrop (tCallS (sp_k13_replayed K c) (WE W) (tCons (tVar 0) tNil)))) (wAs K (.ref c.nolog) 2 (fun a cls d => (tAsg (tXf a cls d c.nolog "row" (tVar 2)) (gName 1))) (fun _ _ _ _ => False) D) D σ H)
  (tRet (tVar 1))))

/-- _law_stays: slots _law_hall, _law_cell, _law_many, _law_seen_here, _law_row, _law_word -/
def t_k13_l_stays (K : PySem.W.Frag) (c : Cs) (E : XK) : TS :=
  (tSeq (tAsg (tCall (sp_k13_l_seen K c) [] E0 (tCons (tVar 0) tNil)) (gName 3))
  (tSeq (tAsg (tCall (sp_l_going K c) [] E0 (tCons (tOp (xAdd K) (tOp (xMul K) (tOp xDiv (tVar 1) (tC (.int 10))) (tC (.int 10))) (tOp xMod (tOp (xAdd K) (tOp (xAdd K) (tVar 2) (tC (.int 1))) (tOp xMod (tOp xDiv (tVar 1) (tC (.int 7))) (tC (.int 9)))) (tC (.int 10)))) (tCons (tOp (xAdd K) (tC (.int 1)) (tOp xMod (tOp xDiv (tVar 1) (tC (.int 10))) (tC (.int 9)))) tNil))) (gName 4))
  (tSeq (tIfS (tTest (tOp (xEq K) (tOp xMod (tVar 1) (tC (.int 3))) (tC (.int 1)))) (tAsg (tOp (rIx K) (tLst (tCons (tLst (tCons (tC (.int 5)) (tCons (tC (.int 4)) tNil))) (tCons (tLst tNil) (tCons (tLst (tCons (tC (.int 4)) (tCons (tC (.int 10)) tNil))) tNil)))) (tOp xMod (tOp xDiv (tVar 1) (tC (.int 3))) (tC (.int 3)))) (gName 4)) tNext)
  (tSeq (tAsg (tC (.str "done")) (gName 5))
  (tSeq (fun D σ H => (fun W => (tDrop (tMethS c.hall "change" (sp_h_change K c) (WE W) (tVar 0) (tCons (tVar 4) tNil)))) (wOnly K (.ref c.toss) (fun a cls d => (tAsg (tC (.str "refused")) (gName 5))) (fun _ _ _ _ => False) D) D σ H)
  (tRet (tAndV (tOp (xEq K) (tVar 5) (tC (.str "refused"))) (tOp (xEq K) (tCall (sp_k13_l_seen K c) [] E0 (tCons (tVar 0) tNil)) (tVar 3)))))))))

theorem flat_dP (p : Int × Int) : Flat 1 (dP p) := flat_tuple fun d hd => by
  rcases List.mem_cons.mp hd with rfl | hd
  · exact flat_int
  · rw [List.mem_singleton.mp hd]
    exact flat_int
theorem flat_notes (nts : List Note) : Flat 3 (.list (nts.map dN)) := flat_list fun d hd => by
  obtain ⟨n, _, rfl⟩ := List.mem_map.mp hd
  exact flat_note n
theorem flat_seen (s : HS) (nts : List Note) : Flat 4 (dSeen s nts) := flat_tuple fun d hd => by
  simp only [List.mem_cons, List.not_mem_nil, or_false] at hd
  rcases hd with rfl | rfl | rfl | rfl | rfl
  · exact flat_int.mono (by decide)
  · exact flat_int.mono (by decide)
  · exact (flat_list fun d hd => by
      obtain ⟨p, _, rfl⟩ := List.mem_map.mp hd
      exact flat_dP p : Flat 2 _).mono (by decide)
  · exact flat_ints.mono (by decide)
  · exact flat_notes nts
theorem notes_dpa {K : PySem.W.Frag} {H : Hp} : ∀ {vs : List V} {ns : List Note}, NotesAt K H vs ns → DpAll K H vs (ns.map dN)
  | [], [], _ => .nil
  | [], _ :: _, h => absurd h.1 (by simp)
  | _ :: _, [], h => absurd h.1 (by simp)
  | v :: vs, n :: ns, h => .cons (note_dp (h.2 0 v n rfl rfl)) (notes_dpa ⟨by have := h.1; simp at this; exact this, fun i y m h1 h2 => h.2 (i + 1) y m h1 h2⟩)
section
variable {K : PySem.W.Frag} {c : Cs} {vs : List V} {H : Hp} {Q : VK} {E : XK}
/-- arguments known as data -/
def EdA (K : PySem.W.Frag) (ta : TA) (σ : L2.St) (H : Hp) (ds : List PyData) : Prop := ∀ H1, Ex H H1 → ∀ Q : List V → Hp → Prop, (∀ vs H2, Ex H1 H2 → DpAll K H2 vs ds → Q vs H2) → ta σ H1 Q
theorem eda_nil {σ : L2.St} : EdA K tNil σ H [] := fun H1 _ _ q => q [] H1 (Ex.refl H1) .nil
theorem eda_cons {σ : L2.St} {te : TE} {ta : TA} {d : PyData} {ds : List PyData} (h : EvD K te σ H d) (hr : EdA K ta σ H ds) : EdA K (tCons te ta) σ H (d :: ds) := fun H1 e _ q =>
  h H1 e _ fun v H2 e2 hv => hr H2 (e.trans e2) _ fun vs H3 e3 r => q _ H3 (e2.trans e3) (.cons (dp_ex e3 hv) r)
theorem dpa_length {H : Hp} : ∀ {vs : List V} {ds : List PyData}, DpAll K H vs ds → vs.length = ds.length
  | _, _, .nil => rfl
  | _, _, .cons _ r => congrArg (· + 1) (dpa_length r)
theorem evd_tup {σ : L2.St} {ta : TA} {ds : List PyData} (h : EdA K ta σ H ds) (hl : ds.length ≤ 100000) : EvD K (tTup ta) σ H (.tuple ds) := fun H1 e Q q =>
  h H1 e _ fun vs H2 e2 r => ⟨sz_of (by rw [dpa_length r]; exact hl), fun p hp => q _ _ (e2.trans (Ex.new hp)) (.tup (SqT.of upd_same) (dpa_ex (Ex.new hp) r))⟩
section
variable {σ : L2.St} {ta : TE} {a f n p : Addr} {s : HS} {nts : List Note}
theorem ev_turn (ha : Ev ta σ H (.ref a)) (h : HallAt K c.hall H a f n p s nts) (I : HInv s) : Ev (tMeth c.hall "turn" (sp_h_turn K c) [] E ta tNil) σ H (.int s.now) := fun H1 e1 Q q =>
  ha H1 e1 _ fun H2 e2 => by
    obtain ⟨dx, t, ws, o, w⟩ := h.ex (e1.trans e2)
    exact ⟨a, dx, _, rfl, o.ha, rfl, _, rfl, a, f, n, p, s, nts, rfl, ⟨dx, t, ws, o, w⟩, I, fun H3 e3 => q H3 (e2.trans e3)⟩
theorem ev_state (ha : Ev ta σ H (.ref a)) (h : HallAt K c.hall H a f n p s nts) (I : HInv s) : Ev (tMeth c.hall "state" (sp_h_state K c) [] E ta tNil) σ H (.int s.bits) := fun H1 e1 Q q =>
  ha H1 e1 _ fun H2 e2 => by
    obtain ⟨dx, t, ws, o, w⟩ := h.ex (e1.trans e2)
    exact ⟨a, dx, _, rfl, o.ha, rfl, _, rfl, a, f, n, p, s, nts, rfl, ⟨dx, t, ws, o, w⟩, I, fun H3 e3 => q H3 (e2.trans e3)⟩
theorem evp_air (ha : Ev ta σ H (.ref a)) (h : HallAt K c.hall H a f n p s nts) (I : HInv s) : EvP2 (tMeth c.hall "air" (sp_h_air K c) [] E ta tNil) σ H (airF s) := fun H1 e1 Q q =>
  ha H1 e1 _ fun H2 e2 => by
    obtain ⟨dx, t, ws, o, w⟩ := h.ex (e1.trans e2)
    exact ⟨a, dx, _, rfl, o.ha, rfl, _, rfl, a, f, n, p, s, nts, rfl, ⟨dx, t, ws, o, w⟩, I, fun l xs H3 hl e3 h3 hp => q l xs H3 (fresh_of e2 hl) (e2.trans e3) h3 hp⟩
/-- the log, a new list -/
def EvN (K : PySem.W.Frag) (te : TE) (σ : L2.St) (H : Hp) (nts : List Note) : Prop := ∀ H1, Ex H H1 → ∀ Q : VK, (∀ l xs H2, H1 l = none → Ex H1 H2 → H2 l = some (.lst xs) → NotesAt K H2 xs nts → Q (.ref l) H2) → te σ H1 Q
theorem evn_log (ha : Ev ta σ H (.ref a)) (h : HallAt K c.hall H a f n p s nts) (I : HInv s) : EvN K (tMeth c.hall "log" (sp_h_log K c) [] E ta tNil) σ H nts := fun H1 e1 Q q =>
  ha H1 e1 _ fun H2 e2 => by
    obtain ⟨dx, t, ws, o, w⟩ := h.ex (e1.trans e2)
    exact ⟨a, dx, _, rfl, o.ha, rfl, _, rfl, a, f, n, p, s, nts, rfl, ⟨dx, t, ws, o, w⟩, I, fun l xs H3 hl e3 h3 hp => q l xs H3 (fresh_of e2 hl) (e2.trans e3) h3 hp⟩
theorem evd_air (ha : Ev ta σ H (.ref a)) (h : HallAt K c.hall H a f n p s nts) (I : HInv s) : EvD K (tMeth c.hall "air" (sp_h_air K c) [] E ta tNil) σ H (.list ((airF s).map dP)) := fun H1 e1 Q q =>
  evp_air ha h I H1 e1 _ fun l xs H2 hl e2 h2 hp => q _ H2 e2 (.lst (SqL.of h2) (dpa_ex (fun b o hb => by
    unfold del at hb
    split at hb
    · cases hb
    · exact hb) (pairs_dp hp)))
theorem evd_log (ha : Ev ta σ H (.ref a)) (h : HallAt K c.hall H a f n p s nts) (I : HInv s) : EvD K (tMeth c.hall "log" (sp_h_log K c) [] E ta tNil) σ H (.list (nts.map dN)) := fun H1 e1 Q q =>
  evn_log ha h I H1 e1 _ fun l xs H2 hl e2 h2 hn => q _ H2 e2 (.lst (SqL.of h2) (notes_dpa hn))
theorem evd_ahead (ha : Ev ta σ H (.ref a)) (h : HallAt K c.hall H a f n p s nts) (I : HInv s) : EvD K (tMeth c.hall "ahead" (sp_h_ahead K c) [] E ta (tCons (tC (.int 30)) tNil)) σ H (.list ((aheadF s 30).map PyData.int)) :=
  evd_l (evs_new (el_ahead (K := K) (c := c) (k := 30) ha (fun _ _ => ev_c) h I (by decide) (by decide))) (dpa_ints _)
theorem evd_seen (ha : Ev ta σ H (.ref a)) (h : HallAt K c.hall H a f n p s nts) (I : HInv s) : EvD K (tCall (sp_k13_l_seen K c) [] E (tCons ta tNil)) σ H (dSeen s nts) := fun H1 e1 Q q =>
  ha H1 e1 _ fun H2 e2 => ⟨_, rfl, a, f, n, p, s, nts, rfl, h.ex (e1.trans e2), I, fun v H3 e3 hv => q v H3 (e2.trans e3) hv⟩
end
theorem pure_k13_l_seen (h : sp_k13_l_seen K c vs H Q E) : t_k13_l_seen K c E { nx := fun _ H' => Q .non H', rt := Q } (start ["_law_hall"] vs) H := by
  obtain ⟨x, rfl, a, f, n, p, s, nts, rfl, hA, I, q⟩ := h
  exact s_retV (evd_tup (eda_cons (evd_of' (ev_turn (ev_var rfl) hA I)) (eda_cons (evd_of' (ev_state (ev_var rfl) hA I)) (eda_cons (evd_air (ev_var rfl) hA I) (eda_cons (evd_ahead (ev_var rfl) hA I) (eda_cons (evd_log (ev_var rfl) hA I) eda_nil))))) (by show 5 ≤ 100000; decide)) q
theorem pure_k13_l_back (N : Ex13 K c) (h : sp_k13_l_back K c vs H Q E) : t_k13_l_back K c E { nx := fun _ H' => Q .non H', rt := Q } (start ["_law_log", "_law_found"] vs) H := by
  obtain ⟨x, rfl, h⟩ := h
  refine q_asg (v := .non) ev_c fun H1 e1 => ?_
  have e2 : Ex H1 H1 := Ex.refl _
  refine ⟨x, rfl, replayed_of (repl_up (e1.trans e2) h (fun k q => ?_) fun s nts q => ?_)⟩
  · intro d H3 hd e3 h3
    refine ⟨true, N.ll, fun _ a ha => ?_, fun z => nomatch z⟩
    refine s_asgH ?_
    exact s_ret (v := .non) (ev_var (i := 1) rfl) fun H4 e4 => q H4 (((e1.trans e2).trans e3).trans e4)
  · intro a f n p H3 e3 ha hf hn hp hA
    have e13 := (e1.trans e2).trans e3
    exact s_ret (v := .ref a) (ev_var (i := 1) rfl) fun H4 e4 => q a f n p H4 (e13.trans e4) (fresh_of (e1.trans e2) ha) (fresh_of (e1.trans e2) hf) (fresh_of (e1.trans e2) hn) (fresh_of (e1.trans e2) hp) (hA.ex e4)
theorem ev_xf {σ : L2.St} {te : TE} {a C dd : Addr} {fs : List (Str × V)} {n : Str} {v : V} (ha : Ev te σ H (.ref a)) (hx : H dd = some (.xd fs)) (hl : fs.lookup n = some v) : Ev (tXf a (.ref C) (some dd) C n te) σ H v := fun H1 e1 Q q =>
  ha H1 e1 _ fun H2 e2 => ⟨rfl, rfl, dd, fs, v, rfl, e2 _ _ (e1 _ _ hx), hl, q H2 e2⟩
theorem pure_k13_l_refused (N : Ex13 K c) (h : sp_k13_l_refused K c vs H Q E) : t_k13_l_refused K c E { nx := fun _ H' => Q .non H', rt := Q } (start ["_law_log", "_law_word", "e"] vs) H := by
  obtain ⟨x, rfl, h⟩ := h
  refine q_asg (v := .int (-1)) (fun H1 _ Q q => ⟨1, rfl, q H1 (Ex.refl _)⟩) fun H1 e1 => ?_
  have e2 : Ex H1 H1 := Ex.refl _
  refine ⟨x, rfl, replayed_of (repl_up (e1.trans e2) h (fun k q => ?_) fun s nts q => q.elim)⟩
  intro d H3 hd e3 h3
  refine ⟨true, N.ll, fun _ a ha => ?_, fun z => nomatch z⟩
  refine s_asg (v := .int k) (ev_xf (n := "row") (ev_var (i := 2) rfl) h3 rfl) fun H4 e4 => ?_
  exact nx_mk (s_ret (v := .int k) (ev_var (i := 1) rfl) fun H5 e5 => q H5 ((((e1.trans e2).trans e3).trans e4).trans e5))
/-- no row, a row that clashes, a row of as many things as others -/
def Wrong (K : PySem.W.Frag) (s : HS) (y : V) (H : Hp) : Prop := Bad K H y ∨ ∃ ns, Row K H y ns ∧ Good ns ∧ (clashF ns ≠ none ∨ (clashF ns = none ∧ pcI (upS ns) ≠ pcI s.bits))
theorem wrong_mon {s : HS} : Mon (Wrong K s) := fun v H H' e h => by
  rcases h with h | ⟨ns, hr, h⟩
  · exact .inl (bad_ex e h)
  · exact .inr ⟨ns, row_ex e hr, h⟩
theorem pure_k13_l_stays (N : Ex13 K c) (h : sp_k13_l_stays K c vs H Q E) : t_k13_l_stays K c E { nx := fun _ H' => Q .non H', rt := Q } (start ["_law_hall", "_law_cell", "_law_many", "_law_seen_here", "_law_row", "_law_word"] vs) H := by
  obtain ⟨x, cell, many, rfl, hc0, a, f, n, p, s, nts, rfl, hA, I, hnt, hmany, q⟩ := h
  refine q_asgV (evd_seen (ev_var (i := 0) rfl) hA I) fun v1 H1 e1 hv1 => ?_
  have hp9 := pcI_le s.bits
  have a0 : 0 ≤ (many + 1 + cell / 7 % 9) % 10 := by omega
  have a1 : (many + 1 + cell / 7 % 9) % 10 < 10 := by omega
  have m1 : 1 ≤ 1 + cell / 10 % 9 := by omega
  have m9 : 1 + cell / 10 % 9 ≤ 40 := by omega
  refine q_asgL (el_l_going (K := K) (c := c) (a := cell / 10 * 10 + (many + 1 + cell / 7 % 9) % 10) (m := 1 + cell / 10 % 9) (ev_op (ev_op (ev_op (ev_var (i := 1) rfl) ev_c (rv_div (by k_caughtB))) ev_c (rv_mul (by k_caughtB))) (ev_op (ev_op (ev_op (ev_var (i := 2) rfl) ev_c rv_addI) (ev_op (ev_op (ev_var (i := 1) rfl) ev_c (rv_div (by k_caughtB))) ev_c (rv_mod (by decide))) rv_addI) ev_c (rv_mod (by decide))) rv_addI) (ev_op ev_c (ev_op (ev_op (ev_var (i := 1) rfl) ev_c (rv_div (by k_caughtB))) ev_c (rv_mod (by decide))) rv_addI) m1 (by omega)) fun r H2 hr e2 hr2 => ?_
  have wr : Wrong K s (.ref r) H2 := by
    refine .inr ⟨_, ⟨r, rfl, .inl (SqL.of hr2)⟩, good_going m1 m9, .inr ⟨going_clash m1, fun z => ?_⟩⟩
    have e := going_up (a := cell / 10 * 10 + (many + 1 + cell / 7 % 9) % 10) m1 m9
    have e' : (pcI (upS (going (cell / 10 * 10 + (many + 1 + cell / 7 % 9) % 10) (1 + cell / 10 % 9))) : Int) = (cell / 10 * 10 + (many + 1 + cell / 7 % 9) % 10) % 10 := e
    rw [z] at e'
    omega
  have last : ∀ (y : V) (H3 : Hp), Ex H2 H3 → Wrong K s y H3 → (tSeq (tAsg (tC (.str "done")) (gName 5))
  (tSeq (fun D σ H => (fun W => (tDrop (tMethS c.hall "change" (sp_h_change K c) (WE W) (tVar 0) (tCons (tVar 4) tNil)))) (wOnly K (.ref c.toss) (fun a cls d => (tAsg (tC (.str "refused")) (gName 5))) (fun _ _ _ _ => False) D) D σ H)
  (tRet (tAndV (tOp (xEq K) (tVar 5) (tC (.str "refused"))) (tOp (xEq K) (tCall (sp_k13_l_seen K c) [] E0 (tCons (tVar 0) tNil)) (tVar 3)))))) { nx := fun _ H' => Q .non H', rt := Q } [some (.ref a), some (.int cell), some (.int many), some v1, some y, none] H3 := by
    intro y H3 e3 hy
    have e13 := (e1.trans e2).trans e3
    refine q_asg (v := .str "done") ev_c fun H4 e4 => ?_
    have e14 := e13.trans e4
    obtain ⟨dx, t, ws, o, w⟩ := hA.ex e14
    have fin : ∀ (H5 : Hp) (cls : Value) (d : Option Addr), Ex H4 H5 → PySem.W.exmOne K cls (.ref c.toss) = some true → (wOnly K (.ref c.toss) (fun a cls d => (tAsg (tC (.str "refused")) (gName 5))) (fun _ _ _ _ => False) { nx := (tRet (tAndV (tOp (xEq K) (tVar 5) (tC (.str "refused"))) (tOp (xEq K) (tCall (sp_k13_l_seen K c) [] E0 (tCons (tVar 0) tNil)) (tVar 3)))) { nx := fun _ H' => Q .non H', rt := Q }, rt := Q }) cls d [some (.ref a), some (.int cell), some (.int many), some v1, some y, some (.str "done")] H5 := by
      intro H5 cls d e5 hm
      refine ⟨true, hm, fun _ b hb => s_asgH ?_, fun z => nomatch z⟩
      have e15 := e14.trans e5
      refine s_ret (v := .bl true) (ev_is (ev_andV (a := true) (b := true) (ev_is (ev_op (ev_var (i := 5) rfl) ev_c (rv_eqV rfl)) rfl) fun _ => ?_) rfl) fun H6 e6 => q H6 (e15.trans e6)
      refine ev_is (ev_eqD (evd_seen (ev_var (i := 0) rfl) (hA.ex e15) I) (evd_of (ev_var (i := 3) rfl) (dp_ex ((e2.trans e3).trans (e4.trans e5)) hv1)) ((flat_seen s nts).shaped (by decide)) ((flat_seen s nts).shaped (by decide))) (by rw [(flat_seen s nts).refl])
    have e5 : Ex H4 H4 := Ex.refl _
    refine ⟨.ref a, rfl, a, dx, _, rfl, o.ha, rfl, y, rfl, .ref a, y, rfl, a, f, n, p, s, nts, rfl, HallAt.ex e5 ⟨dx, t, ws, o, w⟩, I, hnt, ?_⟩
    rcases wrong_mon _ _ _ (e4.trans e5) hy with hb | ⟨ns, hr, hg, hcl | ⟨hcl, hne⟩⟩
    · exact .inl ⟨hb, fun H6 e6 => fin H6 _ _ (e5.trans e6) N.rt⟩
    · cases hcl' : clashF ns with
      | none => exact absurd hcl' hcl
      | some ij =>
        obtain ⟨i, j⟩ := ij
        exact .inr ⟨ns, hr, hg, .inl ⟨i, j, hcl', fun d H6 hd e6 h6 => fin H6 _ _ (e5.trans e6) N.ct⟩⟩
    · exact .inr ⟨ns, hr, hg, .inr ⟨hcl, .inl ⟨hne, fun H6 e6 => fin H6 _ _ (e5.trans e6) N.wt⟩⟩⟩
  refine q_when (b := decide (cell % 3 = 1)) (et_test (ev_op (ev_op (ev_var (i := 1) rfl) ev_c (rv_mod (by decide))) ev_c rv_eqI)) (fun _ H3 e3 => ?_) fun _ H3 e3 => last _ H3 e3 (wrong_mon _ _ _ e3 wr)
  have i0 : 0 ≤ cell / 3 % 3 := by omega
  have i1 : cell / 3 % 3 < 3 := by omega
  have w54 : ∀ {σ : L2.St} {H' : Hp}, EvP (Wrong K s) (tLst (tCons (tC (.int 5)) (tCons (tC (.int 4)) tNil))) σ H' := (evp_l (el_lst (ea_cons ev_c (ea_cons ev_c ea_nil)) (by show 2 ≤ 100000; decide))).weak fun v H' _ ⟨p, ev, hp⟩ => by
    subst ev
    exact .inr ⟨[5, 4], ⟨p, rfl, .inl (SqL.of hp)⟩, ⟨by decide, by decide, fun x hx => by simp at hx; omega⟩, .inl (by decide)⟩
  have w0 : ∀ {σ : L2.St} {H' : Hp}, EvP (Wrong K s) (tLst tNil) σ H' := (evp_l (el_lst ea_nil (by show 0 ≤ 100000; decide))).weak fun v H' _ ⟨p, ev, hp⟩ => by
    subst ev
    exact .inl (.inr ⟨p, [], rfl, .inl (SqL.of hp), fun y hy => absurd hy List.not_mem_nil, fun z => absurd z.1 (by decide)⟩)
  have w410 : ∀ {σ : L2.St} {H' : Hp}, EvP (Wrong K s) (tLst (tCons (tC (.int 4)) (tCons (tC (.int 10)) tNil))) σ H' := (evp_l (el_lst (ea_cons ev_c (ea_cons ev_c ea_nil)) (by show 2 ≤ 100000; decide))).weak fun v H' _ ⟨p, ev, hp⟩ => by
    subst ev
    exact .inl (bad_app (ns := [4]) (m := 10) (by decide) hp)
  have mon3 : MonAll [Wrong K s, Wrong K s, Wrong K s] := fun P hP => by
    simp at hP
    rw [hP]
    exact wrong_mon
  have hP : [Wrong K s, Wrong K s, Wrong K s][(cell / 3 % 3).toNat]? = some (Wrong K s) := by
    have h3 : (cell / 3 % 3).toNat = 0 ∨ (cell / 3 % 3).toNat = 1 ∨ (cell / 3 % 3).toNat = 2 := by omega
    rcases h3 with h | h | h <;> rw [h] <;> rfl
  refine (ep_ix (K := K) (σ := [some (.ref a), some (.int cell), some (.int many), some v1, some (.ref r), none]) (i := cell / 3 % 3) (epl (epa_cons w54 wrong_mon (epa_cons w0 wrong_mon (epa_cons w410 wrong_mon epa_nil))) mon3 (by show 3 ≤ 100000; decide)) mon3 (fun H' e' => ev_op (ev_op (ev_var (i := 1) rfl) ev_c (rv_div (by k_caughtB))) ev_c (rv_mod (by decide))) i0 i1 hP) H3 (Ex.refl _) _ fun y H4 e4 hy => last y H4 (e3.trans e4) hy
end
end Tr

/-! Law k13: by the log alone each thing comes down where it was thrown to. -/
namespace Tr
open PySem L2 PySem.Spec PyProof.Rows Evl

/-! ### what is known to be due -/
structure Due (due : List (Int × Int)) (s : HS) : Prop where
  sub : ∀ p ∈ due, p ∈ s.fly
theorem nodup_fst {l : List (Int × Int)} (h : (l.map (·.1)).Nodup) {w x y : Int} (h1 : (w, x) ∈ l) (h2 : (w, y) ∈ l) : x = y := by
  obtain ⟨i, hi, ei⟩ := List.getElem_of_mem h1
  obtain ⟨j, hj, ej⟩ := List.getElem_of_mem h2
  have nd := List.pairwise_iff_getElem.mp h
  rcases Nat.lt_trichotomy i j with q | q | q
  · exact absurd (by rw [List.getElem_map, List.getElem_map, ei, ej]) (nd i j (by rw [List.length_map]; exact hi) (by rw [List.length_map]; exact hj) q)
  · subst q
    rw [ei] at ej
    exact (Prod.mk.inj ej).2
  · exact absurd (by rw [List.getElem_map, List.getElem_map, ei, ej]) (nd j i (by rw [List.length_map]; exact hj) (by rw [List.length_map]; exact hi) q)
theorem nodup_snd {l : List (Int × Int)} (h : (l.map (·.2)).Nodup) {w v x : Int} (h1 : (w, x) ∈ l) (h2 : (v, x) ∈ l) : w = v := by
  obtain ⟨i, hi, ei⟩ := List.getElem_of_mem h1
  obtain ⟨j, hj, ej⟩ := List.getElem_of_mem h2
  have nd := List.pairwise_iff_getElem.mp h
  rcases Nat.lt_trichotomy i j with q | q | q
  · exact absurd (by rw [List.getElem_map, List.getElem_map, ei, ej]) (nd i j (by rw [List.length_map]; exact hi) (by rw [List.length_map]; exact hj) q)
  · subst q
    rw [ei] at ej
    exact (Prod.mk.inj ej).1
  · exact absurd (by rw [List.getElem_map, List.getElem_map, ei, ej]) (nd j i (by rw [List.length_map]; exact hj) (by rw [List.length_map]; exact hi) q)
theorem look_of {l : List (Int × Int)} (h : (l.map (·.1)).Nodup) {w x : Int} (m : (w, x) ∈ l) : lookF l w = some x := by
  cases e : lookF l w with
  | none => exact absurd (mem_keysF.mpr ⟨x, m⟩) (look_none e)
  | some y => rw [nodup_fst h m (look_some e)]
theorem drop_mem {l : List (Int × Int)} {w : Int} {p : Int × Int} : p ∈ dropF l w ↔ p ∈ l ∧ p.1 ≠ w := by
  unfold dropF
  rw [List.mem_filter]
  simp
theorem new_key {s : HS} (I : HInv s) : ¬ s.now + nextH s ∈ s.fly.map (·.1) := fun m => by
  have hl := next_let I
  have z := (I.bit (nextH s).toNat).mpr (by rw [Int.toNat_of_nonneg (lets_hgt hl).1]; exact m)
  rw [let_clear hl] at z
  cases z
theorem due_drop {due : List (Int × Int)} {s : HS} (d : Due due s) (hn : thingS s = none) : Due (dropF due s.now) (stepS s) := ⟨fun p hp => by
  obtain ⟨h1, h2⟩ := drop_mem.mp hp
  show p ∈ flyS s
  unfold flyS
  rw [hn]
  exact d.sub p h1⟩
theorem due_put {due : List (Int × Int)} {s : HS} {x : Int} (d : Due due s) (hn : thingS s = some x) : Due (dropF due s.now ++ [(s.now + nextH s, x)]) (stepS s) := ⟨fun p hp => by
  show p ∈ flyS s
  unfold flyS
  rw [hn]
  rcases List.mem_append.mp hp with h | h
  · obtain ⟨h1, h2⟩ := drop_mem.mp h
    exact List.mem_append_left _ (drop_mem.mpr ⟨d.sub p h1, h2⟩)
  · exact List.mem_append_right _ h⟩
theorem drop_none {due : List (Int × Int)} {w : Int} (h : lookF due w = none) : dropF due w = due := List.filter_eq_self.mpr fun p hp => by
  have : p.1 ≠ w := fun z => look_none h (z ▸ List.mem_map.mpr ⟨p, hp, rfl⟩)
  simpa using this
def sp_k13_l_caught (K : PySem.W.Frag) (c : Cs) : Sp := fun vs H Q _ => ∃ (l : Addr) (xs : List V) (nts : List Note) (s : HS), vs = [.ref l] ∧ SqL K H l xs ∧ xs.length < 90000 ∧ NotesAt K H xs nts ∧ LogOf nts s ∧ RetV (.bl true) H Q
/-- _law_caught: slots _law_log, _law_due, _law_turn, _law_row, _law_thing, _law_height -/
def t_k13_l_caught (K : PySem.W.Frag) (c : Cs) (E : XK) : TS :=
  (tSeq (tAsg tDNewK (gName 1))
  (tSeq (tAsg (tC (.int 0)) (gName 2))
  (tSeq (tFor (iSeq K (tSl (xSl K) (tVar 0) (tPart (tC (.int 1))) tNoPart)) (gName 3) (tIfS (tTest (tOp (xEq K) (tOp (rIx K) (tVar 3) (tC (.int 0))) (tC (.str "step")))) (tSeq (tAsg (tSl (xSl K) (tVar 3) (tPart (tC (.int 1))) tNoPart) (gTup K 2 (gCons (gName 4) (gCons (gName 5) gNil))))
  (tSeq (tIfS (tOr (tAnd (tB (tDIn (tVar 2) (tVar 1))) (tTest (tOp (xNe K) (tDPop1 (tVar 1) (tVar 2)) (tVar 4)))) (tTest (tOp (xNe K) (tOp xIsN (tVar 4) (tC .non)) (tOp (xEq K) (tVar 5) (tC (.int 0)))))) (tRet (tC (.bl false))) tNext)
  (tSeq (tIfS (tTest (tOp xNotN (tVar 4) (tC .non))) (tSeq (tIfS (tOr (tB (tDIn (tOp (xAdd K) (tVar 2) (tVar 5)) (tVar 1))) (tTest (tOp rInVals (tVar 4) (tVals (tVar 1))))) (tRet (tC (.bl false))) tNext)
  (sDPut (tVar 1) (tOp (xAdd K) (tVar 2) (tVar 5)) (tVar 4))) tNext)
  (tAsg (tOp (xAdd K) (tVar 2) (tC (.int 1))) (gName 2))))) tNext))
  (tRet (tC (.bl true))))))

section
variable {K : PySem.W.Frag} {c : Cs} {vs : List V} {H : Hp} {Q : VK} {E : XK}
theorem val_drop {due : List (Int × Int)} {w : Int} : valV (flyK due) (Sum.inl w) = (lookF due w).map V.int := flyK_val due w
theorem pure_k13_l_caught (h : sp_k13_l_caught K c vs H Q E) : t_k13_l_caught K c E { nx := fun _ H' => Q .non H', rt := Q } (start ["_law_log", "_law_due", "_law_turn", "_law_row", "_law_thing", "_law_height"] vs) H := by
  obtain ⟨l, xs, nts, s, rfl, hl, hlen, hN, hL, q⟩ := h
  have hl0 : nts.length = xs.length := hN.1.symm
  obtain ⟨ns0, rs, hnts, hg, hc, hok, hs⟩ := hL.ex
  have hx1 : 1 ≤ xs.length := by rw [← hl0, hnts, List.length_cons]; omega
  refine q_asgD fun d hd => ?_
  have eD := Ex.new (o := .dK []) hd
  refine q_asg (v := .int 0) ev_c fun H1 e1 => ?_
  have e01 := eD.trans e1
  have hcut : cutV xs (some 1) none = xs.drop 1 := by
    rw [cutV_from (by decide) (by omega)]
    rfl
  refine q_forN (xs := xs.drop 1) (by rw [← hcut]; exact el_slX (evs_of (ev_var (i := 0) rfl) (ex_l e01 hl)) (eo_some ev_c) eo_none) (fun b i σ' H' => H' b = some (.lst (xs.drop 1)) ∧ Ex H H' ∧ ∃ due s' u1 u2 u3, σ' = [some (.ref l), some (.ref d), some (.int s'.now), u1, u2, u3] ∧ H' d = some (.dK (flyK due)) ∧ due.length ≤ i ∧ LogOf (nts.take (i + 1)) s' ∧ Due due s') ?_ ?_ ?_ ?_
  · intro b H2 hb e2 h2
    refine ⟨h2, e01.trans e2, [], initS ns0, none, none, none, rfl, (e1.trans e2) _ _ upd_same, Nat.le_refl _, ?_, ⟨fun p hp => nomatch hp⟩⟩
    rw [hnts]
    exact log_beg hg hc
  · rintro b i σ' H' ⟨h, _⟩
    exact h
  · rintro b i x σ' H' hi ⟨hb', eH, due, s', u1, u2, u3, rfl, hd', hdl, hL', hD⟩
    rw [List.getElem?_drop, Nat.add_comm] at hi
    have hil := (List.getElem?_eq_some_iff.mp hi).1
    have hdlen : (xs.drop 1).length = xs.length - 1 := List.length_drop
    obtain ⟨nt, hnt⟩ : ∃ nt, nts[i + 1]? = some nt := ⟨_, List.getElem?_eq_getElem (by omega)⟩
    have hat := hN.2 (i + 1) x nt hi hnt
    obtain ⟨hok', hL2⟩ := hL.next (by omega) hnt hL'
    have I := hL'.inv
    have hbd : b ≠ d := ne_of hb' hd' (fun z => by cases z)
    have hldn : ∀ {u : V}, (∃ t ys, x = .ref t ∧ SqT K H' t ys) → True := fun _ => trivial
    cases nt with
    | beg ns => exact hok'.elim
    | chg ns =>
      obtain ⟨t, u, rfl, ht, hu⟩ := hat
      have ht' : SqT K H' t [.str "change", .ref u] := SqT.of (eH _ _ ht)
      refine s_when (b := false) (et_is (et_test (ev_op (ev_ix (i := 0) (evq_of (ev_var (i := 3) rfl) (.inr ht')) (fun _ _ => ev_c) atI_zero) ev_c (rv_eqV rfl))) (by decide +kernel)) (fun z => nomatch z) fun _ H2 e2 => ?_
      exact nx_mk ⟨e2 _ _ hb', eH.trans e2, due, nxt s' (.chg ns), _, _, _, rfl, e2 _ _ hd', by omega, hL2, ⟨hD.sub⟩⟩
    | stp th hh =>
      obtain ⟨t, rfl, ht⟩ := hat
      obtain ⟨rfl, rfl⟩ := hok'
      have ht' : SqT K H' t [.str "step", thV (thingS s'), .int (nextH s')] := SqT.of (eH _ _ ht)
      refine s_when (b := true) (et_is (et_test (ev_op (ev_ix (i := 0) (evq_of (ev_var (i := 3) rfl) (.inr ht')) (fun _ _ => ev_c) atI_zero) ev_c (rv_eqV rfl))) (by simp)) (fun _ H2 e2 => ?_) (fun z => nomatch z)
      have ht2 := ex_t e2 ht'
      refine (evw_sl (K := K) (σ := [some (.ref l), some (.ref d), some (.int s'.now), some (.ref t), u2, u3]) (te := tVar 3) (tl := tPart (tC (.int 1))) (th := tNoPart) (lo := some 1) (hi := none) (evw_of (ev_var (i := 3) rfl) ht2) (eo_some ev_c) eo_none) H2 (Ex.refl _) _ fun A H3 e3 hA => ?_
      have hA3 : SqT K H3 A [thV (thingS s'), .int (nextH s')] := hA
      refine ⟨A, _, rfl, hA3, rfl, _, _, rfl, _, _, rfl, rfl, ?_⟩
      have hd3 := (e2.trans e3) _ _ hd'
      have hb3 := (e2.trans e3) _ _ hb'
      have eH3 := (eH.trans e2).trans e3
      have hh9 := lets_hgt (next_let I)
      have ti := thing_iff I
      -- when what was due has come down
      have rest : ∀ H4, H4 b = some (.lst (xs.drop 1)) → Ex H H4 → H4 d = some (.dK (flyK (dropF due s'.now))) →
          (tIfS (tTest (tOp xNotN (tVar 4) (tC .non))) (tSeq (tIfS (tOr (tB (tDIn (tOp (xAdd K) (tVar 2) (tVar 5)) (tVar 1))) (tTest (tOp rInVals (tVar 4) (tVals (tVar 1))))) (tRet (tC (.bl false))) tNext)
  (sDPut (tVar 1) (tOp (xAdd K) (tVar 2) (tVar 5)) (tVar 4))) tNext) { nx := (tAsg (tOp (xAdd K) (tVar 2) (tC (.int 1))) (gName 2)) { nx := (fun σ' H' => H' b = some (.lst (xs.drop 1)) ∧ Ex H H' ∧ ∃ due s' u1 u2 u3, σ' = [some (.ref l), some (.ref d), some (.int s'.now), u1, u2, u3] ∧ H' d = some (.dK (flyK due)) ∧ due.length ≤ i + 1 ∧ LogOf (nts.take (i + 1 + 1)) s' ∧ Due due s'), rt := Q, ct := (fun σ' H' => H' b = some (.lst (xs.drop 1)) ∧ Ex H H' ∧ ∃ due s' u1 u2 u3, σ' = [some (.ref l), some (.ref d), some (.int s'.now), u1, u2, u3] ∧ H' d = some (.dK (flyK due)) ∧ due.length ≤ i + 1 ∧ LogOf (nts.take (i + 1 + 1)) s' ∧ Due due s'), bk := (tRet (tC (.bl true))) { nx := fun _ H' => Q .non H', rt := Q } }, rt := Q, ct := (fun σ' H' => H' b = some (.lst (xs.drop 1)) ∧ Ex H H' ∧ ∃ due s' u1 u2 u3, σ' = [some (.ref l), some (.ref d), some (.int s'.now), u1, u2, u3] ∧ H' d = some (.dK (flyK due)) ∧ due.length ≤ i + 1 ∧ LogOf (nts.take (i + 1 + 1)) s' ∧ Due due s'), bk := (tRet (tC (.bl true))) { nx := fun _ H' => Q .non H', rt := Q } } [some (.ref l), some (.ref d), some (.int s'.now), some (.ref t), some (thV (thingS s')), some (.int (nextH s'))] H4 := by
        intro H4 hb4 e4 hd4
        have dl : (dropF due s'.now).length ≤ due.length := List.length_filter_le _ _
        have fin : ∀ (due2 : List (Int × Int)) H5, H5 b = some (.lst (xs.drop 1)) → Ex H H5 → H5 d = some (.dK (flyK due2)) → due2.length ≤ i + 1 → Due due2 (stepS s') → (tAsg (tOp (xAdd K) (tVar 2) (tC (.int 1))) (gName 2)) { nx := (fun σ' H' => H' b = some (.lst (xs.drop 1)) ∧ Ex H H' ∧ ∃ due s' u1 u2 u3, σ' = [some (.ref l), some (.ref d), some (.int s'.now), u1, u2, u3] ∧ H' d = some (.dK (flyK due)) ∧ due.length ≤ i + 1 ∧ LogOf (nts.take (i + 1 + 1)) s' ∧ Due due s'), rt := Q, ct := (fun σ' H' => H' b = some (.lst (xs.drop 1)) ∧ Ex H H' ∧ ∃ due s' u1 u2 u3, σ' = [some (.ref l), some (.ref d), some (.int s'.now), u1, u2, u3] ∧ H' d = some (.dK (flyK due)) ∧ due.length ≤ i + 1 ∧ LogOf (nts.take (i + 1 + 1)) s' ∧ Due due s'), bk := (tRet (tC (.bl true))) { nx := fun _ H' => Q .non H', rt := Q } } [some (.ref l), some (.ref d), some (.int s'.now), some (.ref t), some (thV (thingS s')), some (.int (nextH s'))] H5 := by
          intro due2 H5 hb5 e5 hd5 hl5 hD5
          refine s_asg (v := .int (s'.now + 1)) (ev_op (ev_var (i := 2) rfl) ev_c rv_addI) fun H6 e6 => ?_
          exact ⟨e6 _ _ hb5, e5.trans e6, due2, stepS s', _, _, _, rfl, e6 _ _ hd5, hl5, hL2, hD5⟩
        cases hth : thingS s' with
        | none =>
          refine s_when (b := false) (et_is (et_test (ev_op (ev_var (i := 4) rfl) ev_c rv_notN)) rfl) (fun z => nomatch z) fun _ H5 e5 => ?_
          have z := fin (dropF due s'.now) H5 (e5 _ _ hb4) (e4.trans e5) (e5 _ _ hd4) (by omega) (due_drop hD hth)
          rw [hth] at z
          exact nx_mk z
        | some y =>
          refine s_when (b := true) (et_is (et_test (ev_op (ev_var (i := 4) rfl) ev_c rv_notN)) rfl) (fun _ H5 e5 => ?_) (fun z => nomatch z)
          have hd5 := e5 _ _ hd4
          have nk : lookF (dropF due s'.now) (s'.now + nextH s') = none := by
            cases e : lookF (dropF due s'.now) (s'.now + nextH s') with
            | none => rfl
            | some w => exact absurd (mem_keysF.mpr ⟨w, hD.sub _ (drop_mem.mp (look_some e)).1⟩) (new_key I)
          have nv : ¬ y ∈ (dropF due s'.now).map (·.2) := fun m => by
            obtain ⟨p, hp, e⟩ := List.mem_map.mp m
            obtain ⟨h1, h2⟩ := drop_mem.mp hp
            have h3 := hD.sub p h1
            have h4 : (s'.now, y) ∈ s'.fly := look_some hth
            exact h2 (nodup_snd I.nt (x := y) (by rw [← e]; exact h3) h4)
          refine (et_or (t := tB (tDIn (tOp (xAdd K) (tVar 2) (tVar 5)) (tVar 1))) (σ := [some (.ref l), some (.ref d), some (.int s'.now), some (.ref t), some (thV (some y)), some (.int (nextH s'))]) (a := false) (b := false) (et_is (et_B (ev_din (k := Sum.inl (s'.now + nextH s')) (ev_op (ev_var (i := 2) rfl) (ev_var (i := 5) rfl) rv_addI) (ev_var (i := 1) rfl) hd5)) (by rw [flyK_val, nk]; rfl)) fun _ => ?_) H5 (Ex.refl _) _ fun H6 e6 => ?_
          · intro H6 e6 Q' q'
            refine ⟨_, rfl, _, rfl, d, flyK (dropF due s'.now), rfl, e6 _ _ hd5, fun p hp => ⟨y, p, d, flyK (dropF due s'.now), (dropF due s'.now).map (·.2), rfl, rfl, upd_same, (Ex.new hp) _ _ (e6 _ _ hd5), by unfold flyK; rw [List.map_map, List.map_map]; rfl, ?_⟩⟩
            rw [decide_eq_false nv]
            exact ⟨false, rfl, q' _ (Ex.new hp)⟩
          · refine nx_mk ?_
            refine s_dput (a := d) (k := Sum.inl (s'.now + nextH s')) (v := .int y) (ev_var (i := 4) rfl) (ev_var (i := 1) rfl) (ev_op (ev_var (i := 2) rfl) (ev_var (i := 5) rfl) rv_addI) (e6 _ _ hd5) (by unfold flyK; rw [List.length_map]; omega) fun H7 e7 => ?_
            have nk' : ¬ s'.now + nextH s' ∈ (dropF due s'.now).map (·.1) := look_none nk
            have e57 := e6.trans e7
            have z := fin (dropF due s'.now ++ [(s'.now + nextH s', y)]) (upd H7 d (.dK (putK (flyK (dropF due s'.now)) (Sum.inl (s'.now + nextH s')) (.int y)))) ((upd_ne hbd).trans (e57 _ _ (e5 _ _ hb4))) (Ex.mut ((e4.trans e5).trans e57) hd) (by rw [flyK_put nk']; exact upd_same) (by rw [List.length_append]; show _ + 1 ≤ i + 1; omega) (due_put hD hth)
            rw [hth] at z
            exact nx_mk z
      -- whether the thing and the height fit
      have second : ∀ H4, EvT (tTest (tOp (xNe K) (tOp xIsN (tVar 4) (tC .non)) (tOp (xEq K) (tVar 5) (tC (.int 0))))) [some (.ref l), some (.ref d), some (.int s'.now), some (.ref t), some (thV (thingS s')), some (.int (nextH s'))] H4 false := fun H4 => by
        refine et_is (et_test (ev_op (ev_op (ev_var (i := 4) rfl) ev_c rv_isN) (ev_op (ev_var (i := 5) rfl) ev_c rv_eqI) (rv_neV rfl))) ?_
        cases hth : thingS s' with
        | none =>
          rw [hth] at ti
          have : ¬ 0 < nextH s' := fun z => by have := ti.mpr z; cases this
          rw [decide_eq_true (show nextH s' = 0 by omega)]
          rfl
        | some y =>
          rw [hth] at ti
          have := ti.mp rfl
          rw [decide_eq_false (show ¬ nextH s' = 0 by omega)]
          rfl
      refine (et_B (te := tDIn (tVar 2) (tVar 1)) (σ := [some (.ref l), some (.ref d), some (.int s'.now), some (.ref t), some (thV (thingS s')), some (.int (nextH s'))]) (ev_din (k := Sum.inl s'.now) (ev_var (i := 2) rfl) (ev_var (i := 1) rfl) hd3)) H3 (Ex.refl _) _ fun H4 e4 => ?_
      rw [flyK_val]
      have hd4 := e4 _ _ hd3
      have hb4 := e4 _ _ hb3
      have eH4 := eH3.trans e4
      cases hlk : lookF due s'.now with
      | none =>
        refine (second H4) H4 (Ex.refl _) _ fun H5 e5 => ?_
        exact nx_mk (rest H5 (e5 _ _ hb4) (eH4.trans e5) (by rw [drop_none hlk]; exact e5 _ _ hd4))
      | some y =>
        have hy : thingS s' = some y := look_of I.nd (hD.sub _ (look_some hlk))
        refine ⟨_, rfl, d, rfl, .inl ⟨_, .inl hd4⟩, _, rfl, flyK due, Sum.inl s'.now, .int y, hd4, rfl, by rw [flyK_val, hlk]; rfl, _, rfl, .inl ⟨by rw [hy]; rfl, ?_⟩⟩
        rw [hy]
        refine ⟨false, by simp [thV], ?_⟩
        have e5 : Ex H (upd H4 d (.dK (dropK (flyK due) (Sum.inl s'.now)))) := Ex.mut eH4 hd
        have z := second (upd H4 d (.dK (dropK (flyK due) (Sum.inl s'.now))))
        rw [hy] at z
        refine z _ (Ex.refl _) _ fun H5 e6 => ?_
        have r := rest H5 (e6 _ _ ((upd_ne hbd).trans hb4)) (e5.trans e6) (by rw [← flyK_drop]; exact e6 _ _ upd_same)
        rw [hy] at r
        exact nx_mk r
  · rintro b σ' H' ⟨_, eH, due, s', u1, u2, u3, rfl, _⟩
    exact s_ret (v := .bl true) ev_c fun H2 e2 => q H2 (eH.trans e2)
end
end Tr

/-! Law k13: rows spoilt. -/
namespace Tr
open PySem L2 PySem.Spec PyProof.Rows Evl

/-! ### things have small numbers -/
def Small (s : HS) : Prop := ∀ x ∈ s.fly.map (·.2), x < 17
theorem small_init (ns : List Int) : Small (initS ns) := fun x hx => by
  have hx' : x ∈ (bitFly (upS ns) 10).map (·.2) := hx
  rw [bitFly_things] at hx'
  obtain ⟨k, hk, rfl⟩ := List.mem_map.mp hx'
  have hk := List.mem_range.mp hk
  have bl : ∀ n, (bitFly (upS ns) n).length ≤ n := fun n => by
    induction n with
    | zero => exact Nat.le_refl _
    | succ n ih =>
      unfold bitFly
      split
      · rw [List.length_append]; show _ + 1 ≤ n + 1; omega
      · omega
  have := bl 10
  omega
theorem small_step {s : HS} (h : Small s) : Small (stepS s) := fun x hx => by
  have hx' : x ∈ (flyS s).map (·.2) := hx
  unfold flyS at hx'
  cases ht : thingS s with
  | none => rw [ht] at hx'; exact h x hx'
  | some y =>
    rw [ht] at hx'
    have hx' : x ∈ (dropF s.fly s.now ++ [(s.now + nextH s, y)]).map (·.2) := hx'
    rw [List.map_append, List.mem_append] at hx'
    rcases hx' with hm | hm
    · obtain ⟨p, hp, rfl⟩ := List.mem_map.mp hm
      exact h _ (List.mem_map.mpr ⟨p, (drop_mem.mp hp).1, rfl⟩)
    · have : x = y := by simpa using hm
      subst this
      exact h _ (List.mem_map.mpr ⟨_, look_some ht, rfl⟩)
theorem small_nxt {s : HS} (h : Small s) (n : Note) : Small (nxt s n) := by
  cases n with
  | beg ns => exact h
  | chg ns => exact h
  | stp th x => exact small_step h
theorem small_play : ∀ {l : List Note} {s : HS}, Small s → Small (playF s l)
  | [], _, h => h
  | n :: l, s, h => small_play (l := l) (s := nxt s n) (small_nxt h n)
theorem LogOf.small {nts : List Note} {s : HS} (h : LogOf nts s) : Small s := by
  obtain ⟨ns, rest, _, _, _, _, rfl⟩ := h.ex
  exact small_play (small_init ns)
/-- a part of a thing that can be compared -/
def IsE (K : PySem.W.Frag) (H : Hp) (v : V) : Prop := ∃ d, Dp K H v d ∧ Flat 9 d
theorem IsE.ex {K : PySem.W.Frag} {H H' : Hp} {v : V} (e : Ex H H') (h : IsE K H v) : IsE K H' v := let ⟨d, a, b⟩ := h; ⟨d, dp_ex e a, b⟩
theorem isE_all {K : PySem.W.Frag} {H : Hp} : ∀ {xs : List V}, (∀ x ∈ xs, IsE K H x) → ∃ ds, DpAll K H xs ds ∧ ∀ d ∈ ds, Flat 9 d
  | [], _ => ⟨[], .nil, fun d hd => absurd hd List.not_mem_nil⟩
  | x :: xs, h => by
    obtain ⟨d, h1, h2⟩ := h x List.mem_cons_self
    obtain ⟨ds, h3, h4⟩ := isE_all fun y hy => h y (List.mem_cons_of_mem _ hy)
    exact ⟨d :: ds, .cons h1 h3, fun e he => (List.mem_cons.mp he).elim (fun z => z ▸ h2) (h4 e)⟩
theorem isD_t {K : PySem.W.Frag} {H : Hp} {t : Addr} {xs : List V} (h : SqT K H t xs) (hx : ∀ x ∈ xs, IsE K H x) : IsD K H (.ref t) := by
  obtain ⟨ds, h1, h2⟩ := isE_all hx
  exact ⟨.tuple ds, .tup h h1, flat_tuple h2⟩
theorem isD_l {K : PySem.W.Frag} {H : Hp} {t : Addr} {xs : List V} (h : SqL K H t xs) (hx : ∀ x ∈ xs, IsE K H x) : IsD K H (.ref t) := by
  obtain ⟨ds, h1, h2⟩ := isE_all hx
  exact ⟨.list ds, .lst h h1, flat_list h2⟩
theorem isE_int {K : PySem.W.Frag} {H : Hp} {i : Int} : IsE K H (.int i) := ⟨_, .int i, flat_int.mono (by decide)⟩
theorem isE_bl {K : PySem.W.Frag} {H : Hp} {i : Bool} : IsE K H (.bl i) := ⟨_, .bl i, flat_bl.mono (by decide)⟩
theorem isE_th {K : PySem.W.Frag} {H : Hp} {y : Option Int} : IsE K H (thV y) := ⟨_, dp_th y, (flat_th y).mono (by decide)⟩
theorem isE_str {K : PySem.W.Frag} {H : Hp} {w : Str} (h : PyData.strOk w = true) : IsE K H (.str w) := ⟨_, .str w, (flat_str h).mono (by decide)⟩
theorem isE_intsT {K : PySem.W.Frag} {H : Hp} {u : Addr} {ns : List Int} (h : SqT K H u (ns.map V.int)) : IsE K H (.ref u) := ⟨_, .tup h (dpa_ints _), flat_intsT.mono (by decide)⟩
theorem isE_intsL {K : PySem.W.Frag} {H : Hp} {u : Addr} {ns : List Int} (h : SqL K H u (ns.map V.int)) : IsE K H (.ref u) := ⟨_, .lst h (dpa_ints _), flat_ints.mono (by decide)⟩
def GD (K : PySem.W.Frag) (B : HP) : HP := fun v H => IsD K H v ∧ B v H
theorem gd_mon {K : PySem.W.Frag} {B : HP} (h : Mon B) : Mon (GD K B) := fun v H H' e z => ⟨z.1.ex e, h _ _ _ e z.2⟩
def EgA (G : HP) (n : Nat) (ta : TA) (σ : L2.St) (H : Hp) : Prop := ∀ H1, Ex H H1 → ∀ Q : List V → Hp → Prop, (∀ vs H2, Ex H1 H2 → vs.length = n → (∀ x ∈ vs, G x H2) → Q vs H2) → ta σ H1 Q
def EvLB (G : HP) (n : Nat) (te : TE) (σ : L2.St) (H : Hp) : Prop := ∀ H1, Ex H H1 → ∀ Q : VK, (∀ l xs H2, H1 l = none → Ex H1 H2 → H2 l = some (.lst xs) → xs.length = n → (∀ x ∈ xs, G x (del H2 l)) → Q (.ref l) H2) → te σ H1 Q
theorem exd_back {H : Hp} {l : Addr} : Ex (del H l) H := fun b o hb => by
  unfold del at hb
  split at hb
  · cases hb
  · exact hb
theorem ex_del_new {H : Hp} {p : Addr} {o : HO} (hp : H p = none) : Ex H (del (upd H p o) p) := fun b u hb => by
  have : b ≠ p := ne_of_none hb hp
  unfold del
  rw [if_neg this, upd_ne this, hb]
section
variable {K : PySem.W.Frag} {G B : HP} {σ : L2.St} {H : Hp} {te tb : TE} {ta : TA} {xs ys : List V}
theorem ega_nil : EgA G 0 tNil σ H := fun H1 _ _ q => q [] H1 (Ex.refl H1) rfl fun x hx => absurd hx List.not_mem_nil
theorem ega_cons {n : Nat} (hm : Mon G) (h : EvP G te σ H) (hr : EgA G n ta σ H) : EgA G (n + 1) (tCons te ta) σ H := fun H1 e _ q =>
  h H1 e _ fun v H2 e2 p => hr H2 (e.trans e2) _ fun vs H3 e3 hl r => q _ H3 (e2.trans e3) (by rw [List.length_cons, hl]) fun x hx => (List.mem_cons.mp hx).elim (fun z => z ▸ hm v H2 H3 e3 p) (r x)
theorem eb_lst {n : Nat} (hm : Mon G) (h : EgA G n ta σ H) (hl : n ≤ 1000) : EvLB G n (tLst ta) σ H := fun H1 e Q q =>
  h H1 e _ fun vs H2 e2 hlen r => ⟨sz_of (by omega), fun p hp => q p vs _ (fresh_of e2 hp) (e2.trans (Ex.new hp)) upd_same hlen fun x hx => hm _ _ _ (ex_del_new hp) (r x hx)⟩
theorem eb_cat {n : Nat} {a : Addr} (hm : Mon G) (ha : Ev te σ H (.ref a)) (hx : H a = some (.lst xs)) (hg : ∀ x ∈ xs, G x H) (hb : EvLB G n tb σ H) (hl : xs.length + n ≤ 1000) : EvLB G (xs.length + n) (tOp (xAdd K) te tb) σ H := fun H1 e Q q =>
  ha H1 e _ fun H2 e2 => hb H2 (e.trans e2) _ fun b zs H3 hb3 e3 h3 hlen r => .inr (.inr (.inl ⟨a, b, xs, zs, rfl, rfl, SqL.of (e3 _ _ (e2 _ _ (e _ _ hx))), SqL.of h3, sz_of (by omega), fun p hp =>
    q p _ _ (fresh_of (e2.trans e3) hp) ((e2.trans e3).trans (Ex.new hp)) upd_same (by rw [List.length_append, hlen]) fun x hx' => (List.mem_append.mp hx').elim (fun m => hm _ _ _ (((e.trans e2).trans e3).trans (ex_del_new hp)) (hg x m)) fun m => hm _ _ _ (exd_back.trans (ex_del_new hp)) (r x m)⟩))
/-- tuples joined -/
theorem evw_cat (ha : EvW K te σ H xs) (hb : EvW K tb σ H ys) (hx : xs ≠ []) (hy : ys ≠ []) (hl : xs.length + ys.length ≤ 1000) : EvW K (tOp (xAdd K) te tb) σ H (xs ++ ys) := fun H1 e Q q =>
  ha H1 e _ fun a H2 e2 h2 => hb H2 (e.trans e2) _ fun b H3 e3 h3 => .inr (.inr (.inr ⟨a, b, xs, ys, rfl, rfl, ex_t e3 h2, h3, sz_of (by omega), fun z => absurd z hx, fun _ z => absurd z hy, fun _ _ p hp => q p _ ((e2.trans e3).trans (Ex.new hp)) (SqT.of upd_same)⟩))
theorem evp_ofW {P : HP} (h : EvW K te σ H xs) (k : ∀ a H', Ex H H' → SqT K H' a xs → P (.ref a) H') : EvP P te σ H := fun H1 e Q q => h H1 e _ fun a H2 e2 hs => q _ H2 e2 (k a H2 (e.trans e2) hs)
theorem evp_ofL {P : HP} (h : EvL te σ H xs) (k : ∀ a H', Ex H H' → SqL K H' a xs → P (.ref a) H') : EvP P te σ H := fun H1 e Q q => h H1 e _ fun a H2 _ e2 hs => q _ H2 e2 (k a H2 (e.trans e2) (SqL.of hs))
theorem evp_ofE {P : HP} {v : V} (h : Ev te σ H v) (k : ∀ H', Ex H H' → P v H') : EvP P te σ H := fun H1 e Q q => h H1 e _ fun H2 e2 => q _ H2 e2 (k H2 (e.trans e2))
/-- (w, (..)), (w, [..]) -/
theorem ep_pair {P : HP} {w : V} (h : ∀ H1, Ex H H1 → Ev te σ H1 w) (h2 : EvW K tb σ H xs) (k : ∀ t u H', Ex H H' → SqT K H' t [w, .ref u] → SqT K H' u xs → P (.ref t) H') : EvP P (tTup (tCons te (tCons tb tNil))) σ H := fun H1 e Q q =>
  h H1 e H1 (Ex.refl _) _ fun H2 e2 => h2 H2 (e.trans e2) _ fun u H3 e3 hu => ⟨sz_of (show 2 ≤ 100000 by decide), fun p hp => q _ _ ((e2.trans e3).trans (Ex.new hp)) (k p u _ (((e.trans e2).trans e3).trans (Ex.new hp)) (SqT.of upd_same) (ex_t (Ex.new hp) hu))⟩
theorem ep_pairL {P : HP} {w : V} (h : ∀ H1, Ex H H1 → Ev te σ H1 w) (h2 : EvL tb σ H xs) (k : ∀ t u H', Ex H H' → SqT K H' t [w, .ref u] → SqL K H' u xs → P (.ref t) H') : EvP P (tTup (tCons te (tCons tb tNil))) σ H := fun H1 e Q q =>
  h H1 e H1 (Ex.refl _) _ fun H2 e2 => h2 H2 (e.trans e2) _ fun u H3 _ e3 hu => ⟨sz_of (show 2 ≤ 100000 by decide), fun p hp => q _ _ ((e2.trans e3).trans (Ex.new hp)) (k p u _ (((e.trans e2).trans e3).trans (Ex.new hp)) (SqT.of upd_same) (ex_l (Ex.new hp) (SqL.of hu)))⟩
theorem notTup_non : NotTup K H .non := ⟨"NoneType", .base .non, by decide +kernel⟩
theorem notTup_str {w : Str} : NotTup K H (.str w) := ⟨"str", .base (.str w), by decide +kernel⟩
theorem notTup_l {l : Addr} (h : SqL K H l xs) : NotTup K H (.ref l) := ⟨"list", tyx_l h, by decide +kernel⟩
end
def sp_k13_l_spoilt (K : PySem.W.Frag) (c : Cs) : Sp := fun vs H Q _ => ∃ (x : V) (cell : Int) (n : Note), vs = [x, .int cell] ∧ NoteAt K H x n ∧
  ((∃ ns, n = .beg ns ∧ RetP (GD K fun v H => BadFirst K H v) H Q) ∨ ∃ s, HInv s ∧ Small s ∧ okN s n ∧ RetP (GD K fun v H => BadRow K H s v) H Q)
/-- _law_spoilt: slots _law_row, _law_cell, _law_some -/
def t_k13_l_spoilt (K : PySem.W.Frag) (c : Cs) (E : XK) : TS :=
  (tSeq (tAsg (tLst (tCons (tC .non) (tCons (tCB (cList K) (tCons (tVar 0) tNil)) (tCons (tOp (xAdd K) (tVar 0) (tTup (tCons (tC (.int 1)) tNil))) (tCons (tSl (xSl K) (tVar 0) tNoPart (tPart (tC (.int 1)))) (tCons (tOp (xAdd K) (tTup (tCons (tC (.str "stop")) tNil)) (tSl (xSl K) (tVar 0) (tPart (tC (.int 1))) tNoPart)) (tCons (tC (.str "step")) tNil))))))) (gName 2))
  (tSeq (tIfS (tTest (tOp (xNe K) (tOp (rIx K) (tVar 0) (tC (.int 0))) (tC (.str "begin")))) (tAsg (tOp (xAdd K) (tVar 2) (tLst (tCons (tTup (tCons (tC (.str "begin")) (tCons (tTup (tCons (tC (.int 4)) (tCons (tC (.int 4)) (tCons (tC (.int 1)) tNil)))) tNil))) (tCons (tTup (tCons (tC (.str "begin")) (tCons (tTup (tCons (tC (.int 3)) tNil)) tNil))) tNil)))) (gName 2)) (tAsg (tOp (xAdd K) (tVar 2) (tLst (tCons (tTup (tCons (tC (.str "change")) (tCons (tOp (rIx K) (tVar 0) (tC (.int 1))) tNil))) (tCons (tTup (tCons (tC (.str "step")) (tCons (tC (.int 0)) (tCons (tC (.int 1)) tNil)))) tNil)))) (gName 2)))
  (tSeq (tIfS (tTest (tOp (xEq K) (tOp (rIx K) (tVar 0) (tC (.int 0))) (tC (.str "step")))) (tSeq (tAsg (tOp (xAdd K) (tVar 2) (tLst (tCons (tTup (tCons (tC (.str "step")) (tCons (tOp (rIx K) (tVar 0) (tC (.int 1))) (tCons (tOp xMod (tOp (xAdd K) (tOp (rIx K) (tVar 0) (tC (.int 2))) (tC (.int 1))) (tC (.int 10))) tNil)))) (tCons (tTup (tCons (tC (.str "step")) (tCons (tC (.int 17)) (tCons (tOp (rIx K) (tVar 0) (tC (.int 2))) tNil)))) tNil)))) (gName 2))
  (tSeq (tIfS (tTest (tOp (xIn K) (tOp (rIx K) (tVar 0) (tC (.int 1))) (tLst (tCons (tC (.int 0)) (tCons (tC (.int 1)) tNil))))) (tDrop (tBM K "list" rAppend (tVar 2) (tCons (tTup (tCons (tC (.str "step")) (tCons (tOp (xEq K) (tOp (rIx K) (tVar 0) (tC (.int 1))) (tC (.int 1))) (tCons (tOp (rIx K) (tVar 0) (tC (.int 2))) tNil)))) tNil))) tNext)
  (tIfS (tTest (tOp (xEq K) (tOp (rIx K) (tVar 0) (tC (.int 2))) (tC (.int 1)))) (tDrop (tBM K "list" rAppend (tVar 2) (tCons (tTup (tCons (tC (.str "step")) (tCons (tOp (rIx K) (tVar 0) (tC (.int 1))) (tCons (tC (.bl true)) tNil)))) tNil))) tNext))) (tAsg (tOp (xAdd K) (tVar 2) (tLst (tCons (tTup (tCons (tOp (rIx K) (tVar 0) (tC (.int 0))) (tCons (tTup (tCons (tC (.int 5)) (tCons (tC (.int 4)) tNil))) tNil))) (tCons (tTup (tCons (tOp (rIx K) (tVar 0) (tC (.int 0))) (tCons (tCB (cList K) (tCons (tOp (rIx K) (tVar 0) (tC (.int 1))) tNil)) tNil))) (tCons (tTup (tCons (tOp (rIx K) (tVar 0) (tC (.int 0))) (tCons (tTup (tCons (tC (.int 10)) tNil)) tNil))) tNil))))) (gName 2)))
  (tRet (tOp (rIx K) (tVar 2) (tOp xMod (tVar 1) (tCB (cLen K) (tCons (tVar 2) tNil))))))))

section
variable {K : PySem.W.Frag} {c : Cs} {vs : List V} {H : Hp} {Q : VK} {E : XK} {B : HP} {σ : L2.St} {t : Addr} {ys : List V}
theorem cut1 {w : V} {ys : List V} : cutV (w :: ys) (some 1) none = ys := by
  rw [cutV_from (by decide) (by rw [List.length_cons]; omega)]
  rfl
theorem cut01 {w : V} {ys : List V} : cutV (w :: ys) none (some 1) = [w] := by
  rw [cutV_up (by decide)]
  rfl
/-- the six first -/
theorem six {w : V} (hm : Mon B) (h0 : σ[0]? = some (some (.ref t))) (ht : SqT K H t (w :: ys)) (hy0 : ys ≠ []) (hyl : ys.length ≤ 10) (hD : ∀ x ∈ w :: ys, IsE K H x) (gN : ∀ v H', Ex H H' → NotTup K H' v → B v H') (gC : ∀ a H', Ex H H' → SqT K H' a ((w :: ys) ++ [.int 1]) → B (.ref a) H') (g1 : ∀ a H', SqT K H' a [w] → B (.ref a) H') (gS : ∀ a H', Ex H H' → SqT K H' a (.str "stop" :: ys) → B (.ref a) H') :
    EvLB (GD K B) 6 (tLst (tCons (tC .non) (tCons (tCB (cList K) (tCons (tVar 0) tNil)) (tCons (tOp (xAdd K) (tVar 0) (tTup (tCons (tC (.int 1)) tNil))) (tCons (tSl (xSl K) (tVar 0) tNoPart (tPart (tC (.int 1)))) (tCons (tOp (xAdd K) (tTup (tCons (tC (.str "stop")) tNil)) (tSl (xSl K) (tVar 0) (tPart (tC (.int 1))) tNoPart)) (tCons (tC (.str "step")) tNil))))))) σ H := by
  have gm := gd_mon (K := K) hm
  have hDe : ∀ {H' : Hp}, Ex H H' → ∀ x ∈ w :: ys, IsE K H' x := fun e x hx => (hD x hx).ex e
  have row : EvW K (tVar 0) σ H (w :: ys) := evw_of (ev_var h0) ht
  refine eb_lst gm (ega_cons gm (evp_ofE ev_c fun H' e => ⟨⟨_, .non, flat_non.mono (by decide)⟩, gN _ _ e notTup_non⟩) (ega_cons gm (evp_ofL (el_listQ (evq_w row)) fun a H' e h => ⟨isD_l h (hDe e), gN _ _ e (notTup_l h)⟩) (ega_cons gm (evp_ofW (evw_cat row (evw_new (eu_tup (ea_cons ev_c ea_nil) (by show 1 ≤ 100000; decide))) (by simp) (by simp) (by rw [List.length_cons]; show ys.length + 1 + 1 ≤ 1000; omega)) fun a H' e h => ⟨isD_t h fun x hx => ?_, gC _ _ e h⟩) (ega_cons gm (evp_ofW (evw_sl row eo_none (eo_some ev_c)) fun a H' e h => ?_) (ega_cons gm (evp_ofW (evw_cat (xs := [.str "stop"]) (ys := ys) (evw_new (eu_tup (ea_cons ev_c ea_nil) (by show 1 ≤ 100000; decide))) ?_ (by simp) hy0 (by show 1 + ys.length ≤ 1000; omega)) fun a H' e h => ⟨isD_t h fun x hx => ?_, gS _ _ e h⟩) (ega_cons gm (evp_ofE ev_c fun H' e => ⟨⟨_, .str _, (flat_str (by decide +kernel)).mono (by decide)⟩, gN _ _ e notTup_str⟩) ega_nil)))))) (by decide)
  · rcases List.mem_append.mp hx with m | m
    · exact hDe e x m
    · rw [List.mem_singleton.mp m]
      exact isE_int
  · rw [cut01] at h
    exact ⟨isD_t h fun x hx => hDe e x (by rw [List.mem_singleton.mp hx]; exact List.mem_cons_self), g1 _ _ h⟩
  · have z := evw_sl (K := K) (tl := tPart (tC (.int 1))) (th := tNoPart) row (eo_some ev_c) eo_none
    rw [cut1] at z
    exact z
  · rcases List.mem_cons.mp hx with rfl | m
    · exact isE_str (by decide +kernel)
    · exact hDe e x (List.mem_cons_of_mem _ m)
/-- some = some + [..] -/
theorem q_more {n : Nat} {l : Addr} {xs : List V} {tb : TE} {tz : TS} {D : Ends} {H0 : Hp} (hm : Mon B) (h2 : σ[2]? = some (some (.ref l))) (hl0 : H0 l = none) (e0 : Ex H0 H) (hx : H l = some (.lst xs)) (hg : ∀ x ∈ xs, GD K B x (del H l)) (hb : EvLB (GD K B) n tb σ H) (hn : xs.length + n ≤ 1000)
    (k : ∀ p zs H1, H0 p = none → Ex H0 H1 → Ex H H1 → H1 p = some (.lst zs) → zs.length = xs.length + n → (∀ x ∈ zs, GD K B x (del H1 p)) → tz D (σ.set 2 (some (.ref p))) H1) : tSeq (tAsg (tOp (xAdd K) (tVar 2) tb) (gName 2)) tz D σ H :=
  (eb_cat (gd_mon hm) (ev_var h2) hx (fun x m => gd_mon hm _ _ _ exd_back (hg x m)) hb hn) H (Ex.refl _) _ fun p zs H1 hp e1 h1 hlen r => k p zs H1 (fresh_of e0 hp) (e0.trans e1) e1 h1 hlen r
/-- .. the last of which goes out -/
theorem last_of {l : Addr} {xs : List V} {D : Ends} {H0 : Hp} {cell : Int} (hm : Mon B) (h1 : σ[1]? = some (some (.int cell))) (h2 : σ[2]? = some (some (.ref l))) (hx : H l = some (.lst xs)) (hx0 : 0 < xs.length) (hg : ∀ x ∈ xs, GD K B x (del H l)) (e0 : Ex H0 H) (q : RetP (GD K B) H0 D.rt) :
    (tRet (tOp (rIx K) (tVar 2) (tOp xMod (tVar 1) (tCB (cLen K) (tCons (tVar 2) tNil))))) D σ H := by
  have b0 : 0 ≤ cell % (xs.length : Int) := Int.emod_nonneg _ (by omega)
  have b1 : cell % (xs.length : Int) < xs.length := Int.emod_lt_of_pos _ (by omega)
  have hq : EvQ K (tVar 2) σ H xs := evq_of (ev_var h2) (.inl (SqL.of hx))
  have hi : (cell % (xs.length : Int)).toNat < xs.length := by omega
  refine s_ret (v := xs[(cell % (xs.length : Int)).toNat]) (ev_ix (i := cell % (xs.length : Int)) hq (fun H' e' => ev_op (ev_var h1) (ev_lenQ (evq_of (ev_var h2) (.inl (SqL.of (e' _ _ hx))))) (rv_mod (by omega))) (at_lt (n := 0) b0 b1 (List.getElem?_eq_getElem hi))) fun H1 e1 => q _ H1 (e0.trans e1) (gd_mon hm _ _ _ (exd_back.trans e1) (hg _ (List.getElem_mem hi)))
end
end Tr

/-! Law k13: a row spoilt. -/
namespace Tr
open PySem L2 PySem.Spec PyProof.Rows Evl

theorem del_ex {H H' : Hp} {l : Addr} (e : Ex H H') : Ex (del H l) (del H' l) := fun b o hb => by
  unfold del at hb ⊢
  split at hb
  · cases hb
  · rename_i hne
    rw [if_neg hne]
    exact e _ _ hb
theorem q_asgB {G : HP} {n i : Nat} {te : TE} {σ : L2.St} {H : Hp} {D : Ends} {tz : TS} (h : EvLB G n te σ H) (k : ∀ l xs H1, H l = none → Ex H H1 → H1 l = some (.lst xs) → xs.length = n → (∀ x ∈ xs, G x (del H1 l)) → tz D (σ.set i (some (.ref l))) H1) : tSeq (tAsg te (gName i)) tz D σ H := h H (Ex.refl _) _ k
/-- some = some + [..] -/
theorem s_more {K : PySem.W.Frag} {B : HP} {σ : L2.St} {H : Hp} {n : Nat} {l : Addr} {xs : List V} {tb : TE} {D : Ends} {H0 : Hp} (hm : Mon B) (h2 : σ[2]? = some (some (.ref l))) (hl0 : H0 l = none) (e0 : Ex H0 H) (hx : H l = some (.lst xs)) (hg : ∀ x ∈ xs, GD K B x (del H l)) (hb : EvLB (GD K B) n tb σ H) (hn : xs.length + n ≤ 1000)
    (k : ∀ p zs H1, H0 p = none → Ex H0 H1 → Ex H H1 → H1 p = some (.lst zs) → zs.length = xs.length + n → (∀ x ∈ zs, GD K B x (del H1 p)) → D.nx (σ.set 2 (some (.ref p))) H1) : tAsg (tOp (xAdd K) (tVar 2) tb) (gName 2) D σ H :=
  (eb_cat (gd_mon hm) (ev_var h2) hx (fun x m => gd_mon hm _ _ _ exd_back (hg x m)) hb hn) H (Ex.refl _) _ fun p zs H1 hp e1 h1 hlen r => k p zs H1 (fresh_of e0 hp) (e0.trans e1) e1 h1 hlen r
theorem noRow54 {K : PySem.W.Frag} {H : Hp} {u : Addr} (h : SqT K H u [.int 5, .int 4]) : NoRowT K H (.ref u) := ⟨⟨u, _, rfl, h⟩, .inr ⟨[5, 4], ⟨u, rfl, .inr h⟩, ⟨by decide, by decide, fun x hx => by simp at hx; omega⟩, by decide⟩⟩
theorem noRow10 {K : PySem.W.Frag} {H : Hp} {u : Addr} (h : SqT K H u [.int 10]) : NoRowT K H (.ref u) := ⟨⟨u, _, rfl, h⟩, .inl (.inr ⟨u, _, rfl, .inr h, fun y hy => by rw [List.mem_singleton.mp hy]; exact typed_int, fun z => absurd z.2.2 (by decide)⟩)⟩
theorem badFirst_mon {K : PySem.W.Frag} : Mon fun v H => BadFirst K H v := fun v H H' e h => badFirst_ex e h
theorem badRow_mon {K : PySem.W.Frag} {s : HS} : Mon fun v H => BadRow K H s v := fun v H H' e h => badRow_ex e h
section
variable {K : PySem.W.Frag} {c : Cs} {vs : List V} {H : Hp} {Q : VK} {E : XK}
theorem evw_ints {σ : L2.St} {ta : TA} {xs : List V} (h : EvA ta σ H xs) (hl : xs.length ≤ 100000) : EvW K (tTup ta) σ H xs := evw_new (eu_tup h hl)
theorem spoilt_beg {ns : List Int} {x : V} {cell : Int} (hN : NoteAt K H x (.beg ns)) (h : (∃ ns', Note.beg ns = .beg ns' ∧ RetP (GD K fun v H => BadFirst K H v) H Q) ∨ ∃ s, HInv s ∧ Small s ∧ okN s (.beg ns) ∧ RetP (GD K fun v H => BadRow K H s v) H Q) : t_k13_l_spoilt K c E { nx := fun _ H' => Q .non H', rt := Q } (start ["_law_row", "_law_cell", "_law_some"] [x, .int cell]) H := by
  obtain ⟨t, u, rfl, ht, hu⟩ := hN
  have ht : SqT K H t [.str "begin", .ref u] := SqT.of ht
  have q : RetP (GD K fun v H => BadFirst K H v) H Q := by
    rcases h with ⟨_, _, q⟩ | ⟨s, _, _, hok, _⟩
    · exact q
    · exact hok.elim
  have hm := badFirst_mon (K := K)
  have gm := gd_mon (K := K) hm
  have hD : ∀ x ∈ [V.str "begin", .ref u], IsE K H x := fun x hx => by
    simp only [List.mem_cons, List.not_mem_nil, or_false] at hx
    rcases hx with rfl | rfl
    · exact isE_str (by decide +kernel)
    · exact isE_intsT hu
  have i0 : ∀ {σ : L2.St} {H' : Hp}, Ex H H' → σ[0]? = some (some (.ref t)) → Ev (tOp (rIx K) (tVar 0) (tC (.int 0))) σ H' (.str "begin") := fun e h0 => ev_ix (i := 0) (evq_of (ev_var h0) (.inr (ex_t e ht))) (fun _ _ => ev_c) atI_zero
  have i1 : ∀ {σ : L2.St} {H' : Hp}, Ex H H' → σ[0]? = some (some (.ref t)) → Ev (tOp (rIx K) (tVar 0) (tC (.int 1))) σ H' (.ref u) := fun e h0 => ev_ix (i := 1) (evq_of (ev_var h0) (.inr (ex_t e ht))) (fun _ _ => ev_c) atI_one
  refine q_asgB (six (K := K) (B := fun v H => BadFirst K H v) (σ := start ["_law_row", "_law_cell", "_law_some"] [V.ref t, .int cell]) (t := t) (w := .str "begin") (ys := [.ref u]) hm rfl ht (by simp) (by show 1 ≤ 10; decide) hD (fun v H' e hn => .no hn) (fun a H' e h => .len a _ rfl h (by show ¬ (3 = 2); decide)) (fun a H' h => .len a _ rfl h (by show ¬ (1 = 2); decide)) (fun a H' e h => .two a "stop" _ rfl h (by decide +kernel))) fun l xs H1 hl e1 h1 hlen r => ?_
  refine q_if (b := false) (et_is (et_test (ev_op (i0 e1 rfl) ev_c (rv_neV rfl))) (by simp)) (fun z => nomatch z) fun _ H2 e2 => ?_
  have e12 := e1.trans e2
  refine s_more (K := K) (B := fun v H => BadFirst K H v) (n := 2) (H0 := H) hm rfl hl e12 (e2 _ _ h1) (fun x m => gm _ _ _ ?_ (r x m)) ?_ (by omega) fun p zs H3 hp e3 e23 h3 hlen3 r3 => ?_
  · exact del_ex e2
  · refine eb_lst gm (ega_cons gm (?_) (ega_cons gm (?_) ega_nil)) (by decide)
    · intro H' e' Q' q'
      refine (eu_tup (σ := (start ["_law_row", "_law_cell", "_law_some"] [V.ref t, .int cell]).set 2 (some (.ref l))) (ea_cons ev_c (ea_cons (i1 (e12) rfl) ea_nil)) (by show 2 ≤ 100000; decide)) H' e' _ fun T H4 hT e4 h4 => q' _ H4 e4 ⟨isD_t (SqT.of h4) fun x hx => ?_, .two T "change" _ rfl (SqT.of h4) (by decide +kernel)⟩
      simp only [List.mem_cons, List.not_mem_nil, or_false] at hx
      rcases hx with rfl | rfl
      · exact isE_str (by decide +kernel)
      · exact isE_intsT (ex_t ((e12.trans e').trans e4) hu)
    · refine evp_ofW (evw_ints (ea_cons ev_c (ea_cons ev_c (ea_cons ev_c ea_nil))) (by show 3 ≤ 100000; decide)) fun a H' e h => ⟨isD_t h fun x hx => ?_, .len a _ rfl h (by show ¬ (3 = 2); decide)⟩
      simp only [List.mem_cons, List.not_mem_nil, or_false] at hx
      rcases hx with rfl | rfl | rfl
      · exact isE_str (by decide +kernel)
      · exact isE_int
      · exact isE_int
  refine nx_mk ?_
  refine q_if (b := false) (et_is (et_test (ev_op (i0 e3 rfl) ev_c (rv_eqV rfl))) (by decide +kernel)) (fun z => nomatch z) fun _ H4 e4 => ?_
  have e04 := e3.trans e4
  refine s_more (K := K) (B := fun v H => BadFirst K H v) (n := 3) (H0 := H) hm rfl hp e04 (e4 _ _ h3) (fun x m => gm _ _ _ ?_ (r3 x m)) ?_ (by omega) fun p2 zs2 H5 hp2 e5 e45 h5 hlen5 r5 => ?_
  · exact del_ex e4
  · refine eb_lst gm (ega_cons gm (ep_pair (K := K) (xs := [.int 5, .int 4]) (fun H1 e => i0 (e04.trans e) rfl) (evw_ints (ea_cons ev_c (ea_cons ev_c ea_nil)) (by show 2 ≤ 100000; decide)) fun a b H' e h h' => ⟨isD_t h fun x hx => ?_, .beg a _ rfl h (.inr (noRow54 h'))⟩) (ega_cons gm (ep_pairL (K := K) (xs := ns.map V.int) (fun H1 e => i0 (e04.trans e) rfl) (el_listQ (evq_of (i1 e04 rfl) (.inr (ex_t e04 hu)))) fun a b H' e h h' => ⟨isD_t h fun x hx => ?_, .beg a _ rfl h (.inl (notTup_l h'))⟩) (ega_cons gm (ep_pair (K := K) (xs := [.int 10]) (fun H1 e => i0 (e04.trans e) rfl) (evw_ints (ea_cons ev_c ea_nil) (by show 1 ≤ 100000; decide)) fun a b H' e h h' => ⟨isD_t h fun x hx => ?_, .beg a _ rfl h (.inr (noRow10 h'))⟩) ega_nil))) (by decide)
    all_goals
      simp only [List.mem_cons, List.not_mem_nil, or_false] at hx
      rcases hx with rfl | rfl
      · exact isE_str (by decide +kernel)
      · first | exact isE_intsT (ns := [5, 4]) h' | exact isE_intsT (ns := [10]) h' | exact isE_intsL h'
  refine nx_mk ?_
  exact last_of (K := K) (B := fun v H => BadFirst K H v) (cell := cell) hm rfl rfl h5 (by omega) r5 e5 q
theorem spoilt_chg {ns : List Int} {x : V} {cell : Int} (hN : NoteAt K H x (.chg ns)) (h : (∃ ns', Note.chg ns = .beg ns' ∧ RetP (GD K fun v H => BadFirst K H v) H Q) ∨ ∃ s, HInv s ∧ Small s ∧ okN s (.chg ns) ∧ RetP (GD K fun v H => BadRow K H s v) H Q) : t_k13_l_spoilt K c E { nx := fun _ H' => Q .non H', rt := Q } (start ["_law_row", "_law_cell", "_law_some"] [x, .int cell]) H := by
  obtain ⟨t, u, rfl, ht, hu⟩ := hN
  have ht : SqT K H t [.str "change", .ref u] := SqT.of ht
  obtain ⟨s, I, hsm, hok, q⟩ : ∃ s, HInv s ∧ Small s ∧ okN s (.chg ns) ∧ RetP (GD K fun v H => BadRow K H s v) H Q := by
    rcases h with ⟨_, e, _⟩ | h
    · cases e
    · exact h
  have hm := badRow_mon (K := K) (s := s)
  have gm := gd_mon (K := K) hm
  have hD : ∀ x ∈ [V.str "change", .ref u], IsE K H x := fun x hx => by
    simp only [List.mem_cons, List.not_mem_nil, or_false] at hx
    rcases hx with rfl | rfl
    · exact isE_str (by decide +kernel)
    · exact isE_intsT hu
  have i0 : ∀ {σ : L2.St} {H' : Hp}, Ex H H' → σ[0]? = some (some (.ref t)) → Ev (tOp (rIx K) (tVar 0) (tC (.int 0))) σ H' (.str "change") := fun e h0 => ev_ix (i := 0) (evq_of (ev_var h0) (.inr (ex_t e ht))) (fun _ _ => ev_c) atI_zero
  have i1 : ∀ {σ : L2.St} {H' : Hp}, Ex H H' → σ[0]? = some (some (.ref t)) → Ev (tOp (rIx K) (tVar 0) (tC (.int 1))) σ H' (.ref u) := fun e h0 => ev_ix (i := 1) (evq_of (ev_var h0) (.inr (ex_t e ht))) (fun _ _ => ev_c) atI_one
  refine q_asgB (six (K := K) (B := fun v H => BadRow K H s v) (σ := start ["_law_row", "_law_cell", "_law_some"] [V.ref t, .int cell]) (t := t) (w := .str "change") (ys := [.ref u]) hm rfl ht (by simp) (by show 1 ≤ 10; decide) hD (fun v H' e hn => .no hn) (fun a H' e h => .thr a "change" _ _ rfl h (by decide +kernel)) (fun a H' h => .len a _ rfl h (by show ¬ (1 = 2); decide) (by show ¬ (1 = 3); decide)) (fun a H' e h => .two a "stop" _ rfl h (by decide +kernel))) fun l xs H1 hl e1 h1 hlen r => ?_
  refine q_if (b := true) (et_is (et_test (ev_op (i0 e1 rfl) ev_c (rv_neV rfl))) (by decide +kernel)) (fun _ H2 e2 => ?_) (fun z => nomatch z)
  have e12 := e1.trans e2
  refine s_more (K := K) (B := fun v H => BadRow K H s v) (n := 2) (H0 := H) hm rfl hl e12 (e2 _ _ h1) (fun x m => gm _ _ _ ?_ (r x m)) ?_ (by omega) fun p zs H3 hp e3 e23 h3 hlen3 r3 => ?_
  · exact del_ex e2
  · refine eb_lst gm (ega_cons gm (ep_pair (K := K) (w := .str "begin") (xs := [.int 4, .int 4, .int 1]) (fun H1 e => ev_c) (evw_ints (ea_cons ev_c (ea_cons ev_c (ea_cons ev_c ea_nil))) (by show 3 ≤ 100000; decide)) fun a b H' e h h' => ⟨isD_t h fun x hx => ?_, .two a "begin" _ rfl h (by decide +kernel)⟩) (ega_cons gm (ep_pair (K := K) (w := .str "begin") (xs := [.int 3]) (fun H1 e => ev_c) (evw_ints (ea_cons ev_c ea_nil) (by show 1 ≤ 100000; decide)) fun a b H' e h h' => ⟨isD_t h fun x hx => ?_, .two a "begin" _ rfl h (by decide +kernel)⟩) ega_nil)) (by decide)
    all_goals
      simp only [List.mem_cons, List.not_mem_nil, or_false] at hx
      rcases hx with rfl | rfl
      · exact isE_str (by decide +kernel)
      · first | exact isE_intsT (ns := [4, 4, 1]) h' | exact isE_intsT (ns := [3]) h'
  refine nx_mk ?_
  refine q_if (b := false) (et_is (et_test (ev_op (i0 e3 rfl) ev_c (rv_eqV rfl))) (by decide +kernel)) (fun z => nomatch z) fun _ H4 e4 => ?_
  have e04 := e3.trans e4
  refine s_more (K := K) (B := fun v H => BadRow K H s v) (n := 3) (H0 := H) hm rfl hp e04 (e4 _ _ h3) (fun x m => gm _ _ _ ?_ (r3 x m)) ?_ (by omega) fun p2 zs2 H5 hp2 e5 e45 h5 hlen5 r5 => ?_
  · exact del_ex e4
  · refine eb_lst gm (ega_cons gm (ep_pair (K := K) (xs := [.int 5, .int 4]) (fun H1 e => i0 (e04.trans e) rfl) (evw_ints (ea_cons ev_c (ea_cons ev_c ea_nil)) (by show 2 ≤ 100000; decide)) fun a b H' e h h' => ⟨isD_t h fun x hx => ?_, .chg a _ rfl h (.inr (noRow54 h'))⟩) (ega_cons gm (ep_pairL (K := K) (xs := ns.map V.int) (fun H1 e => i0 (e04.trans e) rfl) (el_listQ (evq_of (i1 e04 rfl) (.inr (ex_t e04 hu)))) fun a b H' e h h' => ⟨isD_t h fun x hx => ?_, .chg a _ rfl h (.inl (notTup_l h'))⟩) (ega_cons gm (ep_pair (K := K) (xs := [.int 10]) (fun H1 e => i0 (e04.trans e) rfl) (evw_ints (ea_cons ev_c ea_nil) (by show 1 ≤ 100000; decide)) fun a b H' e h h' => ⟨isD_t h fun x hx => ?_, .chg a _ rfl h (.inr (noRow10 h'))⟩) ega_nil))) (by decide)
    all_goals
      simp only [List.mem_cons, List.not_mem_nil, or_false] at hx
      rcases hx with rfl | rfl
      · exact isE_str (by decide +kernel)
      · first | exact isE_intsT (ns := [5, 4]) h' | exact isE_intsT (ns := [10]) h' | exact isE_intsL h'
  refine nx_mk ?_
  exact last_of (K := K) (B := fun v H => BadRow K H s v) (cell := cell) hm rfl rfl h5 (by omega) r5 e5 q
theorem spoilt_stp {th : Option Int} {hh : Int} {x : V} {cell : Int} (hN : NoteAt K H x (.stp th hh)) (h : (∃ ns', Note.stp th hh = .beg ns' ∧ RetP (GD K fun v H => BadFirst K H v) H Q) ∨ ∃ s, HInv s ∧ Small s ∧ okN s (.stp th hh) ∧ RetP (GD K fun v H => BadRow K H s v) H Q) : t_k13_l_spoilt K c E { nx := fun _ H' => Q .non H', rt := Q } (start ["_law_row", "_law_cell", "_law_some"] [x, .int cell]) H := by
  obtain ⟨t, rfl, ht⟩ := hN
  have ht : SqT K H t [.str "step", thV th, .int hh] := SqT.of ht
  obtain ⟨s, I, hsm, hok, q⟩ : ∃ s, HInv s ∧ Small s ∧ okN s (.stp th hh) ∧ RetP (GD K fun v H => BadRow K H s v) H Q := by
    rcases h with ⟨_, e, _⟩ | h
    · cases e
    · exact h
  obtain ⟨hth, hhh⟩ := hok
  have h9 := lets_hgt (next_let I)
  rw [← hhh] at h9
  have hm := badRow_mon (K := K) (s := s)
  have gm := gd_mon (K := K) hm
  have eStp : ∀ {H' : Hp} {y z : V}, IsE K H' y → IsE K H' z → ∀ x ∈ [V.str "step", y, z], IsE K H' x := fun hy hz x hx => by
    simp only [List.mem_cons, List.not_mem_nil, or_false] at hx
    rcases hx with rfl | rfl | rfl
    · exact isE_str (by decide +kernel)
    · exact hy
    · exact hz
  have i0 : ∀ {σ : L2.St} {H' : Hp}, Ex H H' → σ[0]? = some (some (.ref t)) → Ev (tOp (rIx K) (tVar 0) (tC (.int 0))) σ H' (.str "step") := fun e h0 => ev_ix (i := 0) (evq_of (ev_var h0) (.inr (ex_t e ht))) (fun _ _ => ev_c) atI_zero
  have i1 : ∀ {σ : L2.St} {H' : Hp}, Ex H H' → σ[0]? = some (some (.ref t)) → Ev (tOp (rIx K) (tVar 0) (tC (.int 1))) σ H' (thV th) := fun e h0 => ev_ix (i := 1) (evq_of (ev_var h0) (.inr (ex_t e ht))) (fun _ _ => ev_c) atI_one
  have i2 : ∀ {σ : L2.St} {H' : Hp}, Ex H H' → σ[0]? = some (some (.ref t)) → Ev (tOp (rIx K) (tVar 0) (tC (.int 2))) σ H' (.int hh) := fun e h0 => ev_ix (i := 2) (evq_of (ev_var h0) (.inr (ex_t e ht))) (fun _ _ => ev_c) atI_two
  refine q_asgB (six (K := K) (B := fun v H => BadRow K H s v) (σ := start ["_law_row", "_law_cell", "_law_some"] [V.ref t, .int cell]) (t := t) (w := .str "step") (ys := [thV th, .int hh]) hm rfl ht (by simp) (by show 2 ≤ 10; decide) (eStp isE_th isE_int) (fun v H' e hn => .no hn) (fun a H' e h => .len a _ rfl h (by show ¬ (4 = 2); decide) (by show ¬ (4 = 3); decide)) (fun a H' h => .len a _ rfl h (by show ¬ (1 = 2); decide) (by show ¬ (1 = 3); decide)) (fun a H' e h => .thr a "stop" _ _ rfl h (by decide +kernel))) fun l xs H1 hl e1 h1 hlen r => ?_
  refine q_if (b := true) (et_is (et_test (ev_op (i0 e1 rfl) ev_c (rv_neV rfl))) (by decide +kernel)) (fun _ H2 e2 => ?_) (fun z => nomatch z)
  have e12 := e1.trans e2
  refine s_more (K := K) (B := fun v H => BadRow K H s v) (n := 2) (H0 := H) hm rfl hl e12 (e2 _ _ h1) (fun x m => gm _ _ _ ?_ (r x m)) ?_ (by omega) fun p zs H3 hp e3 e23 h3 hlen3 r3 => ?_
  · exact del_ex e2
  · refine eb_lst gm (ega_cons gm (ep_pair (K := K) (w := .str "begin") (xs := [.int 4, .int 4, .int 1]) (fun H1 e => ev_c) (evw_ints (ea_cons ev_c (ea_cons ev_c (ea_cons ev_c ea_nil))) (by show 3 ≤ 100000; decide)) fun a b H' e h h' => ⟨isD_t h fun x hx => ?_, .two a "begin" _ rfl h (by decide +kernel)⟩) (ega_cons gm (ep_pair (K := K) (w := .str "begin") (xs := [.int 3]) (fun H1 e => ev_c) (evw_ints (ea_cons ev_c ea_nil) (by show 1 ≤ 100000; decide)) fun a b H' e h h' => ⟨isD_t h fun x hx => ?_, .two a "begin" _ rfl h (by decide +kernel)⟩) ega_nil)) (by decide)
    all_goals
      simp only [List.mem_cons, List.not_mem_nil, or_false] at hx
      rcases hx with rfl | rfl
      · exact isE_str (by decide +kernel)
      · first | exact isE_intsT (ns := [4, 4, 1]) h' | exact isE_intsT (ns := [3]) h'
  refine nx_mk ?_
  refine q_if (b := true) (et_is (et_test (ev_op (i0 e3 rfl) ev_c (rv_eqV rfl))) (by decide +kernel)) (fun _ H4 e4 => ?_) (fun z => nomatch z)
  have e04 := e3.trans e4
  refine q_more (K := K) (B := fun v H => BadRow K H s v) (n := 2) (H0 := H) hm rfl hp e04 (e4 _ _ h3) (fun x m => gm _ _ _ ?_ (r3 x m)) ?_ (by omega) fun p2 zs2 H5 hp2 e5 e45 h5 hlen5 r5 => ?_
  · exact del_ex e4
  · refine eb_lst gm (ega_cons gm (evp_ofW (xs := [.str "step", thV th, .int ((hh + 1) % 10)]) (evw_ints (ea_cons ev_c (ea_cons (i1 e04 rfl) (ea_cons (ev_op (ev_op (i2 e04 rfl) ev_c rv_addI) ev_c (rv_mod (by decide))) ea_nil))) (by show 3 ≤ 100000; decide)) fun a H' e h => ⟨isD_t h (eStp isE_th isE_int), .stp a th _ rfl h (.inr ?_)⟩) (ega_cons gm (evp_ofW (xs := [.str "step", .int 17, .int hh]) (evw_ints (ea_cons ev_c (ea_cons ev_c (ea_cons (i2 e04 rfl) ea_nil))) (by show 3 ≤ 100000; decide)) fun a H' e h => ⟨isD_t h (eStp isE_int isE_int), .stp a (some 17) _ rfl h (.inl fun z => ?_)⟩) ega_nil)) (by decide)
    · rw [← hhh]
      omega
    · have := hsm 17 (List.mem_map.mpr ⟨_, look_some (w := s.now) (x := 17) z.symm, rfl⟩)
      omega
  -- what is put behind
  have put : ∀ (zs : List V) (p3 : Addr) (H6 : Hp) (tu : TE) (z : V) (tz : TS) (D : Ends), Ex H H6 → H p3 = none → H6 p3 = some (.lst zs) → 0 < zs.length → zs.length ≤ 50 → (∀ x ∈ zs, GD K (fun v H => BadRow K H s v) x (del H6 p3)) → EvU tu [some (.ref t), some (.int cell), some (.ref p3)] H6 [.str "step", z, .int hh] → (∃ b, z = .bl b) →
      (∀ H7 zs', Ex H H7 → H7 p3 = some (.lst zs') → 0 < zs'.length → zs'.length ≤ zs.length + 1 → (∀ x ∈ zs', GD K (fun v H => BadRow K H s v) x (del H7 p3)) → tz D [some (.ref t), some (.int cell), some (.ref p3)] H7) →
      (tDrop (tBM K "list" rAppend (tVar 2) (tCons tu tNil))) { D with nx := tz D } [some (.ref t), some (.int cell), some (.ref p3)] H6 := by
    rintro zs p3 H6 tu _ tz D e6 hp3 h6 hz0 hz1 rr htu ⟨b, rfl⟩ k
    refine s_appU (l := p3) (xs := zs) h6 (ev_var (i := 2) rfl) htu (by omega) fun T H7 hT e7 hT7 => ?_
    have hTp : T ≠ p3 := fun z => by rw [z, e7 _ _ h6] at hT7; cases hT7
    refine k _ (zs ++ [.ref T]) (Ex.mut (e6.trans e7) hp3) upd_same (by simp) (by simp) fun x hx => ?_
    rcases List.mem_append.mp hx with m | m
    · refine gm _ _ _ (fun b' o hb => ?_) (rr x m)
      unfold del at hb ⊢
      split at hb
      · cases hb
      · rename_i hne
        rw [if_neg hne, upd_ne hne]
        exact e7 _ _ hb
    · rw [List.mem_singleton.mp m]
      have hT8 : SqT K (del (upd H7 p3 (.lst (zs ++ [.ref T]))) p3) T [.str "step", .bl b, .int hh] := SqT.of (by
        unfold del
        rw [if_neg hTp, upd_ne hTp]
        exact hT7)
      exact ⟨isD_t hT8 (eStp isE_bl isE_int), .bl T _ _ rfl hT8 (.inr (.inl ⟨b, rfl⟩)) (.inl ⟨hh, rfl⟩) (.inl ⟨b, rfl⟩)⟩
  have put2 : ∀ (zs : List V) (p3 : Addr) (H6 : Hp) (D : Ends) (tz : TS), Ex H H6 → H p3 = none → H6 p3 = some (.lst zs) → 0 < zs.length → zs.length ≤ 50 → (∀ x ∈ zs, GD K (fun v H => BadRow K H s v) x (del H6 p3)) →
      (∀ H7 zs', Ex H H7 → H7 p3 = some (.lst zs') → 0 < zs'.length → zs'.length ≤ zs.length + 1 → (∀ x ∈ zs', GD K (fun v H => BadRow K H s v) x (del H7 p3)) → tz D [some (.ref t), some (.int cell), some (.ref p3)] H7) →
      (tDrop (tBM K "list" rAppend (tVar 2) (tCons (tTup (tCons (tC (.str "step")) (tCons (tOp (rIx K) (tVar 0) (tC (.int 1))) (tCons (tC (.bl true)) tNil)))) tNil))) { D with nx := tz D } [some (.ref t), some (.int cell), some (.ref p3)] H6 := by
    intro zs p3 H6 D tz e6 hp3 h6 hz0 hz1 rr k
    refine s_appU (l := p3) (xs := zs) h6 (ev_var (i := 2) rfl) (eu_tup (ea_cons ev_c (ea_cons (i1 e6 rfl) (ea_cons ev_c ea_nil))) (by show 3 ≤ 100000; decide)) (by omega) fun T H7 hT e7 hT7 => ?_
    have hTp : T ≠ p3 := fun z => by rw [z, e7 _ _ h6] at hT7; cases hT7
    refine k _ (zs ++ [.ref T]) (Ex.mut (e6.trans e7) hp3) upd_same (by simp) (by simp) fun x hx => ?_
    rcases List.mem_append.mp hx with m | m
    · refine gm _ _ _ (fun b' o hb => ?_) (rr x m)
      unfold del at hb ⊢
      split at hb
      · cases hb
      · rename_i hne
        rw [if_neg hne, upd_ne hne]
        exact e7 _ _ hb
    · rw [List.mem_singleton.mp m]
      have hT8 : SqT K (del (upd H7 p3 (.lst (zs ++ [.ref T]))) p3) T [.str "step", thV th, .bl true] := SqT.of (by
        unfold del
        rw [if_neg hTp, upd_ne hTp]
        exact hT7)
      exact ⟨isD_t hT8 (eStp isE_th isE_bl), .bl T _ _ rfl hT8 (thV_plain th) (.inr (.inl ⟨true, rfl⟩)) (.inr ⟨true, rfl⟩)⟩
  have done : ∀ H7 zs', Ex H H7 → H7 p2 = some (.lst zs') → 0 < zs'.length → (∀ x ∈ zs', GD K (fun v H => BadRow K H s v) x (del H7 p2)) → (tRet (tOp (rIx K) (tVar 2) (tOp xMod (tVar 1) (tCB (cLen K) (tCons (tVar 2) tNil))))) { nx := fun _ H' => Q .non H', rt := Q } [some (.ref t), some (.int cell), some (.ref p2)] H7 := fun H7 zs' e7 h7 hz r7 =>
    last_of (K := K) (B := fun v H => BadRow K H s v) (cell := cell) hm rfl rfl h7 hz r7 e7 q
  have third : ∀ H7 zs', Ex H H7 → H7 p2 = some (.lst zs') → 0 < zs'.length → zs'.length ≤ 40 → (∀ x ∈ zs', GD K (fun v H => BadRow K H s v) x (del H7 p2)) → (tIfS (tTest (tOp (xEq K) (tOp (rIx K) (tVar 0) (tC (.int 2))) (tC (.int 1)))) (tDrop (tBM K "list" rAppend (tVar 2) (tCons (tTup (tCons (tC (.str "step")) (tCons (tOp (rIx K) (tVar 0) (tC (.int 1))) (tCons (tC (.bl true)) tNil)))) tNil))) tNext) { nx := (tRet (tOp (rIx K) (tVar 2) (tOp xMod (tVar 1) (tCB (cLen K) (tCons (tVar 2) tNil))))) { nx := fun _ H' => Q .non H', rt := Q }, rt := Q } [some (.ref t), some (.int cell), some (.ref p2)] H7 := by
    intro H7 zs' e7 h7 hz hz1 r7
    refine s_when (b := decide (hh = 1)) (et_test (ev_op (i2 e7 rfl) ev_c rv_eqI)) (fun _ H8 e8 => ?_) fun _ H8 e8 => ?_
    · exact put2 zs' p2 H8 { nx := fun _ H' => Q .non H', rt := Q } (tRet (tOp (rIx K) (tVar 2) (tOp xMod (tVar 1) (tCB (cLen K) (tCons (tVar 2) tNil))))) (e7.trans e8) hp2 (e8 _ _ h7) hz (by omega) (fun x m => gm _ _ _ (del_ex e8) (r7 x m)) fun H9 z9 e9 h9 hz9 _ r9 => done H9 z9 e9 h9 hz9 r9
    · exact nx_mk (done H8 zs' (e7.trans e8) (e8 _ _ h7) hz (fun x m => gm _ _ _ (del_ex e8) (r7 x m)))
  refine q_when (b := inV (thV th) [V.int 0, .int 1]) (et_test (fun H' e' Q' q' => ?_)) (fun hb H6 e6 => ?_) fun _ H6 e6 => ?_
  · refine (i1 (σ := [some (.ref t), some (.int cell), some (.ref p2)]) e5 rfl) H' e' _ fun H8 e8 => ?_
    refine (el_lst (ea_cons ev_c (ea_cons ev_c ea_nil)) (by show 2 ≤ 100000; decide) : EvL (tLst (tCons (tC (.int 0)) (tCons (tC (.int 1)) tNil))) [some (.ref t), some (.int cell), some (.ref p2)] H8 [.int 0, .int 1]) H8 (Ex.refl _) _ fun p9 H9 hp9 e9 h9 => ?_
    exact ⟨p9, _, rfl, .inl (SqL.of h9), by cases th <;> rfl, rfl, q' H9 (e8.trans e9)⟩
  · refine put zs2 p2 H6 _ (.bl (decide (thV th = .int 1))) _ _ (e5.trans e6) hp2 (e6 _ _ h5) (by omega) (by omega) (fun x m => gm _ _ _ (del_ex e6) (r5 x m)) (eu_tup (ea_cons ev_c (ea_cons (ev_op (i1 (e5.trans e6) rfl) ev_c (rv_eqV (by cases th <;> rfl))) (ea_cons (i2 (e5.trans e6) rfl) ea_nil))) (by show 3 ≤ 100000; decide)) ⟨_, rfl⟩ fun H7 zs' e7 h7 hz hz1 r7 => third H7 zs' e7 h7 hz (by omega) r7
  · exact third H6 zs2 (e5.trans e6) (e6 _ _ h5) (by omega) (by omega) (fun x m => gm _ _ _ (del_ex e6) (r5 x m))
theorem pure_k13_l_spoilt (h : sp_k13_l_spoilt K c vs H Q E) : t_k13_l_spoilt K c E { nx := fun _ H' => Q .non H', rt := Q } (start ["_law_row", "_law_cell", "_law_some"] vs) H := by
  obtain ⟨x, cell, n, rfl, hN, h⟩ := h
  cases n with
  | beg ns => exact spoilt_beg hN h
  | chg ns => exact spoilt_chg hN h
  | stp th hh => exact spoilt_stp hN h
end
end Tr

/-! Law k13: halls made, steps, other rows, in a law's own text; the loop of the law. -/
namespace Tr
open PySem L2 PySem.Spec PyProof.Rows Evl

section
variable {K : PySem.W.Frag} {c : Cs} {E : XK} {σ : L2.St} {H : Hp} {D : Ends} {tz : TS} {tb : TE} {a f n p : Addr} {s : HS} {nts : List Note} {i j : Nat} {ns : List Int}
theorem s_step (h0 : σ[i]? = some (some (.ref a))) (hA : HallAt K c.hall H a f n p s nts) (I : HInv s) (hlen : nts.length < 90000) (k : ∀ p2 H2, Mut [a, f, n] H H2 → (p2 = p ∨ H p2 = none) → HallAt K c.hall H2 a f n p2 (stepS s) (nts ++ [.stp (thingS s) (nextH s)]) → D.nx σ H2) :
    tDrop (tMeth c.hall "step" (sp_h_step K c) [] E (tVar i) tNil) D σ H := by
  obtain ⟨dx, t, ws, o, w⟩ := hA
  exact ⟨.ref a, h0, a, dx, _, rfl, o.ha, rfl, _, rfl, a, f, n, p, s, nts, rfl, ⟨dx, t, ws, o, w⟩, I, hlen, fun T p2 H2 m hp hT hT2 hA2 => k p2 H2 m hp hA2⟩
theorem s_change (h0 : σ[i]? = some (some (.ref a))) (hA : HallAt K c.hall H a f n p s nts) (I : HInv s) (hlen : nts.length < 90000) (hb : EvQ K tb σ H (ns.map V.int)) (hg : Good ns) (hc : clashF ns = none) (he : pcI (upS ns) = pcI s.bits) (k : ∀ p2 H2, Mut [a, f, n] H H2 → (p2 = p ∨ H p2 = none) → HallAt K c.hall H2 a f n p2 (changeS s ns) (nts ++ [.chg ns]) → D.nx σ H2) :
    tDrop (tMeth c.hall "change" (sp_h_change K c) [] E (tVar i) (tCons tb tNil)) D σ H := by
  obtain ⟨dx, t, ws, o, w⟩ := hA
  exact ⟨.ref a, h0, a, dx, _, rfl, o.ha, rfl, hb H (Ex.refl _) _ fun r H1 e1 hr => ⟨.ref a, .ref r, rfl, a, f, n, p, s, nts, rfl, HallAt.ex e1 ⟨dx, t, ws, o, w⟩, I, hlen, .inr ⟨ns, ⟨r, rfl, hr⟩, hg, .inr ⟨hc, .inr ⟨he, fun p2 H2 m hp hA2 => k p2 H2 ((Mut.of e1).trans (m.mono fun x hx => by simp at hx; rcases hx with rfl | rfl <;> simp)) (.inr (fresh_of e1 hp)) hA2⟩⟩⟩⟩⟩
theorem q_make (hb : EvQ K tb σ H (ns.map V.int)) (hg : Good ns) (hc : clashF ns = none) (k : ∀ a f n p H1, Ex H H1 → H a = none → H f = none → H n = none → H p = none → HallAt K c.hall H1 a f n p (initS ns) [.beg ns] → tz D (σ.set j (some (.ref a))) H1) :
    tSeq (tAsg (tMake c.hall (sp_h_init K c) [] E (tCons tb tNil)) (gName j)) tz D σ H :=
  hb H (Ex.refl _) _ fun r H1 e1 hr => fun x dx hx hdx hne => by
    have eN : Ex H1 (upd (upd H1 dx (.own x)) x (.ins c.hall dx [])) := (Ex.new hdx).trans (Ex.new (by rw [upd_ne (Ne.symm hne)]; exact hx))
    refine ⟨x, dx, .ref r, rfl, upd_same, .inr ⟨ns, ⟨r, rfl, ex_q eN hr⟩, hg, .inr ⟨hc, fun f n p H2 m hf hn hp hA => ⟨rfl, k x f n p H2 (fun b o hb => m b o (eN _ _ (e1 _ _ hb)) (.inl ?_)) (fresh_of e1 hx) (fresh_of (e1.trans eN) hf) (fresh_of (e1.trans eN) hn) (fresh_of (e1.trans eN) hp) hA⟩⟩⟩⟩
    intro z
    have := List.mem_singleton.mp z
    subst this
    rw [e1 _ _ hb] at hx
    cases hx
theorem q_whenK {tt : TT} {tu : TS} {b : Bool} {R : Hp → Prop} (h : EvT tt σ H b) (h1 : b = true → (∀ H', R H' → tz D σ H') → ∀ H1, Ex H H1 → tu { D with nx := tz D } σ H1) (h2 : b = false → ∀ H1, Ex H H1 → R H1) (hz : ∀ H', R H' → tz D σ H') : tSeq (tIfS tt tu tNext) tz D σ H :=
  q_when h (fun hb H1 e1 => h1 hb hz H1 e1) fun hb H1 e1 => hz H1 (h2 hb H1 e1)
theorem ev_stays {ta td te : TE} {cell many : Int} (ha : Ev ta σ H (.ref a)) (hd : ∀ H1, Ex H H1 → Ev td σ H1 (.int cell)) (he : ∀ H1, Ex H H1 → Ev te σ H1 (.int many)) (hA : HallAt K c.hall H a f n p s nts) (I : HInv s) (hlen : nts.length < 90000) (h0 : 0 ≤ cell) (hm : many = (pcI s.bits : Int)) :
    Ev (tCall (sp_k13_l_stays K c) [] E (tCons ta (tCons td (tCons te tNil)))) σ H (.bl true) := fun H1 e1 Q q =>
  ha H1 e1 _ fun H2 e2 => hd H2 (e1.trans e2) H2 (Ex.refl _) _ fun H3 e3 => he H3 ((e1.trans e2).trans e3) H3 (Ex.refl _) _ fun H4 e4 => ⟨_, _, _, rfl, h0, a, f, n, p, s, nts, rfl, hA.ex (((e1.trans e2).trans e3).trans e4), I, hlen, hm, fun H5 e5 => q H5 (((e2.trans e3).trans e4).trans e5)⟩
/-- a part of law: slots _law_script, _law_first, _law_hall, _law_many, _law_k, _law_cell, _law_draw, _law_turn, _law_log, _law_kept, _law_again, _law_at, _law_part, _law_bad -/
def t_k13_law_3b (K : PySem.W.Frag) (c : Cs) (E : XK) : TS :=
  (tSeq (tAsg (tCall (sp_l_mixed K c) [] E0 (tCons (tVar 5) (tCons (tVar 4) tNil))) (gName 6))
  (tSeq (tIfS (tTest (tOp (xEq K) (tOp xMod (tVar 6) (tC (.int 4))) (tC (.int 1)))) (tDrop (tMeth c.hall "change" (sp_h_change K c) [] E0 (tVar 2) (tCons (tCall (sp_l_going K c) [] E0 (tCons (tOp (xAdd K) (tOp (xMul K) (tOp xDiv (tVar 6) (tC (.int 10))) (tC (.int 10))) (tVar 3)) (tCons (tOp (xAdd K) (tC (.int 1)) (tOp xMod (tOp xDiv (tVar 6) (tC (.int 10))) (tC (.int 9)))) tNil))) tNil))) tNext)
  (tSeq (tFor (iRng1 (tCons (tOp (xAdd K) (tC (.int 1)) (tOp xMod (tOp xDiv (tVar 6) (tC (.int 4))) (tC (.int 9)))) tNil)) (gName 7) (tDrop (tMeth c.hall "step" (sp_h_step K c) [] E0 (tVar 2) tNil)))
  (tIfS (tAnd (tTest (tOp (xEq K) (tOp xMod (tOp xDiv (tVar 6) (tC (.int 36))) (tC (.int 3))) (tC (.int 1)))) (tNot (tB (tCall (sp_k13_l_stays K c) [] E0 (tCons (tVar 2) (tCons (tOp xDiv (tVar 6) (tC (.int 108))) (tCons (tVar 3) tNil))))))) (tRet (tC (.bl false))) tNext))))

theorem k13_body {x0 x1 u6 u7 : Option V} {many cell : Int} {i : Nat} (hA : HallAt K c.hall H a f n p s nts) (hL : LogOf nts s) (hm : many = (pcI s.bits : Int)) (hlen : nts.length ≤ 80000)
    (k : ∀ p' s' nts' u6 u7 H', Mut [a, f, n] H H' → HallAt K c.hall H' a f n p' s' nts' → LogOf nts' s' → many = (pcI s'.bits : Int) → nts'.length ≤ nts.length + 10 → D.nx [x0, x1, some (.ref a), some (.int many), some (.int (i : Int)), some (.int cell), u6, u7, none, none, none, none, none, none] H') :
    t_k13_law_3b K c E D [x0, x1, some (.ref a), some (.int many), some (.int (i : Int)), some (.int cell), u6, u7, none, none, none, none, none, none] H := by
  have hp9 := pcI_le s.bits
  refine q_asg (v := .int (mixed cell i)) (ev_l_mixed (ev_var (i := 5) rfl) (ev_var (i := 4) rfl)) fun H1 e1 => ?_
  have hd0 := mixed_lo cell i
  generalize mixed cell (i : Int) = d at hd0
  refine q_whenK (b := decide (d % 4 = 1)) (R := fun H' => ∃ p' s' nts', Mut [a, f, n] H H' ∧ HallAt K c.hall H' a f n p' s' nts' ∧ LogOf nts' s' ∧ many = (pcI s'.bits : Int) ∧ nts'.length ≤ nts.length + 1) (et_test (ev_op (ev_op (ev_var (i := 6) rfl) ev_c (rv_mod (by decide))) ev_c rv_eqI)) ?_ ?_ ?_
  · intro _ hz H2 e2
    have e12 := e1.trans e2
    have m1 : 1 ≤ 1 + d / 10 % 9 := by omega
    have m9 : 1 + d / 10 % 9 ≤ 40 := by omega
    have hup := going_up (a := d / 10 * 10 + many) m1 m9
    have heq : pcI (upS (going (d / 10 * 10 + many) (1 + d / 10 % 9))) = pcI s.bits := by
      have : (pcI (upS (going (d / 10 * 10 + many) (1 + d / 10 % 9))) : Int) = (d / 10 * 10 + many) % 10 := hup
      omega
    refine s_change (ns := going (d / 10 * 10 + many) (1 + d / 10 % 9)) rfl (hA.ex e12) hL.inv (by omega) (evq_s (evs_new (el_l_going (K := K) (c := c) (ev_op (ev_op (ev_op (ev_var (i := 6) rfl) ev_c (rv_div (by k_caughtB))) ev_c (rv_mul (by k_caughtB))) (ev_var (i := 3) rfl) rv_addI) (ev_op ev_c (ev_op (ev_op (ev_var (i := 6) rfl) ev_c (rv_div (by k_caughtB))) ev_c (rv_mod (by decide))) rv_addI) m1 (by omega)))) (good_going m1 m9) (going_clash m1) heq fun p2 H3 m3 hp2 hA3 => hz H3 ⟨p2, _, _, (Mut.of e12).trans m3, hA3, hL.snoc (n := .chg _) ⟨good_going m1 m9, going_clash m1, heq⟩, hm, by rw [List.length_append]; exact Nat.le_refl _⟩
  · intro _ H2 e2
    exact ⟨p, s, nts, .of (e1.trans e2), hA.ex (e1.trans e2), hL, hm, by omega⟩
  · rintro H2 ⟨p', s', nts', m2, hA2, hL2, hm2, hl2⟩
    refine q_forR1 (n := 1 + d / 4 % 9) (ea_cons (ev_op ev_c (ev_op (ev_op (ev_var (i := 6) rfl) ev_c (rv_div (by k_caughtB))) ev_c (rv_mod (by decide))) rv_addI) ea_nil) (by omega) (fun j σ' H' => (∃ u, σ' = [x0, x1, some (.ref a), some (.int many), some (.int (i : Int)), some (.int cell), some (.int d), u, none, none, none, none, none, none]) ∧ ∃ p' s' nts', Mut [a, f, n] H H' ∧ HallAt K c.hall H' a f n p' s' nts' ∧ LogOf nts' s' ∧ many = (pcI s'.bits : Int) ∧ nts'.length ≤ nts.length + 1 + j) ?_ ?_ ?_
    · intro H3 e3
      exact ⟨⟨_, rfl⟩, p', s', nts', m2.trans (.of e3), hA2.ex e3, hL2, hm2, hl2⟩
    · rintro j σ' H' hj ⟨⟨u, rfl⟩, p', s', nts', m3, hA3, hL3, hm3, hl3⟩
      refine s_step rfl hA3 hL3.inv (by omega) fun p2 H4 m4 hp2 hA4 => ?_
      have hb : pcI (stepS s').bits = pcI s'.bits := (step_ok hL3.inv.b0 hL3.inv.b1 (next_let hL3.inv)).2.2
      exact ⟨⟨_, rfl⟩, p2, stepS s', _, m3.trans m4, hA4, hL3.snoc (n := .stp _ _) ⟨rfl, rfl⟩, by rw [hm3, hb], by rw [List.length_append]; show nts'.length + 1 ≤ _; omega⟩
    · rintro σ' H' ⟨⟨u, rfl⟩, p', s', nts', m3, hA3, hL3, hm3, hl3⟩
      refine s_when (b := false) (et_is (et_and (a := decide (d / 36 % 3 = 1)) (b := false) (et_test (ev_op (ev_op (ev_op (ev_var (i := 6) rfl) ev_c (rv_div (by k_caughtB))) ev_c (rv_mod (by decide))) ev_c rv_eqI)) fun _ => et_is (et_not (et_B (ev_stays (E := E0) (cell := d / 108) (many := many) (ev_var (i := 2) rfl) (fun _ _ => ev_op (ev_var (i := 6) rfl) ev_c (rv_div (by k_caughtB))) (fun _ _ => ev_var (i := 3) rfl) hA3 hL3.inv (by omega) (by omega) hm3))) rfl) (Bool.and_false _)) (fun z => nomatch z) fun _ H4 e4 => ?_
      exact k p' s' nts' _ _ H4 (m3.trans (.of e4)) (hA3.ex e4) hL3 hm3 (by omega)
end
end Tr

/-! Law k13: what follows the loop; the law. -/
namespace Tr
open PySem L2 PySem.Spec PyProof.Rows Evl

section
variable {K : PySem.W.Frag} {c : Cs} {E : XK} {σ : L2.St} {H : Hp} {D : Ends} {tz : TS} {ta tb : TE} {a f n p l : Addr} {s : HS} {nts : List Note} {i j : Nat} {ns : List Int} {xs : List V}
theorem notes_isD : ∀ {xs : List V} {nts : List Note}, NotesAt K H xs nts → ∀ y ∈ xs, IsD K H y
  | [], _, _ => fun y hy => absurd hy List.not_mem_nil
  | _ :: _, [], h => absurd h.1 (by simp)
  | x :: xs, n :: nts, h => fun y hy => by
    rcases List.mem_cons.mp hy with rfl | m
    · exact note_isD (h.2 0 y n rfl rfl)
    · exact notes_isD (xs := xs) (nts := nts) ⟨by have := h.1; simp at this; exact this, fun i y m h1 h2 => h.2 (i + 1) y m h1 h2⟩ y m
theorem notes_cut {k : Nat} (h : NotesAt K H xs nts) : NotesAt K H (xs.take k) (nts.take k) := ⟨by rw [List.length_take, List.length_take, h.1], fun i v m h1 h2 => by
  rw [List.getElem?_take] at h1 h2
  split at h1
  · rename_i hk
    rw [if_pos hk] at h2
    exact h.2 i v m h1 h2
  · cases h1⟩
theorem air_len {s : HS} (I : HInv s) : (airF s).length = pcI s.bits := by
  unfold airF
  rw [List.length_map]
  obtain ⟨b, hb⟩ : ∃ b : Nat, s.bits = (b : Int) := ⟨s.bits.toNat, by have := I.b0; omega⟩
  rw [hb]
  show ((List.range 9).filter fun (k : Nat) => bitS (b : Int) k).length = pc (b : Int).toNat 9
  rw [Int.toNat_natCast]
  unfold pc
  congr 1
  exact List.filter_congr fun k _ => bitS_nat
theorem ev_lenP {ps : List (Int × Int)} (h : EvP2 ta σ H ps) : Ev (tCB (cLen K) (tCons ta tNil)) σ H (.int (ps.length : Int)) := fun H1 e Q q =>
  h H1 e _ fun l xs H2 hl e2 h2 hp => .inl ⟨l, xs, rfl, .inl (SqL.of h2), by rw [hp.1]; exact q H2 e2⟩
theorem q_asgN (h : EvN K ta σ H nts) (k : ∀ l xs H1, H l = none → Ex H H1 → H1 l = some (.lst xs) → NotesAt K H1 xs nts → tz D (σ.set j (some (.ref l))) H1) : tSeq (tAsg ta (gName j)) tz D σ H := h H (Ex.refl _) _ k
theorem q_back (hl : EvS K ta σ H xs) (hlen : xs.length < 90000) (hN : NotesAt K H xs nts) (hL : LogOf nts s) (k : ∀ a f n p H1, Ex H H1 → H a = none → H f = none → H n = none → H p = none → HallAt K c.hall H1 a f n p s nts → tz D (σ.set j (some (.ref a))) H1) :
    tSeq (tAsg (tCall (sp_k13_l_back K c) [] E (tCons ta tNil)) (gName j)) tz D σ H :=
  hl H (Ex.refl _) _ fun l H1 e1 h1 => ⟨.ref l, rfl, .inr ⟨l, xs, rfl, h1, hlen, notes_isD ((Mut.of (W := []) e1).notes hN), .inr (.inr (.inr ⟨nts, s, (Mut.of (W := []) e1).notes hN, hL, fun a f n p H2 e2 ha hf hn hp hA => k a f n p H2 (e1.trans e2) (fresh_of e1 ha) (fresh_of e1 hf) (fresh_of e1 hn) (fresh_of e1 hp) hA⟩))⟩⟩
theorem ev_caught (ha : Ev ta σ H (.ref l)) (hl : SqL K H l xs) (hlen : xs.length < 90000) (hN : NotesAt K H xs nts) (hL : LogOf nts s) : Ev (tCall (sp_k13_l_caught K c) [] E (tCons ta tNil)) σ H (.bl true) := fun H1 e1 Q q =>
  ha H1 e1 _ fun H2 e2 => ⟨l, xs, nts, s, rfl, ex_l (e1.trans e2) hl, hlen, (Mut.of (W := []) (e1.trans e2)).notes hN, hL, fun H3 e3 => q H3 (e2.trans e3)⟩
theorem ev_refused {P : HP} {k : Int} (h : EvP P ta σ H) (hr : ∀ v H', Ex H H' → P v H' → Repl K v H' (fun j => j = k) (fun _ _ => False)) : Ev (tCall (sp_k13_l_refused K c) [] E (tCons ta tNil)) σ H (.int k) := fun H1 e1 Q q =>
  h H1 e1 _ fun v H2 e2 pv => ⟨v, rfl, repl_up (Ex.refl _) (hr v H2 (e1.trans e2) pv) (fun j hj => hj ▸ fun H3 e3 => q H3 (e2.trans e3)) fun _ _ z => z⟩
theorem evd_cut {m : Int} (h : EvN K ta σ H nts) (hb : ∀ H1, Ex H H1 → Ev tb σ H1 (.int m)) (h0 : 0 ≤ m) : EvD K (tSl (xSl K) ta tNoPart (tPart tb)) σ H (.list ((nts.take m.toNat).map dN)) := fun H1 e Q q =>
  h H1 e _ fun l xs H2 hl e2 h2 hn => eo_none H2 (Ex.refl _) _ fun H3 e3 => (eo_some (hb H3 ((e.trans e2).trans e3))) H3 (Ex.refl _) _ fun H4 e4 => .inl ⟨l, xs, rfl, SqL.of ((e3.trans e4) _ _ h2), fun p hp =>
    q _ _ ((e2.trans (e3.trans e4)).trans (Ex.new hp)) (.lst (SqL.of upd_same) (by rw [cutV_up h0]; exact dpa_ex ((e3.trans e4).trans (Ex.new hp)) (notes_dpa (notes_cut hn))))⟩
/-- a row that can't stand at k -/
def BadAt (K : PySem.W.Frag) (nts : List Note) (k : Nat) : HP := fun v H => (k = 0 ∧ BadFirst K H v) ∨ ∃ s, 1 ≤ k ∧ LogOf (nts.take k) s ∧ BadRow K H s v
theorem badAt_mon {k : Nat} : Mon (BadAt K nts k) := fun v H H' e h => by
  rcases h with ⟨h, hb⟩ | ⟨s, h1, h2, hb⟩
  · exact .inl ⟨h, badFirst_ex e hb⟩
  · exact .inr ⟨s, h1, h2, badRow_ex e hb⟩
theorem evp_spoilt {k : Nat} {x : V} {cell : Int} (ha : Ev ta σ H x) (hb : ∀ H1, Ex H H1 → Ev tb σ H1 (.int cell)) (hN : NotesAt K H xs nts) (hL : LogOf nts s) (hx : xs[k]? = some x) : EvP (GD K (BadAt K nts k)) (tCall (sp_k13_l_spoilt K c) [] E (tCons ta (tCons tb tNil))) σ H := fun H1 e1 Q q =>
  ha H1 e1 _ fun H2 e2 => hb H2 (e1.trans e2) H2 (Ex.refl _) _ fun H3 e3 => by
    have hk := (List.getElem?_eq_some_iff.mp hx).1
    obtain ⟨nt, hnt⟩ : ∃ nt, nts[k]? = some nt := ⟨_, List.getElem?_eq_getElem (by rw [← hN.1]; exact hk)⟩
    have hat := (Mut.of (W := []) ((e1.trans e2).trans e3)).note (hN.2 k x nt hx hnt)
    refine ⟨x, cell, nt, rfl, hat, ?_⟩
    by_cases h0 : k = 0
    · subst h0
      obtain ⟨ns, rest, rfl, _⟩ := hL.ex
      cases hnt
      exact .inl ⟨ns, rfl, fun v H4 e4 hv => q v H4 ((e2.trans e3).trans e4) ⟨hv.1, .inl ⟨rfl, hv.2⟩⟩⟩
    · obtain ⟨s', hL'⟩ := hL.take (k := k) (by omega)
      obtain ⟨hok, _⟩ := hL.next (by omega) hnt hL'
      exact .inr ⟨s', hL'.inv, hL'.small, hok, fun v H4 e4 hv => q v H4 ((e2.trans e3).trans e4) ⟨hv.1, .inr ⟨s', by omega, hL', hv.2⟩⟩⟩
/-- a log with such a row at k -/
theorem repl_bad {k : Nat} {ys zs : List V} {v : V} (hl : SqL K H l (xs.take k ++ [v] ++ zs)) (hk : k ≤ xs.length) (hlen : xs.length + zs.length < 80000) (hN : NotesAt K H xs nts) (hv : GD K (BadAt K nts k) v H) (hz : ∀ y ∈ zs, IsD K H y) : Repl K (.ref l) H (fun j => j = (k : Int)) (fun _ _ => False) := by
  refine .inr ⟨l, _, rfl, hl, ?_, fun y hy => ?_, ?_⟩
  · rw [List.length_append, List.length_append, List.length_take]
    show min k xs.length + 1 + zs.length < 90000
    omega
  · rcases List.mem_append.mp hy with m | m
    · rcases List.mem_append.mp m with m | m
      · exact notes_isD hN y (List.mem_of_mem_take m)
      · rw [List.mem_singleton.mp m]
        exact hv.1
    · exact hz y m
  · have hlk : (xs.take k).length = k := by rw [List.length_take]; omega
    rcases hv.2 with ⟨rfl, hb⟩ | ⟨s', h1, hL', hb⟩
    · exact .inr (.inl ⟨v, zs, rfl, hb, rfl⟩)
    · refine .inr (.inr (.inl ⟨k, nts.take k, s', v, h1, ?_, hL', ?_, hb, rfl⟩))
      · rw [List.append_assoc, List.take_left' hlk]
        exact notes_cut hN
      · rw [List.append_assoc, List.getElem?_append_right (by omega), hlk, Nat.sub_self]
        rfl
/-- a part of law: slots _law_script, _law_first, _law_hall, _law_many, _law_k, _law_cell, _law_draw, _law_turn, _law_log, _law_kept, _law_again, _law_at, _law_part, _law_bad -/
def t_k13_law_13_ (K : PySem.W.Frag) (c : Cs) (E : XK) : TS :=
  (tSeq (tAsg (tOp xMod (tCall (sp_l_cell_at K c) [] E0 (tCons (tVar 0) (tCons (tC (.int 2)) tNil))) (tCB (cLen K) (tCons (tVar 8) tNil))) (gName 4))
  (tSeq (tAsg (tCall (sp_k13_l_spoilt K c) [] E0 (tCons (tOp (rIx K) (tVar 8) (tVar 4)) (tCons (tCall (sp_l_cell_at K c) [] E0 (tCons (tVar 0) (tCons (tC (.int 3)) tNil))) tNil))) (gName 13))
  (tSeq (tIfS (tOr (tTest (tOp (xNe K) (tCall (sp_k13_l_refused K c) [] E0 (tCons (tOp (xAdd K) (tOp (xAdd K) (tOp (xAdd K) (tSl (xSl K) (tVar 8) tNoPart (tPart (tVar 4))) (tLst (tCons (tVar 13) tNil))) (tSl (xSl K) (tVar 8) (tPart (tOp (xAdd K) (tVar 4) (tC (.int 1)))) tNoPart)) (tLst (tCons (tC .non) tNil))) tNil)) (tVar 4))) (tTest (tOp (xNe K) (tCall (sp_k13_l_refused K c) [] E0 (tCons (tLst tNil) tNil)) (tC (.int 0))))) (tRet (tC (.bl false))) tNext)
  (tSeq (tIfS (tOr (tTest (tOp (xNe K) (tCall (sp_k13_l_refused K c) [] E0 (tCons (tCB (cTuple K) (tCons (tVar 8) tNil)) tNil)) (tC (.int 0)))) (tTest (tOp (xNe K) (tCall (sp_k13_l_refused K c) [] E0 (tCons (tSl (xSl K) (tVar 8) (tPart (tC (.int 1))) tNoPart) tNil)) (tC (.int 0))))) (tRet (tC (.bl false))) tNext)
  (tSeq (tIfS (tTest (tOp (xNe K) (tCall (sp_k13_l_refused K c) [] E0 (tCons (tOp (xAdd K) (tOp (xAdd K) (tSl (xSl K) (tVar 8) tNoPart (tPart (tVar 11))) (tLst (tCons (tOp (rIx K) (tVar 8) (tC (.int 0))) tNil))) (tSl (xSl K) (tVar 8) (tPart (tVar 11)) tNoPart)) tNil)) (tVar 11))) (tRet (tC (.bl false))) tNext)
  (tSeq (tDrop (tBM K "list" rAppend (tVar 8) (tCons (tC (.int 0)) tNil)))
  (tRet (tAndV (tOp (xEq K) (tCall (sp_k13_l_seen K c) [] E0 (tCons (tVar 10) tNil)) (tCall (sp_k13_l_seen K c) [] E0 (tCons (tVar 2) tNil))) (tOp (xEq K) (tSl (xSl K) (tMeth c.hall "log" (sp_h_log K c) [] E0 (tVar 2) tNil) tNoPart (tPart (tCB (cLen K) (tCons (tVar 9) tNil)))) (tVar 9))))))))))

theorem k13_last {x1 u4 u5 u6 u7 x12 : Option V} {a0 lg kp a2 f2 n2 p2 : Addr} {many at_ : Int} {Q : VK} (hs : SqL K H a0 (ns.map V.int)) (hA : HallAt K c.hall H a f n p s (nts ++ [.stp (thingS s0) (nextH s0)])) (hA2 : HallAt K c.hall H a2 f2 n2 p2 s (nts ++ [.stp (thingS s0) (nextH s0)])) (I : HInv s) (hL : LogOf nts s0) (hlg : H lg = some (.lst xs)) (hkp : H kp = some (.lst xs)) (hN : NotesAt K H xs nts)
    (hlen : xs.length ≤ 1000) (h1 : 1 ≤ at_) (h2 : at_ ≤ (xs.length : Int)) (hlk : lg ≠ kp) (hla : lg ∉ [a, f, n, p]) (hla2 : lg ∉ [a2, f2, n2, p2]) (q : ∀ H', Q (.bl true) H') :
    t_k13_law_13_ K c E { nx := fun _ H' => Q .non H', rt := Q } [some (.ref a0), x1, some (.ref a), some (.int many), u4, u5, u6, u7, some (.ref lg), some (.ref kp), some (.ref a2), some (.int at_), x12, none] H := by
  have hnl : nts.length = xs.length := hN.1.symm
  have hx0 : 0 < xs.length := by omega
  have log8 : ∀ {σ : L2.St} {H' : Hp}, Ex H H' → σ[8]? = some (some (.ref lg)) → EvS K (tVar 8) σ H' xs := fun e h0 => evs_of (ev_var h0) (SqL.of (e _ _ hlg))
  -- k
  refine q_asg (v := .int (mixed (gi ns 2) 2 % (xs.length : Int))) (ev_op (ev_l_cell_at (ev_var (i := 0) rfl) ev_c hs (by decide)) (ev_lenQ (evq_s (log8 (Ex.refl _) rfl))) (rv_mod (by omega))) fun H1 e1 => ?_
  obtain ⟨k, hk, hkl⟩ : ∃ k : Nat, mixed (gi ns 2) 2 % (xs.length : Int) = (k : Int) ∧ k < xs.length := by
    have b0 : 0 ≤ mixed (gi ns 2) 2 % (xs.length : Int) := Int.emod_nonneg _ (by omega)
    have b1 : mixed (gi ns 2) 2 % (xs.length : Int) < xs.length := Int.emod_lt_of_pos _ (by omega)
    exact ⟨(mixed (gi ns 2) 2 % (xs.length : Int)).toNat, by omega, by omega⟩
  rw [hk]
  have hN1 := (Mut.of (W := []) e1).notes hN
  -- bad
  refine q_asgP (P := GD K (BadAt K nts k)) (evp_spoilt (K := K) (c := c) (E := E0) (x := xs[k]) (ev_ix (i := (k : Int)) (evq_s (log8 e1 rfl)) (fun _ _ => ev_var (i := 4) rfl) (at_lt (n := 0) (by omega) (by omega) (List.getElem?_eq_getElem hkl))) (fun H' e' => ev_l_cell_at (ev_var (i := 0) rfl) ev_c (ex_l (e1.trans e') hs) (by decide)) hN1 hL (List.getElem?_eq_getElem hkl)) fun v H2 e2 hv => ?_
  have e02 := e1.trans e2
  -- refused
  have bm := gd_mon (K := K) (badAt_mon (K := K) (nts := nts) (k := k))
  have r1 : ∀ {H' : Hp}, Ex H2 H' → Ev (tCall (sp_k13_l_refused K c) [] E0 (tCons (tOp (xAdd K) (tOp (xAdd K) (tOp (xAdd K) (tSl (xSl K) (tVar 8) tNoPart (tPart (tVar 4))) (tLst (tCons (tVar 13) tNil))) (tSl (xSl K) (tVar 8) (tPart (tOp (xAdd K) (tVar 4) (tC (.int 1)))) tNoPart)) (tLst (tCons (tC .non) tNil))) tNil)) [some (.ref a0), x1, some (.ref a), some (.int many), some (.int (k : Int)), u5, u6, u7, some (.ref lg), some (.ref kp), some (.ref a2), some (.int at_), x12, some v] H' (.int (k : Int)) := fun {H'} e => by
    have hd : (xs.drop (k + 1)).length ≤ xs.length := by rw [List.length_drop]; omega
    refine ev_refused (evp_l (xs := xs.take k ++ [v] ++ xs.drop (k + 1) ++ [.non]) ?_) ?_
    · refine el_cat (evs_new (el_cat (evs_new (el_cat (evs_new ?_) (evs_new (el_lst (ea_cons (ev_var (i := 13) rfl) ea_nil) (by show 1 ≤ 100000; decide))) ?_)) (evs_new ?_) ?_)) (evs_new (el_lst (ea_cons ev_c ea_nil) (by show 1 ≤ 100000; decide))) ?_
      · have z := el_slX (K := K) (lo := none) (hi := some (k : Int)) (tl := tNoPart) (th := tPart (tVar 4)) (log8 (σ := [some (.ref a0), x1, some (.ref a), some (.int many), some (.int (k : Int)), u5, u6, u7, some (.ref lg), some (.ref kp), some (.ref a2), some (.int at_), x12, some v]) (e02.trans e) rfl) eo_none (eo_some (ev_var (i := 4) rfl))
        rw [cutV_up (by omega), Int.toNat_natCast] at z
        exact z
      · rw [List.length_take]; show min k xs.length + 1 ≤ 100000; omega
      · have z := el_slX (K := K) (lo := some ((k : Int) + 1)) (hi := none) (tl := tPart (tOp (xAdd K) (tVar 4) (tC (.int 1)))) (th := tNoPart) (log8 (σ := [some (.ref a0), x1, some (.ref a), some (.int many), some (.int (k : Int)), u5, u6, u7, some (.ref lg), some (.ref kp), some (.ref a2), some (.int at_), x12, some v]) (e02.trans e) rfl) (eo_some (ev_op (ev_var (i := 4) rfl) ev_c rv_addI)) eo_none
        rw [cutV_from (by omega) (by omega), show ((k : Int) + 1).toNat = k + 1 by omega] at z
        exact z
      · rw [List.length_append, List.length_take]; show min k xs.length + 1 + _ ≤ 100000; omega
      · rw [List.length_append, List.length_append, List.length_take]; show min k xs.length + 1 + _ + 1 ≤ 100000; omega
    · rintro _ H'' e'' ⟨l', rfl, h'⟩
      have e0 := (e02.trans e).trans e''
      rw [List.append_assoc] at h'
      refine repl_bad (xs := xs) (ys := []) (zs := xs.drop (k + 1) ++ [.non]) (nts := nts) (SqL.of h') (by omega) (by rw [List.length_append]; show xs.length + (_ + 1) < 80000; omega) ((Mut.of (W := []) e0).notes hN) (bm _ _ _ (e.trans e'') hv) fun y hy => ?_
      rcases List.mem_append.mp hy with m | m
      · exact notes_isD ((Mut.of (W := []) e0).notes hN) y (List.mem_of_mem_drop m)
      · rw [List.mem_singleton.mp m]
        exact ⟨_, .non, flat_non.mono (by decide)⟩
  have r2 : ∀ {σ : L2.St} {H' : Hp}, Ev (tCall (sp_k13_l_refused K c) [] E0 (tCons (tLst tNil) tNil)) σ H' (.int 0) := ev_refused (evp_l (el_lst ea_nil (by show 0 ≤ 100000; decide))) fun _ H'' _ ⟨l', e, h'⟩ => by
    subst e
    exact .inr ⟨l', [], rfl, SqL.of h', by show 0 < 90000; decide, fun y hy => absurd hy List.not_mem_nil, .inl ⟨rfl, rfl⟩⟩
  refine q_when (b := false) (et_is (et_or (a := false) (et_is (et_test (ev_op (r1 (Ex.refl _)) (ev_var (i := 4) rfl) rv_neI)) (by simp)) fun _ => et_is (et_test (ev_op r2 ev_c rv_neI)) (by simp)) rfl) (fun z => nomatch z) fun _ H3 e3 => ?_
  have e03 := e02.trans e3
  -- a tuple, the log without its first row
  have r3 : ∀ {σ : L2.St} {H' : Hp}, Ex H H' → σ[8]? = some (some (.ref lg)) → Ev (tCall (sp_k13_l_refused K c) [] E0 (tCons (tCB (cTuple K) (tCons (tVar 8) tNil)) tNil)) σ H' (.int 0) := fun e h0 => ev_refused (evp_ofW (P := fun v H => ∃ t, v = .ref t ∧ SqT K H t xs) (evw_new (eu_tupleL (log8 e h0))) fun t H'' _ h => ⟨t, rfl, h⟩) fun _ H'' _ ⟨t, e, h'⟩ => by
    subst e
    exact .inl ⟨⟨"tuple", tyx_t h', by decide +kernel⟩, rfl⟩
  have r4 : ∀ {σ : L2.St} {H' : Hp}, Ex H H' → σ[8]? = some (some (.ref lg)) → Ev (tCall (sp_k13_l_refused K c) [] E0 (tCons (tSl (xSl K) (tVar 8) (tPart (tC (.int 1))) tNoPart) tNil)) σ H' (.int 0) := fun {σ H'} e h0 => by
    have z := el_slX (K := K) (lo := some 1) (hi := none) (tl := tPart (tC (.int 1))) (th := tNoPart) (log8 e h0) (eo_some ev_c) eo_none
    rw [cutV_from (by decide) (by omega), show (1 : Int).toNat = 1 from rfl] at z
    refine ev_refused (evp_l z) ?_
    rintro _ H'' e'' ⟨l', rfl, h'⟩
    have hN' := (Mut.of (W := []) (e.trans e'')).notes hN
    refine .inr ⟨l', _, rfl, SqL.of h', by rw [List.length_drop]; omega, fun y hy => notes_isD hN' y (List.mem_of_mem_drop hy), ?_⟩
    cases hd : xs.drop 1 with
    | nil => exact .inl ⟨rfl, rfl⟩
    | cons v rest =>
      have hv : xs[1]? = some v := by
        have : (xs.drop 1)[0]? = some v := by rw [hd]; rfl
        rw [List.getElem?_drop] at this
        exact this
      have h1l := (List.getElem?_eq_some_iff.mp hv).1
      obtain ⟨nt, hnt⟩ : ∃ nt, nts[1]? = some nt := ⟨_, List.getElem?_eq_getElem (by omega)⟩
      obtain ⟨s', hL'⟩ := hL.take (k := 1) (by decide)
      obtain ⟨hok, _⟩ := hL.next (by decide) hnt hL'
      have hat := hN'.2 1 v nt hv hnt
      refine .inr (.inl ⟨v, rest, rfl, ?_, rfl⟩)
      cases nt with
      | beg ns => exact hok.elim
      | chg ns =>
        obtain ⟨t, u, rfl, ht, hu⟩ := hat
        exact .two t "change" _ rfl (SqT.of ht) (by decide +kernel)
      | stp th hh =>
        obtain ⟨t, rfl, ht⟩ := hat
        exact .len t _ rfl (SqT.of ht) (by show ¬ (3 = 2); decide)
  refine q_when (b := false) (et_is (et_or (a := false) (et_is (et_test (ev_op (r3 e03 rfl) ev_c rv_neI)) (by simp)) fun _ => et_is (et_test (ev_op (r4 e03 rfl) ev_c rv_neI)) (by simp)) rfl) (fun z => nomatch z) fun _ H4 e4 => ?_
  have e04 := e03.trans e4
  -- its first row once more
  obtain ⟨m, hm, hm1, hml⟩ : ∃ m : Nat, at_ = (m : Int) ∧ 1 ≤ m ∧ m ≤ xs.length := ⟨at_.toNat, by omega, by omega, by omega⟩
  subst hm
  obtain ⟨v0, hv0⟩ : ∃ v0, xs[0]? = some v0 := ⟨_, List.getElem?_eq_getElem hx0⟩
  have r5 : Ev (tCall (sp_k13_l_refused K c) [] E0 (tCons (tOp (xAdd K) (tOp (xAdd K) (tSl (xSl K) (tVar 8) tNoPart (tPart (tVar 11))) (tLst (tCons (tOp (rIx K) (tVar 8) (tC (.int 0))) tNil))) (tSl (xSl K) (tVar 8) (tPart (tVar 11)) tNoPart)) tNil)) [some (.ref a0), x1, some (.ref a), some (.int many), some (.int (k : Int)), u5, u6, u7, some (.ref lg), some (.ref kp), some (.ref a2), some (.int (m : Int)), x12, some v] H4 (.int (m : Int)) := by
    have hd : (xs.drop m).length ≤ xs.length := by rw [List.length_drop]; omega
    refine ev_refused (evp_l (xs := xs.take m ++ [v0] ++ xs.drop m) ?_) ?_
    · refine el_cat (evs_new (el_cat (evs_new ?_) (evs_new (el_lst (ea_cons (ev_ix (i := 0) (evq_s (log8 e04 rfl)) (fun _ _ => ev_c) (at_lt (n := 0) (by decide) (by omega) hv0)) ea_nil) (by show 1 ≤ 100000; decide))) ?_)) (evs_new ?_) ?_
      · have z := el_slX (K := K) (lo := none) (hi := some (m : Int)) (tl := tNoPart) (th := tPart (tVar 11)) (log8 (σ := [some (.ref a0), x1, some (.ref a), some (.int many), some (.int (k : Int)), u5, u6, u7, some (.ref lg), some (.ref kp), some (.ref a2), some (.int (m : Int)), x12, some v]) e04 rfl) eo_none (eo_some (ev_var (i := 11) rfl))
        rw [cutV_up (by omega), Int.toNat_natCast] at z
        exact z
      · rw [List.length_take]; show min m xs.length + 1 ≤ 100000; omega
      · have z := el_slX (K := K) (lo := some (m : Int)) (hi := none) (tl := tPart (tVar 11)) (th := tNoPart) (log8 (σ := [some (.ref a0), x1, some (.ref a), some (.int many), some (.int (k : Int)), u5, u6, u7, some (.ref lg), some (.ref kp), some (.ref a2), some (.int (m : Int)), x12, some v]) e04 rfl) (eo_some (ev_var (i := 11) rfl)) eo_none
        rw [cutV_from (by omega) (by omega), Int.toNat_natCast] at z
        exact z
      · rw [List.length_append, List.length_take]; show min m xs.length + 1 + _ ≤ 100000; omega
    · rintro _ H'' e'' ⟨l', rfl, h'⟩
      have hN' := (Mut.of (W := []) (e04.trans e'')).notes hN
      obtain ⟨ns0, rest, hnts, _⟩ := hL.ex
      have hat := hN'.2 0 v0 (.beg ns0) hv0 (by rw [hnts]; rfl)
      obtain ⟨s', hL'⟩ := hL.take (k := m) hm1
      refine repl_bad (xs := xs) (ys := []) (zs := xs.drop m) (nts := nts) (SqL.of h') hml (by omega) hN' ⟨note_isD hat, .inr ⟨s', hm1, hL', ?_⟩⟩ fun y hy => notes_isD hN' y (List.mem_of_mem_drop hy)
      obtain ⟨t, u, rfl, ht, hu⟩ := hat
      exact .two t "begin" _ rfl (SqT.of ht) (by decide +kernel)
  refine q_when (b := false) (et_is (et_test (ev_op r5 (ev_var (i := 11) rfl) rv_neI)) (by simp)) (fun z => nomatch z) fun _ H5 e5 => ?_
  have e05 := e04.trans e5
  -- the log told grows
  refine q_app (l := lg) (xs := xs) (v := .int 0) (e05 _ _ hlg) (ev_var (i := 8) rfl) ev_c (by omega) fun H6 e6 => ?_
  have e06 := e05.trans e6
  generalize hH7 : upd H6 lg _ = H7
  have m7 : Mut [lg] H H7 := by
    rw [← hH7]
    exact (Mut.of e06).trans (Mut.upd (e06 _ _ hlg) no_lst (by simp))
  simp only [List.mem_cons, List.not_mem_nil, or_false, not_or] at hla hla2
  have sg : ∀ {b : Addr}, lg ≠ b → b ∉ [lg] := fun h => by simp [Ne.symm h]
  have hA7 := hA.mut m7 (sg hla.1) (sg hla.2.1) (sg hla.2.2.1) (sg hla.2.2.2)
  have hA27 := hA2.mut m7 (sg hla2.1) (sg hla2.2.1) (sg hla2.2.2.1) (sg hla2.2.2.2)
  have hkp7 := m7 _ _ hkp (.inl (sg hlk))
  have hN7 := m7.notes hN
  have fs := (flat_seen s (nts ++ [.stp (thingS s0) (nextH s0)]))
  have fl := (flat_notes nts)
  refine s_ret (v := .bl true) (ev_is (ev_andV (a := true) (b := true) (ev_is (ev_eqD (evd_seen (ev_var (i := 10) rfl) hA27 I) (evd_seen (ev_var (i := 2) rfl) hA7 I) (fs.shaped (by decide)) (fs.shaped (by decide))) (by rw [fs.refl])) fun _ => ?_) rfl) fun H8 _ => q H8
  have z := evd_cut (m := (xs.length : Int)) (ta := tMeth c.hall "log" (sp_h_log K c) [] E0 (tVar 2) tNil) (tb := tCB (cLen K) (tCons (tVar 9) tNil)) (σ := [some (.ref a0), x1, some (.ref a), some (.int many), some (.int (k : Int)), u5, u6, u7, some (.ref lg), some (.ref kp), some (.ref a2), some (.int (m : Int)), x12, some v]) (evn_log (ev_var (i := 2) rfl) hA7 I) (fun H' e' => ev_lenQ (evq_of (ev_var (i := 9) rfl) (.inl (SqL.of (e' _ _ hkp7))))) (by omega)
  rw [Int.toNat_natCast, List.take_left' hnl] at z
  exact ev_is (ev_eqD z (evd_l (evs_of (ev_var (i := 9) rfl) (SqL.of hkp7)) (notes_dpa hN7)) (fl.shaped (by decide)) (fl.shaped (by decide))) (by rw [fl.refl])
end
end Tr

/-! Law k13: between the loop and the last questions; the law. -/
namespace Tr
open PySem L2 PySem.Spec PyProof.Rows Evl

/-- a part of law: slots _law_script, _law_first, _law_hall, _law_many, _law_k, _law_cell, _law_draw, _law_turn, _law_log, _law_kept, _law_again, _law_at, _law_part, _law_bad -/
def t_k13_law_4_ (K : PySem.W.Frag) (c : Cs) (E : XK) : TS :=
  (tSeq (tAsg (tMeth c.hall "log" (sp_h_log K c) [] E0 (tVar 2) tNil) (gName 8))
  (tSeq (tAsg (tCB (cList K) (tCons (tVar 8) tNil)) (gName 9))
  (tSeq (tAsg (tCall (sp_k13_l_back K c) [] E0 (tCons (tVar 8) tNil)) (gName 10))
  (tSeq (tIfS (tOr (tTest (tOp xIsN (tVar 10) (tC .non))) (tOr (tNot (tB (tCall (sp_k13_l_caught K c) [] E0 (tCons (tVar 8) tNil)))) (tOr (tTest (tOp (xNe K) (tCall (sp_k13_l_seen K c) [] E0 (tCons (tVar 10) tNil)) (tCall (sp_k13_l_seen K c) [] E0 (tCons (tVar 2) tNil)))) (tTest (tOp (xNe K) (tCB (cLen K) (tCons (tMeth c.hall "air" (sp_h_air K c) [] E0 (tVar 2) tNil) tNil)) (tVar 3)))))) (tRet (tC (.bl false))) tNext)
  (tSeq (tAsg (tOp (xAdd K) (tC (.int 1)) (tOp xMod (tCall (sp_l_cell_at K c) [] E0 (tCons (tVar 0) (tCons (tC (.int 1)) tNil))) (tCB (cLen K) (tCons (tVar 8) tNil)))) (gName 11))
  (tSeq (tAsg (tCall (sp_k13_l_back K c) [] E0 (tCons (tSl (xSl K) (tVar 8) tNoPart (tPart (tVar 11))) tNil)) (gName 12))
  (tSeq (tIfS (tOr (tTest (tOp xIsN (tVar 12) (tC .non))) (tOr (tTest (tOp (xNe K) (tMeth c.hall "log" (sp_h_log K c) [] E0 (tVar 12) tNil) (tSl (xSl K) (tVar 8) tNoPart (tPart (tVar 11))))) (tTest (tOp (xNe K) (tVar 8) (tVar 9))))) (tRet (tC (.bl false))) tNext)
  (tSeq (tDrop (tMeth c.hall "step" (sp_h_step K c) [] E0 (tVar 2) tNil))
  (tSeq (tDrop (tMeth c.hall "step" (sp_h_step K c) [] E0 (tVar 10) tNil))
  (tSeq (tAsg (tOp xMod (tCall (sp_l_cell_at K c) [] E0 (tCons (tVar 0) (tCons (tC (.int 2)) tNil))) (tCB (cLen K) (tCons (tVar 8) tNil))) (gName 4))
  (tSeq (tAsg (tCall (sp_k13_l_spoilt K c) [] E0 (tCons (tOp (rIx K) (tVar 8) (tVar 4)) (tCons (tCall (sp_l_cell_at K c) [] E0 (tCons (tVar 0) (tCons (tC (.int 3)) tNil))) tNil))) (gName 13))
  (tSeq (tIfS (tOr (tTest (tOp (xNe K) (tCall (sp_k13_l_refused K c) [] E0 (tCons (tOp (xAdd K) (tOp (xAdd K) (tOp (xAdd K) (tSl (xSl K) (tVar 8) tNoPart (tPart (tVar 4))) (tLst (tCons (tVar 13) tNil))) (tSl (xSl K) (tVar 8) (tPart (tOp (xAdd K) (tVar 4) (tC (.int 1)))) tNoPart)) (tLst (tCons (tC .non) tNil))) tNil)) (tVar 4))) (tTest (tOp (xNe K) (tCall (sp_k13_l_refused K c) [] E0 (tCons (tLst tNil) tNil)) (tC (.int 0))))) (tRet (tC (.bl false))) tNext)
  (tSeq (tIfS (tOr (tTest (tOp (xNe K) (tCall (sp_k13_l_refused K c) [] E0 (tCons (tCB (cTuple K) (tCons (tVar 8) tNil)) tNil)) (tC (.int 0)))) (tTest (tOp (xNe K) (tCall (sp_k13_l_refused K c) [] E0 (tCons (tSl (xSl K) (tVar 8) (tPart (tC (.int 1))) tNoPart) tNil)) (tC (.int 0))))) (tRet (tC (.bl false))) tNext)
  (tSeq (tIfS (tTest (tOp (xNe K) (tCall (sp_k13_l_refused K c) [] E0 (tCons (tOp (xAdd K) (tOp (xAdd K) (tSl (xSl K) (tVar 8) tNoPart (tPart (tVar 11))) (tLst (tCons (tOp (rIx K) (tVar 8) (tC (.int 0))) tNil))) (tSl (xSl K) (tVar 8) (tPart (tVar 11)) tNoPart)) tNil)) (tVar 11))) (tRet (tC (.bl false))) tNext)
  (tSeq (tDrop (tBM K "list" rAppend (tVar 8) (tCons (tC (.int 0)) tNil)))
  (tRet (tAndV (tOp (xEq K) (tCall (sp_k13_l_seen K c) [] E0 (tCons (tVar 10) tNil)) (tCall (sp_k13_l_seen K c) [] E0 (tCons (tVar 2) tNil))) (tOp (xEq K) (tSl (xSl K) (tMeth c.hall "log" (sp_h_log K c) [] E0 (tVar 2) tNil) tNoPart (tPart (tCB (cLen K) (tCons (tVar 9) tNil)))) (tVar 9)))))))))))))))))))

section
variable {K : PySem.W.Frag} {c : Cs} {E : XK} {σ : L2.St} {H : Hp} {a f n p : Addr} {s : HS} {nts : List Note} {ns : List Int}
theorem ne_lst {H : Hp} {a l : Addr} {o : HO} {xs : List V} (ha : H a = some o) (hl : H l = some (.lst xs)) (h : ∀ ys, o ≠ .lst ys) : l ≠ a := fun z => by
  subst z
  rw [ha] at hl
  cases hl
  exact h _ rfl
theorem k13_tail {x1 u4 u5 u6 u7 : Option V} {a0 : Addr} {many : Int} {Q : VK} (hs : SqL K H a0 (ns.map V.int)) {H0 : Hp} (eH : Ex H0 H) (hs0 : SqL K H0 a0 (ns.map V.int)) (f1 : H0 a = none) (f2' : H0 f = none) (f3 : H0 n = none) (hA : HallAt K c.hall H a f n p s nts) (hL : LogOf nts s) (hm : many = (pcI s.bits : Int)) (hlen : nts.length ≤ 900) (q : ∀ H', Q (.bl true) H') :
    t_k13_law_4_ K c E { nx := fun _ H' => Q .non H', rt := Q } [some (.ref a0), x1, some (.ref a), some (.int many), u4, u5, u6, u7, none, none, none, none, none, none] H := by
  have I := hL.inv
  obtain ⟨ns0, rest, hnts, _⟩ := hL.ex
  refine q_asgN (evn_log (ev_var (i := 2) rfl) hA I) fun lg xs H1 hlg e1 h1 hN1 => ?_
  have hnl : nts.length = xs.length := hN1.1.symm
  have hx0 : 1 ≤ xs.length := by rw [← hnl, hnts, List.length_cons]; omega
  refine q_asgL (el_listQ (evq_of (ev_var (i := 8) rfl) (.inl (SqL.of h1)))) fun kp H2 hkp e2 h2 => ?_
  have e12 := e1.trans e2
  have hN2 := (Mut.of (W := []) e2).notes hN1
  have hlg2 := e2 _ _ h1
  refine q_back (evs_of (ev_var (i := 8) rfl) (SqL.of hlg2)) (by omega) hN2 hL fun a2 f2 n2 p2 H3 e3 ha2 hf2 hn2 hp2 hA2 => ?_
  have e13 := e12.trans e3
  have hN3 := (Mut.of (W := []) e3).notes hN2
  have hlg3 := e3 _ _ hlg2
  have hkp3 := e3 _ _ h2
  have hA3 := hA.ex e13
  have fs := flat_seen s nts
  refine q_when (b := false) (et_is (et_or (a := false) (et_is (et_test (ev_op (ev_var (i := 10) rfl) ev_c rv_isN)) rfl) fun _ => et_or (a := false) (et_is (et_not (et_B (ev_caught (E := E0) (ev_var (i := 8) rfl) (SqL.of hlg3) (by omega) hN3 hL))) rfl) fun _ => et_or (a := false) (et_is (et_test (ev_neD (evd_seen (ev_var (i := 10) rfl) hA2 I) (evd_seen (ev_var (i := 2) rfl) hA3 I) (fs.shaped (by decide)) (fs.shaped (by decide)))) (by rw [fs.refl]; rfl)) fun _ => et_is (et_test (ev_op (ev_lenP (evp_air (ev_var (i := 2) rfl) hA3 I)) (ev_var (i := 3) rfl) rv_neI)) ?_) rfl) (fun z => nomatch z) fun _ H4 e4 => ?_
  · rw [air_len I, ← hm, decide_eq_true rfl]
    rfl
  have e14 := e13.trans e4
  have at0 : 0 ≤ mixed (gi ns 1) 1 % (xs.length : Int) := Int.emod_nonneg _ (by omega)
  have at1 : mixed (gi ns 1) 1 % (xs.length : Int) < xs.length := Int.emod_lt_of_pos _ (by omega)
  have hlg4 := e4 _ _ hlg3
  refine q_asg (v := .int (1 + mixed (gi ns 1) 1 % (xs.length : Int))) (ev_op ev_c (ev_op (ev_l_cell_at (ev_var (i := 0) rfl) ev_c (ex_l e14 hs) (by decide)) (ev_lenQ (evq_of (ev_var (i := 8) rfl) (.inl (SqL.of hlg4)))) (rv_mod (by omega))) rv_addI) fun H5 e5 => ?_
  have e15 := e14.trans e5
  obtain ⟨m, hm', hm1, hml⟩ : ∃ m : Nat, 1 + mixed (gi ns 1) 1 % (xs.length : Int) = (m : Int) ∧ 1 ≤ m ∧ m ≤ xs.length := ⟨(1 + mixed (gi ns 1) 1 % (xs.length : Int)).toNat, by omega, by omega, by omega⟩
  rw [hm']
  have hlg5 := e5 _ _ hlg4
  have hN5 := (Mut.of (W := []) (e4.trans e5)).notes hN3
  obtain ⟨s', hL'⟩ := hL.take hm1
  have cut : ∀ {σ : L2.St} {H' : Hp}, Ex H5 H' → σ[8]? = some (some (.ref lg)) → σ[11]? = some (some (.int (m : Int))) → EvL (tSl (xSl K) (tVar 8) tNoPart (tPart (tVar 11))) σ H' (xs.take m) := fun {σ H'} e h0 h1 => by
    have z := el_slX (K := K) (lo := none) (hi := some (m : Int)) (tl := tNoPart) (th := tPart (tVar 11)) (evs_of (σ := σ) (H := H') (ev_var h0) (SqL.of (e _ _ hlg5))) eo_none (eo_some (ev_var h1))
    rw [cutV_up (by omega), Int.toNat_natCast] at z
    exact z
  refine q_back (nts := nts.take m) (evs_new (cut (Ex.refl _) rfl rfl)) (by rw [List.length_take]; omega) (notes_cut hN5) hL' fun a3 f3' n3 p3 H6 e6 ha3 hf3 hn3 hp3 hA6 => ?_
  have e16 := e15.trans e6
  have hN6 := (Mut.of (W := []) e6).notes hN5
  have hlg6 := e6 _ _ hlg5
  have hkp6 := (e4.trans (e5.trans e6)) _ _ hkp3
  have fl := flat_notes (nts.take m)
  have fl2 := flat_notes nts
  refine q_when (b := false) (et_is (et_or (a := false) (et_is (et_test (ev_op (ev_var (i := 12) rfl) ev_c rv_isN)) rfl) fun _ => et_or (a := false) (et_is (et_test (ev_neD (evd_log (ev_var (i := 12) rfl) hA6 hL'.inv) (evd_l (evs_new (cut e6 rfl rfl)) (notes_dpa (notes_cut hN6))) (fl.shaped (by decide)) (fl.shaped (by decide)))) (by rw [fl.refl]; rfl)) fun _ => et_is (et_test (ev_neD (evd_l (evs_of (ev_var (i := 8) rfl) (SqL.of hlg6)) (notes_dpa hN6)) (evd_l (evs_of (ev_var (i := 9) rfl) (SqL.of hkp6)) (notes_dpa hN6)) (fl2.shaped (by decide)) (fl2.shaped (by decide)))) (by rw [fl2.refl]; rfl)) rfl) (fun z => nomatch z) fun _ H7 e7 => ?_
  have e17 := e16.trans e7
  -- one step of each
  have hA7 := hA.ex e17
  have e37 := e4.trans (e5.trans (e6.trans e7))
  have hA27 := hA2.ex e37
  have hN7 := (Mut.of (W := []) e7).notes hN6
  have hlg7 := e7 _ _ hlg6
  have hkp7 := e7 _ _ hkp6
  have e27 := e3.trans e37
  obtain ⟨dx, t, ws, o, w⟩ := hA
  have old : ∀ {b : Addr} {u : HO}, H b = some u → b ≠ a2 ∧ b ≠ f2 ∧ b ≠ n2 ∧ b ≠ p2 ∧ b ≠ lg ∧ b ≠ kp := fun {b u} hb => by
    have hb2 := e12 _ _ hb
    exact ⟨ne_of_none hb2 ha2, ne_of_none hb2 hf2, ne_of_none hb2 hn2, ne_of_none hb2 hp2, ne_of_none hb hlg, ne_of_none (e1 _ _ hb) hkp⟩
  have oa := old o.ha
  have of_ := old o.hf
  have on := old o.hn
  have op := old o.hp
  have lk : lg ≠ kp := ne_of_none h1 hkp
  have lg2 : lg ≠ a2 ∧ lg ≠ f2 ∧ lg ≠ n2 ∧ lg ≠ p2 := ⟨ne_of_none hlg2 ha2, ne_of_none hlg2 hf2, ne_of_none hlg2 hn2, ne_of_none hlg2 hp2⟩
  have kp2 : kp ≠ a2 ∧ kp ≠ f2 ∧ kp ≠ n2 ∧ kp ≠ p2 := ⟨ne_of_none h2 ha2, ne_of_none h2 hf2, ne_of_none h2 hn2, ne_of_none h2 hp2⟩
  have fr : ∀ {b : Addr}, b ≠ a → b ≠ f → b ≠ n → b ∉ [a, f, n] := fun h1 h2 h3 => by simp [h1, h2, h3]
  have fr2 : ∀ {b : Addr}, b ≠ a2 → b ≠ f2 → b ≠ n2 → b ∉ [a2, f2, n2] := fun h1 h2 h3 => by simp [h1, h2, h3]
  refine s_step (i := 2) rfl hA7 I (by omega) fun p' H8 m8 hp' hA8 => ?_
  have hA28 := hA27.mut m8 (fr (Ne.symm oa.1) (Ne.symm of_.1) (Ne.symm on.1)) (fr (Ne.symm oa.2.1) (Ne.symm of_.2.1) (Ne.symm on.2.1)) (fr (Ne.symm oa.2.2.1) (Ne.symm of_.2.2.1) (Ne.symm on.2.2.1)) (fr (Ne.symm oa.2.2.2.1) (Ne.symm of_.2.2.2.1) (Ne.symm on.2.2.2.1))
  have lfr := fr (Ne.symm oa.2.2.2.2.1) (Ne.symm of_.2.2.2.2.1) (Ne.symm on.2.2.2.2.1)
  have kfr := fr (Ne.symm oa.2.2.2.2.2) (Ne.symm of_.2.2.2.2.2) (Ne.symm on.2.2.2.2.2)
  have hlg8 := m8 _ _ hlg7 (.inl lfr)
  have hkp8 := m8 _ _ hkp7 (.inl kfr)
  have eH8 := ex_mut (eH.trans e17) m8 (by
    intro x hx
    simp at hx
    rcases hx with rfl | rfl | rfl <;> assumption)
  refine s_step (i := 10) rfl hA28 I (by omega) fun p2' H9 m9 hp2' hA29 => ?_
  have H2a : ∀ {b : Addr}, H2 b = none → H0 b = none := fun h => fresh_of (eH.trans e12) h
  have eH9 := ex_mut eH8 m9 (by
    intro x hx
    simp at hx
    rcases hx with rfl | rfl | rfl <;> exact H2a ‹_›)
  have p'ne : p' ≠ a2 ∧ p' ≠ f2 ∧ p' ≠ n2 := by
    rcases hp' with rfl | h
    · exact ⟨op.1, op.2.1, op.2.2.1⟩
    · obtain ⟨dx2, t2, ws2, o2, w2⟩ := hA27
      exact ⟨Ne.symm (ne_of_none o2.ha h), Ne.symm (ne_of_none o2.hf h), Ne.symm (ne_of_none o2.hn h)⟩
  have hA9 := hA8.mut m9 (fr2 oa.1 oa.2.1 oa.2.2.1) (fr2 of_.1 of_.2.1 of_.2.2.1) (fr2 on.1 on.2.1 on.2.2.1) (fr2 p'ne.1 p'ne.2.1 p'ne.2.2)
  have hlg9 := m9 _ _ hlg8 (.inl (fr2 lg2.1 lg2.2.1 lg2.2.2.1))
  have hkp9 := m9 _ _ hkp8 (.inl (fr2 kp2.1 kp2.2.1 kp2.2.2.1))
  have lp' : lg ≠ p' := by
    rcases hp' with rfl | h
    · exact Ne.symm op.2.2.2.2.1
    · exact ne_of_none hlg7 h
  have lp2' : lg ≠ p2' := by
    rcases hp2' with rfl | h
    · exact lg2.2.2.2
    · exact ne_of_none hlg8 h
  exact k13_last (K := K) (c := c) (E := E) (xs := xs) (ns := ns) (s0 := s) (at_ := (m : Int)) (ex_l eH9 hs0) hA9 hA29 (step_inv I) hL hlg9 hkp9 (m9.notes (m8.notes hN7)) (by omega) (by omega) (by omega) lk (by simp [Ne.symm oa.2.2.2.2.1, Ne.symm of_.2.2.2.2.1, Ne.symm on.2.2.2.2.1, lp']) (by simp [lg2.1, lg2.2.1, lg2.2.2.1, lp2']) q
end
def sp_k13_law (K : PySem.W.Frag) (c : Cs) : Sp := fun vs H Q _ => ∃ (a : Addr) (ns : List Int), vs = [.ref a] ∧ SqL K H a (ns.map V.int) ∧ ns.length ≤ 63 ∧ ∀ H', Q (.bl true) H'
/-- law: slots _law_script, _law_first, _law_hall, _law_many, _law_k, _law_cell, _law_draw, _law_turn, _law_log, _law_kept, _law_again, _law_at, _law_part, _law_bad -/
def t_k13_law (K : PySem.W.Frag) (c : Cs) (E : XK) : TS :=
  (tSeq (tAsg (tCall (sp_l_going K c) [] E0 (tCons (tCall (sp_l_cell_at K c) [] E0 (tCons (tVar 0) (tCons (tC (.int 0)) tNil))) (tCons (tOp (xAdd K) (tC (.int 1)) (tOp xMod (tOp xDiv (tCall (sp_l_cell_at K c) [] E0 (tCons (tVar 0) (tCons (tC (.int 0)) tNil))) (tC (.int 10))) (tC (.int 9)))) tNil))) (gName 1))
  (tSeq (tAsg (tMake c.hall (sp_h_init K c) [] E0 (tCons (tVar 1) tNil)) (gName 2))
  (tSeq (tAsg (tCall (sp_things K c) [] E0 (tCons (tVar 1) tNil)) (gName 3))
  (tSeq (tFor (iEnumQ K (tCons (tOp (xAdd K) (tSl (xSl K) (tVar 0) (tPart (tC (.int 1))) tNoPart) (tLst (tCons (tC (.int 0)) (tCons (tC (.int 1)) (tCons (tC (.int 2)) tNil))))) tNil)) (gTup K 2 (gCons (gName 4) (gCons (gName 5) gNil))) (tSeq (tAsg (tCall (sp_l_mixed K c) [] E0 (tCons (tVar 5) (tCons (tVar 4) tNil))) (gName 6))
  (tSeq (tIfS (tTest (tOp (xEq K) (tOp xMod (tVar 6) (tC (.int 4))) (tC (.int 1)))) (tDrop (tMeth c.hall "change" (sp_h_change K c) [] E0 (tVar 2) (tCons (tCall (sp_l_going K c) [] E0 (tCons (tOp (xAdd K) (tOp (xMul K) (tOp xDiv (tVar 6) (tC (.int 10))) (tC (.int 10))) (tVar 3)) (tCons (tOp (xAdd K) (tC (.int 1)) (tOp xMod (tOp xDiv (tVar 6) (tC (.int 10))) (tC (.int 9)))) tNil))) tNil))) tNext)
  (tSeq (tFor (iRng1 (tCons (tOp (xAdd K) (tC (.int 1)) (tOp xMod (tOp xDiv (tVar 6) (tC (.int 4))) (tC (.int 9)))) tNil)) (gName 7) (tDrop (tMeth c.hall "step" (sp_h_step K c) [] E0 (tVar 2) tNil)))
  (tIfS (tAnd (tTest (tOp (xEq K) (tOp xMod (tOp xDiv (tVar 6) (tC (.int 36))) (tC (.int 3))) (tC (.int 1)))) (tNot (tB (tCall (sp_k13_l_stays K c) [] E0 (tCons (tVar 2) (tCons (tOp xDiv (tVar 6) (tC (.int 108))) (tCons (tVar 3) tNil))))))) (tRet (tC (.bl false))) tNext)))))
  (tSeq (tAsg (tMeth c.hall "log" (sp_h_log K c) [] E0 (tVar 2) tNil) (gName 8))
  (tSeq (tAsg (tCB (cList K) (tCons (tVar 8) tNil)) (gName 9))
  (tSeq (tAsg (tCall (sp_k13_l_back K c) [] E0 (tCons (tVar 8) tNil)) (gName 10))
  (tSeq (tIfS (tOr (tTest (tOp xIsN (tVar 10) (tC .non))) (tOr (tNot (tB (tCall (sp_k13_l_caught K c) [] E0 (tCons (tVar 8) tNil)))) (tOr (tTest (tOp (xNe K) (tCall (sp_k13_l_seen K c) [] E0 (tCons (tVar 10) tNil)) (tCall (sp_k13_l_seen K c) [] E0 (tCons (tVar 2) tNil)))) (tTest (tOp (xNe K) (tCB (cLen K) (tCons (tMeth c.hall "air" (sp_h_air K c) [] E0 (tVar 2) tNil) tNil)) (tVar 3)))))) (tRet (tC (.bl false))) tNext)
  (tSeq (tAsg (tOp (xAdd K) (tC (.int 1)) (tOp xMod (tCall (sp_l_cell_at K c) [] E0 (tCons (tVar 0) (tCons (tC (.int 1)) tNil))) (tCB (cLen K) (tCons (tVar 8) tNil)))) (gName 11))
  (tSeq (tAsg (tCall (sp_k13_l_back K c) [] E0 (tCons (tSl (xSl K) (tVar 8) tNoPart (tPart (tVar 11))) tNil)) (gName 12))
  (tSeq (tIfS (tOr (tTest (tOp xIsN (tVar 12) (tC .non))) (tOr (tTest (tOp (xNe K) (tMeth c.hall "log" (sp_h_log K c) [] E0 (tVar 12) tNil) (tSl (xSl K) (tVar 8) tNoPart (tPart (tVar 11))))) (tTest (tOp (xNe K) (tVar 8) (tVar 9))))) (tRet (tC (.bl false))) tNext)
  (tSeq (tDrop (tMeth c.hall "step" (sp_h_step K c) [] E0 (tVar 2) tNil))
  (tSeq (tDrop (tMeth c.hall "step" (sp_h_step K c) [] E0 (tVar 10) tNil))
  (tSeq (tAsg (tOp xMod (tCall (sp_l_cell_at K c) [] E0 (tCons (tVar 0) (tCons (tC (.int 2)) tNil))) (tCB (cLen K) (tCons (tVar 8) tNil))) (gName 4))
  (tSeq (tAsg (tCall (sp_k13_l_spoilt K c) [] E0 (tCons (tOp (rIx K) (tVar 8) (tVar 4)) (tCons (tCall (sp_l_cell_at K c) [] E0 (tCons (tVar 0) (tCons (tC (.int 3)) tNil))) tNil))) (gName 13))
  (tSeq (tIfS (tOr (tTest (tOp (xNe K) (tCall (sp_k13_l_refused K c) [] E0 (tCons (tOp (xAdd K) (tOp (xAdd K) (tOp (xAdd K) (tSl (xSl K) (tVar 8) tNoPart (tPart (tVar 4))) (tLst (tCons (tVar 13) tNil))) (tSl (xSl K) (tVar 8) (tPart (tOp (xAdd K) (tVar 4) (tC (.int 1)))) tNoPart)) (tLst (tCons (tC .non) tNil))) tNil)) (tVar 4))) (tTest (tOp (xNe K) (tCall (sp_k13_l_refused K c) [] E0 (tCons (tLst tNil) tNil)) (tC (.int 0))))) (tRet (tC (.bl false))) tNext)
  (tSeq (tIfS (tOr (tTest (tOp (xNe K) (tCall (sp_k13_l_refused K c) [] E0 (tCons (tCB (cTuple K) (tCons (tVar 8) tNil)) tNil)) (tC (.int 0)))) (tTest (tOp (xNe K) (tCall (sp_k13_l_refused K c) [] E0 (tCons (tSl (xSl K) (tVar 8) (tPart (tC (.int 1))) tNoPart) tNil)) (tC (.int 0))))) (tRet (tC (.bl false))) tNext)
  (tSeq (tIfS (tTest (tOp (xNe K) (tCall (sp_k13_l_refused K c) [] E0 (tCons (tOp (xAdd K) (tOp (xAdd K) (tSl (xSl K) (tVar 8) tNoPart (tPart (tVar 11))) (tLst (tCons (tOp (rIx K) (tVar 8) (tC (.int 0))) tNil))) (tSl (xSl K) (tVar 8) (tPart (tVar 11)) tNoPart)) tNil)) (tVar 11))) (tRet (tC (.bl false))) tNext)
  (tSeq (tDrop (tBM K "list" rAppend (tVar 8) (tCons (tC (.int 0)) tNil)))
  (tRet (tAndV (tOp (xEq K) (tCall (sp_k13_l_seen K c) [] E0 (tCons (tVar 10) tNil)) (tCall (sp_k13_l_seen K c) [] E0 (tCons (tVar 2) tNil))) (tOp (xEq K) (tSl (xSl K) (tMeth c.hall "log" (sp_h_log K c) [] E0 (tVar 2) tNil) tNoPart (tPart (tCB (cLen K) (tCons (tVar 9) tNil)))) (tVar 9)))))))))))))))))))))))

section
variable {K : PySem.W.Frag} {c : Cs} {vs : List V} {H : Hp} {Q : VK} {E : XK}
theorem pure_k13_law (h : sp_k13_law K c vs H Q E) : t_k13_law K c E { nx := fun _ H' => Q .non H', rt := Q } (start ["_law_script", "_law_first", "_law_hall", "_law_many", "_law_k", "_law_cell", "_law_draw", "_law_turn", "_law_log", "_law_kept", "_law_again", "_law_at", "_law_part", "_law_bad"] vs) H := by
  obtain ⟨a0, ns, rfl, hs, hl, q⟩ := h
  have c0 := mixed_lo (gi ns 0) 0
  have cell0 : ∀ {σ : L2.St} {H' : Hp}, Ex H H' → σ[0]? = some (some (.ref a0)) → Ev (tCall (sp_l_cell_at K c) [] E0 (tCons (tVar 0) (tCons (tC (.int 0)) tNil))) σ H' (.int (mixed (gi ns 0) 0)) := fun e h0 => ev_l_cell_at (ev_var h0) ev_c (ex_l e hs) (by decide)
  generalize mixed (gi ns 0) 0 = d at c0 cell0
  have m1 : 1 ≤ 1 + d / 10 % 9 := by omega
  have m9 : 1 + d / 10 % 9 ≤ 40 := by omega
  refine q_asgL (el_l_going (K := K) (c := c) (a := d) (m := 1 + d / 10 % 9) (cell0 (Ex.refl _) rfl) (ev_op ev_c (ev_op (ev_op (cell0 (Ex.refl _) rfl) ev_c (rv_div (by k_caughtB))) ev_c (rv_mod (by decide))) rv_addI) m1 (by omega)) fun r H1 hr e1 h1 => ?_
  have hg := good_going (a := d) m1 m9
  have hc := going_clash (a := d) m1
  generalize going d (1 + d / 10 % 9) = F at hg hc h1
  refine q_make (ns := F) (evq_of (ev_var (i := 1) rfl) (.inl (SqL.of h1))) hg hc fun a f n p H2 e2 ha hf hn hp hA => ?_
  have e02 := e1.trans e2
  refine q_asg (v := .int (pcI (upS F) : Int)) (ev_is (ev_things (evq_of (ev_var (i := 1) rfl) (.inl (SqL.of (e2 _ _ h1)))) hg hc) (by rw [upS_things hg hc])) fun H3 e3 => ?_
  have e03 := e02.trans e3
  have hA3 := hA.ex e3
  have fa := fresh_of e1 ha
  have ff := fresh_of e1 hf
  have fn := fresh_of e1 hn
  have fr : ∀ x ∈ [a, f, n], H x = none := fun x hx => by
    simp at hx
    rcases hx with rfl | rfl | rfl <;> assumption
  have hlist : EvL (tOp (xAdd K) (tSl (xSl K) (tVar 0) (tPart (tC (.int 1))) tNoPart) (tLst (tCons (tC (.int 0)) (tCons (tC (.int 1)) (tCons (tC (.int 2)) tNil))))) [some (.ref a0), some (.ref r), some (.ref a), some (.int (pcI (upS F) : Int)), none, none, none, none, none, none, none, none, none, none] H3 ((ns.drop 1 ++ [0, 1, 2]).map V.int) := by
    rw [List.map_append, List.map_drop]
    have z := el_slX (K := K) (lo := some 1) (hi := none) (tl := tPart (tC (.int 1))) (th := tNoPart) (evs_of (σ := [some (.ref a0), some (.ref r), some (.ref a), some (.int (pcI (upS F) : Int)), none, none, none, none, none, none, none, none, none, none]) (ev_var (i := 0) rfl) (ex_l e03 hs)) (eo_some ev_c) eo_none
    have hcut : cutV (ns.map V.int) (some 1) none = (ns.map V.int).drop 1 := by
      cases ns with
      | nil => rfl
      | cons x xs => rw [cutV_from (by decide) (by rw [List.map_cons, List.length_cons]; omega)]; rfl
    rw [hcut] at z
    exact el_cat (evs_new z) (evs_new (el_lst (ea_cons ev_c (ea_cons ev_c (ea_cons ev_c ea_nil))) (by show 3 ≤ 100000; decide))) (by rw [List.length_drop, List.length_map]; show _ + 3 ≤ 100000; omega)
  have hll : (ns.drop 1 ++ [0, 1, 2] : List Int).length ≤ 66 := by
    rw [List.length_append, List.length_drop]
    show _ + 3 ≤ 66
    omega
  refine q_enumN hlist (fun b i σ' H' => H' b = some (.lst ((ns.drop 1 ++ [0, 1, 2]).map V.int)) ∧ b ≠ n ∧ Ex H H' ∧ ∃ p' s' nts' u4 u5 u6 u7, σ' = [some (.ref a0), some (.ref r), some (.ref a), some (.int (pcI (upS F) : Int)), u4, u5, u6, u7, none, none, none, none, none, none] ∧ HallAt K c.hall H' a f n p' s' nts' ∧ LogOf nts' s' ∧ (pcI (upS F) : Int) = (pcI s'.bits : Int) ∧ nts'.length ≤ 1 + 10 * i) ?_ ?_ ?_ ?_
  · intro b H4 hb e4 h4
    obtain ⟨dx, t, ws, o, w⟩ := hA3
    exact ⟨h4, Ne.symm (ne_of_none o.hn hb), e03.trans e4, p, initS F, [.beg F], _, _, _, _, rfl, HallAt.ex e4 ⟨dx, t, ws, o, w⟩, log_beg hg hc, rfl, by show 1 ≤ _; omega⟩
  · rintro b i σ' H' ⟨h, _⟩
    exact h
  · rintro b i y σ' H' H4 hi ⟨hb, hbn, eH, p', s', nts', u4, u5, u6, u7, rfl, hA', hL', hm', hlen'⟩ e4
    obtain ⟨hil, rfl⟩ := getD_of hi
    generalize (ns.drop 1 ++ [0, 1, 2]).getD i 0 = cell
    have hb4 := e4 _ _ hb
    have hA4 := hA'.ex e4
    have hA4' := hA4
    obtain ⟨dx, t, ws, o, w⟩ := hA4'
    have hba : b ≠ a := ne_lst o.ha hb4 fun ys z => by cases z
    have hbf : b ≠ f := ne_lst o.hf hb4 fun ys z => by cases z
    refine k13_body (K := K) (c := c) (E := E) (i := i) (cell := cell) hA4 hL' hm' (by omega) fun p2 s2 nts2 u6 u7 H5 m5 hA5 hL5 hm5 hl5 => ?_
    exact ⟨m5 _ _ hb4 (.inl (by simp [hba, hbf, hbn])), hbn, ex_mut (eH.trans e4) m5 fr, p2, s2, nts2, _, _, _, _, rfl, hA5, hL5, hm5, by omega⟩
  · rintro b σ' H' ⟨hb, hbn, eH, p', s', nts', u4, u5, u6, u7, rfl, hA', hL', hm', hlen'⟩
    rw [List.length_map] at hlen'
    exact k13_tail (K := K) (c := c) (E := E) (ns := ns) (ex_l eH hs) eH hs fa ff fn hA' hL' hm' (by omega) q
end
end Tr

/-! Own rules: defs whose code object is known; heaps in which tables change; comprehensions over what a dict holds. -/
namespace Tr
open PySem L2 PySem.Spec PyProof.Rows Evl LamX

/-- the def x stands at f, its code object at cc -/
structure DefAtC (K : PySem.W.Frag) (mg : Str → Option Value) (x : Str) (st : Stmt) (ps : List Str) (f cc : Addr) : Prop where
  fn : ∃ (oc : Value) (od : Option Addr) (kV doc pm : Value) (an : Option Addr) (ct : Value) (osl : Array (Option Value)), K.lookup f = some ⟨oc, od, .func (PySem.W.fnOf x x (defArgs st) (defBody st) (defScope st) .none kV doc pm an (.ref cc) ct), osl⟩ ∧
    PySem.W.codeIn K (.ref cc) x = true ∧ Binds K (PySem.W.fnOf x x (defArgs st) (defBody st) (defScope st) .none kV doc pm an (.ref cc) ct) ps []
  g : mg x = some (.ref f)
  kp : PySem.W.keepIn K (.ref f) = true
theorem DefAtC.keeps {P : Program} {w : World} {K : PySem.W.Frag} {mg : Str → Option Value} {base : Heap} {x : Str} {st : Stmt} {f cc : Addr} {N ps : List Str} {k : Nat} {sp : Sp} (D : DefAtC K mg x st ps f cc) (S : FnScope N ps (defScope st)) (len : ∀ vs H Q E, sp vs H Q E → vs.length = ps.length)
    (hbody : ∀ (A : Around) (outer : List Env) (s : Shared) (H : Hp) (vs : List V) (Q : VK) (E : XK), Room k (A.deeper (envOfC x (defScope st) s.heap.objs.size f (.ref cc))) → sp vs H Q E →
      ∃ t, PSs (cxOf (L2.CX P w) P w K mg base N x (defScope st) f (.ref cc) A outer s H E) (defBody st) t ∧ t { nx := fun _ H' => Q .non H', rt := Q } (start N vs) H) : PD P w K mg base (k + 1) x f ps sp := by
  obtain ⟨oc, od, kV, doc, pm, an, ct, osl, lk, cd, b⟩ := D.fn
  exact ⟨⟨_, fn_of lk cd S len fun A outer s H vs Q E hr q => hbody A outer s H vs Q E hr q, b⟩, D.g, D.kp⟩
section
variable {X : Cx}
theorem pe_lamD {T : List (Addr × Str)} {TT : (XK → Hp → VK → Prop) → Hp → VK → Prop} {x a q : Str} {st : Stmt} {g cc P : Addr} {k : Nat} {Ng : List Str} {params : Arguments} {body : Expr} {scope : Scope} {t : XK → TE} {p lpos pos : Pos} (D : DefAt X.K X.mg x st [a] g) (hg : Gl X x) (Sg : FnScope Ng [a] (defScope st)) (hNg : Ng[0]? = some a) (hva : Vis (defScope st) a)
    (hG : ∀ cdv : Value, GivesS X Ng x (defScope st) g cdv (defBody st) a q TT) (TB : TabB X.base X.mg cc P) (hcode : X.env.code = .ref cc) (hq : X.env.qual ++ "<lambda>" = q) (hmT : (P, q) ∈ T) (hu : ∀ p ∈ T, p.1 = P → p.2 = q) (hr : Room (k + 2) X.A) (L : LamS X.env.scope scope) (hdef : defaultsOf params X.env = ([], []))
    (hbind : ∀ (q : Str) (cl : List (Str × Addr)) (pm cv ctv : Value), bindArgs (PySem.W.kla_fn "<lambda>" q params body scope cl pm cv ctv) ⟨[], []⟩ = pure [])
    (hbody : ∀ (A : Around) (outer : List Env) (s : Shared) (H : Hp) (E : XK) (f c' : Addr), Room k (A.deeper (lamEnv X scope s.heap.objs.size f c')) → PE (lamCx X A outer s H E scope f c') body (t E))
    (hdb : (x == ("__debug__" : Str)) = false := by decide) (hd : (a == ("__debug__" : Str)) = false := by decide) (hcd : (a == ("__classdict__" : Str)) = false := by decide) :
    PE X (.Call (.Name x p) [.Lambda params body scope lpos] [] pos) (tLam T TT t) := by
  subst hq
  obtain ⟨fd, F, b⟩ := D.fn
  have kp := F.kp
  obtain ⟨oc, od, kV, doc, pm, an, cdv, ct, osl, rfl, lk, cd⟩ := F.ex
  exact pe_lamS hg D.g kp lk cd b Sg hNg hva (hG cdv) TB hcode hmT hu hr L hdef hbind hbody hdb hd hcd
end
/-! ### heaps in which tables change -/
def NoTab (o : HO) : Prop := ∀ ps, o ≠ .tbl ps
theorem nt_lst {xs : List V} : NoTab (.lst xs) := fun _ z => by cases z
theorem nt_dK {xs : List (Key × V)} : NoTab (.dK xs) := fun _ z => by cases z
theorem nt_ins {C d : Addr} {xs : List (Str × V)} : NoTab (.ins C d xs) := fun _ z => by cases z
theorem nt_tup {xs : List V} : NoTab (.tup xs) := fun _ z => by cases z
theorem nt_frz {o : Obj} {u : HO} : NoTab (.frz o u) := fun _ z => by cases z
def MutT (W : List Addr) (H H' : Hp) : Prop := ∀ b o, H b = some o → NoTab o → (b ∉ W ∨ TupO o) → H' b = some o
theorem MutT.of {W : List Addr} {H H1 : Hp} (m : Mut W H H1) : MutT W H H1 := fun b o h _ k => m b o h k
theorem MutT.ofN {W : List Addr} {H H1 : Hp} (m : ExtN H H1) : MutT W H H1 := fun b o h n _ => m b o h n
theorem MutT.refl (W : List Addr) (H : Hp) : MutT W H H := fun _ _ h _ _ => h
theorem MutT.trans {W : List Addr} {H H1 H2 : Hp} (a : MutT W H H1) (b : MutT W H1 H2) : MutT W H H2 := fun x o h n k => b x o (a x o h n k) n k
theorem MutT.mono {W W' : List Addr} {H H1 : Hp} (a : MutT W H H1) (h : ∀ x ∈ W, x ∈ W') : MutT W' H H1 := fun x o hx n k => a x o hx n (k.imp (fun z m => z (h x m)) id)
section
variable {W : List Addr} {H H1 : Hp} {K : PySem.W.Frag}
theorem MutT.sqT {t : Addr} {xs : List V} (m : MutT W H H1) (h : SqT K H t xs) : SqT K H1 t xs := by
  rcases h with h | h
  · refine .inl ?_
    rcases h with h | ⟨f, h⟩
    · exact .inl (m _ _ h nt_tup (.inr (.inl ⟨_, rfl⟩)))
    · exact .inr ⟨f, m _ _ h nt_frz (.inr (.inr ⟨_, _, rfl⟩))⟩
  · exact .inr h
theorem MutT.note {v : V} {n : Note} (m : MutT W H H1) (h : NoteAt K H v n) : NoteAt K H1 v n := by
  cases n with
  | beg ns => obtain ⟨t, u, e, h1, h2⟩ := h; exact ⟨t, u, e, m _ _ h1 nt_tup (.inr (.inl ⟨_, rfl⟩)), m.sqT h2⟩
  | chg ns => obtain ⟨t, u, e, h1, h2⟩ := h; exact ⟨t, u, e, m _ _ h1 nt_tup (.inr (.inl ⟨_, rfl⟩)), m.sqT h2⟩
  | stp th x => obtain ⟨t, e, h1⟩ := h; exact ⟨t, e, m _ _ h1 nt_tup (.inr (.inl ⟨_, rfl⟩))⟩
theorem HallAt.mutT {C a f n p : Addr} {s : HS} {nts : List Note} (m : MutT W H H1) (h : HallAt K C H a f n p s nts) (ha : a ∉ W) (hf : f ∉ W) (hn : n ∉ W) (hp : p ∉ W) : HallAt K C H1 a f n p s nts :=
  let ⟨dx, t, vs, o, w⟩ := h
  ⟨dx, t, vs, ⟨m _ _ o.ha nt_ins (.inl ha), m _ _ o.hf nt_dK (.inl hf), m _ _ o.hp nt_lst (.inl hp), m.sqT o.ht, m _ _ o.hn nt_lst (.inl hn), o.pn⟩, w.1, fun i v n a b => m.note (w.2 i v n a b)⟩
theorem tabs_mut {T : List (Addr × Str)} (t : Tabs T H) (m : Mut W H H1) (hW : ∀ x ∈ W, ∃ o, H x = some o ∧ NoTab o ∧ ∀ f, o ≠ .ext f) : Tabs T H1 := fun p hp => by
  obtain ⟨ps, h1, h2, h3⟩ := t p hp
  have notW : ∀ {b : Addr} {o : HO}, H b = some o → ((∃ ps, o = .tbl ps) ∨ ∃ f, o = .ext f) → b ∉ W := fun {b o} hb ho hm => by
    obtain ⟨o', e, n1, n2⟩ := hW b hm
    rw [hb] at e
    cases e
    rcases ho with ⟨ps, rfl⟩ | ⟨f, rfl⟩
    · exact n1 ps rfl
    · exact n2 f rfl
  refine ⟨ps, m _ _ h1 (.inl (notW h1 (.inl ⟨_, rfl⟩))), h2, fun pos cv hc => ?_⟩
  obtain ⟨c, e1, e2⟩ := h3 pos cv hc
  exact ⟨c, e1, m _ _ e2 (.inl (notW e2 (.inr ⟨_, rfl⟩)))⟩
end
/-! ### comprehensions -/
section
variable {K : PySem.W.Frag} {c : Cs} {E : XK} {σ : L2.St} {H : Hp} {te tl ta : TE}
theorem lcPairG {J : It} {n : Nat} {ab : Nat → Int × Int} {g : TG} {ws : List Nat} {Q : VK} {H1 : Hp} (hn : n ≤ 40000) (hgo : ∀ i H', i < n → Ex H1 H' → J.go i H') (hst : ∀ H', Ex H1 H' → J.stop n H')
    (hy : ∀ i x H' H'', i < n → Ex H1 H' → J.yld i H' x H'' → Ex H' H'' ∧ ∀ G : L2.St → Hp → Prop, (∀ σ2 H3, wipe σ2 ws = wipe σ ws → Ex H'' H3 → EvU te σ2 H3 [.int (ab i).1, .int (ab i).2] → G σ2 H3) → g x (wipe σ ws) H'' G)
    (q : ∀ D xs H2, H1 D = none → Ex H1 H2 → H2 D = some (.lst xs) → PairsAt (del H2 D) xs ((List.range n).map ab) → Q (.ref D) H2) :
    ∀ D, H1 D = none → ∃ W : Nat → Nat → Hp → Prop, (∃ m, W 0 m (upd H1 D (.lst []))) ∧ ∀ i m H, W i m H →
      (J.stop i H ∧ Q (.ref D) H) ∨ (J.go i H ∧ ∃ Nx : Hp → Prop, (∀ H', Nx H' → ∃ m', m' < m ∧ W (i + 1) m' H') ∧ ∀ x H', J.yld i H x H' → g x (wipe σ ws) H' fun σ2 H2 => wipe σ2 ws = wipe σ ws ∧ tYes σ2 H2 fun b H3 =>
        if b = true then te σ2 H3 fun y H4 => ∃ acc, H4 D = some (.lst acc) ∧ acc.length < sizeLine ∧ Nx (upd H4 D (.lst (acc ++ [y]))) else Nx H3) := by
  intro D hD
  refine ⟨fun i m H => m + i = n ∧ Ex H1 H ∧ ∃ xs, H D = some (.lst xs) ∧ PairsAt (del H D) xs ((List.range i).map ab), ⟨n, rfl, Ex.new hD, [], upd_same, rfl, fun i x p h => nomatch h⟩, ?_⟩
  rintro i m H ⟨hm, e1, xs, hx, hp⟩
  by_cases hi : i < n
  · refine .inr ⟨hgo i H hi e1, fun H' => Ex H1 H' ∧ ∃ xs, H' D = some (.lst xs) ∧ PairsAt (del H' D) xs ((List.range (i + 1)).map ab), fun H' z => ⟨m - 1, by omega, by omega, z⟩, fun x H' hyl => ?_⟩
    obtain ⟨eY, hg⟩ := hy i x H H' hi e1 hyl
    refine hg _ fun σ2 H3 hw eZ hu => ⟨hw, ?_⟩
    show te σ2 H3 _
    refine hu H3 (Ex.refl _) _ fun t H4 ht e4 h4 => ⟨xs, e4 _ _ (eZ _ _ (eY _ _ hx)), sz_lt (by have := hp.1; rw [List.length_map, List.length_range] at this; omega), Ex.mut (((e1.trans eY).trans eZ).trans e4) hD, xs ++ [.ref t], upd_same, ?_⟩
    have htD : t ≠ D := Ne.symm (ne_of_none (eZ _ _ (eY _ _ hx)) ht)
    have ex1 : Ex (del H D) (del (upd H4 D (.lst (xs ++ [.ref t]))) D) := ex_dels (but_upd ((eY.trans eZ).trans e4))
    rw [List.range_succ, List.map_append]
    exact pairs_snoc (pairs_ex ex1 hp) ⟨t, rfl, del_at htD ((upd_ne htD).trans h4)⟩
  · have : i = n := by omega
    subst this
    exact .inl ⟨hst H e1, q D xs H hD e1 hx hp⟩
theorem lcValG {J : It} {n : Nat} {v : Nat → V} {g : TG} {ws : List Nat} {Q : VK} {H1 : Hp} (hn : n ≤ 40000) (hgo : ∀ i H', i < n → Ex H1 H' → J.go i H') (hst : ∀ H', Ex H1 H' → J.stop n H')
    (hy : ∀ i x H' H'', i < n → Ex H1 H' → J.yld i H' x H'' → Ex H' H'' ∧ ∀ G : L2.St → Hp → Prop, (∀ σ2 H3, wipe σ2 ws = wipe σ ws → Ex H'' H3 → Ev te σ2 H3 (v i) → G σ2 H3) → g x (wipe σ ws) H'' G)
    (q : ∀ D H2, H1 D = none → Ex H1 H2 → H2 D = some (.lst ((List.range n).map v)) → Q (.ref D) H2) :
    ∀ D, H1 D = none → ∃ W : Nat → Nat → Hp → Prop, (∃ m, W 0 m (upd H1 D (.lst []))) ∧ ∀ i m H, W i m H →
      (J.stop i H ∧ Q (.ref D) H) ∨ (J.go i H ∧ ∃ Nx : Hp → Prop, (∀ H', Nx H' → ∃ m', m' < m ∧ W (i + 1) m' H') ∧ ∀ x H', J.yld i H x H' → g x (wipe σ ws) H' fun σ2 H2 => wipe σ2 ws = wipe σ ws ∧ tYes σ2 H2 fun b H3 =>
        if b = true then te σ2 H3 fun y H4 => ∃ acc, H4 D = some (.lst acc) ∧ acc.length < sizeLine ∧ Nx (upd H4 D (.lst (acc ++ [y]))) else Nx H3) := by
  intro D hD
  refine ⟨fun i m H => m + i = n ∧ Ex H1 H ∧ H D = some (.lst ((List.range i).map v)), ⟨n, rfl, Ex.new hD, upd_same⟩, ?_⟩
  rintro i m H ⟨hm, e1, hx⟩
  by_cases hi : i < n
  · refine .inr ⟨hgo i H hi e1, fun H' => Ex H1 H' ∧ H' D = some (.lst ((List.range (i + 1)).map v)), fun H' z => ⟨m - 1, by omega, by omega, z⟩, fun x H' hyl => ?_⟩
    obtain ⟨eY, hg⟩ := hy i x H H' hi e1 hyl
    refine hg _ fun σ2 H3 hw eZ hu => ⟨hw, ?_⟩
    show te σ2 H3 _
    refine hu H3 (Ex.refl _) _ fun H4 e4 => ⟨_, e4 _ _ (eZ _ _ (eY _ _ hx)), sz_lt (by rw [List.length_map, List.length_range]; omega), Ex.mut (((e1.trans eY).trans eZ).trans e4) hD, ?_⟩
    rw [upd_same, List.range_succ, List.map_append]
    rfl
  · have : i = n := by omega
    subst this
    exact .inl ⟨hst H e1, q D H hD e1 hx⟩
/-- the dict is locked while its parts are asked for -/
theorem lock_back {H1 H2 : Hp} {d : Addr} {od : Obj} {u : HO} (hd : H1 d = some u) (e : Ex (upd H1 d (.frz od u)) H2) : Ex H1 (upd H2 d u) := fun b o hb => by
  by_cases z : b = d
  · subst z
    rw [hd] at hb
    cases hb
    exact upd_same
  · exact (upd_ne z).trans (e _ _ ((upd_ne z).trans hb))
theorem lock_free {H1 : Hp} {d l : Addr} {o : HO} (h : (upd H1 d o) l = none) : H1 l = none ∧ l ≠ d := by
  have hl : l ≠ d := fun z => by
    rw [z, upd_same] at h
    cases h
  rw [upd_ne hl] at h
  exact ⟨h, hl⟩
theorem el_lock {t : TE} {d : Addr} {kvs : List (Key × V)} {xs : List V} (hd : H d = some (.dK kvs)) (h : ∀ H1 od, Ex H H1 → EvL t σ (upd H1 d (.frz od (.dK kvs))) xs) : EvL (tLockE t) σ H xs := fun H1 e1 Q q =>
  ⟨d, .dK kvs, e1 _ _ hd, trivial, fun od => h H1 od e1 _ (Ex.refl _) _ fun l H2 hl e2 h2 => ⟨e2 _ _ upd_same, q l _ (lock_free hl).1 (lock_back (e1 _ _ hd) e2) ((upd_ne (lock_free hl).2).trans h2)⟩⟩
theorem ep_lock {t : TE} {d : Addr} {kvs : List (Key × V)} {ps : List (Int × Int)} (hd : H d = some (.dK kvs)) (h : ∀ H1 od, Ex H H1 → EvP2 t σ (upd H1 d (.frz od (.dK kvs))) ps) : EvP2 (tLockE t) σ H ps := fun H1 e1 Q q =>
  ⟨d, .dK kvs, e1 _ _ hd, trivial, fun od => h H1 od e1 _ (Ex.refl _) _ fun l xs H2 hl e2 h2 hp => ⟨e2 _ _ upd_same, q l xs _ (lock_free hl).1 (lock_back (e1 _ _ hd) e2) ((upd_ne (lock_free hl).2).trans h2) (pairs_tup (fun b ys hb => by
    have hb' := ex_del _ _ hb
    have zl : b ≠ l := fun z => by
      rw [z, L2.del_same] at hb
      cases hb
    have zd : b ≠ d := fun z => by
      rw [z, e2 _ _ upd_same] at hb'
      cases hb'
    rw [L2.del_ne zl, upd_ne zd]
    exact hb') hp)⟩⟩
theorem el_keysI {d : Addr} {od : Obj} {kvs : List (Key × V)} {j : Nat} {ws : List Nat} (v : Nat → V) (h : Ev tl σ H (.ref d)) (hd : H d = some (.frz od (.dK kvs))) (hn : kvs.length ≤ 40000) (hw : ∀ x, wipe ((wipe σ ws).set j (some x)) ws = wipe σ ws)
    (he : ∀ (i : Nat) k w H', kvs[i]? = some (k, w) → Ex H H' → Ev te ((wipe σ ws).set j (some (kV k))) H' (v i)) : EvL (tLc (iKeys tl) (gName j) tYes te ws) σ H ((List.range kvs.length).map v) := fun H1 e1 Q q =>
  h H1 e1 _ fun H2 e2 => ⟨d, od, rfl, .inl ⟨kvs, e2 _ _ (e1 _ _ hd), lcValG (J := Itk d od kvs) (v := v) hn (fun i H' hi e' => ⟨e' _ _ (e2 _ _ (e1 _ _ hd)), hi⟩) (fun H' e' => ⟨e' _ _ (e2 _ _ (e1 _ _ hd)), Nat.le_refl _⟩) (fun i x H' H'' hi e' y => by
    obtain ⟨rfl, k, w, hk, rfl⟩ := y
    exact ⟨Ex.refl _, fun G hG => hG _ _ (hw _) (Ex.refl _) (he i k w _ hk ((e1.trans e2).trans e'))⟩) fun D H3 hD e3 h3 => q D H3 (fresh_of e2 hD) (e2.trans e3) h3⟩⟩
theorem ep_itemsI {d : Addr} {od : Obj} {kvs : List (Key × V)} {i1 i2 : Nat} {ws : List Nat} (ab : Nat → Int × Int) (h : Ev tl σ H (.ref d)) (hd : H d = some (.frz od (.dK kvs))) (hn : kvs.length ≤ 40000) (hw : ∀ x y, wipe (((wipe σ ws).set i1 (some x)).set i2 (some y)) ws = wipe σ ws)
    (he : ∀ (i : Nat) k w H', kvs[i]? = some (k, w) → Ex H H' → EvU te (((wipe σ ws).set i1 (some (kV k))).set i2 (some w)) H' [.int (ab i).1, .int (ab i).2]) : EvP2 (tLc (iItems tl) (gTup K 2 (gCons (gName i1) (gCons (gName i2) gNil))) tYes te ws) σ H ((List.range kvs.length).map ab) := fun H1 e1 Q q =>
  h H1 e1 _ fun H2 e2 => ⟨d, od, kvs, rfl, e2 _ _ (e1 _ _ hd), lcPairG (J := Iti d od kvs) (ab := ab) hn (fun i H' hi e' => ⟨e' _ _ (e2 _ _ (e1 _ _ hd)), hi⟩) (fun H' e' => ⟨e' _ _ (e2 _ _ (e1 _ _ hd)), Nat.le_refl _⟩) (fun i x H' H'' hi e' y => by
    obtain ⟨T, k, w, hk, rfl, hT, rfl⟩ := y
    exact ⟨Ex.new hT, fun G hG => g_two (hG _ _ (hw _ _) (Ex.refl _) (he i k w _ hk (((e1.trans e2).trans e').trans (Ex.new hT))))⟩) fun D xs H3 hD e3 h3 hp => q D xs H3 (fresh_of e2 hD) (e2.trans e3) h3 hp⟩
/-- [(..) for i, x in enumerate(e)], e a new list of known things -/
theorem ep_enumI {xs : List V} {a : Addr} {i1 i2 : Nat} {ws : List Nat} (ab : Nat → Int × Int) (h : Ev tl σ H (.ref a)) (hx : SqL K H a xs) (hn : xs.length ≤ 40000) (hw : ∀ x y, wipe (((wipe σ ws).set i1 (some x)).set i2 (some y)) ws = wipe σ ws)
    (he : ∀ (i : Nat) x H', xs[i]? = some x → Ex H H' → EvU te (((wipe σ ws).set i1 (some (.int (i : Int)))).set i2 (some x)) H' [.int (ab i).1, .int (ab i).2]) : EvP2 (tLc (iEnumQ K (tCons tl tNil)) (gTup K 2 (gCons (gName i1) (gCons (gName i2) gNil))) tYes te ws) σ H ((List.range xs.length).map ab) := fun H1 e1 Q q =>
  .inl (h H1 e1 _ fun H2 e2 => ⟨a, xs, rfl, ex_l (e1.trans e2) hx, lcPairG (J := Ite K a) (ab := ab) hn (fun i H' hi e' => ⟨xs, xs[i], ex_l ((e1.trans e2).trans e') hx, List.getElem?_eq_getElem hi⟩) (fun H' e' => ⟨xs, ex_l ((e1.trans e2).trans e') hx, Nat.le_refl _⟩) (fun i x H' H'' hi e' y => by
    obtain ⟨T, z, rfl, hT, rfl, hy⟩ := y
    exact ⟨Ex.new hT, fun G hG => g_two (hG _ _ (hw _ _) (Ex.refl _) (he i z _ (hy xs (ex_l ((e1.trans e2).trans e') hx)) (((e1.trans e2).trans e').trans (Ex.new hT))))⟩) fun D ys H3 hD e3 h3 hp => q D ys H3 (fresh_of e2 hD) (e2.trans e3) h3 hp⟩)
/-- [(..) for a, b in e], e a list of pairs at a name -/
theorem ep_two {xs : List V} {ps : List (Int × Int)} {a : Addr} {i1 i2 : Nat} {ws : List Nat} (ab : Nat → Int × Int) (h : Ev tl σ H (.ref a)) (hx : SqL K H a xs) (hp : PairsAt H xs ps) (hn : xs.length ≤ 40000) (hw : ∀ x y, wipe (((wipe σ ws).set i1 (some x)).set i2 (some y)) ws = wipe σ ws)
    (he : ∀ (i : Nat) p H', ps[i]? = some p → Ex H H' → EvU te (((wipe σ ws).set i1 (some (.int p.1))).set i2 (some (.int p.2))) H' [.int (ab i).1, .int (ab i).2]) : EvP2 (tLc (iSeq K tl) (gTup K 2 (gCons (gName i1) (gCons (gName i2) gNil))) tYes te ws) σ H ((List.range xs.length).map ab) := fun H1 e1 Q q =>
  .inl (h H1 e1 _ fun H2 e2 => ⟨a, rfl, ⟨xs, ex_l (e1.trans e2) hx⟩, lcPairG (J := Itl K a) (ab := ab) hn (fun i H' hi e' => ⟨xs, xs[i], ex_l ((e1.trans e2).trans e') hx, List.getElem?_eq_getElem hi⟩) (fun H' e' => ⟨xs, ex_l ((e1.trans e2).trans e') hx, Nat.le_refl _⟩) (fun i x H' H'' hi e' y => by
    obtain ⟨rfl, hy⟩ := y
    have hxi := hy xs (ex_l ((e1.trans e2).trans e') hx)
    have hil : i < ps.length := by rw [← hp.1]; exact hi
    obtain ⟨t, rfl, ht⟩ := hp.2 i x ps[i] hxi (List.getElem?_eq_getElem hil)
    exact ⟨Ex.refl _, fun G hG => ⟨t, _, rfl, SqT.of (((e1.trans e2).trans e') _ _ ht), rfl, _, _, rfl, _, _, rfl, rfl, hG _ _ (hw _ _) (Ex.refl _) (he i _ _ (List.getElem?_eq_getElem hil) ((e1.trans e2).trans e'))⟩⟩) fun D ys H3 hD e3 h3 hp' => q D ys H3 (fresh_of e2 hD) (e2.trans e3) h3 hp'⟩)
end
end Tr

/-! Law k12: models of halls, dicts with text keys. -/
namespace Tr
open PySem L2 PySem.Spec PyProof.Rows Evl LamX

abbrev kT : Key := Sum.inr "turn"
abbrev kP : Key := Sum.inr "path"
abbrev kR : Key := Sum.inr "row"
abbrev kI : Key := Sum.inr "at"
abbrev kA : Key := Sum.inr "air"
def mFs (now : Int) (pp rp : Addr) (at_ : Int) (ap : Addr) : List (Key × V) := [(kT, .int now), (kP, .ref pp), (kR, .ref rp), (kI, .int at_), (kA, .ref ap)]
theorem keysD : [kT, kP, kR, kI, kA].Nodup := by decide +kernel
theorem kTP : kT ≠ kP := by decide +kernel
theorem kTR : kT ≠ kR := by decide +kernel
theorem kTI : kT ≠ kI := by decide +kernel
theorem kTA : kT ≠ kA := by decide +kernel
theorem kPR : kP ≠ kR := by decide +kernel
theorem kPI : kP ≠ kI := by decide +kernel
theorem kPA : kP ≠ kA := by decide +kernel
theorem kRI : kR ≠ kI := by decide +kernel
theorem kRA : kR ≠ kA := by decide +kernel
theorem kIA : kI ≠ kA := by decide +kernel
section
variable {now at_ x : Int} {pp rp ap q : Addr}
theorem val_T : valV (mFs now pp rp at_ ap) kT = some (.int now) := valV_pos rfl
theorem val_P : valV (mFs now pp rp at_ ap) kP = some (.ref pp) := (valV_neg kTP).trans (valV_pos rfl)
theorem val_R : valV (mFs now pp rp at_ ap) kR = some (.ref rp) := ((valV_neg kTR).trans (valV_neg kPR)).trans (valV_pos rfl)
theorem val_I : valV (mFs now pp rp at_ ap) kI = some (.int at_) := (((valV_neg kTI).trans (valV_neg kPI)).trans (valV_neg kRI)).trans (valV_pos rfl)
theorem val_A : valV (mFs now pp rp at_ ap) kA = some (.ref ap) := ((((valV_neg kTA).trans (valV_neg kPA)).trans (valV_neg kRA)).trans (valV_neg kIA)).trans (valV_pos rfl)
theorem put_in {kvs : List (Key × V)} {k : Key} {v : V} (h : (valV kvs k).isSome = true) : putK kvs k v = kvs.map fun kv => if kv.1 = k then (kv.1, v) else kv := by
  unfold putK
  rw [if_pos (by rw [valV_any, h])]
theorem put_T : putK (mFs now pp rp at_ ap) kT (.int x) = mFs x pp rp at_ ap := by
  rw [put_in (by rw [val_T]; rfl)]
  simp only [mFs, List.map_cons, List.map_nil, if_true, if_neg (Ne.symm kTP), if_neg (Ne.symm kTR), if_neg (Ne.symm kTI), if_neg (Ne.symm kTA)]
theorem put_P : putK (mFs now pp rp at_ ap) kP (.ref q) = mFs now q rp at_ ap := by
  rw [put_in (by rw [val_P]; rfl)]
  simp only [mFs, List.map_cons, List.map_nil, if_true, if_neg kTP, if_neg (Ne.symm kPR), if_neg (Ne.symm kPI), if_neg (Ne.symm kPA)]
theorem put_R : putK (mFs now pp rp at_ ap) kR (.ref q) = mFs now pp q at_ ap := by
  rw [put_in (by rw [val_R]; rfl)]
  simp only [mFs, List.map_cons, List.map_nil, if_true, if_neg kTR, if_neg kPR, if_neg (Ne.symm kRI), if_neg (Ne.symm kRA)]
theorem put_I : putK (mFs now pp rp at_ ap) kI (.int x) = mFs now pp rp x ap := by
  rw [put_in (by rw [val_I]; rfl)]
  simp only [mFs, List.map_cons, List.map_nil, if_true, if_neg kTI, if_neg kPI, if_neg kRI, if_neg (Ne.symm kIA)]
end
theorem merge_nd : ∀ (kvs acc : List (Key × V)), ((acc ++ kvs).map (·.1)).Nodup → mergeK acc kvs = acc ++ kvs
  | [], acc, _ => (List.append_nil acc).symm
  | kv :: kvs, acc, h => by
    have hn : putK acc kv.1 kv.2 = acc ++ [kv] := by
      unfold putK
      rw [if_neg]
      intro z
      obtain ⟨q, hq, e⟩ := List.any_eq_true.mp z
      have e := of_decide_eq_true e
      rw [List.map_append, List.nodup_append] at h
      exact h.2.2 q.1 (List.mem_map.mpr ⟨q, hq, rfl⟩) kv.1 (by simp) e
    show mergeK (putK acc kv.1 kv.2) kvs = _
    rw [hn, merge_nd kvs (acc ++ [kv]) (by rw [List.append_assoc]; exact h), List.append_assoc]
    rfl
/-! ### where a model stands -/
structure ModO (K : PySem.W.Frag) (H : Hp) (m ap pp rp : Addr) (s : HS) (at_ : Int) : Prop where
  hm : H m = some (.dK (mFs s.now pp rp at_ ap))
  hp : H pp = some (.lst (s.path.map V.int))
  hr : H rp = some (.lst (s.form.map V.int))
  hA : H ap = some (.dK (flyK s.fly))
  a0 : 0 ≤ at_
  isat : at_ % (s.form.length : Int) = s.spot
  pr : pp ≠ rp
  ma : m ≠ ap
section
variable {K : PySem.W.Frag} {H H1 : Hp} {m ap pp rp : Addr} {s : HS} {at_ : Int}
theorem ModO.ex (e : Ex H H1) (h : ModO K H m ap pp rp s at_) : ModO K H1 m ap pp rp s at_ := ⟨e _ _ h.hm, e _ _ h.hp, e _ _ h.hr, e _ _ h.hA, h.a0, h.isat, h.pr, h.ma⟩
theorem ModO.mutT {W : List Addr} (u : MutT W H H1) (h : ModO K H m ap pp rp s at_) (h1 : m ∉ W) (h2 : ap ∉ W) (h3 : pp ∉ W) (h4 : rp ∉ W) : ModO K H1 m ap pp rp s at_ :=
  ⟨u _ _ h.hm nt_dK (.inl h1), u _ _ h.hp nt_lst (.inl h3), u _ _ h.hr nt_lst (.inl h4), u _ _ h.hA nt_dK (.inl h2), h.a0, h.isat, h.pr, h.ma⟩
end
/-! ### what is in the air, as bits -/
theorem sumI_perm {f : Int → Int} {xs ys : List Int} (h : xs.Perm ys) : (xs.map f).sum = (ys.map f).sum := by
  induction h with
  | nil => rfl
  | cons x _ ih => rw [List.map_cons, List.map_cons, List.sum_cons, List.sum_cons, ih]
  | swap x y l => simp only [List.map_cons, List.sum_cons]; omega
  | trans _ _ i1 i2 => rw [i1, i2]
theorem bits_fin : ((List.range 512).all fun b => decide ((((List.range 9).filter fun k => b.testBit k).map fun k => 2 ^ k).sum = b)) = true := by decide +kernel
theorem cast_sum : ∀ xs : List Nat, ((xs.sum : Nat) : Int) = (xs.map fun (k : Nat) => (k : Int)).sum
  | [] => rfl
  | x :: xs => by rw [List.sum_cons, List.map_cons, List.sum_cons, ← cast_sum xs]; omega
theorem fly_sum {s : HS} (I : HInv s) : (s.fly.map fun p => 1 * (2 : Int) ^ (p.1 - s.now).toNat).sum = s.bits := by
  have hp : (keysC s).Perm (s.fly.map (·.1)) := (List.perm_ext_iff_of_nodup (List.Pairwise.imp (fun h => by omega) (keysC_sorted s)) I.nd).mpr fun a => keysC_mem I a
  have e1 : (s.fly.map fun p => 1 * (2 : Int) ^ (p.1 - s.now).toNat) = (s.fly.map (·.1)).map fun w => 1 * (2 : Int) ^ (w - s.now).toNat := by rw [List.map_map]; rfl
  rw [e1, ← sumI_perm (f := fun w => 1 * (2 : Int) ^ (w - s.now).toNat) hp]
  unfold keysC
  rw [List.map_map]
  have b0 := I.b0
  have b1 := I.b1
  obtain ⟨b, hb⟩ : ∃ b : Nat, s.bits = (b : Int) := ⟨s.bits.toNat, by omega⟩
  have fin := of_decide_eq_true (List.all_eq_true.mp bits_fin b (List.mem_range.mpr (by omega)))
  rw [hb]
  have e2 : ((List.range 9).filter fun (k : Nat) => bitS (b : Int) k) = (List.range 9).filter fun k => b.testBit k := List.filter_congr fun k _ => bitS_nat
  rw [e2, ← congrArg (fun n : Nat => (n : Int)) fin, cast_sum, List.map_map]
  congr 1
  refine List.map_congr_left fun k _ => ?_
  show 1 * (2 : Int) ^ (s.now + (k : Int) - s.now).toNat = ((2 ^ k : Nat) : Int)
  rw [show (s.now + (k : Int) - s.now).toNat = k by omega, Int.one_mul]
  push_cast
  rfl
/-! ### the model's first things -/
def wsF (b : Int) (n : Nat) : List Int := ((List.range n).filter fun (k : Nat) => bitS b k).map fun (k : Nat) => (k : Int)
theorem bitFly_fst (b : Int) : ∀ n, (bitFly b n).map (·.1) = wsF b n
  | 0 => rfl
  | n + 1 => by
    unfold bitFly wsF
    rw [List.range_succ, List.filter_append, List.map_append]
    split
    · rename_i h
      rw [List.map_append, bitFly_fst b n, List.filter_cons, if_pos h]
      rfl
    · rename_i h
      rw [bitFly_fst b n, List.filter_cons, if_neg h]
      exact (List.append_nil _).symm
theorem bitFly_eq (b : Int) (n : Nat) : bitFly b n = (List.range (wsF b n).length).map fun i => ((wsF b n).getD i 0, (i : Int)) := by
  have hl : (bitFly b n).length = (wsF b n).length := by rw [← bitFly_fst b n, List.length_map]
  apply List.ext_getElem (by rw [List.length_map, List.length_range, hl])
  intro i h1 h2
  have h3 : i < (wsF b n).length := by rw [← hl]; exact h1
  rw [List.getElem_map, List.getElem_range]
  have e1 : ((bitFly b n).map (·.1))[i]? = (wsF b n)[i]? := by rw [bitFly_fst]
  have e2 : ((bitFly b n).map (·.2))[i]? = ((List.range (bitFly b n).length).map fun (k : Nat) => (k : Int))[i]? := by rw [bitFly_things]
  rw [List.getElem?_map, List.getElem?_eq_getElem h1, List.getElem?_eq_getElem h3] at e1
  rw [List.getElem?_map, List.getElem?_eq_getElem h1, List.getElem?_map, List.getElem?_range h1] at e2
  have e1 : (bitFly b n)[i].1 = (wsF b n)[i] := Option.some.inj e1
  have e2 : (bitFly b n)[i].2 = (i : Int) := Option.some.inj e2
  rw [List.getD_eq_getElem?_getD, List.getElem?_eq_getElem h3]
  exact Prod.ext e1 e2
theorem bitFly_ten {b : Int} (h0 : 0 ≤ b) (h1 : b ≤ 511) : bitFly b 10 = bitFly b 9 := by
  obtain ⟨n, rfl⟩ : ∃ n : Nat, b = (n : Int) := ⟨b.toNat, by omega⟩
  show (if bitS (n : Int) 9 = true then _ else _) = _
  rw [if_neg]
  rw [bitS_nat, Nat.testBit_lt_two_pow (show n < 2 ^ 9 by have : (2 : Nat) ^ 9 = 512 := rfl; omega)]
  exact fun z => nomatch z
def kvO (p : Int × Int) : Key × V := (Sum.inl p.1, .int p.2)
theorem merge_fly {l : List (Int × Int)} (h : (l.map (·.1)).Nodup) : mergeK [] (l.map kvO) = flyK l := by
  rw [merge_nd]
  · rfl
  · show ((([] : List (Key × V)) ++ l.map kvO).map fun q => q.1).Nodup
    rw [List.nil_append, List.map_map]
    have e : (l.map ((fun q : Key × V => q.1) ∘ kvO)) = (l.map fun p => p.1).map Sum.inl := by rw [List.map_map]; rfl
    rw [e]
    exact List.Pairwise.map _ (fun a b hab z => hab (Sum.inl.inj z)) h
theorem t_pair {tk tv : TE} {r : List (TE × TE)} {σ : L2.St} {H : Hp} {Q : List (V × V) → Hp → Prop} (h : tk σ H fun x H1 => tv σ H1 fun y H2 => tPairs r σ H2 fun ps H3 => Q ((x, y) :: ps) H3) : tPairs ((tk, tv) :: r) σ H Q := h
theorem t_c {v : V} {σ : L2.St} {H : Hp} {Q : VK} (h : Q v H) : tC v σ H Q := h
theorem t_cb1 {r : RCall} {te : TE} {σ : L2.St} {H : Hp} {Q : VK} (h : te σ H fun v H1 => r [v] H1 Q) : tCB r (tCons te tNil) σ H Q := h
def rDictP (K : PySem.W.Frag) : RCall := fun xs H Q => ∃ (a : Addr) (ps : List Addr) (kvs : List (Key × V)), xs = [.ref a] ∧ SqL K H a (ps.map V.ref) ∧ Paired (fun p kv => SqT K H p [kV kv.1, kv.2]) ps kvs ∧ ∀ p, H p = none → Q (.ref p) (upd H p (.dK (mergeK [] kvs)))
theorem fnDictP {X : Cx} (hc : X.calm = true) : CallR X (.type "dict") (rDictP X.K) := call_dictP hc
theorem pairs_kv {K : PySem.W.Frag} {H : Hp} : ∀ {xs : List V} {qs : List (Int × Int)}, PairsAt H xs qs → ∃ ps : List Addr, xs = ps.map V.ref ∧ Paired (fun p kv => SqT K H p [kV kv.1, kv.2]) ps (qs.map kvO)
  | [], [], _ => ⟨[], rfl, .nil⟩
  | [], _ :: _, h => absurd h.1 (by simp)
  | _ :: _, [], h => absurd h.1 (by simp)
  | x :: xs, p :: qs, h => by
    obtain ⟨t, rfl, e⟩ := h.2 0 x p rfl rfl
    obtain ⟨ps, rfl, pr⟩ := pairs_kv (K := K) (H := H) (xs := xs) (qs := qs) ⟨by have := h.1; simp at this; exact this, fun i y q h1 h2 => h.2 (i + 1) y q h1 h2⟩
    exact ⟨t :: ps, rfl, .cons (SqT.of e) pr⟩
/-! ### promises -/
def sp_k12_l_model (K : PySem.W.Frag) (c : Cs) : Sp := fun vs H Q _ => ∃ x ns, vs = [x] ∧ Row K H x ns ∧ Good ns ∧ clashF ns = none ∧ ∀ m ap pp rp H2, Ex H H2 → H m = none → H ap = none → H pp = none → H rp = none → ModO K H2 m ap pp rp (initS ns) 0 → Q (.ref m) H2
def sp_k12_l_state (K : PySem.W.Frag) (c : Cs) : Sp := fun vs H Q _ => ∃ m ap pp rp s at_, vs = [.ref m] ∧ ModO K H m ap pp rp s at_ ∧ HInv s ∧ RetV (.int s.bits) H Q
def sp_k12_l_step (K : PySem.W.Frag) (c : Cs) : Sp := fun vs H Q _ => ∃ m ap pp rp s at_, vs = [.ref m] ∧ ModO K H m ap pp rp s at_ ∧ HInv s ∧ ∀ t at2 H2, Mut [m, ap, pp] H H2 → H2 t = some (.tup [.int s.now, thV (thingS s), .int (nextH s)]) → ModO K H2 m ap pp rp (stepS s) at2 → Q (.ref t) H2
/-- _law_model: slots _law_row, _law_state_here, _law_waits, _law_k, _law_wait -/
def t_k12_l_model (K : PySem.W.Frag) (c : Cs) (E : XK) : TS :=
  (tSeq (tAsg (tCall (sp_state_at K c) [.int 0] E0 (tCons (tVar 0) tNil)) (gName 1))
  (tSeq (tAsg (tLc (iRng1 (tCons (tC (.int 9)) tNil)) (gName 3) (tTest (tOp (xEq K) (tOp xAnd (tOp xShr (tVar 1) (tVar 3)) (tC (.int 1))) (tC (.int 1)))) (tVar 3) [3]) (gName 2))
  (tRet (tDisp [((tC (.str "turn")), (tC (.int 0))), ((tC (.str "path")), (tLst tNil)), ((tC (.str "row")), (tCB (cList K) (tCons (tVar 0) tNil))), ((tC (.str "at")), (tC (.int 0))), ((tC (.str "air")), (tCB (rDictP K) (tCons (tLc (iEnumQ K (tCons (tVar 2) tNil)) (gTup K 2 (gCons (gName 3) (gCons (gName 4) gNil))) tYes (tTup (tCons (tVar 4) (tCons (tVar 3) tNil))) [3, 4]) tNil)))]))))

/-- _law_state: slots _law_model_here, _law_when -/
def t_k12_l_state (K : PySem.W.Frag) (c : Cs) (E : XK) : TS :=
  (tRet (tCB (cSum K) (tCons (tLockE (tLc (iKeys (tDGet (tVar 0) (tC (.str "air")))) (gName 1) tYes (tOp xShl (tC (.int 1)) (tOp xSub (tVar 1) (tDGet (tVar 0) (tC (.str "turn"))))) [1])) tNil)))

/-- _law_step: slots _law_model_here, _law_height, _law_turn, _law_thing -/
def t_k12_l_step (K : PySem.W.Frag) (c : Cs) (E : XK) : TS :=
  (tSeq (tIfS (tTest (tOp (xNe K) (tDGet (tVar 0) (tC (.str "path"))) (tLst tNil))) (tAsg (tBM K "list" rPopAt (tDGet (tVar 0) (tC (.str "path"))) (tCons (tC (.int 0)) tNil)) (gName 1)) (tSeq (tAsg (tOp (rIx K) (tDGet (tVar 0) (tC (.str "row"))) (tOp xMod (tDGet (tVar 0) (tC (.str "at"))) (tCB (cLen K) (tCons (tDGet (tVar 0) (tC (.str "row"))) tNil)))) (gName 1))
  (sDPut (tVar 0) (tC (.str "at")) (tOp (xAdd K) (tDGet (tVar 0) (tC (.str "at"))) (tC (.int 1))))))
  (tSeq (tAsg (tDGet (tVar 0) (tC (.str "turn"))) (gName 2))
  (tSeq (tAsg (tDPop2 (tDGet (tVar 0) (tC (.str "air"))) (tVar 2) (tC .non)) (gName 3))
  (tSeq (tIfS (tTest (tOp xNotN (tVar 3) (tC .non))) (sDPut (tDGet (tVar 0) (tC (.str "air"))) (tOp (xAdd K) (tVar 2) (tVar 1)) (tVar 3)) tNext)
  (tSeq (sDPut (tVar 0) (tC (.str "turn")) (tOp (xAdd K) (tVar 2) (tC (.int 1))))
  (tRet (tTup (tCons (tVar 2) (tCons (tVar 3) (tCons (tVar 1) tNil))))))))))

section
variable {K : PySem.W.Frag} {c : Cs} {vs : List V} {H : Hp} {Q : VK} {E : XK}
section
variable {σ : L2.St} {td : TE} {m ap pp rp : Addr} {s : HS} {at_ : Int}
theorem ev_mT (h0 : Ev td σ H (.ref m)) (h : ModO K H m ap pp rp s at_) : Ev (tDGet td (tC (.str "turn"))) σ H (.int s.now) := ev_dget (k := kT) h0 ev_c h.hm val_T
theorem ev_mP (h0 : Ev td σ H (.ref m)) (h : ModO K H m ap pp rp s at_) : Ev (tDGet td (tC (.str "path"))) σ H (.ref pp) := ev_dget (k := kP) h0 ev_c h.hm val_P
theorem ev_mR (h0 : Ev td σ H (.ref m)) (h : ModO K H m ap pp rp s at_) : Ev (tDGet td (tC (.str "row"))) σ H (.ref rp) := ev_dget (k := kR) h0 ev_c h.hm val_R
theorem ev_mI (h0 : Ev td σ H (.ref m)) (h : ModO K H m ap pp rp s at_) : Ev (tDGet td (tC (.str "at"))) σ H (.int at_) := ev_dget (k := kI) h0 ev_c h.hm val_I
theorem ev_mA (h0 : Ev td σ H (.ref m)) (h : ModO K H m ap pp rp s at_) : Ev (tDGet td (tC (.str "air"))) σ H (.ref ap) := ev_dget (k := kA) h0 ev_c h.hm val_A
end
theorem pure_k12_l_state (h : sp_k12_l_state K c vs H Q E) : t_k12_l_state K c E { nx := fun _ H' => Q .non H', rt := Q } (start ["_law_model_here", "_law_when"] vs) H := by
  obtain ⟨m, ap, pp, rp, s, at_, rfl, hM, I, q⟩ := h
  have hl9 : s.fly.length ≤ 9 := by rw [I.many]; exact pcI_le _
  have hfl : (flyK s.fly).length = s.fly.length := by unfold flyK; rw [List.length_map]
  have el : EvL (tLockE (tLc (iKeys (tDGet (tVar 0) (tC (.str "air")))) (gName 1) tYes (tOp xShl (tC (.int 1)) (tOp xSub (tVar 1) (tDGet (tVar 0) (tC (.str "turn"))))) [1])) (start ["_law_model_here", "_law_when"] [V.ref m]) H ((s.fly.map fun p => 1 * (2 : Int) ^ (p.1 - s.now).toNat).map V.int) := by
    have z := el_lock (σ := start ["_law_model_here", "_law_when"] [V.ref m]) (xs := (List.range (flyK s.fly).length).map fun i => V.int (1 * (2 : Int) ^ ((s.fly.getD i (0, 0)).1 - s.now).toNat)) (t := tLc (iKeys (tDGet (tVar 0) (tC (.str "air")))) (gName 1) tYes (tOp xShl (tC (.int 1)) (tOp xSub (tVar 1) (tDGet (tVar 0) (tC (.str "turn"))))) [1]) hM.hA fun H1 od e1 => by
      have hm1 : (upd H1 ap (.frz od (.dK (flyK s.fly)))) m = some (.dK (mFs s.now pp rp at_ ap)) := (upd_ne hM.ma).trans (e1 _ _ hM.hm)
      refine el_keysI (fun i => V.int (1 * (2 : Int) ^ ((s.fly.getD i (0, 0)).1 - s.now).toNat)) (ev_dget (k := kA) (ev_var (i := 0) rfl) ev_c hm1 val_A) upd_same (by omega) (fun x => rfl) fun i k w H' hk e' => ?_
      unfold flyK at hk
      rw [List.getElem?_map] at hk
      obtain ⟨p, hp, e2⟩ := Option.map_eq_some_iff.mp hk
      cases e2
      have hpm : p ∈ s.fly := List.mem_of_getElem? hp
      have hlo := I.lo p.1 (List.mem_map.mpr ⟨p, hpm, rfl⟩)
      have hhi : p.1 - s.now < 9 := by
        have hb := (I.bit (p.1 - s.now).toNat).mpr (by rw [show s.now + (((p.1 - s.now).toNat : Nat) : Int) = p.1 by omega]; exact List.mem_map.mpr ⟨p, hpm, rfl⟩)
        have := bit_hi I hb
        omega
      refine ev_is (ev_op ev_c (ev_op (ev_var (i := 1) (v := .int p.1) rfl) (ev_dget (k := kT) (ev_var (i := 0) rfl) ev_c (e' _ _ hm1) val_T) rv_sub) (rv_shl ⟨by omega, by omega⟩)) ?_
      rw [List.getD_eq_getElem?_getD, hp]
      rfl
    have e : (List.range (flyK s.fly).length).map (fun i => V.int (1 * (2 : Int) ^ ((s.fly.getD i (0, 0)).1 - s.now).toNat)) = (s.fly.map fun p => 1 * (2 : Int) ^ (p.1 - s.now).toNat).map V.int := by
      rw [hfl]
      apply List.ext_getElem (by rw [List.length_map, List.length_range, List.length_map, List.length_map])
      intro i h1 h2
      rw [List.length_map, List.length_range] at h1
      rw [List.getElem_map, List.getElem_range, List.getElem_map, List.getElem_map, List.getD_eq_getElem?_getD, List.getElem?_eq_getElem h1]
      rfl
    rw [e] at z
    exact z
  refine s_ret (v := .int s.bits) (ev_is (ev_sum (evq_s (evs_new el))) (by rw [fly_sum I])) q
theorem row_evq2 {σ : L2.St} {i : Nat} {x : V} {ns : List Int} (h : Row K H x ns) (h0 : σ[i]? = some (some x)) : EvQ K (tVar i) σ H (ns.map V.int) := row_evq h h0
theorem pure_k12_l_model (h : sp_k12_l_model K c vs H Q E) : t_k12_l_model K c E { nx := fun _ H' => Q .non H', rt := Q } (start ["_law_row", "_law_state_here", "_law_waits", "_law_k", "_law_wait"] vs) H := by
  obtain ⟨x, ns, rfl, hr, hg, hc, q⟩ := h
  have u := upS_ok hg
  refine q_asg (v := .int (upS ns)) (ev_state_at0 (K := K) (c := c) (row_evq hr rfl) hg hc) fun H1 e1 => ?_
  have hws : given (9 : Int).toNat (fun k => bitS (upS ns) k) (fun k => V.int (k : Int)) = (wsF (upS ns) 9).map V.int := by
    unfold given wsF
    rw [List.map_map]
    rfl
  refine q_asgL (xs := (wsF (upS ns) 9).map V.int) ?_ fun w H2 hw e2 h2 => ?_
  · rw [← hws]
    refine el_lcR1 (fun k => bitS (upS ns) k) (fun k => V.int (k : Int)) (ea_cons ev_c ea_nil) (by decide) (fun x => rfl) (fun i H' e' hi => et_is (et_test (ev_op (ev_op (ev_op (ev_var (i := 1) rfl) (ev_var (i := 3) (v := .int (i : Int)) rfl) (rv_shr (by omega))) ev_c rv_and) ev_c rv_eqI)) ?_) fun i H' e' hi _ => ev_var (i := 3) rfl
    rw [Int.toNat_natCast]
    exact bit_one
  have e12 := e1.trans e2
  have hwl : (wsF (upS ns) 9).length ≤ 9 := by
    unfold wsF
    rw [List.length_map]
    exact Nat.le_trans (List.length_filter_le _ _) (by rw [List.length_range]; exact Nat.le_refl _)
  intro m hm
  have hmH : H m = none := fresh_of e12 hm
  refine ⟨sz_of (show 0 ≤ 100000 by decide), fun pp hpp => ?_⟩
  have eA : Ex H2 (upd (upd H2 m (.dK [])) pp (.lst [])) := (Ex.new hm).trans (Ex.new hpp)
  have hmp : m ≠ pp := fun z => by rw [← z, upd_same] at hpp; cases hpp
  refine (el_listQ (row_evq (σ := (((start ["_law_row", "_law_state_here", "_law_waits", "_law_k", "_law_wait"] [x]).set 1 (some (.int (upS ns)))).set 2 (some (.ref w)))) (i := 0) (row_ex (e12.trans eA) hr) rfl)) _ (Ex.refl _) _ fun rp H3 hrp e3 h3 => ?_
  have hm3 : H3 m = some (.dK []) := e3 _ _ ((upd_ne hmp).trans upd_same)
  have hp3 : H3 pp = some (.lst []) := e3 _ _ upd_same
  have e23 := eA.trans e3
  refine t_pair (t_c (t_c (t_pair (t_c (t_cb1 ?_)))))
  refine (ep_enumI (K := K) (σ := (((start ["_law_row", "_law_state_here", "_law_waits", "_law_k", "_law_wait"] [x]).set 1 (some (.int (upS ns)))).set 2 (some (.ref w)))) (te := tTup (tCons (tVar 4) (tCons (tVar 3) tNil))) (tl := tVar 2) (i1 := 3) (i2 := 4) (ws := [3, 4]) (xs := (wsF (upS ns) 9).map V.int) (fun i => ((wsF (upS ns) 9).getD i 0, (i : Int))) (ev_var (i := 2) rfl) (SqL.of (e23 _ _ h2)) (by rw [List.length_map]; omega) (fun x y => rfl) fun i x H' hx e' => ?_) H3 (Ex.refl _) _ fun lp xs H4 hlp e4 h4 hps => ?_
  · obtain ⟨hil, rfl⟩ := getD_of hx
    exact eu_tup (ea_cons (ev_var (i := 4) rfl) (ea_cons (ev_var (i := 3) rfl) ea_nil)) (by show 2 ≤ 100000; decide)
  rw [List.length_map, ← bitFly_eq] at hps
  obtain ⟨ps, rfl, pr⟩ := pairs_kv (K := K) (pairs_ex ex_del hps)
  refine ⟨lp, ps, _, rfl, SqL.of h4, pr, fun ap hap => ?_⟩
  have nd : ((bitFly (upS ns) 9).map (·.1)).Nodup := bitFly_nd _ 9
  rw [merge_fly nd, ← bitFly_ten u.1 u.2]
  have e34 : Ex H3 (upd H4 ap (.dK (flyK (bitFly (upS ns) 10)))) := e4.trans (Ex.new hap)
  have hma : m ≠ ap := ne_of_none (e4 _ _ hm3) hap
  refine ⟨e34 _ _ hm3, mFs 0 pp rp 0 ap, rfl, by show 5 ≤ 15; decide, ?_⟩
  rw [merge_nd _ _ (show ((([] : List (Key × V)) ++ mFs 0 pp rp 0 ap).map (fun q => q.1)).Nodup from keysD)]
  have hrp2 : H2 rp = none := fresh_of eA hrp
  have hpr : pp ≠ rp := ne_of_none (upd_same (H := upd H2 m (.dK [])) (a := pp) (o := .lst [])) hrp
  have hmr : m ≠ rp := ne_of_none ((upd_ne hmp).trans (upd_same (H := H2) (a := m) (o := .dK []))) hrp
  have hpp2 : H2 pp = none := by
    rw [upd_ne (Ne.symm hmp)] at hpp
    exact hpp
  have eM : Ex H2 (upd (upd H4 ap (.dK (flyK (bitFly (upS ns) 10)))) m (.dK (mFs 0 pp rp 0 ap))) := Ex.mut (e23.trans e34) hm
  refine q m ap pp rp _ (e12.trans eM) hmH (fresh_of (e12.trans (e23.trans e4)) hap) (fresh_of e12 hpp2) (fresh_of e12 hrp2) ⟨upd_same, (upd_ne (Ne.symm hmp)).trans (e34 _ _ hp3), (upd_ne (Ne.symm hmr)).trans (e34 _ _ h3), (upd_ne (Ne.symm hma)).trans upd_same, Int.le_refl _, Int.zero_emod _, hpr, hma⟩
theorem pure_k12_l_step (h : sp_k12_l_step K c vs H Q E) : t_k12_l_step K c E { nx := fun _ H' => Q .non H', rt := Q } (start ["_law_model_here", "_law_height", "_law_turn", "_law_thing"] vs) H := by
  obtain ⟨m, ap, pp, rp, s, at_, rfl, hM, I, q⟩ := h
  have hn0 := I.good.1
  have hl9 : s.fly.length ≤ 9 := by rw [I.many]; exact pcI_le _
  have mp : m ≠ pp := ne_of hM.hm hM.hp (fun z => by cases z)
  have mr : m ≠ rp := ne_of hM.hm hM.hr (fun z => by cases z)
  have ap_p : ap ≠ pp := ne_of hM.hA hM.hp (fun z => by cases z)
  have ap_r : ap ≠ rp := ne_of hM.hA hM.hr (fun z => by cases z)
  have nil_ : ∀ {σ : L2.St} {H' : Hp}, EvD K (tLst tNil) σ H' (.list []) := evd_l (evs_new (el_lst ea_nil (by decide))) .nil
  have fl0 : Flat 1 (.list []) := flat_list fun d hd => absurd hd List.not_mem_nil
  have rest : ∀ (H2 : Hp) (at2 : Int), Mut [m, ap, pp] H H2 → H2 m = some (.dK (mFs s.now pp rp at2 ap)) → H2 pp = some (.lst ((stepS s).path.map V.int)) → H2 rp = some (.lst (s.form.map V.int)) → H2 ap = some (.dK (flyK s.fly)) → 0 ≤ at2 → at2 % (s.form.length : Int) = (stepS s).spot →
      (tSeq (tAsg (tDGet (tVar 0) (tC (.str "turn"))) (gName 2))
  (tSeq (tAsg (tDPop2 (tDGet (tVar 0) (tC (.str "air"))) (tVar 2) (tC .non)) (gName 3))
  (tSeq (tIfS (tTest (tOp xNotN (tVar 3) (tC .non))) (sDPut (tDGet (tVar 0) (tC (.str "air"))) (tOp (xAdd K) (tVar 2) (tVar 1)) (tVar 3)) tNext)
  (tSeq (sDPut (tVar 0) (tC (.str "turn")) (tOp (xAdd K) (tVar 2) (tC (.int 1))))
  (tRet (tTup (tCons (tVar 2) (tCons (tVar 3) (tCons (tVar 1) tNil)))))))) ) { nx := fun _ H' => Q .non H', rt := Q } [some (.ref m), some (.int (nextH s)), none, none] H2 := by
    intro H2 at2 m2 hm2 hp2 hr2 hA2 h0 hat
    refine q_asg (v := .int s.now) (ev_dget (k := kT) (ev_var (i := 0) rfl) ev_c hm2 val_T) fun H3 e3 => ?_
    refine q_popS (d := ap) (l := s.fly) (w := s.now) (ev_dget (k := kA) (ev_var (i := 0) rfl) ev_c (e3 _ _ hm2) val_A) (fun H' e' => ev_var (i := 2) rfl) (e3 _ _ hA2) fun H4 hA4 keep4 => ?_
    have m34 : Mut [ap] H3 H4 := fun b u hb k => by
      by_cases z : b = ap
      · subst z
        rcases k with k | k
        · exact absurd (by simp) k
        · rw [e3 _ _ hA2] at hb
          cases hb
          exact absurd k no_dK
      · exact keep4 b u z hb
    have M4 : Mut [m, ap, pp] H H4 := (m2.trans (.of e3)).trans (m34.mono fun x hx => by simp at hx; simp [hx])
    have hm4 := keep4 _ _ hM.ma (e3 _ _ hm2)
    have hp4 := keep4 _ _ (Ne.symm ap_p) (e3 _ _ hp2)
    have hr4 := keep4 _ _ (Ne.symm ap_r) (e3 _ _ hr2)
    have rest2 : ∀ (H5 : Hp), Mut [ap] H4 H5 → H5 ap = some (.dK (flyK (flyS s))) → (tSeq (sDPut (tVar 0) (tC (.str "turn")) (tOp (xAdd K) (tVar 2) (tC (.int 1))))
  (tRet (tTup (tCons (tVar 2) (tCons (tVar 3) (tCons (tVar 1) tNil)))))) { nx := fun _ H' => Q .non H', rt := Q } [some (.ref m), some (.int (nextH s)), some (.int s.now), some (thV (thingS s))] H5 := by
      intro H5 m45 hA5
      have na : m ∉ [ap] := by simp [hM.ma]
      have np : pp ∉ [ap] := by simp [Ne.symm ap_p]
      have nr : rp ∉ [ap] := by simp [Ne.symm ap_r]
      have hm5 := m45 _ _ hm4 (.inl na)
      have hp5 := m45 _ _ hp4 (.inl np)
      have hr5 := m45 _ _ hr4 (.inl nr)
      refine s_dput (D := { nx := _, rt := Q }) (a := m) (k := kT) (v := .int (s.now + 1)) (ev_op (ev_var (i := 2) rfl) ev_c rv_addI) (ev_var (i := 0) rfl) ev_c hm5 (by show 5 < 100000; decide) fun H6 e6 => ?_
      rw [put_T]
      generalize hH7 : upd H6 m _ = H7
      have hm7 : H7 m = some (.dK (mFs (s.now + 1) pp rp at2 ap)) := by
        rw [← hH7]
        exact upd_same
      have m57 : Mut [m] H5 H7 := by
        rw [← hH7]
        exact (Mut.of e6).trans (Mut.upd (e6 _ _ hm5) no_dK (by simp))
      have M7 : Mut [m, ap, pp] H H7 := (M4.trans (m45.mono fun x hx => by simp at hx; simp [hx])).trans (m57.mono fun x hx => by simp at hx; simp [hx])
      refine s_retU (eu_tup (ea_cons (ev_var (i := 2) rfl) (ea_cons (ev_var (i := 3) rfl) (ea_cons (ev_var (i := 1) rfl) ea_nil))) (by show 3 ≤ 100000; decide)) fun t H8 ht e8 h8 => ?_
      refine q t at2 H8 (M7.trans (.of e8)) h8 (ModO.ex e8 ⟨hm7, m57 _ _ hp5 (.inl (by simp [Ne.symm mp])), m57 _ _ hr5 (.inl (by simp [Ne.symm mr])), m57 _ _ hA5 (.inl (by simp [Ne.symm hM.ma])), h0, hat, hM.pr, hM.ma⟩)
    have ti : thingS s = lookF s.fly s.now := rfl
    have newK : ¬ s.now + nextH s ∈ (dropF s.fly s.now).map (·.1) := fun z => new_key I (keys_drop.mp z).1
    cases hth : lookF s.fly s.now with
    | none =>
      have hfs : flyS s = dropF s.fly s.now := by
        unfold flyS
        rw [ti, hth]
        exact (drop_none hth).symm
      refine q_when (b := false) (et_is (et_test (ev_op (ev_var (i := 3) rfl) ev_c rv_notN)) rfl) (fun z => nomatch z) fun _ H5 e5 => ?_
      have z := rest2 H5 (.of e5) (by rw [hfs]; exact e5 _ _ hA4)
      rw [ti, hth] at z
      exact z
    | some y =>
      have hfs : flyS s = dropF s.fly s.now ++ [(s.now + nextH s, y)] := by
        unfold flyS
        rw [ti, hth]
      refine q_when (b := true) (et_is (et_test (ev_op (ev_var (i := 3) rfl) ev_c rv_notN)) rfl) (fun _ H5 e5 => ?_) (fun z => nomatch z)
      have hl : (dropF s.fly s.now).length ≤ 9 := Nat.le_trans (List.length_filter_le _ _) hl9
      refine s_dput (a := ap) (kvs := flyK (dropF s.fly s.now)) (k := Sum.inl (s.now + nextH s)) (v := .int y) (ev_var (i := 3) rfl) (ev_dget (k := kA) (ev_var (i := 0) rfl) ev_c (e5 _ _ hm4) val_A) (ev_op (ev_var (i := 2) rfl) (ev_var (i := 1) rfl) rv_addI) (e5 _ _ hA4) (by unfold flyK; rw [List.length_map]; omega) fun H6 e6 => ?_
      have e56 := e5.trans e6
      have z := rest2 (upd H6 ap (.dK (putK (flyK (dropF s.fly s.now)) (Sum.inl (s.now + nextH s)) (.int y)))) ((Mut.of e56).trans (Mut.upd (e56 _ _ hA4) no_dK (by simp))) (by rw [hfs, flyK_put newK]; exact upd_same)
      rw [ti, hth] at z
      exact z
  have test : EvT (tTest (tOp (xNe K) (tDGet (tVar 0) (tC (.str "path"))) (tLst tNil))) (start ["_law_model_here", "_law_height", "_law_turn", "_law_thing"] [V.ref m]) H (decide (s.path ≠ [])) := by
    refine et_is (et_test (ev_neD (evd_l (evs_of (ev_mP (ev_var (i := 0) rfl) hM) (SqL.of hM.hp)) (dpa_ints _)) nil_ (flat_ints.shaped (by decide)) (fl0.shaped (by decide)))) ?_
    cases s.path with
    | nil => rfl
    | cons a p => rfl
  refine q_if test (fun hb H1 e1 => ?_) fun hb H1 e1 => ?_
  · have hM1 := hM.ex e1
    have hne := of_decide_eq_true hb
    obtain ⟨y, ys, hpy⟩ := List.exists_cons_of_ne_nil hne
    have hnx : nextH s = y := by unfold nextH; rw [hpy]
    have hpath : s.path.map V.int = .int y :: ys.map V.int := by rw [hpy]; rfl
    have hp1 := hM1.hp
    rw [hpath] at hp1
    refine (ev_mP (ev_var (σ := start ["_law_model_here", "_law_height", "_law_turn", "_law_thing"] [V.ref m]) (i := 0) rfl) hM1) H1 (Ex.refl _) _ fun H2 e2 => ?_
    refine ⟨Or.inl ⟨rfl, _, sq_of (e2 _ _ hp1)⟩, pp, _, 0, 0, .int y, rfl, rfl, e2 _ _ hp1, by decide, by decide, ?_, rfl, ?_⟩
    · unfold seqIndex?
      rw [List.length_cons]
      simp
    · have e12 := e1.trans e2
      have hM2 := hM.ex e12
      have m2 : Mut [m, ap, pp] H (upd H2 pp (.lst ((V.int y :: ys.map V.int).eraseIdx 0))) := (Mut.of e12).trans (Mut.upd hM2.hp no_lst (by simp))
      have hsp : (stepS s).spot = s.spot := by
        show (match s.path with | _ :: _ => s.spot | [] => (s.spot + 1) % (s.form.length : Int)) = s.spot
        rw [hpy]
      have hst : (stepS s).path = ys := by show s.path.tail = ys; rw [hpy]; rfl
      have r := rest _ at_ m2 ((upd_ne mp).trans hM2.hm) (by rw [hst]; exact upd_same) ((upd_ne (Ne.symm hM.pr)).trans hM2.hr) ((upd_ne ap_p).trans hM2.hA) hM.a0 (by rw [hsp]; exact hM.isat)
      rw [hnx] at r
      exact nx_mk r
  · have hM1 := hM.ex e1
    have hnil : s.path = [] := Classical.not_not.mp (of_decide_eq_false hb)
    have hnx : nextH s = hAt s.form s.spot := by unfold nextH; rw [hnil]
    have hq : ∀ {σ : L2.St} {H' : Hp}, Ex H1 H' → σ[0]? = some (some (.ref m)) → EvQ K (tDGet (tVar 0) (tC (.str "row"))) σ H' (s.form.map V.int) := fun e h0 => evq_of (ev_mR (ev_var h0) (hM1.ex e)) (.inl (SqL.of (e _ _ hM1.hr)))
    refine q_asg (v := .int (nextH s)) (ev_is (ev_hAt (t := at_) (hq (Ex.refl _) rfl) (fun H' e' => ev_op (ev_mI (ev_var (i := 0) rfl) (hM1.ex e')) (ev_lenI (hq e' rfl)) (rv_mod (by omega))) (by omega)) ?_) fun H2 e2 => ?_
    · rw [hnx]
      congr 1
      exact hAt_of (by rw [hM.isat, Int.emod_eq_of_lt I.s0 I.s1])
    · have e12 := e1.trans e2
      have hM2 := hM.ex e12
      refine s_dput (a := m) (k := kI) (v := .int (at_ + 1)) (ev_op (ev_mI (ev_var (i := 0) rfl) hM2) ev_c rv_addI) (ev_var (i := 0) rfl) ev_c hM2.hm (by show 5 < 100000; decide) fun H3 e3 => ?_
      rw [put_I]
      have hM3 := hM2.ex e3
      have m3 : Mut [m, ap, pp] H (upd H3 m (.dK (mFs s.now pp rp (at_ + 1) ap))) := (Mut.of (e12.trans e3)).trans (Mut.upd hM3.hm no_dK (by simp))
      have hsp : (stepS s).spot = (s.spot + 1) % (s.form.length : Int) := by
        show (match s.path with | _ :: _ => s.spot | [] => (s.spot + 1) % (s.form.length : Int)) = _
        rw [hnil]
      have hst : (stepS s).path = s.path := by show s.path.tail = s.path; rw [hnil]; rfl
      have ha0 := hM.a0
      have r := rest _ (at_ + 1) m3 upd_same (by rw [hst]; exact (upd_ne (Ne.symm mp)).trans hM3.hp) ((upd_ne (Ne.symm mr)).trans hM3.hr) ((upd_ne (Ne.symm hM.ma)).trans hM3.hA) (by omega) (by rw [hsp, ← hM.isat, Int.emod_add_emod])
      exact nx_mk r
end
end Tr

/-! Law k12: a hall stands as its model. -/
namespace Tr
open PySem L2 PySem.Spec PyProof.Rows Evl LamX

def itemF (s : HS) : List (Int × Int) := s.fly.map fun p => (p.1 - s.now, p.2)
def airS (s : HS) : List (Int × Int) := (keysC s).map fun w => (w - s.now, (lookF s.fly w).getD 0)
theorem airS_swap (s : HS) : (airS s).map (fun p => (p.2, p.1)) = airF s := by
  unfold airS airF keysC
  rw [List.map_map, List.map_map]
  refine List.map_congr_left fun k _ => ?_
  show ((lookF s.fly (s.now + (k : Int))).getD 0, s.now + (k : Int) - s.now) = _
  rw [show s.now + (k : Int) - s.now = (k : Int) by omega]
theorem airS_perm {s : HS} (I : HInv s) : (airS s).Perm (itemF s) := by
  have hp : (keysC s).Perm (s.fly.map (·.1)) := (List.perm_ext_iff_of_nodup (List.Pairwise.imp (fun h => by omega) (keysC_sorted s)) I.nd).mpr fun a => keysC_mem I a
  have z := hp.map fun w => (w - s.now, (lookF s.fly w).getD 0)
  have e : (s.fly.map (·.1)).map (fun w => (w - s.now, (lookF s.fly w).getD 0)) = itemF s := by
    unfold itemF
    rw [List.map_map]
    refine List.map_congr_left fun p hp => ?_
    show (p.1 - s.now, (lookF s.fly p.1).getD 0) = _
    rw [look_of I.nd (w := p.1) (x := p.2) hp]
    rfl
  rw [e] at z
  exact z
theorem airS_sorted (s : HS) : ((airS s).map (·.1)).Pairwise (· < ·) := by
  unfold airS
  rw [List.map_map, List.pairwise_map]
  refine List.Pairwise.imp (fun h => ?_) (keysC_sorted s)
  show _ - s.now < _ - s.now
  omega
theorem sorted_air {s : HS} (I : HInv s) {L : List (Int × Int)} (hp : L.Perm (itemF s)) (hs : L.Pairwise fun x y => SrtO.lexB y x = false) : L = airS s := by
  have hpA := hp.trans (airS_perm I).symm
  have ndA : ((airS s).map (·.1)).Nodup := List.Pairwise.imp (fun h => by omega) (airS_sorted s)
  have ndL : (L.map (·.1)).Nodup := (hpA.map (·.1)).nodup_iff.mpr ndA
  have sL : (L.map (·.1)).Pairwise (· < ·) := by
    have h1 : (L.map (·.1)).Pairwise (· ≤ ·) := by
      rw [List.pairwise_map]
      refine List.Pairwise.imp (fun {a b} h => ?_) hs
      have := SrtO.lexB_no.mp h
      omega
    exact List.Pairwise.imp (fun ⟨h1, h2⟩ => by omega) (List.Pairwise.and h1 ndL)
  have hf : L.map (·.1) = (airS s).map (·.1) := sorted_ext sL (airS_sorted s) fun a => (hpA.map (·.1)).mem_iff
  apply List.ext_getElem (by have := congrArg List.length hf; rw [List.length_map, List.length_map] at this; exact this)
  intro i h1 h2
  have e1 : (L.map (·.1))[i]? = ((airS s).map (·.1))[i]? := by rw [hf]
  rw [List.getElem?_map, List.getElem?_map, List.getElem?_eq_getElem h1, List.getElem?_eq_getElem h2] at e1
  have e1 : L[i].1 = (airS s)[i].1 := Option.some.inj e1
  have m1 : (L[i].1, L[i].2) ∈ airS s := hpA.mem_iff.mp (List.getElem_mem h1)
  have m2 : (L[i].1, (airS s)[i].2) ∈ airS s := by
    rw [e1]
    exact List.getElem_mem h2
  exact Prod.ext e1 (nodup_fst ndA m1 m2)
def sp_k12_l_stands (K : PySem.W.Frag) (c : Cs) : Sp := fun vs H Q _ => ∃ a f n p s nts m ap pp rp at_, vs = [.ref a, .ref m] ∧ HallAt K c.hall H a f n p s nts ∧ ModO K H m ap pp rp s at_ ∧ HInv s ∧ RetV (.bl true) H Q
/-- _law_stands: slots _law_hall, _law_model_here, _law_air, _law_found, _law_when, _law_thing, _law_wait -/
def t_k12_l_stands (K : PySem.W.Frag) (c : Cs) (E : XK) : TS :=
  (tSeq (tAsg (tCB (rSortedPO K) (tCons (tLockE (tLc (iItems (tDGet (tVar 1) (tC (.str "air")))) (gTup K 2 (gCons (gName 4) (gCons (gName 5) gNil))) tYes (tTup (tCons (tOp xSub (tVar 4) (tDGet (tVar 1) (tC (.str "turn")))) (tCons (tVar 5) tNil))) [4, 5])) tNil)) (gName 2))
  (tSeq (tAsg (tMeth c.hall "air" (sp_h_air K c) [] E0 (tVar 0) tNil) (gName 3))
  (tSeq (tIfS (tOr (tTest (tOp (xNe K) (tVar 3) (tLc (iSeq K (tVar 2)) (gTup K 2 (gCons (gName 6) (gCons (gName 5) gNil))) tYes (tTup (tCons (tVar 5) (tCons (tVar 6) tNil))) [6, 5]))) (tTest (tOp (xNe K) (tMeth c.hall "turn" (sp_h_turn K c) [] E0 (tVar 0) tNil) (tDGet (tVar 1) (tC (.str "turn")))))) (tRet (tC (.bl false))) tNext)
  (tSeq (tDrop (tBM K "list" rAppend (tVar 3) (tCons (tC (.int 0)) tNil)))
  (tRet (tOp (xEq K) (tMeth c.hall "state" (sp_h_state K c) [] E0 (tVar 0) tNil) (tCall (sp_k12_l_state K c) [] E0 (tCons (tVar 1) tNil))))))))

section
variable {K : PySem.W.Frag} {c : Cs} {vs : List V} {H : Hp} {Q : VK} {E : XK}
theorem ev_k12_state {σ : L2.St} {ta : TE} {m ap pp rp : Addr} {s : HS} {at_ : Int} (ha : Ev ta σ H (.ref m)) (hM : ModO K H m ap pp rp s at_) (I : HInv s) : Ev (tCall (sp_k12_l_state K c) [] E (tCons ta tNil)) σ H (.int s.bits) := fun H1 e1 Q q =>
  ha H1 e1 _ fun H2 e2 => ⟨m, ap, pp, rp, s, at_, rfl, hM.ex (e1.trans e2), I, fun H3 e3 => q H3 (e2.trans e3)⟩
theorem evd_p2 {σ : L2.St} {ta : TE} {ps : List (Int × Int)} (h : EvP2 ta σ H ps) : EvD K ta σ H (.list (ps.map dP)) := fun H1 e1 Q q =>
  h H1 e1 _ fun l xs H2 hl e2 h2 hp => q _ H2 e2 (.lst (SqL.of h2) (dpa_ex ex_del (pairs_dp hp)))
theorem pure_k12_l_stands (h : sp_k12_l_stands K c vs H Q E) : t_k12_l_stands K c E { nx := fun _ H' => Q .non H', rt := Q } (start ["_law_hall", "_law_model_here", "_law_air", "_law_found", "_law_when", "_law_thing", "_law_wait"] vs) H := by
  obtain ⟨a, f, n, p, s, nts, m, ap, pp, rp, at_, rfl, hA, hM, I, q⟩ := h
  have hl9 : s.fly.length ≤ 9 := by rw [I.many]; exact pcI_le _
  have hfl : (flyK s.fly).length = s.fly.length := by unfold flyK; rw [List.length_map]
  have items : EvP2 (tLockE (tLc (iItems (tDGet (tVar 1) (tC (.str "air")))) (gTup K 2 (gCons (gName 4) (gCons (gName 5) gNil))) tYes (tTup (tCons (tOp xSub (tVar 4) (tDGet (tVar 1) (tC (.str "turn")))) (tCons (tVar 5) tNil))) [4, 5])) (start ["_law_hall", "_law_model_here", "_law_air", "_law_found", "_law_when", "_law_thing", "_law_wait"] [V.ref a, .ref m]) H (itemF s) := by
    have z := ep_lock (σ := start ["_law_hall", "_law_model_here", "_law_air", "_law_found", "_law_when", "_law_thing", "_law_wait"] [V.ref a, .ref m]) (ps := (List.range (flyK s.fly).length).map fun i => ((s.fly.getD i (0, 0)).1 - s.now, (s.fly.getD i (0, 0)).2)) (t := tLc (iItems (tDGet (tVar 1) (tC (.str "air")))) (gTup K 2 (gCons (gName 4) (gCons (gName 5) gNil))) tYes (tTup (tCons (tOp xSub (tVar 4) (tDGet (tVar 1) (tC (.str "turn")))) (tCons (tVar 5) tNil))) [4, 5]) hM.hA fun H1 od e1 => by
      have hm1 : (upd H1 ap (.frz od (.dK (flyK s.fly)))) m = some (.dK (mFs s.now pp rp at_ ap)) := (upd_ne hM.ma).trans (e1 _ _ hM.hm)
      refine ep_itemsI (fun i => ((s.fly.getD i (0, 0)).1 - s.now, (s.fly.getD i (0, 0)).2)) (ev_dget (k := kA) (ev_var (i := 1) rfl) ev_c hm1 val_A) upd_same (by omega) (fun x y => rfl) fun i k w H' hk e' => ?_
      unfold flyK at hk
      rw [List.getElem?_map] at hk
      obtain ⟨p, hp, e2⟩ := Option.map_eq_some_iff.mp hk
      cases e2
      have hg : s.fly.getD i (0, 0) = p := by rw [List.getD_eq_getElem?_getD, hp]; rfl
      rw [hg]
      exact eu_tup (ea_cons (ev_op (ev_var (i := 4) (v := .int p.1) rfl) (ev_dget (k := kT) (ev_var (i := 1) rfl) ev_c (e' _ _ hm1) val_T) rv_sub) (ea_cons (ev_var (i := 5) (v := .int p.2) rfl) ea_nil)) (by show 2 ≤ 100000; decide)
    have e : (List.range (flyK s.fly).length).map (fun i => ((s.fly.getD i (0, 0)).1 - s.now, (s.fly.getD i (0, 0)).2)) = itemF s := by
      rw [hfl]
      unfold itemF
      apply List.ext_getElem (by rw [List.length_map, List.length_range, List.length_map])
      intro i h1 h2
      rw [List.length_map, List.length_range] at h1
      rw [List.getElem_map, List.getElem_range, List.getElem_map, List.getD_eq_getElem?_getD, List.getElem?_eq_getElem h1]
      rfl
    rw [e] at z
    exact z
  refine (es_sorted items) H (Ex.refl _) _ fun l xs ys H0 H1 hl e1 h1 e01 hps hsrt hstb hpy => ?_
  have hys : ys.map (keyP H0) = airS s := by
    refine sorted_air I ?_ (List.pairwise_map.mpr hsrt)
    have z := hstb.perm.map (keyP H0)
    rw [keys_at hps] at z
    exact z
  rw [hys] at hpy
  have hyl : ys.length ≤ 9 := by
    rw [hpy.1, (airS_perm I).length_eq]
    unfold itemF
    rw [List.length_map]
    exact hl9
  refine (evp_air (c := c) (E := E0) (ev_var (σ := (start ["_law_hall", "_law_model_here", "_law_air", "_law_found", "_law_when", "_law_thing", "_law_wait"] [V.ref a, .ref m]).set 2 (some (.ref l))) (i := 0) rfl) (hA.ex e1) I) H1 (Ex.refl _) _ fun fl fs H2 hfl2 e2 h2 hp2 => ?_
  have e12 := e1.trans e2
  have hM2 := hM.ex e12
  have hA2 := hA.ex e12
  have comp : EvP2 (tLc (iSeq K (tVar 2)) (gTup K 2 (gCons (gName 6) (gCons (gName 5) gNil))) tYes (tTup (tCons (tVar 5) (tCons (tVar 6) tNil))) [6, 5]) [some (.ref a), some (.ref m), some (.ref l), some (.ref fl), none, none, none] H2 (airF s) := by
    have z := ep_two (K := K) (σ := [some (.ref a), some (.ref m), some (.ref l), some (.ref fl), none, none, none]) (H := H2) (te := tTup (tCons (tVar 5) (tCons (tVar 6) tNil))) (tl := tVar 2) (i1 := 6) (i2 := 5) (ws := [6, 5]) (ps := airS s) (fun i => (((airS s).getD i (0, 0)).2, ((airS s).getD i (0, 0)).1)) (ev_var (i := 2) rfl) (SqL.of (e2 _ _ h1)) (pairs_ex e2 hpy) (by omega) (fun x y => rfl) fun i p H' hp e' => by
      have hg : (airS s).getD i (0, 0) = p := by rw [List.getD_eq_getElem?_getD, hp]; rfl
      rw [hg]
      exact eu_tup (ea_cons (ev_var (i := 5) (v := .int p.2) rfl) (ea_cons (ev_var (i := 6) (v := .int p.1) rfl) ea_nil)) (by show 2 ≤ 100000; decide)
    have e : (List.range ys.length).map (fun i => (((airS s).getD i (0, 0)).2, ((airS s).getD i (0, 0)).1)) = airF s := by
      rw [← airS_swap, hpy.1]
      apply List.ext_getElem (by rw [List.length_map, List.length_range, List.length_map])
      intro i h1 h2
      rw [List.length_map, List.length_range] at h1
      rw [List.getElem_map, List.getElem_range, List.getElem_map, List.getD_eq_getElem?_getD, List.getElem?_eq_getElem h1]
      rfl
    rw [e] at z
    exact z
  have fl_ : Flat 2 (.list ((airF s).map dP)) := flat_list fun d hd => by
    obtain ⟨p, _, rfl⟩ := List.mem_map.mp hd
    exact flat_dP p
  refine q_when (b := false) (et_is (et_or (a := false) (et_is (et_test (ev_neD (evd_l (evs_of (ev_var (i := 3) rfl) (SqL.of h2)) (dpa_ex ex_del (pairs_dp hp2))) (evd_p2 comp) (fl_.shaped (by decide)) (fl_.shaped (by decide)))) (by rw [fl_.refl]; rfl)) fun _ => et_is (et_test (ev_op (ev_turn (c := c) (ev_var (i := 0) rfl) hA2 I) (ev_mT (ev_var (i := 1) rfl) hM2) rv_neI)) (by simp)) rfl) (fun z => nomatch z) fun _ H3 e3 => ?_
  have e13 := e12.trans e3
  refine q_app (l := fl) (xs := fs) (v := .int 0) (e3 _ _ h2) (ev_var (i := 3) rfl) ev_c (by rw [hp2.1]; have := (airS_perm I).length_eq; rw [← airS_swap, List.length_map, this]; unfold itemF; rw [List.length_map]; omega) fun H4 e4 => ?_
  have e14 : Ex H (upd H4 fl (.lst (fs ++ [.int 0]))) := Ex.mut ((e13.trans e4)) (fresh_of e1 hfl2)
  refine s_ret (v := .bl true) (ev_is (ev_op (ev_state (c := c) (ev_var (i := 0) rfl) (hA.ex e14) I) (ev_k12_state (ev_var (i := 1) rfl) (hM.ex e14) I) rv_eqI) (by simp)) fun H5 e5 => q H5 (e14.trans e5)
end
end Tr

/-! Law k12: a change told. -/
namespace Tr
open PySem L2 PySem.Spec PyProof.Rows Evl LamX

def tabs (c : Cs) : List (Addr × Str) := [(c.f_turned, "_law_changed.<locals>.<lambda>"), (c.f_repeated, "_law_ahead.<locals>.<lambda>")]
theorem tabs_k12_l_changed {c : Cs} : (c.f_turned, ("_law_changed.<locals>.<lambda>" : Str)) ∈ tabs c := List.mem_cons_self
theorem tabs_k12_l_ahead {c : Cs} : (c.f_repeated, ("_law_ahead.<locals>.<lambda>" : Str)) ∈ tabs c := List.mem_cons_of_mem _ List.mem_cons_self
theorem tabsu_k12_l_changed {c : Cs} (h : c.f_turned ≠ c.f_repeated) : ∀ p ∈ tabs c, p.1 = c.f_turned → p.2 = ("_law_changed.<locals>.<lambda>" : Str) := fun p hp e => by
  simp only [tabs, List.mem_cons, List.not_mem_nil, or_false] at hp
  rcases hp with rfl | rfl
  · rfl
  · exact absurd e.symm h
theorem tabsu_k12_l_ahead {c : Cs} (h : c.f_turned ≠ c.f_repeated) : ∀ p ∈ tabs c, p.1 = c.f_repeated → p.2 = ("_law_ahead.<locals>.<lambda>" : Str) := fun p hp e => by
  simp only [tabs, List.mem_cons, List.not_mem_nil, or_false] at hp
  rcases hp with rfl | rfl
  · exact absurd e h
  · rfl
structure Ex12 (K : PySem.W.Frag) (c : Cs) : Prop where
  rr : PySem.W.exmOne K (.ref c.norow) (.ref c.norow) = some true
  cr : PySem.W.exmOne K (.ref c.clash) (.ref c.norow) = some false
  cc : PySem.W.exmOne K (.ref c.clash) (.ref c.clash) = some true
  wr : PySem.W.exmOne K (.ref c.noway) (.ref c.norow) = some false
  wc : PySem.W.exmOne K (.ref c.noway) (.ref c.clash) = some false
  ww : PySem.W.exmOne K (.ref c.noway) (.ref c.noway) = some true
  tr : PySem.W.exmOne K (.ref c.noturn) (.ref c.norow) = some false
  tc : PySem.W.exmOne K (.ref c.noturn) (.ref c.clash) = some false
  tw : PySem.W.exmOne K (.ref c.noturn) (.ref c.noway) = some false
  tt : PySem.W.exmOne K (.ref c.noturn) (.ref c.noturn) = some true
/-- nothing but a table may stand there -/
def NewT (H : Hp) (b : Addr) : Prop := ∀ u, H b = some u → NoTab u → False
theorem NewT.of {H : Hp} {b : Addr} (h : H b = none) : NewT H b := fun u hu _ => by
  rw [h] at hu
  cases hu
theorem NewT.back {W : List Addr} {H H1 : Hp} {b : Addr} (hb : NewT H1 b) (M : MutT W H H1) (hW : ∀ x ∈ W, ∃ u, H1 x = some u ∧ NoTab u) : NewT H b := fun u hu hn => by
  by_cases hm : b ∈ W
  · obtain ⟨v, hv, hn'⟩ := hW b hm
    exact hb v hv hn'
  · exact hb u (M b u hu hn (.inl hm)) hn
theorem NewT.ne {H : Hp} {b d : Addr} {u : HO} (hb : NewT H b) (hd : H d = some u) (hn : NoTab u) : d ≠ b := fun z => by
  rw [z] at hd
  exact hb u hd hn
/-- hall and model have nothing in common -/
structure Apt (f n p m ap pp rp : Addr) : Prop where
  np : n ≠ pp
  nr : n ≠ rp
  fm : f ≠ m
  fa : f ≠ ap
  ppp : p ≠ pp
def sp_k12_l_changed (K : PySem.W.Frag) (c : Cs) : Sp := fun vs H Q _ => ∃ a f n p s nts m ap pp rp at_ cell, vs = [.ref a, .ref m, .int cell] ∧ HallAt K c.hall H a f n p s nts ∧ ModO K H m ap pp rp s at_ ∧ HInv s ∧ Tabs (tabs c) H ∧ nts.length < 90000 ∧ 0 ≤ cell ∧ Apt f n p m ap pp rp ∧
  ∀ p' pp' rp' s' nts' at' H2, MutT [a, n, m] H H2 → Tabs (tabs c) H2 → (p' = p ∨ NewT H p') → (pp' = pp ∨ NewT H pp') → (rp' = rp ∨ NewT H rp') → HallAt K c.hall H2 a f n p' s' nts' → ModO K H2 m ap pp' rp' s' at' → HInv s' → nts'.length ≤ nts.length + 1 → Apt f n p' m ap pp' rp' → Q (.bl true) H2
/-- _law_told: slots _law_work, _law_found -/
def t_k12_l_told (K : PySem.W.Frag) (c : Cs) (E : XK) (tl : XK → Hp → VK → Prop) : TS :=
  (tSeq (tAsg (tC .non) (gName 1))
  (tSeq (fun D σ H => (fun W => (tAsg (fun σZ HZ Q => tl (WE W σZ) HZ Q) (gName 1))) (wMany K (fun _ _ _ _ => False) D [((.ref c.norow), fun a cls d => (tAsg (tC (.str "row")) (gName 1))), ((.ref c.clash), fun a cls d => (tAsg (tC (.str "clash")) (gName 1))), ((.ref c.noway), fun a cls d => (tAsg (tC (.str "way")) (gName 1))), ((.ref c.noturn), fun a cls d => (tAsg (tC (.str "turn")) (gName 1)))]) D σ H)
  (tRet (tVar 1))))

def TT12 (K : PySem.W.Frag) (c : Cs) : (XK → Hp → VK → Prop) → Hp → VK → Prop := fun tl H Q => ∀ f : Addr, t_k12_l_told K c E0 tl { nx := fun _ H' => Q .non H', rt := Q } (start ["_law_work", "_law_found"] [.ref f]) H
/-- _law_changed: slots _law_hall, _law_model_here, _law_cell, _law_many, _law_due, _law_row -/
def t_k12_l_changed (K : PySem.W.Frag) (c : Cs) (E : XK) : TS :=
  (tSeq (tAsg (tCall (sp_l_going K c) [] E0 (tCons (tOp (xAdd K) (tOp (xMul K) (tOp xDiv (tVar 2) (tC (.int 10))) (tC (.int 10))) (tOp xMod (tOp (rIx K) (tLst (tCons (tOp (rIx K) (tDGet (tVar 1) (tC (.str "row"))) (tC (.int 0))) (tCons (tVar 2) tNil))) (tOp xMod (tOp xDiv (tVar 2) (tC (.int 7))) (tC (.int 2)))) (tC (.int 10)))) (tCons (tOp (xAdd K) (tC (.int 1)) (tOp xMod (tOp xDiv (tVar 2) (tC (.int 10))) (tC (.int 9)))) tNil))) (gName 5))
  (tSeq (tAsg (tCB (cLen K) (tCons (tDGet (tVar 1) (tC (.str "air"))) tNil)) (gName 3))
  (tSeq (tIfS (tTest (tOp xGt (tOp xMod (tOp xDiv (tVar 2) (tC (.int 3))) (tC (.int 4))) (tC (.int 0)))) (tAsg (tCall (sp_l_going K c) [] E0 (tCons (tOp (xAdd K) (tOp (xMul K) (tOp xDiv (tVar 2) (tC (.int 10))) (tC (.int 10))) (tVar 3)) (tCons (tOp (xAdd K) (tC (.int 1)) (tOp xMod (tOp xDiv (tVar 2) (tC (.int 10))) (tC (.int 9)))) tNil))) (gName 5)) tNext)
  (tSeq (tIfS (tTest (tOp (xEq K) (tOp xMod (tOp xDiv (tVar 2) (tC (.int 13))) (tC (.int 9))) (tC (.int 1)))) (tAsg (tOp (rIx K) (tLst (tCons (tLst tNil) (tCons (tLst (tCons (tC (.int 10)) tNil)) (tCons (tLst (tCons (tC (.int 5)) (tCons (tC (.int 4)) tNil))) (tCons (tTup (tCons (tC (.int 3)) (tCons (tC (.int 2)) tNil))) (tCons (tC .non) tNil)))))) (tOp xMod (tOp xDiv (tVar 2) (tC (.int 117))) (tC (.int 5)))) (gName 5)) tNext)
  (tSeq (tAsg (tC (.str "row")) (gName 4))
  (tSeq (tIfS (tTest (tOp (rInD K) (tVar 5) (tLst (tCons (tLst (tCons (tC (.int 5)) (tCons (tC (.int 4)) tNil))) (tCons (tTup (tCons (tC (.int 3)) (tCons (tC (.int 2)) tNil))) tNil))))) (tAsg (tC (.str "clash")) (gName 4)) (tIfS (tTest (tOp (rNotInD K) (tVar 5) (tLst (tCons (tLst tNil) (tCons (tLst (tCons (tC (.int 10)) tNil)) (tCons (tC .non) tNil)))))) (tAsg (tOp (rIx K) (tLst (tCons (tC .non) (tCons (tC (.str "way")) tNil))) (tCB cInt (tCons (tOp (xNe K) (tCall (sp_things K c) [] E0 (tCons (tVar 5) tNil)) (tVar 3)) tNil))) (gName 4)) tNext))
  (tSeq (tIfS (tTest (tOp (xNe K) (tLam (tabs c) (TT12 K c) (fun E => (tMeth c.hall "change" (sp_h_change K c) [] E (tVar 0) (tCons (tVar 5) tNil)))) (tVar 4))) (tRet (tC (.bl false))) tNext)
  (tSeq (tIfS (tTest (tOp xIsN (tVar 4) (tC .non))) (tSeq (sDPut (tVar 1) (tC (.str "path")) (tCall (sp_way K c) [] E0 (tCons (tCall (sp_k12_l_state K c) [] E0 (tCons (tVar 1) tNil)) (tCons (tCall (sp_state_at K c) [.int 0] E0 (tCons (tVar 5) tNil)) tNil))))
  (tSeq (sDPut (tVar 1) (tC (.str "row")) (tCB (cList K) (tCons (tVar 5) tNil)))
  (tSeq (sDPut (tVar 1) (tC (.str "at")) (tC (.int 0)))
  (tDrop (tBM0 K "list" rClear (tVar 5)))))) tNext)
  (tRet (tC (.bl true)))))))))))

/-- a part of _law_changed: slots _law_hall, _law_model_here, _law_cell, _law_many, _law_due, _law_row -/
def t_k12_l_changed_4_ (K : PySem.W.Frag) (c : Cs) (E : XK) : TS :=
  (tSeq (tAsg (tC (.str "row")) (gName 4))
  (tSeq (tIfS (tTest (tOp (rInD K) (tVar 5) (tLst (tCons (tLst (tCons (tC (.int 5)) (tCons (tC (.int 4)) tNil))) (tCons (tTup (tCons (tC (.int 3)) (tCons (tC (.int 2)) tNil))) tNil))))) (tAsg (tC (.str "clash")) (gName 4)) (tIfS (tTest (tOp (rNotInD K) (tVar 5) (tLst (tCons (tLst tNil) (tCons (tLst (tCons (tC (.int 10)) tNil)) (tCons (tC .non) tNil)))))) (tAsg (tOp (rIx K) (tLst (tCons (tC .non) (tCons (tC (.str "way")) tNil))) (tCB cInt (tCons (tOp (xNe K) (tCall (sp_things K c) [] E0 (tCons (tVar 5) tNil)) (tVar 3)) tNil))) (gName 4)) tNext))
  (tSeq (tIfS (tTest (tOp (xNe K) (tLam (tabs c) (TT12 K c) (fun E => (tMeth c.hall "change" (sp_h_change K c) [] E (tVar 0) (tCons (tVar 5) tNil)))) (tVar 4))) (tRet (tC (.bl false))) tNext)
  (tSeq (tIfS (tTest (tOp xIsN (tVar 4) (tC .non))) (tSeq (sDPut (tVar 1) (tC (.str "path")) (tCall (sp_way K c) [] E0 (tCons (tCall (sp_k12_l_state K c) [] E0 (tCons (tVar 1) tNil)) (tCons (tCall (sp_state_at K c) [.int 0] E0 (tCons (tVar 5) tNil)) tNil))))
  (tSeq (sDPut (tVar 1) (tC (.str "row")) (tCB (cList K) (tCons (tVar 5) tNil)))
  (tSeq (sDPut (tVar 1) (tC (.str "at")) (tC (.int 0)))
  (tDrop (tBM0 K "list" rClear (tVar 5)))))) tNext)
  (tRet (tC (.bl true)))))))

/-- a row drawn, or an odd one -/
inductive RowK (H0 : Hp) (v : V) (H : Hp) : Prop
  | good (r : Addr) (F : List Int) (e : v = .ref r) (h0 : H0 r = none) (h : H r = some (.lst (F.map V.int))) (hg : Good F) (hc : clashF F = none)
  | nil (r : Addr) (e : v = .ref r) (h : H r = some (.lst []))
  | ten (r : Addr) (e : v = .ref r) (h : H r = some (.lst [.int 10]))
  | non (e : v = .non)
  | c54 (r : Addr) (e : v = .ref r) (h : H r = some (.lst [.int 5, .int 4]))
  | c32 (r : Addr) (e : v = .ref r) (h : H r = some (.tup [.int 3, .int 2]))
theorem rowK_mon {H0 : Hp} : Mon (RowK H0) := fun v H H' e h => by
  cases h with
  | good r F e1 h0 h hg hc => exact .good r F e1 h0 (e _ _ h) hg hc
  | nil r e1 h => exact .nil r e1 (e _ _ h)
  | ten r e1 h => exact .ten r e1 (e _ _ h)
  | non e1 => exact .non e1
  | c54 r e1 h => exact .c54 r e1 (e _ _ h)
  | c32 r e1 h => exact .c32 r e1 (e _ _ h)
section
variable {K : PySem.W.Frag} {c : Cs} {vs : List V} {H : Hp} {Q : VK} {E : XK}
def d54 : PyData := .list [.int 5, .int 4]
def d32 : PyData := .tuple [.int 3, .int 2]
theorem evd_54 {σ : L2.St} : EvD K (tLst (tCons (tC (.int 5)) (tCons (tC (.int 4)) tNil))) σ H d54 := evd_l (evs_new (el_lst (ea_cons ev_c (ea_cons ev_c ea_nil)) (by show 2 ≤ 100000; decide))) (.cons (.int _) (.cons (.int _) .nil))
theorem evd_32 {σ : L2.St} : EvD K (tTup (tCons (tC (.int 3)) (tCons (tC (.int 2)) tNil))) σ H d32 := evd_w (evw_new (eu_tup (ea_cons ev_c (ea_cons ev_c ea_nil)) (by show 2 ≤ 100000; decide))) (.cons (.int _) (.cons (.int _) .nil))
theorem evd_lst {σ : L2.St} {ta : TA} {ds : List PyData} (h : EdA K ta σ H ds) (hl : ds.length ≤ 100000) : EvD K (tLst ta) σ H (.list ds) := fun H1 e Q q =>
  h H1 e _ fun vs H2 e2 r => ⟨sz_of (by rw [dpa_length r]; exact hl), fun p hp => q _ _ (e2.trans (Ex.new hp)) (.lst (SqL.of upd_same) (dpa_ex (Ex.new hp) r))⟩
theorem ev_inDD {σ : L2.St} {ta tb : TE} {d : PyData} {ds : List PyData} (ha : EvD K ta σ H d) (hb : EvD K tb σ H (.list ds)) (hd : SeqAt.shaped d = true) (hs : SeqAt.shaped (.list ds) = true) : Ev (tOp (rInD K) ta tb) σ H (.bl (ds.any fun z => PyData.eqv z d)) := fun H1 e Q q =>
  ha H1 e _ fun v H2 e2 hv => hb H2 (e.trans e2) _ fun w H3 e3 hw => ⟨d, ds, dp_ex e3 hv, hw, hd, hs, q H3 (e2.trans e3)⟩
theorem ev_ninDD {σ : L2.St} {ta tb : TE} {d : PyData} {ds : List PyData} (ha : EvD K ta σ H d) (hb : EvD K tb σ H (.list ds)) (hd : SeqAt.shaped d = true) (hs : SeqAt.shaped (.list ds) = true) : Ev (tOp (rNotInD K) ta tb) σ H (.bl (!ds.any fun z => PyData.eqv z d)) := fun H1 e Q q =>
  ha H1 e _ fun v H2 e2 hv => hb H2 (e.trans e2) _ fun w H3 e3 hw => ⟨d, ds, dp_ex e3 hv, hw, hd, hs, q H3 (e2.trans e3)⟩
theorem flat_54 : Flat 1 d54 := flat_list fun d hd => by
  simp only [List.mem_cons, List.not_mem_nil, or_false] at hd
  rcases hd with rfl | rfl <;> exact flat_int
theorem flat_32 : Flat 1 d32 := flat_tuple fun d hd => by
  simp only [List.mem_cons, List.not_mem_nil, or_false] at hd
  rcases hd with rfl | rfl <;> exact flat_int
theorem flat_10 : Flat 1 (.list [.int 10]) := flat_list fun d hd => by
  rw [List.mem_singleton.mp hd]
  exact flat_int
theorem flat_nil : Flat 1 (.list []) := flat_list fun d hd => absurd hd List.not_mem_nil
theorem flat_ones : Flat 2 (.list [d54, d32]) := flat_list fun d hd => by
  simp only [List.mem_cons, List.not_mem_nil, or_false] at hd
  rcases hd with rfl | rfl
  · exact flat_54
  · exact flat_32
theorem flat_nones : Flat 2 (.list [.list [], .list [.int 10], .none]) := flat_list fun d hd => by
  simp only [List.mem_cons, List.not_mem_nil, or_false] at hd
  rcases hd with rfl | rfl | rfl
  · exact flat_nil
  · exact flat_10
  · exact flat_non.mono (by decide)
theorem evd_ones {σ : L2.St} : EvD K (tLst (tCons (tLst (tCons (tC (.int 5)) (tCons (tC (.int 4)) tNil))) (tCons (tTup (tCons (tC (.int 3)) (tCons (tC (.int 2)) tNil))) tNil))) σ H (.list [d54, d32]) := evd_lst (eda_cons evd_54 (eda_cons evd_32 eda_nil)) (by show 2 ≤ 100000; decide)
theorem evd_nones {σ : L2.St} : EvD K (tLst (tCons (tLst tNil) (tCons (tLst (tCons (tC (.int 10)) tNil)) (tCons (tC .non) tNil)))) σ H (.list [.list [], .list [.int 10], .none]) := evd_lst (eda_cons (evd_lst eda_nil (by show 0 ≤ 100000; decide)) (eda_cons (evd_lst (eda_cons (evd_of' ev_c) eda_nil) (by show 1 ≤ 100000; decide)) (eda_cons (evd_of ev_c .non) eda_nil))) (by show 3 ≤ 100000; decide)
/-- which it is, by what is asked of it -/
theorem is_one {F : List Int} (hg : Good F) (hc : clashF F = none) : ([d54, d32].any fun z => PyData.eqv z (.list (F.map .int))) = false := by
  have h1 : PyData.eqv d54 (.list (F.map .int)) = false := by
    show PyData.eqv (.list (([5, 4] : List Int).map .int)) (.list (F.map .int)) = false
    rw [eqv_ints]
    refine decide_eq_false fun z => ?_
    rw [← z] at hc
    exact absurd hc (by decide)
  have h2 : PyData.eqv d32 (.list (F.map .int)) = false := by simp [d32, PyData.eqv]
  simp [h1, h2]
theorem is_none {F : List Int} (hg : Good F) : ([PyData.list [], .list [.int 10], .none].any fun z => PyData.eqv z (.list (F.map .int))) = false := by
  have h1 : PyData.eqv (.list []) (.list (F.map .int)) = false := by
    show PyData.eqv (.list (([] : List Int).map .int)) (.list (F.map .int)) = false
    rw [eqv_ints]
    refine decide_eq_false fun z => ?_
    have := hg.1
    rw [← z] at this
    exact absurd this (by decide)
  have h2 : PyData.eqv (.list [.int 10]) (.list (F.map .int)) = false := by
    show PyData.eqv (.list (([10] : List Int).map .int)) (.list (F.map .int)) = false
    rw [eqv_ints]
    refine decide_eq_false fun z => ?_
    have := (hg.2.2 10 (by rw [← z]; simp)).2
    omega
  have h3 : PyData.eqv .none (.list (F.map .int)) = false := by simp [PyData.eqv]
  simp [h1, h2, h3]
end
end Tr

/-! Law k12: a change told, and done to the model. -/
namespace Tr
open PySem L2 PySem.Spec PyProof.Rows Evl LamX

section
variable {K : PySem.W.Frag} {c : Cs} {vs : List V} {H : Hp} {Q : VK} {E : XK} {σ : L2.St} {D : Ends} {tz : TS}
theorem HallAt.nx {a f n p : Addr} {s : HS} {nts : List Note} {H1 : Hp} (e : ExtN H H1) (h : HallAt K c.hall H a f n p s nts) : HallAt K c.hall H1 a f n p s nts := h.mutT (MutT.ofN (W := []) e) List.not_mem_nil List.not_mem_nil List.not_mem_nil List.not_mem_nil
theorem ModO.nx {m ap pp rp : Addr} {s : HS} {at_ : Int} {H1 : Hp} (e : ExtN H H1) (h : ModO K H m ap pp rp s at_) : ModO K H1 m ap pp rp s at_ := h.mutT (MutT.ofN (W := []) e) List.not_mem_nil List.not_mem_nil List.not_mem_nil List.not_mem_nil
theorem mutT_drop {W : List Addr} {H1 : Hp} {r : Addr} (m : MutT (r :: W) H H1) (h : H r = none) : MutT W H H1 := fun b o hb n k => m b o hb n (k.imp (fun z hm => by
  rcases List.mem_cons.mp hm with e | hm
  · rw [e, h] at hb
    cases hb
  · exact z hm) id)
theorem told_end {R : Bool → Hp → Prop} {nxx : L2.St → Hp → Prop} {w due : V} {f0 : V} {H8 : Hp} (hw : w = due) (hs : scal due due = true) (h4 : σ[4]? = some (some due)) (k : R false H8) :
    (tRet (tVar 1)) { nx := nxx, rt := fun x H1 => (tVar 4) σ H1 fun y H2 => xNe K x y H2 fun x H' => ∃ k, x = V.bl k ∧ R k H' } [some f0, some w] H8 := by
  subst hw
  exact ⟨w, rfl, w, h4, .inl ⟨hs, _, rfl, by simp; exact k⟩⟩
theorem told_change {a f n p : Addr} {s : HS} {nts : List Note} {v due : V} (N : Ex12 K c) (h0 : σ[0]? = some (some (.ref a))) (h5 : σ[5]? = some (some v)) (h4 : σ[4]? = some (some due)) (hT : Tabs (tabs c) H) (hA : HallAt K c.hall H a f n p s nts) (I : HInv s) (hlen : nts.length < 90000)
    (k : ∀ H7, ExtN H H7 → Tabs (tabs c) H7 → (Bad K H7 v ∧ due = .str "row" ∧ ∀ H8, Ex H7 H8 → tz D σ H8) ∨
      ∃ ns, Row K H7 v ns ∧ Good ns ∧ ((clashF ns ≠ none ∧ due = .str "clash" ∧ ∀ H8, Ex H7 H8 → tz D σ H8) ∨ (clashF ns = none ∧ ((pcI (upS ns) ≠ pcI s.bits ∧ due = .str "way" ∧ ∀ H8, Ex H7 H8 → tz D σ H8) ∨
        (pcI (upS ns) = pcI s.bits ∧ due = .non ∧ ∀ p2 H8, Mut [a, n] H7 H8 → H7 p2 = none → HallAt K c.hall H8 a f n p2 (changeS s ns) (nts ++ [.chg ns]) → tz D σ H8))))) :
    tSeq (tIfS (tTest (tOp (xNe K) (tLam (tabs c) (TT12 K c) (fun E => (tMeth c.hall "change" (sp_h_change K c) [] E (tVar 0) (tCons (tVar 5) tNil)))) (tVar 4))) (tRet (tC (.bl false))) tNext) tz D σ H := by
  refine ⟨hT, fun H7 eN t7 f0 => ?_⟩
  obtain ⟨dx, t, ws, o, w⟩ := hA.nx eN
  refine ⟨.ref a, h0, a, dx, _, rfl, o.ha, rfl, v, h5, .ref a, v, rfl, a, f, n, p, s, nts, rfl, ⟨dx, t, ws, o, w⟩, I, hlen, ?_⟩
  rcases k H7 eN t7 with ⟨hb, rfl, q⟩ | ⟨ns, hr, hg, ⟨hc, rfl, q⟩ | ⟨hc, ⟨hne, rfl, q⟩ | ⟨he, rfl, q⟩⟩⟩
  · exact .inl ⟨hb, fun H8 e8 => told_many N.rr (fun _ _ _ => s_asgH (told_end rfl rfl h4 (q H8 e8))) (fun z => nomatch z)⟩
  · cases hcl : clashF ns with
    | none => exact absurd hcl hc
    | some ij =>
      obtain ⟨i, j⟩ := ij
      exact .inr ⟨ns, hr, hg, .inl ⟨i, j, hcl, fun d H8 hd e8 h8 => told_many N.cr (fun z => nomatch z) fun _ => told_many N.cc (fun _ _ _ => s_asgH (told_end rfl rfl h4 (q H8 e8))) (fun z => nomatch z)⟩⟩
  · exact .inr ⟨ns, hr, hg, .inr ⟨hc, .inl ⟨hne, fun H8 e8 => told_many N.wr (fun z => nomatch z) fun _ => told_many N.wc (fun z => nomatch z) fun _ => told_many N.ww (fun _ _ _ => s_asgH (told_end rfl rfl h4 (q H8 e8))) (fun z => nomatch z)⟩⟩⟩
  · exact .inr ⟨ns, hr, hg, .inr ⟨hc, .inr ⟨he, fun p2 H8 m8 hp2 hA8 => told_end rfl rfl h4 (q p2 H8 m8 hp2 hA8)⟩⟩⟩
theorem s_dputL {te td ty : TE} {a : Addr} {kvs : List (Key × V)} {k : Key} {xs : List V} (hv : EvL te σ H xs) (hd : ∀ H1, Ex H H1 → Ev td σ H1 (.ref a)) (hk : ∀ H1, Ex H H1 → Ev ty σ H1 (kV k)) (ha : H a = some (.dK kvs)) (hz : kvs.length < 100000) (q : ∀ p H1, H p = none → Ex H H1 → H1 p = some (.lst xs) → D.nx σ (upd H1 a (.dK (putK kvs k (.ref p))))) : sDPut td ty te D σ H :=
  hv H (Ex.refl H) _ fun p H1 hp e1 h1 => hd H1 e1 H1 (Ex.refl _) _ fun H2 e2 => hk H2 (e1.trans e2) H2 (Ex.refl _) _ fun H3 e3 => ⟨a, _, rfl, DPut.k (((e1.trans e2).trans e3) a _ ha) (sz_lt hz), q p H3 hp ((e1.trans e2).trans e3) ((e2.trans e3) _ _ h1)⟩
end
end Tr

/-! Law k12: changes. -/
namespace Tr
open PySem L2 PySem.Spec PyProof.Rows Evl LamX

section
variable {K : PySem.W.Frag} {c : Cs} {vs : List V} {H : Hp} {Q : VK} {E : XK}
theorem q_dput' {σ : L2.St} {D : Ends} {tz : TS} {td ty te : TE} (h : sDPut td ty te { D with nx := tz D } σ H) : tSeq (sDPut td ty te) tz D σ H := h
theorem changed_tail (N : Ex12 K c) {H0 : Hp} {a f n p m ap pp rp : Addr} {s : HS} {nts : List Note} {at_ cell many : Int} {v : V} (e0 : Ex H0 H) (hA0 : HallAt K c.hall H0 a f n p s nts) (hM0 : ModO K H0 m ap pp rp s at_) (I : HInv s) (hT : Tabs (tabs c) H) (hlen : nts.length < 90000) (A : Apt f n p m ap pp rp) (hm : many = (pcI s.bits : Int)) (hv : RowK H0 v H)
    (q : ∀ p' pp' rp' s' nts' at' H2, MutT [a, n, m] H0 H2 → Tabs (tabs c) H2 → (p' = p ∨ NewT H0 p') → (pp' = pp ∨ NewT H0 pp') → (rp' = rp ∨ NewT H0 rp') → HallAt K c.hall H2 a f n p' s' nts' → ModO K H2 m ap pp' rp' s' at' → HInv s' → nts'.length ≤ nts.length + 1 → Apt f n p' m ap pp' rp' → Q (.bl true) H2) :
    t_k12_l_changed_4_ K c E { nx := fun _ H' => Q .non H', rt := Q } [some (.ref a), some (.ref m), some (.int cell), some (.int many), none, some v] H := by
  -- nothing was changed
  have same : ∀ {H7 H8 : Hp}, ExtN H H7 → Tabs (tabs c) H7 → Ex H7 H8 → Q (.bl true) H8 := fun {H7 H8} eN t7 e8 =>
    q p pp rp s nts at_ H8 (((MutT.of (Mut.of e0)).trans (.ofN eN)).trans (.of (.of e8))) (t7.ext e8) (.inl rfl) (.inl rfl) (.inl rfl) (((hA0.ex e0).nx eN).ex e8) (((hM0.ex e0).nx eN).ex e8) I (by omega) A
  have done : ∀ {due : V} {H7 H8 : Hp}, due ≠ .non → ExtN H H7 → Tabs (tabs c) H7 → Ex H7 H8 → (tSeq (tIfS (tTest (tOp xIsN (tVar 4) (tC .non))) (tSeq (sDPut (tVar 1) (tC (.str "path")) (tCall (sp_way K c) [] E0 (tCons (tCall (sp_k12_l_state K c) [] E0 (tCons (tVar 1) tNil)) (tCons (tCall (sp_state_at K c) [.int 0] E0 (tCons (tVar 5) tNil)) tNil))))
  (tSeq (sDPut (tVar 1) (tC (.str "row")) (tCB (cList K) (tCons (tVar 5) tNil)))
  (tSeq (sDPut (tVar 1) (tC (.str "at")) (tC (.int 0)))
  (tDrop (tBM0 K "list" rClear (tVar 5)))))) tNext)
  (tRet (tC (.bl true)))) { nx := fun _ H' => Q .non H', rt := Q } [some (.ref a), some (.ref m), some (.int cell), some (.int many), some due, some v] H8 := fun {due H7 H8} hd eN t7 e8 => by
    refine q_when (b := false) (et_is (et_test (ev_op (ev_var (i := 4) rfl) ev_c rv_isN)) (decide_eq_false hd)) (fun z => nomatch z) fun _ H9 e9 => ?_
    exact s_ret (v := .bl true) ev_c fun H10 e10 => same eN t7 ((e8.trans e9).trans e10)
  refine q_asg (v := .str "row") ev_c fun H1 e1 => ?_
  have eN1 : ExtN H H1 := ExtN.of e1
  have hv1 := rowK_mon _ _ _ e1 hv
  have t1 := hT.ext e1
  have badc : ∀ (d : PyData) (k : Nat), (∀ H', Ex H1 H' → Dp K H' v d) → (∀ H', ExtN H1 H' → Bad K H' v) → Flat k d → k ≤ 64 → ([d54, d32].any fun z => PyData.eqv z d) = false → ([PyData.list [], .list [.int 10], .none].any fun z => PyData.eqv z d) = true →
      (tSeq (tIfS (tTest (tOp (rInD K) (tVar 5) (tLst (tCons (tLst (tCons (tC (.int 5)) (tCons (tC (.int 4)) tNil))) (tCons (tTup (tCons (tC (.int 3)) (tCons (tC (.int 2)) tNil))) tNil))))) (tAsg (tC (.str "clash")) (gName 4)) (tIfS (tTest (tOp (rNotInD K) (tVar 5) (tLst (tCons (tLst tNil) (tCons (tLst (tCons (tC (.int 10)) tNil)) (tCons (tC .non) tNil)))))) (tAsg (tOp (rIx K) (tLst (tCons (tC .non) (tCons (tC (.str "way")) tNil))) (tCB cInt (tCons (tOp (xNe K) (tCall (sp_things K c) [] E0 (tCons (tVar 5) tNil)) (tVar 3)) tNil))) (gName 4)) tNext))
  (tSeq (tIfS (tTest (tOp (xNe K) (tLam (tabs c) (TT12 K c) (fun E => (tMeth c.hall "change" (sp_h_change K c) [] E (tVar 0) (tCons (tVar 5) tNil)))) (tVar 4))) (tRet (tC (.bl false))) tNext)
  (tSeq (tIfS (tTest (tOp xIsN (tVar 4) (tC .non))) (tSeq (sDPut (tVar 1) (tC (.str "path")) (tCall (sp_way K c) [] E0 (tCons (tCall (sp_k12_l_state K c) [] E0 (tCons (tVar 1) tNil)) (tCons (tCall (sp_state_at K c) [.int 0] E0 (tCons (tVar 5) tNil)) tNil))))
  (tSeq (sDPut (tVar 1) (tC (.str "row")) (tCB (cList K) (tCons (tVar 5) tNil)))
  (tSeq (sDPut (tVar 1) (tC (.str "at")) (tC (.int 0)))
  (tDrop (tBM0 K "list" rClear (tVar 5)))))) tNext)
  (tRet (tC (.bl true)))))) { nx := fun _ H' => Q .non H', rt := Q } [some (.ref a), some (.ref m), some (.int cell), some (.int many), some (.str "row"), some v] H1 := by
    intro d k hd hb fl hk a1 a2
    refine q_if (b := false) (et_is (et_test (ev_inDD (evd_of (ev_var (i := 5) rfl) (hd _ (Ex.refl _))) evd_ones (fl.shaped hk) (flat_ones.shaped (by decide)))) a1) (fun z => nomatch z) fun _ H2 e2 => ?_
    refine s_when (b := false) (et_is (et_test (ev_ninDD (evd_of (ev_var (i := 5) rfl) (hd _ e2)) evd_nones (fl.shaped hk) (flat_nones.shaped (by decide)))) (by rw [a2]; rfl)) (fun z => nomatch z) fun _ H3 e3 => nx_mk ?_
    have e13 := (e1.trans e2).trans e3
    exact told_change N rfl rfl rfl (hT.ext e13) ((hA0.ex e0).ex e13) I hlen fun H7 eN t7 => .inl ⟨hb H7 ((ExtN.of (e2.trans e3)).trans eN), rfl, fun H8 e8 => done (fun z => by cases z) ((ExtN.of e13).trans eN) t7 e8⟩
  have clashc : ∀ (d : PyData) (k : Nat) (ns : List Int), (∀ H', Ex H1 H' → Dp K H' v d) → (∀ H', ExtN H1 H' → Row K H' v ns) → Good ns → clashF ns ≠ none → Flat k d → k ≤ 64 → ([d54, d32].any fun z => PyData.eqv z d) = true →
      (tSeq (tIfS (tTest (tOp (rInD K) (tVar 5) (tLst (tCons (tLst (tCons (tC (.int 5)) (tCons (tC (.int 4)) tNil))) (tCons (tTup (tCons (tC (.int 3)) (tCons (tC (.int 2)) tNil))) tNil))))) (tAsg (tC (.str "clash")) (gName 4)) (tIfS (tTest (tOp (rNotInD K) (tVar 5) (tLst (tCons (tLst tNil) (tCons (tLst (tCons (tC (.int 10)) tNil)) (tCons (tC .non) tNil)))))) (tAsg (tOp (rIx K) (tLst (tCons (tC .non) (tCons (tC (.str "way")) tNil))) (tCB cInt (tCons (tOp (xNe K) (tCall (sp_things K c) [] E0 (tCons (tVar 5) tNil)) (tVar 3)) tNil))) (gName 4)) tNext))
  (tSeq (tIfS (tTest (tOp (xNe K) (tLam (tabs c) (TT12 K c) (fun E => (tMeth c.hall "change" (sp_h_change K c) [] E (tVar 0) (tCons (tVar 5) tNil)))) (tVar 4))) (tRet (tC (.bl false))) tNext)
  (tSeq (tIfS (tTest (tOp xIsN (tVar 4) (tC .non))) (tSeq (sDPut (tVar 1) (tC (.str "path")) (tCall (sp_way K c) [] E0 (tCons (tCall (sp_k12_l_state K c) [] E0 (tCons (tVar 1) tNil)) (tCons (tCall (sp_state_at K c) [.int 0] E0 (tCons (tVar 5) tNil)) tNil))))
  (tSeq (sDPut (tVar 1) (tC (.str "row")) (tCB (cList K) (tCons (tVar 5) tNil)))
  (tSeq (sDPut (tVar 1) (tC (.str "at")) (tC (.int 0)))
  (tDrop (tBM0 K "list" rClear (tVar 5)))))) tNext)
  (tRet (tC (.bl true)))))) { nx := fun _ H' => Q .non H', rt := Q } [some (.ref a), some (.ref m), some (.int cell), some (.int many), some (.str "row"), some v] H1 := by
    intro d k ns hd hr hg hc fl hk a1
    refine q_if (b := true) (et_is (et_test (ev_inDD (evd_of (ev_var (i := 5) rfl) (hd _ (Ex.refl _))) evd_ones (fl.shaped hk) (flat_ones.shaped (by decide)))) a1) (fun _ H2 e2 => ?_) (fun z => nomatch z)
    refine s_asg (v := .str "clash") ev_c fun H3 e3 => nx_mk ?_
    have e13 := (e1.trans e2).trans e3
    exact told_change N rfl rfl rfl (hT.ext e13) ((hA0.ex e0).ex e13) I hlen fun H7 eN t7 => .inr ⟨ns, hr H7 ((ExtN.of (e2.trans e3)).trans eN), hg, .inl ⟨hc, rfl, fun H8 e8 => done (fun z => by cases z) ((ExtN.of e13).trans eN) t7 e8⟩⟩
  have toN : ∀ {H' : Hp}, Ex H1 H' → ExtN H1 H' := fun e => ExtN.of e
  cases hv1 with
  | nil r e h =>
    subst e
    exact badc (.list []) 1 (fun H' e => .lst (SqL.of (e _ _ h)) .nil) (fun H' e => .inr ⟨r, [], rfl, .inl (SqL.of (e _ _ h nt_lst)), fun y hy => absurd hy List.not_mem_nil, fun z => absurd z.1 (by decide)⟩) flat_nil (by decide) (by decide +kernel) (by decide +kernel)
  | ten r e h =>
    subst e
    exact badc (.list [.int 10]) 1 (fun H' e => .lst (SqL.of (e _ _ h)) (.cons (.int _) .nil)) (fun H' e => bad_app (ns := []) (m := 10) (by decide) (e _ _ h nt_lst)) flat_10 (by decide) (by decide +kernel) (by decide +kernel)
  | non e =>
    subst e
    exact badc .none 0 (fun H' e => .non) (fun H' e => .inl ⟨"NoneType", .base .non, by decide +kernel, by decide +kernel⟩) flat_non (by decide) (by decide +kernel) (by decide +kernel)
  | c54 r e h =>
    subst e
    exact clashc d54 1 [5, 4] (fun H' e => .lst (SqL.of (e _ _ h)) (.cons (.int _) (.cons (.int _) .nil))) (fun H' e => ⟨r, rfl, .inl (SqL.of (e _ _ h nt_lst))⟩) ⟨by decide, by decide, fun x hx => by simp at hx; omega⟩ (by decide) flat_54 (by decide) (by decide +kernel)
  | c32 r e h =>
    subst e
    exact clashc d32 1 [3, 2] (fun H' e => .tup (SqT.of (e _ _ h)) (.cons (.int _) (.cons (.int _) .nil))) (fun H' e => ⟨r, rfl, .inr (SqT.of (e _ _ h nt_tup))⟩) ⟨by decide, by decide, fun x hx => by simp at hx; omega⟩ (by decide) flat_32 (by decide) (by decide +kernel)
  | good r F e h0 h hg hc =>
    subst e
    have hrow : ∀ {H' : Hp}, Ex H1 H' → Row K H' (.ref r) F := fun e => ⟨r, rfl, .inl (SqL.of (e _ _ h))⟩
    refine q_if (b := false) (et_is (et_test (ev_inDD (d := .list (F.map .int)) (evd_of (ev_var (i := 5) rfl) (.lst (SqL.of h) (dpa_ints _))) evd_ones (flat_ints.shaped (by decide)) (flat_ones.shaped (by decide)))) (is_one hg hc)) (fun z => nomatch z) fun _ H2 e2 => ?_
    have ux := upS_things hg hc
    -- what is due
    let due : V := if decide ((pcI (upS F) : Int) = many) = true then .non else .str "way"
    refine s_when (b := true) (et_is (et_test (ev_ninDD (d := .list (F.map .int)) (evd_of (ev_var (i := 5) rfl) (.lst (SqL.of (e2 _ _ h)) (dpa_ints _))) evd_nones (flat_ints.shaped (by decide)) (flat_nones.shaped (by decide)))) (by rw [is_none hg]; rfl)) (fun _ H3 e3 => ?_) (fun z => nomatch z)
    have e23 := e2.trans e3
    refine s_asg (v := due) (ev_ix (i := if (!decide ((pcI (upS F) : Int) = many)) = true then 1 else 0) (evq_s (evs_new (el_lst (ea_cons ev_c (ea_cons ev_c ea_nil)) (by show 2 ≤ 100000; decide)))) (fun H' e' => ev_intB (ev_op (ev_is (ev_things (c := c) (E := E0) (evq_of (ev_var (i := 5) rfl) (.inl (SqL.of ((e23.trans e') _ _ h)))) hg hc) (by rw [ux])) (ev_var (i := 3) rfl) rv_neI)) ?_) fun H4 e4 => nx_mk ?_
    · show atI [V.non, V.str "way"] _ = some due
      by_cases hd : (pcI (upS F) : Int) = many
      · show atI [V.non, V.str "way"] _ = some (if decide ((pcI (upS F) : Int) = many) = true then V.non else V.str "way")
        rw [decide_eq_true hd]
        rfl
      · show atI [V.non, V.str "way"] _ = some (if decide ((pcI (upS F) : Int) = many) = true then V.non else V.str "way")
        rw [decide_eq_false hd]
        rfl
    have e14 := ((e1.trans e2).trans e3).trans e4
    have e24 := e23.trans e4
    have e04 := e0.trans e14
    refine told_change N rfl rfl rfl (hT.ext e14) (hA0.ex e04) I hlen fun H7 eN t7 => .inr ⟨F, ⟨r, rfl, .inl (SqL.of (eN _ _ (e24 _ _ h) nt_lst))⟩, hg, .inr ⟨hc, ?_⟩⟩
    by_cases hd : (pcI (upS F) : Int) = many
    · have hdue : due = .non := by
        show (if decide ((pcI (upS F) : Int) = many) = true then V.non else V.str "way") = _
        rw [decide_eq_true hd]
        rfl
      have heq : pcI (upS F) = pcI s.bits := by omega
      refine .inr ⟨heq, hdue, fun p2 H8 m8 hp2 hA8 => ?_⟩
      rw [hdue]
      have M8 : MutT [a, n, m] H0 H8 := ((MutT.of (Mut.of e04)).trans (.ofN eN)).trans (.of (m8.mono fun x hx => by simp at hx; rcases hx with rfl | rfl <;> simp))
      obtain ⟨dx, t, ws, o, w⟩ := (hA0.ex e04).nx eN
      have t8 : Tabs (tabs c) H8 := tabs_mut t7 m8 fun x hx => by
        simp at hx
        rcases hx with rfl | rfl
        · exact ⟨_, o.ha, nt_ins, fun f z => by cases z⟩
        · exact ⟨_, o.hn, nt_lst, fun f z => by cases z⟩
      have hM7 := (hM0.ex e04).nx eN
      have ha0 := hA0
      obtain ⟨dx0, t0, ws0, o0, w0⟩ := ha0
      have am : a ≠ m := ne_of o0.ha hM0.hm (fun z => by cases z)
      have nm : n ≠ m := ne_of o0.hn hM0.hm (fun z => by cases z)
      have aA : a ≠ ap := ne_of o0.ha hM0.hA (fun z => by cases z)
      have nA : n ≠ ap := ne_of o0.hn hM0.hA (fun z => by cases z)
      have aP : a ≠ pp := ne_of o0.ha hM0.hp (fun z => by cases z)
      have aR : a ≠ rp := ne_of o0.ha hM0.hr (fun z => by cases z)
      have no2 : ∀ {b : Addr}, a ≠ b → n ≠ b → b ∉ [a, n] := fun h1 h2 => by simp [Ne.symm h1, Ne.symm h2]
      have hM8 : ModO K H8 m ap pp rp s at_ := hM7.mutT (.of m8) (no2 am nm) (no2 aA nA) (no2 aP A.np) (no2 aR A.nr)
      have rr : ∀ {b : Addr} {u : HO}, H0 b = some u → b ≠ r := fun hb => ne_of_none hb h0
      have hr8 : H8 r = some (.lst (F.map V.int)) := m8 _ _ (eN _ _ (e24 _ _ h) nt_lst) (.inl (no2 (rr o0.ha) (rr o0.hn)))
      have hmp : m ≠ p2 := ne_of_none hM7.hm hp2
      refine q_when (b := true) (et_is (et_test (ev_op (ev_var (i := 4) rfl) ev_c rv_isN)) rfl) (fun _ H9 e9 => ?_) (fun z => nomatch z)
      have hM9 := hM8.ex e9
      have hr9 := e9 _ _ hr8
      refine q_dput' (s_dputL (a := m) (k := kP) (xs := (wayF s.bits (upS F)).map V.int) (el_way8 (K := K) (c := c) (ev_k12_state (ev_var (i := 1) rfl) hM9 I) (ev_state_at0 (K := K) (c := c) (evq_of (ev_var (i := 5) rfl) (.inl (SqL.of hr9))) hg hc) ⟨I.b0, I.b1⟩ (upS_ok hg) heq.symm) (fun _ _ => ev_var (i := 1) rfl) (fun _ _ => ev_c) hM9.hm (by show 5 < 100000; decide) fun pp2 H10 hpp2 e10 h10 => ?_)
      rw [put_P]
      generalize hH11 : upd H10 m _ = H11
      have hm11 : H11 m = some (.dK (mFs s.now pp2 rp at_ ap)) := by
        rw [← hH11]
        exact upd_same
      have m911 : Mut [m] H9 H11 := by
        rw [← hH11]
        exact (Mut.of e10).trans (Mut.upd (e10 _ _ hM9.hm) no_dK (by simp))
      have sm : ∀ {b : Addr}, b ≠ m → b ∉ [m] := fun h => by simp [h]
      have rm : r ≠ m := Ne.symm (rr hM0.hm)
      have hr11 := m911 _ _ hr9 (.inl (sm rm))
      have hppm : pp2 ≠ m := Ne.symm (ne_of_none hM9.hm hpp2)
      have hp11 : H11 pp2 = some (.lst ((wayF s.bits (upS F)).map V.int)) := by
        rw [← hH11, upd_ne hppm]
        exact h10
      refine nx_mk ?_
      refine q_dput' (s_dputL (a := m) (k := kR) (xs := F.map V.int) (el_listQ (evq_of (ev_var (i := 5) rfl) (.inl (SqL.of hr11)))) (fun _ _ => ev_var (i := 1) rfl) (fun _ _ => ev_c) hm11 (by show 5 < 100000; decide) fun rp2 H12 hrp2 e12 h12 => ?_)
      rw [put_R]
      generalize hH13 : upd H12 m _ = H13
      have hm13 : H13 m = some (.dK (mFs s.now pp2 rp2 at_ ap)) := by
        rw [← hH13]
        exact upd_same
      have m1113 : Mut [m] H11 H13 := by
        rw [← hH13]
        exact (Mut.of e12).trans (Mut.upd (e12 _ _ hm11) no_dK (by simp))
      have hrpm : rp2 ≠ m := Ne.symm (ne_of_none hm11 hrp2)
      have hrp13 : H13 rp2 = some (.lst (F.map V.int)) := by
        rw [← hH13, upd_ne hrpm]
        exact h12
      refine nx_mk ?_
      refine q_dput' (s_dput (a := m) (k := kI) (v := .int 0) ev_c (ev_var (i := 1) rfl) ev_c hm13 (by show 5 < 100000; decide) fun H14 e14' => ?_)
      rw [put_I]
      generalize hH15 : upd H14 m _ = H15
      have hm15 : H15 m = some (.dK (mFs s.now pp2 rp2 0 ap)) := by
        rw [← hH15]
        exact upd_same
      have m1315 : Mut [m] H13 H15 := by
        rw [← hH15]
        exact (Mut.of e14').trans (Mut.upd (e14' _ _ hm13) no_dK (by simp))
      have m915 := (m911.trans m1113).trans m1315
      have hr15 := (m1113.trans m1315) _ _ hr11 (.inl (sm rm))
      have hp15 := (m1113.trans m1315) _ _ hp11 (.inl (sm hppm))
      have hrp15 := m1315 _ _ hrp13 (.inl (sm hrpm))
      have hA15 := m915 _ _ hM9.hA (.inl (sm (Ne.symm hM0.ma)))
      refine nx_mk ?_
      refine ⟨.ref r, rfl, Or.inl ⟨rfl, _, sq_of hr15⟩, r, _, rfl, rfl, hr15, ?_⟩
      generalize hH16 : upd H15 r _ = H16
      have m1516 : Mut [r] H15 H16 := by
        rw [← hH16]
        exact Mut.upd hr15 no_lst (by simp)
      have sr : ∀ {b : Addr}, b ≠ r → b ∉ [r] := fun h => by simp [h]
      have ppr : pp2 ≠ r := Ne.symm (ne_of_none hr9 hpp2)
      have rpr : rp2 ≠ r := Ne.symm (ne_of_none hr11 hrp2)
      have hM16 : ModO K H16 m ap pp2 rp2 (changeS s F) 0 := ⟨m1516 _ _ hm15 (.inl (sr (Ne.symm rm))), m1516 _ _ hp15 (.inl (sr ppr)), m1516 _ _ hrp15 (.inl (sr rpr)), m1516 _ _ hA15 (.inl (sr (rr hM0.hA))), Int.le_refl _, Int.zero_emod _, ne_of_none hp11 hrp2, hM0.ma⟩
      have pr : p2 ≠ r := Ne.symm (ne_of_none (eN _ _ (e24 _ _ h) nt_lst) hp2)
      have hA15' := (hA8.ex e9).mut m915 (sm am) (sm A.fm) (sm nm) (sm (Ne.symm hmp))
      have hA16 := hA15'.mut m1516 (sr (rr o0.ha)) (sr (rr o0.hf)) (sr (rr o0.hn)) (sr pr)
      have M16 : MutT [a, n, m] H0 H16 := mutT_drop (((((M8.trans (.of (.of e9))).mono fun x hx => List.mem_cons_of_mem r hx)).trans (.of (m915.mono fun x hx => by simp at hx; simp [hx]))).trans (.of (m1516.mono fun x hx => by simp at hx; simp [hx]))) h0
      have t16 : Tabs (tabs c) H16 := tabs_mut (tabs_mut (t8.ext e9) m915 fun x hx => by
        rw [List.mem_singleton.mp hx]
        exact ⟨_, hM9.hm, nt_dK, fun f z => by cases z⟩) m1516 fun x hx => by
        rw [List.mem_singleton.mp hx]
        exact ⟨_, hr15, nt_lst, fun f z => by cases z⟩
      have M7 : MutT [a, n, m] H0 H7 := (MutT.of (Mut.of e04)).trans (.ofN eN)
      have M9 : MutT [a, n, m] H0 H9 := M8.trans (.of (.of e9))
      have M11 : MutT [a, n, m] H0 H11 := M9.trans (.of (m911.mono fun x hx => by simp at hx; simp [hx]))
      obtain ⟨dx9, t9, ws9, o9, w9⟩ := hA8.ex e9
      have on11 := m911 _ _ o9.hn (.inl (sm nm))
      have w3 : ∀ {Hx : Hp} {u1 u2 u3 : HO}, Hx a = some u1 → NoTab u1 → Hx n = some u2 → NoTab u2 → Hx m = some u3 → NoTab u3 → ∀ x ∈ [a, n, m], ∃ u, Hx x = some u ∧ NoTab u := fun h1 n1 h2 n2 h3 n3 x hx => by
        simp only [List.mem_cons, List.not_mem_nil, or_false] at hx
        rcases hx with rfl | rfl | rfl
        · exact ⟨_, h1, n1⟩
        · exact ⟨_, h2, n2⟩
        · exact ⟨_, h3, n3⟩
      refine q p2 pp2 rp2 (changeS s F) (nts ++ [.chg F]) 0 H16 M16 t16 (.inr ((NewT.of hp2).back M7 (w3 o.ha nt_ins o.hn nt_lst hM7.hm nt_dK))) (.inr ((NewT.of hpp2).back M9 (w3 o9.ha nt_ins o9.hn nt_lst hM9.hm nt_dK))) (.inr ((NewT.of hrp2).back M11 (w3 (m911 _ _ o9.ha (.inl (sm am))) nt_ins on11 nt_lst hm11 nt_dK))) hA16 hM16 (change_inv I hg hc heq) (by rw [List.length_append]; exact Nat.le_refl _) ⟨ne_of_none o9.hn hpp2, ne_of_none on11 hrp2, A.fm, A.fa, ne_of_none o9.hp hpp2⟩
    · have hdue : due = .str "way" := by
        show (if decide ((pcI (upS F) : Int) = many) = true then V.non else V.str "way") = _
        rw [decide_eq_false hd]
        rfl
      refine .inl ⟨fun z => hd (by rw [z, hm]), hdue, fun H8 e8 => ?_⟩
      rw [hdue]
      exact done (fun z => by cases z) ((ExtN.of e14).trans eN) t7 e8
theorem pure_k12_l_changed (N : Ex12 K c) (h : sp_k12_l_changed K c vs H Q E) : t_k12_l_changed K c E { nx := fun _ H' => Q .non H', rt := Q } (start ["_law_hall", "_law_model_here", "_law_cell", "_law_many", "_law_due", "_law_row"] vs) H := by
  obtain ⟨a, f, n, p, s, nts, m, ap, pp, rp, at_, cell, rfl, hA, hM, I, hT, hlen, hc0, A, q⟩ := h
  have hp9 := pcI_le s.bits
  have hn0 := I.good.1
  have m1 : 1 ≤ 1 + cell / 10 % 9 := by omega
  have m9 : 1 + cell / 10 % 9 ≤ 40 := by omega
  have i0 : 0 ≤ cell / 7 % 2 := by omega
  have i1 : cell / 7 % 2 < 2 := by omega
  have pick : Ev (tOp (rIx K) (tLst (tCons (tOp (rIx K) (tDGet (tVar 1) (tC (.str "row"))) (tC (.int 0))) (tCons (tVar 2) tNil))) (tOp xMod (tOp xDiv (tVar 2) (tC (.int 7))) (tC (.int 2)))) (start ["_law_hall", "_law_model_here", "_law_cell", "_law_many", "_law_due", "_law_row"] [V.ref a, .ref m, .int cell]) H (.int (gi [gi s.form 0, cell] (cell / 7 % 2))) := by
    refine ev_ix (i := cell / 7 % 2) (xs := ([gi s.form 0, cell] : List Int).map V.int) (evq_s (evs_new (el_lst (ea_cons (ev_ix (i := 0) (evq_of (ev_mR (ev_var (i := 1) rfl) hM) (.inl (SqL.of hM.hr))) (fun _ _ => ev_c) (atI_ints (by decide) (by omega))) (ea_cons (ev_var (i := 2) rfl) ea_nil)) (by show 2 ≤ 100000; decide)))) (fun H' e' => ev_op (ev_op (ev_var (i := 2) rfl) ev_c (rv_div (by k_caughtB))) ev_c (rv_mod (by decide))) (atI_ints i0 i1)
  generalize gi [gi s.form 0, cell] (cell / 7 % 2) = x0 at pick
  refine q_asgL (el_l_going (K := K) (c := c) (a := cell / 10 * 10 + x0 % 10) (m := 1 + cell / 10 % 9) (ev_op (ev_op (ev_op (ev_var (i := 2) rfl) ev_c (rv_div (by k_caughtB))) ev_c (rv_mul (by k_caughtB))) (ev_op pick ev_c (rv_mod (by decide))) rv_addI) (ev_op ev_c (ev_op (ev_op (ev_var (i := 2) rfl) ev_c (rv_div (by k_caughtB))) ev_c (rv_mod (by decide))) rv_addI) m1 (by omega)) fun r H1 hr e1 h1 => ?_
  have k1 : RowK H (.ref r) H1 := .good r _ rfl hr h1 (good_going m1 m9) (going_clash m1)
  have hM1 := hM.ex e1
  have hfl : ((flyK s.fly).length : Int) = (pcI s.bits : Int) := by unfold flyK; rw [List.length_map, I.many]
  refine q_asg (v := .int (pcI s.bits : Int)) (ev_is (ev_lenD (kvs := flyK s.fly) (ev_mA (ev_var (i := 1) rfl) hM1) hM1.hA) (by rw [hfl])) fun H2 e2 => ?_
  have e12 := e1.trans e2
  refine q_condA (P := RowK H) (j := 5) (et_test (ev_op (ev_op (ev_op (ev_var (i := 2) rfl) ev_c (rv_div (by k_caughtB))) ev_c (rv_mod (by decide))) ev_c rv_gt)) (fun _ H3 e3 => ?_) (fun _ H3 e3 => ⟨_, rfl, rowK_mon _ _ _ (e2.trans e3) k1⟩) fun v1 H3 e3 k3 => ?_
  · intro H4 e4 Q' q'
    refine (el_l_going (K := K) (c := c) (σ := [some (.ref a), some (.ref m), some (.int cell), some (.int (pcI s.bits : Int)), none, some (.ref r)]) (a := cell / 10 * 10 + (pcI s.bits : Int)) (m := 1 + cell / 10 % 9) (ev_op (ev_op (ev_op (ev_var (i := 2) rfl) ev_c (rv_div (by k_caughtB))) ev_c (rv_mul (by k_caughtB))) (ev_var (i := 3) rfl) rv_addI) (ev_op ev_c (ev_op (ev_op (ev_var (i := 2) rfl) ev_c (rv_div (by k_caughtB))) ev_c (rv_mod (by decide))) rv_addI) m1 (by omega)) H4 (Ex.refl _) _ fun r2 H5 hr2 e5 h5 => q' _ H5 e5 (.good r2 _ rfl (fresh_of ((e12.trans e3).trans e4) hr2) h5 (good_going m1 m9) (going_clash m1))
  have e13 := e12.trans e3
  have j0 : 0 ≤ cell / 117 % 5 := by omega
  have j1 : cell / 117 % 5 < 5 := by omega
  have w0 : ∀ {σ : L2.St} {H' : Hp}, EvP (RowK H) (tLst tNil) σ H' := (evp_l (el_lst ea_nil (by show 0 ≤ 100000; decide))).weak fun v H' _ ⟨p, ev, hp⟩ => .nil p ev hp
  have w10 : ∀ {σ : L2.St} {H' : Hp}, EvP (RowK H) (tLst (tCons (tC (.int 10)) tNil)) σ H' := (evp_l (el_lst (ea_cons ev_c ea_nil) (by show 1 ≤ 100000; decide))).weak fun v H' _ ⟨p, ev, hp⟩ => .ten p ev hp
  have w54 : ∀ {σ : L2.St} {H' : Hp}, EvP (RowK H) (tLst (tCons (tC (.int 5)) (tCons (tC (.int 4)) tNil))) σ H' := (evp_l (el_lst (ea_cons ev_c (ea_cons ev_c ea_nil)) (by show 2 ≤ 100000; decide))).weak fun v H' _ ⟨p, ev, hp⟩ => .c54 p ev hp
  have w32 : ∀ {σ : L2.St} {H' : Hp}, EvP (RowK H) (tTup (tCons (tC (.int 3)) (tCons (tC (.int 2)) tNil))) σ H' := fun H1 e Q q => (eu_tup (ea_cons ev_c (ea_cons ev_c ea_nil)) (by show 2 ≤ 100000; decide)) H1 e _ fun p H2 _ e2 hp => q _ H2 e2 (.c32 p rfl hp)
  have wn : ∀ {σ : L2.St} {H' : Hp}, EvP (RowK H) (tC .non) σ H' := evp_of ev_c fun H' _ => .non rfl
  have mon5 : MonAll [RowK H, RowK H, RowK H, RowK H, RowK H] := fun P hP => by
    simp at hP
    rw [hP]
    exact rowK_mon
  have hP : [RowK H, RowK H, RowK H, RowK H, RowK H][(cell / 117 % 5).toNat]? = some (RowK H) := by
    have h5 : (cell / 117 % 5).toNat = 0 ∨ (cell / 117 % 5).toNat = 1 ∨ (cell / 117 % 5).toNat = 2 ∨ (cell / 117 % 5).toNat = 3 ∨ (cell / 117 % 5).toNat = 4 := by omega
    rcases h5 with h | h | h | h | h <;> rw [h] <;> rfl
  refine q_condA (P := RowK H) (j := 5) (et_test (ev_op (ev_op (ev_op (ev_var (i := 2) rfl) ev_c (rv_div (by k_caughtB))) ev_c (rv_mod (by decide))) ev_c rv_eqI)) (fun _ H4 e4 => ?_) (fun _ H4 e4 => ⟨v1, rfl, rowK_mon _ _ _ e4 k3⟩) fun v2 H4 e4 k4 => ?_
  · exact ep_ix (K := K) (i := cell / 117 % 5) (epl (epa_cons w0 rowK_mon (epa_cons w10 rowK_mon (epa_cons w54 rowK_mon (epa_cons w32 rowK_mon (epa_cons wn rowK_mon epa_nil))))) mon5 (by show 5 ≤ 100000; decide)) mon5 (fun H' e' => ev_op (ev_op (ev_var (i := 2) rfl) ev_c (rv_div (by k_caughtB))) ev_c (rv_mod (by decide))) j0 j1 hP
  have e14 := e13.trans e4
  exact changed_tail (E := E) N e14 hA hM I (hT.ext e14) hlen A rfl k4 q
end
end Tr

/-! Law k12: the heights ahead asked. -/
namespace Tr
open PySem L2 PySem.Spec PyProof.Rows Evl LamX

theorem cut_last {xs : List V} {v : V} : cutV (xs ++ [v]) none (some (-1)) = xs := by
  unfold cutV
  have e1 : HT.sIx (xs ++ [v]).length (xs ++ [v]).length (some (-1)) = xs.length := by
    unfold HT.sIx
    rw [List.length_append]
    simp
    omega
  have e2 : HT.sIx (xs ++ [v]).length 0 none = 0 := rfl
  rw [e1, e2, List.drop_zero, Nat.sub_zero, List.take_left']
  rfl
theorem ahead_more {s : HS} {at_ : Int} {m : Nat} (hn : 0 < s.form.length) (hat : at_ % (s.form.length : Int) = s.spot) : (s.path ++ (List.range m).map fun (k : Nat) => hAt s.form (at_ + (k : Int))).take m = aheadF s m := by
  unfold aheadF
  apply List.ext_getElem
  · rw [List.length_take, List.length_append, List.length_map, List.length_range, List.length_map, List.length_range]
    omega
  · intro i h1 h2
    have hm : i < m := by
      rw [List.length_map, List.length_range] at h2
      exact h2
    rw [List.getElem_take, List.getElem_map, List.getElem_range]
    by_cases hi : i < s.path.length
    · rw [List.getElem_append_left hi, if_pos hi, List.getD_eq_getElem?_getD, List.getElem?_eq_getElem hi]
      rfl
    · rw [List.getElem_append_right (by omega), if_neg hi, List.getElem_map, List.getElem_range]
      refine hAt_of ?_
      rw [← hat, show at_ % (s.form.length : Int) + (i : Int) - (s.path.length : Int) = at_ % (s.form.length : Int) + ((i - s.path.length : Nat) : Int) by omega, Int.emod_add_emod]
def sp_k12_l_ahead (K : PySem.W.Frag) (c : Cs) : Sp := fun vs H Q _ => ∃ a f n p s nts m ap pp rp at_ cell, vs = [.ref a, .ref m, .int cell] ∧ HallAt K c.hall H a f n p s nts ∧ ModO K H m ap pp rp s at_ ∧ HInv s ∧ Tabs (tabs c) H ∧ 0 ≤ cell ∧ ∀ H2, MutT [] H H2 → Tabs (tabs c) H2 → Q (.bl true) H2
/-- _law_ahead: slots _law_hall, _law_model_here, _law_cell, _law_many, _law_more, _law_found, _law_none, _law_k -/
def t_k12_l_ahead (K : PySem.W.Frag) (c : Cs) (E : XK) : TS :=
  (tSeq (tAsg (tOp (rIx K) (tLst (tCons (tOp xMod (tVar 2) (tC (.int 30))) (tCons (tC (.int 400)) (tCons (tC (.int 0)) tNil)))) (tOp xMod (tOp xDiv (tVar 2) (tC (.int 30))) (tC (.int 3)))) (gName 3))
  (tSeq (tAsg (tOp (rIx K) (tLst (tCons (tUn xNeg (tC (.int 1))) (tCons (tC (.int 401)) (tCons (tC .non) (tCons (tC (.bl true)) (tCons (tC (.str "1")) tNil)))))) (tOp xMod (tOp xDiv (tVar 2) (tC (.int 90))) (tC (.int 5)))) (gName 6))
  (tSeq (tAsg (tLc (iRng1 (tCons (tVar 3) tNil)) (gName 7) tYes (tOp (rIx K) (tDGet (tVar 1) (tC (.str "row"))) (tOp xMod (tOp (xAdd K) (tDGet (tVar 1) (tC (.str "at"))) (tVar 7)) (tCB (cLen K) (tCons (tDGet (tVar 1) (tC (.str "row"))) tNil)))) [7]) (gName 4))
  (tSeq (tAsg (tMeth c.hall "ahead" (sp_h_ahead K c) [] E0 (tVar 0) (tCons (tVar 3) tNil)) (gName 5))
  (tSeq (tIfS (tOr (tTest (tOp (xNe K) (tVar 5) (tSl (xSl K) (tOp (xAdd K) (tDGet (tVar 1) (tC (.str "path"))) (tVar 4)) tNoPart (tPart (tVar 3))))) (tTest (tOp (xNe K) (tLam (tabs c) (TT12 K c) (fun E => (tMeth c.hall "ahead" (sp_h_ahead K c) [] E (tVar 0) (tCons (tVar 6) tNil)))) (tC (.str "turn"))))) (tRet (tC (.bl false))) tNext)
  (tSeq (tDrop (tBM K "list" rAppend (tVar 5) (tCons (tC (.int 7)) tNil)))
  (tRet (tOp (xEq K) (tMeth c.hall "ahead" (sp_h_ahead K c) [] E0 (tVar 0) (tCons (tVar 3) tNil)) (tSl (xSl K) (tVar 5) tNoPart (tPart (tUn xNeg (tC (.int 1)))))))))))))

section
variable {K : PySem.W.Frag} {c : Cs} {vs : List V} {H : Hp} {Q : VK} {E : XK}
theorem told_endC {σ : L2.St} {R : Bool → Hp → Prop} {nxx : L2.St → Hp → Prop} {w : V} {f0 : V} {H8 : Hp} (hs : scal w w = true) (k : R false H8) :
    (tRet (tVar 1)) { nx := nxx, rt := fun x H1 => (tC w) σ H1 fun y H2 => xNe K x y H2 fun x H' => ∃ k, x = V.bl k ∧ R k H' } [some f0, some w] H8 := ⟨w, rfl, .inl ⟨hs, _, rfl, by simp; exact k⟩⟩
theorem pure_k12_l_ahead (N : Ex12 K c) (h : sp_k12_l_ahead K c vs H Q E) : t_k12_l_ahead K c E { nx := fun _ H' => Q .non H', rt := Q } (start ["_law_hall", "_law_model_here", "_law_cell", "_law_many", "_law_more", "_law_found", "_law_none", "_law_k"] vs) H := by
  obtain ⟨a, f, n, p, s, nts, m, ap, pp, rp, at_, cell, rfl, hA, hM, I, hT, hc0, q⟩ := h
  have hn0 := I.good.1
  have i0 : 0 ≤ cell / 30 % 3 := by omega
  have i1 : cell / 30 % 3 < 3 := by omega
  obtain ⟨M, hMm, hM400⟩ : ∃ M : Nat, gi [cell % 30, 400, 0] (cell / 30 % 3) = (M : Int) ∧ M ≤ 400 := by
    have h3 : (cell / 30 % 3).toNat = 0 ∨ (cell / 30 % 3).toNat = 1 ∨ (cell / 30 % 3).toNat = 2 := by omega
    unfold gi
    rcases h3 with h | h | h
    · rw [h]
      exact ⟨(cell % 30).toNat, by show cell % 30 = _; omega, by omega⟩
    · rw [h]
      exact ⟨400, rfl, Nat.le_refl _⟩
    · rw [h]
      exact ⟨0, rfl, by omega⟩
  refine q_asg (v := .int (M : Int)) (ev_ix (i := cell / 30 % 3) (xs := ([cell % 30, 400, 0] : List Int).map V.int) (evq_s (evs_new (el_lst (ea_cons (ev_op (ev_var (i := 2) rfl) ev_c (rv_mod (by decide))) (ea_cons ev_c (ea_cons ev_c ea_nil))) (by show 3 ≤ 100000; decide)))) (fun H' e' => ev_op (ev_op (ev_var (i := 2) rfl) ev_c (rv_div (by k_caughtB))) ev_c (rv_mod (by decide))) ((atI_ints (ns := [cell % 30, 400, 0]) i0 (by show cell / 30 % 3 < 3; exact i1)).trans (by rw [hMm]))) fun H1 e1 => ?_
  have j0 : 0 ≤ cell / 90 % 5 := by omega
  have j1 : cell / 90 % 5 < 5 := by omega
  have pm : Mon (fun (v : V) (_ : Hp) => OkA v = false ∧ Plain v) := fun v H H' e h => h
  have mon5 : MonAll [fun (v : V) (_ : Hp) => OkA v = false ∧ Plain v, fun v _ => OkA v = false ∧ Plain v, fun v _ => OkA v = false ∧ Plain v, fun v _ => OkA v = false ∧ Plain v, fun v _ => OkA v = false ∧ Plain v] := fun P hP => by
    simp at hP
    rw [hP]
    exact pm
  have hP : [fun (v : V) (_ : Hp) => OkA v = false ∧ Plain v, fun v _ => OkA v = false ∧ Plain v, fun v _ => OkA v = false ∧ Plain v, fun v _ => OkA v = false ∧ Plain v, fun v _ => OkA v = false ∧ Plain v][(cell / 90 % 5).toNat]? = some (fun (v : V) (_ : Hp) => OkA v = false ∧ Plain v) := by
    have h5 : (cell / 90 % 5).toNat = 0 ∨ (cell / 90 % 5).toNat = 1 ∨ (cell / 90 % 5).toNat = 2 ∨ (cell / 90 % 5).toNat = 3 ∨ (cell / 90 % 5).toNat = 4 := by omega
    rcases h5 with h | h | h | h | h <;> rw [h] <;> rfl
  refine q_asgP (P := fun (v : V) (_ : Hp) => OkA v = false ∧ Plain v) (ep_ix (K := K) (i := cell / 90 % 5) (epl (epa_cons (evp_of (v := .int (-1)) (ev_un ev_c ru_neg) fun _ _ => ⟨rfl, .inl ⟨_, rfl⟩⟩) pm (epa_cons (evp_of ev_c fun _ _ => ⟨rfl, .inl ⟨_, rfl⟩⟩) pm (epa_cons (evp_of ev_c fun _ _ => ⟨rfl, .inr (.inr (.inl rfl))⟩) pm (epa_cons (evp_of ev_c fun _ _ => ⟨rfl, .inr (.inl ⟨_, rfl⟩)⟩) pm (epa_cons (evp_of ev_c fun _ _ => ⟨rfl, .inr (.inr (.inr ⟨_, rfl⟩))⟩) pm epa_nil))))) mon5 (by show 5 ≤ 100000; decide)) mon5 (fun H' e' => ev_op (ev_op (ev_var (i := 2) rfl) ev_c (rv_div (by k_caughtB))) ev_c (rv_mod (by decide))) j0 j1 hP) fun v6 H2 e2 hv6 => ?_
  have e12 := e1.trans e2
  have hM2 := hM.ex e12
  have ha0 := hM.a0
  have more : EvL (tLc (iRng1 (tCons (tVar 3) tNil)) (gName 7) tYes (tOp (rIx K) (tDGet (tVar 1) (tC (.str "row"))) (tOp xMod (tOp (xAdd K) (tDGet (tVar 1) (tC (.str "at"))) (tVar 7)) (tCB (cLen K) (tCons (tDGet (tVar 1) (tC (.str "row"))) tNil)))) [7]) [some (.ref a), some (.ref m), some (.int cell), some (.int (M : Int)), none, none, some v6, none] H2 (((List.range M).map fun (k : Nat) => hAt s.form (at_ + (k : Int))).map V.int) := by
    have z := el_lcR1 (σ := [some (.ref a), some (.ref m), some (.int cell), some (.int (M : Int)), none, none, some v6, none]) (H := H2) (ta := tCons (tVar 3) tNil) (j := 7) (vs := [7]) (t := tYes) (te := tOp (rIx K) (tDGet (tVar 1) (tC (.str "row"))) (tOp xMod (tOp (xAdd K) (tDGet (tVar 1) (tC (.str "at"))) (tVar 7)) (tCB (cLen K) (tCons (tDGet (tVar 1) (tC (.str "row"))) tNil)))) (n := (M : Int)) (fun _ => true) (fun k => V.int (hAt s.form (at_ + (k : Int)))) (ea_cons (ev_var (i := 3) rfl) ea_nil) (by omega) (fun x => rfl) (fun i H' e' hi => et_yes) fun i H' e' hi _ => by
      have hM' := hM2.ex e'
      exact ev_hAt (evq_of (ev_mR (ev_var (i := 1) rfl) hM') (.inl (SqL.of hM'.hr))) (fun H'' e'' => ev_op (ev_op (ev_mI (ev_var (i := 1) rfl) (hM'.ex e'')) (ev_var (i := 7) (v := .int (i : Int)) rfl) rv_addI) (ev_lenI (evq_of (ev_mR (ev_var (i := 1) rfl) (hM'.ex e'')) (.inl (SqL.of (hM'.ex e'').hr)))) (rv_mod (by omega))) (by omega)
    have e : given (M : Int).toNat (fun _ => true) (fun k => V.int (hAt s.form (at_ + (k : Int)))) = ((List.range M).map fun (k : Nat) => hAt s.form (at_ + (k : Int))).map V.int := by
      unfold given
      rw [Int.toNat_natCast, List.map_map, List.filter_eq_self.mpr (fun _ _ => rfl)]
      rfl
    rw [e] at z
    exact z
  refine q_asgL more fun l4 H3 hl4 e3 h4 => ?_
  have e13 := e12.trans e3
  have hA3 := hA.ex e13
  refine q_asgL (xs := (aheadF s M).map V.int) ?_ fun l5 H4 hl5 e4 h5 => ?_
  · have z := el_ahead (K := K) (c := c) (E := E0) (σ := [some (.ref a), some (.ref m), some (.int cell), some (.int (M : Int)), some (.ref l4), none, some v6, none]) (ta := tVar 0) (tb := tVar 3) (k := (M : Int)) (ev_var (i := 0) rfl) (fun _ _ => ev_var (i := 3) rfl) hA3 I (by omega) (by omega)
    rw [Int.toNat_natCast] at z
    exact z
  have e14 := e13.trans e4
  have hM4 := hM.ex e14
  have h44 := e4 _ _ h4
  have hpl : s.path.length ≤ 18 := I.short
  have cut : EvL (tSl (xSl K) (tOp (xAdd K) (tDGet (tVar 1) (tC (.str "path"))) (tVar 4)) tNoPart (tPart (tVar 3))) [some (.ref a), some (.ref m), some (.int cell), some (.int (M : Int)), some (.ref l4), some (.ref l5), some v6, none] H4 ((aheadF s M).map V.int) := by
    have z := el_slX (K := K) (lo := none) (hi := some (M : Int)) (tl := tNoPart) (th := tPart (tVar 3)) (evs_new (el_cat (K := K) (evs_of (σ := [some (.ref a), some (.ref m), some (.int cell), some (.int (M : Int)), some (.ref l4), some (.ref l5), some v6, none]) (ev_mP (ev_var (i := 1) rfl) hM4) (SqL.of hM4.hp)) (evs_of (ev_var (i := 4) rfl) (SqL.of h44)) (by rw [List.length_map, List.length_map, List.length_map, List.length_range]; omega))) eo_none (eo_some (ev_var (i := 3) rfl))
    rw [cutV_up (by omega), Int.toNat_natCast, ← List.map_append, ← List.map_take, ahead_more (by omega) hM.isat] at z
    exact z
  refine or_no (et_is (et_test (ev_neD (evd_l (evs_of (ev_var (i := 5) rfl) (SqL.of h5)) (dpa_ints _)) (evd_l (evs_new cut) (dpa_ints _)) (flat_ints.shaped (by decide)) (flat_ints.shaped (by decide)))) (by rw [flat_ints.refl]; rfl)) fun H5 e5 => ?_
  have e15 := e14.trans e5
  refine ⟨hT.ext e15, fun H7 eN t7 f0 => ?_⟩
  have hA7 := (hA.ex e15).nx eN
  have hA7' := hA7
  obtain ⟨dx, t, ws, o, w⟩ := hA7'
  refine ⟨.ref a, rfl, a, dx, _, rfl, o.ha, rfl, v6, rfl, .ref a, v6, rfl, hv6.2.typed, a, f, n, p, s, nts, rfl, hA7, I, .inl ⟨hv6.1, fun H8 e8 => told_many N.tr (fun z => nomatch z) fun _ => told_many N.tc (fun z => nomatch z) fun _ => told_many N.tw (fun z => nomatch z) fun _ => told_many N.tt (fun _ _ _ => s_asgH (told_endC rfl (nx_mk ?_))) (fun z => nomatch z)⟩⟩
  have h58 := e8 _ _ (eN _ _ (e5 _ _ h5) nt_lst)
  have hA8 := hA7.ex e8
  have M8 : MutT [] H H8 := ((MutT.of (Mut.of e15)).trans (.ofN eN)).trans (.of (.of e8))
  refine q_app (l := l5) (xs := (aheadF s M).map V.int) (v := .int 7) h58 (ev_var (i := 5) rfl) ev_c (by rw [List.length_map, ahead_len]; omega) fun H9 e9 => ?_
  have hl5H : H l5 = none := fresh_of e13 hl5
  have m89 : Mut [l5] H8 (upd H9 l5 (.lst ((aheadF s M).map V.int ++ [.int 7]))) := (Mut.of e9).trans (Mut.upd (e9 _ _ h58) no_lst (by simp))
  have t9 := tabs_mut (t7.ext e8) m89 fun x hx => by
    rw [List.mem_singleton.mp hx]
    exact ⟨_, h58, nt_lst, fun f z => by cases z⟩
  have M9 : MutT [] H (upd H9 l5 (.lst ((aheadF s M).map V.int ++ [.int 7]))) := mutT_drop ((M8.mono fun x hx => absurd hx List.not_mem_nil).trans (.of m89)) hl5H
  have hAn : ∀ {b : Addr} {u : HO}, H b = some u → b ∉ [l5] := fun hb => by simp [ne_of_none hb hl5H]
  obtain ⟨dx0, t0, ws0, o0, w0⟩ := hA
  have hA9 := hA8.mut m89 (hAn o0.ha) (hAn o0.hf) (hAn o0.hn) (hAn o0.hp)
  have h510 : (upd H9 l5 (.lst ((aheadF s M).map V.int ++ [.int 7]))) l5 = some (.lst ((aheadF s M).map V.int ++ [.int 7])) := upd_same
  generalize upd H9 l5 (.lst ((aheadF s M).map V.int ++ [.int 7])) = H10 at m89 t9 M9 hA9 h510
  have ah : EvL (tMeth c.hall "ahead" (sp_h_ahead K c) [] E0 (tVar 0) (tCons (tVar 3) tNil)) [some (.ref a), some (.ref m), some (.int cell), some (.int (M : Int)), some (.ref l4), some (.ref l5), some v6, none] H10 ((aheadF s M).map V.int) := by
    have z := el_ahead (K := K) (c := c) (E := E0) (σ := [some (.ref a), some (.ref m), some (.int cell), some (.int (M : Int)), some (.ref l4), some (.ref l5), some v6, none]) (ta := tVar 0) (tb := tVar 3) (k := (M : Int)) (ev_var (i := 0) rfl) (fun _ _ => ev_var (i := 3) rfl) hA9 I (by omega) (by omega)
    rw [Int.toNat_natCast] at z
    exact z
  have cutl : EvL (tSl (xSl K) (tVar 5) tNoPart (tPart (tUn xNeg (tC (.int 1))))) [some (.ref a), some (.ref m), some (.int cell), some (.int (M : Int)), some (.ref l4), some (.ref l5), some v6, none] H10 ((aheadF s M).map V.int) := by
    have z := el_slX (K := K) (σ := [some (.ref a), some (.ref m), some (.int cell), some (.int (M : Int)), some (.ref l4), some (.ref l5), some v6, none]) (H := H10) (te := tVar 5) (lo := none) (hi := some (-1)) (evs_of (ev_var (i := 5) rfl) (SqL.of h510)) eo_none (eo_some (ev_un (ta := tC (.int 1)) ev_c ru_neg))
    rw [cut_last] at z
    exact z
  exact s_ret (v := .bl true) (ev_is (ev_eqD (evd_l (evs_new ah) (dpa_ints _)) (evd_l (evs_new cutl) (dpa_ints _)) (flat_ints.shaped (by decide)) (flat_ints.shaped (by decide))) (by rw [flat_ints.refl])) fun H11 e11 => q H11 (M9.trans (.of (.of e11))) (t9.ext e11)
end
end Tr

/-! Law k12: two halls by turns: a hall with its model. -/
namespace Tr
open PySem L2 PySem.Spec PyProof.Rows Evl LamX

/-- a hall and its model, at the addresses S -/
structure Side (K : PySem.W.Frag) (c : Cs) (H : Hp) (S : List Addr) (a m : Addr) (B : Nat) : Prop where
  ex : ∃ f n p ap pp rp s nts at_, S = [a, f, n, p, m, ap, pp, rp] ∧ HallAt K c.hall H a f n p s nts ∧ ModO K H m ap pp rp s at_ ∧ HInv s ∧ Apt f n p m ap pp rp ∧ nts.length ≤ B
/-- what was done touched S alone; S' is what it then has -/
structure Moves (S S' : List Addr) (H H1 : Hp) : Prop where
  mv : MutT S H H1
  new : ∀ x ∈ S', x ∈ S ∨ NewT H x
section
variable {K : PySem.W.Frag} {c : Cs} {E : XK} {H H1 : Hp} {S S' S2 : List Addr} {a m : Addr} {B : Nat}
theorem Side.keep {W : List Addr} (M : MutT W H H1) (h : Side K c H S a m B) (hd : ∀ x ∈ S, x ∉ W) : Side K c H1 S a m B := by
  obtain ⟨f, n, p, ap, pp, rp, s, nts, at_, rfl, hA, hM, I, A, hl⟩ := h.ex
  refine ⟨f, n, p, ap, pp, rp, s, nts, at_, rfl, hA.mutT M (hd _ ?_) (hd _ ?_) (hd _ ?_) (hd _ ?_), hM.mutT M (hd _ ?_) (hd _ ?_) (hd _ ?_) (hd _ ?_), I, A, hl⟩ <;> simp
theorem Side.up {B' : Nat} (h : Side K c H S a m B) (hb : B ≤ B') : Side K c H S a m B' := by
  obtain ⟨f, n, p, ap, pp, rp, s, nts, at_, e, hA, hM, I, A, hl⟩ := h.ex
  exact ⟨f, n, p, ap, pp, rp, s, nts, at_, e, hA, hM, I, A, by omega⟩
theorem Side.here (h : Side K c H S a m B) : ∀ x ∈ S, ∃ u, H x = some u ∧ NoTab u := by
  obtain ⟨f, n, p, ap, pp, rp, s, nts, at_, rfl, ⟨dx, t, ws, o, w⟩, hM, I, A, hl⟩ := h.ex
  intro x hx
  simp only [List.mem_cons, List.not_mem_nil, or_false] at hx
  rcases hx with rfl | rfl | rfl | rfl | rfl | rfl | rfl | rfl
  · exact ⟨_, o.ha, nt_ins⟩
  · exact ⟨_, o.hf, nt_dK⟩
  · exact ⟨_, o.hn, nt_lst⟩
  · exact ⟨_, o.hp, nt_lst⟩
  · exact ⟨_, hM.hm, nt_dK⟩
  · exact ⟨_, hM.hA, nt_dK⟩
  · exact ⟨_, hM.hp, nt_lst⟩
  · exact ⟨_, hM.hr, nt_lst⟩
theorem Moves.refl (S : List Addr) (H : Hp) : Moves S S H H := ⟨.refl _ _, fun x hx => .inl hx⟩
theorem Moves.ex (e : Ex H H1) : Moves S S H H1 := ⟨.of (.of e), fun x hx => .inl hx⟩
theorem Moves.trans {S1 : List Addr} {H2 : Hp} (h1 : Moves S S1 H H1) (h2 : Moves S1 S2 H1 H2) : Moves S S2 H H2 := by
  refine ⟨fun b o hb hn k => ?_, fun x hx => ?_⟩
  · refine h2.mv b o (h1.mv b o hb hn k) hn (k.imp (fun hS h1S => ?_) id)
    rcases h1.new b h1S with h | h
    · exact hS h
    · exact h o hb hn
  · rcases h2.new x hx with h | h
    · exact h1.new x h
    · by_cases hS : x ∈ S
      · exact .inl hS
      · exact .inr fun u hu hn => h u (h1.mv x u hu hn (.inl hS)) hn
/-- who stands apart stays apart -/
theorem Moves.off {b : Addr} {u : HO} (h : Moves S S' H H1) (hb : H b = some u) (hn : NoTab u) (hS : b ∉ S) : H1 b = some u ∧ b ∉ S' := ⟨h.mv b u hb hn (.inl hS), fun hS' => (h.new b hS').elim hS fun z => z u hb hn⟩
theorem Side.off {Sb : List Addr} {ab mb : Addr} (M : Moves S S' H H1) (h : Side K c H Sb ab mb B) (hd : ∀ x ∈ Sb, x ∉ S) : Side K c H1 Sb ab mb B ∧ ∀ x ∈ Sb, x ∉ S' := ⟨h.keep M.mv hd, fun x hx => by
  obtain ⟨u, hu, hn⟩ := h.here x hx
  exact (M.off hu hn (hd x hx)).2⟩
variable {σ : L2.St} {ta tb td : TE} {Q : VK}
theorem ev_stands (ha : Ev ta σ H (.ref a)) (hb : ∀ H1, Ex H H1 → Ev tb σ H1 (.ref m)) (h : Side K c H S a m B) : Ev (tCall (sp_k12_l_stands K c) [] E (tCons ta (tCons tb tNil))) σ H (.bl true) := fun H1 e1 Q q =>
  ha H1 e1 _ fun H2 e2 => hb H2 (e1.trans e2) H2 (Ex.refl _) _ fun H3 e3 => by
    obtain ⟨f, n, p, ap, pp, rp, s, nts, at_, _, hA, hM, I, A, hl⟩ := h.ex
    exact ⟨a, f, n, p, s, nts, m, ap, pp, rp, at_, rfl, hA.ex ((e1.trans e2).trans e3), hM.ex ((e1.trans e2).trans e3), I, fun H4 e4 => q H4 ((e2.trans e3).trans e4)⟩
/-- a step of each, told alike -/
theorem act_step (ha : Ev ta σ H (.ref a)) (hb : ∀ H1, (∀ b u, H b = some u → b ∉ S → H1 b = some u) → Ev tb σ H1 (.ref m)) (h : Side K c H S a m B) (hT : Tabs (tabs c) H) (hB : B < 90000)
    (k : ∀ S' H1, Moves S S' H H1 → Side K c H1 S' a m (B + 1) → Tabs (tabs c) H1 → Q (.bl false) H1) :
    (tOp (xNe K) (tMeth c.hall "step" (sp_h_step K c) [] E ta tNil) (tCall (sp_k12_l_step K c) [] E (tCons tb tNil))) σ H Q := by
  obtain ⟨f, n, p, ap, pp, rp, s, nts, at_, rfl, hA, hM, I, A, hl⟩ := h.ex
  refine ha H (Ex.refl _) _ fun H1 e1 => ?_
  have hA1 := hA.ex e1
  have hM1 := hM.ex e1
  have hA1' := hA1
  obtain ⟨dx, t, ws, o, w⟩ := hA1'
  refine ⟨a, dx, _, rfl, o.ha, rfl, .ref a, rfl, a, f, n, p, s, nts, rfl, hA1, I, by omega, fun T p2 H2 m2 hp2 hT0 hT2 hA2 => ?_⟩
  have am : a ≠ m := ne_of o.ha hM1.hm (fun z => by cases z)
  have nm : n ≠ m := ne_of o.hn hM1.hm (fun z => by cases z)
  have aA : a ≠ ap := ne_of o.ha hM1.hA (fun z => by cases z)
  have nA : n ≠ ap := ne_of o.hn hM1.hA (fun z => by cases z)
  have aP : a ≠ pp := ne_of o.ha hM1.hp (fun z => by cases z)
  have aR : a ≠ rp := ne_of o.ha hM1.hr (fun z => by cases z)
  have fP : f ≠ pp := ne_of o.hf hM1.hp (fun z => by cases z)
  have fR : f ≠ rp := ne_of o.hf hM1.hr (fun z => by cases z)
  have off : ∀ {b : Addr}, a ≠ b → f ≠ b → n ≠ b → b ∉ [a, f, n] := fun h1 h2 h3 => by simp [Ne.symm h1, Ne.symm h2, Ne.symm h3]
  have hM2 : ModO K H2 m ap pp rp s at_ := hM1.mutT (.of m2) (off am A.fm nm) (off aA A.fa nA) (off aP fP A.np) (off aR fR A.nr)
  have t2 : Tabs (tabs c) H2 := tabs_mut (hT.ext e1) m2 fun x hx => by
    simp only [List.mem_cons, List.not_mem_nil, or_false] at hx
    rcases hx with rfl | rfl | rfl
    · exact ⟨_, o.ha, nt_ins, fun f z => by cases z⟩
    · exact ⟨_, o.hf, nt_dK, fun f z => by cases z⟩
    · exact ⟨_, o.hn, nt_lst, fun f z => by cases z⟩
  have m02 : Mut [a, f, n] H H2 := (Mut.of e1).trans m2
  have hb2 := hb H2 fun b u hb hS => m02 b u hb (.inl fun hm => hS (by simp only [List.mem_cons, List.not_mem_nil, or_false] at hm ⊢; rcases hm with h | h | h <;> simp [h]))
  refine hb2 H2 (Ex.refl _) _ fun H3 e3 => ⟨m, ap, pp, rp, s, at_, rfl, hM2.ex e3, I, fun T2 at2 H4 m4 hT4 hM4 => ?_⟩
  have m24 : Mut [m, ap, pp] H2 H4 := (Mut.of e3).trans m4
  have hT1 : H4 T = some (.tup [.int s.now, thV (thingS s), .int (nextH s)]) := m24 _ _ hT2 (.inr (.inl ⟨_, rfl⟩))
  have dat : ∀ {x : Addr}, H4 x = some (.tup [.int s.now, thV (thingS s), .int (nextH s)]) → Dp K H4 (.ref x) (.tuple [.int s.now, dTh (thingS s), .int (nextH s)]) := fun h => .tup (SqT.of h) (.cons (.int _) (.cons (dp_th _) (.cons (.int _) .nil)))
  have fl : Flat 1 (.tuple [.int s.now, dTh (thingS s), .int (nextH s)]) := flat_tuple fun d hd => by
    simp only [List.mem_cons, List.not_mem_nil, or_false] at hd
    rcases hd with rfl | rfl | rfl
    · exact flat_int
    · exact flat_th _
    · exact flat_int
  have p2m : p2 ≠ m := by
    rcases hp2 with rfl | h
    · exact ne_of o.hp hM1.hm (fun z => by cases z)
    · exact Ne.symm (ne_of_none hM1.hm h)
  have p2A : p2 ≠ ap := by
    rcases hp2 with rfl | h
    · exact ne_of o.hp hM1.hA (fun z => by cases z)
    · exact Ne.symm (ne_of_none hM1.hA h)
  have p2P : p2 ≠ pp := by
    rcases hp2 with rfl | h
    · exact A.ppp
    · exact Ne.symm (ne_of_none hM1.hp h)
  have offm : ∀ {b : Addr}, b ≠ m → b ≠ ap → b ≠ pp → b ∉ [m, ap, pp] := fun h1 h2 h3 => by simp [h1, h2, h3]
  have hA4 := hA2.mut m24 (offm am aA aP) (offm A.fm A.fa fP) (offm nm nA A.np) (offm p2m p2A p2P)
  have t4 : Tabs (tabs c) H4 := tabs_mut t2 m24 fun x hx => by
    simp only [List.mem_cons, List.not_mem_nil, or_false] at hx
    rcases hx with rfl | rfl | rfl
    · exact ⟨_, hM2.hm, nt_dK, fun f z => by cases z⟩
    · exact ⟨_, hM2.hA, nt_dK, fun f z => by cases z⟩
    · exact ⟨_, hM2.hp, nt_lst, fun f z => by cases z⟩
  refine .inr (.inl ⟨_, _, dat hT1, dat hT4, fl.shaped (by decide), fl.shaped (by decide), ?_⟩)
  rw [fl.refl]
  refine k [a, f, n, p2, m, ap, pp, rp] H4 ⟨.of ((m02.mono fun x hx => ?_).trans (m24.mono fun x hx => ?_)), fun x hx => ?_⟩ ⟨f, n, p2, ap, pp, rp, stepS s, _, at2, rfl, hA4, hM4, step_inv I, ⟨A.np, A.nr, A.fm, A.fa, p2P⟩, by rw [List.length_append]; show nts.length + 1 ≤ B + 1; omega⟩ t4
  · simp only [List.mem_cons, List.not_mem_nil, or_false] at hx ⊢
    rcases hx with h | h | h <;> simp [h]
  · simp only [List.mem_cons, List.not_mem_nil, or_false] at hx ⊢
    rcases hx with h | h | h <;> simp [h]
  · simp only [List.mem_cons, List.not_mem_nil, or_false] at hx
    rcases hx with rfl | rfl | rfl | rfl | rfl | rfl | rfl | rfl
    · exact .inl (by simp)
    · exact .inl (by simp)
    · exact .inl (by simp)
    · rcases hp2 with h | h
      · exact .inl (by simp [h])
      · exact .inr (.of (fresh_of e1 h))
    · exact .inl (by simp)
    · exact .inl (by simp)
    · exact .inl (by simp)
    · exact .inl (by simp)
theorem act_changed {cell : Int} (ha : Ev ta σ H (.ref a)) (hb : ∀ H1, Ex H H1 → Ev tb σ H1 (.ref m)) (hd : ∀ H1, Ex H H1 → Ev td σ H1 (.int cell)) (hc : 0 ≤ cell) (h : Side K c H S a m B) (hT : Tabs (tabs c) H) (hB : B < 90000)
    (k : ∀ S' H1, Moves S S' H H1 → Side K c H1 S' a m (B + 1) → Tabs (tabs c) H1 → Q (.bl true) H1) :
    (tCall (sp_k12_l_changed K c) [] E (tCons ta (tCons tb (tCons td tNil)))) σ H Q := by
  obtain ⟨f, n, p, ap, pp, rp, s, nts, at_, rfl, hA, hM, I, A, hl⟩ := h.ex
  refine ha H (Ex.refl _) _ fun H1 e1 => hb H1 e1 H1 (Ex.refl _) _ fun H2 e2 => hd H2 (e1.trans e2) H2 (Ex.refl _) _ fun H3 e3 => ?_
  have e13 := (e1.trans e2).trans e3
  refine ⟨a, f, n, p, s, nts, m, ap, pp, rp, at_, cell, rfl, hA.ex e13, hM.ex e13, I, hT.ext e13, by omega, hc, A, fun p' pp' rp' s' nts' at' H4 m4 t4 hp' hpp' hrp' hA4 hM4 I4 hl4 A4 => ?_⟩
  have back : ∀ {b : Addr}, NewT H3 b → NewT H b := fun {b} hb u hu hn => hb u (e13 _ _ hu) hn
  refine k [a, f, n, p', m, ap, pp', rp'] H4 ⟨(MutT.of (.of e13)).trans (m4.mono fun x hx => ?_), fun x hx => ?_⟩ ⟨f, n, p', ap, pp', rp', s', nts', at', rfl, hA4, hM4, I4, A4, by omega⟩ t4
  · simp only [List.mem_cons, List.not_mem_nil, or_false] at hx ⊢
    rcases hx with h | h | h <;> simp [h]
  · simp only [List.mem_cons, List.not_mem_nil, or_false] at hx
    rcases hx with rfl | rfl | rfl | rfl | rfl | rfl | rfl | rfl
    · exact .inl (by simp)
    · exact .inl (by simp)
    · exact .inl (by simp)
    · rcases hp' with h | h
      · exact .inl (by simp [h])
      · exact .inr (back h)
    · exact .inl (by simp)
    · exact .inl (by simp)
    · rcases hpp' with h | h
      · exact .inl (by simp [h])
      · exact .inr (back h)
    · rcases hrp' with h | h
      · exact .inl (by simp [h])
      · exact .inr (back h)
theorem act_ahead {cell : Int} (ha : Ev ta σ H (.ref a)) (hb : ∀ H1, Ex H H1 → Ev tb σ H1 (.ref m)) (hd : ∀ H1, Ex H H1 → Ev td σ H1 (.int cell)) (hc : 0 ≤ cell) (h : Side K c H S a m B) (hT : Tabs (tabs c) H)
    (k : ∀ H1, Moves S S H H1 → Side K c H1 S a m B → Tabs (tabs c) H1 → Q (.bl true) H1) :
    (tCall (sp_k12_l_ahead K c) [] E (tCons ta (tCons tb (tCons td tNil)))) σ H Q := by
  have h0 := h
  obtain ⟨f, n, p, ap, pp, rp, s, nts, at_, rfl, hA, hM, I, A, hl⟩ := h.ex
  refine ha H (Ex.refl _) _ fun H1 e1 => hb H1 e1 H1 (Ex.refl _) _ fun H2 e2 => hd H2 (e1.trans e2) H2 (Ex.refl _) _ fun H3 e3 => ?_
  have e13 := (e1.trans e2).trans e3
  refine ⟨a, f, n, p, s, nts, m, ap, pp, rp, at_, cell, rfl, hA.ex e13, hM.ex e13, I, hT.ext e13, hc, fun H4 m4 t4 => ?_⟩
  have M : MutT [] H H4 := (MutT.of (.of e13)).trans m4
  exact k H4 ⟨M.mono fun x hx => absurd hx List.not_mem_nil, fun x hx => .inl hx⟩ (h0.keep M fun x hx => List.not_mem_nil) t4
end
end Tr

/-! Law k12: a turn of the loop. -/
namespace Tr
open PySem L2 PySem.Spec PyProof.Rows Evl LamX

section
variable {K : PySem.W.Frag} {c : Cs} {E : XK} {H : Hp} {S : List Addr} {a m : Addr} {B : Nat} {σ : L2.St} {D : Ends} {tz : TS}
theorem q_ifM {tt : TT} {tu : TS} {R : Hp → Prop} (h : ∀ Q' : Bool → Hp → Prop, (∀ H', R H' → Q' false H') → tt σ H Q') (hz : ∀ H', R H' → tz D σ H') : tSeq (tIfS tt tu tNext) tz D σ H := h _ fun H' r => hz H' r
theorem s_ifM {tt : TT} {tu : TS} {R : Hp → Prop} (h : ∀ Q' : Bool → Hp → Prop, (∀ H', R H' → Q' false H') → tt σ H Q') (hz : ∀ H', R H' → D.nx σ H') : tIfS tt tu tNext D σ H := h _ fun H' r => hz H' r
/-- a part of law: slots _law_script, _law_k, _law_rows, _law_models, _law_halls, _law_cell, _law_draw, _law_at, _law_way_by, _law_row -/
def t_k12_law_4b (K : PySem.W.Frag) (c : Cs) (E : XK) : TS :=
  (tSeq (tAsg (tCall (sp_l_mixed K c) [] E0 (tCons (tVar 5) (tCons (tVar 1) tNil))) (gName 6))
  (tSeq (tAsg (tOp xMod (tVar 6) (tC (.int 2))) (gName 7))
  (tSeq (tAsg (tOp xMod (tOp xDiv (tVar 6) (tC (.int 2))) (tC (.int 8))) (gName 8))
  (tSeq (tIfS (tAnd (tTest (tOp xLt (tVar 8) (tC (.int 5)))) (tTest (tOp (xNe K) (tMeth c.hall "step" (sp_h_step K c) [] E0 (tOp (rIx K) (tVar 4) (tVar 7)) tNil) (tCall (sp_k12_l_step K c) [] E0 (tCons (tOp (rIx K) (tVar 3) (tVar 7)) tNil))))) (tRet (tC (.bl false))) tNext)
  (tSeq (tIfS (tOr (tTest (tOp (xEq K) (tVar 8) (tC (.int 5)))) (tTest (tOp (xEq K) (tVar 8) (tC (.int 6))))) (tIfS (tNot (tB (tCall (sp_k12_l_changed K c) [] E0 (tCons (tOp (rIx K) (tVar 4) (tVar 7)) (tCons (tOp (rIx K) (tVar 3) (tVar 7)) (tCons (tOp xDiv (tVar 6) (tC (.int 16))) tNil)))))) (tRet (tC (.bl false))) tNext) tNext)
  (tSeq (tIfS (tAnd (tTest (tOp (xEq K) (tVar 8) (tC (.int 7)))) (tNot (tB (tCall (sp_k12_l_ahead K c) [] E0 (tCons (tOp (rIx K) (tVar 4) (tVar 7)) (tCons (tOp (rIx K) (tVar 3) (tVar 7)) (tCons (tOp xDiv (tVar 6) (tC (.int 16))) tNil))))))) (tRet (tC (.bl false))) tNext)
  (tIfS (tNot (tB (tCall (sp_k12_l_stands K c) [] E0 (tCons (tOp (rIx K) (tVar 4) (tVar 7)) (tCons (tOp (rIx K) (tVar 3) (tVar 7)) tNil))))) (tRet (tC (.bl false))) tNext)))))))

theorem k12_body {x0 x2 u6 u7 u8 : Option V} {l3 l4 : Addr} {hs ms : List V} {cell : Int} {i : Nat} (hl3 : H l3 = some (.lst ms)) (hl4 : H l4 = some (.lst hs)) (n3 : l3 ∉ S) (n4 : l4 ∉ S) (hh : atI hs (mixed cell i % 2) = some (.ref a)) (hm : atI ms (mixed cell i % 2) = some (.ref m)) (hS : Side K c H S a m B) (hT : Tabs (tabs c) H) (hB : B < 80000)
    (k : ∀ S' H1 u6 u7 u8, Moves S S' H H1 → Side K c H1 S' a m (B + 2) → Tabs (tabs c) H1 → D.nx [x0, some (.int (i : Int)), x2, some (.ref l3), some (.ref l4), some (.int cell), u6, u7, u8, none] H1) :
    t_k12_law_4b K c E D [x0, some (.int (i : Int)), x2, some (.ref l3), some (.ref l4), some (.int cell), u6, u7, u8, none] H := by
  refine q_asg (v := .int (mixed cell i)) (ev_l_mixed (ev_var (i := 5) rfl) (ev_var (i := 1) rfl)) fun H1 e1 => ?_
  have hd0 := mixed_lo cell i
  generalize mixed cell (i : Int) = d at hd0 hh hm
  refine q_asg (v := .int (d % 2)) (ev_op (ev_var (i := 6) rfl) ev_c (rv_mod (by decide))) fun H2 e2 => ?_
  refine q_asg (v := .int (d / 2 % 8)) (ev_op (ev_op (ev_var (i := 6) rfl) ev_c (rv_div (by k_caughtB))) ev_c (rv_mod (by decide))) fun H3 e3 => ?_
  have e13 := (e1.trans e2).trans e3
  have ia : ∀ {H' : Hp} {S' : List Addr}, Moves S S' H H' → Ev (tOp (rIx K) (tVar 4) (tVar 7)) [x0, some (.int (i : Int)), x2, some (.ref l3), some (.ref l4), some (.int cell), some (.int d), some (.int (d % 2)), some (.int (d / 2 % 8)), none] H' (.ref a) := fun M =>
    ev_ix (i := d % 2) (evq_of (ev_var (i := 4) rfl) (.inl (SqL.of (M.off hl4 nt_lst n4).1))) (fun _ _ => ev_var (i := 7) rfl) hh
  have im : ∀ {H' : Hp}, H' l3 = some (.lst ms) → Ev (tOp (rIx K) (tVar 3) (tVar 7)) [x0, some (.int (i : Int)), x2, some (.ref l3), some (.ref l4), some (.int cell), some (.int d), some (.int (d % 2)), some (.int (d / 2 % 8)), none] H' (.ref m) := fun h =>
    ev_ix (i := d % 2) (evq_of (ev_var (i := 3) rfl) (.inl (SqL.of h))) (fun _ _ => ev_var (i := 7) rfl) hm
  have M3 : Moves S S H H3 := .ex e13
  refine q_ifM (R := fun H' => ∃ S', Moves S S' H H' ∧ Side K c H' S' a m (B + 1) ∧ Tabs (tabs c) H') (fun Q' q' => ?_) ?_
  · refine (et_test (ev_op (ev_var (i := 8) rfl) ev_c rv_lt)) H3 (Ex.refl _) _ fun H4 e4 => ?_
    have M4 : Moves S S H H4 := .ex (e13.trans e4)
    have S4 := hS.keep (MutT.of (.of (e13.trans e4))) (W := []) fun x hx => List.not_mem_nil
    by_cases hw : d / 2 % 8 < 5
    · rw [decide_eq_true hw]
      refine act_step (c := c) (B := B) (ia M4) (fun H' h' => im (h' _ _ (M4.off hl3 nt_lst n3).1 n3)) S4 (hT.ext (e13.trans e4)) (by omega) fun S' H5 M5 S5 t5 => ⟨false, rfl, q' H5 ⟨S', M4.trans M5, S5, t5⟩⟩
    · rw [decide_eq_false hw]
      exact q' H4 ⟨S, M4, S4.up (by omega), hT.ext (e13.trans e4)⟩
  rintro H4 ⟨S4, M4, hS4, t4⟩
  have o3 := M4.off hl3 nt_lst n3
  refine q_whenK (R := fun H' => ∃ S', Moves S S' H H' ∧ Side K c H' S' a m (B + 2) ∧ Tabs (tabs c) H') (et_or (et_test (ev_op (ev_var (i := 8) rfl) ev_c rv_eqI)) fun _ => et_test (ev_op (ev_var (i := 8) rfl) ev_c rv_eqI)) (fun _ hz H5 e5 => ?_) (fun _ H5 e5 => ⟨S4, M4.trans (.ex e5), (hS4.keep (MutT.of (.of e5)) (W := []) fun x hx => List.not_mem_nil).up (by omega), t4.ext e5⟩) ?_
  · have S5 := hS4.keep (MutT.of (.of e5)) (W := []) fun x hx => List.not_mem_nil
    refine s_ifM (D := { D with nx := _ }) (R := fun H' => ∃ S', Moves S S' H H' ∧ Side K c H' S' a m (B + 2) ∧ Tabs (tabs c) H') (fun Q' q' => ?_) hz
    exact act_changed (c := c) (B := B + 1) (cell := d / 16) (ia (M4.trans (.ex e5))) (fun H' e' => im (e' _ _ (e5 _ _ o3.1))) (fun H' e' => ev_op (ev_var (i := 6) rfl) ev_c (rv_div (by k_caughtB))) (by omega) S5 (t4.ext e5) (by omega) fun S' H6 M6 S6 t6 => ⟨true, rfl, q' H6 ⟨S', (M4.trans (.ex e5)).trans M6, S6, t6⟩⟩
  rintro H5 ⟨S5, M5, hS5, t5⟩
  have o5 := M5.off hl3 nt_lst n3
  refine q_ifM (R := fun H' => ∃ S', Moves S S' H H' ∧ Side K c H' S' a m (B + 2) ∧ Tabs (tabs c) H') (fun Q' q' => ?_) ?_
  · refine (et_test (ev_op (ev_var (i := 8) rfl) ev_c rv_eqI)) H5 (Ex.refl _) _ fun H6 e6 => ?_
    have S6 := hS5.keep (MutT.of (.of e6)) (W := []) fun x hx => List.not_mem_nil
    have M6 : Moves S S5 H H6 := M5.trans (.ex e6)
    by_cases hw : d / 2 % 8 = 7
    · rw [decide_eq_true hw]
      refine act_ahead (c := c) (B := B + 2) (cell := d / 16) (ia M6) (fun H' e' => im (e' _ _ (e6 _ _ o5.1))) (fun H' e' => ev_op (ev_var (i := 6) rfl) ev_c (rv_div (by k_caughtB))) (by omega) S6 (t5.ext e6) fun H7 M7 S7 t7 => ⟨true, rfl, q' H7 ⟨S5, M6.trans M7, S7, t7⟩⟩
    · rw [decide_eq_false hw]
      exact q' H6 ⟨S5, M6, S6, t5.ext e6⟩
  rintro H6 ⟨S6, M6, hS6, t6⟩
  have o6 := M6.off hl3 nt_lst n3
  refine s_when (b := false) (et_is (et_not (et_B (ev_stands (E := E0) (ia M6) (fun H' e' => im (e' _ _ o6.1)) hS6))) rfl) (fun z => nomatch z) fun _ H7 e7 => ?_
  exact k S6 H7 _ _ _ (M6.trans (.ex e7)) (hS6.keep (MutT.of (.of e7)) (W := []) fun x hx => List.not_mem_nil) (t6.ext e7)
/-- a comprehension whose things are known by all that came before -/
theorem lcAcc {J : It} {n : Nat} {I : List V → Hp → Prop} {g : TG} {ws : List Nat} {te : TE} {Q : VK} {H1 : Hp} (hI : ∀ xs H H', Ex H H' → I xs H → I xs H') (h0 : I [] H1) (hn : n ≤ 40000) (hgo : ∀ i H', i < n → Ex H1 H' → J.go i H') (hst : ∀ H', Ex H1 H' → J.stop n H')
    (hy : ∀ i x H' H'', i < n → Ex H1 H' → J.yld i H' x H'' → Ex H' H'' ∧ ∀ G : L2.St → Hp → Prop, (∀ σ2 H3, wipe σ2 ws = wipe σ ws → Ex H'' H3 → (∀ (Dl : Addr) (xs : List V) (Q' : VK), H1 Dl = none → H3 Dl = some (.lst xs) → xs.length = i → I xs (del H3 Dl) → (∀ y H4, Ex H3 H4 → I (xs ++ [y]) (del H4 Dl) → Q' y H4) → te σ2 H3 Q') → G σ2 H3) → g x (wipe σ ws) H'' G)
    (q : ∀ Dl xs H2, H1 Dl = none → Ex H1 H2 → H2 Dl = some (.lst xs) → xs.length = n → I xs (del H2 Dl) → Q (.ref Dl) H2) :
    ∀ Dl, H1 Dl = none → ∃ W : Nat → Nat → Hp → Prop, (∃ m, W 0 m (upd H1 Dl (.lst []))) ∧ ∀ i m H, W i m H →
      (J.stop i H ∧ Q (.ref Dl) H) ∨ (J.go i H ∧ ∃ Nx : Hp → Prop, (∀ H', Nx H' → ∃ m', m' < m ∧ W (i + 1) m' H') ∧ ∀ x H', J.yld i H x H' → g x (wipe σ ws) H' fun σ2 H2 => wipe σ2 ws = wipe σ ws ∧ tYes σ2 H2 fun b H3 =>
        if b = true then te σ2 H3 fun y H4 => ∃ acc, H4 Dl = some (.lst acc) ∧ acc.length < sizeLine ∧ Nx (upd H4 Dl (.lst (acc ++ [y]))) else Nx H3) := by
  intro Dl hD
  refine ⟨fun i m H => m + i = n ∧ Ex H1 H ∧ ∃ xs, H Dl = some (.lst xs) ∧ xs.length = i ∧ I xs (del H Dl), ⟨n, rfl, Ex.new hD, [], upd_same, rfl, hI _ _ _ (ex_del_new hD) h0⟩, ?_⟩
  rintro i m H ⟨hm, e1, xs, hx, hxl, hp⟩
  by_cases hi : i < n
  · refine .inr ⟨hgo i H hi e1, fun H' => Ex H1 H' ∧ ∃ xs, H' Dl = some (.lst xs) ∧ xs.length = i + 1 ∧ I xs (del H' Dl), fun H' z => ⟨m - 1, by omega, by omega, z⟩, fun x H' hyl => ?_⟩
    obtain ⟨eY, hg⟩ := hy i x H H' hi e1 hyl
    refine hg _ fun σ2 H3 hw eZ hu => ⟨hw, ?_⟩
    show te σ2 H3 _
    have hx3 := eZ _ _ (eY _ _ hx)
    refine hu Dl xs _ hD hx3 hxl (hI _ _ _ (del_ex (eY.trans eZ)) hp) fun y H4 e4 hI4 => ⟨xs, e4 _ _ hx3, sz_lt (by omega), Ex.mut (((e1.trans eY).trans eZ).trans e4) hD, xs ++ [y], upd_same, by rw [List.length_append, hxl]; rfl, hI _ _ _ (ex_dels (but_upd (Ex.refl _))) hI4⟩
  · have : i = n := by omega
    subst this
    exact .inl ⟨hst H e1, q Dl xs H hD e1 hx hxl hp⟩
theorem lc_rngA {I : List V → Hp → Prop} {ta : TA} {te : TE} {j : Nat} {ws : List Nat} {n : Int} {Q : VK} (h : EvA ta σ H [.int n]) (hn : 0 ≤ n ∧ n ≤ 40000) (hw : ∀ x, wipe ((wipe σ ws).set j (some x)) ws = wipe σ ws) (hI : ∀ xs H H', Ex H H' → I xs H → I xs H') (h0 : I [] H)
    (hy : ∀ (i : Nat) H3, (i : Int) < n → Ex H H3 → ∀ (Dl : Addr) (xs : List V) (Q' : VK), H Dl = none → H3 Dl = some (.lst xs) → xs.length = i → I xs (del H3 Dl) → (∀ y H4, Ex H3 H4 → I (xs ++ [y]) (del H4 Dl) → Q' y H4) → te ((wipe σ ws).set j (some (.int (i : Int)))) H3 Q')
    (q : ∀ Dl xs H2, H Dl = none → Ex H H2 → H2 Dl = some (.lst xs) → xs.length = n.toNat → I xs (del H2 Dl) → Q (.ref Dl) H2) : (tLc (iRng1 ta) (gName j) tYes te ws) σ H Q :=
  h H (Ex.refl _) _ fun H1 e1 => ⟨n, rfl, by omega, by omega, lcAcc (J := Itr 0 n.toNat) (σ := σ) (n := n.toNat) (I := I) (g := gName j) (ws := ws) (te := te) (Q := Q) (H1 := H1) hI (hI _ _ _ e1 h0) (by omega) (fun i H' hi _ => hi) (fun H' _ => Nat.le_refl _) (fun i x H' H'' hi e' y => by
    obtain ⟨rfl, rfl⟩ := y
    refine ⟨Ex.refl _, fun G hG => hG _ _ (hw _) (Ex.refl _) fun Dl xs Q' hD hx hxl hIx k => ?_⟩
    have z := hy i H'' (by omega) (e1.trans e') Dl xs Q' (fresh_of e1 hD) hx hxl hIx k
    rw [show (0 : Int) + (i : Int) = (i : Int) from Int.zero_add _]
    exact z) fun Dl xs H2 hD e2 h2 hl hI2 => q Dl xs H2 (fresh_of e1 hD) (e1.trans e2) h2 hl hI2⟩
theorem lc_seqA {I : List V → Hp → Prop} {tl te : TE} {a : Addr} {ys : List V} {j : Nat} {ws : List Nat} {Q : VK} (h : Ev tl σ H (.ref a)) (hx : SqL K H a ys) (hn : ys.length ≤ 40000) (hw : ∀ x, wipe ((wipe σ ws).set j (some x)) ws = wipe σ ws) (hI : ∀ xs H H', Ex H H' → I xs H → I xs H') (h0 : I [] H)
    (hy : ∀ (i : Nat) y0 H3, ys[i]? = some y0 → Ex H H3 → ∀ (Dl : Addr) (xs : List V) (Q' : VK), H Dl = none → H3 Dl = some (.lst xs) → xs.length = i → I xs (del H3 Dl) → (∀ y H4, Ex H3 H4 → I (xs ++ [y]) (del H4 Dl) → Q' y H4) → te ((wipe σ ws).set j (some y0)) H3 Q')
    (q : ∀ Dl xs H2, H Dl = none → Ex H H2 → H2 Dl = some (.lst xs) → xs.length = ys.length → I xs (del H2 Dl) → Q (.ref Dl) H2) : (tLc (iSeq K tl) (gName j) tYes te ws) σ H Q :=
  .inl (h H (Ex.refl _) _ fun H1 e1 => ⟨a, rfl, ⟨ys, ex_l e1 hx⟩, lcAcc (J := Itl K a) (σ := σ) (n := ys.length) (I := I) (g := gName j) (ws := ws) (te := te) (Q := Q) (H1 := H1) hI (hI _ _ _ e1 h0) hn (fun i H' hi e' => ⟨ys, ys[i], ex_l (e1.trans e') hx, List.getElem?_eq_getElem hi⟩) (fun H' e' => ⟨ys, ex_l (e1.trans e') hx, Nat.le_refl _⟩) (fun i x H' H'' hi e' y => by
    obtain ⟨rfl, hy'⟩ := y
    have hxi := hy' ys (ex_l (e1.trans e') hx)
    exact ⟨Ex.refl _, fun G hG => hG _ _ (hw _) (Ex.refl _) fun Dl xs Q' hD hx' hxl hIx k => hy i x H'' hxi (e1.trans e') Dl xs Q' (fresh_of e1 hD) hx' hxl hIx k⟩) fun Dl xs H2 hD e2 h2 hl hI2 => q Dl xs H2 (fresh_of e1 hD) (e1.trans e2) h2 hl hI2⟩)
end
end Tr

/-! Law k12: the law. -/
namespace Tr
open PySem L2 PySem.Spec PyProof.Rows Evl LamX

def rowF (ns : List Int) (j : Nat) : List Int := going (mixed (gi ns (j : Int)) (j : Int)) (1 + mixed (gi ns (j : Int)) (j : Int) / 10 % 9)
theorem rowF_good (ns : List Int) (j : Nat) : Good (rowF ns j) ∧ clashF (rowF ns j) = none := by
  have h := mixed_lo (gi ns (j : Int)) (j : Int)
  unfold rowF
  generalize mixed (gi ns (j : Int)) (j : Int) = d at h
  have m1 : 1 ≤ 1 + d / 10 % 9 := by omega
  have m9 : 1 + d / 10 % 9 ≤ 40 := by omega
  exact ⟨good_going m1 m9, going_clash m1⟩
theorem cutV_lo {xs : List V} {i : Int} (h0 : 0 ≤ i) : cutV xs (some i) none = xs.drop i.toNat := by
  by_cases h : i ≤ xs.length
  · exact cutV_from h0 h
  · unfold cutV
    have e1 : HT.sIx xs.length 0 (some i) = xs.length := by
      unfold HT.sIx
      simp only
      rw [if_neg (by omega)]
      omega
    have e2 : HT.sIx xs.length xs.length none = xs.length := rfl
    rw [e1, e2, Nat.sub_self, List.take_zero, List.drop_of_length_le (by omega)]
section
variable {K : PySem.W.Frag} {c : Cs} {E : XK} {H : Hp} {σ : L2.St} {tb : TE} {Q : VK}
theorem make_hall {ns : List Int} (hb : EvQ K tb σ H (ns.map V.int)) (hg : Good ns) (hc : clashF ns = none) (k : ∀ a f n p H1, Ex H H1 → H a = none → H f = none → H n = none → H p = none → HallAt K c.hall H1 a f n p (initS ns) [.beg ns] → Q (.ref a) H1) :
    (tMake c.hall (sp_h_init K c) [] E (tCons tb tNil)) σ H Q :=
  hb H (Ex.refl _) _ fun r H1 e1 hr => fun x dx hx hdx hne => by
    have eN : Ex H1 (upd (upd H1 dx (.own x)) x (.ins c.hall dx [])) := (Ex.new hdx).trans (Ex.new (by rw [upd_ne (Ne.symm hne)]; exact hx))
    refine ⟨x, dx, .ref r, rfl, upd_same, .inr ⟨ns, ⟨r, rfl, ex_q eN hr⟩, hg, .inr ⟨hc, fun f n p H2 m hf hn hp hA => ⟨rfl, k x f n p H2 (fun b o hb => m b o (eN _ _ (e1 _ _ hb)) (.inl ?_)) (fresh_of e1 hx) (fresh_of (e1.trans eN) hf) (fresh_of (e1.trans eN) hn) (fresh_of (e1.trans eN) hp) hA⟩⟩⟩⟩
    intro z
    have := List.mem_singleton.mp z
    subst this
    rw [e1 _ _ hb] at hx
    cases hx
theorem q_asgC {te : TE} {i : Nat} {D : Ends} {tz : TS} (h : te σ H fun v H1 => tz D (σ.set i (some v)) H1) : tSeq (tAsg te (gName i)) tz D σ H := h
theorem t_lst2 {t1 t2 : TE} (h : t1 σ H fun v H1 => t2 σ H1 fun w H2 => [v, w].length ≤ sizeLine ∧ ∀ p, H2 p = none → Q (.ref p) (upd H2 p (.lst [v, w]))) : tLst (tCons t1 (tCons t2 tNil)) σ H Q := h
/-- a model, new in Hb's eyes -/
def MdlA (K : PySem.W.Frag) (Hb H : Hp) (v : V) (F : List Int) (S : List Addr) : Prop := ∃ m ap pp rp, v = .ref m ∧ S = [m, ap, pp, rp] ∧ (∀ x ∈ S, Hb x = none) ∧ ModO K H m ap pp rp (initS F) 0
theorem MdlA.ex {Hb H1 : Hp} {v : V} {F : List Int} {S : List Addr} (e : Ex H H1) (h : MdlA K Hb H v F S) : MdlA K Hb H1 v F S := let ⟨m, ap, pp, rp, e1, e2, e3, hM⟩ := h; ⟨m, ap, pp, rp, e1, e2, e3, hM.ex e⟩
theorem MdlA.here {Hb : Hp} {v : V} {F : List Int} {S : List Addr} (h : MdlA K Hb H v F S) : ∀ x ∈ S, ∃ u, H x = some u := by
  obtain ⟨m, ap, pp, rp, _, rfl, _, hM⟩ := h
  intro x hx
  simp only [List.mem_cons, List.not_mem_nil, or_false] at hx
  rcases hx with rfl | rfl | rfl | rfl
  · exact ⟨_, hM.hm⟩
  · exact ⟨_, hM.hA⟩
  · exact ⟨_, hM.hp⟩
  · exact ⟨_, hM.hr⟩
theorem MdlA.ne {Hb : Hp} {v : V} {F : List Int} {S : List Addr} {Dl : Addr} (h : MdlA K Hb (L2.del H Dl) v F S) : Dl ∉ S := fun hm => by
  obtain ⟨u, hu⟩ := h.here Dl hm
  rw [L2.del_same] at hu
  cases hu
def Mdls (K : PySem.W.Frag) (Hb : Hp) (F0 F1 : List Int) (xs : List V) (H : Hp) : Prop := xs = [] ∨ (∃ v0 S0, xs = [v0] ∧ MdlA K Hb H v0 F0 S0) ∨ ∃ v0 v1 S0 S1, xs = [v0, v1] ∧ MdlA K Hb H v0 F0 S0 ∧ MdlA K Hb H v1 F1 S1 ∧ ∀ x ∈ S0, x ∉ S1
theorem mdls_ex {Hb : Hp} {F0 F1 : List Int} (xs : List V) (H H' : Hp) (e : Ex H H') (h : Mdls K Hb F0 F1 xs H) : Mdls K Hb F0 F1 xs H' := by
  rcases h with h | ⟨v0, S0, e0, h⟩ | ⟨v0, v1, S0, S1, e0, h0, h1, hd⟩
  · exact .inl h
  · exact .inr (.inl ⟨v0, S0, e0, h.ex e⟩)
  · exact .inr (.inr ⟨v0, v1, S0, S1, e0, h0.ex e, h1.ex e, hd⟩)
theorem ModO.del {H1 : Hp} {m ap pp rp Dl : Addr} {s : HS} {at_ : Int} (h : ModO K H1 m ap pp rp s at_) (h1 : m ≠ Dl) (h2 : ap ≠ Dl) (h3 : pp ≠ Dl) (h4 : rp ≠ Dl) : ModO K (L2.del H1 Dl) m ap pp rp s at_ :=
  ⟨(L2.del_ne h1).trans h.hm, (L2.del_ne h3).trans h.hp, (L2.del_ne h4).trans h.hr, (L2.del_ne h2).trans h.hA, h.a0, h.isat, h.pr, h.ma⟩
end
def sp_k12_law (K : PySem.W.Frag) (c : Cs) : Sp := fun vs H Q _ => ∃ (a : Addr) (ns : List Int), vs = [.ref a] ∧ SqL K H a (ns.map V.int) ∧ ns.length ≤ 63 ∧ Tabs (tabs c) H ∧ ∀ H', Q (.bl true) H'
/-- law: slots _law_script, _law_k, _law_rows, _law_models, _law_halls, _law_cell, _law_draw, _law_at, _law_way_by, _law_row -/
def t_k12_law (K : PySem.W.Frag) (c : Cs) (E : XK) : TS :=
  (tSeq (tAsg (tLc (iRng1 (tCons (tC (.int 2)) tNil)) (gName 1) tYes (tCall (sp_l_going K c) [] E0 (tCons (tCall (sp_l_cell_at K c) [] E0 (tCons (tVar 0) (tCons (tVar 1) tNil))) (tCons (tOp (xAdd K) (tC (.int 1)) (tOp xMod (tOp xDiv (tCall (sp_l_cell_at K c) [] E0 (tCons (tVar 0) (tCons (tVar 1) tNil))) (tC (.int 10))) (tC (.int 9)))) tNil))) [1]) (gName 2))
  (tSeq (tAsg (tLc (iSeq K (tVar 2)) (gName 9) tYes (tCall (sp_k12_l_model K c) [] E0 (tCons (tVar 9) tNil)) [9]) (gName 3))
  (tSeq (tAsg (tLst (tCons (tMake c.hall (sp_h_init K c) [] E0 (tCons (tOp (rIx K) (tVar 2) (tC (.int 0))) tNil)) (tCons (tMake c.hall (sp_h_init K c) [] E0 (tCons (tCB (cTuple K) (tCons (tOp (rIx K) (tVar 2) (tC (.int 1))) tNil)) tNil)) tNil))) (gName 4))
  (tSeq (tDrop (tBM0 K "list" rClear (tOp (rIx K) (tVar 2) (tC (.int 0)))))
  (tSeq (tFor (iEnumQ K (tCons (tOp (xAdd K) (tSl (xSl K) (tVar 0) (tPart (tC (.int 2))) tNoPart) (tLst (tCons (tC (.int 0)) (tCons (tC (.int 1)) (tCons (tC (.int 2)) (tCons (tC (.int 3)) tNil)))))) tNil)) (gTup K 2 (gCons (gName 1) (gCons (gName 5) gNil))) (tSeq (tAsg (tCall (sp_l_mixed K c) [] E0 (tCons (tVar 5) (tCons (tVar 1) tNil))) (gName 6))
  (tSeq (tAsg (tOp xMod (tVar 6) (tC (.int 2))) (gName 7))
  (tSeq (tAsg (tOp xMod (tOp xDiv (tVar 6) (tC (.int 2))) (tC (.int 8))) (gName 8))
  (tSeq (tIfS (tAnd (tTest (tOp xLt (tVar 8) (tC (.int 5)))) (tTest (tOp (xNe K) (tMeth c.hall "step" (sp_h_step K c) [] E0 (tOp (rIx K) (tVar 4) (tVar 7)) tNil) (tCall (sp_k12_l_step K c) [] E0 (tCons (tOp (rIx K) (tVar 3) (tVar 7)) tNil))))) (tRet (tC (.bl false))) tNext)
  (tSeq (tIfS (tOr (tTest (tOp (xEq K) (tVar 8) (tC (.int 5)))) (tTest (tOp (xEq K) (tVar 8) (tC (.int 6))))) (tIfS (tNot (tB (tCall (sp_k12_l_changed K c) [] E0 (tCons (tOp (rIx K) (tVar 4) (tVar 7)) (tCons (tOp (rIx K) (tVar 3) (tVar 7)) (tCons (tOp xDiv (tVar 6) (tC (.int 16))) tNil)))))) (tRet (tC (.bl false))) tNext) tNext)
  (tSeq (tIfS (tAnd (tTest (tOp (xEq K) (tVar 8) (tC (.int 7)))) (tNot (tB (tCall (sp_k12_l_ahead K c) [] E0 (tCons (tOp (rIx K) (tVar 4) (tVar 7)) (tCons (tOp (rIx K) (tVar 3) (tVar 7)) (tCons (tOp xDiv (tVar 6) (tC (.int 16))) tNil))))))) (tRet (tC (.bl false))) tNext)
  (tIfS (tNot (tB (tCall (sp_k12_l_stands K c) [] E0 (tCons (tOp (rIx K) (tVar 4) (tVar 7)) (tCons (tOp (rIx K) (tVar 3) (tVar 7)) tNil))))) (tRet (tC (.bl false))) tNext))))))))
  (tRet (tAndV (tCall (sp_k12_l_stands K c) [] E0 (tCons (tOp (rIx K) (tVar 4) (tC (.int 0))) (tCons (tOp (rIx K) (tVar 3) (tC (.int 0))) tNil))) (tCall (sp_k12_l_stands K c) [] E0 (tCons (tOp (rIx K) (tVar 4) (tC (.int 1))) (tCons (tOp (rIx K) (tVar 3) (tC (.int 1))) tNil))))))))))

section
variable {K : PySem.W.Frag} {c : Cs} {vs : List V} {H : Hp} {Q : VK} {E : XK}
theorem pure_k12_law (h : sp_k12_law K c vs H Q E) : t_k12_law K c E { nx := fun _ H' => Q .non H', rt := Q } (start ["_law_script", "_law_k", "_law_rows", "_law_models", "_law_halls", "_law_cell", "_law_draw", "_law_at", "_law_way_by", "_law_row"] vs) H := by
  obtain ⟨a0, ns, rfl, hs, hl, hT, q⟩ := h
  -- the rows
  refine q_asgC (i := 2) ?_
  refine lc_rngA (j := 1) (ws := [1]) (σ := start ["_law_script", "_law_k", "_law_rows", "_law_models", "_law_halls", "_law_cell", "_law_draw", "_law_at", "_law_way_by", "_law_row"] [V.ref a0]) (n := 2) (I := fun xs H' => ∀ (j : Nat) v, xs[j]? = some v → ∃ r, v = .ref r ∧ H r = none ∧ H' r = some (.lst ((rowF ns j).map V.int))) (ea_cons ev_c ea_nil) (by decide) (fun x => rfl) (fun xs H H' e h j v hv => let ⟨r, e1, h0, h1⟩ := h j v hv; ⟨r, e1, h0, e _ _ h1⟩) (fun j v hv => by cases hv) (fun i H'' hi eH Dl xs Q' hD hx hxl hIx k => ?_) fun l2 xs H1 hl2 e1 h1 hxl hI => ?_
  · have cell : Ev (tCall (sp_l_cell_at K c) [] E0 (tCons (tVar 0) (tCons (tVar 1) tNil))) [some (.ref a0), some (.int (i : Int)), none, none, none, none, none, none, none, none] H'' (.int (mixed (gi ns (i : Int)) (i : Int))) :=
      ev_l_cell_at (ev_var (i := 0) rfl) (ev_var (i := 1) rfl) (ex_l eH hs) (by omega)
    have hm0 := mixed_lo (gi ns (i : Int)) (i : Int)
    refine (el_l_going (K := K) (c := c) (σ := [some (.ref a0), some (.int (i : Int)), none, none, none, none, none, none, none, none]) (a := mixed (gi ns (i : Int)) (i : Int)) (m := 1 + mixed (gi ns (i : Int)) (i : Int) / 10 % 9) cell (ev_op ev_c (ev_op (ev_op cell ev_c (rv_div (by k_caughtB))) ev_c (rv_mod (by decide))) rv_addI) (by omega) (by omega)) H'' (Ex.refl _) _ fun r H4 hr e4 h4 => k _ H4 e4 fun j v hv => ?_
    by_cases hj : j < xs.length
    · rw [List.getElem?_append_left hj] at hv
      obtain ⟨r', e1, h0', h1'⟩ := hIx j v hv
      exact ⟨r', e1, h0', del_ex e4 _ _ h1'⟩
    · rw [List.getElem?_append_right (by omega)] at hv
      have hj0 : j - xs.length = 0 := by
        have := (List.getElem?_eq_some_iff.mp hv).1
        simp at this
        omega
      rw [hj0] at hv
      cases hv
      have hji : j = i := by omega
      subst hji
      exact ⟨r, rfl, fresh_of eH hr, (L2.del_ne (Ne.symm (ne_of_none hx hr))).trans h4⟩
  have hxs : ∃ r0 r1, xs = [.ref r0, .ref r1] ∧ H r0 = none ∧ H1 r0 = some (.lst ((rowF ns 0).map V.int)) ∧ H1 r1 = some (.lst ((rowF ns 1).map V.int)) := by
    match xs, hxl with
    | [v0, v1], _ =>
      obtain ⟨r0, rfl, z0, g0⟩ := hI 0 v0 rfl
      obtain ⟨r1, rfl, _, g1⟩ := hI 1 v1 rfl
      exact ⟨r0, r1, rfl, z0, exd_back _ _ g0, exd_back _ _ g1⟩
  obtain ⟨r0, r1, rfl, hr0n, hr0, hr1⟩ := hxs
  have g0 := rowF_good ns 0
  have g1 := rowF_good ns 1
  generalize rowF ns 0 = F0 at hr0 g0
  generalize rowF ns 1 = F1 at hr1 g1
  clear hI hxl
  -- the models
  refine q_asgC (i := 3) ?_
  refine lc_seqA (K := K) (j := 9) (ws := [9]) (σ := [some (.ref a0), none, some (.ref l2), none, none, none, none, none, none, none]) (I := Mdls K H1 F0 F1) (a := l2) (ev_var (i := 2) rfl) (SqL.of h1) (by show 2 ≤ 40000; decide) (fun x => rfl) mdls_ex (.inl rfl) (fun i x H'' hx e' Dl xs Q' hD hxs hxl hIx k => ?_) fun l3 ms H2 hl3 e2 h3 hml hMs => ?_
  · have hi := (List.getElem?_eq_some_iff.mp hx).1
    have mk : ∀ (r : Addr) (F : List Int), x = .ref r → H1 r = some (.lst (F.map V.int)) → Good F → clashF F = none → (∀ m ap pp rp H4, Ex H'' H4 → (∀ y ∈ [m, ap, pp, rp], H'' y = none) → ModO K H4 m ap pp rp (initS F) 0 → Q' (.ref m) H4) → (tCall (sp_k12_l_model K c) [] E0 (tCons (tVar 9) tNil)) [some (.ref a0), none, some (.ref l2), none, none, none, none, none, none, some x] H'' Q' := by
      rintro r F rfl hr hg hc k'
      refine ⟨.ref r, rfl, .ref r, F, rfl, ⟨r, rfl, .inl (SqL.of (e' _ _ hr))⟩, hg, hc, fun m ap pp rp H4 e4 f1 f2 f3 f4 hM => k' m ap pp rp H4 e4 (fun y hy => ?_) hM⟩
      simp only [List.mem_cons, List.not_mem_nil, or_false] at hy
      rcases hy with rfl | rfl | rfl | rfl <;> assumption
    have mdl : ∀ {m ap pp rp : Addr} {H4 : Hp} {F : List Int}, Ex H'' H4 → (∀ y ∈ [m, ap, pp, rp], H'' y = none) → ModO K H4 m ap pp rp (initS F) 0 → MdlA K H1 (L2.del H4 Dl) (.ref m) F [m, ap, pp, rp] := fun {m ap pp rp H4 F} e4 hf hM =>
      ⟨m, ap, pp, rp, rfl, rfl, fun y hy => fresh_of e' (hf y hy), hM.del (Ne.symm (ne_of_none hxs (hf _ (by simp)))) (Ne.symm (ne_of_none hxs (hf _ (by simp)))) (Ne.symm (ne_of_none hxs (hf _ (by simp)))) (Ne.symm (ne_of_none hxs (hf _ (by simp))))⟩
    match i, hi with
    | 0, _ =>
      cases hx
      have hnil : xs = [] := List.length_eq_zero_iff.mp hxl
      subst hnil
      exact mk r0 F0 rfl hr0 g0.1 g0.2 fun m ap pp rp H4 e4 hf hM => k _ H4 e4 (.inr (.inl ⟨_, _, rfl, mdl e4 hf hM⟩))
    | 1, _ =>
      cases hx
      rcases hIx with rfl | ⟨v0, S0, rfl, h0⟩ | ⟨v0, v1, S0, S1, rfl, _⟩
      · cases hxl
      · refine mk r1 F1 rfl hr1 g1.1 g1.2 fun m ap pp rp H4 e4 hf hM => k _ H4 e4 (.inr (.inr ⟨v0, _, S0, _, rfl, h0.ex (del_ex e4), mdl e4 hf hM, fun y hy hy1 => ?_⟩))
        obtain ⟨u, hu⟩ := h0.here y hy
        have := exd_back _ _ hu
        rw [hf y hy1] at this
        cases this
      · cases hxl
  obtain ⟨m0, m1, ap0, pp0, rp0, ap1, pp1, rp1, rfl, hM0, hM1, hb0, hb1, hdM, l3M0, l3M1⟩ : ∃ m0 m1 ap0 pp0 rp0 ap1 pp1 rp1, ms = [.ref m0, .ref m1] ∧ ModO K H2 m0 ap0 pp0 rp0 (initS F0) 0 ∧ ModO K H2 m1 ap1 pp1 rp1 (initS F1) 0 ∧ (∀ x ∈ [m0, ap0, pp0, rp0], H1 x = none) ∧ (∀ x ∈ [m1, ap1, pp1, rp1], H1 x = none) ∧ (∀ x ∈ [m0, ap0, pp0, rp0], x ∉ [m1, ap1, pp1, rp1]) ∧ l3 ∉ [m0, ap0, pp0, rp0] ∧ l3 ∉ [m1, ap1, pp1, rp1] := by
    rcases hMs with rfl | ⟨v0, S0, rfl, _⟩ | ⟨v0, v1, S0, S1, rfl, k0, k1, hd⟩
    · cases hml
    · cases hml
    · have n0 := k0.ne
      have n1 := k1.ne
      obtain ⟨m0, ap0, pp0, rp0, rfl, rfl, b0, M0⟩ := k0
      obtain ⟨m1, ap1, pp1, rp1, rfl, rfl, b1, M1⟩ := k1
      exact ⟨m0, m1, ap0, pp0, rp0, ap1, pp1, rp1, rfl, M0.ex exd_back, M1.ex exd_back, b0, b1, hd, n0, n1⟩
  have h12 := e2 _ _ h1
  have i2 : ∀ {H' : Hp}, H' l2 = some (.lst [V.ref r0, .ref r1]) → Ev (tOp (rIx K) (tVar 2) (tC (.int 0))) [some (.ref a0), none, some (.ref l2), some (.ref l3), none, none, none, none, none, none] H' (.ref r0) := fun h => ev_ix (i := 0) (evq_of (ev_var (i := 2) rfl) (.inl (SqL.of h))) (fun _ _ => ev_c) atI_zero
  have i2b : ∀ {H' : Hp}, H' l2 = some (.lst [V.ref r0, .ref r1]) → Ev (tOp (rIx K) (tVar 2) (tC (.int 1))) [some (.ref a0), none, some (.ref l2), some (.ref l3), none, none, none, none, none, none] H' (.ref r1) := fun h => ev_ix (i := 1) (evq_of (ev_var (i := 2) rfl) (.inl (SqL.of h))) (fun _ _ => ev_c) atI_one
  -- the halls
  refine q_asgC (i := 4) (t_lst2 ?_)
  refine make_hall (c := c) (ns := F0) (evq_of (i2 h12) (.inl (SqL.of (e2 _ _ hr0)))) g0.1 g0.2 fun a f n p H3 e3 fa ff fn fp hA0 => ?_
  have e13 := e2.trans e3
  refine make_hall (c := c) (ns := F1) (evq_w (evw_tuple (evq_of (i2b (e13 _ _ h1)) (.inl (SqL.of (e13 _ _ hr1)))))) g1.1 g1.2 fun a' f' n' p' H4 e4 fa' ff' fn' fp' hA1 => ?_
  refine ⟨sz_of (show 2 ≤ 100000 by decide), fun l4 hl4 => ?_⟩
  have eL := Ex.new (o := .lst [V.ref a, .ref a']) hl4
  generalize hH5 : upd H4 l4 _ = H5 at eL
  have h45 : H5 l4 = some (.lst [V.ref a, .ref a']) := by rw [← hH5]; exact upd_same
  have e25 : Ex H2 H5 := (e3.trans e4).trans eL
  have e15 := e2.trans e25
  have h15 := e15 _ _ h1
  have h35 := e25 _ _ h3
  have hr05 := e15 _ _ hr0
  have M05 := hM0.ex e25
  have M15 := hM1.ex e25
  have A05 := hA0.ex (e4.trans eL)
  have A15 := hA1.ex eL
  -- who stands where
  have old2 : ∀ {b : Addr} {u : HO}, H2 b = some u → b ∉ [a, f, n, p] ∧ b ∉ [a', f', n', p'] ∧ b ≠ l4 := fun {b u} hb => by
    have hb3 := e3 _ _ hb
    have hb4 := e4 _ _ hb3
    exact ⟨by simp [ne_of_none hb fa, ne_of_none hb ff, ne_of_none hb fn, ne_of_none hb fp], by simp [ne_of_none hb3 fa', ne_of_none hb3 ff', ne_of_none hb3 fn', ne_of_none hb3 fp'], ne_of_none hb4 hl4⟩
  have old1 : ∀ {b : Addr} {u : HO}, H1 b = some u → b ∉ [m0, ap0, pp0, rp0] ∧ b ∉ [m1, ap1, pp1, rp1] ∧ b ≠ l3 := fun {b u} hb => by
    refine ⟨fun hm => ?_, fun hm => ?_, ne_of_none hb hl3⟩
    · rw [hb0 b hm] at hb; cases hb
    · rw [hb1 b hm] at hb; cases hb
  have liveM0 : ∀ x ∈ [m0, ap0, pp0, rp0], ∃ u, H2 x = some u := fun x hx => by
    simp only [List.mem_cons, List.not_mem_nil, or_false] at hx
    rcases hx with rfl | rfl | rfl | rfl
    · exact ⟨_, hM0.hm⟩
    · exact ⟨_, hM0.hA⟩
    · exact ⟨_, hM0.hp⟩
    · exact ⟨_, hM0.hr⟩
  have liveM1 : ∀ x ∈ [m1, ap1, pp1, rp1], ∃ u, H2 x = some u := fun x hx => by
    simp only [List.mem_cons, List.not_mem_nil, or_false] at hx
    rcases hx with rfl | rfl | rfl | rfl
    · exact ⟨_, hM1.hm⟩
    · exact ⟨_, hM1.hA⟩
    · exact ⟨_, hM1.hp⟩
    · exact ⟨_, hM1.hr⟩
  have liveA0 : ∀ x ∈ [a, f, n, p], ∃ u, H3 x = some u := fun x hx => by
    obtain ⟨dx, t, ws, o, w⟩ := hA0
    simp only [List.mem_cons, List.not_mem_nil, or_false] at hx
    rcases hx with rfl | rfl | rfl | rfl
    · exact ⟨_, o.ha⟩
    · exact ⟨_, o.hf⟩
    · exact ⟨_, o.hn⟩
    · exact ⟨_, o.hp⟩
  have liveA1 : ∀ x ∈ [a', f', n', p'], ∃ u, H4 x = some u := fun x hx => by
    obtain ⟨dx, t, ws, o, w⟩ := hA1
    simp only [List.mem_cons, List.not_mem_nil, or_false] at hx
    rcases hx with rfl | rfl | rfl | rfl
    · exact ⟨_, o.ha⟩
    · exact ⟨_, o.hf⟩
    · exact ⟨_, o.hn⟩
    · exact ⟨_, o.hp⟩
  have freshA0 : ∀ x ∈ [a, f, n, p], H2 x = none := fun x hx => by
    simp only [List.mem_cons, List.not_mem_nil, or_false] at hx
    rcases hx with rfl | rfl | rfl | rfl <;> assumption
  have freshA1 : ∀ x ∈ [a', f', n', p'], H3 x = none := fun x hx => by
    simp only [List.mem_cons, List.not_mem_nil, or_false] at hx
    rcases hx with rfl | rfl | rfl | rfl <;> assumption
  have sp : ∀ {x : Addr} {A M : List Addr}, x ∈ A ++ M → x ∈ A ∨ x ∈ M := fun h => List.mem_append.mp h
  have clashE : ∀ {x : Addr} {u : HO} {Hx : Hp}, Hx x = some u → Hx x = none → False := fun h1 h2 => by rw [h1] at h2; cases h2
  have hd01 : ∀ x ∈ [a, f, n, p] ++ [m0, ap0, pp0, rp0], x ∉ [a', f', n', p'] ++ [m1, ap1, pp1, rp1] := fun x hx hx1 => by
    rcases sp hx with hA | hM <;> rcases sp hx1 with hA' | hM'
    · obtain ⟨u, hu⟩ := liveA0 x hA
      exact clashE hu (freshA1 x hA')
    · obtain ⟨u, hu⟩ := liveM1 x hM'
      exact clashE hu (freshA0 x hA)
    · obtain ⟨u, hu⟩ := liveM0 x hM
      exact clashE (e3 _ _ hu) (freshA1 x hA')
    · exact hdM x hM hM'
  have off0 : ∀ {b : Addr}, b ∉ [a, f, n, p] → b ∉ [m0, ap0, pp0, rp0] → b ∉ [a, f, n, p] ++ [m0, ap0, pp0, rp0] := fun h1 h2 h => (sp h).elim h1 h2
  have off1 : ∀ {b : Addr}, b ∉ [a', f', n', p'] → b ∉ [m1, ap1, pp1, rp1] → b ∉ [a', f', n', p'] ++ [m1, ap1, pp1, rp1] := fun h1 h2 h => (sp h).elim h1 h2
  have l3o := old2 h3
  have l4H : ∀ {x : Addr} {u : HO}, H4 x = some u → x ≠ l4 := fun h => ne_of_none h hl4
  have l4A0 : l4 ∉ [a, f, n, p] := fun hm => by
    obtain ⟨u, hu⟩ := liveA0 l4 hm
    exact l4H (e4 _ _ hu) rfl
  have l4A1 : l4 ∉ [a', f', n', p'] := fun hm => by
    obtain ⟨u, hu⟩ := liveA1 l4 hm
    exact l4H hu rfl
  have l4M0 : l4 ∉ [m0, ap0, pp0, rp0] := fun hm => by
    obtain ⟨u, hu⟩ := liveM0 l4 hm
    exact l4H ((e3.trans e4) _ _ hu) rfl
  have l4M1 : l4 ∉ [m1, ap1, pp1, rp1] := fun hm => by
    obtain ⟨u, hu⟩ := liveM1 l4 hm
    exact l4H ((e3.trans e4) _ _ hu) rfl
  have r0a := old1 hr0
  have r0b := old2 (e2 _ _ hr0)
  -- the first row is emptied
  have i5 : Ev (tOp (rIx K) (tVar 2) (tC (.int 0))) [some (.ref a0), none, some (.ref l2), some (.ref l3), some (.ref l4), none, none, none, none, none] H5 (.ref r0) := ev_ix (i := 0) (evq_of (ev_var (i := 2) rfl) (.inl (SqL.of h15))) (fun _ _ => ev_c) atI_zero
  refine i5 H5 (Ex.refl _) _ fun H6 e6 => ⟨Or.inl ⟨rfl, _, sq_of (e6 _ _ hr05)⟩, r0, _, rfl, rfl, e6 _ _ hr05, ?_⟩
  have e16 := e15.trans e6
  have m67 : Mut [r0] H6 (upd H6 r0 (.lst [])) := Mut.upd (e6 _ _ hr05) no_lst (by simp)
  have h7s : ∀ {b : Addr} {u : HO}, H b = some u → b ≠ r0 → (upd H6 r0 (.lst [])) b = some u := fun hb hne => m67 _ _ ((e1.trans e16) _ _ hb) (.inl (by simp [hne]))
  have t7 : Tabs (tabs c) (upd H6 r0 (.lst [])) := tabs_mut (hT.ext (e1.trans e16)) m67 fun x hx => by
    rw [List.mem_singleton.mp hx]
    exact ⟨_, e6 _ _ hr05, nt_lst, fun f z => by cases z⟩
  generalize upd H6 r0 (.lst []) = H7 at m67 t7 h7s
  refine nx_mk ?_
  have nr : ∀ {b : Addr}, b ≠ r0 → b ∉ [r0] := fun h => by simp [h]
  have apart : ∀ {A : List Addr} {b : Addr}, r0 ∉ A → b ∈ A → b ≠ r0 := fun h1 h2 z => h1 (z ▸ h2)
  have S0 : Side K c H7 ([a, f, n, p] ++ [m0, ap0, pp0, rp0]) a m0 1 := ⟨f, n, p, ap0, pp0, rp0, initS F0, [.beg F0], 0, rfl,
    (A05.ex e6).mut m67 (nr (apart r0b.1 (by simp))) (nr (apart r0b.1 (by simp))) (nr (apart r0b.1 (by simp))) (nr (apart r0b.1 (by simp))),
    (M05.ex e6).mutT (.of m67) (nr (apart r0a.1 (by simp))) (nr (apart r0a.1 (by simp))) (nr (apart r0a.1 (by simp))) (nr (apart r0a.1 (by simp))), init_inv g0.1 g0.2,
    ⟨Ne.symm (ne_of_none hM0.hp fn), Ne.symm (ne_of_none hM0.hr fn), Ne.symm (ne_of_none hM0.hm ff), Ne.symm (ne_of_none hM0.hA ff), Ne.symm (ne_of_none hM0.hp fp)⟩, Nat.le_refl _⟩
  have S1 : Side K c H7 ([a', f', n', p'] ++ [m1, ap1, pp1, rp1]) a' m1 1 := ⟨f', n', p', ap1, pp1, rp1, initS F1, [.beg F1], 0, rfl,
    (A15.ex e6).mut m67 (nr (apart r0b.2.1 (by simp))) (nr (apart r0b.2.1 (by simp))) (nr (apart r0b.2.1 (by simp))) (nr (apart r0b.2.1 (by simp))),
    (M15.ex e6).mutT (.of m67) (nr (apart r0a.2.1 (by simp))) (nr (apart r0a.2.1 (by simp))) (nr (apart r0a.2.1 (by simp))) (nr (apart r0a.2.1 (by simp))), init_inv g1.1 g1.2,
    ⟨Ne.symm (ne_of_none (e3 _ _ hM1.hp) fn'), Ne.symm (ne_of_none (e3 _ _ hM1.hr) fn'), Ne.symm (ne_of_none (e3 _ _ hM1.hm) ff'), Ne.symm (ne_of_none (e3 _ _ hM1.hA) ff'), Ne.symm (ne_of_none (e3 _ _ hM1.hp) fp')⟩, Nat.le_refl _⟩
  have h37 := m67 _ _ (e6 _ _ h35) (.inl (nr (Ne.symm r0a.2.2)))
  have h47 := m67 _ _ (e6 _ _ h45) (.inl (nr (Ne.symm r0b.2.2)))
  have n30 := off0 l3o.1 l3M0
  have n31 := off1 l3o.2.1 l3M1
  have n40 := off0 l4A0 l4M0
  have n41 := off1 l4A1 l4M1
  have hs7 : SqL K H7 a0 (ns.map V.int) := by
    rcases hs with h | h
    · refine .inl ?_
      rcases h with h | ⟨o, h⟩
      · exact .inl (h7s h (ne_of_none h hr0n))
      · exact .inr ⟨o, h7s h (ne_of_none h hr0n)⟩
    · exact .inr h
  generalize [a, f, n, p] ++ [m0, ap0, pp0, rp0] = T0 at S0 hd01 n30 n40
  generalize [a', f', n', p'] ++ [m1, ap1, pp1, rp1] = T1 at S1 hd01 n31 n41
  have hlist : EvL (tOp (xAdd K) (tSl (xSl K) (tVar 0) (tPart (tC (.int 2))) tNoPart) (tLst (tCons (tC (.int 0)) (tCons (tC (.int 1)) (tCons (tC (.int 2)) (tCons (tC (.int 3)) tNil)))))) [some (.ref a0), none, some (.ref l2), some (.ref l3), some (.ref l4), none, none, none, none, none] H7 ((ns.drop 2 ++ [0, 1, 2, 3]).map V.int) := by
    rw [List.map_append, List.map_drop]
    have z := el_slX (K := K) (lo := some 2) (hi := none) (tl := tPart (tC (.int 2))) (th := tNoPart) (evs_of (σ := [some (.ref a0), none, some (.ref l2), some (.ref l3), some (.ref l4), none, none, none, none, none]) (ev_var (i := 0) rfl) hs7) (eo_some ev_c) eo_none
    rw [cutV_lo (by decide)] at z
    exact el_cat (evs_new z) (evs_new (el_lst (ea_cons ev_c (ea_cons ev_c (ea_cons ev_c (ea_cons ev_c ea_nil)))) (by show 4 ≤ 100000; decide))) (by rw [List.length_drop, List.length_map]; show _ + 4 ≤ 100000; omega)
  have hll : (ns.drop 2 ++ [0, 1, 2, 3] : List Int).length ≤ 67 := by
    rw [List.length_append, List.length_drop]
    show _ + 4 ≤ 67
    omega
  refine q_enumN hlist (fun b i σ' H' => H' b = some (.lst ((ns.drop 2 ++ [0, 1, 2, 3]).map V.int)) ∧ ∃ T0 T1 u1 u5 u6 u7 u8, σ' = [some (.ref a0), u1, some (.ref l2), some (.ref l3), some (.ref l4), u5, u6, u7, u8, none] ∧ Side K c H' T0 a m0 (1 + 2 * i) ∧ Side K c H' T1 a' m1 (1 + 2 * i) ∧ (∀ x ∈ T0, x ∉ T1) ∧ Tabs (tabs c) H' ∧ H' l3 = some (.lst [.ref m0, .ref m1]) ∧ H' l4 = some (.lst [.ref a, .ref a']) ∧ l3 ∉ T0 ∧ l3 ∉ T1 ∧ l4 ∉ T0 ∧ l4 ∉ T1 ∧ b ∉ T0 ∧ b ∉ T1) ?_ ?_ ?_ ?_
  · intro b H8 hb e8 h8
    refine ⟨h8, T0, T1, _, _, _, _, _, rfl, S0.keep (MutT.of (.of e8)) (W := []) fun x hx => List.not_mem_nil, S1.keep (MutT.of (.of e8)) (W := []) fun x hx => List.not_mem_nil, hd01, t7.ext e8, e8 _ _ h37, e8 _ _ h47, n30, n31, n40, n41, fun hm => ?_, fun hm => ?_⟩
    · obtain ⟨u, hu, _⟩ := S0.here b hm
      rw [hb] at hu
      cases hu
    · obtain ⟨u, hu, _⟩ := S1.here b hm
      rw [hb] at hu
      cases hu
  · rintro b i σ' H' ⟨h, _⟩
    exact h
  · rintro b i y σ' H' H8 hi ⟨hb, T0, T1, u1, u5, u6, u7, u8, rfl, S0, S1, hd, t, h3, h4, n30, n31, n40, n41, nb0, nb1⟩ e8
    obtain ⟨hil, rfl⟩ := getD_of hi
    generalize (ns.drop 2 ++ [0, 1, 2, 3]).getD i 0 = cell
    have S08 := S0.keep (MutT.of (.of e8)) (W := []) fun x hx => List.not_mem_nil
    have S18 := S1.keep (MutT.of (.of e8)) (W := []) fun x hx => List.not_mem_nil
    have h38 := e8 _ _ h3
    have h48 := e8 _ _ h4
    have hb8 := e8 _ _ hb
    have par : mixed cell (i : Int) % 2 = 0 ∨ mixed cell (i : Int) % 2 = 1 := by omega
    rcases par with hp | hp
    · refine k12_body (K := K) (c := c) (E := E) (i := i) (cell := cell) h38 h48 n30 n40 (by rw [hp]; exact atI_zero) (by rw [hp]; exact atI_zero) S08 (t.ext e8) (by omega) fun T' H9 u6 u7 u8 M9 S9 t9 => ?_
      have o1 := S18.off M9 fun x hx hx0 => hd x hx0 hx
      have o3 := M9.off h38 nt_lst n30
      have o4 := M9.off h48 nt_lst n40
      have ob := M9.off hb8 nt_lst nb0
      exact ⟨ob.1, T', T1, _, _, _, _, _, rfl, S9.up (by omega), o1.1.up (by omega), fun x hx hx1 => o1.2 x hx1 hx, t9, o3.1, o4.1, o3.2, n31, o4.2, n41, ob.2, nb1⟩
    · refine k12_body (K := K) (c := c) (E := E) (i := i) (cell := cell) h38 h48 n31 n41 (by rw [hp]; exact atI_one) (by rw [hp]; exact atI_one) S18 (t.ext e8) (by omega) fun T' H9 u6 u7 u8 M9 S9 t9 => ?_
      have o1 := S08.off M9 fun x hx hx0 => hd x hx hx0
      have o3 := M9.off h38 nt_lst n31
      have o4 := M9.off h48 nt_lst n41
      have ob := M9.off hb8 nt_lst nb1
      exact ⟨ob.1, T0, T', _, _, _, _, _, rfl, o1.1.up (by omega), S9.up (by omega), o1.2, t9, o3.1, o4.1, n30, o3.2, n40, o4.2, nb0, ob.2⟩
  · rintro b σ' H' ⟨hb, T0, T1, u1, u5, u6, u7, u8, rfl, S0, S1, hd, t, h3, h4, n30, n31, n40, n41, nb0, nb1⟩
    have ih : ∀ {H8 : Hp} {j : Int} {v : V}, Ex H' H8 → atI [V.ref a, .ref a'] j = some v → Ev (tOp (rIx K) (tVar 4) (tC (.int j))) [some (.ref a0), u1, some (.ref l2), some (.ref l3), some (.ref l4), u5, u6, u7, u8, none] H8 v := fun {H8 j v} e hv => ev_ix (i := j) (evq_of (ev_var (i := 4) rfl) (.inl (SqL.of (e _ _ h4)))) (fun _ _ => ev_c) hv
    have im : ∀ {H8 : Hp} {j : Int} {v : V}, Ex H' H8 → atI [V.ref m0, .ref m1] j = some v → Ev (tOp (rIx K) (tVar 3) (tC (.int j))) [some (.ref a0), u1, some (.ref l2), some (.ref l3), some (.ref l4), u5, u6, u7, u8, none] H8 v := fun {H8 j v} e hv => ev_ix (i := j) (evq_of (ev_var (i := 3) rfl) (.inl (SqL.of (e _ _ h3)))) (fun _ _ => ev_c) hv
    refine s_ret (v := .bl true) (ev_is (ev_andV (a := true) (b := true) (ev_stands (E := E0) (ih (Ex.refl _) atI_zero) (fun H8 e8 => im e8 atI_zero) S0) fun _ => ev_stands (E := E0) (ih (Ex.refl _) atI_one) (fun H8 e8 => im e8 atI_one) S1) rfl) fun H8 _ => q H8
end
end Tr

namespace Tie
open PySem L2 PySem.Spec PyProof.Rows Evl Tr
def top (i : Nat) : Stmt := PySem.Challenge.pw_tossrow_k12_halls.main.body.getD i (.Pass ⟨0, 0, 0, 0⟩)
abbrev s_l_mixed : Stmt := top 31
theorem sc_l_mixed : FnScope ["_law_cell", "_law_k", "_law_drawn"] ["_law_cell", "_law_k"] (defScope s_l_mixed) := ⟨rfl, rfl, rfl, by decide +kernel, rfl, by decide +kernel, by decide +kernel⟩
abbrev s_l_mixed_up : Stmt := top 34
theorem sc_l_mixed_up : FnScope ["_law_row", "_law_cell", "_law_many", "_law_k", "_law_draw", "_law_one", "_law_other", "_law_heights"] ["_law_row", "_law_cell"] (defScope s_l_mixed_up) := ⟨rfl, rfl, rfl, by decide +kernel, rfl, by decide +kernel, by decide +kernel⟩
abbrev s_l_going : Stmt := top 35
theorem sc_l_going : FnScope ["_law_cell", "_law_many", "_law_row", "_law_k", "_law_by"] ["_law_cell", "_law_many"] (defScope s_l_going) := ⟨rfl, rfl, rfl, by decide +kernel, rfl, by decide +kernel, by decide +kernel⟩
abbrev s_l_cell_at : Stmt := top 32
theorem sc_l_cell_at : FnScope ["_law_script", "_law_k"] ["_law_script", "_law_k"] (defScope s_l_cell_at) := ⟨rfl, rfl, rfl, by decide +kernel, rfl, by decide +kernel, by decide +kernel⟩
abbrev s_is_number : Stmt := top 12
theorem sc_is_number : FnScope ["thing"] ["thing"] (defScope s_is_number) := ⟨rfl, rfl, rfl, by decide +kernel, rfl, by decide +kernel, by decide +kernel⟩
abbrev s_is_height : Stmt := top 13
theorem sc_is_height : FnScope ["thing"] ["thing"] (defScope s_is_height) := ⟨rfl, rfl, rfl, by decide +kernel, rfl, by decide +kernel, by decide +kernel⟩
abbrev s_need_row : Stmt := top 14
theorem sc_need_row : FnScope ["thing", "height"] ["thing"] (defScope s_need_row) := ⟨rfl, rfl, rfl, by decide +kernel, rfl, by decide +kernel, by decide +kernel⟩
abbrev s_clash : Stmt := top 15
theorem sc_clash : FnScope ["row", "met", "turn", "height", "place"] ["row"] (defScope s_clash) := ⟨rfl, rfl, rfl, by decide +kernel, rfl, by decide +kernel, by decide +kernel⟩
abbrev s_need_going : Stmt := top 16
theorem sc_need_going : FnScope ["row", "pair"] ["row"] (defScope s_need_going) := ⟨rfl, rfl, rfl, by decide +kernel, rfl, by decide +kernel, by decide +kernel⟩
abbrev s_state_at : Stmt := top 23
theorem sc_state_at : FnScope ["row", "turn", "state", "back", "height"] ["row", "turn"] (defScope s_state_at) := ⟨rfl, rfl, rfl, by decide +kernel, rfl, by decide +kernel, by decide +kernel⟩
abbrev s_k12_l_model : Stmt := top 37
theorem sc_k12_l_model : FnScope ["_law_row", "_law_state_here", "_law_waits", "_law_k", "_law_wait"] ["_law_row"] (defScope s_k12_l_model) := ⟨rfl, rfl, rfl, by decide +kernel, rfl, by decide +kernel, by decide +kernel⟩
abbrev s_h_init : Stmt := inClass (top 29) 0
theorem sc_h_init : FnScope ["self", "row", "wait"] ["self", "row"] (defScope s_h_init) := ⟨rfl, rfl, rfl, by decide +kernel, rfl, by decide +kernel, by decide +kernel⟩
abbrev s_h_ahead : Stmt := inClass (top 29) 4
theorem sc_h_ahead : FnScope ["self", "many", "found"] ["self", "many"] (defScope s_h_ahead) := ⟨rfl, rfl, rfl, by decide +kernel, rfl, by decide +kernel, by decide +kernel⟩
abbrev s_need_state : Stmt := top 20
theorem sc_need_state : FnScope ["thing"] ["thing"] (defScope s_need_state) := ⟨rfl, rfl, rfl, by decide +kernel, rfl, by decide +kernel, by decide +kernel⟩
abbrev s_lets : Stmt := top 21
theorem sc_lets : FnScope ["state", "height"] ["state"] (defScope s_lets) := ⟨rfl, rfl, rfl, by decide +kernel, rfl, by decide +kernel, by decide +kernel⟩
abbrev s_thrown : Stmt := top 22
theorem sc_thrown : FnScope ["state", "height"] ["state", "height"] (defScope s_thrown) := ⟨rfl, rfl, rfl, by decide +kernel, rfl, by decide +kernel, by decide +kernel⟩
abbrev s_h_step : Stmt := inClass (top 29) 5
theorem sc_h_step : FnScope ["self", "height", "thing"] ["self"] (defScope s_h_step) := ⟨rfl, rfl, rfl, by decide +kernel, rfl, by decide +kernel, by decide +kernel⟩
abbrev s_k12_l_step : Stmt := top 39
theorem sc_k12_l_step : FnScope ["_law_model_here", "_law_height", "_law_turn", "_law_thing"] ["_law_model_here"] (defScope s_k12_l_step) := ⟨rfl, rfl, rfl, by decide +kernel, rfl, by decide +kernel, by decide +kernel⟩
abbrev s_things : Stmt := top 17
theorem sc_things : FnScope ["row"] ["row"] (defScope s_things) := ⟨rfl, rfl, rfl, by decide +kernel, rfl, by decide +kernel, by decide +kernel⟩
abbrev s_bits_in : Stmt := top 25
theorem sc_bits_in : FnScope ["state", "many"] ["state"] (defScope s_bits_in) := ⟨rfl, rfl, rfl, by decide +kernel, rfl, by decide +kernel, by decide +kernel⟩
abbrev s_way : Stmt := top 26
theorem sc_way : FnScope ["one", "other", "found", "waiting", "at", "state", "height", "behind"] ["one", "other"] (defScope s_way) := ⟨rfl, rfl, rfl, by decide +kernel, rfl, by decide +kernel, by decide +kernel⟩
abbrev s_h_change : Stmt := inClass (top 29) 6
theorem sc_h_change : FnScope ["self", "row"] ["self", "row"] (defScope s_h_change) := ⟨rfl, rfl, rfl, by decide +kernel, rfl, by decide +kernel, by decide +kernel⟩
abbrev s_k12_l_state : Stmt := top 38
theorem sc_k12_l_state : FnScope ["_law_model_here", "_law_when"] ["_law_model_here"] (defScope s_k12_l_state) := ⟨rfl, rfl, rfl, by decide +kernel, rfl, by decide +kernel, by decide +kernel⟩
abbrev s_k12_l_told : Stmt := top 40
theorem sc_k12_l_told : FnScope ["_law_work", "_law_found"] ["_law_work"] (defScope s_k12_l_told) := ⟨rfl, rfl, rfl, by decide +kernel, rfl, by decide +kernel, by decide +kernel⟩
abbrev s_k12_l_changed : Stmt := top 41
theorem sc_k12_l_changed : FnScope ["_law_hall", "_law_model_here", "_law_cell", "_law_many", "_law_due", "_law_row"] ["_law_hall", "_law_model_here", "_law_cell"] (defScope s_k12_l_changed) := ⟨rfl, rfl, rfl, by decide +kernel, rfl, by decide +kernel, by decide +kernel⟩
abbrev s_k12_l_ahead : Stmt := top 42
theorem sc_k12_l_ahead : FnScope ["_law_hall", "_law_model_here", "_law_cell", "_law_many", "_law_more", "_law_found", "_law_none", "_law_k"] ["_law_hall", "_law_model_here", "_law_cell"] (defScope s_k12_l_ahead) := ⟨rfl, rfl, rfl, by decide +kernel, rfl, by decide +kernel, by decide +kernel⟩
abbrev s_h_air : Stmt := inClass (top 29) 3
theorem sc_h_air : FnScope ["self", "when"] ["self"] (defScope s_h_air) := ⟨rfl, rfl, rfl, by decide +kernel, rfl, by decide +kernel, by decide +kernel⟩
abbrev s_h_turn : Stmt := inClass (top 29) 1
theorem sc_h_turn : FnScope ["self"] ["self"] (defScope s_h_turn) := ⟨rfl, rfl, rfl, by decide +kernel, rfl, by decide +kernel, by decide +kernel⟩
abbrev s_h_state : Stmt := inClass (top 29) 2
theorem sc_h_state : FnScope ["self"] ["self"] (defScope s_h_state) := ⟨rfl, rfl, rfl, by decide +kernel, rfl, by decide +kernel, by decide +kernel⟩
abbrev s_k12_l_stands : Stmt := top 43
theorem sc_k12_l_stands : FnScope ["_law_hall", "_law_model_here", "_law_air", "_law_found", "_law_when", "_law_thing", "_law_wait"] ["_law_hall", "_law_model_here"] (defScope s_k12_l_stands) := ⟨rfl, rfl, rfl, by decide +kernel, rfl, by decide +kernel, by decide +kernel⟩
abbrev s_k12_law : Stmt := top 44
theorem sc_k12_law : FnScope ["_law_script", "_law_k", "_law_rows", "_law_models", "_law_halls", "_law_cell", "_law_draw", "_law_at", "_law_way_by", "_law_row"] ["_law_script"] (defScope s_k12_law) := ⟨rfl, rfl, rfl, by decide +kernel, rfl, by decide +kernel, by decide +kernel⟩
abbrev s_i_Clash : Stmt := inClass (top 4) 0
theorem sc_i_Clash : FnScope ["self", "one", "other"] ["self", "one", "other"] (defScope s_i_Clash) := ⟨rfl, rfl, rfl, by decide +kernel, rfl, by decide +kernel, by decide +kernel⟩
structure Txt (P : Program) (w : World) (K : PySem.W.Frag) (mg : Str → Option Value) (base : Heap) (c : Cs) : Prop where
  b_bool : mg "bool" = none
  b_dict : mg "dict" = none
  b_enumerate : mg "enumerate" = none
  b_int : mg "int" = none
  b_isinstance : mg "isinstance" = none
  b_len : mg "len" = none
  b_list : mg "list" = none
  b_max : mg "max" = none
  b_min : mg "min" = none
  b_range : mg "range" = none
  b_sorted : mg "sorted" = none
  b_sum : mg "sum" = none
  b_tuple : mg "tuple" = none
  hallc : HallC K mg c.hall
  k_MOST_AHEAD : ∃ t, mg "MOST_AHEAD" = some (.int 400 t)
  k_MOST_HIGH : ∃ t, mg "MOST_HIGH" = some (.int 9 t)
  k_MOST_LONG : ∃ t, mg "MOST_LONG" = some (.int 40 t)
  k_MOST_STATE : ∃ t, mg "MOST_STATE" = some (.int 511 t)
  x_Clash : ExK K mg "Clash" c.clash
  x_NoRow : ExP K mg "NoRow" c.norow
  x_NoState : ExP K mg "NoState" c.nostate
  x_NoThrow : ExP K mg "NoThrow" c.nothrow
  x_NoTurn : ExP K mg "NoTurn" c.noturn
  x_NoWay : ExP K mg "NoWay" c.noway
  x_TossError : ExK K mg "TossError" c.toss
  r_Clash : Rais2 P w K mg base "Clash" c.clash "one" "other"
theorem in_Clash {P : Program} {w : World} {K : PySem.W.Frag} {mg : Str → Option Value} {base : Heap} {c : Cs} {fI : Addr} {fd : FuncData} (X : ExI K mg "Clash" c.clash fI) (h0 : PySem.W.findIn K (.ref c.clash) "one" = some none) (h1 : PySem.W.findIn K (.ref c.clash) "other" = some none) (B : ExB K mg "TossError" c.toss) (F : Fun K "__init__" "Clash.__init__" s_i_Clash fI fd) (b : Binds K fd ["self", "one", "other"] []) : Rais2 P w K mg base "Clash" c.clash "one" "other" :=
  ⟨fI, fd, X, h0, h1, F.okX (k := 0) sc_i_Clash (fun vs H Q E h => by obtain ⟨_, _, _, _, rfl, _⟩ := h; rfl) (fun cdv A outer s H vs Q E hr h => ⟨t_init2 K "two turns clash" "one" "other",
    pss_cons (ps_expr (pe_baseinit B rfl (pa_cons (pv 0) (pa_cons pe_str pa_nil)))) (pss_cons (ps_ost (pv 0) (pv 1)) (pss_one (ps_ost (pv 0) (pv 2)))),
    pure_init2 h⟩), b⟩
section
variable {P : Program} {w : World} {K : PySem.W.Frag} {mg : Str → Option Value} {base : Heap} {c : Cs}
theorem pd_l_mixed {f : Addr} (T : Txt P w K mg base c) (D : DefAt K mg "_law_mixed" s_l_mixed ["_law_cell", "_law_k"] f)  : PD P w K mg base 1 "_law_mixed" f ["_law_cell", "_law_k"] (sp_l_mixed K c) :=
  D.keeps (k := 0) sc_l_mixed (fun vs H Q E h => by
    first | (obtain ⟨_, rfl, _⟩ := h; rfl) | (obtain ⟨_, _, rfl, _⟩ := h; rfl) | (obtain ⟨_, _, _, rfl, _⟩ := h; rfl) | (obtain ⟨_, _, _, _, rfl, _⟩ := h; rfl) | (obtain ⟨_, _, _, _, _, rfl, _⟩ := h; rfl) | (obtain ⟨_, _, _, _, _, _, rfl, _⟩ := h; rfl) | (obtain ⟨_, _, _, _, _, _, _, rfl, _⟩ := h; rfl) | (obtain ⟨_, _, _, _, _, _, _, _, rfl, _⟩ := h; rfl) | (obtain ⟨_, _, _, _, _, _, _, _, _, rfl, _⟩ := h; rfl) | (obtain ⟨_, _, _, _, _, _, _, _, _, _, rfl, _⟩ := h; rfl) | (obtain ⟨_, _, _, _, _, _, _, _, _, _, _, rfl, _⟩ := h; rfl) | (obtain ⟨_, _, _, _, _, _, _, _, _, _, _, _, rfl, _⟩ := h; rfl) | (obtain ⟨_, _, _, _, _, _, _, _, _, _, _, _, _, rfl, _⟩ := h; rfl)) (fun cdv A outer s H vs Q E hr h => ⟨t_l_mixed K c E,
    (pss_cons (ps_set (i := 2) sc_l_mixed.nd rfl (Or.inl rfl) (pe_op opMod (pe_op opMul (pe_op opAdd (pv 0) (pe_op opMul pe_int (pv 1))) pe_int) pe_int))
      (pss_one (ps_ret (pe_op opMod (pe_op opMul (pv 2) (pe_op opAdd (pe_op opAdd (pv 2) (pe_op opMul pe_int (pv 1))) pe_int)) pe_int)))),
    pure_l_mixed h⟩)
theorem pd_l_mixed_up {f : Addr} (T : Txt P w K mg base c) (D : DefAt K mg "_law_mixed_up" s_l_mixed_up ["_law_row", "_law_cell"] f) {f_l_mixed : Addr} (h_l_mixed : PD P w K mg base 1 "_law_mixed" f_l_mixed ["_law_cell", "_law_k"] (sp_l_mixed K c)) : PD P w K mg base 2 "_law_mixed_up" f ["_law_row", "_law_cell"] (sp_l_mixed_up K c) :=
  D.keeps (k := 1) sc_l_mixed_up (fun vs H Q E h => by
    first | (obtain ⟨_, rfl, _⟩ := h; rfl) | (obtain ⟨_, _, rfl, _⟩ := h; rfl) | (obtain ⟨_, _, _, rfl, _⟩ := h; rfl) | (obtain ⟨_, _, _, _, rfl, _⟩ := h; rfl) | (obtain ⟨_, _, _, _, _, rfl, _⟩ := h; rfl) | (obtain ⟨_, _, _, _, _, _, rfl, _⟩ := h; rfl) | (obtain ⟨_, _, _, _, _, _, _, rfl, _⟩ := h; rfl) | (obtain ⟨_, _, _, _, _, _, _, _, rfl, _⟩ := h; rfl) | (obtain ⟨_, _, _, _, _, _, _, _, _, rfl, _⟩ := h; rfl) | (obtain ⟨_, _, _, _, _, _, _, _, _, _, rfl, _⟩ := h; rfl) | (obtain ⟨_, _, _, _, _, _, _, _, _, _, _, rfl, _⟩ := h; rfl) | (obtain ⟨_, _, _, _, _, _, _, _, _, _, _, _, rfl, _⟩ := h; rfl) | (obtain ⟨_, _, _, _, _, _, _, _, _, _, _, _, _, rfl, _⟩ := h; rfl)) (fun cdv A outer s H vs Q E hr h => ⟨t_l_mixed_up K c E,
    (pss_cons (ps_set (i := 2) sc_l_mixed_up.nd rfl (Or.inl rfl) (pe_callB fnLen (by rfl) T.b_len (by decide +kernel) (pa_cons (pv 0) pa_nil)))
      (pss_one (ps_for (passes_of rfl) rfl (pi_range1 rfl T.b_range (pa_cons (pe_op opMul (pe_op opMul pe_int (pv 2)) (pe_callTy fnInt (by rfl) T.b_int (by decide +kernel) (pa_cons (pe_cmpR opGt (pv 2) pe_int (nomark _)) pa_nil))) pa_nil)) (pg_name (i := 3) sc_l_mixed_up.nd rfl (Or.inl rfl)) (pss_cons (ps_set (i := 4) sc_l_mixed_up.nd rfl (Or.inl rfl) (pe_pd h_l_mixed (hr.mono (by decide)) passL rfl (pa_cons (pv 1) (pa_cons (pv 3) pa_nil))))
      (pss_cons (ps_set (i := 5) sc_l_mixed_up.nd rfl (Or.inl rfl) (pe_op opMod (pv 4) (pv 2)))
      (pss_cons (ps_set (i := 6) sc_l_mixed_up.nd rfl (Or.inl rfl) (pe_op opMod (pe_op opAdd (pe_op opAdd (pv 5) pe_int) (pe_op opMod (pe_op opDiv (pv 4) pe_int) (pe_op opSub (pv 2) pe_int))) (pv 2)))
      (pss_cons (ps_if (pt_cmpR opGt (pv 5) (pv 6) (nomark _)) (pss_one (ps_par (i := 5) (j := 6) rfl sc_l_mixed_up.nd rfl rfl (by decide) rfl rfl (pa_cons (pv 6) (pa_cons (pv 5) pa_nil)) (by rfl))) pss_nil)
      (pss_cons (ps_set (i := 7) sc_l_mixed_up.nd rfl (Or.inl rfl) (pe_tup (pa_cons (pe_op opAdd (pe_op opSub (pv 6) (pv 5)) (pe_ix ix_seq (pv 0) (pv 6) (fun _ _ => rfl))) (pa_cons (pe_op opAdd (pe_op opSub (pe_ix ix_seq (pv 0) (pv 5) (fun _ _ => rfl)) (pv 6)) (pv 5)) pa_nil))))
      (pss_one (ps_if (PW.pt (pw_and (pt_cmpR opLe pe_int (pe_callB (fnMin rfl) (by rfl) T.b_min (by decide +kernel) (pa_cons (pv 7) pa_nil)) (nomark _)) (pw_and1 (pt_cmpR opLt (pe_callB (fnMax rfl) (by rfl) T.b_max (by decide +kernel) (pa_cons (pv 7) pa_nil)) pe_int (nomark _))))) (pss_one (ps_asg (pv 7) (pg_tup rfl (pgs_cons (pg_sub (pv 0) (pv 5) set_list) (pgs_cons (pg_sub (pv 0) (pv 6) set_list) pgs_nil))))) pss_nil)))))))))),
    pure_l_mixed_up h⟩)
theorem pd_l_going (T : Txt P w K mg base c) (D : DefAt K mg "_law_going" s_l_going ["_law_cell", "_law_many"] c.f_l_going) {f_l_mixed_up : Addr} (h_l_mixed_up : PD P w K mg base 2 "_law_mixed_up" f_l_mixed_up ["_law_row", "_law_cell"] (sp_l_mixed_up K c)) {f_l_mixed : Addr} (h_l_mixed : PD P w K mg base 1 "_law_mixed" f_l_mixed ["_law_cell", "_law_k"] (sp_l_mixed K c)) : PD P w K mg base 3 "_law_going" c.f_l_going ["_law_cell", "_law_many"] (sp_l_going K c) :=
  D.keeps (k := 2) sc_l_going (fun vs H Q E h => by
    first | (obtain ⟨_, rfl, _⟩ := h; rfl) | (obtain ⟨_, _, rfl, _⟩ := h; rfl) | (obtain ⟨_, _, _, rfl, _⟩ := h; rfl) | (obtain ⟨_, _, _, _, rfl, _⟩ := h; rfl) | (obtain ⟨_, _, _, _, _, rfl, _⟩ := h; rfl) | (obtain ⟨_, _, _, _, _, _, rfl, _⟩ := h; rfl) | (obtain ⟨_, _, _, _, _, _, _, rfl, _⟩ := h; rfl) | (obtain ⟨_, _, _, _, _, _, _, _, rfl, _⟩ := h; rfl) | (obtain ⟨_, _, _, _, _, _, _, _, _, rfl, _⟩ := h; rfl) | (obtain ⟨_, _, _, _, _, _, _, _, _, _, rfl, _⟩ := h; rfl) | (obtain ⟨_, _, _, _, _, _, _, _, _, _, _, rfl, _⟩ := h; rfl) | (obtain ⟨_, _, _, _, _, _, _, _, _, _, _, _, rfl, _⟩ := h; rfl) | (obtain ⟨_, _, _, _, _, _, _, _, _, _, _, _, _, rfl, _⟩ := h; rfl)) (fun cdv A outer s H vs Q E hr h => ⟨t_l_going K c E,
    (pss_cons (ps_set (i := 2) sc_l_going.nd rfl (Or.inl rfl) (pe_op opMul (pe_lst (pa_cons (pe_op opMod (pv 0) pe_int) pa_nil)) (pv 1)))
      (pss_cons (ps_for (passes_of rfl) rfl (pi_range1 rfl T.b_range (pa_cons pe_int pa_nil)) (pg_name (i := 3) sc_l_going.nd rfl (Or.inl rfl)) (pss_cons (ps_expr (pe_pd h_l_mixed_up (hr.mono (by decide)) passL rfl (pa_cons (pv 2) (pa_cons (pe_pd h_l_mixed (hr.mono (by decide)) passL rfl (pa_cons (pv 0) (pa_cons (pe_op opAdd pe_int (pv 3)) pa_nil))) pa_nil))))
      (pss_cons (ps_set (i := 4) sc_l_going.nd rfl (Or.inl rfl) (pe_op opMod (pe_pd h_l_mixed (hr.mono (by decide)) passL rfl (pa_cons (pv 0) (pa_cons (pe_op opAdd pe_int (pv 3)) pa_nil))) (pv 1)))
      (pss_one (ps_set (i := 2) sc_l_going.nd rfl (Or.inl rfl) (pe_op opAdd (pe_slice opSl (pv 2) (po_some (pv 4)) po_none) (pe_slice opSl (pv 2) po_none (po_some (pv 4)))))))))
      (pss_one (ps_ret (pv 2))))),
    pure_l_going h⟩)
theorem pd_l_cell_at {f : Addr} (T : Txt P w K mg base c) (D : DefAt K mg "_law_cell_at" s_l_cell_at ["_law_script", "_law_k"] f) {f_l_mixed : Addr} (h_l_mixed : PD P w K mg base 1 "_law_mixed" f_l_mixed ["_law_cell", "_law_k"] (sp_l_mixed K c)) : PD P w K mg base 2 "_law_cell_at" f ["_law_script", "_law_k"] (sp_l_cell_at K c) :=
  D.keeps (k := 1) sc_l_cell_at (fun vs H Q E h => by
    first | (obtain ⟨_, rfl, _⟩ := h; rfl) | (obtain ⟨_, _, rfl, _⟩ := h; rfl) | (obtain ⟨_, _, _, rfl, _⟩ := h; rfl) | (obtain ⟨_, _, _, _, rfl, _⟩ := h; rfl) | (obtain ⟨_, _, _, _, _, rfl, _⟩ := h; rfl) | (obtain ⟨_, _, _, _, _, _, rfl, _⟩ := h; rfl) | (obtain ⟨_, _, _, _, _, _, _, rfl, _⟩ := h; rfl) | (obtain ⟨_, _, _, _, _, _, _, _, rfl, _⟩ := h; rfl) | (obtain ⟨_, _, _, _, _, _, _, _, _, rfl, _⟩ := h; rfl) | (obtain ⟨_, _, _, _, _, _, _, _, _, _, rfl, _⟩ := h; rfl) | (obtain ⟨_, _, _, _, _, _, _, _, _, _, _, rfl, _⟩ := h; rfl) | (obtain ⟨_, _, _, _, _, _, _, _, _, _, _, _, rfl, _⟩ := h; rfl) | (obtain ⟨_, _, _, _, _, _, _, _, _, _, _, _, _, rfl, _⟩ := h; rfl)) (fun cdv A outer s H vs Q E hr h => ⟨t_l_cell_at K c E,
    (pss_cons (ps_if (pt_cmpR opLt (pv 1) (pe_callB fnLen (by rfl) T.b_len (by decide +kernel) (pa_cons (pv 0) pa_nil)) (nomark _)) (pss_one (ps_ret (pe_pd h_l_mixed (hr.mono (by decide)) passL rfl (pa_cons (pe_ix ix_seq (pv 0) (pv 1) (fun _ _ => rfl)) (pa_cons (pv 1) pa_nil))))) pss_nil)
      (pss_one (ps_ret (pe_pd h_l_mixed (hr.mono (by decide)) passL rfl (pa_cons pe_int (pa_cons (pv 1) pa_nil)))))),
    pure_l_cell_at h⟩)
theorem pd_is_number {f : Addr} (T : Txt P w K mg base c) (D : DefAt K mg "is_number" s_is_number ["thing"] f)  : PD P w K mg base 1 "is_number" f ["thing"] (sp_is_number K c) :=
  D.keeps (k := 0) sc_is_number (fun vs H Q E h => by
    first | (obtain ⟨_, rfl, _⟩ := h; rfl) | (obtain ⟨_, _, rfl, _⟩ := h; rfl) | (obtain ⟨_, _, _, rfl, _⟩ := h; rfl) | (obtain ⟨_, _, _, _, rfl, _⟩ := h; rfl) | (obtain ⟨_, _, _, _, _, rfl, _⟩ := h; rfl) | (obtain ⟨_, _, _, _, _, _, rfl, _⟩ := h; rfl) | (obtain ⟨_, _, _, _, _, _, _, rfl, _⟩ := h; rfl) | (obtain ⟨_, _, _, _, _, _, _, _, rfl, _⟩ := h; rfl) | (obtain ⟨_, _, _, _, _, _, _, _, _, rfl, _⟩ := h; rfl) | (obtain ⟨_, _, _, _, _, _, _, _, _, _, rfl, _⟩ := h; rfl) | (obtain ⟨_, _, _, _, _, _, _, _, _, _, _, rfl, _⟩ := h; rfl) | (obtain ⟨_, _, _, _, _, _, _, _, _, _, _, _, rfl, _⟩ := h; rfl) | (obtain ⟨_, _, _, _, _, _, _, _, _, _, _, _, _, rfl, _⟩ := h; rfl)) (fun cdv A outer s H vs Q E hr h => ⟨t_is_number K c E,
    (pss_one (ps_ret (pe_and (pe_callB fnIsi (by rfl) T.b_isinstance (by decide +kernel) (pa_cons (pv 0) (pa_cons (pe_bty T.b_int (by decide +kernel) rfl) pa_nil))) (pe_one (pe_not (pe_callB fnIsi (by rfl) T.b_isinstance (by decide +kernel) (pa_cons (pv 0) (pa_cons (pe_bty T.b_bool (by decide +kernel) rfl) pa_nil)))))))),
    pure_is_number h⟩)
theorem pd_is_height {f : Addr} (T : Txt P w K mg base c) (D : DefAt K mg "is_height" s_is_height ["thing"] f) {f_is_number : Addr} (h_is_number : PD P w K mg base 1 "is_number" f_is_number ["thing"] (sp_is_number K c)) : PD P w K mg base 2 "is_height" f ["thing"] (sp_is_height K c) :=
  D.keeps (k := 1) sc_is_height (fun vs H Q E h => by
    first | (obtain ⟨_, rfl, _⟩ := h; rfl) | (obtain ⟨_, _, rfl, _⟩ := h; rfl) | (obtain ⟨_, _, _, rfl, _⟩ := h; rfl) | (obtain ⟨_, _, _, _, rfl, _⟩ := h; rfl) | (obtain ⟨_, _, _, _, _, rfl, _⟩ := h; rfl) | (obtain ⟨_, _, _, _, _, _, rfl, _⟩ := h; rfl) | (obtain ⟨_, _, _, _, _, _, _, rfl, _⟩ := h; rfl) | (obtain ⟨_, _, _, _, _, _, _, _, rfl, _⟩ := h; rfl) | (obtain ⟨_, _, _, _, _, _, _, _, _, rfl, _⟩ := h; rfl) | (obtain ⟨_, _, _, _, _, _, _, _, _, _, rfl, _⟩ := h; rfl) | (obtain ⟨_, _, _, _, _, _, _, _, _, _, _, rfl, _⟩ := h; rfl) | (obtain ⟨_, _, _, _, _, _, _, _, _, _, _, _, rfl, _⟩ := h; rfl) | (obtain ⟨_, _, _, _, _, _, _, _, _, _, _, _, _, rfl, _⟩ := h; rfl)) (fun cdv A outer s H vs Q E hr h => ⟨t_is_height K c E,
    (pss_one (ps_ret (pe_and (pe_pd h_is_number (hr.mono (by decide)) passL rfl (pa_cons (pv 0) pa_nil)) (pe_one (pe_chain opLe opLe pe_int (pv 0) (pe_gint T.k_MOST_HIGH rfl)))))),
    pure_is_height h⟩)
theorem pd_need_row {f : Addr} (T : Txt P w K mg base c) (D : DefAt K mg "need_row" s_need_row ["thing"] f) {f_is_height : Addr} (h_is_height : PD P w K mg base 2 "is_height" f_is_height ["thing"] (sp_is_height K c)) : PD P w K mg base 3 "need_row" f ["thing"] (sp_need_row K c) :=
  D.keeps (k := 2) sc_need_row (fun vs H Q E h => by
    first | (obtain ⟨_, rfl, _⟩ := h; rfl) | (obtain ⟨_, _, rfl, _⟩ := h; rfl) | (obtain ⟨_, _, _, rfl, _⟩ := h; rfl) | (obtain ⟨_, _, _, _, rfl, _⟩ := h; rfl) | (obtain ⟨_, _, _, _, _, rfl, _⟩ := h; rfl) | (obtain ⟨_, _, _, _, _, _, rfl, _⟩ := h; rfl) | (obtain ⟨_, _, _, _, _, _, _, rfl, _⟩ := h; rfl) | (obtain ⟨_, _, _, _, _, _, _, _, rfl, _⟩ := h; rfl) | (obtain ⟨_, _, _, _, _, _, _, _, _, rfl, _⟩ := h; rfl) | (obtain ⟨_, _, _, _, _, _, _, _, _, _, rfl, _⟩ := h; rfl) | (obtain ⟨_, _, _, _, _, _, _, _, _, _, _, rfl, _⟩ := h; rfl) | (obtain ⟨_, _, _, _, _, _, _, _, _, _, _, _, rfl, _⟩ := h; rfl) | (obtain ⟨_, _, _, _, _, _, _, _, _, _, _, _, _, rfl, _⟩ := h; rfl)) (fun cdv A outer s H vs Q E hr h => ⟨t_need_row K c E,
    (pss_cons (ps_if (PW.pt (pw_or (pt_not (pt_val (pe_callB fnIsi (by rfl) T.b_isinstance (by decide +kernel) (pa_cons (pv 0) (pa_cons (pe_tup (pa_cons (pe_bty T.b_list (by decide +kernel) rfl) (pa_cons (pe_bty T.b_tuple (by decide +kernel) rfl) pa_nil))) pa_nil))))) (pw_or1 (pt_not (pt_chain opLe opLe pe_int (pe_callB fnLen (by rfl) T.b_len (by decide +kernel) (pa_cons (pv 0) pa_nil)) (pe_gint T.k_MOST_LONG rfl)))))) (pss_one (ps_raiseP (W := (fun cls d _ H => E cls d H)) rfl (takes_of rfl rfl rfl rfl) T.x_NoRow rfl)) pss_nil)
      (pss_one (ps_for (passes_of rfl) rfl (pi_seq (pv 0)) (pg_name (i := 1) sc_need_row.nd rfl (Or.inl rfl)) (pss_one (ps_if (pt_not (pt_val (pe_pd h_is_height (hr.mono (by decide)) passL rfl (pa_cons (pv 1) pa_nil)))) (pss_one (ps_raiseP (W := (fun cls d _ H => E cls d H)) rfl (takes_of rfl rfl rfl rfl) T.x_NoRow rfl)) pss_nil))))),
    pure_need_row h⟩)
theorem pd_clash {f : Addr} (T : Txt P w K mg base c) (D : DefAt K mg "clash" s_clash ["row"] f) {f_need_row : Addr} (h_need_row : PD P w K mg base 3 "need_row" f_need_row ["thing"] (sp_need_row K c)) : PD P w K mg base 4 "clash" f ["row"] (sp_clash K c) :=
  D.keeps (k := 3) sc_clash (fun vs H Q E h => by
    first | (obtain ⟨_, rfl, _⟩ := h; rfl) | (obtain ⟨_, _, rfl, _⟩ := h; rfl) | (obtain ⟨_, _, _, rfl, _⟩ := h; rfl) | (obtain ⟨_, _, _, _, rfl, _⟩ := h; rfl) | (obtain ⟨_, _, _, _, _, rfl, _⟩ := h; rfl) | (obtain ⟨_, _, _, _, _, _, rfl, _⟩ := h; rfl) | (obtain ⟨_, _, _, _, _, _, _, rfl, _⟩ := h; rfl) | (obtain ⟨_, _, _, _, _, _, _, _, rfl, _⟩ := h; rfl) | (obtain ⟨_, _, _, _, _, _, _, _, _, rfl, _⟩ := h; rfl) | (obtain ⟨_, _, _, _, _, _, _, _, _, _, rfl, _⟩ := h; rfl) | (obtain ⟨_, _, _, _, _, _, _, _, _, _, _, rfl, _⟩ := h; rfl) | (obtain ⟨_, _, _, _, _, _, _, _, _, _, _, _, rfl, _⟩ := h; rfl) | (obtain ⟨_, _, _, _, _, _, _, _, _, _, _, _, _, rfl, _⟩ := h; rfl)) (fun cdv A outer s H vs Q E hr h => ⟨t_clash K c E,
    (pss_cons (ps_expr (pe_pd h_need_row (hr.mono (by decide)) (passE (takes_of rfl rfl rfl rfl)) rfl (pa_cons (pv 0) pa_nil)))
      (pss_cons (ps_set (i := 1) sc_clash.nd rfl (Or.inl rfl) pe_dnewK)
      (pss_cons (ps_for (passes_of rfl) rfl (pi_enumQ rfl T.b_enumerate (pa_cons (pv 0) pa_nil)) (pg_tup rfl (pgs_cons (pg_name (i := 2) sc_clash.nd rfl (Or.inl rfl)) (pgs_cons (pg_name (i := 3) sc_clash.nd rfl (Or.inl rfl)) pgs_nil))) (pss_cons (ps_set (i := 4) sc_clash.nd rfl (Or.inl rfl) (pe_op opMod (pe_op opAdd (pv 2) (pv 3)) (pe_callB fnLen (by rfl) T.b_len (by decide +kernel) (pa_cons (pv 0) pa_nil))))
      (pss_cons (ps_if (pt_cmp (pc_din (hu_of hr) (pv 4) (pv 1))) (pss_one (ps_ret (pe_tup (pa_cons (pe_dget (hu_of hr) (pv 1) (pv 4) (fun _ _ => rfl)) (pa_cons (pv 2) pa_nil))))) pss_nil)
      (pss_one (ps_dput (hu_of hr) (pv 1) (pv 4) (pv 2) rfl)))))
      (pss_one (ps_ret pe_non))))),
    pure_clash h⟩)
theorem pd_need_going {f : Addr} (T : Txt P w K mg base c) (D : DefAt K mg "need_going" s_need_going ["row"] f) {f_clash : Addr} (h_clash : PD P w K mg base 4 "clash" f_clash ["row"] (sp_clash K c)) : PD P w K mg base 5 "need_going" f ["row"] (sp_need_going K c) :=
  D.keeps (k := 4) sc_need_going (fun vs H Q E h => by
    first | (obtain ⟨_, rfl, _⟩ := h; rfl) | (obtain ⟨_, _, rfl, _⟩ := h; rfl) | (obtain ⟨_, _, _, rfl, _⟩ := h; rfl) | (obtain ⟨_, _, _, _, rfl, _⟩ := h; rfl) | (obtain ⟨_, _, _, _, _, rfl, _⟩ := h; rfl) | (obtain ⟨_, _, _, _, _, _, rfl, _⟩ := h; rfl) | (obtain ⟨_, _, _, _, _, _, _, rfl, _⟩ := h; rfl) | (obtain ⟨_, _, _, _, _, _, _, _, rfl, _⟩ := h; rfl) | (obtain ⟨_, _, _, _, _, _, _, _, _, rfl, _⟩ := h; rfl) | (obtain ⟨_, _, _, _, _, _, _, _, _, _, rfl, _⟩ := h; rfl) | (obtain ⟨_, _, _, _, _, _, _, _, _, _, _, rfl, _⟩ := h; rfl) | (obtain ⟨_, _, _, _, _, _, _, _, _, _, _, _, rfl, _⟩ := h; rfl) | (obtain ⟨_, _, _, _, _, _, _, _, _, _, _, _, _, rfl, _⟩ := h; rfl)) (fun cdv A outer s H vs Q E hr h => ⟨t_need_going K c E,
    (pss_cons (ps_set (i := 1) sc_need_going.nd rfl (Or.inl rfl) (pe_pd h_clash (hr.mono (by decide)) (passE (takes_of rfl rfl rfl rfl)) rfl (pa_cons (pv 0) pa_nil)))
      (pss_one (ps_if (pt_cmpR opNotN (pv 1) pe_non (nomark _)) (pss_one (ps_raise2R (W := (fun cls d _ H => E cls d H)) rfl (takes_of rfl rfl rfl rfl) T.r_Clash (hr.mono (by decide)) rfl (pa_cons (pe_ix ix_seq (pv 1) pe_int (fun _ _ => rfl)) (pa_cons (pe_ix ix_seq (pv 1) pe_int (fun _ _ => rfl)) pa_nil)))) pss_nil))),
    pure_need_going h⟩)
theorem pd_state_at {f : Addr} (T : Txt P w K mg base c) (D : DefAtD K mg "state_at" s_state_at ["row", "turn"] (.int 0) f) {f_need_going : Addr} (h_need_going : PD P w K mg base 5 "need_going" f_need_going ["row"] (sp_need_going K c)) {f_is_number : Addr} (h_is_number : PD P w K mg base 1 "is_number" f_is_number ["thing"] (sp_is_number K c)) : PD P w K mg base 6 "state_at" f ["row", "turn"] (sp_state_at K c) ∧ PDd P w K mg base 6 "state_at" f ["row", "turn"] [.int 0] (sp_state_at K c) :=
  D.keeps (k := 5) sc_state_at (fun vs H Q E h => by
    first | (obtain ⟨_, rfl, _⟩ := h; rfl) | (obtain ⟨_, _, rfl, _⟩ := h; rfl) | (obtain ⟨_, _, _, rfl, _⟩ := h; rfl) | (obtain ⟨_, _, _, _, rfl, _⟩ := h; rfl) | (obtain ⟨_, _, _, _, _, rfl, _⟩ := h; rfl) | (obtain ⟨_, _, _, _, _, _, rfl, _⟩ := h; rfl) | (obtain ⟨_, _, _, _, _, _, _, rfl, _⟩ := h; rfl) | (obtain ⟨_, _, _, _, _, _, _, _, rfl, _⟩ := h; rfl) | (obtain ⟨_, _, _, _, _, _, _, _, _, rfl, _⟩ := h; rfl) | (obtain ⟨_, _, _, _, _, _, _, _, _, _, rfl, _⟩ := h; rfl) | (obtain ⟨_, _, _, _, _, _, _, _, _, _, _, rfl, _⟩ := h; rfl) | (obtain ⟨_, _, _, _, _, _, _, _, _, _, _, _, rfl, _⟩ := h; rfl) | (obtain ⟨_, _, _, _, _, _, _, _, _, _, _, _, _, rfl, _⟩ := h; rfl)) (fun cdv A outer s H vs Q E hr h => ⟨t_state_at K c E,
    (pss_cons (ps_expr (pe_pd h_need_going (hr.mono (by decide)) (passE (takes_of rfl rfl rfl rfl)) rfl (pa_cons (pv 0) pa_nil)))
      (pss_cons (ps_if (PW.pt (pw_or (pt_not (pt_val (pe_pd h_is_number (hr.mono (by decide)) passL rfl (pa_cons (pv 1) pa_nil)))) (pw_or1 (pt_cmpR opLt (pv 1) pe_int (nomark _))))) (pss_one (ps_raiseP (W := (fun cls d _ H => E cls d H)) rfl (takes_of rfl rfl rfl rfl) T.x_NoTurn rfl)) pss_nil)
      (pss_cons (ps_set (i := 2) sc_state_at.nd rfl (Or.inl rfl) pe_int)
      (pss_cons (ps_for (passes_of rfl) rfl (pi_range2 rfl T.b_range (pa_cons pe_int (pa_cons (pe_op opAdd (pe_gint T.k_MOST_HIGH rfl) pe_int) pa_nil))) (pg_name (i := 3) sc_state_at.nd rfl (Or.inl rfl)) (pss_cons (ps_set (i := 4) sc_state_at.nd rfl (Or.inl rfl) (pe_ix ix_seq (pv 0) (pe_op opMod (pe_op opSub (pv 1) (pv 3)) (pe_callB fnLen (by rfl) T.b_len (by decide +kernel) (pa_cons (pv 0) pa_nil))) (fun _ _ => rfl)))
      (pss_one (ps_if (pt_cmpR opGe (pv 4) (pv 3) (nomark _)) (pss_one (ps_aug (i := 2) sc_state_at.nd rfl (Or.inl rfl) (pe_op opShl pe_int (pe_op opSub (pv 4) (pv 3))) iop_or)) pss_nil))))
      (pss_one (ps_ret (pv 2))))))),
    pure_state_at h⟩)
theorem pd_k12_l_model {f : Addr} (T : Txt P w K mg base c) (D : DefAt K mg "_law_model" s_k12_l_model ["_law_row"] f) {f_state_at : Addr} (hd_state_at : PDd P w K mg base 6 "state_at" f_state_at ["row", "turn"] [.int 0] (sp_state_at K c)) : PD P w K mg base 7 "_law_model" f ["_law_row"] (sp_k12_l_model K c) :=
  D.keeps (k := 6) sc_k12_l_model (fun vs H Q E h => by
    first | (obtain ⟨_, rfl, _⟩ := h; rfl) | (obtain ⟨_, _, rfl, _⟩ := h; rfl) | (obtain ⟨_, _, _, rfl, _⟩ := h; rfl) | (obtain ⟨_, _, _, _, rfl, _⟩ := h; rfl) | (obtain ⟨_, _, _, _, _, rfl, _⟩ := h; rfl) | (obtain ⟨_, _, _, _, _, _, rfl, _⟩ := h; rfl) | (obtain ⟨_, _, _, _, _, _, _, rfl, _⟩ := h; rfl) | (obtain ⟨_, _, _, _, _, _, _, _, rfl, _⟩ := h; rfl) | (obtain ⟨_, _, _, _, _, _, _, _, _, rfl, _⟩ := h; rfl) | (obtain ⟨_, _, _, _, _, _, _, _, _, _, rfl, _⟩ := h; rfl) | (obtain ⟨_, _, _, _, _, _, _, _, _, _, _, rfl, _⟩ := h; rfl) | (obtain ⟨_, _, _, _, _, _, _, _, _, _, _, _, rfl, _⟩ := h; rfl) | (obtain ⟨_, _, _, _, _, _, _, _, _, _, _, _, _, rfl, _⟩ := h; rfl)) (fun cdv A outer s H vs Q E hr h => ⟨t_k12_l_model K c E,
    (pss_cons (ps_set (i := 1) sc_k12_l_model.nd rfl (Or.inr rfl) (pe_pdd hd_state_at (hr.mono (by decide)) passL rfl (pa_cons (pv 0) pa_nil)))
      (pss_cons (ps_setLc (i := 2) (own := [("_law_k", 3)]) rfl sc_k12_l_model.nd rfl rfl (sw_true rfl rfl rfl (by decide +kernel)) (pi_range1 rfl T.b_range (pa_cons pe_int pa_nil)) (blkOk_by (own := [("_law_k", 3)]) (N := ["_law_row", "_law_state_here", "_law_waits", "_law_k", "_law_wait"]) (sc := defScope s_k12_l_model) (by decide +kernel)) (fun _ _ _ _ _ => (pg_name (i := 3) sc_k12_l_model.nd rfl (Or.inl rfl))) (fun _ _ _ _ _ => (pts_one (pt_cmpR (opEq hr.units) (pe_op opAnd (pe_op opShr (pv 1) (pv 3)) pe_int) pe_int (nomark _)))) (fun _ _ _ _ _ => (pv 3)))
      (pss_one (ps_ret (pe_disp (pps_cons pe_str pe_int (pps_cons pe_str (pe_lst pa_nil) (pps_cons pe_str (pe_callTy fnList (by rfl) T.b_list (by decide +kernel) (pa_cons (pv 0) pa_nil)) (pps_cons pe_str pe_int (pps_cons pe_str (pe_callTy (fnDictP rfl) (by rfl) T.b_dict (by decide +kernel) (pa_cons (pe_lc (own := [("_law_k", 3), ("_law_wait", 4)]) rfl sc_k12_l_model.nd (pi_enumQ rfl T.b_enumerate (pa_cons (pv 2) pa_nil)) (blkOk_by (own := [("_law_k", 3), ("_law_wait", 4)]) (N := ["_law_row", "_law_state_here", "_law_waits", "_law_k", "_law_wait"]) (sc := defScope s_k12_l_model) (by decide +kernel)) (fun _ _ _ _ _ => (pg_tup rfl (pgs_cons (pg_name (i := 3) sc_k12_l_model.nd rfl (Or.inl rfl)) (pgs_cons (pg_name (i := 4) sc_k12_l_model.nd rfl (Or.inl rfl)) pgs_nil)))) (fun _ _ _ _ _ => pts_nil) (fun _ _ _ _ _ => (pe_tup (pa_cons (pv 4) (pa_cons (pv 3) pa_nil))))) pa_nil)) pps_nil))))) (by rfl) (by rfl) (fun z => by cases z) (by decide)))))),
    pure_k12_l_model h⟩)
theorem md_h_init {f : Addr} (T : Txt P w K mg base c) (D : MAt K c.hall "__init__" "Hall.__init__" s_h_init ["self", "row"] f) {f_need_going : Addr} (h_need_going : PD P w K mg base 5 "need_going" f_need_going ["row"] (sp_need_going K c)) {f_state_at : Addr} (hd_state_at : PDd P w K mg base 6 "state_at" f_state_at ["row", "turn"] [.int 0] (sp_state_at K c)) : MD P w K mg base 7 c.hall "__init__" f ["self", "row"] (sp_h_init K c) :=
  D.keeps (k := 6) sc_h_init (fun vs H Q E h => by
    first | (obtain ⟨_, rfl, _⟩ := h; rfl) | (obtain ⟨_, _, rfl, _⟩ := h; rfl) | (obtain ⟨_, _, _, rfl, _⟩ := h; rfl) | (obtain ⟨_, _, _, _, rfl, _⟩ := h; rfl) | (obtain ⟨_, _, _, _, _, rfl, _⟩ := h; rfl) | (obtain ⟨_, _, _, _, _, _, rfl, _⟩ := h; rfl) | (obtain ⟨_, _, _, _, _, _, _, rfl, _⟩ := h; rfl) | (obtain ⟨_, _, _, _, _, _, _, _, rfl, _⟩ := h; rfl) | (obtain ⟨_, _, _, _, _, _, _, _, _, rfl, _⟩ := h; rfl) | (obtain ⟨_, _, _, _, _, _, _, _, _, _, rfl, _⟩ := h; rfl) | (obtain ⟨_, _, _, _, _, _, _, _, _, _, _, rfl, _⟩ := h; rfl) | (obtain ⟨_, _, _, _, _, _, _, _, _, _, _, _, rfl, _⟩ := h; rfl) | (obtain ⟨_, _, _, _, _, _, _, _, _, _, _, _, _, rfl, _⟩ := h; rfl)) (fun cdv A outer s H vs Q E hr h => ⟨t_h_init K c E,
    (pss_cons (ps_expr (pe_pd h_need_going (hr.mono (by decide)) (passE (takes_of rfl rfl rfl rfl)) rfl (pa_cons (pv 1) pa_nil)))
      (pss_cons (ps_fld (pv 0) pe_int rfl)
      (pss_cons (ps_fld (pv 0) (pe_pdd hd_state_at (hr.mono (by decide)) (passE (takes_of rfl rfl rfl rfl)) rfl (pa_cons (pv 1) pa_nil)) rfl)
      (pss_cons (ps_fld (pv 0) pe_dnewK rfl)
      (pss_cons (ps_for (passes_of rfl) rfl (pi_range1 rfl T.b_range (pa_cons pe_int pa_nil)) (pg_name (i := 2) sc_h_init.nd rfl (Or.inl rfl)) (pss_one (ps_if (pt_cmpR (opEq hr.units) (pe_op opAnd (pe_op opShr (pe_fld (pv 0) rfl) (pv 2)) pe_int) pe_int (nomark _)) (pss_one (ps_dput (hu_of hr) (pe_fld (pv 0) rfl) (pv 2) (pe_callB fnLen (by rfl) T.b_len (by decide +kernel) (pa_cons (pe_fld (pv 0) rfl) pa_nil)) rfl)) pss_nil)))
      (pss_cons (ps_fld (pv 0) (pe_lst pa_nil) rfl)
      (pss_cons (ps_fld (pv 0) (pe_callTy fnTuple (by rfl) T.b_tuple (by decide +kernel) (pa_cons (pv 1) pa_nil)) rfl)
      (pss_cons (ps_fld (pv 0) pe_int rfl)
      (pss_one (ps_fld (pv 0) (pe_lst (pa_cons (pe_tup (pa_cons pe_str (pa_cons (pe_fld (pv 0) rfl) pa_nil))) pa_nil)) rfl)))))))))),
    pure_h_init T.hallc.k h⟩)
theorem md_h_ahead {f : Addr} (T : Txt P w K mg base c) (D : MAt K c.hall "ahead" "Hall.ahead" s_h_ahead ["self", "many"] f) {f_is_number : Addr} (h_is_number : PD P w K mg base 1 "is_number" f_is_number ["thing"] (sp_is_number K c)) : MD P w K mg base 2 c.hall "ahead" f ["self", "many"] (sp_h_ahead K c) :=
  D.keeps (k := 1) sc_h_ahead (fun vs H Q E h => by
    first | (obtain ⟨_, rfl, _⟩ := h; rfl) | (obtain ⟨_, _, rfl, _⟩ := h; rfl) | (obtain ⟨_, _, _, rfl, _⟩ := h; rfl) | (obtain ⟨_, _, _, _, rfl, _⟩ := h; rfl) | (obtain ⟨_, _, _, _, _, rfl, _⟩ := h; rfl) | (obtain ⟨_, _, _, _, _, _, rfl, _⟩ := h; rfl) | (obtain ⟨_, _, _, _, _, _, _, rfl, _⟩ := h; rfl) | (obtain ⟨_, _, _, _, _, _, _, _, rfl, _⟩ := h; rfl) | (obtain ⟨_, _, _, _, _, _, _, _, _, rfl, _⟩ := h; rfl) | (obtain ⟨_, _, _, _, _, _, _, _, _, _, rfl, _⟩ := h; rfl) | (obtain ⟨_, _, _, _, _, _, _, _, _, _, _, rfl, _⟩ := h; rfl) | (obtain ⟨_, _, _, _, _, _, _, _, _, _, _, _, rfl, _⟩ := h; rfl) | (obtain ⟨_, _, _, _, _, _, _, _, _, _, _, _, _, rfl, _⟩ := h; rfl)) (fun cdv A outer s H vs Q E hr h => ⟨t_h_ahead K c E,
    (pss_cons (ps_if (PW.pt (pw_or (pt_not (pt_val (pe_pd h_is_number (hr.mono (by decide)) passL rfl (pa_cons (pv 1) pa_nil)))) (pw_or1 (pt_not (pt_chain opLe opLe pe_int (pv 1) (pe_gint T.k_MOST_AHEAD rfl)))))) (pss_one (ps_raiseP (W := (fun cls d _ H => E cls d H)) rfl (takes_of rfl rfl rfl rfl) T.x_NoTurn rfl)) pss_nil)
      (pss_cons (ps_set (i := 2) sc_h_ahead.nd rfl (Or.inl rfl) (pe_slice opSl (pe_fld (pv 0) rfl) po_none (po_some (pv 1))))
      (pss_cons (ps_while (passes_of rfl) (pt_cmpR opLt (pe_callB fnLen (by rfl) T.b_len (by decide +kernel) (pa_cons (pv 2) pa_nil)) (pv 1) (nomark _)) (pss_one (ps_expr (pe_bm PySem.F.plainAttrs_list PySem.F.slot_list_append PySem.F.type_list_append mt_append (pv 2) (pa_cons (pe_ix ix_seq (pe_fld (pv 0) rfl) (pe_op opMod (pe_op opSub (pe_op opAdd (pe_fld (pv 0) rfl) (pe_callB fnLen (by rfl) T.b_len (by decide +kernel) (pa_cons (pv 2) pa_nil))) (pe_callB fnLen (by rfl) T.b_len (by decide +kernel) (pa_cons (pe_fld (pv 0) rfl) pa_nil))) (pe_callB fnLen (by rfl) T.b_len (by decide +kernel) (pa_cons (pe_fld (pv 0) rfl) pa_nil))) (fun _ _ => rfl)) pa_nil)))))
      (pss_one (ps_ret (pv 2)))))),
    pure_h_ahead T.hallc.k h⟩)
theorem pd_need_state {f : Addr} (T : Txt P w K mg base c) (D : DefAt K mg "need_state" s_need_state ["thing"] f) {f_is_number : Addr} (h_is_number : PD P w K mg base 1 "is_number" f_is_number ["thing"] (sp_is_number K c)) : PD P w K mg base 2 "need_state" f ["thing"] (sp_need_state K c) :=
  D.keeps (k := 1) sc_need_state (fun vs H Q E h => by
    first | (obtain ⟨_, rfl, _⟩ := h; rfl) | (obtain ⟨_, _, rfl, _⟩ := h; rfl) | (obtain ⟨_, _, _, rfl, _⟩ := h; rfl) | (obtain ⟨_, _, _, _, rfl, _⟩ := h; rfl) | (obtain ⟨_, _, _, _, _, rfl, _⟩ := h; rfl) | (obtain ⟨_, _, _, _, _, _, rfl, _⟩ := h; rfl) | (obtain ⟨_, _, _, _, _, _, _, rfl, _⟩ := h; rfl) | (obtain ⟨_, _, _, _, _, _, _, _, rfl, _⟩ := h; rfl) | (obtain ⟨_, _, _, _, _, _, _, _, _, rfl, _⟩ := h; rfl) | (obtain ⟨_, _, _, _, _, _, _, _, _, _, rfl, _⟩ := h; rfl) | (obtain ⟨_, _, _, _, _, _, _, _, _, _, _, rfl, _⟩ := h; rfl) | (obtain ⟨_, _, _, _, _, _, _, _, _, _, _, _, rfl, _⟩ := h; rfl) | (obtain ⟨_, _, _, _, _, _, _, _, _, _, _, _, _, rfl, _⟩ := h; rfl)) (fun cdv A outer s H vs Q E hr h => ⟨t_need_state K c E,
    (pss_one (ps_if (PW.pt (pw_or (pt_not (pt_val (pe_pd h_is_number (hr.mono (by decide)) passL rfl (pa_cons (pv 0) pa_nil)))) (pw_or1 (pt_not (pt_chain opLe opLe pe_int (pv 0) (pe_gint T.k_MOST_STATE rfl)))))) (pss_one (ps_raiseP (W := (fun cls d _ H => E cls d H)) rfl (takes_of rfl rfl rfl rfl) T.x_NoState rfl)) pss_nil)),
    pure_need_state h⟩)
theorem pd_lets {f : Addr} (T : Txt P w K mg base c) (D : DefAt K mg "lets" s_lets ["state"] f) {f_need_state : Addr} (h_need_state : PD P w K mg base 2 "need_state" f_need_state ["thing"] (sp_need_state K c)) : PD P w K mg base 3 "lets" f ["state"] (sp_lets K c) :=
  D.keeps (k := 2) sc_lets (fun vs H Q E h => by
    first | (obtain ⟨_, rfl, _⟩ := h; rfl) | (obtain ⟨_, _, rfl, _⟩ := h; rfl) | (obtain ⟨_, _, _, rfl, _⟩ := h; rfl) | (obtain ⟨_, _, _, _, rfl, _⟩ := h; rfl) | (obtain ⟨_, _, _, _, _, rfl, _⟩ := h; rfl) | (obtain ⟨_, _, _, _, _, _, rfl, _⟩ := h; rfl) | (obtain ⟨_, _, _, _, _, _, _, rfl, _⟩ := h; rfl) | (obtain ⟨_, _, _, _, _, _, _, _, rfl, _⟩ := h; rfl) | (obtain ⟨_, _, _, _, _, _, _, _, _, rfl, _⟩ := h; rfl) | (obtain ⟨_, _, _, _, _, _, _, _, _, _, rfl, _⟩ := h; rfl) | (obtain ⟨_, _, _, _, _, _, _, _, _, _, _, rfl, _⟩ := h; rfl) | (obtain ⟨_, _, _, _, _, _, _, _, _, _, _, _, rfl, _⟩ := h; rfl) | (obtain ⟨_, _, _, _, _, _, _, _, _, _, _, _, _, rfl, _⟩ := h; rfl)) (fun cdv A outer s H vs Q E hr h => ⟨t_lets K c E,
    (pss_cons (ps_expr (pe_pd h_need_state (hr.mono (by decide)) (passE (takes_of rfl rfl rfl rfl)) rfl (pa_cons (pv 0) pa_nil)))
      (pss_cons (ps_if (pt_cmpR (opEq hr.units) (pe_op opAnd (pv 0) pe_int) pe_int (nomark _)) (pss_one (ps_ret (pe_lst (pa_cons pe_int pa_nil)))) pss_nil)
      (pss_one (ps_ret (pe_lc (own := [("height", 1)]) rfl sc_lets.nd (pi_range2 rfl T.b_range (pa_cons pe_int (pa_cons (pe_op opAdd (pe_gint T.k_MOST_HIGH rfl) pe_int) pa_nil))) (blkOk_by (own := [("height", 1)]) (N := ["state", "height"]) (sc := defScope s_lets) (by decide +kernel)) (fun _ _ _ _ _ => (pg_name (i := 1) sc_lets.nd rfl (Or.inl rfl))) (fun _ _ _ _ _ => (pts_one (pt_cmpR (opEq hr.units) (pe_op opAnd (pe_op opShr (pv 0) (pv 1)) pe_int) pe_int (nomark _)))) (fun _ _ _ _ _ => (pv 1))))))),
    pure_lets h⟩)
theorem pd_thrown {f : Addr} (T : Txt P w K mg base c) (D : DefAt K mg "thrown" s_thrown ["state", "height"] f) {f_lets : Addr} (h_lets : PD P w K mg base 3 "lets" f_lets ["state"] (sp_lets K c)) {f_is_number : Addr} (h_is_number : PD P w K mg base 1 "is_number" f_is_number ["thing"] (sp_is_number K c)) {f_need_state : Addr} (h_need_state : PD P w K mg base 2 "need_state" f_need_state ["thing"] (sp_need_state K c)) : PD P w K mg base 4 "thrown" f ["state", "height"] (sp_thrown K c) :=
  D.keeps (k := 3) sc_thrown (fun vs H Q E h => by
    first | (obtain ⟨_, rfl, _⟩ := h; rfl) | (obtain ⟨_, _, rfl, _⟩ := h; rfl) | (obtain ⟨_, _, _, rfl, _⟩ := h; rfl) | (obtain ⟨_, _, _, _, rfl, _⟩ := h; rfl) | (obtain ⟨_, _, _, _, _, rfl, _⟩ := h; rfl) | (obtain ⟨_, _, _, _, _, _, rfl, _⟩ := h; rfl) | (obtain ⟨_, _, _, _, _, _, _, rfl, _⟩ := h; rfl) | (obtain ⟨_, _, _, _, _, _, _, _, rfl, _⟩ := h; rfl) | (obtain ⟨_, _, _, _, _, _, _, _, _, rfl, _⟩ := h; rfl) | (obtain ⟨_, _, _, _, _, _, _, _, _, _, rfl, _⟩ := h; rfl) | (obtain ⟨_, _, _, _, _, _, _, _, _, _, _, rfl, _⟩ := h; rfl) | (obtain ⟨_, _, _, _, _, _, _, _, _, _, _, _, rfl, _⟩ := h; rfl) | (obtain ⟨_, _, _, _, _, _, _, _, _, _, _, _, _, rfl, _⟩ := h; rfl)) (fun cdv A outer s H vs Q E hr h => ⟨t_thrown K c E,
    (pss_cons (ps_if (PW.pt (pw_or (pt_not (pt_val (pe_pd h_is_number (hr.mono (by decide)) passL rfl (pa_cons (pv 1) pa_nil)))) (pw_or1 (pt_cmpR opNotIn (pv 1) (pe_pd h_lets (hr.mono (by decide)) (passE (takes_of rfl rfl rfl rfl)) rfl (pa_cons (pv 0) pa_nil)) (by rfl))))) (pss_cons (ps_expr (pe_pd h_need_state (hr.mono (by decide)) (passE (takes_of rfl rfl rfl rfl)) rfl (pa_cons (pv 0) pa_nil)))
      (pss_one (ps_raiseP (W := (fun cls d _ H => E cls d H)) rfl (takes_of rfl rfl rfl rfl) T.x_NoThrow rfl))) pss_nil)
      (pss_cons (ps_if (pt_cmpR opGt (pv 1) pe_int (nomark _)) (pss_one (ps_aug (i := 0) sc_thrown.nd rfl (Or.inl rfl) (pe_op opShl pe_int (pv 1)) iop_or)) pss_nil)
      (pss_one (ps_ret (pe_op opShr (pv 0) pe_int))))),
    pure_thrown h⟩)
theorem md_h_step {f : Addr} (T : Txt P w K mg base c) (D : MAt K c.hall "step" "Hall.step" s_h_step ["self"] f) {f_h_ahead : Addr} (m_h_ahead : MD P w K mg base 2 c.hall "ahead" f_h_ahead ["self", "many"] (sp_h_ahead K c)) {f_thrown : Addr} (h_thrown : PD P w K mg base 4 "thrown" f_thrown ["state", "height"] (sp_thrown K c)) : MD P w K mg base 5 c.hall "step" f ["self"] (sp_h_step K c) :=
  D.keeps (k := 4) sc_h_step (fun vs H Q E h => by
    first | (obtain ⟨_, rfl, _⟩ := h; rfl) | (obtain ⟨_, _, rfl, _⟩ := h; rfl) | (obtain ⟨_, _, _, rfl, _⟩ := h; rfl) | (obtain ⟨_, _, _, _, rfl, _⟩ := h; rfl) | (obtain ⟨_, _, _, _, _, rfl, _⟩ := h; rfl) | (obtain ⟨_, _, _, _, _, _, rfl, _⟩ := h; rfl) | (obtain ⟨_, _, _, _, _, _, _, rfl, _⟩ := h; rfl) | (obtain ⟨_, _, _, _, _, _, _, _, rfl, _⟩ := h; rfl) | (obtain ⟨_, _, _, _, _, _, _, _, _, rfl, _⟩ := h; rfl) | (obtain ⟨_, _, _, _, _, _, _, _, _, _, rfl, _⟩ := h; rfl) | (obtain ⟨_, _, _, _, _, _, _, _, _, _, _, rfl, _⟩ := h; rfl) | (obtain ⟨_, _, _, _, _, _, _, _, _, _, _, _, rfl, _⟩ := h; rfl) | (obtain ⟨_, _, _, _, _, _, _, _, _, _, _, _, _, rfl, _⟩ := h; rfl)) (fun cdv A outer s H vs Q E hr h => ⟨t_h_step K c E,
    (pss_cons (ps_set (i := 1) sc_h_step.nd rfl (Or.inl rfl) (pe_ix ix_seq (pe_md (pv 0) T.hallc.k.cl m_h_ahead (hr.mono (by decide)) passL (pa_cons pe_int pa_nil)) pe_int (fun _ _ => rfl)))
      (pss_cons (ps_if (pt_cmpR (opNe hr.units) (pe_fld (pv 0) rfl) (pe_lst pa_nil) (nomark _)) (pss_one (ps_fld (pv 0) (pe_slice opSl (pe_fld (pv 0) rfl) (po_some pe_int) po_none) rfl)) (pss_one (ps_fld (pv 0) (pe_op opMod (pe_op opAdd (pe_fld (pv 0) rfl) pe_int) (pe_callB fnLen (by rfl) T.b_len (by decide +kernel) (pa_cons (pe_fld (pv 0) rfl) pa_nil))) rfl)))
      (pss_cons (ps_set (i := 2) sc_h_step.nd rfl (Or.inl rfl) (pe_dpop2 (pe_fld (pv 0) rfl) (pe_fld (pv 0) rfl) pe_non ⟨rfl, rfl, rfl, rfl⟩))
      (pss_cons (ps_if (pt_cmpR opNotN (pv 2) pe_non (nomark _)) (pss_one (ps_dput (hu_of hr) (pe_fld (pv 0) rfl) (pe_op opAdd (pe_fld (pv 0) rfl) (pv 1)) (pv 2) rfl)) pss_nil)
      (pss_cons (ps_fld (pv 0) (pe_pd h_thrown (hr.mono (by decide)) passL rfl (pa_cons (pe_fld (pv 0) rfl) (pa_cons (pv 1) pa_nil))) rfl)
      (pss_cons (ps_fldaug (pv 0) pe_int in_add)
      (pss_cons (ps_expr (pe_bm PySem.F.plainAttrs_list PySem.F.slot_list_append PySem.F.type_list_append mt_append (pe_fld (pv 0) rfl) (pa_cons (pe_tup (pa_cons pe_str (pa_cons (pv 2) (pa_cons (pv 1) pa_nil)))) pa_nil)))
      (pss_one (ps_ret (pe_tup (pa_cons (pe_op opSub (pe_fld (pv 0) rfl) pe_int) (pa_cons (pv 2) (pa_cons (pv 1) pa_nil))))))))))))),
    pure_h_step T.hallc.k h⟩)
theorem pd_k12_l_step {f : Addr} (T : Txt P w K mg base c) (D : DefAt K mg "_law_step" s_k12_l_step ["_law_model_here"] f)  : PD P w K mg base 1 "_law_step" f ["_law_model_here"] (sp_k12_l_step K c) :=
  D.keeps (k := 0) sc_k12_l_step (fun vs H Q E h => by
    first | (obtain ⟨_, rfl, _⟩ := h; rfl) | (obtain ⟨_, _, rfl, _⟩ := h; rfl) | (obtain ⟨_, _, _, rfl, _⟩ := h; rfl) | (obtain ⟨_, _, _, _, rfl, _⟩ := h; rfl) | (obtain ⟨_, _, _, _, _, rfl, _⟩ := h; rfl) | (obtain ⟨_, _, _, _, _, _, rfl, _⟩ := h; rfl) | (obtain ⟨_, _, _, _, _, _, _, rfl, _⟩ := h; rfl) | (obtain ⟨_, _, _, _, _, _, _, _, rfl, _⟩ := h; rfl) | (obtain ⟨_, _, _, _, _, _, _, _, _, rfl, _⟩ := h; rfl) | (obtain ⟨_, _, _, _, _, _, _, _, _, _, rfl, _⟩ := h; rfl) | (obtain ⟨_, _, _, _, _, _, _, _, _, _, _, rfl, _⟩ := h; rfl) | (obtain ⟨_, _, _, _, _, _, _, _, _, _, _, _, rfl, _⟩ := h; rfl) | (obtain ⟨_, _, _, _, _, _, _, _, _, _, _, _, _, rfl, _⟩ := h; rfl)) (fun cdv A outer s H vs Q E hr h => ⟨t_k12_l_step K c E,
    (pss_cons (ps_if (pt_cmpR (opNe hr.units) (pe_dget (hu_of hr) (pv 0) pe_str (fun _ _ => rfl)) (pe_lst pa_nil) (nomark _)) (pss_one (ps_set (i := 1) sc_k12_l_step.nd rfl (Or.inl rfl) (pe_bm PySem.F.plainAttrs_list PySem.F.slot_list_pop PySem.F.type_list_pop mt_popAt (pe_dget (hu_of hr) (pv 0) pe_str (fun _ _ => rfl)) (pa_cons pe_int pa_nil)))) (pss_cons (ps_set (i := 1) sc_k12_l_step.nd rfl (Or.inl rfl) (pe_ix ix_seq (pe_dget (hu_of hr) (pv 0) pe_str (fun _ _ => rfl)) (pe_op opMod (pe_dget (hu_of hr) (pv 0) pe_str (fun _ _ => rfl)) (pe_callB fnLen (by rfl) T.b_len (by decide +kernel) (pa_cons (pe_dget (hu_of hr) (pv 0) pe_str (fun _ _ => rfl)) pa_nil))) (fun _ _ => rfl)))
      (pss_one (ps_dput (hu_of hr) (pv 0) pe_str (pe_op opAdd (pe_dget (hu_of hr) (pv 0) pe_str (fun _ _ => rfl)) pe_int) rfl))))
      (pss_cons (ps_set (i := 2) sc_k12_l_step.nd rfl (Or.inl rfl) (pe_dget (hu_of hr) (pv 0) pe_str (fun _ _ => rfl)))
      (pss_cons (ps_set (i := 3) sc_k12_l_step.nd rfl (Or.inl rfl) (pe_dpop2 (pe_dget (hu_of hr) (pv 0) pe_str (fun _ _ => rfl)) (pv 2) pe_non ⟨rfl, rfl, rfl, rfl⟩))
      (pss_cons (ps_if (pt_cmpR opNotN (pv 3) pe_non (nomark _)) (pss_one (ps_dput (hu_of hr) (pe_dget (hu_of hr) (pv 0) pe_str (fun _ _ => rfl)) (pe_op opAdd (pv 2) (pv 1)) (pv 3) rfl)) pss_nil)
      (pss_cons (ps_dput (hu_of hr) (pv 0) pe_str (pe_op opAdd (pv 2) pe_int) rfl)
      (pss_one (ps_ret (pe_tup (pa_cons (pv 2) (pa_cons (pv 3) (pa_cons (pv 1) pa_nil))))))))))),
    pure_k12_l_step h⟩)
theorem pd_things {f : Addr} (T : Txt P w K mg base c) (D : DefAt K mg "things" s_things ["row"] f) {f_need_going : Addr} (h_need_going : PD P w K mg base 5 "need_going" f_need_going ["row"] (sp_need_going K c)) : PD P w K mg base 6 "things" f ["row"] (sp_things K c) :=
  D.keeps (k := 5) sc_things (fun vs H Q E h => by
    first | (obtain ⟨_, rfl, _⟩ := h; rfl) | (obtain ⟨_, _, rfl, _⟩ := h; rfl) | (obtain ⟨_, _, _, rfl, _⟩ := h; rfl) | (obtain ⟨_, _, _, _, rfl, _⟩ := h; rfl) | (obtain ⟨_, _, _, _, _, rfl, _⟩ := h; rfl) | (obtain ⟨_, _, _, _, _, _, rfl, _⟩ := h; rfl) | (obtain ⟨_, _, _, _, _, _, _, rfl, _⟩ := h; rfl) | (obtain ⟨_, _, _, _, _, _, _, _, rfl, _⟩ := h; rfl) | (obtain ⟨_, _, _, _, _, _, _, _, _, rfl, _⟩ := h; rfl) | (obtain ⟨_, _, _, _, _, _, _, _, _, _, rfl, _⟩ := h; rfl) | (obtain ⟨_, _, _, _, _, _, _, _, _, _, _, rfl, _⟩ := h; rfl) | (obtain ⟨_, _, _, _, _, _, _, _, _, _, _, _, rfl, _⟩ := h; rfl) | (obtain ⟨_, _, _, _, _, _, _, _, _, _, _, _, _, rfl, _⟩ := h; rfl)) (fun cdv A outer s H vs Q E hr h => ⟨t_things K c E,
    (pss_cons (ps_expr (pe_pd h_need_going (hr.mono (by decide)) (passE (takes_of rfl rfl rfl rfl)) rfl (pa_cons (pv 0) pa_nil)))
      (pss_one (ps_ret (pe_op opDiv (pe_callB (fnSum rfl) (by rfl) T.b_sum (by decide +kernel) (pa_cons (pv 0) pa_nil)) (pe_callB fnLen (by rfl) T.b_len (by decide +kernel) (pa_cons (pv 0) pa_nil)))))),
    pure_things h⟩)
theorem pd_bits_in {f : Addr} (T : Txt P w K mg base c) (D : DefAt K mg "bits_in" s_bits_in ["state"] f)  : PD P w K mg base 1 "bits_in" f ["state"] (sp_bits_in K c) :=
  D.keeps (k := 0) sc_bits_in (fun vs H Q E h => by
    first | (obtain ⟨_, rfl, _⟩ := h; rfl) | (obtain ⟨_, _, rfl, _⟩ := h; rfl) | (obtain ⟨_, _, _, rfl, _⟩ := h; rfl) | (obtain ⟨_, _, _, _, rfl, _⟩ := h; rfl) | (obtain ⟨_, _, _, _, _, rfl, _⟩ := h; rfl) | (obtain ⟨_, _, _, _, _, _, rfl, _⟩ := h; rfl) | (obtain ⟨_, _, _, _, _, _, _, rfl, _⟩ := h; rfl) | (obtain ⟨_, _, _, _, _, _, _, _, rfl, _⟩ := h; rfl) | (obtain ⟨_, _, _, _, _, _, _, _, _, rfl, _⟩ := h; rfl) | (obtain ⟨_, _, _, _, _, _, _, _, _, _, rfl, _⟩ := h; rfl) | (obtain ⟨_, _, _, _, _, _, _, _, _, _, _, rfl, _⟩ := h; rfl) | (obtain ⟨_, _, _, _, _, _, _, _, _, _, _, _, rfl, _⟩ := h; rfl) | (obtain ⟨_, _, _, _, _, _, _, _, _, _, _, _, _, rfl, _⟩ := h; rfl)) (fun cdv A outer s H vs Q E hr h => ⟨t_bits_in K c E,
    (pss_cons (ps_set (i := 1) sc_bits_in.nd rfl (Or.inl rfl) pe_int)
      (pss_cons (ps_while (passes_of rfl) (pt_cmpR opGt (pv 0) pe_int (nomark _)) (pss_cons (ps_aug (i := 1) sc_bits_in.nd rfl (Or.inl rfl) (pe_op opAnd (pv 0) pe_int) ip_add)
      (pss_one (ps_aug (i := 0) sc_bits_in.nd rfl (Or.inl rfl) pe_int iop_shr))))
      (pss_one (ps_ret (pv 1))))),
    pure_bits_in h⟩)
theorem pd_way {f : Addr} (T : Txt P w K mg base c) (D : DefAt K mg "way" s_way ["one", "other"] f) {f_need_state : Addr} (h_need_state : PD P w K mg base 2 "need_state" f_need_state ["thing"] (sp_need_state K c)) {f_bits_in : Addr} (h_bits_in : PD P w K mg base 1 "bits_in" f_bits_in ["state"] (sp_bits_in K c)) {f_lets : Addr} (h_lets : PD P w K mg base 3 "lets" f_lets ["state"] (sp_lets K c)) {f_thrown : Addr} (h_thrown : PD P w K mg base 4 "thrown" f_thrown ["state", "height"] (sp_thrown K c)) : PD P w K mg base 5 "way" f ["one", "other"] (sp_way K c) :=
  D.keeps (k := 4) sc_way (fun vs H Q E h => by
    first | (obtain ⟨_, rfl, _⟩ := h; rfl) | (obtain ⟨_, _, rfl, _⟩ := h; rfl) | (obtain ⟨_, _, _, rfl, _⟩ := h; rfl) | (obtain ⟨_, _, _, _, rfl, _⟩ := h; rfl) | (obtain ⟨_, _, _, _, _, rfl, _⟩ := h; rfl) | (obtain ⟨_, _, _, _, _, _, rfl, _⟩ := h; rfl) | (obtain ⟨_, _, _, _, _, _, _, rfl, _⟩ := h; rfl) | (obtain ⟨_, _, _, _, _, _, _, _, rfl, _⟩ := h; rfl) | (obtain ⟨_, _, _, _, _, _, _, _, _, rfl, _⟩ := h; rfl) | (obtain ⟨_, _, _, _, _, _, _, _, _, _, rfl, _⟩ := h; rfl) | (obtain ⟨_, _, _, _, _, _, _, _, _, _, _, rfl, _⟩ := h; rfl) | (obtain ⟨_, _, _, _, _, _, _, _, _, _, _, _, rfl, _⟩ := h; rfl) | (obtain ⟨_, _, _, _, _, _, _, _, _, _, _, _, _, rfl, _⟩ := h; rfl)) (fun cdv A outer s H vs Q E hr h => ⟨t_way K c E,
    (pss_cons (ps_expr (pe_pd h_need_state (hr.mono (by decide)) (passE (takes_of rfl rfl rfl rfl)) rfl (pa_cons (pv 0) pa_nil)))
      (pss_cons (ps_expr (pe_pd h_need_state (hr.mono (by decide)) (passE (takes_of rfl rfl rfl rfl)) rfl (pa_cons (pv 1) pa_nil)))
      (pss_cons (ps_if (pt_cmpR (opNe hr.units) (pe_pd h_bits_in (hr.mono (by decide)) passL rfl (pa_cons (pv 0) pa_nil)) (pe_pd h_bits_in (hr.mono (by decide)) passL rfl (pa_cons (pv 1) pa_nil)) (nomark _)) (pss_one (ps_raiseP (W := (fun cls d _ H => E cls d H)) rfl (takes_of rfl rfl rfl rfl) T.x_NoWay rfl)) pss_nil)
      (pss_cons (ps_set (i := 2) sc_way.nd rfl (Or.inl rfl) (pe_disp (pps_cons (pv 0) (pe_lst pa_nil) pps_nil) (by rfl) (by rfl) (fun z => by cases z) (by decide)))
      (pss_cons (ps_set (i := 3) sc_way.nd rfl (Or.inl rfl) (pe_lst (pa_cons (pv 0) pa_nil)))
      (pss_cons (ps_set (i := 4) sc_way.nd rfl (Or.inl rfl) pe_int)
      (pss_cons (ps_while (passes_of rfl) (pt_cmp (pc_dnotin (hu_of hr) (pv 1) (pv 2))) (pss_cons (ps_set (i := 5) sc_way.nd rfl (Or.inl rfl) (pe_ix ix_seq (pv 3) (pv 4) (fun _ _ => rfl)))
      (pss_cons (ps_aug (i := 4) sc_way.nd rfl (Or.inl rfl) pe_int ip_add)
      (pss_one (ps_for (passes_of rfl) rfl (pi_seq (pe_pd h_lets (hr.mono (by decide)) (passE (takes_of rfl rfl rfl rfl)) rfl (pa_cons (pv 5) pa_nil))) (pg_name (i := 6) sc_way.nd rfl (Or.inl rfl)) (pss_cons (ps_set (i := 7) sc_way.nd rfl (Or.inl rfl) (pe_pd h_thrown (hr.mono (by decide)) (passE (takes_of rfl rfl rfl rfl)) rfl (pa_cons (pv 5) (pa_cons (pv 6) pa_nil))))
      (pss_one (ps_if (pt_cmp (pc_dnotin (hu_of hr) (pv 7) (pv 2))) (pss_cons (ps_dput (hu_of hr) (pv 2) (pv 7) (pe_op opAdd (pe_dget (hu_of hr) (pv 2) (pv 5) (fun _ _ => rfl)) (pe_lst (pa_cons (pv 6) pa_nil))) rfl)
      (pss_one (ps_expr (pe_bm PySem.F.plainAttrs_list PySem.F.slot_list_append PySem.F.type_list_append mt_append (pv 3) (pa_cons (pv 7) pa_nil))))) pss_nil))))))))
      (pss_one (ps_ret (pe_callTy fnList (by rfl) T.b_list (by decide +kernel) (pa_cons (pe_dget (hu_of hr) (pv 2) (pv 1) (fun _ _ => rfl)) pa_nil))))))))))),
    pure_way h⟩)
theorem md_h_change {f : Addr} (T : Txt P w K mg base c) (D : MAt K c.hall "change" "Hall.change" s_h_change ["self", "row"] f) {f_things : Addr} (h_things : PD P w K mg base 6 "things" f_things ["row"] (sp_things K c)) {f_way : Addr} (h_way : PD P w K mg base 5 "way" f_way ["one", "other"] (sp_way K c)) {f_state_at : Addr} (hd_state_at : PDd P w K mg base 6 "state_at" f_state_at ["row", "turn"] [.int 0] (sp_state_at K c)) : MD P w K mg base 7 c.hall "change" f ["self", "row"] (sp_h_change K c) :=
  D.keeps (k := 6) sc_h_change (fun vs H Q E h => by
    first | (obtain ⟨_, rfl, _⟩ := h; rfl) | (obtain ⟨_, _, rfl, _⟩ := h; rfl) | (obtain ⟨_, _, _, rfl, _⟩ := h; rfl) | (obtain ⟨_, _, _, _, rfl, _⟩ := h; rfl) | (obtain ⟨_, _, _, _, _, rfl, _⟩ := h; rfl) | (obtain ⟨_, _, _, _, _, _, rfl, _⟩ := h; rfl) | (obtain ⟨_, _, _, _, _, _, _, rfl, _⟩ := h; rfl) | (obtain ⟨_, _, _, _, _, _, _, _, rfl, _⟩ := h; rfl) | (obtain ⟨_, _, _, _, _, _, _, _, _, rfl, _⟩ := h; rfl) | (obtain ⟨_, _, _, _, _, _, _, _, _, _, rfl, _⟩ := h; rfl) | (obtain ⟨_, _, _, _, _, _, _, _, _, _, _, rfl, _⟩ := h; rfl) | (obtain ⟨_, _, _, _, _, _, _, _, _, _, _, _, rfl, _⟩ := h; rfl) | (obtain ⟨_, _, _, _, _, _, _, _, _, _, _, _, _, rfl, _⟩ := h; rfl)) (fun cdv A outer s H vs Q E hr h => ⟨t_h_change K c E,
    (pss_cons (ps_if (pt_cmpR (opNe hr.units) (pe_pd h_things (hr.mono (by decide)) (passE (takes_of rfl rfl rfl rfl)) rfl (pa_cons (pv 1) pa_nil)) (pe_callB fnLen (by rfl) T.b_len (by decide +kernel) (pa_cons (pe_fld (pv 0) rfl) pa_nil)) (nomark _)) (pss_one (ps_raiseP (W := (fun cls d _ H => E cls d H)) rfl (takes_of rfl rfl rfl rfl) T.x_NoWay rfl)) pss_nil)
      (pss_cons (ps_fld (pv 0) (pe_pd h_way (hr.mono (by decide)) (passE (takes_of rfl rfl rfl rfl)) rfl (pa_cons (pe_fld (pv 0) rfl) (pa_cons (pe_pdd hd_state_at (hr.mono (by decide)) (passE (takes_of rfl rfl rfl rfl)) rfl (pa_cons (pv 1) pa_nil)) pa_nil))) rfl)
      (pss_cons (ps_fld (pv 0) (pe_callTy fnTuple (by rfl) T.b_tuple (by decide +kernel) (pa_cons (pv 1) pa_nil)) rfl)
      (pss_cons (ps_fld (pv 0) pe_int rfl)
      (pss_one (ps_expr (pe_bm PySem.F.plainAttrs_list PySem.F.slot_list_append PySem.F.type_list_append mt_append (pe_fld (pv 0) rfl) (pa_cons (pe_tup (pa_cons pe_str (pa_cons (pe_fld (pv 0) rfl) pa_nil))) pa_nil)))))))),
    pure_h_change T.hallc.k h⟩)
theorem pd_k12_l_state {f : Addr} (T : Txt P w K mg base c) (D : DefAt K mg "_law_state" s_k12_l_state ["_law_model_here"] f)  : PD P w K mg base 1 "_law_state" f ["_law_model_here"] (sp_k12_l_state K c) :=
  D.keeps (k := 0) sc_k12_l_state (fun vs H Q E h => by
    first | (obtain ⟨_, rfl, _⟩ := h; rfl) | (obtain ⟨_, _, rfl, _⟩ := h; rfl) | (obtain ⟨_, _, _, rfl, _⟩ := h; rfl) | (obtain ⟨_, _, _, _, rfl, _⟩ := h; rfl) | (obtain ⟨_, _, _, _, _, rfl, _⟩ := h; rfl) | (obtain ⟨_, _, _, _, _, _, rfl, _⟩ := h; rfl) | (obtain ⟨_, _, _, _, _, _, _, rfl, _⟩ := h; rfl) | (obtain ⟨_, _, _, _, _, _, _, _, rfl, _⟩ := h; rfl) | (obtain ⟨_, _, _, _, _, _, _, _, _, rfl, _⟩ := h; rfl) | (obtain ⟨_, _, _, _, _, _, _, _, _, _, rfl, _⟩ := h; rfl) | (obtain ⟨_, _, _, _, _, _, _, _, _, _, _, rfl, _⟩ := h; rfl) | (obtain ⟨_, _, _, _, _, _, _, _, _, _, _, _, rfl, _⟩ := h; rfl) | (obtain ⟨_, _, _, _, _, _, _, _, _, _, _, _, _, rfl, _⟩ := h; rfl)) (fun cdv A outer s H vs Q E hr h => ⟨t_k12_l_state K c E,
    (pss_one (ps_ret (pe_callB (fnSum rfl) (by rfl) T.b_sum (by decide +kernel) (pa_cons (pe_lock (pe_lc (own := [("_law_when", 1)]) rfl sc_k12_l_state.nd (pi_keys (pe_dget (hu_of hr) (pv 0) pe_str (fun _ _ => rfl))) (blkOk_by (own := [("_law_when", 1)]) (N := ["_law_model_here", "_law_when"]) (sc := defScope s_k12_l_state) (by decide +kernel)) (fun _ _ _ _ _ => (pg_name (i := 1) sc_k12_l_state.nd rfl (Or.inl rfl))) (fun _ _ _ _ _ => pts_nil) (fun _ _ _ _ _ => (pe_op opShl pe_int (pe_op opSub (pv 1) (pe_dget (hu_of hr) (pv 0) pe_str (fun _ _ => rfl))))))) pa_nil)))),
    pure_k12_l_state h⟩)
end
theorem gives_k12_l_told {X : Cx} {c : Cs} (T : Txt X.prog X.w X.K X.mg X.base c) {g : Addr} {cdg : Value} {q : Str} : GivesS X ["_law_work", "_law_found"] "_law_told" (defScope s_k12_l_told) g cdg (defBody s_k12_l_told) "_law_work" q (TT12 X.K c) := fun f c' s H Q tl act hc h =>
  ⟨_, (pss_cons (ps_set (i := 1) sc_k12_l_told.nd rfl (Or.inl rfl) pe_non)
  (pss_cons (ps_try_many (tb := fun W => (tAsg (fun σZ HZ Q => σZ[0]? = some (some (V.ref f)) ∧ HZ c' = some (LamX.CodeO c' q) ∧ tl (WE W σZ) HZ Q) (gName 1))) (l := [((.ref c.norow), fun a cls d => (tAsg (tC (.str "row")) (gName 1))), ((.ref c.clash), fun a cls d => (tAsg (tC (.str "clash")) (gName 1))), ((.ref c.noway), fun a cls d => (tAsg (tC (.str "way")) (gName 1))), ((.ref c.noturn), fun a cls d => (tAsg (tC (.str "turn")) (gName 1)))]) (Wout := (fun _ _ _ _ => False)) rfl rfl takes0 (fun W pn xe tk _ => (pss_one (ps_set (i := 1) sc_k12_l_told.nd rfl (Or.inl rfl) (act W pn xe _ _ tk)))) (.cons ⟨rfl, by decide, .inl T.x_NoRow.g⟩ (fun a oe cls d pn hz hf => (pss_one (ps_set (i := 1) sc_k12_l_told.nd rfl (Or.inl rfl) pe_str))) (.cons ⟨rfl, by decide, .inl T.x_Clash.g⟩ (fun a oe cls d pn hz hf => (pss_one (ps_set (i := 1) sc_k12_l_told.nd rfl (Or.inl rfl) pe_str))) (.cons ⟨rfl, by decide, .inl T.x_NoWay.g⟩ (fun a oe cls d pn hz hf => (pss_one (ps_set (i := 1) sc_k12_l_told.nd rfl (Or.inl rfl) pe_str))) (.cons ⟨rfl, by decide, .inl T.x_NoTurn.g⟩ (fun a oe cls d pn hz hf => (pss_one (ps_set (i := 1) sc_k12_l_told.nd rfl (Or.inl rfl) pe_str))) .nil)))))
  (pss_one (ps_ret (pv 1))))),
    rfl, hc, h f⟩
section
variable {P : Program} {w : World} {K : PySem.W.Frag} {mg : Str → Option Value} {base : Heap} {c : Cs}
theorem pd_k12_l_changed {f cc f_told : Addr} (T : Txt P w K mg base c) (N : Ex12 K c) (hne : c.f_turned ≠ c.f_repeated) (D : DefAtC K mg "_law_changed" s_k12_l_changed ["_law_hall", "_law_model_here", "_law_cell"] f cc) (TB : LamX.TabB base mg cc c.f_turned) (D_told : DefAt K mg "_law_told" s_k12_l_told ["_law_work"] f_told) (h_l_going : PD P w K mg base 3 "_law_going" c.f_l_going ["_law_cell", "_law_many"] (sp_l_going K c)) {f_things : Addr} (h_things : PD P w K mg base 6 "things" f_things ["row"] (sp_things K c)) {f_h_change : Addr} (m_h_change : MD P w K mg base 7 c.hall "change" f_h_change ["self", "row"] (sp_h_change K c)) {f_way : Addr} (h_way : PD P w K mg base 5 "way" f_way ["one", "other"] (sp_way K c)) {f_state_at : Addr} (hd_state_at : PDd P w K mg base 6 "state_at" f_state_at ["row", "turn"] [.int 0] (sp_state_at K c)) {f_k12_l_state : Addr} (h_k12_l_state : PD P w K mg base 1 "_law_state" f_k12_l_state ["_law_model_here"] (sp_k12_l_state K c)) : PD P w K mg base 10 "_law_changed" f ["_law_hall", "_law_model_here", "_law_cell"] (sp_k12_l_changed K c) :=
  D.keeps (k := 9) sc_k12_l_changed (fun vs H Q E h => by
    first | (obtain ⟨_, rfl, _⟩ := h; rfl) | (obtain ⟨_, _, rfl, _⟩ := h; rfl) | (obtain ⟨_, _, _, rfl, _⟩ := h; rfl) | (obtain ⟨_, _, _, _, rfl, _⟩ := h; rfl) | (obtain ⟨_, _, _, _, _, rfl, _⟩ := h; rfl) | (obtain ⟨_, _, _, _, _, _, rfl, _⟩ := h; rfl) | (obtain ⟨_, _, _, _, _, _, _, rfl, _⟩ := h; rfl) | (obtain ⟨_, _, _, _, _, _, _, _, rfl, _⟩ := h; rfl) | (obtain ⟨_, _, _, _, _, _, _, _, _, rfl, _⟩ := h; rfl) | (obtain ⟨_, _, _, _, _, _, _, _, _, _, rfl, _⟩ := h; rfl) | (obtain ⟨_, _, _, _, _, _, _, _, _, _, _, rfl, _⟩ := h; rfl) | (obtain ⟨_, _, _, _, _, _, _, _, _, _, _, _, rfl, _⟩ := h; rfl) | (obtain ⟨_, _, _, _, _, _, _, _, _, _, _, _, _, rfl, _⟩ := h; rfl)) (fun A outer s H vs Q E hr h => ⟨t_k12_l_changed K c E,
    (pss_cons (ps_set (i := 5) sc_k12_l_changed.nd rfl (Or.inr rfl) (pe_pd h_l_going (hr.mono (by decide)) passL rfl (pa_cons (pe_op opAdd (pe_op opMul (pe_op opDiv (pv 2) pe_int) pe_int) (pe_op opMod (pe_ix ix_seq (pe_lst (pa_cons (pe_ix ix_seq (pe_dget (hu_of hr) (pv 1) pe_str (fun _ _ => rfl)) pe_int (fun _ _ => rfl)) (pa_cons (pv 2) pa_nil))) (pe_op opMod (pe_op opDiv (pv 2) pe_int) pe_int) (fun _ _ => rfl)) pe_int)) (pa_cons (pe_op opAdd pe_int (pe_op opMod (pe_op opDiv (pv 2) pe_int) pe_int)) pa_nil))))
      (pss_cons (ps_set (i := 3) sc_k12_l_changed.nd rfl (Or.inl rfl) (pe_callB fnLen (by rfl) T.b_len (by decide +kernel) (pa_cons (pe_dget (hu_of hr) (pv 1) pe_str (fun _ _ => rfl)) pa_nil)))
      (pss_cons (ps_if (pt_cmpR opGt (pe_op opMod (pe_op opDiv (pv 2) pe_int) pe_int) pe_int (nomark _)) (pss_one (ps_set (i := 5) sc_k12_l_changed.nd rfl (Or.inr rfl) (pe_pd h_l_going (hr.mono (by decide)) passL rfl (pa_cons (pe_op opAdd (pe_op opMul (pe_op opDiv (pv 2) pe_int) pe_int) (pv 3)) (pa_cons (pe_op opAdd pe_int (pe_op opMod (pe_op opDiv (pv 2) pe_int) pe_int)) pa_nil))))) pss_nil)
      (pss_cons (ps_if (pt_cmpR (opEq hr.units) (pe_op opMod (pe_op opDiv (pv 2) pe_int) pe_int) pe_int (nomark _)) (pss_one (ps_set (i := 5) sc_k12_l_changed.nd rfl (Or.inr rfl) (pe_ix ix_seq (pe_lst (pa_cons (pe_lst pa_nil) (pa_cons (pe_lst (pa_cons pe_int pa_nil)) (pa_cons (pe_lst (pa_cons pe_int (pa_cons pe_int pa_nil))) (pa_cons (pe_tup (pa_cons pe_int (pa_cons pe_int pa_nil))) (pa_cons pe_non pa_nil)))))) (pe_op opMod (pe_op opDiv (pv 2) pe_int) pe_int) (fun _ _ => rfl)))) pss_nil)
      (pss_cons (ps_set (i := 4) sc_k12_l_changed.nd rfl (Or.inl rfl) pe_str)
      (pss_cons (ps_if (pt_cmpR (op_inD (units65 hr)) (pv 5) (pe_lst (pa_cons (pe_lst (pa_cons pe_int (pa_cons pe_int pa_nil))) (pa_cons (pe_tup (pa_cons pe_int (pa_cons pe_int pa_nil))) pa_nil))) (by rfl)) (pss_one (ps_set (i := 4) sc_k12_l_changed.nd rfl (Or.inl rfl) pe_str)) (pss_one (ps_if (pt_cmpR (op_notInD (units65 hr)) (pv 5) (pe_lst (pa_cons (pe_lst pa_nil) (pa_cons (pe_lst (pa_cons pe_int pa_nil)) (pa_cons pe_non pa_nil)))) (by rfl)) (pss_one (ps_set (i := 4) sc_k12_l_changed.nd rfl (Or.inl rfl) (pe_ix ix_seq (pe_lst (pa_cons pe_non (pa_cons pe_str pa_nil))) (pe_callTy fnInt (by rfl) T.b_int (by decide +kernel) (pa_cons (pe_cmpR (opNe hr.units) (pe_pd h_things (hr.mono (by decide)) passL rfl (pa_cons (pv 5) pa_nil)) (pv 3) (nomark _)) pa_nil)) (fun _ _ => rfl)))) pss_nil)))
      (pss_cons (ps_if (pt_cmpR (opNe hr.units) (pe_lamD (T := tabs c) (TT := TT12 K c) (t := fun E => (tMeth c.hall "change" (sp_h_change K c) [] E (tVar 0) (tCons (tVar 5) tNil))) (k := 7) D_told rfl sc_k12_l_told rfl (Or.inl rfl) (fun cdv => gives_k12_l_told T) TB rfl (q := "_law_changed.<locals>.<lambda>") (by rfl) tabs_k12_l_changed (tabsu_k12_l_changed hne) (hr.mono (by decide)) (LamX.lamS_by (sc := defScope s_k12_l_changed) (by decide +kernel)) rfl (fun _ _ _ _ _ => rfl) (fun A outer s H E f c2 hr => (pe_md (pv 0) T.hallc.k.cl m_h_change (hr.mono (by decide)) (passE (takes_of rfl rfl rfl rfl)) (pa_cons (pv 5) pa_nil)))) (pv 4) (nomark _)) (pss_one (ps_ret pe_bl)) pss_nil)
      (pss_cons (ps_if (pt_cmpR opIsN (pv 4) pe_non (nomark _)) (pss_cons (ps_dput (hu_of hr) (pv 1) pe_str (pe_pd h_way (hr.mono (by decide)) passL rfl (pa_cons (pe_pd h_k12_l_state (hr.mono (by decide)) passL rfl (pa_cons (pv 1) pa_nil)) (pa_cons (pe_pdd hd_state_at (hr.mono (by decide)) passL rfl (pa_cons (pv 5) pa_nil)) pa_nil))) rfl)
      (pss_cons (ps_dput (hu_of hr) (pv 1) pe_str (pe_callTy fnList (by rfl) T.b_list (by decide +kernel) (pa_cons (pv 5) pa_nil)) rfl)
      (pss_cons (ps_dput (hu_of hr) (pv 1) pe_str pe_int rfl)
      (pss_one (ps_expr (pe_bm0 PySem.F.plainAttrs_list PySem.F.slot_list_clear PySem.F.type_list_clear mt_clear (pv 5))))))) pss_nil)
      (pss_one (ps_ret pe_bl)))))))))),
    pure_k12_l_changed N h⟩)
theorem pd_k12_l_ahead {f cc f_told : Addr} (T : Txt P w K mg base c) (N : Ex12 K c) (hne : c.f_turned ≠ c.f_repeated) (D : DefAtC K mg "_law_ahead" s_k12_l_ahead ["_law_hall", "_law_model_here", "_law_cell"] f cc) (TB : LamX.TabB base mg cc c.f_repeated) (D_told : DefAt K mg "_law_told" s_k12_l_told ["_law_work"] f_told) {f_h_ahead : Addr} (m_h_ahead : MD P w K mg base 2 c.hall "ahead" f_h_ahead ["self", "many"] (sp_h_ahead K c)) : PD P w K mg base 5 "_law_ahead" f ["_law_hall", "_law_model_here", "_law_cell"] (sp_k12_l_ahead K c) :=
  D.keeps (k := 4) sc_k12_l_ahead (fun vs H Q E h => by
    first | (obtain ⟨_, rfl, _⟩ := h; rfl) | (obtain ⟨_, _, rfl, _⟩ := h; rfl) | (obtain ⟨_, _, _, rfl, _⟩ := h; rfl) | (obtain ⟨_, _, _, _, rfl, _⟩ := h; rfl) | (obtain ⟨_, _, _, _, _, rfl, _⟩ := h; rfl) | (obtain ⟨_, _, _, _, _, _, rfl, _⟩ := h; rfl) | (obtain ⟨_, _, _, _, _, _, _, rfl, _⟩ := h; rfl) | (obtain ⟨_, _, _, _, _, _, _, _, rfl, _⟩ := h; rfl) | (obtain ⟨_, _, _, _, _, _, _, _, _, rfl, _⟩ := h; rfl) | (obtain ⟨_, _, _, _, _, _, _, _, _, _, rfl, _⟩ := h; rfl) | (obtain ⟨_, _, _, _, _, _, _, _, _, _, _, rfl, _⟩ := h; rfl) | (obtain ⟨_, _, _, _, _, _, _, _, _, _, _, _, rfl, _⟩ := h; rfl) | (obtain ⟨_, _, _, _, _, _, _, _, _, _, _, _, _, rfl, _⟩ := h; rfl)) (fun A outer s H vs Q E hr h => ⟨t_k12_l_ahead K c E,
    (pss_cons (ps_set (i := 3) sc_k12_l_ahead.nd rfl (Or.inl rfl) (pe_ix ix_seq (pe_lst (pa_cons (pe_op opMod (pv 2) pe_int) (pa_cons pe_int (pa_cons pe_int pa_nil)))) (pe_op opMod (pe_op opDiv (pv 2) pe_int) pe_int) (fun _ _ => rfl)))
      (pss_cons (ps_set (i := 6) sc_k12_l_ahead.nd rfl (Or.inr rfl) (pe_ix ix_seq (pe_lst (pa_cons (pe_un opNeg pe_int) (pa_cons pe_int (pa_cons pe_non (pa_cons pe_bl (pa_cons pe_str pa_nil)))))) (pe_op opMod (pe_op opDiv (pv 2) pe_int) pe_int) (fun _ _ => rfl)))
      (pss_cons (ps_setLc (i := 4) (own := [("_law_k", 7)]) rfl sc_k12_l_ahead.nd rfl rfl (sw_true rfl rfl rfl (by decide +kernel)) (pi_range1 rfl T.b_range (pa_cons (pv 3) pa_nil)) (blkOk_by (own := [("_law_k", 7)]) (N := ["_law_hall", "_law_model_here", "_law_cell", "_law_many", "_law_more", "_law_found", "_law_none", "_law_k"]) (sc := defScope s_k12_l_ahead) (by decide +kernel)) (fun _ _ _ _ _ => (pg_name (i := 7) sc_k12_l_ahead.nd rfl (Or.inl rfl))) (fun _ _ _ _ _ => pts_nil) (fun _ _ _ _ _ => (pe_ix ix_seq (pe_dget (hu_of hr) (pv 1) pe_str (fun _ _ => rfl)) (pe_op opMod (pe_op opAdd (pe_dget (hu_of hr) (pv 1) pe_str (fun _ _ => rfl)) (pv 7)) (pe_callB fnLen (by rfl) T.b_len (by decide +kernel) (pa_cons (pe_dget (hu_of hr) (pv 1) pe_str (fun _ _ => rfl)) pa_nil))) (fun _ _ => rfl))))
      (pss_cons (ps_set (i := 5) sc_k12_l_ahead.nd rfl (Or.inl rfl) (pe_md (pv 0) T.hallc.k.cl m_h_ahead (hr.mono (by decide)) passL (pa_cons (pv 3) pa_nil)))
      (pss_cons (ps_if (PW.pt (pw_or (pt_cmpR (opNe hr.units) (pv 5) (pe_slice opSl (pe_op opAdd (pe_dget (hu_of hr) (pv 1) pe_str (fun _ _ => rfl)) (pv 4)) po_none (po_some (pv 3))) (nomark _)) (pw_or1 (pt_cmpR (opNe hr.units) (pe_lamD (T := tabs c) (TT := TT12 K c) (t := fun E => (tMeth c.hall "ahead" (sp_h_ahead K c) [] E (tVar 0) (tCons (tVar 6) tNil))) (k := 2) D_told rfl sc_k12_l_told rfl (Or.inl rfl) (fun cdv => gives_k12_l_told T) TB rfl (q := "_law_ahead.<locals>.<lambda>") (by rfl) tabs_k12_l_ahead (tabsu_k12_l_ahead hne) (hr.mono (by decide)) (LamX.lamS_by (sc := defScope s_k12_l_ahead) (by decide +kernel)) rfl (fun _ _ _ _ _ => rfl) (fun A outer s H E f c2 hr => (pe_md (pv 0) T.hallc.k.cl m_h_ahead (hr.mono (by decide)) (passE (takes_of rfl rfl rfl rfl)) (pa_cons (pv 6) pa_nil)))) pe_str (nomark _))))) (pss_one (ps_ret pe_bl)) pss_nil)
      (pss_cons (ps_expr (pe_bm PySem.F.plainAttrs_list PySem.F.slot_list_append PySem.F.type_list_append mt_append (pv 5) (pa_cons pe_int pa_nil)))
      (pss_one (ps_ret (pe_cmpR (opEq hr.units) (pe_md (pv 0) T.hallc.k.cl m_h_ahead (hr.mono (by decide)) passL (pa_cons (pv 3) pa_nil)) (pe_slice opSl (pv 5) po_none (po_some (pe_un opNeg pe_int))) (nomark _)))))))))),
    pure_k12_l_ahead N h⟩)
theorem md_h_air {f : Addr} (T : Txt P w K mg base c) (D : MAt K c.hall "air" "Hall.air" s_h_air ["self"] f)  : MD P w K mg base 1 c.hall "air" f ["self"] (sp_h_air K c) :=
  D.keeps (k := 0) sc_h_air (fun vs H Q E h => by
    first | (obtain ⟨_, rfl, _⟩ := h; rfl) | (obtain ⟨_, _, rfl, _⟩ := h; rfl) | (obtain ⟨_, _, _, rfl, _⟩ := h; rfl) | (obtain ⟨_, _, _, _, rfl, _⟩ := h; rfl) | (obtain ⟨_, _, _, _, _, rfl, _⟩ := h; rfl) | (obtain ⟨_, _, _, _, _, _, rfl, _⟩ := h; rfl) | (obtain ⟨_, _, _, _, _, _, _, rfl, _⟩ := h; rfl) | (obtain ⟨_, _, _, _, _, _, _, _, rfl, _⟩ := h; rfl) | (obtain ⟨_, _, _, _, _, _, _, _, _, rfl, _⟩ := h; rfl) | (obtain ⟨_, _, _, _, _, _, _, _, _, _, rfl, _⟩ := h; rfl) | (obtain ⟨_, _, _, _, _, _, _, _, _, _, _, rfl, _⟩ := h; rfl) | (obtain ⟨_, _, _, _, _, _, _, _, _, _, _, _, rfl, _⟩ := h; rfl) | (obtain ⟨_, _, _, _, _, _, _, _, _, _, _, _, _, rfl, _⟩ := h; rfl)) (fun cdv A outer s H vs Q E hr h => ⟨t_h_air K c E,
    (pss_one (ps_ret (pe_lc (own := [("when", 1)]) rfl sc_h_air.nd (pi_seq (pe_callB (fnSortD rfl) (by rfl) T.b_sorted (by decide +kernel) (pa_cons (pe_fld (pv 0) rfl) pa_nil))) (blkOk_by (own := [("when", 1)]) (N := ["self", "when"]) (sc := defScope s_h_air) (by decide +kernel)) (fun _ _ _ _ _ => (pg_name (i := 1) sc_h_air.nd rfl (Or.inl rfl))) (fun _ _ _ _ _ => pts_nil) (fun _ _ _ _ _ => (pe_tup (pa_cons (pe_dget (hu_of hr) (pe_fld (pv 0) rfl) (pv 1) (fun _ _ => rfl)) (pa_cons (pe_op opSub (pv 1) (pe_fld (pv 0) rfl)) pa_nil))))))),
    pure_h_air T.hallc.k h⟩)
theorem md_h_turn {f : Addr} (T : Txt P w K mg base c) (D : MAt K c.hall "turn" "Hall.turn" s_h_turn ["self"] f)  : MD P w K mg base 1 c.hall "turn" f ["self"] (sp_h_turn K c) :=
  D.keeps (k := 0) sc_h_turn (fun vs H Q E h => by
    first | (obtain ⟨_, rfl, _⟩ := h; rfl) | (obtain ⟨_, _, rfl, _⟩ := h; rfl) | (obtain ⟨_, _, _, rfl, _⟩ := h; rfl) | (obtain ⟨_, _, _, _, rfl, _⟩ := h; rfl) | (obtain ⟨_, _, _, _, _, rfl, _⟩ := h; rfl) | (obtain ⟨_, _, _, _, _, _, rfl, _⟩ := h; rfl) | (obtain ⟨_, _, _, _, _, _, _, rfl, _⟩ := h; rfl) | (obtain ⟨_, _, _, _, _, _, _, _, rfl, _⟩ := h; rfl) | (obtain ⟨_, _, _, _, _, _, _, _, _, rfl, _⟩ := h; rfl) | (obtain ⟨_, _, _, _, _, _, _, _, _, _, rfl, _⟩ := h; rfl) | (obtain ⟨_, _, _, _, _, _, _, _, _, _, _, rfl, _⟩ := h; rfl) | (obtain ⟨_, _, _, _, _, _, _, _, _, _, _, _, rfl, _⟩ := h; rfl) | (obtain ⟨_, _, _, _, _, _, _, _, _, _, _, _, _, rfl, _⟩ := h; rfl)) (fun cdv A outer s H vs Q E hr h => ⟨t_h_turn K c E,
    (pss_one (ps_ret (pe_fld (pv 0) rfl))),
    pure_h_turn T.hallc.k h⟩)
theorem md_h_state {f : Addr} (T : Txt P w K mg base c) (D : MAt K c.hall "state" "Hall.state" s_h_state ["self"] f)  : MD P w K mg base 1 c.hall "state" f ["self"] (sp_h_state K c) :=
  D.keeps (k := 0) sc_h_state (fun vs H Q E h => by
    first | (obtain ⟨_, rfl, _⟩ := h; rfl) | (obtain ⟨_, _, rfl, _⟩ := h; rfl) | (obtain ⟨_, _, _, rfl, _⟩ := h; rfl) | (obtain ⟨_, _, _, _, rfl, _⟩ := h; rfl) | (obtain ⟨_, _, _, _, _, rfl, _⟩ := h; rfl) | (obtain ⟨_, _, _, _, _, _, rfl, _⟩ := h; rfl) | (obtain ⟨_, _, _, _, _, _, _, rfl, _⟩ := h; rfl) | (obtain ⟨_, _, _, _, _, _, _, _, rfl, _⟩ := h; rfl) | (obtain ⟨_, _, _, _, _, _, _, _, _, rfl, _⟩ := h; rfl) | (obtain ⟨_, _, _, _, _, _, _, _, _, _, rfl, _⟩ := h; rfl) | (obtain ⟨_, _, _, _, _, _, _, _, _, _, _, rfl, _⟩ := h; rfl) | (obtain ⟨_, _, _, _, _, _, _, _, _, _, _, _, rfl, _⟩ := h; rfl) | (obtain ⟨_, _, _, _, _, _, _, _, _, _, _, _, _, rfl, _⟩ := h; rfl)) (fun cdv A outer s H vs Q E hr h => ⟨t_h_state K c E,
    (pss_one (ps_ret (pe_fld (pv 0) rfl))),
    pure_h_state T.hallc.k h⟩)
theorem pd_k12_l_stands {f : Addr} (T : Txt P w K mg base c) (D : DefAt K mg "_law_stands" s_k12_l_stands ["_law_hall", "_law_model_here"] f) {f_h_air : Addr} (m_h_air : MD P w K mg base 1 c.hall "air" f_h_air ["self"] (sp_h_air K c)) {f_h_turn : Addr} (m_h_turn : MD P w K mg base 1 c.hall "turn" f_h_turn ["self"] (sp_h_turn K c)) {f_h_state : Addr} (m_h_state : MD P w K mg base 1 c.hall "state" f_h_state ["self"] (sp_h_state K c)) {f_k12_l_state : Addr} (h_k12_l_state : PD P w K mg base 1 "_law_state" f_k12_l_state ["_law_model_here"] (sp_k12_l_state K c)) : PD P w K mg base 2 "_law_stands" f ["_law_hall", "_law_model_here"] (sp_k12_l_stands K c) :=
  D.keeps (k := 1) sc_k12_l_stands (fun vs H Q E h => by
    first | (obtain ⟨_, rfl, _⟩ := h; rfl) | (obtain ⟨_, _, rfl, _⟩ := h; rfl) | (obtain ⟨_, _, _, rfl, _⟩ := h; rfl) | (obtain ⟨_, _, _, _, rfl, _⟩ := h; rfl) | (obtain ⟨_, _, _, _, _, rfl, _⟩ := h; rfl) | (obtain ⟨_, _, _, _, _, _, rfl, _⟩ := h; rfl) | (obtain ⟨_, _, _, _, _, _, _, rfl, _⟩ := h; rfl) | (obtain ⟨_, _, _, _, _, _, _, _, rfl, _⟩ := h; rfl) | (obtain ⟨_, _, _, _, _, _, _, _, _, rfl, _⟩ := h; rfl) | (obtain ⟨_, _, _, _, _, _, _, _, _, _, rfl, _⟩ := h; rfl) | (obtain ⟨_, _, _, _, _, _, _, _, _, _, _, rfl, _⟩ := h; rfl) | (obtain ⟨_, _, _, _, _, _, _, _, _, _, _, _, rfl, _⟩ := h; rfl) | (obtain ⟨_, _, _, _, _, _, _, _, _, _, _, _, _, rfl, _⟩ := h; rfl)) (fun cdv A outer s H vs Q E hr h => ⟨t_k12_l_stands K c E,
    (pss_cons (ps_set (i := 2) sc_k12_l_stands.nd rfl (Or.inl rfl) (pe_callB cr_sortedPO (by rfl) T.b_sorted (by decide +kernel) (pa_cons (pe_lock (pe_lc (own := [("_law_when", 4), ("_law_thing", 5)]) rfl sc_k12_l_stands.nd (pi_items (pe_dget (hu_of hr) (pv 1) pe_str (fun _ _ => rfl))) (blkOk_by (own := [("_law_when", 4), ("_law_thing", 5)]) (N := ["_law_hall", "_law_model_here", "_law_air", "_law_found", "_law_when", "_law_thing", "_law_wait"]) (sc := defScope s_k12_l_stands) (by decide +kernel)) (fun _ _ _ _ _ => (pg_tup rfl (pgs_cons (pg_name (i := 4) sc_k12_l_stands.nd rfl (Or.inl rfl)) (pgs_cons (pg_name (i := 5) sc_k12_l_stands.nd rfl (Or.inl rfl)) pgs_nil)))) (fun _ _ _ _ _ => pts_nil) (fun _ _ _ _ _ => (pe_tup (pa_cons (pe_op opSub (pv 4) (pe_dget (hu_of hr) (pv 1) pe_str (fun _ _ => rfl))) (pa_cons (pv 5) pa_nil)))))) pa_nil)))
      (pss_cons (ps_set (i := 3) sc_k12_l_stands.nd rfl (Or.inl rfl) (pe_md0 (pv 0) T.hallc.k.cl m_h_air (hr.mono (by decide)) passL))
      (pss_cons (ps_if (PW.pt (pw_or (pt_cmpR (opNe hr.units) (pv 3) (pe_lc (own := [("_law_wait", 6), ("_law_thing", 5)]) rfl sc_k12_l_stands.nd (pi_seq (pv 2)) (blkOk_by (own := [("_law_wait", 6), ("_law_thing", 5)]) (N := ["_law_hall", "_law_model_here", "_law_air", "_law_found", "_law_when", "_law_thing", "_law_wait"]) (sc := defScope s_k12_l_stands) (by decide +kernel)) (fun _ _ _ _ _ => (pg_tup rfl (pgs_cons (pg_name (i := 6) sc_k12_l_stands.nd rfl (Or.inl rfl)) (pgs_cons (pg_name (i := 5) sc_k12_l_stands.nd rfl (Or.inl rfl)) pgs_nil)))) (fun _ _ _ _ _ => pts_nil) (fun _ _ _ _ _ => (pe_tup (pa_cons (pv 5) (pa_cons (pv 6) pa_nil))))) (nomark _)) (pw_or1 (pt_cmpR (opNe hr.units) (pe_md0 (pv 0) T.hallc.k.cl m_h_turn (hr.mono (by decide)) passL) (pe_dget (hu_of hr) (pv 1) pe_str (fun _ _ => rfl)) (nomark _))))) (pss_one (ps_ret pe_bl)) pss_nil)
      (pss_cons (ps_expr (pe_bm PySem.F.plainAttrs_list PySem.F.slot_list_append PySem.F.type_list_append mt_append (pv 3) (pa_cons pe_int pa_nil)))
      (pss_one (ps_ret (pe_cmpR (opEq hr.units) (pe_md0 (pv 0) T.hallc.k.cl m_h_state (hr.mono (by decide)) passL) (pe_pd h_k12_l_state (hr.mono (by decide)) passL rfl (pa_cons (pv 1) pa_nil)) (nomark _)))))))),
    pure_k12_l_stands h⟩)
theorem fn_k12_law {f : Addr} {fd : FuncData} (T : Txt P w K mg base c) (F : Fun K "law" "law" s_k12_law f fd) (h_l_going : PD P w K mg base 3 "_law_going" c.f_l_going ["_law_cell", "_law_many"] (sp_l_going K c)) {f_l_cell_at : Addr} (h_l_cell_at : PD P w K mg base 2 "_law_cell_at" f_l_cell_at ["_law_script", "_law_k"] (sp_l_cell_at K c)) {f_k12_l_model : Addr} (h_k12_l_model : PD P w K mg base 7 "_law_model" f_k12_l_model ["_law_row"] (sp_k12_l_model K c)) {f_h_init : Addr} (m_h_init : MD P w K mg base 7 c.hall "__init__" f_h_init ["self", "row"] (sp_h_init K c)) {f_l_mixed : Addr} (h_l_mixed : PD P w K mg base 1 "_law_mixed" f_l_mixed ["_law_cell", "_law_k"] (sp_l_mixed K c)) {f_h_step : Addr} (m_h_step : MD P w K mg base 5 c.hall "step" f_h_step ["self"] (sp_h_step K c)) {f_k12_l_step : Addr} (h_k12_l_step : PD P w K mg base 1 "_law_step" f_k12_l_step ["_law_model_here"] (sp_k12_l_step K c)) {f_k12_l_changed : Addr} (h_k12_l_changed : PD P w K mg base 10 "_law_changed" f_k12_l_changed ["_law_hall", "_law_model_here", "_law_cell"] (sp_k12_l_changed K c)) {f_k12_l_ahead : Addr} (h_k12_l_ahead : PD P w K mg base 5 "_law_ahead" f_k12_l_ahead ["_law_hall", "_law_model_here", "_law_cell"] (sp_k12_l_ahead K c)) {f_k12_l_stands : Addr} (h_k12_l_stands : PD P w K mg base 2 "_law_stands" f_k12_l_stands ["_law_hall", "_law_model_here"] (sp_k12_l_stands K c)) : FnOk P w K mg base (L2.CX P w) 11 f fd ["_law_script"] (sp_k12_law K c) :=
  F.okX (k := 10) sc_k12_law (fun vs H Q E h => by
    first | (obtain ⟨_, rfl, _⟩ := h; rfl) | (obtain ⟨_, _, rfl, _⟩ := h; rfl) | (obtain ⟨_, _, _, rfl, _⟩ := h; rfl) | (obtain ⟨_, _, _, _, rfl, _⟩ := h; rfl) | (obtain ⟨_, _, _, _, _, rfl, _⟩ := h; rfl) | (obtain ⟨_, _, _, _, _, _, rfl, _⟩ := h; rfl) | (obtain ⟨_, _, _, _, _, _, _, rfl, _⟩ := h; rfl) | (obtain ⟨_, _, _, _, _, _, _, _, rfl, _⟩ := h; rfl) | (obtain ⟨_, _, _, _, _, _, _, _, _, rfl, _⟩ := h; rfl) | (obtain ⟨_, _, _, _, _, _, _, _, _, _, rfl, _⟩ := h; rfl) | (obtain ⟨_, _, _, _, _, _, _, _, _, _, _, rfl, _⟩ := h; rfl) | (obtain ⟨_, _, _, _, _, _, _, _, _, _, _, _, rfl, _⟩ := h; rfl) | (obtain ⟨_, _, _, _, _, _, _, _, _, _, _, _, _, rfl, _⟩ := h; rfl)) (fun cdv A outer s H vs Q E hr h => ⟨t_k12_law K c E,
    (pss_cons (ps_setLc (i := 2) (own := [("_law_k", 1)]) rfl sc_k12_law.nd rfl rfl (sw_true rfl rfl rfl (by decide +kernel)) (pi_range1 rfl T.b_range (pa_cons pe_int pa_nil)) (blkOk_by (own := [("_law_k", 1)]) (N := ["_law_script", "_law_k", "_law_rows", "_law_models", "_law_halls", "_law_cell", "_law_draw", "_law_at", "_law_way_by", "_law_row"]) (sc := defScope s_k12_law) (by decide +kernel)) (fun _ _ _ _ _ => (pg_name (i := 1) sc_k12_law.nd rfl (Or.inl rfl))) (fun _ _ _ _ _ => pts_nil) (fun _ _ _ _ _ => (pe_pd h_l_going (hr.mono (by decide)) passL rfl (pa_cons (pe_pd h_l_cell_at (hr.mono (by decide)) passL rfl (pa_cons (pv 0) (pa_cons (pv 1) pa_nil))) (pa_cons (pe_op opAdd pe_int (pe_op opMod (pe_op opDiv (pe_pd h_l_cell_at (hr.mono (by decide)) passL rfl (pa_cons (pv 0) (pa_cons (pv 1) pa_nil))) pe_int) pe_int)) pa_nil)))))
      (pss_cons (ps_setLc (i := 3) (own := [("_law_row", 9)]) rfl sc_k12_law.nd rfl rfl (sw_true rfl rfl rfl (by decide +kernel)) (pi_seq (pv 2)) (blkOk_by (own := [("_law_row", 9)]) (N := ["_law_script", "_law_k", "_law_rows", "_law_models", "_law_halls", "_law_cell", "_law_draw", "_law_at", "_law_way_by", "_law_row"]) (sc := defScope s_k12_law) (by decide +kernel)) (fun _ _ _ _ _ => (pg_name (i := 9) sc_k12_law.nd rfl (Or.inl rfl))) (fun _ _ _ _ _ => pts_nil) (fun _ _ _ _ _ => (pe_pd h_k12_l_model (hr.mono (by decide)) passL rfl (pa_cons (pv 9) pa_nil))))
      (pss_cons (ps_set (i := 4) sc_k12_law.nd rfl (Or.inl rfl) (pe_lst (pa_cons (pe_mk T.hallc.ms T.hallc.kp m_h_init (hr.mono (by decide)) rfl T.hallc.g passL (pa_cons (pe_ix ix_seq (pv 2) pe_int (fun _ _ => rfl)) pa_nil)) (pa_cons (pe_mk T.hallc.ms T.hallc.kp m_h_init (hr.mono (by decide)) rfl T.hallc.g passL (pa_cons (pe_callTy fnTuple (by rfl) T.b_tuple (by decide +kernel) (pa_cons (pe_ix ix_seq (pv 2) pe_int (fun _ _ => rfl)) pa_nil)) pa_nil)) pa_nil))))
      (pss_cons (ps_expr (pe_bm0 PySem.F.plainAttrs_list PySem.F.slot_list_clear PySem.F.type_list_clear mt_clear (pe_ix ix_seq (pv 2) pe_int (fun _ _ => rfl))))
      (pss_cons (ps_for (passes_of rfl) rfl (pi_enumQ rfl T.b_enumerate (pa_cons (pe_op opAdd (pe_slice opSl (pv 0) (po_some pe_int) po_none) (pe_lst (pa_cons pe_int (pa_cons pe_int (pa_cons pe_int (pa_cons pe_int pa_nil)))))) pa_nil)) (pg_tup rfl (pgs_cons (pg_name (i := 1) sc_k12_law.nd rfl (Or.inl rfl)) (pgs_cons (pg_name (i := 5) sc_k12_law.nd rfl (Or.inl rfl)) pgs_nil))) (pss_cons (ps_set (i := 6) sc_k12_law.nd rfl (Or.inl rfl) (pe_pd h_l_mixed (hr.mono (by decide)) passL rfl (pa_cons (pv 5) (pa_cons (pv 1) pa_nil))))
      (pss_cons (ps_set (i := 7) sc_k12_law.nd rfl (Or.inl rfl) (pe_op opMod (pv 6) pe_int))
      (pss_cons (ps_set (i := 8) sc_k12_law.nd rfl (Or.inl rfl) (pe_op opMod (pe_op opDiv (pv 6) pe_int) pe_int))
      (pss_cons (ps_if (PW.pt (pw_and (pt_cmpR opLt (pv 8) pe_int (nomark _)) (pw_and1 (pt_cmpR (opNe hr.units) (pe_md0 (pe_ix ix_seq (pv 4) (pv 7) (fun _ _ => rfl)) T.hallc.k.cl m_h_step (hr.mono (by decide)) passL) (pe_pd h_k12_l_step (hr.mono (by decide)) passL rfl (pa_cons (pe_ix ix_seq (pv 3) (pv 7) (fun _ _ => rfl)) pa_nil)) (nomark _))))) (pss_one (ps_ret pe_bl)) pss_nil)
      (pss_cons (ps_if (PW.pt (pw_or (pt_cmpR (opEq hr.units) (pv 8) pe_int (nomark _)) (pw_or1 (pt_cmpR (opEq hr.units) (pv 8) pe_int (nomark _))))) (pss_one (ps_if (pt_not (pt_val (pe_pd h_k12_l_changed (hr.mono (by decide)) passL rfl (pa_cons (pe_ix ix_seq (pv 4) (pv 7) (fun _ _ => rfl)) (pa_cons (pe_ix ix_seq (pv 3) (pv 7) (fun _ _ => rfl)) (pa_cons (pe_op opDiv (pv 6) pe_int) pa_nil)))))) (pss_one (ps_ret pe_bl)) pss_nil)) pss_nil)
      (pss_cons (ps_if (PW.pt (pw_and (pt_cmpR (opEq hr.units) (pv 8) pe_int (nomark _)) (pw_and1 (pt_not (pt_val (pe_pd h_k12_l_ahead (hr.mono (by decide)) passL rfl (pa_cons (pe_ix ix_seq (pv 4) (pv 7) (fun _ _ => rfl)) (pa_cons (pe_ix ix_seq (pv 3) (pv 7) (fun _ _ => rfl)) (pa_cons (pe_op opDiv (pv 6) pe_int) pa_nil))))))))) (pss_one (ps_ret pe_bl)) pss_nil)
      (pss_one (ps_if (pt_not (pt_val (pe_pd h_k12_l_stands (hr.mono (by decide)) passL rfl (pa_cons (pe_ix ix_seq (pv 4) (pv 7) (fun _ _ => rfl)) (pa_cons (pe_ix ix_seq (pv 3) (pv 7) (fun _ _ => rfl)) pa_nil))))) (pss_one (ps_ret pe_bl)) pss_nil)))))))))
      (pss_one (ps_ret (pe_and (pe_pd h_k12_l_stands (hr.mono (by decide)) passL rfl (pa_cons (pe_ix ix_seq (pv 4) pe_int (fun _ _ => rfl)) (pa_cons (pe_ix ix_seq (pv 3) pe_int (fun _ _ => rfl)) pa_nil))) (pe_one (pe_pd h_k12_l_stands (hr.mono (by decide)) passL rfl (pa_cons (pe_ix ix_seq (pv 4) pe_int (fun _ _ => rfl)) (pa_cons (pe_ix ix_seq (pv 3) pe_int (fun _ _ => rfl)) pa_nil)))))))))))),
    pure_k12_law h⟩)
end
end Tie
namespace Tie
open PySem L2 PySem.Spec PyProof.Rows Evl Tr
theorem all_mk {l : PySem.W.OpenLaw} {ts : List Addr} {w : World} {K : PySem.W.Frag} {h : Heap} {mg : Str → Option Value} {fa : Addr} (TP : ∀ P ∈ ts, h.get? P = some (PySem.W.tabObj #[])) (X : K.In h) (G : h.Ns mainGlobals mg) (hfa : mg "law" = some (.ref fa))
    {C_Hall : Addr}
    {f_l_mixed : Addr} {od_l_mixed an_l_mixed : Option Addr} {sl_l_mixed : Array (Option Value)} {oc_l_mixed kV_l_mixed dc_l_mixed pm_l_mixed cd_l_mixed ct_l_mixed : Value}
    {f_l_mixed_up : Addr} {od_l_mixed_up an_l_mixed_up : Option Addr} {sl_l_mixed_up : Array (Option Value)} {oc_l_mixed_up kV_l_mixed_up dc_l_mixed_up pm_l_mixed_up cd_l_mixed_up ct_l_mixed_up : Value}
    {f_l_going : Addr} {od_l_going an_l_going : Option Addr} {sl_l_going : Array (Option Value)} {oc_l_going kV_l_going dc_l_going pm_l_going cd_l_going ct_l_going : Value}
    {f_l_cell_at : Addr} {od_l_cell_at an_l_cell_at : Option Addr} {sl_l_cell_at : Array (Option Value)} {oc_l_cell_at kV_l_cell_at dc_l_cell_at pm_l_cell_at cd_l_cell_at ct_l_cell_at : Value}
    {f_is_number : Addr} {od_is_number an_is_number : Option Addr} {sl_is_number : Array (Option Value)} {oc_is_number kV_is_number dc_is_number pm_is_number cd_is_number ct_is_number : Value}
    {f_is_height : Addr} {od_is_height an_is_height : Option Addr} {sl_is_height : Array (Option Value)} {oc_is_height kV_is_height dc_is_height pm_is_height cd_is_height ct_is_height : Value}
    {f_need_row : Addr} {od_need_row an_need_row : Option Addr} {sl_need_row : Array (Option Value)} {oc_need_row kV_need_row dc_need_row pm_need_row cd_need_row ct_need_row : Value}
    {f_clash : Addr} {od_clash an_clash : Option Addr} {sl_clash : Array (Option Value)} {oc_clash kV_clash dc_clash pm_clash cd_clash ct_clash : Value}
    {f_need_going : Addr} {od_need_going an_need_going : Option Addr} {sl_need_going : Array (Option Value)} {oc_need_going kV_need_going dc_need_going pm_need_going cd_need_going ct_need_going : Value}
    {f_state_at : Addr} {od_state_at an_state_at : Option Addr} {sl_state_at : Array (Option Value)} {oc_state_at kV_state_at dc_state_at pm_state_at cd_state_at ct_state_at : Value}
    {dT_state_at : Addr} {dK_state_at : Tok} {dN_state_at : Nat}
    {dC_state_at : Value} {dD_state_at : Option Addr} {dS_state_at : Array (Option Value)}
    {f_k12_l_model : Addr} {od_k12_l_model an_k12_l_model : Option Addr} {sl_k12_l_model : Array (Option Value)} {oc_k12_l_model kV_k12_l_model dc_k12_l_model pm_k12_l_model cd_k12_l_model ct_k12_l_model : Value}
    {f_h_init : Addr} {od_h_init an_h_init : Option Addr} {sl_h_init : Array (Option Value)} {oc_h_init kV_h_init dc_h_init pm_h_init cd_h_init ct_h_init : Value}
    {f_h_ahead : Addr} {od_h_ahead an_h_ahead : Option Addr} {sl_h_ahead : Array (Option Value)} {oc_h_ahead kV_h_ahead dc_h_ahead pm_h_ahead cd_h_ahead ct_h_ahead : Value}
    {f_need_state : Addr} {od_need_state an_need_state : Option Addr} {sl_need_state : Array (Option Value)} {oc_need_state kV_need_state dc_need_state pm_need_state cd_need_state ct_need_state : Value}
    {f_lets : Addr} {od_lets an_lets : Option Addr} {sl_lets : Array (Option Value)} {oc_lets kV_lets dc_lets pm_lets cd_lets ct_lets : Value}
    {f_thrown : Addr} {od_thrown an_thrown : Option Addr} {sl_thrown : Array (Option Value)} {oc_thrown kV_thrown dc_thrown pm_thrown cd_thrown ct_thrown : Value}
    {f_h_step : Addr} {od_h_step an_h_step : Option Addr} {sl_h_step : Array (Option Value)} {oc_h_step kV_h_step dc_h_step pm_h_step cd_h_step ct_h_step : Value}
    {f_k12_l_step : Addr} {od_k12_l_step an_k12_l_step : Option Addr} {sl_k12_l_step : Array (Option Value)} {oc_k12_l_step kV_k12_l_step dc_k12_l_step pm_k12_l_step cd_k12_l_step ct_k12_l_step : Value}
    {f_things : Addr} {od_things an_things : Option Addr} {sl_things : Array (Option Value)} {oc_things kV_things dc_things pm_things cd_things ct_things : Value}
    {f_bits_in : Addr} {od_bits_in an_bits_in : Option Addr} {sl_bits_in : Array (Option Value)} {oc_bits_in kV_bits_in dc_bits_in pm_bits_in cd_bits_in ct_bits_in : Value}
    {f_way : Addr} {od_way an_way : Option Addr} {sl_way : Array (Option Value)} {oc_way kV_way dc_way pm_way cd_way ct_way : Value}
    {f_h_change : Addr} {od_h_change an_h_change : Option Addr} {sl_h_change : Array (Option Value)} {oc_h_change kV_h_change dc_h_change pm_h_change cd_h_change ct_h_change : Value}
    {f_k12_l_state : Addr} {od_k12_l_state an_k12_l_state : Option Addr} {sl_k12_l_state : Array (Option Value)} {oc_k12_l_state kV_k12_l_state dc_k12_l_state pm_k12_l_state cd_k12_l_state ct_k12_l_state : Value}
    {f_k12_l_told : Addr} {od_k12_l_told an_k12_l_told : Option Addr} {sl_k12_l_told : Array (Option Value)} {oc_k12_l_told kV_k12_l_told dc_k12_l_told pm_k12_l_told cd_k12_l_told ct_k12_l_told : Value}
    {f_k12_l_changed : Addr} {od_k12_l_changed an_k12_l_changed : Option Addr} {sl_k12_l_changed : Array (Option Value)} {oc_k12_l_changed kV_k12_l_changed dc_k12_l_changed pm_k12_l_changed ct_k12_l_changed : Value}
    {cc_k12_l_changed P_k12_l_changed : Addr}
    {f_k12_l_ahead : Addr} {od_k12_l_ahead an_k12_l_ahead : Option Addr} {sl_k12_l_ahead : Array (Option Value)} {oc_k12_l_ahead kV_k12_l_ahead dc_k12_l_ahead pm_k12_l_ahead ct_k12_l_ahead : Value}
    {cc_k12_l_ahead P_k12_l_ahead : Addr}
    {f_h_air : Addr} {od_h_air an_h_air : Option Addr} {sl_h_air : Array (Option Value)} {oc_h_air kV_h_air dc_h_air pm_h_air cd_h_air ct_h_air : Value}
    {f_h_turn : Addr} {od_h_turn an_h_turn : Option Addr} {sl_h_turn : Array (Option Value)} {oc_h_turn kV_h_turn dc_h_turn pm_h_turn cd_h_turn ct_h_turn : Value}
    {f_h_state : Addr} {od_h_state an_h_state : Option Addr} {sl_h_state : Array (Option Value)} {oc_h_state kV_h_state dc_h_state pm_h_state cd_h_state ct_h_state : Value}
    {f_k12_l_stands : Addr} {od_k12_l_stands an_k12_l_stands : Option Addr} {sl_k12_l_stands : Array (Option Value)} {oc_k12_l_stands kV_k12_l_stands dc_k12_l_stands pm_k12_l_stands cd_k12_l_stands ct_k12_l_stands : Value}
    {f_k12_law : Addr} {od_k12_law an_k12_law : Option Addr} {sl_k12_law : Array (Option Value)} {oc_k12_law kV_k12_law dc_k12_law pm_k12_law cd_k12_law ct_k12_law : Value}
    {tk_MOST_AHEAD : Tok}
    {tk_MOST_HIGH : Tok}
    {tk_MOST_LONG : Tok}
    {tk_MOST_STATE : Tok}
    {C_Clash : Addr}
    {C_NoRow : Addr}
    {C_NoState : Addr}
    {C_NoThrow : Addr}
    {C_NoTurn : Addr}
    {C_NoWay : Addr}
    {C_TossError : Addr}
    {f_i_Clash : Addr} {od_i_Clash an_i_Clash : Option Addr} {sl_i_Clash : Array (Option Value)} {oc_i_Clash kV_i_Clash dc_i_Clash pm_i_Clash cd_i_Clash ct_i_Clash : Value}
    {nm_Clash q_Clash : Str} {N_Clash : Addr} {bs_Clash : List Value} {sn_Clash : List Str} {sub_Clash : List Value} {ab_Clash : Bool} {col_Clash : Option Bool} {dd_Clash : Option Addr} {m0_Clash m1_Clash m2_Clash m3_Clash m5_Clash : Option Value}
    (ha : PySem.W.nsIn K mainGlobals "Hall" = some (some (.ref C_Hall)))
    (a_l_mixed : PySem.W.nsIn K mainGlobals "_law_mixed" = some (some (.ref f_l_mixed)))
    (l_l_mixed : K.lookup f_l_mixed = some ⟨oc_l_mixed, od_l_mixed, .func (PySem.W.fnOf "_law_mixed" "_law_mixed" (defArgs s_l_mixed) (defBody s_l_mixed) (defScope s_l_mixed) .none kV_l_mixed dc_l_mixed pm_l_mixed an_l_mixed cd_l_mixed ct_l_mixed), sl_l_mixed⟩)
    (c_l_mixed : PySem.W.codeIn K cd_l_mixed "_law_mixed" = true)
    (k_l_mixed : PySem.W.keepIn K (.ref f_l_mixed) = true)
    (a_l_mixed_up : PySem.W.nsIn K mainGlobals "_law_mixed_up" = some (some (.ref f_l_mixed_up)))
    (l_l_mixed_up : K.lookup f_l_mixed_up = some ⟨oc_l_mixed_up, od_l_mixed_up, .func (PySem.W.fnOf "_law_mixed_up" "_law_mixed_up" (defArgs s_l_mixed_up) (defBody s_l_mixed_up) (defScope s_l_mixed_up) .none kV_l_mixed_up dc_l_mixed_up pm_l_mixed_up an_l_mixed_up cd_l_mixed_up ct_l_mixed_up), sl_l_mixed_up⟩)
    (c_l_mixed_up : PySem.W.codeIn K cd_l_mixed_up "_law_mixed_up" = true)
    (k_l_mixed_up : PySem.W.keepIn K (.ref f_l_mixed_up) = true)
    (a_l_going : PySem.W.nsIn K mainGlobals "_law_going" = some (some (.ref f_l_going)))
    (l_l_going : K.lookup f_l_going = some ⟨oc_l_going, od_l_going, .func (PySem.W.fnOf "_law_going" "_law_going" (defArgs s_l_going) (defBody s_l_going) (defScope s_l_going) .none kV_l_going dc_l_going pm_l_going an_l_going cd_l_going ct_l_going), sl_l_going⟩)
    (c_l_going : PySem.W.codeIn K cd_l_going "_law_going" = true)
    (k_l_going : PySem.W.keepIn K (.ref f_l_going) = true)
    (a_l_cell_at : PySem.W.nsIn K mainGlobals "_law_cell_at" = some (some (.ref f_l_cell_at)))
    (l_l_cell_at : K.lookup f_l_cell_at = some ⟨oc_l_cell_at, od_l_cell_at, .func (PySem.W.fnOf "_law_cell_at" "_law_cell_at" (defArgs s_l_cell_at) (defBody s_l_cell_at) (defScope s_l_cell_at) .none kV_l_cell_at dc_l_cell_at pm_l_cell_at an_l_cell_at cd_l_cell_at ct_l_cell_at), sl_l_cell_at⟩)
    (c_l_cell_at : PySem.W.codeIn K cd_l_cell_at "_law_cell_at" = true)
    (k_l_cell_at : PySem.W.keepIn K (.ref f_l_cell_at) = true)
    (a_is_number : PySem.W.nsIn K mainGlobals "is_number" = some (some (.ref f_is_number)))
    (l_is_number : K.lookup f_is_number = some ⟨oc_is_number, od_is_number, .func (PySem.W.fnOf "is_number" "is_number" (defArgs s_is_number) (defBody s_is_number) (defScope s_is_number) .none kV_is_number dc_is_number pm_is_number an_is_number cd_is_number ct_is_number), sl_is_number⟩)
    (c_is_number : PySem.W.codeIn K cd_is_number "is_number" = true)
    (k_is_number : PySem.W.keepIn K (.ref f_is_number) = true)
    (a_is_height : PySem.W.nsIn K mainGlobals "is_height" = some (some (.ref f_is_height)))
    (l_is_height : K.lookup f_is_height = some ⟨oc_is_height, od_is_height, .func (PySem.W.fnOf "is_height" "is_height" (defArgs s_is_height) (defBody s_is_height) (defScope s_is_height) .none kV_is_height dc_is_height pm_is_height an_is_height cd_is_height ct_is_height), sl_is_height⟩)
    (c_is_height : PySem.W.codeIn K cd_is_height "is_height" = true)
    (k_is_height : PySem.W.keepIn K (.ref f_is_height) = true)
    (a_need_row : PySem.W.nsIn K mainGlobals "need_row" = some (some (.ref f_need_row)))
    (l_need_row : K.lookup f_need_row = some ⟨oc_need_row, od_need_row, .func (PySem.W.fnOf "need_row" "need_row" (defArgs s_need_row) (defBody s_need_row) (defScope s_need_row) .none kV_need_row dc_need_row pm_need_row an_need_row cd_need_row ct_need_row), sl_need_row⟩)
    (c_need_row : PySem.W.codeIn K cd_need_row "need_row" = true)
    (k_need_row : PySem.W.keepIn K (.ref f_need_row) = true)
    (a_clash : PySem.W.nsIn K mainGlobals "clash" = some (some (.ref f_clash)))
    (l_clash : K.lookup f_clash = some ⟨oc_clash, od_clash, .func (PySem.W.fnOf "clash" "clash" (defArgs s_clash) (defBody s_clash) (defScope s_clash) .none kV_clash dc_clash pm_clash an_clash cd_clash ct_clash), sl_clash⟩)
    (c_clash : PySem.W.codeIn K cd_clash "clash" = true)
    (k_clash : PySem.W.keepIn K (.ref f_clash) = true)
    (a_need_going : PySem.W.nsIn K mainGlobals "need_going" = some (some (.ref f_need_going)))
    (l_need_going : K.lookup f_need_going = some ⟨oc_need_going, od_need_going, .func (PySem.W.fnOf "need_going" "need_going" (defArgs s_need_going) (defBody s_need_going) (defScope s_need_going) .none kV_need_going dc_need_going pm_need_going an_need_going cd_need_going ct_need_going), sl_need_going⟩)
    (c_need_going : PySem.W.codeIn K cd_need_going "need_going" = true)
    (k_need_going : PySem.W.keepIn K (.ref f_need_going) = true)
    (a_state_at : PySem.W.nsIn K mainGlobals "state_at" = some (some (.ref f_state_at)))
    (l_state_at : K.lookup f_state_at = some ⟨oc_state_at, od_state_at, .func (PySem.W.fnOf "state_at" "state_at" (defArgs s_state_at) (defBody s_state_at) (defScope s_state_at) (.ref dT_state_at) kV_state_at dc_state_at pm_state_at an_state_at cd_state_at ct_state_at), sl_state_at⟩)
    (ld_state_at : K.lookup dT_state_at = some ⟨dC_state_at, dD_state_at, .seq #[.int 0 dK_state_at] dN_state_at, dS_state_at⟩)
    (c_state_at : PySem.W.codeIn K cd_state_at "state_at" = true)
    (k_state_at : PySem.W.keepIn K (.ref f_state_at) = true)
    (a_k12_l_model : PySem.W.nsIn K mainGlobals "_law_model" = some (some (.ref f_k12_l_model)))
    (l_k12_l_model : K.lookup f_k12_l_model = some ⟨oc_k12_l_model, od_k12_l_model, .func (PySem.W.fnOf "_law_model" "_law_model" (defArgs s_k12_l_model) (defBody s_k12_l_model) (defScope s_k12_l_model) .none kV_k12_l_model dc_k12_l_model pm_k12_l_model an_k12_l_model cd_k12_l_model ct_k12_l_model), sl_k12_l_model⟩)
    (c_k12_l_model : PySem.W.codeIn K cd_k12_l_model "_law_model" = true)
    (k_k12_l_model : PySem.W.keepIn K (.ref f_k12_l_model) = true)
    (a_h_init : PySem.W.findIn K (.ref C_Hall) "__init__" = some (some (.ref f_h_init)))
    (i_h_init : PySem.W.isFn K (.ref f_h_init) = true)
    (l_h_init : K.lookup f_h_init = some ⟨oc_h_init, od_h_init, .func (PySem.W.fnOf "__init__" "Hall.__init__" (defArgs s_h_init) (defBody s_h_init) (defScope s_h_init) .none kV_h_init dc_h_init pm_h_init an_h_init cd_h_init ct_h_init), sl_h_init⟩)
    (c_h_init : PySem.W.codeIn K cd_h_init "Hall.__init__" = true)
    (k_h_init : PySem.W.keepIn K (.ref f_h_init) = true)
    (a_h_ahead : PySem.W.findIn K (.ref C_Hall) "ahead" = some (some (.ref f_h_ahead)))
    (i_h_ahead : PySem.W.isFn K (.ref f_h_ahead) = true)
    (l_h_ahead : K.lookup f_h_ahead = some ⟨oc_h_ahead, od_h_ahead, .func (PySem.W.fnOf "ahead" "Hall.ahead" (defArgs s_h_ahead) (defBody s_h_ahead) (defScope s_h_ahead) .none kV_h_ahead dc_h_ahead pm_h_ahead an_h_ahead cd_h_ahead ct_h_ahead), sl_h_ahead⟩)
    (c_h_ahead : PySem.W.codeIn K cd_h_ahead "Hall.ahead" = true)
    (k_h_ahead : PySem.W.keepIn K (.ref f_h_ahead) = true)
    (a_need_state : PySem.W.nsIn K mainGlobals "need_state" = some (some (.ref f_need_state)))
    (l_need_state : K.lookup f_need_state = some ⟨oc_need_state, od_need_state, .func (PySem.W.fnOf "need_state" "need_state" (defArgs s_need_state) (defBody s_need_state) (defScope s_need_state) .none kV_need_state dc_need_state pm_need_state an_need_state cd_need_state ct_need_state), sl_need_state⟩)
    (c_need_state : PySem.W.codeIn K cd_need_state "need_state" = true)
    (k_need_state : PySem.W.keepIn K (.ref f_need_state) = true)
    (a_lets : PySem.W.nsIn K mainGlobals "lets" = some (some (.ref f_lets)))
    (l_lets : K.lookup f_lets = some ⟨oc_lets, od_lets, .func (PySem.W.fnOf "lets" "lets" (defArgs s_lets) (defBody s_lets) (defScope s_lets) .none kV_lets dc_lets pm_lets an_lets cd_lets ct_lets), sl_lets⟩)
    (c_lets : PySem.W.codeIn K cd_lets "lets" = true)
    (k_lets : PySem.W.keepIn K (.ref f_lets) = true)
    (a_thrown : PySem.W.nsIn K mainGlobals "thrown" = some (some (.ref f_thrown)))
    (l_thrown : K.lookup f_thrown = some ⟨oc_thrown, od_thrown, .func (PySem.W.fnOf "thrown" "thrown" (defArgs s_thrown) (defBody s_thrown) (defScope s_thrown) .none kV_thrown dc_thrown pm_thrown an_thrown cd_thrown ct_thrown), sl_thrown⟩)
    (c_thrown : PySem.W.codeIn K cd_thrown "thrown" = true)
    (k_thrown : PySem.W.keepIn K (.ref f_thrown) = true)
    (a_h_step : PySem.W.findIn K (.ref C_Hall) "step" = some (some (.ref f_h_step)))
    (i_h_step : PySem.W.isFn K (.ref f_h_step) = true)
    (l_h_step : K.lookup f_h_step = some ⟨oc_h_step, od_h_step, .func (PySem.W.fnOf "step" "Hall.step" (defArgs s_h_step) (defBody s_h_step) (defScope s_h_step) .none kV_h_step dc_h_step pm_h_step an_h_step cd_h_step ct_h_step), sl_h_step⟩)
    (c_h_step : PySem.W.codeIn K cd_h_step "Hall.step" = true)
    (k_h_step : PySem.W.keepIn K (.ref f_h_step) = true)
    (a_k12_l_step : PySem.W.nsIn K mainGlobals "_law_step" = some (some (.ref f_k12_l_step)))
    (l_k12_l_step : K.lookup f_k12_l_step = some ⟨oc_k12_l_step, od_k12_l_step, .func (PySem.W.fnOf "_law_step" "_law_step" (defArgs s_k12_l_step) (defBody s_k12_l_step) (defScope s_k12_l_step) .none kV_k12_l_step dc_k12_l_step pm_k12_l_step an_k12_l_step cd_k12_l_step ct_k12_l_step), sl_k12_l_step⟩)
    (c_k12_l_step : PySem.W.codeIn K cd_k12_l_step "_law_step" = true)
    (k_k12_l_step : PySem.W.keepIn K (.ref f_k12_l_step) = true)
    (a_things : PySem.W.nsIn K mainGlobals "things" = some (some (.ref f_things)))
    (l_things : K.lookup f_things = some ⟨oc_things, od_things, .func (PySem.W.fnOf "things" "things" (defArgs s_things) (defBody s_things) (defScope s_things) .none kV_things dc_things pm_things an_things cd_things ct_things), sl_things⟩)
    (c_things : PySem.W.codeIn K cd_things "things" = true)
    (k_things : PySem.W.keepIn K (.ref f_things) = true)
    (a_bits_in : PySem.W.nsIn K mainGlobals "bits_in" = some (some (.ref f_bits_in)))
    (l_bits_in : K.lookup f_bits_in = some ⟨oc_bits_in, od_bits_in, .func (PySem.W.fnOf "bits_in" "bits_in" (defArgs s_bits_in) (defBody s_bits_in) (defScope s_bits_in) .none kV_bits_in dc_bits_in pm_bits_in an_bits_in cd_bits_in ct_bits_in), sl_bits_in⟩)
    (c_bits_in : PySem.W.codeIn K cd_bits_in "bits_in" = true)
    (k_bits_in : PySem.W.keepIn K (.ref f_bits_in) = true)
    (a_way : PySem.W.nsIn K mainGlobals "way" = some (some (.ref f_way)))
    (l_way : K.lookup f_way = some ⟨oc_way, od_way, .func (PySem.W.fnOf "way" "way" (defArgs s_way) (defBody s_way) (defScope s_way) .none kV_way dc_way pm_way an_way cd_way ct_way), sl_way⟩)
    (c_way : PySem.W.codeIn K cd_way "way" = true)
    (k_way : PySem.W.keepIn K (.ref f_way) = true)
    (a_h_change : PySem.W.findIn K (.ref C_Hall) "change" = some (some (.ref f_h_change)))
    (i_h_change : PySem.W.isFn K (.ref f_h_change) = true)
    (l_h_change : K.lookup f_h_change = some ⟨oc_h_change, od_h_change, .func (PySem.W.fnOf "change" "Hall.change" (defArgs s_h_change) (defBody s_h_change) (defScope s_h_change) .none kV_h_change dc_h_change pm_h_change an_h_change cd_h_change ct_h_change), sl_h_change⟩)
    (c_h_change : PySem.W.codeIn K cd_h_change "Hall.change" = true)
    (k_h_change : PySem.W.keepIn K (.ref f_h_change) = true)
    (a_k12_l_state : PySem.W.nsIn K mainGlobals "_law_state" = some (some (.ref f_k12_l_state)))
    (l_k12_l_state : K.lookup f_k12_l_state = some ⟨oc_k12_l_state, od_k12_l_state, .func (PySem.W.fnOf "_law_state" "_law_state" (defArgs s_k12_l_state) (defBody s_k12_l_state) (defScope s_k12_l_state) .none kV_k12_l_state dc_k12_l_state pm_k12_l_state an_k12_l_state cd_k12_l_state ct_k12_l_state), sl_k12_l_state⟩)
    (c_k12_l_state : PySem.W.codeIn K cd_k12_l_state "_law_state" = true)
    (k_k12_l_state : PySem.W.keepIn K (.ref f_k12_l_state) = true)
    (a_k12_l_told : PySem.W.nsIn K mainGlobals "_law_told" = some (some (.ref f_k12_l_told)))
    (l_k12_l_told : K.lookup f_k12_l_told = some ⟨oc_k12_l_told, od_k12_l_told, .func (PySem.W.fnOf "_law_told" "_law_told" (defArgs s_k12_l_told) (defBody s_k12_l_told) (defScope s_k12_l_told) .none kV_k12_l_told dc_k12_l_told pm_k12_l_told an_k12_l_told cd_k12_l_told ct_k12_l_told), sl_k12_l_told⟩)
    (c_k12_l_told : PySem.W.codeIn K cd_k12_l_told "_law_told" = true)
    (k_k12_l_told : PySem.W.keepIn K (.ref f_k12_l_told) = true)
    (a_k12_l_changed : PySem.W.nsIn K mainGlobals "_law_changed" = some (some (.ref f_k12_l_changed)))
    (l_k12_l_changed : K.lookup f_k12_l_changed = some ⟨oc_k12_l_changed, od_k12_l_changed, .func (PySem.W.fnOf "_law_changed" "_law_changed" (defArgs s_k12_l_changed) (defBody s_k12_l_changed) (defScope s_k12_l_changed) .none kV_k12_l_changed dc_k12_l_changed pm_k12_l_changed an_k12_l_changed (.ref cc_k12_l_changed) ct_k12_l_changed), sl_k12_l_changed⟩)
    (tm_k12_l_changed : P_k12_l_changed ∈ ts)
    (rc_k12_l_changed : PySem.W.codeHdIn K cc_k12_l_changed P_k12_l_changed = true)
    (nl_k12_l_changed : K.lookup P_k12_l_changed = none)
    (c_k12_l_changed : PySem.W.codeIn K (.ref cc_k12_l_changed) "_law_changed" = true)
    (k_k12_l_changed : PySem.W.keepIn K (.ref f_k12_l_changed) = true)
    (a_k12_l_ahead : PySem.W.nsIn K mainGlobals "_law_ahead" = some (some (.ref f_k12_l_ahead)))
    (l_k12_l_ahead : K.lookup f_k12_l_ahead = some ⟨oc_k12_l_ahead, od_k12_l_ahead, .func (PySem.W.fnOf "_law_ahead" "_law_ahead" (defArgs s_k12_l_ahead) (defBody s_k12_l_ahead) (defScope s_k12_l_ahead) .none kV_k12_l_ahead dc_k12_l_ahead pm_k12_l_ahead an_k12_l_ahead (.ref cc_k12_l_ahead) ct_k12_l_ahead), sl_k12_l_ahead⟩)
    (tm_k12_l_ahead : P_k12_l_ahead ∈ ts)
    (rc_k12_l_ahead : PySem.W.codeHdIn K cc_k12_l_ahead P_k12_l_ahead = true)
    (nl_k12_l_ahead : K.lookup P_k12_l_ahead = none)
    (c_k12_l_ahead : PySem.W.codeIn K (.ref cc_k12_l_ahead) "_law_ahead" = true)
    (k_k12_l_ahead : PySem.W.keepIn K (.ref f_k12_l_ahead) = true)
    (a_h_air : PySem.W.findIn K (.ref C_Hall) "air" = some (some (.ref f_h_air)))
    (i_h_air : PySem.W.isFn K (.ref f_h_air) = true)
    (l_h_air : K.lookup f_h_air = some ⟨oc_h_air, od_h_air, .func (PySem.W.fnOf "air" "Hall.air" (defArgs s_h_air) (defBody s_h_air) (defScope s_h_air) .none kV_h_air dc_h_air pm_h_air an_h_air cd_h_air ct_h_air), sl_h_air⟩)
    (c_h_air : PySem.W.codeIn K cd_h_air "Hall.air" = true)
    (k_h_air : PySem.W.keepIn K (.ref f_h_air) = true)
    (a_h_turn : PySem.W.findIn K (.ref C_Hall) "turn" = some (some (.ref f_h_turn)))
    (i_h_turn : PySem.W.isFn K (.ref f_h_turn) = true)
    (l_h_turn : K.lookup f_h_turn = some ⟨oc_h_turn, od_h_turn, .func (PySem.W.fnOf "turn" "Hall.turn" (defArgs s_h_turn) (defBody s_h_turn) (defScope s_h_turn) .none kV_h_turn dc_h_turn pm_h_turn an_h_turn cd_h_turn ct_h_turn), sl_h_turn⟩)
    (c_h_turn : PySem.W.codeIn K cd_h_turn "Hall.turn" = true)
    (k_h_turn : PySem.W.keepIn K (.ref f_h_turn) = true)
    (a_h_state : PySem.W.findIn K (.ref C_Hall) "state" = some (some (.ref f_h_state)))
    (i_h_state : PySem.W.isFn K (.ref f_h_state) = true)
    (l_h_state : K.lookup f_h_state = some ⟨oc_h_state, od_h_state, .func (PySem.W.fnOf "state" "Hall.state" (defArgs s_h_state) (defBody s_h_state) (defScope s_h_state) .none kV_h_state dc_h_state pm_h_state an_h_state cd_h_state ct_h_state), sl_h_state⟩)
    (c_h_state : PySem.W.codeIn K cd_h_state "Hall.state" = true)
    (k_h_state : PySem.W.keepIn K (.ref f_h_state) = true)
    (a_k12_l_stands : PySem.W.nsIn K mainGlobals "_law_stands" = some (some (.ref f_k12_l_stands)))
    (l_k12_l_stands : K.lookup f_k12_l_stands = some ⟨oc_k12_l_stands, od_k12_l_stands, .func (PySem.W.fnOf "_law_stands" "_law_stands" (defArgs s_k12_l_stands) (defBody s_k12_l_stands) (defScope s_k12_l_stands) .none kV_k12_l_stands dc_k12_l_stands pm_k12_l_stands an_k12_l_stands cd_k12_l_stands ct_k12_l_stands), sl_k12_l_stands⟩)
    (c_k12_l_stands : PySem.W.codeIn K cd_k12_l_stands "_law_stands" = true)
    (k_k12_l_stands : PySem.W.keepIn K (.ref f_k12_l_stands) = true)
    (a_k12_law : PySem.W.nsIn K mainGlobals "law" = some (some (.ref f_k12_law)))
    (l_k12_law : K.lookup f_k12_law = some ⟨oc_k12_law, od_k12_law, .func (PySem.W.fnOf "law" "law" (defArgs s_k12_law) (defBody s_k12_law) (defScope s_k12_law) .none kV_k12_law dc_k12_law pm_k12_law an_k12_law cd_k12_law ct_k12_law), sl_k12_law⟩)
    (c_k12_law : PySem.W.codeIn K cd_k12_law "law" = true)
    (k_k12_law : PySem.W.keepIn K (.ref f_k12_law) = true)
    (z_bool : PySem.W.nsIn K mainGlobals "bool" = some none)
    (z_dict : PySem.W.nsIn K mainGlobals "dict" = some none)
    (z_enumerate : PySem.W.nsIn K mainGlobals "enumerate" = some none)
    (z_int : PySem.W.nsIn K mainGlobals "int" = some none)
    (z_isinstance : PySem.W.nsIn K mainGlobals "isinstance" = some none)
    (z_len : PySem.W.nsIn K mainGlobals "len" = some none)
    (z_list : PySem.W.nsIn K mainGlobals "list" = some none)
    (z_max : PySem.W.nsIn K mainGlobals "max" = some none)
    (z_min : PySem.W.nsIn K mainGlobals "min" = some none)
    (z_range : PySem.W.nsIn K mainGlobals "range" = some none)
    (z_sorted : PySem.W.nsIn K mainGlobals "sorted" = some none)
    (z_sum : PySem.W.nsIn K mainGlobals "sum" = some none)
    (z_tuple : PySem.W.nsIn K mainGlobals "tuple" = some none)
    (hpg : PySem.W.plainGet K C_Hall Str.empty = true)
    (hhd : PySem.W.hasDictIn K C_Hall = true)
    (hpo : PySem.W.plainOver K C_Hall = true)
    (hsa : PySem.W.findIn K (.ref C_Hall) "__setattr__" = some (some (.builtin "object.__setattr__")))
    (hmk : PySem.W.makesIn K C_Hall = true)
    (hkp : PySem.W.keepIn K (.ref C_Hall) = true)
    (hf_now : PySem.W.findIn K (.ref C_Hall) "now" = some none)
    (hf_bits : PySem.W.findIn K (.ref C_Hall) "bits" = some none)
    (hf_flying : PySem.W.findIn K (.ref C_Hall) "flying" = some none)
    (hf_path : PySem.W.findIn K (.ref C_Hall) "path" = some none)
    (hf_form : PySem.W.findIn K (.ref C_Hall) "form" = some none)
    (hf_spot : PySem.W.findIn K (.ref C_Hall) "spot" = some none)
    (hf_notes : PySem.W.findIn K (.ref C_Hall) "notes" = some none)
    (n_MOST_AHEAD : PySem.W.nsIn K mainGlobals "MOST_AHEAD" = some (some (.int 400 tk_MOST_AHEAD)))
    (n_MOST_HIGH : PySem.W.nsIn K mainGlobals "MOST_HIGH" = some (some (.int 9 tk_MOST_HIGH)))
    (n_MOST_LONG : PySem.W.nsIn K mainGlobals "MOST_LONG" = some (some (.int 40 tk_MOST_LONG)))
    (n_MOST_STATE : PySem.W.nsIn K mainGlobals "MOST_STATE" = some (some (.int 511 tk_MOST_STATE)))
    (e1_Clash : PySem.W.nsIn K mainGlobals "Clash" = some (some (.ref C_Clash)))
    (e2_Clash : PySem.W.keepIn K (.ref C_Clash) = true)
    (e3_Clash : PySem.W.subIn K (.ref C_Clash) (.type "BaseException") = some true)
    (e4_Clash : PySem.W.typeIn K (.ref C_Clash) = some (.type "type"))
    (e5_Clash : PySem.W.isClsIn K C_Clash = true)
    (e1_NoRow : PySem.W.nsIn K mainGlobals "NoRow" = some (some (.ref C_NoRow)))
    (e2_NoRow : PySem.W.keepIn K (.ref C_NoRow) = true)
    (e3_NoRow : PySem.W.subIn K (.ref C_NoRow) (.type "BaseException") = some true)
    (e4_NoRow : PySem.W.typeIn K (.ref C_NoRow) = some (.type "type"))
    (e5_NoRow : PySem.W.isClsIn K C_NoRow = true)
    (e6_NoRow : PySem.W.excIn K C_NoRow [.type "ValueError", .type "Exception", .type "BaseException", .type "object"] "ValueError.__new__" = true)
    (e1_NoState : PySem.W.nsIn K mainGlobals "NoState" = some (some (.ref C_NoState)))
    (e2_NoState : PySem.W.keepIn K (.ref C_NoState) = true)
    (e3_NoState : PySem.W.subIn K (.ref C_NoState) (.type "BaseException") = some true)
    (e4_NoState : PySem.W.typeIn K (.ref C_NoState) = some (.type "type"))
    (e5_NoState : PySem.W.isClsIn K C_NoState = true)
    (e6_NoState : PySem.W.excIn K C_NoState [.type "ValueError", .type "Exception", .type "BaseException", .type "object"] "ValueError.__new__" = true)
    (e1_NoThrow : PySem.W.nsIn K mainGlobals "NoThrow" = some (some (.ref C_NoThrow)))
    (e2_NoThrow : PySem.W.keepIn K (.ref C_NoThrow) = true)
    (e3_NoThrow : PySem.W.subIn K (.ref C_NoThrow) (.type "BaseException") = some true)
    (e4_NoThrow : PySem.W.typeIn K (.ref C_NoThrow) = some (.type "type"))
    (e5_NoThrow : PySem.W.isClsIn K C_NoThrow = true)
    (e6_NoThrow : PySem.W.excIn K C_NoThrow [.type "ValueError", .type "Exception", .type "BaseException", .type "object"] "ValueError.__new__" = true)
    (e1_NoTurn : PySem.W.nsIn K mainGlobals "NoTurn" = some (some (.ref C_NoTurn)))
    (e2_NoTurn : PySem.W.keepIn K (.ref C_NoTurn) = true)
    (e3_NoTurn : PySem.W.subIn K (.ref C_NoTurn) (.type "BaseException") = some true)
    (e4_NoTurn : PySem.W.typeIn K (.ref C_NoTurn) = some (.type "type"))
    (e5_NoTurn : PySem.W.isClsIn K C_NoTurn = true)
    (e6_NoTurn : PySem.W.excIn K C_NoTurn [.type "ValueError", .type "Exception", .type "BaseException", .type "object"] "ValueError.__new__" = true)
    (e1_NoWay : PySem.W.nsIn K mainGlobals "NoWay" = some (some (.ref C_NoWay)))
    (e2_NoWay : PySem.W.keepIn K (.ref C_NoWay) = true)
    (e3_NoWay : PySem.W.subIn K (.ref C_NoWay) (.type "BaseException") = some true)
    (e4_NoWay : PySem.W.typeIn K (.ref C_NoWay) = some (.type "type"))
    (e5_NoWay : PySem.W.isClsIn K C_NoWay = true)
    (e6_NoWay : PySem.W.excIn K C_NoWay [.type "ValueError", .type "Exception", .type "BaseException", .type "object"] "ValueError.__new__" = true)
    (e1_TossError : PySem.W.nsIn K mainGlobals "TossError" = some (some (.ref C_TossError)))
    (e2_TossError : PySem.W.keepIn K (.ref C_TossError) = true)
    (e3_TossError : PySem.W.subIn K (.ref C_TossError) (.type "BaseException") = some true)
    (e4_TossError : PySem.W.typeIn K (.ref C_TossError) = some (.type "type"))
    (e5_TossError : PySem.W.isClsIn K C_TossError = true)
    (at_Clash : PySem.W.findIn K (.ref C_Clash) "__init__" = some (some (.ref f_i_Clash)))
    (ti_Clash : PySem.W.typeIn K (.ref f_i_Clash) = some (.type "function"))
    (ox_Clash : K.lookup C_Clash = some (excClassObj nm_Clash q_Clash C_Clash N_Clash bs_Clash [.ref C_TossError, .type "ValueError", .type "Exception", .type "BaseException", .type "object"] true sn_Clash sub_Clash ab_Clash col_Clash dd_Clash m0_Clash m1_Clash m2_Clash m3_Clash m5_Clash "ValueError.__new__"))
    (sa_Clash : PySem.W.findIn K (.ref C_Clash) "__setattr__" = some (some (.builtin "object.__setattr__")))
    (fl_Clash_one : PySem.W.findIn K (.ref C_Clash) "one" = some none)
    (fl_Clash_other : PySem.W.findIn K (.ref C_Clash) "other" = some none)
    (l_i_Clash : K.lookup f_i_Clash = some ⟨oc_i_Clash, od_i_Clash, .func (PySem.W.fnOf "__init__" "Clash.__init__" (defArgs s_i_Clash) (defBody s_i_Clash) (defScope s_i_Clash) .none kV_i_Clash dc_i_Clash pm_i_Clash an_i_Clash cd_i_Clash ct_i_Clash), sl_i_Clash⟩)
    (c_i_Clash : PySem.W.codeIn K cd_i_Clash "Clash.__init__" = true)
    (k_i_Clash : PySem.W.keepIn K (.ref f_i_Clash) = true)
    (rd_TossError : PySem.W.readsIn K C_TossError (.type "type") = true)
    (ga_TossError : PySem.W.specialIn K (.ref C_TossError) "__getattribute__" = some (some (.builtin "type.__getattribute__")))
    (at_TossError : PySem.W.findCls K (.ref C_TossError) (.type "type") "__init__" = some (.val (.builtin "ValueError.__init__")))
    (s_NoRow_NoRow : PySem.W.subIn K (.ref C_NoRow) (.ref C_NoRow) = some true)
    (s_Clash_NoRow : PySem.W.subIn K (.ref C_Clash) (.ref C_NoRow) = some false)
    (s_Clash_Clash : PySem.W.subIn K (.ref C_Clash) (.ref C_Clash) = some true)
    (s_NoWay_NoRow : PySem.W.subIn K (.ref C_NoWay) (.ref C_NoRow) = some false)
    (s_NoWay_Clash : PySem.W.subIn K (.ref C_NoWay) (.ref C_Clash) = some false)
    (s_NoWay_NoWay : PySem.W.subIn K (.ref C_NoWay) (.ref C_NoWay) = some true)
    (s_NoTurn_NoRow : PySem.W.subIn K (.ref C_NoTurn) (.ref C_NoRow) = some false)
    (s_NoTurn_Clash : PySem.W.subIn K (.ref C_NoTurn) (.ref C_Clash) = some false)
    (s_NoTurn_NoWay : PySem.W.subIn K (.ref C_NoTurn) (.ref C_NoWay) = some false)
    (s_NoTurn_NoTurn : PySem.W.subIn K (.ref C_NoTurn) (.ref C_NoTurn) = some true)
    (pne : (P_k12_l_changed == P_k12_l_ahead) = false) :
    ∃ (fd : FuncData) (cs : List (Addr × Addr)) (T : List (Addr × Str)), (∀ p ∈ cs, h.get? p.2 = some { cls := .none, data := .fields #[] } ∧ K.lookup p.2 = none ∧ PySem.W.CodeHd h p.1 p.2) ∧ (∀ p ∈ T, ∃ r ∈ cs, r.2 = p.1) ∧ (∀ (s : Shared) (v : Value), BindsTo s fd ⟨[v], []⟩ [("_law_script", v)]) ∧
      ∀ base : Heap, K.In base → base.Ns mainGlobals mg → (∀ p ∈ cs, LamX.TabB base mg p.1 p.2) → FnOk l.prog w K mg base (L2.CX l.prog w) 11 fa fd ["_law_script"] (spT K T) := by
  have e := hfa.symm.trans (PySem.W.mg_of X G a_k12_law)
  cases e
  let c : Cs := { toss := C_TossError, norow := C_NoRow, clash := C_Clash, nostate := C_NoState, nothrow := C_NoThrow, noturn := C_NoTurn, noway := C_NoWay, nolog := (0 : Nat), notext := (0 : Nat), f_l_any := (0 : Nat), f_l_going := f_l_going, f_turned := P_k12_l_changed, f_repeated := P_k12_l_ahead, hall := C_Hall }
  have F_l_mixed := fun_mk (st := s_l_mixed) l_l_mixed c_l_mixed k_l_mixed
  have D_l_mixed : DefAt K mg "_law_mixed" s_l_mixed ["_law_cell", "_law_k"] f_l_mixed := ⟨⟨_, F_l_mixed, F_l_mixed.binds fun _ _ _ _ _ _ us hl => match us, hl with | [_, _], _ => rfl⟩, PySem.W.mg_of X G a_l_mixed⟩
  have F_l_mixed_up := fun_mk (st := s_l_mixed_up) l_l_mixed_up c_l_mixed_up k_l_mixed_up
  have D_l_mixed_up : DefAt K mg "_law_mixed_up" s_l_mixed_up ["_law_row", "_law_cell"] f_l_mixed_up := ⟨⟨_, F_l_mixed_up, F_l_mixed_up.binds fun _ _ _ _ _ _ us hl => match us, hl with | [_, _], _ => rfl⟩, PySem.W.mg_of X G a_l_mixed_up⟩
  have F_l_going := fun_mk (st := s_l_going) l_l_going c_l_going k_l_going
  have D_l_going : DefAt K mg "_law_going" s_l_going ["_law_cell", "_law_many"] f_l_going := ⟨⟨_, F_l_going, F_l_going.binds fun _ _ _ _ _ _ us hl => match us, hl with | [_, _], _ => rfl⟩, PySem.W.mg_of X G a_l_going⟩
  have F_l_cell_at := fun_mk (st := s_l_cell_at) l_l_cell_at c_l_cell_at k_l_cell_at
  have D_l_cell_at : DefAt K mg "_law_cell_at" s_l_cell_at ["_law_script", "_law_k"] f_l_cell_at := ⟨⟨_, F_l_cell_at, F_l_cell_at.binds fun _ _ _ _ _ _ us hl => match us, hl with | [_, _], _ => rfl⟩, PySem.W.mg_of X G a_l_cell_at⟩
  have F_is_number := fun_mk (st := s_is_number) l_is_number c_is_number k_is_number
  have D_is_number : DefAt K mg "is_number" s_is_number ["thing"] f_is_number := ⟨⟨_, F_is_number, F_is_number.binds fun _ _ _ _ _ _ us hl => match us, hl with | [_], _ => rfl⟩, PySem.W.mg_of X G a_is_number⟩
  have F_is_height := fun_mk (st := s_is_height) l_is_height c_is_height k_is_height
  have D_is_height : DefAt K mg "is_height" s_is_height ["thing"] f_is_height := ⟨⟨_, F_is_height, F_is_height.binds fun _ _ _ _ _ _ us hl => match us, hl with | [_], _ => rfl⟩, PySem.W.mg_of X G a_is_height⟩
  have F_need_row := fun_mk (st := s_need_row) l_need_row c_need_row k_need_row
  have D_need_row : DefAt K mg "need_row" s_need_row ["thing"] f_need_row := ⟨⟨_, F_need_row, F_need_row.binds fun _ _ _ _ _ _ us hl => match us, hl with | [_], _ => rfl⟩, PySem.W.mg_of X G a_need_row⟩
  have F_clash := fun_mk (st := s_clash) l_clash c_clash k_clash
  have D_clash : DefAt K mg "clash" s_clash ["row"] f_clash := ⟨⟨_, F_clash, F_clash.binds fun _ _ _ _ _ _ us hl => match us, hl with | [_], _ => rfl⟩, PySem.W.mg_of X G a_clash⟩
  have F_need_going := fun_mk (st := s_need_going) l_need_going c_need_going k_need_going
  have D_need_going : DefAt K mg "need_going" s_need_going ["row"] f_need_going := ⟨⟨_, F_need_going, F_need_going.binds fun _ _ _ _ _ _ us hl => match us, hl with | [_], _ => rfl⟩, PySem.W.mg_of X G a_need_going⟩
  have G_state_at : FunD K "state_at" "state_at" (defArgs s_state_at) (defBody s_state_at) (defScope s_state_at) [.int 0] [] f_state_at _ := ⟨⟨_, _, _, _, _, _, _, _, _, _, rfl, l_state_at, c_state_at, .inr ⟨(fun z => nomatch z), _, _, [_], _, rfl, ld_state_at, rfl, Paired.cons ⟨_, rfl⟩ Paired.nil⟩, .inl rfl⟩, k_state_at⟩
  have D_state_at : DefAtD K mg "state_at" s_state_at ["row", "turn"] (.int 0) f_state_at := ⟨⟨_, G_state_at, dflt_all (G_state_at.binds1 2 1 (fun z => nomatch z) rfl fun T kV doc pm an cdv ct us its hu hi => match us, its, hu, hi with | [_, _], [_], _, _ => ⟨_, rfl, rfl⟩), G_state_at.binds1 1 0 (fun z => nomatch z) rfl fun T kV doc pm an cdv ct us its hu hi => match us, its, hu, hi with | [_], [_], _, _ => ⟨_, rfl, rfl⟩⟩, PySem.W.mg_of X G a_state_at⟩
  have F_k12_l_model := fun_mk (st := s_k12_l_model) l_k12_l_model c_k12_l_model k_k12_l_model
  have D_k12_l_model : DefAt K mg "_law_model" s_k12_l_model ["_law_row"] f_k12_l_model := ⟨⟨_, F_k12_l_model, F_k12_l_model.binds fun _ _ _ _ _ _ us hl => match us, hl with | [_], _ => rfl⟩, PySem.W.mg_of X G a_k12_l_model⟩
  have F_h_init := fun_mk (st := s_h_init) l_h_init c_h_init k_h_init
  have D_h_init : MAt K c.hall "__init__" "Hall.__init__" s_h_init ["self", "row"] f_h_init := ⟨⟨_, F_h_init, F_h_init.binds fun _ _ _ _ _ _ us hl => match us, hl with | [_, _], _ => rfl⟩, ⟨a_h_init, i_h_init, k_h_init⟩⟩
  have F_h_ahead := fun_mk (st := s_h_ahead) l_h_ahead c_h_ahead k_h_ahead
  have D_h_ahead : MAt K c.hall "ahead" "Hall.ahead" s_h_ahead ["self", "many"] f_h_ahead := ⟨⟨_, F_h_ahead, F_h_ahead.binds fun _ _ _ _ _ _ us hl => match us, hl with | [_, _], _ => rfl⟩, ⟨a_h_ahead, i_h_ahead, k_h_ahead⟩⟩
  have F_need_state := fun_mk (st := s_need_state) l_need_state c_need_state k_need_state
  have D_need_state : DefAt K mg "need_state" s_need_state ["thing"] f_need_state := ⟨⟨_, F_need_state, F_need_state.binds fun _ _ _ _ _ _ us hl => match us, hl with | [_], _ => rfl⟩, PySem.W.mg_of X G a_need_state⟩
  have F_lets := fun_mk (st := s_lets) l_lets c_lets k_lets
  have D_lets : DefAt K mg "lets" s_lets ["state"] f_lets := ⟨⟨_, F_lets, F_lets.binds fun _ _ _ _ _ _ us hl => match us, hl with | [_], _ => rfl⟩, PySem.W.mg_of X G a_lets⟩
  have F_thrown := fun_mk (st := s_thrown) l_thrown c_thrown k_thrown
  have D_thrown : DefAt K mg "thrown" s_thrown ["state", "height"] f_thrown := ⟨⟨_, F_thrown, F_thrown.binds fun _ _ _ _ _ _ us hl => match us, hl with | [_, _], _ => rfl⟩, PySem.W.mg_of X G a_thrown⟩
  have F_h_step := fun_mk (st := s_h_step) l_h_step c_h_step k_h_step
  have D_h_step : MAt K c.hall "step" "Hall.step" s_h_step ["self"] f_h_step := ⟨⟨_, F_h_step, F_h_step.binds fun _ _ _ _ _ _ us hl => match us, hl with | [_], _ => rfl⟩, ⟨a_h_step, i_h_step, k_h_step⟩⟩
  have F_k12_l_step := fun_mk (st := s_k12_l_step) l_k12_l_step c_k12_l_step k_k12_l_step
  have D_k12_l_step : DefAt K mg "_law_step" s_k12_l_step ["_law_model_here"] f_k12_l_step := ⟨⟨_, F_k12_l_step, F_k12_l_step.binds fun _ _ _ _ _ _ us hl => match us, hl with | [_], _ => rfl⟩, PySem.W.mg_of X G a_k12_l_step⟩
  have F_things := fun_mk (st := s_things) l_things c_things k_things
  have D_things : DefAt K mg "things" s_things ["row"] f_things := ⟨⟨_, F_things, F_things.binds fun _ _ _ _ _ _ us hl => match us, hl with | [_], _ => rfl⟩, PySem.W.mg_of X G a_things⟩
  have F_bits_in := fun_mk (st := s_bits_in) l_bits_in c_bits_in k_bits_in
  have D_bits_in : DefAt K mg "bits_in" s_bits_in ["state"] f_bits_in := ⟨⟨_, F_bits_in, F_bits_in.binds fun _ _ _ _ _ _ us hl => match us, hl with | [_], _ => rfl⟩, PySem.W.mg_of X G a_bits_in⟩
  have F_way := fun_mk (st := s_way) l_way c_way k_way
  have D_way : DefAt K mg "way" s_way ["one", "other"] f_way := ⟨⟨_, F_way, F_way.binds fun _ _ _ _ _ _ us hl => match us, hl with | [_, _], _ => rfl⟩, PySem.W.mg_of X G a_way⟩
  have F_h_change := fun_mk (st := s_h_change) l_h_change c_h_change k_h_change
  have D_h_change : MAt K c.hall "change" "Hall.change" s_h_change ["self", "row"] f_h_change := ⟨⟨_, F_h_change, F_h_change.binds fun _ _ _ _ _ _ us hl => match us, hl with | [_, _], _ => rfl⟩, ⟨a_h_change, i_h_change, k_h_change⟩⟩
  have F_k12_l_state := fun_mk (st := s_k12_l_state) l_k12_l_state c_k12_l_state k_k12_l_state
  have D_k12_l_state : DefAt K mg "_law_state" s_k12_l_state ["_law_model_here"] f_k12_l_state := ⟨⟨_, F_k12_l_state, F_k12_l_state.binds fun _ _ _ _ _ _ us hl => match us, hl with | [_], _ => rfl⟩, PySem.W.mg_of X G a_k12_l_state⟩
  have F_k12_l_told := fun_mk (st := s_k12_l_told) l_k12_l_told c_k12_l_told k_k12_l_told
  have D_k12_l_told : DefAt K mg "_law_told" s_k12_l_told ["_law_work"] f_k12_l_told := ⟨⟨_, F_k12_l_told, F_k12_l_told.binds fun _ _ _ _ _ _ us hl => match us, hl with | [_], _ => rfl⟩, PySem.W.mg_of X G a_k12_l_told⟩
  have F_k12_l_changed := fun_mk (st := s_k12_l_changed) l_k12_l_changed c_k12_l_changed k_k12_l_changed
  have D_k12_l_changed : DefAtC K mg "_law_changed" s_k12_l_changed ["_law_hall", "_law_model_here", "_law_cell"] f_k12_l_changed cc_k12_l_changed := ⟨⟨_, _, _, _, _, _, _, _, l_k12_l_changed, c_k12_l_changed, F_k12_l_changed.binds fun _ _ _ _ _ _ us hl => match us, hl with | [_, _, _], _ => rfl⟩, PySem.W.mg_of X G a_k12_l_changed, k_k12_l_changed⟩
  have F_k12_l_ahead := fun_mk (st := s_k12_l_ahead) l_k12_l_ahead c_k12_l_ahead k_k12_l_ahead
  have D_k12_l_ahead : DefAtC K mg "_law_ahead" s_k12_l_ahead ["_law_hall", "_law_model_here", "_law_cell"] f_k12_l_ahead cc_k12_l_ahead := ⟨⟨_, _, _, _, _, _, _, _, l_k12_l_ahead, c_k12_l_ahead, F_k12_l_ahead.binds fun _ _ _ _ _ _ us hl => match us, hl with | [_, _, _], _ => rfl⟩, PySem.W.mg_of X G a_k12_l_ahead, k_k12_l_ahead⟩
  have F_h_air := fun_mk (st := s_h_air) l_h_air c_h_air k_h_air
  have D_h_air : MAt K c.hall "air" "Hall.air" s_h_air ["self"] f_h_air := ⟨⟨_, F_h_air, F_h_air.binds fun _ _ _ _ _ _ us hl => match us, hl with | [_], _ => rfl⟩, ⟨a_h_air, i_h_air, k_h_air⟩⟩
  have F_h_turn := fun_mk (st := s_h_turn) l_h_turn c_h_turn k_h_turn
  have D_h_turn : MAt K c.hall "turn" "Hall.turn" s_h_turn ["self"] f_h_turn := ⟨⟨_, F_h_turn, F_h_turn.binds fun _ _ _ _ _ _ us hl => match us, hl with | [_], _ => rfl⟩, ⟨a_h_turn, i_h_turn, k_h_turn⟩⟩
  have F_h_state := fun_mk (st := s_h_state) l_h_state c_h_state k_h_state
  have D_h_state : MAt K c.hall "state" "Hall.state" s_h_state ["self"] f_h_state := ⟨⟨_, F_h_state, F_h_state.binds fun _ _ _ _ _ _ us hl => match us, hl with | [_], _ => rfl⟩, ⟨a_h_state, i_h_state, k_h_state⟩⟩
  have F_k12_l_stands := fun_mk (st := s_k12_l_stands) l_k12_l_stands c_k12_l_stands k_k12_l_stands
  have D_k12_l_stands : DefAt K mg "_law_stands" s_k12_l_stands ["_law_hall", "_law_model_here"] f_k12_l_stands := ⟨⟨_, F_k12_l_stands, F_k12_l_stands.binds fun _ _ _ _ _ _ us hl => match us, hl with | [_, _], _ => rfl⟩, PySem.W.mg_of X G a_k12_l_stands⟩
  have F_k12_law := fun_mk (st := s_k12_law) l_k12_law c_k12_law k_k12_law
  have F_i_Clash := fun_mk (st := s_i_Clash) l_i_Clash c_i_Clash k_i_Clash
  have b_i_Clash := F_i_Clash.binds (ps := ["self", "one", "other"]) fun _ _ _ _ _ _ us hl => match us, hl with | [_, _, _], _ => rfl
  have B_TossError : ExB K mg "TossError" C_TossError := ⟨PySem.W.mg_of X G e1_TossError, rd_TossError, ga_TossError, at_TossError⟩
  have T : ∀ base : Heap, Txt l.prog w K mg base c := fun base => { b_bool := PySem.W.mg_none_of X G z_bool, b_dict := PySem.W.mg_none_of X G z_dict, b_enumerate := PySem.W.mg_none_of X G z_enumerate, b_int := PySem.W.mg_none_of X G z_int, b_isinstance := PySem.W.mg_none_of X G z_isinstance, b_len := PySem.W.mg_none_of X G z_len, b_list := PySem.W.mg_none_of X G z_list, b_max := PySem.W.mg_none_of X G z_max, b_min := PySem.W.mg_none_of X G z_min, b_range := PySem.W.mg_none_of X G z_range, b_sorted := PySem.W.mg_none_of X G z_sorted, b_sum := PySem.W.mg_none_of X G z_sum, b_tuple := PySem.W.mg_none_of X G z_tuple, hallc := ⟨PySem.W.mg_of X G ha, ⟨⟨hpg, hhd, hpo, hsa⟩, hf_now, hf_bits, hf_flying, hf_path, hf_form, hf_spot, hf_notes⟩, hmk, hkp⟩, k_MOST_AHEAD := ⟨tk_MOST_AHEAD, PySem.W.mg_of X G n_MOST_AHEAD⟩, k_MOST_HIGH := ⟨tk_MOST_HIGH, PySem.W.mg_of X G n_MOST_HIGH⟩, k_MOST_LONG := ⟨tk_MOST_LONG, PySem.W.mg_of X G n_MOST_LONG⟩, k_MOST_STATE := ⟨tk_MOST_STATE, PySem.W.mg_of X G n_MOST_STATE⟩, x_Clash := { g := PySem.W.mg_of X G e1_Clash, kp := e2_Clash, sb := e3_Clash, ty := e4_Clash, ic := e5_Clash }, x_NoRow := { g := PySem.W.mg_of X G e1_NoRow, kp := e2_NoRow, sb := e3_NoRow, ty := e4_NoRow, ic := e5_NoRow, xq := e6_NoRow }, x_NoState := { g := PySem.W.mg_of X G e1_NoState, kp := e2_NoState, sb := e3_NoState, ty := e4_NoState, ic := e5_NoState, xq := e6_NoState }, x_NoThrow := { g := PySem.W.mg_of X G e1_NoThrow, kp := e2_NoThrow, sb := e3_NoThrow, ty := e4_NoThrow, ic := e5_NoThrow, xq := e6_NoThrow }, x_NoTurn := { g := PySem.W.mg_of X G e1_NoTurn, kp := e2_NoTurn, sb := e3_NoTurn, ty := e4_NoTurn, ic := e5_NoTurn, xq := e6_NoTurn }, x_NoWay := { g := PySem.W.mg_of X G e1_NoWay, kp := e2_NoWay, sb := e3_NoWay, ty := e4_NoWay, ic := e5_NoWay, xq := e6_NoWay }, x_TossError := { g := PySem.W.mg_of X G e1_TossError, kp := e2_TossError, sb := e3_TossError, ty := e4_TossError, ic := e5_TossError }, r_Clash := in_Clash { g := PySem.W.mg_of X G e1_Clash, kp := e2_Clash, sb := e3_Clash, ty := e4_Clash, ic := e5_Clash, ox := ⟨⟨_, _, _, _, _, _, _, _, _, _, _, _, _, _, _, ox_Clash, refs_toss⟩, sa_Clash, e3_Clash, e4_Clash, e2_Clash⟩, at_ := at_Clash, tI := ti_Clash } fl_Clash_one fl_Clash_other B_TossError F_i_Clash b_i_Clash }
  have N : Ex12 K c := ⟨(exm_any e3_NoRow e5_NoRow e4_NoRow s_NoRow_NoRow), (exm_any e3_NoRow e5_NoRow e4_NoRow s_Clash_NoRow), (exm_any e3_Clash e5_Clash e4_Clash s_Clash_Clash), (exm_any e3_NoRow e5_NoRow e4_NoRow s_NoWay_NoRow), (exm_any e3_Clash e5_Clash e4_Clash s_NoWay_Clash), (exm_any e3_NoWay e5_NoWay e4_NoWay s_NoWay_NoWay), (exm_any e3_NoRow e5_NoRow e4_NoRow s_NoTurn_NoRow), (exm_any e3_Clash e5_Clash e4_Clash s_NoTurn_Clash), (exm_any e3_NoWay e5_NoWay e4_NoWay s_NoTurn_NoWay), (exm_any e3_NoTurn e5_NoTurn e4_NoTurn s_NoTurn_NoTurn)⟩
  have hne : c.f_turned ≠ c.f_repeated := fun z => by simp [show P_k12_l_changed = P_k12_l_ahead from z] at pne
  have z_k12_l_changed := And.intro (PySem.W.codeHd_of_K X rc_k12_l_changed) (TP _ tm_k12_l_changed)
  have z_k12_l_ahead := And.intro (PySem.W.codeHd_of_K X rc_k12_l_ahead) (TP _ tm_k12_l_ahead)
  refine ⟨PySem.W.fnOf "law" "law" (defArgs s_k12_law) (defBody s_k12_law) (defScope s_k12_law) .none kV_k12_law dc_k12_law pm_k12_law an_k12_law cd_k12_law ct_k12_law, [(cc_k12_l_changed, P_k12_l_changed), (cc_k12_l_ahead, P_k12_l_ahead)], tabs c, fun p hp => ?_, fun p hp => ?_, fun s v => .of_eq rfl, fun base _ _ hTB => ?_⟩
  · simp only [List.mem_cons, List.not_mem_nil, or_false] at hp
    rcases hp with rfl | rfl
    · exact ⟨z_k12_l_changed.2, nl_k12_l_changed, z_k12_l_changed.1⟩
    · exact ⟨z_k12_l_ahead.2, nl_k12_l_ahead, z_k12_l_ahead.1⟩
  · simp only [tabs, List.mem_cons, List.not_mem_nil, or_false] at hp
    rcases hp with rfl | rfl
    · exact ⟨_, List.mem_cons_self, rfl⟩
    · exact ⟨_, List.mem_cons_of_mem _ List.mem_cons_self, rfl⟩
  have p_l_mixed := pd_l_mixed (base := base) (c := c) (T base) D_l_mixed 
  have p_l_mixed_up := pd_l_mixed_up (base := base) (c := c) (T base) D_l_mixed_up p_l_mixed
  have p_l_going := pd_l_going (base := base) (c := c) (T base) D_l_going p_l_mixed_up p_l_mixed
  have p_l_cell_at := pd_l_cell_at (base := base) (c := c) (T base) D_l_cell_at p_l_mixed
  have p_is_number := pd_is_number (base := base) (c := c) (T base) D_is_number 
  have p_is_height := pd_is_height (base := base) (c := c) (T base) D_is_height p_is_number
  have p_need_row := pd_need_row (base := base) (c := c) (T base) D_need_row p_is_height
  have p_clash := pd_clash (base := base) (c := c) (T base) D_clash p_need_row
  have p_need_going := pd_need_going (base := base) (c := c) (T base) D_need_going p_clash
  obtain ⟨p_state_at, pd_state_at⟩ := pd_state_at (base := base) (c := c) (T base) D_state_at p_need_going p_is_number
  have p_k12_l_model := pd_k12_l_model (base := base) (c := c) (T base) D_k12_l_model pd_state_at
  have p_h_init := md_h_init (base := base) (c := c) (T base) D_h_init p_need_going pd_state_at
  have p_h_ahead := md_h_ahead (base := base) (c := c) (T base) D_h_ahead p_is_number
  have p_need_state := pd_need_state (base := base) (c := c) (T base) D_need_state p_is_number
  have p_lets := pd_lets (base := base) (c := c) (T base) D_lets p_need_state
  have p_thrown := pd_thrown (base := base) (c := c) (T base) D_thrown p_lets p_is_number p_need_state
  have p_h_step := md_h_step (base := base) (c := c) (T base) D_h_step p_h_ahead p_thrown
  have p_k12_l_step := pd_k12_l_step (base := base) (c := c) (T base) D_k12_l_step 
  have p_things := pd_things (base := base) (c := c) (T base) D_things p_need_going
  have p_bits_in := pd_bits_in (base := base) (c := c) (T base) D_bits_in 
  have p_way := pd_way (base := base) (c := c) (T base) D_way p_need_state p_bits_in p_lets p_thrown
  have p_h_change := md_h_change (base := base) (c := c) (T base) D_h_change p_things p_way pd_state_at
  have p_k12_l_state := pd_k12_l_state (base := base) (c := c) (T base) D_k12_l_state 
  have p_k12_l_changed := pd_k12_l_changed (base := base) (c := c) (T base) N hne D_k12_l_changed (hTB (cc_k12_l_changed, P_k12_l_changed) List.mem_cons_self) D_k12_l_told p_l_going p_things p_h_change p_way pd_state_at p_k12_l_state
  have p_k12_l_ahead := pd_k12_l_ahead (base := base) (c := c) (T base) N hne D_k12_l_ahead (hTB (cc_k12_l_ahead, P_k12_l_ahead) (List.mem_cons_of_mem _ List.mem_cons_self)) D_k12_l_told p_h_ahead
  have p_h_air := md_h_air (base := base) (c := c) (T base) D_h_air 
  have p_h_turn := md_h_turn (base := base) (c := c) (T base) D_h_turn 
  have p_h_state := md_h_state (base := base) (c := c) (T base) D_h_state 
  have p_k12_l_stands := pd_k12_l_stands (base := base) (c := c) (T base) D_k12_l_stands p_h_air p_h_turn p_h_state p_k12_l_state
  exact fn_k12_law (base := base) (c := c) (T base) F_k12_law p_l_going p_l_cell_at p_k12_l_model p_h_init p_l_mixed p_h_step p_k12_l_step p_k12_l_changed p_k12_l_ahead p_k12_l_stands
theorem walk {l : PySem.W.OpenLaw} {q : Program} {loose : List Str} {XP : (Str → Option Value) → Heap → Prop} {YP : World → Heap → Prop} {d : DefRec} {K : Params → PySem.W.Frag} (hn : l.most = some 63) (hdf : d.params.defaults = [])
    (hY : ∀ (w : World) (h : Heap), YP w h → (K w.params).In h)
    (F : ∀ (w : World) (mg : Str → Option Value) (fa : Addr) (h : Heap), YP w h → (K w.params).In h → h.Ns mainGlobals mg → mg d.name = some (.ref fa) →
      ∃ (fd : FuncData) (cs : List (Addr × Addr)) (T : List (Addr × Str)), (∀ p ∈ cs, h.get? p.2 = some { cls := .none, data := .fields #[] } ∧ (K w.params).lookup p.2 = none ∧ PySem.W.CodeHd h p.1 p.2) ∧ (∀ p ∈ T, ∃ r ∈ cs, r.2 = p.1) ∧ (∀ (s : Shared) (u : Value), BindsTo s fd ⟨[u], []⟩ [("_law_script", u)]) ∧
        ∀ base : Heap, (K w.params).In base → base.Ns mainGlobals mg → (∀ p ∈ cs, LamX.TabB base mg p.1 p.2) → FnOk l.prog w (K w.params) mg base (L2.CX l.prog w) 11 fa fd ["_law_script"] (spT (K w.params) T)) :
    PySem.W.WalkO q loose XP YP l.row.toRowW d [] (fun f vs => PySem.call f vs) :=
  walkT hn hdf (by decide) hY F
end Tie
open PySem PySem.W PyProof.Rows in
set_option maxRecDepth 100000 in
set_option maxHeartbeats 0 in
theorem PySem.Challenge.cw_tossrow_k12_halls_holds : PySem.Challenge.rw_tossrow_k12_halls.Holds := by
  w_on; o_law; k_head; (case hw => w_witness2)
  k_fill
  refine Tie.walk (l := PySem.Challenge.rw_tossrow_k12_halls) rfl rfl (fun w h Y => PySem.W.km_in_of Y) ?F
  case F =>
    intro w mg fa h Y KX G hmg
    refine' Tie.all_mk (PySem.W.km_tabs_of Y) KX G hmg ?ha ?a_l_mixed ?l_l_mixed ?c_l_mixed ?k_l_mixed ?a_l_mixed_up ?l_l_mixed_up ?c_l_mixed_up ?k_l_mixed_up ?a_l_going ?l_l_going ?c_l_going ?k_l_going ?a_l_cell_at ?l_l_cell_at ?c_l_cell_at ?k_l_cell_at ?a_is_number ?l_is_number ?c_is_number ?k_is_number ?a_is_height ?l_is_height ?c_is_height ?k_is_height ?a_need_row ?l_need_row ?c_need_row ?k_need_row ?a_clash ?l_clash ?c_clash ?k_clash ?a_need_going ?l_need_going ?c_need_going ?k_need_going ?a_state_at ?l_state_at ?ld_state_at ?c_state_at ?k_state_at ?a_k12_l_model ?l_k12_l_model ?c_k12_l_model ?k_k12_l_model ?a_h_init ?i_h_init ?l_h_init ?c_h_init ?k_h_init ?a_h_ahead ?i_h_ahead ?l_h_ahead ?c_h_ahead ?k_h_ahead ?a_need_state ?l_need_state ?c_need_state ?k_need_state ?a_lets ?l_lets ?c_lets ?k_lets ?a_thrown ?l_thrown ?c_thrown ?k_thrown ?a_h_step ?i_h_step ?l_h_step ?c_h_step ?k_h_step ?a_k12_l_step ?l_k12_l_step ?c_k12_l_step ?k_k12_l_step ?a_things ?l_things ?c_things ?k_things ?a_bits_in ?l_bits_in ?c_bits_in ?k_bits_in ?a_way ?l_way ?c_way ?k_way ?a_h_change ?i_h_change ?l_h_change ?c_h_change ?k_h_change ?a_k12_l_state ?l_k12_l_state ?c_k12_l_state ?k_k12_l_state ?a_k12_l_told ?l_k12_l_told ?c_k12_l_told ?k_k12_l_told ?a_k12_l_changed ?l_k12_l_changed ?tm_k12_l_changed ?rc_k12_l_changed ?nl_k12_l_changed ?c_k12_l_changed ?k_k12_l_changed ?a_k12_l_ahead ?l_k12_l_ahead ?tm_k12_l_ahead ?rc_k12_l_ahead ?nl_k12_l_ahead ?c_k12_l_ahead ?k_k12_l_ahead ?a_h_air ?i_h_air ?l_h_air ?c_h_air ?k_h_air ?a_h_turn ?i_h_turn ?l_h_turn ?c_h_turn ?k_h_turn ?a_h_state ?i_h_state ?l_h_state ?c_h_state ?k_h_state ?a_k12_l_stands ?l_k12_l_stands ?c_k12_l_stands ?k_k12_l_stands ?a_k12_law ?l_k12_law ?c_k12_law ?k_k12_law ?z_bool ?z_dict ?z_enumerate ?z_int ?z_isinstance ?z_len ?z_list ?z_max ?z_min ?z_range ?z_sorted ?z_sum ?z_tuple ?hpg ?hhd ?hpo ?hsa ?hmk ?hkp ?hf_now ?hf_bits ?hf_flying ?hf_path ?hf_form ?hf_spot ?hf_notes ?n_MOST_AHEAD ?n_MOST_HIGH ?n_MOST_LONG ?n_MOST_STATE ?e1_Clash ?e2_Clash ?e3_Clash ?e4_Clash ?e5_Clash ?e1_NoRow ?e2_NoRow ?e3_NoRow ?e4_NoRow ?e5_NoRow ?e6_NoRow ?e1_NoState ?e2_NoState ?e3_NoState ?e4_NoState ?e5_NoState ?e6_NoState ?e1_NoThrow ?e2_NoThrow ?e3_NoThrow ?e4_NoThrow ?e5_NoThrow ?e6_NoThrow ?e1_NoTurn ?e2_NoTurn ?e3_NoTurn ?e4_NoTurn ?e5_NoTurn ?e6_NoTurn ?e1_NoWay ?e2_NoWay ?e3_NoWay ?e4_NoWay ?e5_NoWay ?e6_NoWay ?e1_TossError ?e2_TossError ?e3_TossError ?e4_TossError ?e5_TossError ?at_Clash ?ti_Clash ?ox_Clash ?sa_Clash ?fl_Clash_one ?fl_Clash_other ?l_i_Clash ?c_i_Clash ?k_i_Clash ?rd_TossError ?ga_TossError ?at_TossError ?s_NoRow_NoRow ?s_Clash_NoRow ?s_Clash_Clash ?s_NoWay_NoRow ?s_NoWay_Clash ?s_NoWay_NoWay ?s_NoTurn_NoRow ?s_NoTurn_Clash ?s_NoTurn_NoWay ?s_NoTurn_NoTurn ?pne
    (case ha => k_is)
    (case a_l_mixed => k_is)
    (case l_l_mixed => k_is)
    (case c_l_mixed => k_is)
    (case k_l_mixed => k_is)
    (case a_l_mixed_up => k_is)
    (case l_l_mixed_up => k_is)
    (case c_l_mixed_up => k_is)
    (case k_l_mixed_up => k_is)
    (case a_l_going => k_is)
    (case l_l_going => k_is)
    (case c_l_going => k_is)
    (case k_l_going => k_is)
    (case a_l_cell_at => k_is)
    (case l_l_cell_at => k_is)
    (case c_l_cell_at => k_is)
    (case k_l_cell_at => k_is)
    (case a_is_number => k_is)
    (case l_is_number => k_is)
    (case c_is_number => k_is)
    (case k_is_number => k_is)
    (case a_is_height => k_is)
    (case l_is_height => k_is)
    (case c_is_height => k_is)
    (case k_is_height => k_is)
    (case a_need_row => k_is)
    (case l_need_row => k_is)
    (case c_need_row => k_is)
    (case k_need_row => k_is)
    (case a_clash => k_is)
    (case l_clash => k_is)
    (case c_clash => k_is)
    (case k_clash => k_is)
    (case a_need_going => k_is)
    (case l_need_going => k_is)
    (case c_need_going => k_is)
    (case k_need_going => k_is)
    (case a_state_at => k_is)
    (case l_state_at => k_is)
    (case ld_state_at => k_is)
    (case c_state_at => k_is)
    (case k_state_at => k_is)
    (case a_k12_l_model => k_is)
    (case l_k12_l_model => k_is)
    (case c_k12_l_model => k_is)
    (case k_k12_l_model => k_is)
    (case a_h_init => k_is)
    (case i_h_init => k_is)
    (case l_h_init => k_is)
    (case c_h_init => k_is)
    (case k_h_init => k_is)
    (case a_h_ahead => k_is)
    (case i_h_ahead => k_is)
    (case l_h_ahead => k_is)
    (case c_h_ahead => k_is)
    (case k_h_ahead => k_is)
    (case a_need_state => k_is)
    (case l_need_state => k_is)
    (case c_need_state => k_is)
    (case k_need_state => k_is)
    (case a_lets => k_is)
    (case l_lets => k_is)
    (case c_lets => k_is)
    (case k_lets => k_is)
    (case a_thrown => k_is)
    (case l_thrown => k_is)
    (case c_thrown => k_is)
    (case k_thrown => k_is)
    (case a_h_step => k_is)
    (case i_h_step => k_is)
    (case l_h_step => k_is)
    (case c_h_step => k_is)
    (case k_h_step => k_is)
    (case a_k12_l_step => k_is)
    (case l_k12_l_step => k_is)
    (case c_k12_l_step => k_is)
    (case k_k12_l_step => k_is)
    (case a_things => k_is)
    (case l_things => k_is)
    (case c_things => k_is)
    (case k_things => k_is)
    (case a_bits_in => k_is)
    (case l_bits_in => k_is)
    (case c_bits_in => k_is)
    (case k_bits_in => k_is)
    (case a_way => k_is)
    (case l_way => k_is)
    (case c_way => k_is)
    (case k_way => k_is)
    (case a_h_change => k_is)
    (case i_h_change => k_is)
    (case l_h_change => k_is)
    (case c_h_change => k_is)
    (case k_h_change => k_is)
    (case a_k12_l_state => k_is)
    (case l_k12_l_state => k_is)
    (case c_k12_l_state => k_is)
    (case k_k12_l_state => k_is)
    (case a_k12_l_told => k_is)
    (case l_k12_l_told => k_is)
    (case c_k12_l_told => k_is)
    (case k_k12_l_told => k_is)
    (case a_k12_l_changed => k_is)
    (case l_k12_l_changed => k_is)
    (case tm_k12_l_changed => exact List.mem_cons_of_mem _ List.mem_cons_self)
    (case rc_k12_l_changed => kernel_rfl)
    (case nl_k12_l_changed => kernel_rfl)
    (case c_k12_l_changed => k_is)
    (case k_k12_l_changed => k_is)
    (case a_k12_l_ahead => k_is)
    (case l_k12_l_ahead => k_is)
    (case tm_k12_l_ahead => exact List.mem_cons_self)
    (case rc_k12_l_ahead => kernel_rfl)
    (case nl_k12_l_ahead => kernel_rfl)
    (case c_k12_l_ahead => k_is)
    (case k_k12_l_ahead => k_is)
    (case a_h_air => k_is)
    (case i_h_air => k_is)
    (case l_h_air => k_is)
    (case c_h_air => k_is)
    (case k_h_air => k_is)
    (case a_h_turn => k_is)
    (case i_h_turn => k_is)
    (case l_h_turn => k_is)
    (case c_h_turn => k_is)
    (case k_h_turn => k_is)
    (case a_h_state => k_is)
    (case i_h_state => k_is)
    (case l_h_state => k_is)
    (case c_h_state => k_is)
    (case k_h_state => k_is)
    (case a_k12_l_stands => k_is)
    (case l_k12_l_stands => k_is)
    (case c_k12_l_stands => k_is)
    (case k_k12_l_stands => k_is)
    (case a_k12_law => k_is)
    (case l_k12_law => k_is)
    (case c_k12_law => k_is)
    (case k_k12_law => k_is)
    (case z_bool => k_is)
    (case z_dict => k_is)
    (case z_enumerate => k_is)
    (case z_int => k_is)
    (case z_isinstance => k_is)
    (case z_len => k_is)
    (case z_list => k_is)
    (case z_max => k_is)
    (case z_min => k_is)
    (case z_range => k_is)
    (case z_sorted => k_is)
    (case z_sum => k_is)
    (case z_tuple => k_is)
    (case hpg => k_is)
    (case hhd => k_is)
    (case hpo => k_is)
    (case hsa => k_is)
    (case hmk => k_is)
    (case hkp => k_is)
    (case hf_now => k_is)
    (case hf_bits => k_is)
    (case hf_flying => k_is)
    (case hf_path => k_is)
    (case hf_form => k_is)
    (case hf_spot => k_is)
    (case hf_notes => k_is)
    (case n_MOST_AHEAD => k_is)
    (case n_MOST_HIGH => k_is)
    (case n_MOST_LONG => k_is)
    (case n_MOST_STATE => k_is)
    (case e1_Clash => k_is)
    (case e2_Clash => k_is)
    (case e3_Clash => k_is)
    (case e4_Clash => k_is)
    (case e5_Clash => k_is)
    (case e1_NoRow => k_is)
    (case e2_NoRow => k_is)
    (case e3_NoRow => k_is)
    (case e4_NoRow => k_is)
    (case e5_NoRow => k_is)
    (case e6_NoRow => k_exc)
    (case e1_NoState => k_is)
    (case e2_NoState => k_is)
    (case e3_NoState => k_is)
    (case e4_NoState => k_is)
    (case e5_NoState => k_is)
    (case e6_NoState => k_exc)
    (case e1_NoThrow => k_is)
    (case e2_NoThrow => k_is)
    (case e3_NoThrow => k_is)
    (case e4_NoThrow => k_is)
    (case e5_NoThrow => k_is)
    (case e6_NoThrow => k_exc)
    (case e1_NoTurn => k_is)
    (case e2_NoTurn => k_is)
    (case e3_NoTurn => k_is)
    (case e4_NoTurn => k_is)
    (case e5_NoTurn => k_is)
    (case e6_NoTurn => k_exc)
    (case e1_NoWay => k_is)
    (case e2_NoWay => k_is)
    (case e3_NoWay => k_is)
    (case e4_NoWay => k_is)
    (case e5_NoWay => k_is)
    (case e6_NoWay => k_exc)
    (case e1_TossError => k_is)
    (case e2_TossError => k_is)
    (case e3_TossError => k_is)
    (case e4_TossError => k_is)
    (case e5_TossError => k_is)
    (case at_Clash => k_is)
    (case ti_Clash => k_is)
    (case ox_Clash => k_is)
    (case sa_Clash => k_is)
    (case fl_Clash_one => k_is)
    (case fl_Clash_other => k_is)
    (case l_i_Clash => k_is)
    (case c_i_Clash => k_is)
    (case k_i_Clash => k_is)
    (case rd_TossError => k_is)
    (case ga_TossError => k_is)
    (case at_TossError => k_is)
    (case s_NoRow_NoRow => k_is)
    (case s_Clash_NoRow => k_is)
    (case s_Clash_Clash => k_is)
    (case s_NoWay_NoRow => k_is)
    (case s_NoWay_Clash => k_is)
    (case s_NoWay_NoWay => k_is)
    (case s_NoTurn_NoRow => k_is)
    (case s_NoTurn_Clash => k_is)
    (case s_NoTurn_NoWay => k_is)
    (case s_NoTurn_NoTurn => k_is)
    (case pne => rfl)
