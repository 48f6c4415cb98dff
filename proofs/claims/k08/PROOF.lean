import PyProof.Rows.All
import Wide.All
import OpenK.AllK
import Wide.FinOn
import HandS.ForMost
import HandS.ForExc
import HandS.Evl
import HandS.IsInst
import HandS.TupMul
import HandS.TupAny
import HandS.Deep
import HandS.TryMany
import HandS.ExcInit
import HandS.ExcIs
import KE.GoesEnum
import KE.KTupSum
import HandS.ClsMeth
import HandS.DictComp
import HandS.Defaults
import HandS.CallSlots
import KE.BitLaws
import HandS.Text
import HandS.Conv
import HandS.WordsDict
import HandS.ExcField
import HandS.TryElse
import HandS.TupSets
import PySem.Challenge.RW_tossrow_k08_whole_joined_rows
set_option Elab.async false
set_option linter.all false
set_option maxRecDepth 100000
set_option maxHeartbeats 2000000
/-! Own rules beside the hand layer: enumerate over a tuple, list + list of any standing, sums and bounds of tuples, the call of one of two listed defs, the base's own __init__ called by an exception. -/
namespace Tr
open PySem L2 PySem.Spec PyProof.Rows

/-! ### either of two readings -/
section
variable {X : Cx}
theorem pe_either {e : Expr} {t u : TE} (h : PE X e t) (k : PE X e u) : PE X e (fun σ H Q => t σ H Q ∨ u σ H Q) :=
  ⟨fun pins s σ H Q I w => w.elim (fun a => h.run pins s σ H Q I a) fun b => k.run pins s σ H Q I b⟩
theorem ps_either {c : Stmt} {t u : TS} (h : PS X c t) (k : PS X c u) : PS X c (fun D σ H => t D σ H ∨ u D σ H) :=
  ⟨fun pins s σ H D I w => w.elim (fun a => h.run pins s σ H D I a) fun b => k.run pins s σ H D I b⟩
theorem pi_either {tg e : Expr} {t u : TI} (h : PI X tg e t) (k : PI X tg e u) : PI X tg e (fun σ H R => t σ H R ∨ u σ H R) :=
  ⟨fun pins s σ H R I w => w.elim (fun a => h.run pins s σ H R I a) fun b => k.run pins s σ H R I b⟩
end

/-! ### enumerate(tuple) -/
def ItU (K : PySem.W.Frag) (a : Addr) : It where
  go := fun i H => ∃ (xs : List V) (x : V), SqT K H a xs ∧ xs[i]? = some x
  yld := fun i H v H' => ∃ (T : Addr) (x : V), v = .ref T ∧ H T = none ∧ H' = upd H T (.tup [.int (i : Nat), x]) ∧ ∀ xs : List V, SqT K H a xs → xs[i]? = some x
  stop := fun i H => ∃ xs : List V, SqT K H a xs ∧ xs.length ≤ i

section
open Builtin
set_option maxHeartbeats 1000000 in
theorem enum_new1 {v : Value} {o : Obj} {H : Heap → Prop} (B : Begins v o H) :
    Meets (Builtin.«enumerate.__new__» ⟨[.type "enumerate", v], []⟩) (fun _ R s => H s.heap ∧
      R (.ok (.ret (.ref (s.heap.push o).objs.size)))
        { s with heap := (s.heap.push o).push { cls := .type "enumerate", data := .fields #[.none, .bool false, .ref s.heap.objs.size, rawInt 0, .none, .none] } }) :=
  .of_wp fun prog w A R s hh => by
    obtain ⟨hp, g, d, tk, os⟩ := s
    obtain ⟨h1, h⟩ := hh
    have hsub := sub_enumerate
    have step : ∀ {A' : Around} {E : Value → Shared → Prop} {Q : Value → Shared → Prop}, Q (.ref hp.objs.size) ⟨hp.push o, g, d, tk, os⟩ → wpAny (model prog w) A' (pyIter v) Q E ⟨hp, g, d, tk, os⟩ :=
      fun q => B.iter prog w _ _ ⟨hp, g, d, tk, os⟩ _ h1 q
    wp_walk using step
    refine wpAny_stack_any fun st => wpAny_pure ?_
    split
    · rename_i c _ _ _ _ _
      cases (c == Value.type "enumerate") <;> (wp_walk using step; exact ⟨_, rfl, h⟩)
    · wp_walk using step
      exact ⟨_, rfl, h⟩
theorem enum_call1 {prog : Program} {w : World} {A : Around} {E : Value → Shared → Prop} {s : Shared} {v : Value} {o : Obj} {H : Heap → Prop} {Q : Value → Shared → Prop} (B : Begins v o H) (h1 : H s.heap)
    (h : ∀ h', IsEnum h' (s.heap.objs.size + 1) s.heap.objs.size 0 .none → h'.get? s.heap.objs.size = some o → h'.objs.size = s.heap.objs.size + 2 →
      (∀ b ob, s.heap.get? b = some ob → h'.get? b = some ob) → Q (.ref (s.heap.objs.size + 1)) { s with heap := h' }) :
    wpAny (model prog w) A (call (.type "enumerate") [v]) Q E s := by
  refine callType_new F.called_enumerate (by decide) (F.typeCall_enumerate_1 _) (F.newCall_enumerate_1 _) (fun obj => F.args_object_init_2 obj _) F.entry_enumerate_new (enum_new1 B) ⟨h1, ?_⟩
  have hz : (s.heap.push o).objs.size = s.heap.objs.size + 1 := Heap.size_push ..
  show _ ∧ _
  rw [hz]
  have he : IsEnum ((s.heap.push o).push { cls := .type "enumerate", data := .fields #[.none, .bool false, .ref s.heap.objs.size, rawInt 0, .none, .none] }) (s.heap.objs.size + 1) s.heap.objs.size 0 .none := by
    have z := Heap.get?_push_size (s.heap.push o) (o := { cls := .type "enumerate", data := .fields #[.none, .bool false, .ref s.heap.objs.size, rawInt 0, .none, .none] }) rfl
    rw [hz] at z
    exact z
  exact ⟨⟨_, he, rfl⟩, h _ he (Heap.get?_push_of_some _ (Heap.get?_push_size _ B.free)) (by rw [Heap.size_push, hz]) fun b ob x => Heap.get?_push_of_some _ (Heap.get?_push_of_some _ x)⟩
end

theorem turnU {P : Program} {w : World} {K : PySem.W.Frag} {elts : List Expr} {kk : Nat} {tpos : Pos} (a e it : Addr) :
    Turn P w K (.Tuple elts kk tpos) (ItU K a) [e, it] e (fun i h => (∃ old, IsEnum h e it ((i : Nat) : Int) old) ∧ h.IsTupleIter it a i ∧ e ≠ it) where
  mem := List.mem_cons_self
  obj := fun i h st b hb => by
    obtain ⟨⟨old, he⟩, ⟨o, ho, hc, hd⟩, _⟩ := st
    rcases (show b = e ∨ b = it by simpa using hb) with rfl | rfl
    · exact ⟨_, he, fun v q => nomatch q⟩
    · exact ⟨o, ho, fun v q => by rw [hd] at q; cases q⟩
  keep := fun i h h' st k => ⟨let ⟨old, he⟩ := st.1; ⟨old, k e (by simp) _ he⟩, st.2.1.at fun o q => k it (by simp) o q, st.2.2⟩
  item := by
    intro X hP hw hK hc i pins s σ H E I hf st hg
    subst hP hw hK
    obtain ⟨⟨old, he⟩, hit, hne⟩ := st
    obtain ⟨xs, x, hq, hx⟩ := hg
    obtain ⟨its, rv, p, hz⟩ := I.tuple hq
    obtain ⟨u, hu, ru⟩ := rv.get hx
    have hel : e < s.heap.objs.size := Heap.lt_size he
    have hil : it < s.heap.objs.size := by
      obtain ⟨_, q, _⟩ := hit
      exact Heap.lt_size q
    have hai : a ≠ it := fun z => by
      obtain ⟨o1, g1, c1, d1⟩ := hit
      obtain ⟨o2, g2, c2, _⟩ := p
      rw [z, g1] at g2
      cases g2
      rw [c1] at c2
      exact absurd (Value.type.inj c2) (by decide)
    have hea : e ≠ a := fun z => by
      obtain ⟨o2, g2, c2, _⟩ := p
      rw [← z, he] at g2
      cases g2
      exact absurd (Value.type.inj c2) (by decide)
    have D := Draws.tuple (prog := X.prog) (w := X.w) (A := X.A.in1) (I.ok.hd hc) it a hai its.toArray
    have hlt : i < its.toArray.size := by
      have z := (List.getElem?_eq_some_iff.mp hu).1
      simpa using z
    refine wpAny_pyNext_enum_itemC D he ⟨hit, p⟩ hlt hne (by simp [hne, hea]) fun y h' tk hy ho hst hT hsz hk => ?_
    have hyu : y = u := by
      have hy' : its.toArray[i]? = some y := hy
      rw [List.getElem?_toArray, hu] at hy'
      exact (Option.some.inj hy').symm
    subst hyu
    refine ⟨_, rfl, wpAny_letOwnedTupleGo_enum (s := { s with heap := h', toks := tk + 1 }) ho fun h'' he' sb => ?_⟩
    have hT2 : h''.get? s.heap.objs.size = some { cls := .type "tuple", data := .seq #[.int i tk, y] } := (sb.2 _ (Nat.ne_of_gt hel)).trans hT
    have new : ObjOk X.prog X.w (upd H s.heap.objs.size (.tup [.int (i : Nat), x])) h'' s.heap.objs.size (.tup [.int (i : Nat), x]) :=
      ⟨by show 2 ≤ sizeLine; decide, [.int i tk, y], .cons ⟨_, rfl⟩ (.cons ru .nil), ⟨_, hT2, rfl, _, rfl⟩⟩
    have J : Inv X pins σ (upd H s.heap.objs.size (.tup [.int (i : Nat), x])) { s with heap := h'', toks := tk + 1 } :=
      I.turnedNew (ch := [e, it]) (fun b ob hb q => (sb.2 b (fun z => hb (by simp [z]))).trans (hk b ob (fun z => hb (by simp [z])) (fun z => hb (by simp [z])) q)) hf (Nat.le_refl _) new
    refine ⟨.ref s.heap.objs.size, _, J, rfl, ⟨_, x, rfl, I.hok.fresh (Nat.le_refl _), rfl, fun ys hy => by rw [I.tuple_inj hy hq]; exact hx⟩, ⟨⟨y, ?_⟩, hst.1.at fun o q => (sb.2 it (Ne.symm hne)).trans q, hne⟩, fun b hb => ?_⟩
    · rw [show ((i + 1 : Nat) : Int) = (i : Int) + 1 by omega]
      exact he'
    · have hb' : b < s.heap.objs.size := by
        rcases (show b = e ∨ b = it by simpa using hb) with z | z <;> rw [z] <;> assumption
      rw [upd_ne (Nat.ne_of_lt hb')]
      exact (hf b hb).1
  done := by
    intro X hP hw hK hc i pins s σ H E I hf st hg
    subst hP hw hK
    obtain ⟨⟨old, he⟩, hit, hne⟩ := st
    obtain ⟨xs, hq, hx⟩ := hg
    obtain ⟨its, rv, p, hz⟩ := I.tuple hq
    obtain ⟨f0, f1, f2, f3, f4, f5⟩ := hf it (by simp)
    have hl := rv.length
    have hT : s.TypeIs (.ref e) "enumerate" := ⟨_, he, rfl⟩
    unfold pyNext
    refine wpAny_bind (wpAny_attempt (wpAny_callSpecial?_slot (name := Str.ofString "__next__") hT F.slot_enumerate_next
      (wpAny_call_entry F.slot_enumerate_next hT F.entry_enumerate_next ?_ (F.args_enumerate_next_1 _))))
    show wpAny _ _ (field (.ref e) 2 >>= _) _ _ _
    refine wpAny_bind (wpAny_field he rfl (x := .ref it) rfl ?_)
    refine wpAny_bind (wpAny_nextOf_tuple_end (I.ok.hd hc) hit p (by simp; omega) fun h' x he' hx' => ?_)
    obtain ⟨o, ho, hcl⟩ := hx'
    refine wpAny_bind (wpAny_isInstance (T := "StopIteration") (b := true) ⟨o, ho, hcl⟩ isSubtype_stop ?_)
    exact wpAny_pure ⟨rfl, I.turned (t' := s.toks) (fun b ob hb q => he' b ob hb q) f0 f1 f3 f4 f5⟩
  self := fun A i s Q E st h => let ⟨_, he⟩ := st.1; wpAny_pyIter_enum he h
def iEnumT (K : PySem.W.Frag) (ta : TA) : TI := fun σ H R => ta σ H fun vs H1 => ∃ (a : Addr) (xs : List V), vs = [.ref a] ∧ SqT K H1 a xs ∧ R (ItU K a) H1
theorem pi_enumT {X : Cx} {e : Expr} {ta : TA} {p pos tpos : Pos} {elts : List Expr} {kk : Nat} (hg : Gl X "enumerate") (hm : X.mg "enumerate" = none) (ha : PA X [e] ta) (hs : starEach [e] X.env = [(false, eval e X.env)] := by rfl) :
    PI X (.Tuple elts kk tpos) (.Call (.Name "enumerate" p) [e] [] pos) (iEnumT X.K ta) := by
  refine ⟨fun pins s σ H R I h => ?_⟩
  refine Call_ (ld_blt I hg hm boot_enumerate (PyProof.Rows.callWith_type1 (thn (ha.run pos pins s σ H _ I h) fun us s1 ⟨vs, H1, I1, r1, a, xs, ex, hq, q⟩ => ?_) hs rfl))
  subst ex
  obtain ⟨u, rfl, ru⟩ := vals1 r1
  cases ru
  obtain ⟨its, rv, p', hz⟩ := I1.tuple hq
  refine enum_call1 (begins_tuple a its.toArray) p' fun h' he hit hsz hk => wpAny_pyIter_enum he ?_
  refine ⟨s1.heap.objs.size + 1, [s1.heap.objs.size + 1, s1.heap.objs.size], _, _, H1, rfl, I1.kept (t' := s1.toks) hk, turnU a (s1.heap.objs.size + 1) s1.heap.objs.size, ⟨⟨.none, he⟩, ⟨_, hit, rfl, rfl⟩, Nat.succ_ne_self _⟩, fun b hb => ?_, q⟩
  have hle : s1.heap.objs.size ≤ b := by
    rcases (show b = s1.heap.objs.size + 1 ∨ b = s1.heap.objs.size by simpa using hb) with z | z
    · rw [z]
      exact Nat.le_add_right _ _
    · rw [z]
      exact Nat.le_refl _
  exact I1.fpOk hle (I1.hok.fresh hle)

/-! ### list + list, wherever the two stand -/
def rCatS (K : PySem.W.Frag) : R2 := fun x y H Q => ∃ (l b : Addr) (xs zs : List V), x = .ref l ∧ y = .ref b ∧ SqL K H l xs ∧ SqL K H b zs ∧ xs.length + zs.length ≤ sizeLine ∧ ∀ p, H p = none → Q (.ref p) (upd H p (.lst (xs ++ zs)))
theorem op_catS {X : Cx} : OpR X (binaryOp .Add) (rCatS X.K) := by
  intro pins s σ H x y v u Q I rx ry h
  obtain ⟨l, b, xs, zs, rfl, rfl, hl, hb, hz, q⟩ := h
  cases rx
  cases ry
  obtain ⟨its, r1, p1, _⟩ := I.list hl
  obtain ⟨jts, r2, p2, _⟩ := I.list hb
  obtain ⟨⟨oc, od, dt, sl⟩, n1, e1, c1, f1, d1⟩ := p1
  obtain ⟨⟨oc2, od2, dt2, sl2⟩, n2, e2, c2, f2, d2⟩ := p2
  simp only at c1 d1 f1 c2 d2 f2
  subst c1 d1 f1 c2 d2 f2
  have l1 := r1.length
  have l2 := r2.length
  have hz2 : its.toArray.size + jts.toArray.size ≤ sizeLine := by
    simp only [List.size_toArray]
    omega
  refine concat_meets ⟨_, e1, rfl⟩ ⟨_, e2, rfl⟩ noFill_list_add seq_list_add PySem.F.slot_list_add PySem.F.entry_list_add (PySem.F.args_list_add_2 _ _)
    (list_addW l b its.toArray jts.toArray n1 n2 none none sl sl2 hz2) ⟨e1, e2, ?_⟩
  rw [show its.toArray ++ jts.toArray = (its ++ jts).toArray by simp]
  exact ⟨.ref _, _, I.lnew (t' := s.toks) (r1.append r2) (by rw [List.length_append]; omega), rfl, q _ I.fresh⟩
end Tr

/-! Own rules, the second part: sum, least and greatest of a tuple of ints; a call of one of two defs that a list holds; promises held by name; an exception's own __init__ that calls its base's. -/
namespace Tr
open PySem L2 PySem.Spec PyProof.Rows

/-! ### sum, min, max of a tuple of ints -/
section
variable {prog : Program} {w : World} {A : Around} {E : Value → Shared → Prop} {s : Shared} {t : Addr} {its : List Value} {ns : List Int} {Q : Value → Shared → Prop}
theorem sum_tupW (hh : A.handled = none) (ht : s.heap.IsTuple t its.toArray) (hi : IntsAre its ns)
    (h : ∀ h' tk u, (∀ b o, s.heap.get? b = some o → h'.get? b = some o) → Q (.int ns.sum u) { s with heap := h', toks := tk }) : wpAny (model prog w) A (call (.builtin "sum") [.ref t]) Q E s := by
  obtain ⟨xs, e⟩ := hi.allInts.items
  have hn : numsOf (intItems xs).toList = ns := by
    rw [← e]
    exact hi.numsOf
  rw [nums_intItems] at hn
  rw [e] at ht
  refine PySem.W.ktm_sumG hh ht fun h' tk u hk => ?_
  have z := h h' tk u hk
  rw [preSum_eq, List.take_of_length_le (by simp), hn]
  exact z
theorem tup_iter (hh : A.handled = none) {xs : Array (Int × Tok)} (ht : s.heap.IsTuple t (intItems xs))
    (h : ∀ s2 : Shared, s2 = { s with heap := s.heap.push { cls := .type "tuple_iterator", data := .fields #[.ref t, .int 0 0] } } →
      (s2.heap.IsTupleIter s.heap.objs.size t 0 ∧ s2.heap.IsTuple t (intItems xs)) → (∀ b ∈ [s.heap.objs.size, t], b < s2.heap.objs.size) → t ≠ s.heap.objs.size → Q (.ref s.heap.objs.size) s2) :
    wpAny (model prog w) A (pyIter (.ref t)) Q E s := by
  have hlt : t < s.heap.objs.size := by
    obtain ⟨_, e, _⟩ := ht
    exact Heap.lt_size e
  refine wpAny_pyIter_tuple ht (h _ rfl ⟨⟨_, Heap.get?_push_size _ rfl, rfl, rfl⟩, ht.at fun o e => Heap.get?_push_of_some _ e⟩ (fun b hb => ?_) (Nat.ne_of_lt hlt))
  show b < (s.heap.push _).objs.size
  rw [Heap.size_push]
  rcases (show b = s.heap.objs.size ∨ b = t by simpa using hb) with rfl | rfl
  · exact Nat.lt_succ_self _
  · exact Nat.lt_succ_of_lt hlt
theorem tup_kept {h' : Heap} (hk : ∀ b o, b ∉ [s.heap.objs.size] → (s.heap.push { cls := .type "tuple_iterator", data := .fields #[.ref t, .int 0 0] }).get? b = some o → h'.get? b = some o) (b : Addr) (o : Obj) (e : s.heap.get? b = some o) : h'.get? b = some o :=
  hk b o (fun hm => absurd ((List.mem_singleton.mp hm) ▸ Heap.lt_size e) (Nat.lt_irrefl _)) (Heap.get?_push_of_some _ e)
theorem min_tupW (hh : A.handled = none) (ht : s.heap.IsTuple t its.toArray) (hi : IntsAre its ns) (hne : 0 < ns.length)
    (h : ∀ h' tk M u, (∀ b o, s.heap.get? b = some o → h'.get? b = some o) → M ∈ ns → (∀ a, a ∈ ns → M ≤ a) → Q (.int M u) { s with heap := h', toks := tk }) : wpAny (model prog w) A (call (.builtin "min") [.ref t]) Q E s := by
  obtain ⟨xs, e⟩ := hi.allInts.items
  have hn : numsOf (intItems xs).toList = ns := by
    rw [← e]
    exact hi.numsOf
  rw [nums_intItems] at hn
  subst hn
  rw [e] at ht
  have hsz : 0 < xs.size := by simpa using hne
  refine call_min_walk (tup_iter hh ht fun s2 e2 st hfp hlI => ?_)
  subst e2
  refine ⟨_, _, _, _, _, _, _, rfl, Walks.tuple (A := A.in1) hh _ t hlI (intItems xs), st, hfp, by simpa [intItems] using hsz, CmpOf.ints_lt (numAt xs) (fun _ _ => intItems_at), fun v h' tk hP hk => ?_⟩
  have hP' : (intItems xs)[argBest (fun i j => decide (numAt xs i < numAt xs j)) (xs.size - 1)]? = some v := by simpa [intItems] using hP
  obtain ⟨u, rfl⟩ := intItems_at hP'
  obtain ⟨g1, g2⟩ := argBest_lt (numAt xs) (xs.size - 1)
  refine h h' tk _ u (tup_kept hk) ?_ fun a ha => ?_
  · rw [numAt_eq]
    exact PySem.getD_mem (by rw [List.length_map, Array.length_toList]; omega)
  · obtain ⟨j, hj, rfl⟩ := mem_getD ha
    rw [List.length_map, Array.length_toList] at hj
    rw [← numAt_eq]
    exact g2 j (by omega)
theorem max_tupW (hh : A.handled = none) (ht : s.heap.IsTuple t its.toArray) (hi : IntsAre its ns) (hne : 0 < ns.length)
    (h : ∀ h' tk M u, (∀ b o, s.heap.get? b = some o → h'.get? b = some o) → M ∈ ns → (∀ a, a ∈ ns → a ≤ M) → Q (.int M u) { s with heap := h', toks := tk }) : wpAny (model prog w) A (call (.builtin "max") [.ref t]) Q E s := by
  obtain ⟨xs, e⟩ := hi.allInts.items
  have hn : numsOf (intItems xs).toList = ns := by
    rw [← e]
    exact hi.numsOf
  rw [nums_intItems] at hn
  subst hn
  rw [e] at ht
  have hsz : 0 < xs.size := by simpa using hne
  refine call_max_walk (tup_iter hh ht fun s2 e2 st hfp hlI => ?_)
  subst e2
  refine ⟨_, _, _, _, _, _, _, rfl, Walks.tuple (A := A.in1) hh _ t hlI (intItems xs), st, hfp, by simpa [intItems] using hsz, CmpOf.ints_gt (numAt xs) (fun _ _ => intItems_at), fun v h' tk hP hk => ?_⟩
  have hP' : (intItems xs)[argBest (fun i j => decide (numAt xs i > numAt xs j)) (xs.size - 1)]? = some v := by simpa [intItems] using hP
  obtain ⟨u, rfl⟩ := intItems_at hP'
  obtain ⟨g1, g2⟩ := argBest_gt (numAt xs) (xs.size - 1)
  refine h h' tk _ u (tup_kept hk) ?_ fun a ha => ?_
  · rw [numAt_eq]
    exact PySem.getD_mem (by rw [List.length_map, Array.length_toList]; omega)
  · obtain ⟨j, hj, rfl⟩ := mem_getD ha
    rw [List.length_map, Array.length_toList] at hj
    rw [← numAt_eq]
    exact g2 j (by omega)
end
def rSumT (K : PySem.W.Frag) : List V → Hp → VK → Prop := fun vs H Q => ∃ (a : Addr) (ns : List Int), vs = [V.ref a] ∧ SqT K H a (ns.map V.int) ∧ Q (.int ns.sum) H
def rMinT (K : PySem.W.Frag) : List V → Hp → VK → Prop := fun vs H Q => ∃ (a : Addr) (ns : List Int), vs = [V.ref a] ∧ SqT K H a (ns.map V.int) ∧ 0 < ns.length ∧ ∀ m, m ∈ ns → (∀ y, y ∈ ns → m ≤ y) → Q (.int m) H
def rMaxT (K : PySem.W.Frag) : List V → Hp → VK → Prop := fun vs H Q => ∃ (a : Addr) (ns : List Int), vs = [V.ref a] ∧ SqT K H a (ns.map V.int) ∧ 0 < ns.length ∧ ∀ m, m ∈ ns → (∀ y, y ∈ ns → y ≤ m) → Q (.int m) H
section
variable {X : Cx}
theorem cr_sumT (hc : X.calm = true) : CallR X (.builtin "sum") (rSumT X.K) := by
  intro pins s σ H vs us Q I r h
  obtain ⟨a, ns, rfl, hs, q⟩ := h
  obtain ⟨its, rv, hl, _⟩ := I.tuple hs
  rw [Vals.ref1 r]
  exact sum_tupW (I.ok.hd hc) hl rv.ints fun h' tk u hk => ⟨.int _, H, I.kept hk, ⟨_, rfl⟩, q⟩
theorem cr_minT (hc : X.calm = true) : CallR X (.builtin "min") (rMinT X.K) := by
  intro pins s σ H vs us Q I r h
  obtain ⟨a, ns, rfl, hs, hne, q⟩ := h
  obtain ⟨its, rv, hl, _⟩ := I.tuple hs
  rw [Vals.ref1 r]
  exact min_tupW (I.ok.hd hc) hl rv.ints hne fun h' tk m u hk h1 h2 => ⟨.int _, H, I.kept hk, ⟨_, rfl⟩, q m h1 h2⟩
theorem cr_maxT (hc : X.calm = true) : CallR X (.builtin "max") (rMaxT X.K) := by
  intro pins s σ H vs us Q I r h
  obtain ⟨a, ns, rfl, hs, hne, q⟩ := h
  obtain ⟨its, rv, hl, _⟩ := I.tuple hs
  rw [Vals.ref1 r]
  exact max_tupW (I.ok.hd hc) hl rv.ints hne fun h' tk m u hk h1 h2 => ⟨.int _, H, I.kept hk, ⟨_, rfl⟩, q m h1 h2⟩
end

/-! ### a def of the text, and a def with its promise -/
/-- the def x of the text st stands at f -/
structure DefAt (K : PySem.W.Frag) (mg : Str → Option Value) (x : Str) (st : Stmt) (ps : List Str) (f : Addr) : Prop where
  fn : ∃ fd, Fun K x x st f fd ∧ Binds K fd ps []
  g : mg x = some (.ref f)
/-- the def x, at f, keeps its promise -/
structure PD (P : Program) (w : World) (K : PySem.W.Frag) (mg : Str → Option Value) (base : Heap) (k : Nat) (x : Str) (f : Addr) (ps : List Str) (sp : Sp) : Prop where
  fn : ∃ fd, FnOk P w K mg base (L2.CX P w) k f fd ps sp ∧ Binds K fd ps []
  g : mg x = some (.ref f)
  kp : PySem.W.keepIn K (.ref f) = true
section
variable {P : Program} {w : World} {K : PySem.W.Frag} {mg : Str → Option Value} {base : Heap}
theorem DefAt.keeps {x : Str} {st : Stmt} {f : Addr} {N ps : List Str} {k : Nat} {sp : Sp} (D : DefAt K mg x st ps f) (S : FnScope N ps (defScope st)) (len : ∀ vs H Q E, sp vs H Q E → vs.length = ps.length)
    (hbody : ∀ (cdv : Value) (A : Around) (outer : List Env) (s : Shared) (H : Hp) (vs : List V) (Q : VK) (E : XK), Room k (A.deeper (envOfC x (defScope st) s.heap.objs.size f cdv)) → sp vs H Q E →
      ∃ t, PSs (cxOf (L2.CX P w) P w K mg base N x (defScope st) f cdv A outer s H E) (defBody st) t ∧ t { nx := fun _ H' => Q .non H', rt := Q } (start N vs) H) : PD P w K mg base (k + 1) x f ps sp := by
  obtain ⟨fd, F, b⟩ := D.fn
  exact ⟨⟨fd, F.okX S len hbody, b⟩, D.g, F.kp⟩
theorem PD.up {j k : Nat} {x : Str} {f : Addr} {ps : List Str} {sp : Sp} (D : PD P w K mg base j x f ps sp) (h : j ≤ k) : PD P w K mg base k x f ps sp := by
  obtain ⟨fd, F, b⟩ := D.fn
  exact ⟨⟨fd, F.mono h, b⟩, D.g, D.kp⟩
end
section
variable {X : Cx} {k j : Nat} {f g : Addr} {ps qs : List Str} {sp sq : Sp} {E : XK} {W : WX} {x y : Str} {p pos : Pos} {e fe : Expr} {es : List Expr} {t : TA} {tf : TE}
theorem pe_pd (D : PD X.prog X.w X.K X.mg X.base k x f ps sp) (hr : Room k X.A) (hx : Passes (L2.CX X.prog X.w) X E) (hg : Gl X x) (ha : PA X (e :: es) t) (hdb : (x == ("__debug__" : Str)) = false := by decide)
    (he : starEach (e :: es) X.env = (false, eval e X.env) :: starEach es X.env := by rfl) (hpl : (backTo pos (starEach es X.env)).any (·.1) = false := by rfl) :
    PE X (.Call (.Name x p) (e :: es) [] pos) (tCall sp [] E t) := by
  obtain ⟨fd, F, b⟩ := D.fn
  exact pe_call F hr hg D.g D.kp b .nil hx ha hdb he hpl
/-- the same within a try's body: what is raised is wished for at the slots -/
theorem pe_pdS {E : L2.St → XK} (D : PD X.prog X.w X.K X.mg X.base k x f ps sp) (hr : Room k X.A) (hx : ∀ σ, PassesAt (L2.CX X.prog X.w) X σ (E σ)) (hg : Gl X x) (ha : PA X (e :: es) t) (hdb : (x == ("__debug__" : Str)) = false := by decide)
    (he : starEach (e :: es) X.env = (false, eval e X.env) :: starEach es X.env := by rfl) (hpl : (backTo pos (starEach es X.env)).any (·.1) = false := by rfl) :
    PE X (.Call (.Name x p) (e :: es) [] pos) (tCallS sp E t) := by
  obtain ⟨fd, F, b⟩ := D.fn
  exact pe_callS F hr hg D.g D.kp b hx ha hdb he hpl
/-- what is raised in a call leaves the def -/
theorem passE {Y : Cx} (tk : Takes Y (fun cls d _ H => E cls d H)) : Passes (L2.CX Y.prog Y.w) Y E := passes_call tk fun _ _ _ _ h => h
/-- a def as a value -/
theorem pe_def (D : PD X.prog X.w X.K X.mg X.base k x f ps sp) (hg : Gl X x) (hdb : (x == ("__debug__" : Str)) = false := by decide) : PE X (.Name x p) (tC (.ref f)) := pe_glob hg D.g rfl hdb
/-- fe(e, ..), fe an expression that gives one of two defs -/
def tCall2 (f g : Addr) (sp sq : Sp) (E : XK) (tf : TE) (t : TA) : TE := fun σ H Q => tf σ H fun v H1 => (v = .ref f ∧ t σ H1 fun vs H2 => sp vs H2 Q E) ∨ (v = .ref g ∧ t σ H1 fun vs H2 => sq vs H2 Q E)
theorem pe_call2 (D : PD X.prog X.w X.K X.mg X.base k x f ps sp) (C : PD X.prog X.w X.K X.mg X.base k y g qs sq) (hr : Room k X.A) (hx : Passes (L2.CX X.prog X.w) X E) (hf : PE X fe tf) (ha : PA X (e :: es) t)
    (ht : eval (.Call fe (e :: es) [] pos) X.env = (do callWith pos (← eval fe X.env) [] (backTo pos (starEach (e :: es) X.env)) (backToKw pos (keywordEach [] X.env))) := by rfl)
    (he : starEach (e :: es) X.env = (false, eval e X.env) :: starEach es X.env := by rfl) (hpl : (backTo pos (starEach es X.env)).any (·.1) = false := by rfl) :
    PE X (.Call fe (e :: es) [] pos) (tCall2 f g sp sq E tf t) := by
  obtain ⟨fd, F, b⟩ := D.fn
  obtain ⟨gd, G, c⟩ := C.fn
  refine ⟨fun pins s σ H Q I h => ?_⟩
  refine Call_ (thn (hf.run pins s σ H _ I h) fun u s1 ⟨v, H1, I1, rv, q⟩ => ?_) ht
  rcases q with ⟨rfl, q⟩ | ⟨rfl, q⟩
  · cases rv
    refine PySem.W.callWith_K (h₀ := X.base) I.ok.mod.kin D.kp (thn (ha.run pos pins s1 σ H1 _ I1 q) fun us s2 ⟨vs, H2, I2, r, q2⟩ => ⟨I2.kIn, ?_⟩) he hpl
    exact run_fn F hr b .nil hx I2 r (by rw [List.append_nil]; exact q2)
  · cases rv
    refine PySem.W.callWith_K (h₀ := X.base) I.ok.mod.kin C.kp (thn (ha.run pos pins s1 σ H1 _ I1 q) fun us s2 ⟨vs, H2, I2, r, q2⟩ => ⟨I2.kIn, ?_⟩) he hpl
    exact run_fn G hr c .nil hx I2 r (by rw [List.append_nil]; exact q2)
end
end Tr

/-! Own rules, the third part: own errors. A class over an own class over ValueError, with a text alone, or with an __init__ that calls its base's and stores one or two fields. -/
namespace Tr
open PySem L2 PySem.Spec PyProof.Rows

/-- what the written part says of an own error class -/
structure ExK (K : PySem.W.Frag) (mg : Str → Option Value) (x : Str) (C : Addr) : Prop where
  g : mg x = some (.ref C)
  kp : PySem.W.keepIn K (.ref C) = true
  sb : PySem.W.subIn K (.ref C) (.type "BaseException") = some true
  ty : PySem.W.typeIn K (.ref C) = some (.type "type")
  ic : PySem.W.isClsIn K C = true
/-- .. without an __init__ of its own -/
structure ExP (K : PySem.W.Frag) (mg : Str → Option Value) (x : Str) (C : Addr) : Prop extends ExK K mg x C where
  xq : PySem.W.excIn K C [.type "ValueError", .type "Exception", .type "BaseException", .type "object"] "ValueError.__new__" = true
/-- .. with one, at fI -/
structure ExI (K : PySem.W.Frag) (mg : Str → Option Value) (x : Str) (C fI : Addr) : Prop extends ExK K mg x C where
  ox : OexC K C
  at_ : PySem.W.findIn K (.ref C) "__init__" = some (some (.ref fI))
  tI : PySem.W.typeIn K (.ref fI) = some (.type "function")
/-- the base's __init__, called by the base's name -/
structure ExB (K : PySem.W.Frag) (mg : Str → Option Value) (x : Str) (T : Addr) : Prop where
  g : mg x = some (.ref T)
  rd : PySem.W.readsIn K T (.type "type") = true
  ga : PySem.W.specialIn K (.ref T) "__getattribute__" = some (some (.builtin "type.__getattribute__"))
  at_ : PySem.W.findCls K (.ref T) (.type "type") "__init__" = some (.val (.builtin "ValueError.__init__"))

section
variable {X : Cx} {C T fI : Addr} {x m : Str} {j : Nat} {p p1 p2 pos pos2 : Pos} {e : Expr} {es : List Expr} {ta : TA} {W : WX}
/-- raise x('..') -/
theorem ps_raiseP (hc : X.calm = true) (tk : Takes X W) (P : ExP X.K X.mg x C) (hg : Gl X x) (hdb : (x == ("__debug__" : Str)) = false := by decide) :
    PS X (.Raise (some (.Call (.Name x p) [.Constant (.str m) j p1] [] pos)) none pos2) (fun _ σ H => W (.ref C) none σ H) :=
  ps_raise hc tk (pmk_own PySem.F.excBase_ValueError P.xq P.g P.kp (raises_own P.sb P.ty) hg hdb)
/-- Base.__init__(self, ..) -/
theorem pe_baseinit {pl : Sem Bool} (B : ExB X.K X.mg x T) (hg : Gl X x) (ha : PA X (e :: es) ta) (hdb : (x == ("__debug__" : Str)) = false := by decide)
    (hc : eval (.Call (.Attribute (.Name x p1) "__init__" p2) (e :: es) [] pos) X.env = (do
      let ov ← eval (.Name x p1) X.env
      standAt p2.atName
      let (f, first) ← holding [ov] (getMethod ov "__init__" pl)
      callWith pos f first (backTo pos (starEach (e :: es) X.env)) (backToKw pos (keywordEach [] X.env))) := by rfl)
    (he : starEach (e :: es) X.env = (false, eval e X.env) :: starEach es X.env := by rfl) (hpl : (backTo pos (starEach es X.env)).any (·.1) = false := by rfl) :
    PE X (.Call (.Attribute (.Name x p1) "__init__" p2) (e :: es) [] pos) (tVeI X.K ta) := by
  refine ⟨fun pins s σ H Q I h => ?_⟩
  refine PySem.W.methodCall_KW (ld_glob I hg B.g ?_ hdb) hc
  refine PySem.W.method_cls I.kIn B.ga (PySem.W.cls_value I.kIn B.rd B.at_ (by decide +kernel) ?_)
  show wpAny _ _ (callWith pos (Value.builtin "ValueError.__init__") [] (backTo pos (starEach (e :: es) X.env)) []) _ _ _
  refine PyProof.Rows.callWith_method1 (thn (ha.run pos pins _ σ H _ (I.tok _) h) fun us s1 ⟨vs, H1, I1, r1, a, D, ws, ev, hl, K1, ea, q⟩ => ?_) he hpl
  subst ev
  cases r1 with
  | @cons _ u0 _ ur ra rw' =>
    obtain rfl : u0 = Value.ref a := ra
    have hlen : ur.length ≤ sizeLine := by
      rw [← Paired.length rw', sizeLine_eq]
      omega
    exact oinit_ok K1 I1 ea hlen fun s' J => ⟨.non, H1, J, rfl, q⟩
end

/-- x(e, ..) of such a class is an error with its own dict -/
def xdOf (fs : List (Str × V)) : HO := .xd fs
/-- an __init__ that stores two fields -/
def spInit2 (K : PySem.W.Frag) (f g : Str) : Sp := fun vs H Q _ => ∃ (a C : Addr) (x y : V), vs = [.ref a, x, y] ∧ OexC K C ∧ PySem.W.findIn K (.ref C) f = some none ∧ PySem.W.findIn K (.ref C) g = some none ∧ H a = some (exo a C none) ∧
  ∀ d, H d = none → d ≠ a → ∀ H', H' = upd (upd (upd H d (exd d [(f, x)])) a (exo a C (some d))) d (exd d [(g, y), (f, x)]) → Q .non H'
def spInit1 (K : PySem.W.Frag) (f : Str) : Sp := fun vs H Q _ => ∃ (a C : Addr) (x : V), vs = [.ref a, x] ∧ OexC K C ∧ PySem.W.findIn K (.ref C) f = some none ∧ H a = some (exo a C none) ∧
  ∀ d, H d = none → d ≠ a → ∀ H', H' = upd (upd H d (exd d [(f, x)])) a (exo a C (some d)) → Q .non H'
/-- what raising x(e1, e2) wishes: an error of the class at C, its own new dict at d -/
def tRaise2 (C : Addr) (f g : Str) (W : WX) (ta : TA) : TS := fun _ σ H => ta σ H fun vs H1 => ∃ x y : V, vs = [x, y] ∧ ∀ d, H1 d = none → W (.ref C) (some d) σ (upd H1 d (.xd [(g, y), (f, x)]))
def tRaise1 (C : Addr) (f : Str) (W : WX) (ta : TA) : TS := fun _ σ H => ta σ H fun vs H1 => ∃ x : V, vs = [x] ∧ ∀ d, H1 d = none → W (.ref C) (some d) σ (upd H1 d (.xd [(f, x)]))
theorem del_up3 {H : Hp} {a d : Addr} {o u v w y : HO} (hd : H d = none) (ha : H a = none) (hda : d ≠ a) : upd (del (upd (upd (upd (upd H a o) d u) a v) d w) a) d y = upd H d y := by
  funext b
  by_cases hb : b = d
  · rw [hb, upd_same, upd_same]
  · rw [upd_ne hb, upd_ne hb]
    by_cases hba : b = a
    · rw [hba, del_same, ha]
    · rw [del_ne hba, upd_ne hb, upd_ne hba, upd_ne hb, upd_ne hba]
theorem del_up2 {H : Hp} {a d : Addr} {o u v y : HO} (hd : H d = none) (ha : H a = none) (hda : d ≠ a) : upd (del (upd (upd (upd H a o) d u) a v) a) d y = upd H d y := by
  funext b
  by_cases hb : b = d
  · rw [hb, upd_same, upd_same]
  · rw [upd_ne hb, upd_ne hb]
    by_cases hba : b = a
    · rw [hba, del_same, ha]
    · rw [del_ne hba, upd_ne hba, upd_ne hb, upd_ne hba]
/-- a reading with its wish weakened -/
def tMonoA (t : TA) : TA := fun σ H Q => ∃ Q0 : List V → Hp → Prop, t σ H Q0 ∧ ∀ vs H1, Q0 vs H1 → Q vs H1
theorem pa_mono {X : Cx} {es : List Expr} {t : TA} (h : PA X es t) : PA X es (tMonoA t) := ⟨fun pos pins s σ H Q I ⟨Q0, hw, im⟩ =>
  thn (h.run pos pins s σ H Q0 I hw) fun us s1 ⟨vs, H1, I1, r, q⟩ => ⟨vs, H1, I1, r, im vs H1 q⟩⟩
section
variable {X : Cx} {C fI : Addr} {x : Str} {p pos pos2 : Pos} {e e2 : Expr} {ta : TA} {W : WX} {k : Nat} {fd : FuncData} {f g : Str}
theorem ps_raise2 (hc : X.calm = true) (tk : Takes X W) (P : ExI X.K X.mg x C fI) (hf : PySem.W.findIn X.K (.ref C) f = some none) (hgg : PySem.W.findIn X.K (.ref C) g = some none)
    (F : FnOk X.prog X.w X.K X.mg X.base (L2.CX X.prog X.w) k fI fd ["self", f, g] (spInit2 X.K f g)) (hr : Room (k + 1) X.A) (hb : Binds X.K fd ["self", f, g] []) (hg : Gl X x) (ha : PA X [e, e2] ta) (hdb : (x == ("__debug__" : Str)) = false := by decide)
    (he : starEach (e :: [e2]) X.env = (false, eval e X.env) :: starEach [e2] X.env := by rfl) (hpl : (backTo pos (starEach [e2] X.env)).any (·.1) = false := by rfl) :
    PS X (.Raise (some (.Call (.Name x p) [e, e2] [] pos)) none pos2) (tRaise2 C f g W ta) := by
  have R := ps_raise (pos := pos2) hc tk (pmk_oex (pos := pos) (p := p) P.ox P.at_ P.tI F hr hb .nil passL hg P.g (pa_mono ha) hdb he hpl)
  refine ⟨fun pins s σ H D I h => R.run pins s σ H D I ⟨_, h, ?_⟩⟩
  rintro vs H1 ⟨u, v, rfl, hw⟩
  refine ⟨by show 2 ≤ 1000; decide, fun a ha' => ⟨a, C, u, v, rfl, P.ox, hf, hgg, upd_same, fun d hd hda H' hH => ⟨rfl, d, [(g, v), (f, u)], ?_, ?_, ?_, ?_⟩⟩⟩
  · rw [hH, upd_ne (Ne.symm hda), upd_same]
  · rw [hH, upd_same]
  · rw [upd_ne hda] at hd
    exact hd
  · rw [upd_ne hda] at hd
    rw [hH, del_up3 hd ha' hda]
    exact hw d hd
theorem ps_raise1 (hc : X.calm = true) (tk : Takes X W) (P : ExI X.K X.mg x C fI) (hf : PySem.W.findIn X.K (.ref C) f = some none)
    (F : FnOk X.prog X.w X.K X.mg X.base (L2.CX X.prog X.w) k fI fd ["self", f] (spInit1 X.K f)) (hr : Room (k + 1) X.A) (hb : Binds X.K fd ["self", f] []) (hg : Gl X x) (ha : PA X [e] ta) (hdb : (x == ("__debug__" : Str)) = false := by decide)
    (he : starEach (e :: []) X.env = (false, eval e X.env) :: starEach [] X.env := by rfl) (hpl : (backTo pos (starEach [] X.env)).any (·.1) = false := by rfl) :
    PS X (.Raise (some (.Call (.Name x p) [e] [] pos)) none pos2) (tRaise1 C f W ta) := by
  have R := ps_raise (pos := pos2) hc tk (pmk_oex (pos := pos) (p := p) P.ox P.at_ P.tI F hr hb .nil passL hg P.g (pa_mono ha) hdb he hpl)
  refine ⟨fun pins s σ H D I h => R.run pins s σ H D I ⟨_, h, ?_⟩⟩
  rintro vs H1 ⟨u, rfl, hw⟩
  refine ⟨by show 1 ≤ 1000; decide, fun a ha' => ⟨a, C, u, rfl, P.ox, hf, upd_same, fun d hd hda H' hH => ⟨rfl, d, [(f, u)], ?_, ?_, ?_, ?_⟩⟩⟩
  · rw [hH, upd_same]
  · rw [hH, upd_ne hda, upd_same]
  · rw [upd_ne hda] at hd
    exact hd
  · rw [upd_ne hda] at hd
    rw [hH, del_up2 hd ha' hda]
    exact hw d hd
end
end Tr

/-! Own rules: an error that a clause catches and a name keeps (try: .. except X as n: m = n), and isinstance asked of it later. -/
namespace Tr
open PySem L2 PySem.Spec PyProof.Rows

/-- a caught error of the class cls, without a dict of its own, at a -/
def EO (cls : Value) (a : Addr) : HO := .ext fun h => ∃ (oe : Obj) (vs : Array Value), h.get? a = some oe ∧ Zc cls none oe ∧ oe.data = .fields vs
theorem eo_ok {P : Program} {w : World} {H : Hp} {h : Heap} {a : Addr} {cls : Value} {oe : Obj} (e : h.get? a = some oe) (z : Zc cls none oe) (d : ∃ vs, oe.data = .fields vs) : ObjOk P w H h a (EO cls a) := by
  obtain ⟨vs, d⟩ := d
  exact ⟨⟨oe, vs, e, z, d⟩, ⟨oe, e⟩, fun _ _ ⟨o, v, q, r⟩ k => ⟨o, v, k o q, r⟩⟩
section
variable {X : Cx} {pins pn' : List (Addr × Obj)} {σ : L2.St} {H : Hp} {s : Shared} {a : Addr} {oe : Obj} {cls : Value}
/-- the caught error is tracked behind its suite -/
theorem keepE (S : Inv (X.suite a ((a, oe) :: (X.pn ++ pins))) pn' σ H s) (ok : X.Ok) (hx : X.ex = []) (z : Zc cls none oe) (d : ∃ vs, oe.data = .fields vs) (n0 : X.s_0.heap.get? a = none)
    (nC : ∀ x c, X.env.cells.lookup x = some c → c ≠ a) (nP : ∀ p ∈ X.pn ++ pins, p.1 ≠ a) : Inv X pins σ (upd H a (EO cls a)) s := by
  obtain ⟨hget, na, nL, _, _⟩ := S.pin (a, oe) (List.mem_append_left _ List.mem_cons_self)
  have B := S.base
  have ne0 : ∀ {b u}, X.s_0.heap.get? b = some u → b ≠ a := fun {b u} e w => by rw [w, n0] at e; cases e
  refine ⟨ok, S.os, S.bare, ⟨B.keep, B.slot, fun b u e n q => ?_, B.there, fun b xs e => ?_, fun b u xs e => ?_, fun b ps e => ?_⟩, S.loc, S.cell, ?_, fun x c e => ?_, fun p hp => ?_, fun b u e => ?_, S.len⟩
  · rw [upd_ne (ne0 e)]; exact B.free b u e n q
  · exact (upd_ne (ne_of_none (B.tups b xs e) na)).trans (B.tups b xs e)
  · exact (upd_ne (ne_of_none (B.frzs b u xs e) na)).trans (B.frzs b u xs e)
  · obtain ⟨m, q⟩ := B.tbls b ps e
    exact ⟨m, (upd_ne (ne_of_none q na)).trans q⟩
  · rw [upd_ne (Ne.symm nL)]; exact S.free
  · rw [upd_ne (nC x c e)]; exact S.freeC x c e
  · obtain ⟨p1, p2, p3⟩ := S.pin p (List.mem_append_left _ (List.mem_cons_of_mem _ hp))
    exact ⟨p1, by rw [upd_ne (nP p hp)]; exact p2, p3⟩
  · by_cases hb : b = a
    · subst hb
      rw [upd_same] at e
      cases e
      exact eo_ok hget z d
    · rw [upd_ne hb] at e
      exact (S.hok b u e).stay (fun _ _ _ q => q) (fun c q => by rw [upd_ne (ne_of_none q na)]; exact q) fun c xs q => by rw [upd_ne (ne_of_none q na)]; exact q
end
/-- what the clause wishes, the error kept: it has no dict of its own -/
def wKeep (K : PySem.W.Frag) (c : Value) (i : Nat) (ts : Addr → Value → Option Addr → TS) (Wout : WX) (D : Ends) : WX := fun cls d σ H =>
  ∃ b, PySem.W.exmOne K cls c = some b ∧ (b = true → d = none ∧ ∀ a, H a = none → ts a cls none { nx := fun σ' H' => D.nx (σ'.set i none) (upd H' a (EO cls a)), rt := fun _ _ => False, bk := fun _ _ => False, ct := fun _ _ => False } (σ.set i (some (.ref a))) H) ∧
    (b = false → Wout cls d σ H)
section
variable {X : Cx} {x n : Str} {c : Value} {i : Nat} {body suite : List Stmt} {b₀ : Stmt} {np pos pos' : Pos} {tb : WX → TS} {ts : Addr → Value → Option Addr → TS} {Wout : WX}
theorem ps_try_keep (hx : X.ex = []) (hs : X.stack = X.env :: X.outer) (hf : X.env.frame = some X.env.locals) (hN : X.N.Nodup) (hi : X.N[i]? = some n) (hln : X.env.kindOf n = some .local) (hc : Names X x c) (tk : Takes X Wout)
    (hb : ∀ (W : WX) (pn : List (Addr × Obj)) (xe : Value → Shared → Prop), Takes (X.tr pn xe) W → PassesOwn (model X.prog X.w) X.A X.env xe → PSs (X.tr pn xe) body (tb W))
    (hsu : ∀ (a : Addr) (oe : Obj) (cls : Value) (d : Option Addr) (pn : List (Addr × Obj)), Zc cls d oe → (∃ vs, oe.data = .fields vs) → PSs (X.suite a ((a, oe) :: pn)) (b₀ :: suite) (ts a cls d)) :
    PS X (.Try body [.ExceptHandler (some (.Name x np)) (some n) (b₀ :: suite) pos'] [] [] pos) (fun D σ H => tb (wKeep X.K c i ts Wout D) D σ H) := by
  refine ⟨fun pins s σ H D I h => ?_⟩
  have ok := I.ok
  have frA : X.A.frames = some (X.env :: X.outer) := ok.frames.trans (congrArg some hs)
  refine wpAny_Try_except (wpAny_mono ((hb (wKeep X.K c i ts Wout D) (X.pn ++ pins) (fun e y1 => wpAny (model X.prog X.w) X.A (noteFrame e X.env) (fun _ y2 => wpAny (model X.prog X.w) X.A (setFlight e none)
    (fun _ y3 => wpAny (model X.prog X.w) X.A (handleBy e X.env [.ExceptHandler (some (.Name x np)) (some n) (b₀ :: suite) pos']) (SP X pins D) X.xe y3) X.xe y2) X.xe y1) (fun u y xx => ?_) PassesOwn.looking).run [] s σ H D (I.toTry _) h)
    (fun f s1 hsp => ?_) (fun e s1 he => he))
  · obtain ⟨a, B, sI, pins1, σ1, H1, cls, d, rfl, J0, nb, up, sky, na, os, ag, b, hb1, hyes, hno⟩ := xx
    have J : Inv X pins σ1 H1 sI := J0.ofTry ok
    rw [hs] at sky
    refine Sky.land Zc.steady frA hf sky fun h3 fl3 up3 => ?_
    have J3 : Inv X pins σ1 H1 { y with heap := h3 } := J.landed nb fl3.1 (up.trans up3) os ag
    obtain ⟨o3, v3, g3, z3, d3⟩ := fl3.there
    have aFr : a ∉ frs (X.env :: X.outer) := fun hm => by
      obtain ⟨_, o', e', hnf⟩ := fl3.2.2.1.mem hm
      rw [g3] at e'
      cases e'
      exact hnf _ d3
    have aL : a ≠ X.env.locals := fun w => aFr (List.mem_filterMap.mpr ⟨X.env, List.mem_cons_self, hf.trans (congrArg some w.symm)⟩)
    have aF : a ∉ X.fs := fun hm => by
      obtain ⟨e, he, q⟩ := List.mem_filterMap.mp hm
      exact aFr (List.mem_filterMap.mpr ⟨e, List.mem_cons_of_mem _ he, q⟩)
    -- nothing of sI's heap stands at a
    have nI : ∀ {b u}, sI.heap.get? b = some u → b ≠ a := fun {b u} e w => by
      subst w
      exact nomatch (nb b u e (by show ¬ b ∈ frs X.stack; rw [hs]; exact aFr)).symm.trans fl3.2.1
    have n0 : X.s_0.heap.get? a = none := by
      cases e : X.s_0.heap.get? a with
      | none => rfl
      | some u =>
        obtain ⟨u', q⟩ := J.base.there a u e (by rw [hx]; exact fun z => nomatch z)
        exact absurd rfl (nI q)
    have nC : ∀ x c, X.env.cells.lookup x = some c → c ≠ a := fun x c e => by
      obtain ⟨v, o, q, _⟩ := J.cell x c e
      exact nI q
    have nP : ∀ p ∈ X.pn ++ pins, p.1 ≠ a := fun p hp => nI (J.pin p hp).1
    refine wpAny_handleBy_cons (codeAny_handlers_test ?_) (by intro q; cases q)
    have LM := PySem.W.exm_one (M := model X.prog X.w) (J3.kIn) (fun A Q E s k q => wpAny_typeOf_ref (k _ _ g3) (by rw [z3.1]; exact q)) hb1
    have nameIs : ∀ {Q : Value → Shared → Prop} {E : Value → Shared → Prop}, Q c { y with heap := h3 } → wpAny (model X.prog X.w) (X.A.mark (some (.ref a))) (eval (.Name x np) X.env) Q E { y with heap := h3 } := fun {Q E} q => by
      have S3 := J3.suite g3 d3 na aL aF
      rcases hc with ⟨hg, hdb, hm | ⟨hm, hv, hnn⟩⟩
      · exact ld_glob (X := X.suite a ((a, o3) :: (X.pn ++ pins))) S3 hg hm q hdb
      · exact ld_blt (X := X.suite a ((a, o3) :: (X.pn ++ pins))) S3 hg hm hv q hnn hdb
    refine nameIs (LM.here ?_)
    cases b with
    | true =>
      obtain ⟨rfl, go⟩ := hyes rfl
      refine codeAny_handlers_suite_as (HandSPX.lands_againZ fl3 fun h4 fl4 up4 => ?_)
      obtain ⟨o4, v4, g4, z4, d4⟩ := fl4.there
      have S4 := (J.landed (s' := { y with heap := h4 }) nb fl4.1 ((up.trans up3).trans up4) os ag).suite g4 d4 na aL aF
      refine store_ok (X := X.suite a ((a, o4) :: (X.pn ++ pins))) (v := .ref a) S4 hN hi (.inl hln) rfl (fun s5 S5 => ?_) (.inr hln)
      refine wpAny_mono ((hsu a o4 cls none (X.pn ++ pins) z4 ⟨_, d4⟩).run [] s5 _ H1 _ S5 (go a na)) (fun f s6 hsp => ?_) (fun _ _ z => False.elim z)
      cases f with
      | next =>
        obtain ⟨σ6, H6, S6, q6⟩ := hsp
        exact gone_ok (keepE S6 ok hx z4 ⟨_, d4⟩ n0 nC nP) hN hi hln fun s7 J7 => ⟨_, _, J7, q6⟩
      | brk =>
        obtain ⟨_, _, _, q6⟩ := hsp
        exact q6.elim
      | cont =>
        obtain ⟨_, _, _, q6⟩ := hsp
        exact q6.elim
      | ret u =>
        obtain ⟨_, _, _, _, _, q6⟩ := hsp
        exact q6.elim
    | false =>
      show wpAny _ X.A (handleBy (.ref a) X.env []) _ _ _
      refine wpAny_handleBy_nil ?_
      obtain ⟨_, _, _, oe, vs, T, _, _, he, hz, hd, h1, _⟩ := id fl3
      unfold PySem.passOn
      refine wpAny_bind (wpAny_field he hd h1 ?_)
      rw [if_neg (show ¬ ((Value.ref T == Value.none) = true) from by simp)]
      have away : wpAny (model X.prog X.w) X.A (setFlight (.ref a) X.env.frame) (fun _ y4 => wpAny (model X.prog X.w) X.A (throw (.ref a) : Sem Flow) (SP X pins D) X.xe y4) X.xe { y with heap := h3 } := by
        rw [hf]
        exact HandSPX.setFlight_upZ fl3 fun h4 hh4 up4 => wpAny_throw (tk _ _ ⟨a, B, sI, pins, σ1, H1, cls, d, rfl, J, nb, (up.trans up3).trans up4, .inr (.inr (by rw [hs]; exact hh4)), na, os, ag, hno rfl⟩)
      first
        | exact wpAny_bind (wpAny_pure (wpAny_bind away))
        | exact wpAny_bind away
  · cases f with
    | next =>
      obtain ⟨σ', H', J', q⟩ := hsp
      exact wpAny_execs_nil ⟨σ', H', J'.ofTry ok, q⟩
    | ret u =>
      obtain ⟨v, σ', H', J', r, q⟩ := hsp
      exact ⟨v, σ', H', J'.ofTry ok, r, q⟩
    | brk =>
      obtain ⟨σ', H', J', q⟩ := hsp
      exact ⟨σ', H', J'.ofTry ok, q⟩
    | cont =>
      obtain ⟨σ', H', J', q⟩ := hsp
      exact ⟨σ', H', J'.ofTry ok, q⟩
end
/-! ### isinstance of a kept error -/
def rIsX (K : PySem.W.Frag) : List V → Hp → VK → Prop := fun xs H Q => ∃ (a D : Addr) (c : V) (u : Value) (b : Bool), xs = [.ref a, c] ∧ H a = some (EO (.ref D) a) ∧ ExcC K D ∧ ClsV c u ∧ PySem.W.kitOne K (.ref D) u = some b ∧ Q (.bl b) H
def rIsXT (K : PySem.W.Frag) : List V → Hp → VK → Prop := fun xs H Q => ∃ (a D tp : Addr) (cs : List V) (us : List Value) (b : Bool), xs = [.ref a, .ref tp] ∧ H a = some (EO (.ref D) a) ∧ ExcC K D ∧ H tp = some (.tup cs) ∧ Paired ClsV cs us ∧ PySem.W.kitAny K (.ref D) us = some b ∧ Q (.bl b) H
section
variable {X : Cx}
theorem eo_at {P : Program} {w : World} {H : Hp} {h : Heap} {a D : Addr} (x : HOk P w H h) (e : H a = some (EO (.ref D) a)) : ∃ oe, PySem.W.InstAt h a oe D none := by
  obtain ⟨⟨⟨oc, od, oda, osl⟩, vs, g, ⟨z1, z2⟩, dv⟩, _⟩ := x a _ e
  dsimp only at z1 z2 dv
  subst z1 z2 dv
  exact ⟨_, g, rfl, rfl, trivial⟩
theorem call_isX : CallR X (.builtin "isinstance") (rIsX X.K) := by
  intro pins s σ H xs us Q I r h
  obtain ⟨a, D, c, u, b, rfl, he, C, hc, e, q⟩ := h
  obtain ⟨u1, u2, rfl, r1, r2⟩ := vals2 r
  cases (show u1 = Value.ref a from r1)
  have e2 := hc.eq r2
  subst e2
  obtain ⟨oe, J⟩ := eo_at I.hok he
  exact PySem.W.kia_one (PySem.W.handS_kitx_exc C.hg C.hk C.hs C.hd C.ha C.hn C.ht C.hm) I.kIn J e (fun z => nomatch z) fun tk => ⟨.bl b, H, I.tok tk, rfl, q⟩
theorem call_isXT : CallR X (.builtin "isinstance") (rIsXT X.K) := by
  intro pins s σ H xs us Q I r h
  obtain ⟨a, D, tp, cs, ws, b, rfl, he, C, hT, hc, e, q⟩ := h
  obtain ⟨u1, u2, rfl, r1, r2⟩ := vals2 r
  cases (show u1 = Value.ref a from r1)
  cases (show u2 = Value.ref tp from r2)
  obtain ⟨oe, J⟩ := eo_at I.hok he
  obtain ⟨_, its, rv, o, h1, h2, n, h3⟩ := (show ObjOk X.prog X.w H s.heap tp (.tup cs) from I.hok tp _ hT)
  have e3 := ClsV.all hc rv
  subst e3
  obtain ⟨oc, od, dt, sl⟩ := o
  simp only at h2 h3
  subst h2 h3
  exact PySem.W.kia_tup (PySem.W.handS_kitx_exc C.hg C.hk C.hs C.hd C.ha C.hn C.ht C.hm) I.kIn J h1 e (fun z => nomatch z) fun tk => ⟨.bl b, H, I.tok tk, rfl, q⟩
end
end Tr

/-! One rule an operator, whatever the operands' kinds, and what each evaluates to (Evl's words). -/
namespace Tr
open PySem L2 PySem.Spec PyProof.Rows Evl

/-! ### the readings -/
def rStrs : R2 := fun x y H Q => ∃ i j, x = .str i ∧ y = .str j ∧ i.length + j.length ≤ sizeLine ∧ Q (.str (i ++ j)) H
def xAdd (K : PySem.W.Frag) : R2 := fun x y H Q => rI0 (fun i j => .int (i + j)) x y H Q ∨ rStrs x y H Q ∨ rCatS K x y H Q ∨ rCatA K x y H Q
def xSub : R2 := rI0 fun i j => .int (i - j)
def xMul (K : PySem.W.Frag) : R2 := fun x y H Q => rI CMul (fun i j => .int (i * j)) x y H Q ∨ rRep x y H Q ∨ rRepT K x y H Q
def xDiv : R2 := rI CDiv fun i j => .int (i / j)
def xMod : R2 := rI (fun _ j => 0 < j) fun i j => .int (i % j)
def xPow : R2 := rI CPow fun i j => .int (i ^ j.toNat)
def xShl : R2 := rI CPow fun i j => .int (i * 2 ^ j.toNat)
def xShr : R2 := rI (fun _ j => 0 ≤ j) fun i j => .int (i / 2 ^ j.toNat)
def xAnd : R2 := rI0 fun i j => .int (Builtin.bitAnd i j)
def xOr : R2 := rI0 fun i j => .int (Builtin.bitOr i j)
def xLt : R2 := rI0 fun i j => .bl (decide (i < j))
def xLe : R2 := rI0 fun i j => .bl (decide (i ≤ j))
def xGt : R2 := rI0 fun i j => .bl (decide (j < i))
def xGe : R2 := rI0 fun i j => .bl (decide (j ≤ i))
def xEq (K : PySem.W.Frag) : R2 := fun x y H Q => rEq x y H Q ∨ rEqD K x y H Q
def xNe (K : PySem.W.Frag) : R2 := fun x y H Q => rNe x y H Q ∨ rNeD K x y H Q ∨ rNeDA x y H Q
def xIn (K : PySem.W.Frag) : R2 := rIn K false
def xNotIn (K : PySem.W.Frag) : R2 := rIn K true
def xIsN : R2 := fun x y H Q => y = .non ∧ Q (.bl (decide (x = .non))) H
def xNotN : R2 := fun x y H Q => y = .non ∧ Q (.bl (!decide (x = .non))) H
abbrev RCall := List V → Hp → VK → Prop
def cLen (K : PySem.W.Frag) : RCall := fun xs H Q => (∃ p ys, xs = [.ref p] ∧ (SqL K H p ys ∨ SqT K H p ys) ∧ Q (.int ys.length) H) ∨ (∃ z, xs = [.str z] ∧ z.length ≤ sizeLine ∧ Q (.int z.length) H) ∨ (∃ a kvs, xs = [V.ref a] ∧ H a = some (.dK kvs) ∧ Q (.int kvs.length) H)
def cSum (K : PySem.W.Frag) : RCall := fun xs H Q => rSum K xs H Q ∨ rSumT K xs H Q
def cMin (K : PySem.W.Frag) : RCall := fun xs H Q => rMin K xs H Q ∨ rMinT K xs H Q ∨ (∃ i j, xs = [.int i, .int j] ∧ Q (.int (if j < i then j else i)) H)
def cMax (K : PySem.W.Frag) : RCall := fun xs H Q => rMax K xs H Q ∨ rMaxT K xs H Q ∨ (∃ i j, xs = [.int i, .int j] ∧ Q (.int (if j > i then j else i)) H)
def cInt : RCall := fun xs H Q => ((∃ i, xs = [.int i] ∧ Q (.int i) H) ∨ ∃ k, xs = [.bl k] ∧ Q (.int (if k then 1 else 0)) H) ∨ (∃ a n, xs = [.str a] ∧ PySem.intText? a = some n ∧ a.length ≤ 640 ∧ Q (.int n) H)
def cStr : RCall := fun xs H Q => ∃ i, xs = [.int i] ∧ i.natAbs.log2 < 1920 ∧ Q (.str (toString i)) H
def cList (K : PySem.W.Frag) : RCall := fun xs H Q => ∃ p ys, xs = [.ref p] ∧ (SqL K H p ys ∨ SqT K H p ys) ∧ ∀ l, H l = none → Q (.ref l) (upd H l (.lst ys))
def cTuple (K : PySem.W.Frag) : RCall := fun xs H Q => ∃ p ys, xs = [.ref p] ∧ ((SqL K H p ys ∧ ∀ l, H l = none → Q (.ref l) (upd H l (.tup ys))) ∨ (SqT K H p ys ∧ Q (.ref p) H))
def cIsi (K : PySem.W.Frag) : RCall := fun xs H Q => rIsi K xs H Q ∨ rIsiT K xs H Q ∨ rIsX K xs H Q ∨ rIsXT K xs H Q

/-! ### the rules -/
section
variable {X : Cx}
theorem opAdd : OpR X (binaryOp .Add) (xAdd X.K) := op_add.or (op_add_str.or (op_catS.or op_catA))
theorem opSub : OpR X (binaryOp .Sub) xSub := op_sub
theorem opMul : OpR X (binaryOp .Mult) (xMul X.K) := op_mul.or (op_rep.or op_repT)
theorem opDiv : OpR X (binaryOp .FloorDiv) xDiv := op_fdiv
theorem opMod : OpR X (binaryOp .Mod) xMod := op_mod
theorem opPow : OpR X (binaryOp .Pow) xPow := op_pow
theorem opShl : OpR X (binaryOp .LShift) xShl := op_shl
theorem opShr : OpR X (binaryOp .RShift) xShr := op_shr
theorem opAnd : OpR X (binaryOp .BitAnd) xAnd := op_and
theorem opOr : OpR X (binaryOp .BitOr) xOr := op_or
theorem opLt : OpR X (compareOp .Lt) xLt := op_lt
theorem opLe : OpR X (compareOp .LtE) xLe := op_le
theorem opGt : OpR X (compareOp .Gt) xGt := op_gt
theorem opGe : OpR X (compareOp .GtE) xGe := op_ge
theorem opEq (hu : X.A.units + 64 < cLine) : OpR X (compareOp .Eq) (xEq X.K) := op_eq.or (op_eqD hu)
theorem opNe (hu : X.A.units + 64 < cLine) : OpR X (compareOp .NotEq) (xNe X.K) := op_ne.or ((op_neD hu).or (op_ne_dictA (Nat.lt_of_le_of_lt (Nat.le_add_right _ 64) hu)))
theorem opIn : OpR X (compareOp .In) (xIn X.K) := op_in_seq
theorem opNotIn : OpR X (compareOp .NotIn) (xNotIn X.K) := op_notIn_seq
theorem opIsN : OpR X (compareOp .Is) xIsN := op_isN
theorem opNotN : OpR X (compareOp .IsNot) xNotN := op_notN
theorem fnLen : CallR X (.builtin "len") (cLen X.K) := call_len_seq.or (call_len_str.or call_lenD)
theorem fnSum (hc : X.calm = true) : CallR X (.builtin "sum") (cSum X.K) := (cr_sum hc).or (cr_sumT hc)
theorem fnMin (hc : X.calm = true) : CallR X (.builtin "min") (cMin X.K) := (cr_min hc).or ((cr_minT hc).or (call_min2 hc))
theorem fnMax (hc : X.calm = true) : CallR X (.builtin "max") (cMax X.K) := (cr_max hc).or ((cr_maxT hc).or (call_max2 hc))
theorem fnInt : CallR X (.type "int") cInt := call_int1.or call_int_str
theorem fnStr : CallR X (.type "str") cStr := call_str_int
theorem fnList : CallR X (.type "list") (cList X.K) := call_list_of
theorem fnTuple : CallR X (.type "tuple") (cTuple X.K) := call_tuple_of
theorem fnIsi : CallR X (.builtin "isinstance") (cIsi X.K) := call_isi.or (call_isiT.or (call_isX.or call_isXT))
/-- for x in e, e a list or a tuple at a name -/
def iSeq (K : PySem.W.Frag) (te : TE) : TI := fun σ H R => iList K te σ H R ∨ iTup K te σ H R
theorem pi_seq {tg e : Expr} {te : TE} (h : PE X e te) : PI X tg e (iSeq X.K te) := pi_either (pi_list h) (pi_tup h)
def iEnumQ (K : PySem.W.Frag) (ta : TA) : TI := fun σ H R => iEnum K ta σ H R ∨ iEnumT K ta σ H R
theorem pi_enumQ {e : Expr} {ta : TA} {p pos tpos : Pos} {elts : List Expr} {kk : Nat} (hg : Gl X "enumerate") (hm : X.mg "enumerate" = none) (ha : PA X [e] ta) (hs : starEach [e] X.env = [(false, eval e X.env)] := by rfl) :
    PI X (.Tuple elts kk tpos) (.Call (.Name "enumerate" p) [e] [] pos) (iEnumQ X.K ta) := pi_either (pi_enum hg hm ha hs) (pi_enumT hg hm ha hs)
end

/-! ### what holds of a sequence, a list or a tuple -/
def SqQ (K : PySem.W.Frag) (H : Hp) (a : Addr) (xs : List V) : Prop := SqL K H a xs ∨ SqT K H a xs
section
variable {K : PySem.W.Frag} {σ : L2.St} {H H' : Hp} {ta tb te tx : TE} {t u : TT} {x y z v : V} {r : R2} {a p : Addr} {xs ys : List V}
theorem ex_q (e : Ex H H') (h : SqQ K H a xs) : SqQ K H' a xs := h.elim (fun h => .inl (ex_l e h)) fun h => .inr (ex_t e h)
theorem q_of_l (h : SqL K H a xs) : SqQ K H a xs := .inl h
theorem q_of_t (h : SqT K H a xs) : SqQ K H a xs := .inr h
theorem ex_at {o : HO} (e : Ex H H') (h : H a = some o) : H' a = some o := e a o h
/-- a list, a tuple, either: where it stands -/
def EvS (K : PySem.W.Frag) (te : TE) (σ : L2.St) (H : Hp) (xs : List V) : Prop := ∀ H1, Ex H H1 → ∀ Q : VK, (∀ a H2, Ex H1 H2 → SqL K H2 a xs → Q (.ref a) H2) → te σ H1 Q
def EvW (K : PySem.W.Frag) (te : TE) (σ : L2.St) (H : Hp) (xs : List V) : Prop := ∀ H1, Ex H H1 → ∀ Q : VK, (∀ a H2, Ex H1 H2 → SqT K H2 a xs → Q (.ref a) H2) → te σ H1 Q
def EvQ (K : PySem.W.Frag) (te : TE) (σ : L2.St) (H : Hp) (xs : List V) : Prop := ∀ H1, Ex H H1 → ∀ Q : VK, (∀ a H2, Ex H1 H2 → SqQ K H2 a xs → Q (.ref a) H2) → te σ H1 Q
/-- a value of known data -/
def EvD (K : PySem.W.Frag) (te : TE) (σ : L2.St) (H : Hp) (d : PyData) : Prop := ∀ H1, Ex H H1 → ∀ Q : VK, (∀ v H2, Ex H1 H2 → Dp K H2 v d → Q v H2) → te σ H1 Q
theorem evs_of (h : Ev te σ H (.ref a)) (hs : SqL K H a xs) : EvS K te σ H xs := fun H1 e Q q => h H1 e Q fun H2 e2 => q a H2 e2 (ex_l (e.trans e2) hs)
theorem evs_new (h : EvL te σ H xs) : EvS K te σ H xs := fun H1 e Q q => h H1 e Q fun p H2 _ e2 hp => q p H2 e2 (SqL.of hp)
theorem evw_of (h : Ev te σ H (.ref a)) (hs : SqT K H a xs) : EvW K te σ H xs := fun H1 e Q q => h H1 e Q fun H2 e2 => q a H2 e2 (ex_t (e.trans e2) hs)
theorem evw_new (h : EvU te σ H xs) : EvW K te σ H xs := fun H1 e Q q => h H1 e Q fun p H2 _ e2 hp => q p H2 e2 (SqT.of hp)
theorem evq_of (h : Ev te σ H (.ref a)) (hs : SqQ K H a xs) : EvQ K te σ H xs := fun H1 e Q q => h H1 e Q fun H2 e2 => q a H2 e2 (ex_q (e.trans e2) hs)
theorem evq_s (h : EvS K te σ H xs) : EvQ K te σ H xs := fun H1 e Q q => h H1 e Q fun p H2 e2 hp => q p H2 e2 (.inl hp)
theorem evq_w (h : EvW K te σ H xs) : EvQ K te σ H xs := fun H1 e Q q => h H1 e Q fun p H2 e2 hp => q p H2 e2 (.inr hp)
/-! values -/
theorem rv_addI {i j : Int} : RV (xAdd K) (.int i) (.int j) H (.int (i + j)) := fun H1 _ _ q => .inl ⟨i, j, rfl, rfl, q H1 (Ex.refl H1)⟩
theorem rv_addS {i j : Str} (hl : i.length + j.length ≤ 100000) : RV (xAdd K) (.str i) (.str j) H (.str (i ++ j)) := fun H1 _ _ q => .inr (.inl ⟨i, j, rfl, rfl, sz_of hl, q H1 (Ex.refl H1)⟩)
theorem rv_sub {i j : Int} : RV xSub (.int i) (.int j) H (.int (i - j)) := rv_I0
theorem rv_mul {i j : Int} (hc : CMul i j) : RV (xMul K) (.int i) (.int j) H (.int (i * j)) := fun H1 _ _ q => .inl ⟨i, j, rfl, rfl, hc, q H1 (Ex.refl H1)⟩
theorem rv_div {i j : Int} (hc : CDiv i j) : RV xDiv (.int i) (.int j) H (.int (i / j)) := rv_I hc
theorem rv_mod {i j : Int} (hc : 0 < j) : RV xMod (.int i) (.int j) H (.int (i % j)) := rv_I hc
theorem rv_pow {i j : Int} (hc : CPow i j) : RV xPow (.int i) (.int j) H (.int (i ^ j.toNat)) := rv_I hc
theorem rv_shl {i j : Int} (hc : CPow i j) : RV xShl (.int i) (.int j) H (.int (i * 2 ^ j.toNat)) := rv_I hc
theorem rv_shr {i j : Int} (hc : 0 ≤ j) : RV xShr (.int i) (.int j) H (.int (i / 2 ^ j.toNat)) := rv_I hc
theorem rv_and {i j : Int} : RV xAnd (.int i) (.int j) H (.int (Builtin.bitAnd i j)) := rv_I0
theorem rv_or {i j : Int} : RV xOr (.int i) (.int j) H (.int (Builtin.bitOr i j)) := rv_I0
theorem rv_lt {i j : Int} : RV xLt (.int i) (.int j) H (.bl (decide (i < j))) := rv_I0
theorem rv_le {i j : Int} : RV xLe (.int i) (.int j) H (.bl (decide (i ≤ j))) := rv_I0
theorem rv_gt {i j : Int} : RV xGt (.int i) (.int j) H (.bl (decide (j < i))) := rv_I0
theorem rv_ge {i j : Int} : RV xGe (.int i) (.int j) H (.bl (decide (j ≤ i))) := rv_I0
theorem rv_eqI {i j : Int} : RV (xEq K) (.int i) (.int j) H (.bl (decide (i = j))) := fun H1 _ Q q => .inl ⟨rfl, by
  rw [show decide (V.int i = V.int j) = decide (i = j) by simp]
  exact q H1 (Ex.refl H1)⟩
theorem rv_neI {i j : Int} : RV (xNe K) (.int i) (.int j) H (.bl (!decide (i = j))) := fun H1 _ Q q => .inl ⟨rfl, by
  rw [show decide (V.int i = V.int j) = decide (i = j) by simp]
  exact q H1 (Ex.refl H1)⟩
theorem rv_eqV (h : scal x y = true) : RV (xEq K) x y H (.bl (decide (x = y))) := fun H1 _ Q q => .inl ⟨h, q H1 (Ex.refl H1)⟩
theorem rv_neV (h : scal x y = true) : RV (xNe K) x y H (.bl (!decide (x = y))) := fun H1 _ Q q => .inl ⟨h, q H1 (Ex.refl H1)⟩
theorem rv_isN : RV xIsN x .non H (.bl (decide (x = .non))) := fun H1 _ Q q => ⟨rfl, q H1 (Ex.refl H1)⟩
theorem rv_notN : RV xNotN x .non H (.bl (!decide (x = .non))) := fun H1 _ Q q => ⟨rfl, q H1 (Ex.refl H1)⟩
/-! sequences -/
theorem el_cat (ha : EvS K ta σ H xs) (hb : EvS K tb σ H ys) (hz : xs.length + ys.length ≤ 100000) : EvL (tOp (xAdd K) ta tb) σ H (xs ++ ys) := fun H1 e Q q =>
  ha H1 e _ fun a H2 e2 h2 => hb H2 (e.trans e2) _ fun b H3 e3 h3 => .inr (.inr (.inl ⟨a, b, xs, ys, rfl, rfl, ex_l e3 h2, h3, sz_of hz, fun p hp => q p _ (fresh_back (e2.trans e3) hp) ((e2.trans e3).trans (Ex.new hp)) upd_same⟩))
theorem el_rep {k : Int} (ha : EvL ta σ H xs) (hb : ∀ H1, Ex H H1 → Ev tb σ H1 (.int k)) (hk : -1000 ≤ k ∧ k ≤ 100000) (hz : xs.length * k.toNat ≤ 100000) : EvL (tOp (xMul K) ta tb) σ H (List.replicate k.toNat xs).flatten := fun H1 e Q q =>
  ha H1 e _ fun a H2 _ e2 h2 => hb H2 (e.trans e2) H2 (Ex.refl H2) _ fun H3 e3 => .inr (.inl ⟨a, k, xs, rfl, rfl, e3 a _ h2, by omega, by omega, sz_of hz, fun p hp => q p _ (fresh_back (e2.trans e3) hp) ((e2.trans e3).trans (Ex.new hp)) upd_same⟩)
theorem ev_ix {i : Int} (ha : EvQ K ta σ H xs) (hb : ∀ H1, Ex H H1 → Ev tb σ H1 (.int i)) (hi : atI xs i = some v) : Ev (tOp (rIx K) ta tb) σ H v := fun H1 e Q q =>
  ha H1 e _ fun a H2 e2 h2 => hb H2 (e.trans e2) H2 (Ex.refl H2) _ fun H3 e3 => by
    rcases ex_q e3 h2 with h | h
    · exact .inl ⟨a, xs, i, v, rfl, rfl, h, hi, q H3 (e2.trans e3)⟩
    · exact .inr (.inl ⟨a, xs, i, v, rfl, rfl, h, hi, q H3 (e2.trans e3)⟩)
theorem ev_ixS {w : Str} {i : Int} {c : Nat} (ha : Ev ta σ H (.str w)) (hb : Ev tb σ H (.int i)) (hl : w.length ≤ 100000) (hi : atI w.cps.toList i = some c) : Ev (tOp (rIx K) ta tb) σ H (.str ⟨#[c]⟩) := fun H1 e Q q =>
  ha H1 e _ fun H2 e2 => hb H2 (e.trans e2) _ fun H3 e3 => .inr (.inr ⟨w, i, c, rfl, rfl, sz_of hl, hi, q H3 (e2.trans e3)⟩)
theorem ev_lenQ (ha : EvQ K ta σ H xs) : Ev (tCB (cLen K) (tCons ta tNil)) σ H (.int (xs.length : Int)) := fun H1 e Q q =>
  ha H1 e _ fun a H2 e2 h2 => .inl ⟨a, xs, rfl, h2, q H2 e2⟩
theorem ev_lenS {w : Str} (ha : Ev ta σ H (.str w)) (hl : w.length ≤ 100000) : Ev (tCB (cLen K) (tCons ta tNil)) σ H (.int (w.length : Int)) := fun H1 e Q q =>
  ha H1 e _ fun H2 e2 => .inr (.inl ⟨w, rfl, sz_of hl, q H2 e2⟩)
theorem ev_lenD {kvs : List (Key × V)} (ha : Ev ta σ H (.ref a)) (hd : H a = some (.dK kvs)) : Ev (tCB (cLen K) (tCons ta tNil)) σ H (.int (kvs.length : Int)) := fun H1 e Q q =>
  ha H1 e _ fun H2 e2 => .inr (.inr ⟨a, kvs, rfl, (e.trans e2) a _ hd, q H2 e2⟩)
theorem ev_sum {ns : List Int} (ha : EvQ K ta σ H (ns.map V.int)) : Ev (tCB (cSum K) (tCons ta tNil)) σ H (.int ns.sum) := fun H1 e Q q =>
  ha H1 e _ fun a H2 e2 h2 => by
    rcases h2 with h | h
    · exact .inl ⟨a, ns, rfl, h, q H2 e2⟩
    · exact .inr ⟨a, ns, rfl, h, q H2 e2⟩
theorem ev_min {ns : List Int} {m : Int} (ha : EvQ K ta σ H (ns.map V.int)) (hm : m ∈ ns) (hl : ∀ y ∈ ns, m ≤ y) : Ev (tCB (cMin K) (tCons ta tNil)) σ H (.int m) := fun H1 e Q q =>
  ha H1 e _ fun a H2 e2 h2 => by
    have hp : 0 < ns.length := List.length_pos_of_mem hm
    have one : ∀ m', m' ∈ ns → (∀ y, y ∈ ns → m' ≤ y) → Q (.int m') H2 := fun m' h1 h3 => by
      rw [Int.le_antisymm (h3 m hm) (hl m' h1)]
      exact q H2 e2
    rcases h2 with h | h
    · exact .inl ⟨a, ns, rfl, h, hp, one⟩
    · exact .inr (.inl ⟨a, ns, rfl, h, hp, one⟩)
theorem ev_max {ns : List Int} {m : Int} (ha : EvQ K ta σ H (ns.map V.int)) (hm : m ∈ ns) (hl : ∀ y ∈ ns, y ≤ m) : Ev (tCB (cMax K) (tCons ta tNil)) σ H (.int m) := fun H1 e Q q =>
  ha H1 e _ fun a H2 e2 h2 => by
    have hp : 0 < ns.length := List.length_pos_of_mem hm
    have one : ∀ m', m' ∈ ns → (∀ y, y ∈ ns → y ≤ m') → Q (.int m') H2 := fun m' h1 h3 => by
      rw [Int.le_antisymm (hl m' h1) (h3 m hm)]
      exact q H2 e2
    rcases h2 with h | h
    · exact .inl ⟨a, ns, rfl, h, hp, one⟩
    · exact .inr (.inl ⟨a, ns, rfl, h, hp, one⟩)
theorem ev_min2 {i j : Int} (ha : Ev ta σ H (.int i)) (hb : Ev tb σ H (.int j)) : Ev (tCB (cMin K) (tCons ta (tCons tb tNil))) σ H (.int (if j < i then j else i)) := fun H1 e Q q =>
  ha H1 e _ fun H2 e2 => hb H2 (e.trans e2) _ fun H3 e3 => .inr (.inr ⟨i, j, rfl, q H3 (e2.trans e3)⟩)
theorem ev_max2 {i j : Int} (ha : Ev ta σ H (.int i)) (hb : Ev tb σ H (.int j)) : Ev (tCB (cMax K) (tCons ta (tCons tb tNil))) σ H (.int (if j > i then j else i)) := fun H1 e Q q =>
  ha H1 e _ fun H2 e2 => hb H2 (e.trans e2) _ fun H3 e3 => .inr (.inr ⟨i, j, rfl, q H3 (e2.trans e3)⟩)
theorem ev_intI {i : Int} (ha : Ev ta σ H (.int i)) : Ev (tCB cInt (tCons ta tNil)) σ H (.int i) := fun H1 e Q q => ha H1 e _ fun H2 e2 => .inl (.inl ⟨i, rfl, q H2 e2⟩)
theorem ev_intB {b : Bool} (ha : Ev ta σ H (.bl b)) : Ev (tCB cInt (tCons ta tNil)) σ H (.int (if b then 1 else 0)) := fun H1 e Q q => ha H1 e _ fun H2 e2 => .inl (.inr ⟨b, rfl, q H2 e2⟩)
theorem ev_intT {w : Str} {n : Int} (ha : Ev ta σ H (.str w)) (hn : PySem.intText? w = some n) (hl : w.length ≤ 640) : Ev (tCB cInt (tCons ta tNil)) σ H (.int n) := fun H1 e Q q => ha H1 e _ fun H2 e2 => .inr ⟨w, n, rfl, hn, hl, q H2 e2⟩
theorem ev_str {i : Int} (ha : Ev ta σ H (.int i)) (hl : i.natAbs.log2 < 1920) : Ev (tCB cStr (tCons ta tNil)) σ H (.str (toString i)) := fun H1 e Q q => ha H1 e _ fun H2 e2 => ⟨i, rfl, hl, q H2 e2⟩
theorem el_listQ (ha : EvQ K ta σ H xs) : EvL (tCB (cList K) (tCons ta tNil)) σ H xs := fun H1 e Q q =>
  ha H1 e _ fun a H2 e2 h2 => ⟨a, xs, rfl, h2, fun l hl => q l _ (fresh_back e2 hl) (e2.trans (Ex.new hl)) upd_same⟩
theorem evw_tuple (ha : EvQ K ta σ H xs) : EvW K (tCB (cTuple K) (tCons ta tNil)) σ H xs := fun H1 e Q q =>
  ha H1 e _ fun a H2 e2 h2 => ⟨a, xs, rfl, h2.elim (fun h => .inl ⟨h, fun l hl => q l _ (e2.trans (Ex.new hl)) (SqT.of upd_same)⟩) fun h => .inr ⟨h, q a H2 e2 h⟩⟩
theorem el_slQ {tl th : TO} {lo hi : Option Int} (h : EvS K te σ H xs) (h1 : EvO tl σ H lo) (h2 : EvO th σ H hi) : EvL (tSl (rSlL K) te tl th) σ H (cutV xs lo hi) := fun H1 e _ q =>
  h H1 e _ fun a H2 e2 hs => h1 H2 (e.trans e2) _ fun H3 e3 => h2 H3 ((e.trans e2).trans e3) _ fun H4 e4 =>
    ⟨a, xs, rfl, ex_l (e3.trans e4) hs, fun p hp => q p _ (fresh_back ((e2.trans e3).trans e4) hp) (((e2.trans e3).trans e4).trans (Ex.new hp)) upd_same⟩
/-! data -/
end
mutual
theorem dp_ex {K : PySem.W.Frag} {H H' : Hp} (e : Ex H H') : ∀ {v : V} {d : PyData}, Dp K H v d → Dp K H' v d
  | _, _, .non => .non
  | _, _, .bl b => .bl b
  | _, _, .int i => .int i
  | _, _, .str x => .str x
  | _, _, .lst hs ha => .lst (ex_l e hs) (dpa_ex e ha)
  | _, _, .tup hs ha => .tup (ex_t e hs) (dpa_ex e ha)
theorem dpa_ex {K : PySem.W.Frag} {H H' : Hp} (e : Ex H H') : ∀ {vs : List V} {ds : List PyData}, DpAll K H vs ds → DpAll K H' vs ds
  | _, _, .nil => .nil
  | _, _, .cons h hs => .cons (dp_ex e h) (dpa_ex e hs)
end
theorem dpa_ints {K : PySem.W.Frag} {H : Hp} : ∀ ns : List Int, DpAll K H (ns.map V.int) (ns.map PyData.int)
  | [] => .nil
  | n :: ns => .cons (.int n) (dpa_ints ns)

section
variable {K : PySem.W.Frag} {σ : L2.St} {H H' : Hp} {ta tb te : TE} {x y v : V} {xs ys : List V} {d f : PyData} {ds : List PyData}
theorem evd_of (h : Ev te σ H v) (hd : Dp K H v d) : EvD K te σ H d := fun H1 e Q q => h H1 e Q fun H2 e2 => q v H2 e2 (dp_ex (e.trans e2) hd)
theorem evd_l (h : EvS K te σ H xs) (hd : DpAll K H xs ds) : EvD K te σ H (.list ds) := fun H1 e Q q => h H1 e Q fun a H2 e2 hs => q _ H2 e2 (.lst hs (dpa_ex (e.trans e2) hd))
theorem evd_w (h : EvW K te σ H xs) (hd : DpAll K H xs ds) : EvD K te σ H (.tuple ds) := fun H1 e Q q => h H1 e Q fun a H2 e2 hs => q _ H2 e2 (.tup hs (dpa_ex (e.trans e2) hd))
theorem ev_eqD (ha : EvD K ta σ H d) (hb : EvD K tb σ H f) (hd : SeqAt.shaped d = true) (hf : SeqAt.shaped f = true) : Ev (tOp (xEq K) ta tb) σ H (.bl (PyData.eqv d f)) := fun H1 e Q q =>
  ha H1 e _ fun v H2 e2 h2 => hb H2 (e.trans e2) _ fun w H3 e3 h3 => .inr ⟨d, f, dp_ex e3 h2, h3, hd, hf, q H3 (e2.trans e3)⟩
theorem ev_neD (ha : EvD K ta σ H d) (hb : EvD K tb σ H f) (hd : SeqAt.shaped d = true) (hf : SeqAt.shaped f = true) : Ev (tOp (xNe K) ta tb) σ H (.bl (!PyData.eqv d f)) := fun H1 e Q q =>
  ha H1 e _ fun v H2 e2 h2 => hb H2 (e.trans e2) _ fun w H3 e3 h3 => .inr (.inl ⟨d, f, dp_ex e3 h2, h3, hd, hf, q H3 (e2.trans e3)⟩)
end
end Tr

/-! Names of the module as values, slices, chains of three; where the errors' classes and some defs stand; what is known of any value handed in. -/
namespace Tr
open PySem L2 PySem.Spec PyProof.Rows Evl

/-- where the classes and the defs that are values stand -/
structure Cs where
  toss : Addr
  norow : Addr
  clash : Addr
  nostate : Addr
  nothrow : Addr
  noturn : Addr
  noway : Addr
  nolog : Addr
  notext : Addr
  f_l_any : Addr
  f_l_going : Addr
  f_turned : Addr
  f_repeated : Addr
  hall : Addr

section
variable {X : Cx} {x : Str} {p pos : Pos}
theorem pe_gint {i : Int} (h : ∃ t, X.mg x = some (.int i t)) (hg : Gl X x) (hd : (x == ("__debug__" : Str)) = false := by decide) : PE X (.Name x p) (tC (.int i)) := by
  obtain ⟨t, h⟩ := h
  exact pe_glob hg h ⟨t, rfl⟩ hd
theorem pe_gstr {z : Str} (h : ∃ t, X.mg x = some (.str z t)) (hg : Gl X x) (hd : (x == ("__debug__" : Str)) = false := by decide) : PE X (.Name x p) (tC (.str z)) := by
  obtain ⟨t, h⟩ := h
  exact pe_glob hg h ⟨t, rfl⟩ hd
theorem pe_bty {T : String} (h : X.mg x = none) (hv : bootBuiltins x = some (.type T)) (hg : Gl X x) (hn : x ≠ "__name__" := by decide) (hd : (x == ("__debug__" : Str)) = false := by decide) : PE X (.Name x p) (tC (.ty T)) := pe_bltn hg h hv rfl hn hd
theorem pe_gcls {C : Addr} (h : X.mg x = some (.ref C)) (hg : Gl X x) (hd : (x == ("__debug__" : Str)) = false := by decide) : PE X (.Name x p) (tC (.ref C)) := pe_glob hg h rfl hd
def xNeg : V → Hp → VK → Prop := rU fun i => .int (-i)
theorem opNeg : UnR X (unaryOp .USub) xNeg := un_neg
def xSl (K : PySem.W.Frag) : V → Option Int → Option Int → Hp → VK → Prop := fun x lo hi H Q => rSlL K x lo hi H Q ∨ rSlA K x lo hi H Q ∨ rSlS x lo hi H Q
theorem opSl : SlR X (xSl X.K) := sl_list.or (sl_tupA.or sl_str)
end

/-! ### kinds of values -/
abbrev tyI : Value := .type "int"
abbrev tyB : Value := .type "bool"
/-- of x it is known whether it is a whole number -/
def Typed (K : PySem.W.Frag) (H : Hp) (x : V) : Prop := (∃ i, x = .int i) ∨ (∃ b, x = .bl b) ∨ ((∀ i, x ≠ .int i) ∧ ∃ T, TyX K H x (.type T) ∧ kitB T "int" = some false)
def numV : V → Bool
  | .int _ => true
  | _ => false
def iblV : V → Bool
  | .int _ => true
  | .bl _ => true
  | _ => false
def hgtV : V → Bool
  | .int i => decide (0 ≤ i) && decide (i ≤ 9)
  | _ => false
theorem tyx_ex {K : PySem.W.Frag} {H H' : Hp} {x : V} {t : Value} (e : Ex H H') (h : TyX K H x t) : TyX K H' x t := by
  cases h with
  | base h =>
    cases h with
    | non => exact .base .non
    | bl b => exact .base (.bl b)
    | int i => exact .base (.int i)
    | str s => exact .base (.str s)
    | flt s => exact .base (.flt s)
    | lst h => exact .base (.lst (e _ _ h))
    | frz h => exact .base (.frz (e _ _ h))
    | tup h => exact .base (.tup (e _ _ h))
    | dK h => exact .base (.dK (e _ _ h))
    | dT h => exact .base (.dT (e _ _ h))
    | ins h a b c d f => exact .base (.ins (e _ _ h) a b c d f)
  | byt b => exact .byt b
  | set h => exact .set (e _ _ h)
  | kList a b => exact .kList a b
  | kTuple a b => exact .kTuple a b
  | kDict a b => exact .kDict a b
  | fTuple h => exact .fTuple (e _ _ h)
  | fDict h => exact .fDict (e _ _ h)
theorem typed_ex {K : PySem.W.Frag} {H H' : Hp} {x : V} (e : Ex H H') (h : Typed K H x) : Typed K H' x := h.imp id (Or.imp id fun ⟨n, T, t, k⟩ => ⟨n, T, tyx_ex e t, k⟩)
theorem typed_int {K : PySem.W.Frag} {H : Hp} {i : Int} : Typed K H (.int i) := .inl ⟨i, rfl⟩
theorem typed_bl {K : PySem.W.Frag} {H : Hp} {b : Bool} : Typed K H (.bl b) := .inr (.inl ⟨b, rfl⟩)
theorem typed_non {K : PySem.W.Frag} {H : Hp} : Typed K H .non := .inr (.inr ⟨(fun _ z => nomatch z), _, .base .non, by decide +kernel⟩)
theorem typed_str {K : PySem.W.Frag} {H : Hp} {s : Str} : Typed K H (.str s) := .inr (.inr ⟨(fun _ z => nomatch z), _, .base (.str s), by decide +kernel⟩)
theorem tyx_l {K : PySem.W.Frag} {H : Hp} {a : Addr} {xs : List V} (h : SqL K H a xs) : TyX K H (.ref a) (.type "list") := by
  rcases h with (h | ⟨o, h⟩) | ⟨o, its, n, h, hc, _⟩
  · exact .base (.lst h)
  · exact .base (.frz h)
  · exact .kList h hc
theorem tyx_t {K : PySem.W.Frag} {H : Hp} {a : Addr} {xs : List V} (h : SqT K H a xs) : TyX K H (.ref a) (.type "tuple") := by
  rcases h with (h | ⟨o, h⟩) | ⟨o, its, n, h, hc, _⟩
  · exact .base (.tup h)
  · exact .fTuple h
  · exact .kTuple h hc
theorem typed_l {K : PySem.W.Frag} {H : Hp} {a : Addr} {xs : List V} (h : SqL K H a xs) : Typed K H (.ref a) := .inr (.inr ⟨(fun _ z => nomatch z), _, tyx_l h, by decide +kernel⟩)
theorem typed_t {K : PySem.W.Frag} {H : Hp} {a : Addr} {xs : List V} (h : SqT K H a xs) : Typed K H (.ref a) := .inr (.inr ⟨(fun _ z => nomatch z), _, tyx_t h, by decide +kernel⟩)
/-! isinstance(x, T), one built-in type -/
section
variable {K : PySem.W.Frag} {σ : L2.St} {H : Hp} {ta tb : TE} {x : V}
theorem ev_isi {T U : String} {b : Bool} (ha : Ev ta σ H x) (ht : TyX K H x (.type T)) (hb : kitB T U = some b) : Ev (tCB (cIsi K) (tCons ta (tCons (tC (.ty U)) tNil))) σ H (.bl b) := fun H1 e Q q =>
  ha H1 e _ fun H2 e2 => .inl ⟨x, .ty U, .type T, .type U, b, rfl, .ty U, tyx_ex (e.trans e2) ht, kit_ty hb, q H2 e2⟩
theorem ev_isi2 {T U W : String} {b : Bool} (ha : Ev ta σ H x) (ht : TyX K H x (.type T)) (hb : PySem.W.kitAny K (.type T) [.type U, .type W] = some b) :
    Ev (tCB (cIsi K) (tCons ta (tCons (tTup (tCons (tC (.ty U)) (tCons (tC (.ty W)) tNil))) tNil))) σ H (.bl b) := fun H1 e Q q =>
  ha H1 e _ fun H2 e2 => ⟨by show 2 ≤ sizeLine; decide, fun p hp => .inr (.inl ⟨x, p, [.ty U, .ty W], .type T, [.type U, .type W], b, rfl, upd_same, .cons (.ty U) (.cons (.ty W) .nil), tyx_ex ((e.trans e2).trans (Ex.new hp)) ht, hb, q _ (e2.trans (Ex.new hp))⟩)⟩
/-- .. of a kept error: one class, or a tuple of classes -/
theorem ev_isX {a D : Addr} {c : V} {u : Value} {b : Bool} (ha : Ev ta σ H (.ref a)) (he : H a = some (EO (.ref D) a)) (C : ExcC K D) (hc : ClsV c u) (hb : PySem.W.kitOne K (.ref D) u = some b) : Ev (tCB (cIsi K) (tCons ta (tCons (tC c) tNil))) σ H (.bl b) := fun H1 e Q q =>
  ha H1 e _ fun H2 e2 => .inr (.inr (.inl ⟨a, D, c, u, b, rfl, e2 _ _ (e _ _ he), C, hc, hb, q H2 e2⟩))
theorem ev_isXT {a D : Addr} {cs : List V} {us : List Value} {b : Bool} {tc : TA} (ha : Ev ta σ H (.ref a)) (he : H a = some (EO (.ref D) a)) (C : ExcC K D) (hv : EvA tc σ H cs) (hc : Paired ClsV cs us) (hl : cs.length ≤ 100000) (hb : PySem.W.kitAny K (.ref D) us = some b) : Ev (tCB (cIsi K) (tCons ta (tCons (tTup tc) tNil))) σ H (.bl b) := fun H1 e Q q =>
  ha H1 e _ fun H2 e2 => eu_tup hv hl H2 (e.trans e2) _ fun p H3 hp e3 h3 => .inr (.inr (.inr ⟨a, D, p, cs, us, b, rfl, e3 _ _ (e2 _ _ (e _ _ he)), C, h3, hc, hb, q H3 (e2.trans e3)⟩))
theorem ev_isInt (ha : Ev ta σ H x) (ht : Typed K H x) : Ev (tCB (cIsi K) (tCons ta (tCons (tC (.ty "int")) tNil))) σ H (.bl (iblV x)) := by
  rcases ht with ⟨i, rfl⟩ | ⟨b, rfl⟩ | ⟨hn, T, ty, hk⟩
  · exact ev_isi ha (.base (.int i)) (show kitB "int" "int" = some true by decide +kernel)
  · exact ev_isi ha (.base (.bl b)) (show kitB "bool" "int" = some true by decide +kernel)
  · have e : (iblV x) = false := by
      cases x with
      | int i => exact absurd rfl (hn i)
      | bl b =>
        exfalso
        cases ty with
        | base t => cases t; exact absurd hk (by decide +kernel)
      | _ => rfl
    rw [e]
    exact ev_isi ha ty hk
/-- behind it: isinstance(x, bool), for a whole number or a truth -/
theorem ev_isBool (ha : Ev ta σ H x) (ht : (iblV x) = true) : Ev (tCB (cIsi K) (tCons ta (tCons (tC (.ty "bool")) tNil))) σ H (.bl (!numV x)) := by
  cases x with
  | int i => exact ev_isi ha (.base (.int i)) (show kitB "int" "bool" = some false by decide +kernel)
  | bl b => exact ev_isi ha (.base (.bl b)) (show kitB "bool" "bool" = some true by decide +kernel)
  | _ => exact absurd ht (show ¬ false = true by decide)
end
end Tr

/-! Statements and loops over lists or tuples, enumerate, dicts: what follows where the values are known. -/
local macro_rules | `(tactic| k_allIn) => `(tactic| (first | with_reducible assumption | exact Evl.Ex.refl _ | ((with_reducible refine Evl.Ex.trans ?_ (by with_reducible assumption)); k_allIn)))
local macro_rules | `(tactic| k_ownIn) => `(tactic| (first | with_reducible assumption | ((with_reducible refine Tr.ex_at ?_ (by with_reducible assumption)); k_allIn) | ((with_reducible refine Tr.ex_q ?_ (by with_reducible assumption)); k_allIn) | ((with_reducible refine Evl.ex_l ?_ (by with_reducible assumption)); k_allIn) | ((with_reducible refine Evl.ex_t ?_ (by with_reducible assumption)); k_allIn) | ((with_reducible refine Tr.typed_ex ?_ (by with_reducible assumption)); k_allIn) | ((with_reducible refine Tr.dp_ex ?_ (by with_reducible assumption)); k_allIn) | ((with_reducible apply L2.SqL.of); k_ownIn) | ((with_reducible apply L2.SqT.of); k_ownIn) | ((with_reducible apply Tr.q_of_l); k_ownIn) | ((with_reducible apply Tr.q_of_t); k_ownIn)))
local macro_rules | `(tactic| k_caughtB) => `(tactic| (first | with_reducible assumption | omega | (exact ⟨by omega, by omega⟩) | (exact Or.inr ⟨by omega, by omega⟩) | (exact Or.inl ⟨by omega, by omega⟩) | decide | (simp only [List.length_cons, List.length_nil, List.length_map, List.length_append, List.length_replicate, List.length_range] <;> omega)))
local macro_rules | `(tactic| k_caught0) => `(tactic| (first | with_reducible exact Tr.rv_addI | with_reducible exact Tr.rv_sub | ((with_reducible apply Tr.rv_mul); k_caughtB) | ((with_reducible apply Tr.rv_div); k_caughtB) | ((with_reducible apply Tr.rv_mod); k_caughtB) | with_reducible exact Tr.rv_lt | with_reducible exact Tr.rv_le | with_reducible exact Tr.rv_gt | with_reducible exact Tr.rv_ge | with_reducible exact Tr.rv_eqI | with_reducible exact Tr.rv_neI | with_reducible exact Tr.rv_isN | with_reducible exact Tr.rv_notN | with_reducible exact Tr.rv_and | with_reducible exact Tr.rv_or | ((with_reducible apply Tr.rv_shl); k_caughtB) | ((with_reducible apply Tr.rv_shr); k_caughtB) | ((with_reducible apply Tr.rv_pow); k_caughtB) | ((with_reducible apply Tr.rv_addS); k_caughtB) | ((with_reducible apply Tr.rv_eqV); exact rfl) | ((with_reducible apply Tr.rv_neV); exact rfl)))
local macro_rules | `(tactic| k_memK) => `(tactic| (first | ((with_reducible apply Evl.el_lst); k_offL; k_caughtB) | ((with_reducible apply Tr.el_cat); k_clsL; k_clsL; k_caughtB) | ((with_reducible apply Tr.el_listQ); k_places) | ((with_reducible apply Tr.el_slX); k_clsL; k_subL; k_subL)))
local macro_rules | `(tactic| k_clsL) => `(tactic| (first | ((with_reducible apply Tr.evs_new); k_memK) | ((with_reducible apply Tr.evs_of); k_subL; k_ownIn) | ((with_reducible apply Tr.evw_new); with_reducible apply Evl.eu_tup; k_offL; k_caughtB) | ((with_reducible apply Tr.evw_tuple); k_places) | ((with_reducible apply Tr.evw_of); k_subL; k_ownIn)))
local macro_rules | `(tactic| k_places) => `(tactic| (first | ((with_reducible apply Tr.evq_of); k_subL; k_ownIn) | ((with_reducible apply Tr.evq_s); k_clsL) | ((with_reducible apply Tr.evq_w); k_clsL)))
local macro_rules | `(tactic| k_offL) => `(tactic| (first | with_reducible exact Evl.ea_nil | ((with_reducible apply Evl.ea_cons); k_subL; k_offL)))
local macro_rules | `(tactic| k_subL) => `(tactic| (first | with_reducible assumption | with_reducible exact Evl.ev_c | ((with_reducible apply Evl.ev_var); exact rfl) | ((with_reducible apply Tr.ev_ix); k_places; (intro _ _; k_subL); k_caughtB) | ((with_reducible apply Evl.ev_op); k_subL; k_subL; k_caught0) | ((with_reducible apply Tr.ev_lenQ); k_places) | ((with_reducible apply Tr.ev_intB); k_subL) | ((with_reducible apply Tr.ev_intI); k_subL) | ((with_reducible apply Evl.ev_notV); k_subL) | ((with_reducible apply Tr.ev_sum); k_places) | with_reducible exact Evl.eo_none | ((with_reducible apply Evl.eo_some); k_subL)))
namespace Tr
open PySem L2 PySem.Spec PyProof.Rows Evl

section
variable {K : PySem.W.Frag} {σ : L2.St} {H H' : Hp} {ta tb te tc td ty tl : TE} {x y z v : V} {xs : List V} {D : Ends} {tu tz : TS} {g : TG} {a : Addr}
theorem ev_chain {i j k : Int} (ha : Ev ta σ H (.int i)) (hb : Ev tb σ H (.int j)) (hc : Ev tc σ H (.int k)) : Ev (tChain xLe xLe ta tb tc) σ H (.bl (decide (i ≤ j) && decide (j ≤ k))) := fun H1 e Q q =>
  ha H1 e _ fun H2 e2 => hb H2 (e.trans e2) _ fun H3 e3 => ⟨i, j, rfl, rfl, decide (i ≤ j), rfl, by
    cases hd : decide (i ≤ j) with
    | true => exact hc H3 ((e.trans e2).trans e3) _ fun H4 e4 => ⟨j, k, rfl, rfl, by rw [hd, Bool.true_and] at q; exact q H4 ((e2.trans e3).trans e4)⟩
    | false =>
      rw [hd, Bool.false_and] at q
      exact q H3 (e2.trans e3)⟩
theorem ev_din {kvs : List (Key × V)} {k : Key} (hk : Ev ty σ H (kV k)) (hd : Ev td σ H (.ref a)) (ha : H a = some (.dK kvs)) : Ev (tDIn ty td) σ H (.bl (valV kvs k).isSome) := fun H1 e Q q =>
  hk H1 e _ fun H2 e2 => hd H2 (e.trans e2) _ fun H3 e3 => ⟨a, valV kvs k, rfl, DGet.k (((e.trans e2).trans e3) a _ ha), q H3 (e2.trans e3)⟩
theorem ev_dnotin {kvs : List (Key × V)} {k : Key} (hk : Ev ty σ H (kV k)) (hd : Ev td σ H (.ref a)) (ha : H a = some (.dK kvs)) : Ev (tDNotIn ty td) σ H (.bl (!(valV kvs k).isSome)) := fun H1 e Q q =>
  hk H1 e _ fun H2 e2 => hd H2 (e.trans e2) _ fun H3 e3 => ⟨a, valV kvs k, rfl, DGet.k (((e.trans e2).trans e3) a _ ha), q H3 (e2.trans e3)⟩
theorem ev_dget {kvs : List (Key × V)} {k : Key} (hd : Ev td σ H (.ref a)) (hk : Ev ty σ H (kV k)) (ha : H a = some (.dK kvs)) (hv : valV kvs k = some v) : Ev (tDGet td ty) σ H v := fun H1 e Q q =>
  hd H1 e _ fun H2 e2 => hk H2 (e.trans e2) _ fun H3 e3 => ⟨a, v, rfl, by rw [← hv]; exact DGet.k (((e.trans e2).trans e3) a _ ha), q H3 (e2.trans e3)⟩
theorem s_dput {kvs : List (Key × V)} {k : Key} (hv : Ev te σ H v) (hd : Ev td σ H (.ref a)) (hk : Ev ty σ H (kV k)) (ha : H a = some (.dK kvs)) (hz : kvs.length < 100000) (q : ∀ H1, Ex H H1 → D.nx σ (upd H1 a (.dK (putK kvs k v)))) : sDPut td ty te D σ H :=
  hv H (Ex.refl H) _ fun H1 e1 => hd H1 e1 _ fun H2 e2 => hk H2 (e1.trans e2) _ fun H3 e3 => ⟨a, _, rfl, DPut.k (((e1.trans e2).trans e3) a _ ha) (sz_lt hz), q H3 ((e1.trans e2).trans e3)⟩
theorem s_asgD {i : Nat} (k : ∀ p, H p = none → D.nx (σ.set i (some (.ref p))) (upd H p (.dK []))) : tAsg tDNewK (gName i) D σ H := fun p hp => k p hp
theorem q_asgD {i : Nat} (k : ∀ p, H p = none → tz D (σ.set i (some (.ref p))) (upd H p (.dK []))) : tSeq (tAsg tDNewK (gName i)) tz D σ H := fun p hp => k p hp
/-- for x in e, e a list or a tuple at a name; H0: where it stood -/
theorem s_forQ {j : Nat} {b : Addr} {H0 : Hp} (hb : Ev tl σ H (.ref b)) (hq : SqQ K H0 b xs) (he : Ex H0 H) (Pv : Nat → L2.St → Hp → Prop) (h0 : ∀ H1, Ex H H1 → Pv 0 σ H1) (hl : ∀ i σ' H', Pv i σ' H' → Ex H0 H')
    (hs : ∀ i x σ' H', xs[i]? = some x → Pv i σ' H' → tu { D with nx := Pv (i + 1), ct := Pv (i + 1), bk := D.nx } (σ'.set j (some x)) H') (hd : ∀ σ' H', Pv xs.length σ' H' → D.nx σ' H') : tFor (iSeq K tl) (gName j) tu D σ H := by
  rcases hq with hq | hq
  · exact .inl (hb H (Ex.refl H) _ fun H1 e => ⟨b, rfl, ⟨xs, ex_l (he.trans e) hq⟩, for_list Pv (h0 H1 e) (fun i σ' H' _ p => ex_l (hl i σ' H' p) hq) (fun i x σ' H' hi p => hs i x σ' H' hi p) hd⟩)
  · exact .inr (hb H (Ex.refl H) _ fun H1 e => ⟨b, rfl, ⟨xs, ex_t (he.trans e) hq⟩, for_tup Pv (h0 H1 e) (fun i σ' H' _ p => ex_t (hl i σ' H' p) hq) (fun i x σ' H' hi p => hs i x σ' H' hi p) hd⟩)
/-- over a new list -/
theorem s_forN {j : Nat} (h : EvL tl σ H xs) (Pv : Addr → Nat → L2.St → Hp → Prop) (h0 : ∀ b H1, H b = none → Ex H H1 → H1 b = some (.lst xs) → Pv b 0 σ H1) (hl : ∀ b i σ' H', Pv b i σ' H' → H' b = some (.lst xs))
    (hs : ∀ b i x σ' H', xs[i]? = some x → Pv b i σ' H' → tu { D with nx := Pv b (i + 1), ct := Pv b (i + 1), bk := D.nx } (σ'.set j (some x)) H') (hd : ∀ b σ' H', Pv b xs.length σ' H' → D.nx σ' H') : tFor (iSeq K tl) (gName j) tu D σ H :=
  .inl (h H (Ex.refl H) _ fun b H1 hn e hb => ⟨b, rfl, ⟨xs, sq_of hb⟩, for_list (Pv b) (h0 b H1 hn e hb) (fun i σ' H' _ p => sq_of (hl b i σ' H' p)) (fun i x σ' H' hi p => hs b i x σ' H' hi p) (hd b)⟩)
/-- over a new tuple -/
theorem s_forU {j : Nat} (h : EvU tl σ H xs) (Pv : Addr → Nat → L2.St → Hp → Prop) (h0 : ∀ b H1, H b = none → Ex H H1 → H1 b = some (.tup xs) → Pv b 0 σ H1) (hl : ∀ b i σ' H', Pv b i σ' H' → H' b = some (.tup xs))
    (hs : ∀ b i x σ' H', xs[i]? = some x → Pv b i σ' H' → tu { D with nx := Pv b (i + 1), ct := Pv b (i + 1), bk := D.nx } (σ'.set j (some x)) H') (hd : ∀ b σ' H', Pv b xs.length σ' H' → D.nx σ' H') : tFor (iSeq K tl) (gName j) tu D σ H :=
  .inr (h H (Ex.refl H) _ fun b H1 hn e hb => ⟨b, rfl, ⟨xs, st_of hb⟩, for_tup (Pv b) (h0 b H1 hn e hb) (fun i σ' H' _ p => st_of (hl b i σ' H' p)) (fun i x σ' H' hi p => hs b i x σ' H' hi p) (hd b)⟩)
/-- the two items of a new pair go to two names -/
theorem g_two {p q : Nat} {T : Addr} {Q : L2.St → Hp → Prop} (k : Q ((σ.set p (some x)).set q (some y)) (upd H T (.tup [x, y]))) : gTup K 2 (gCons (gName p) (gCons (gName q) gNil)) (.ref T) σ (upd H T (.tup [x, y])) Q :=
  ⟨T, [x, y], rfl, SqT.of upd_same, rfl, x, [y], rfl, y, [], rfl, rfl, k⟩
theorem for_enumL {p q : Nat} (Pv : Nat → L2.St → Hp → Prop) (h0 : Pv 0 σ H) (hl : ∀ i σ' H', Pv i σ' H' → SqL K H' a xs)
    (hs : ∀ i x σ' H' H2, xs[i]? = some x → Pv i σ' H' → Ex H' H2 → tu { D with nx := Pv (i + 1), ct := Pv (i + 1), bk := D.nx } ((σ'.set p (some (.int (i : Int)))).set q (some x)) H2) (hd : ∀ σ' H', Pv xs.length σ' H' → D.nx σ' H') :
    ∃ W : Nat → Nat → L2.St → Hp → Prop, (∃ m, W 0 m σ H) ∧ ∀ i m σ H, W i m σ H → ((Ite K a).stop i H ∧ D.nx σ H) ∨ ((Ite K a).go i H ∧ ∃ Nx : L2.St → Hp → Prop, (∀ σ' H', Nx σ' H' → ∃ m', m' < m ∧ W (i + 1) m' σ' H') ∧
      ∀ x H', (Ite K a).yld i H x H' → gTup K 2 (gCons (gName p) (gCons (gName q) gNil)) x σ H' fun σ2 H2 => tu { D with nx := Nx, ct := Nx, bk := D.nx } σ2 H2) := by
  refine ⟨fun i m σ H => m + i = xs.length ∧ Pv i σ H, ⟨xs.length, by omega, h0⟩, ?_⟩
  rintro i m σ H ⟨hm, hp⟩
  have hq := hl i σ H hp
  by_cases hi : i < xs.length
  · refine .inr ⟨⟨xs, xs[i], hq, List.getElem?_eq_getElem hi⟩, Pv (i + 1), fun σ' H' p' => ⟨m - 1, by omega, by omega, p'⟩, ?_⟩
    rintro v H' ⟨T, y, rfl, hT, rfl, hy⟩
    exact g_two (hs i y σ H _ (hy xs hq) hp (Ex.new hT))
  · have e : i = xs.length := by omega
    subst e
    exact .inl ⟨⟨xs, hq, Nat.le_refl _⟩, hd σ H hp⟩
theorem for_enumT {p q : Nat} (Pv : Nat → L2.St → Hp → Prop) (h0 : Pv 0 σ H) (hl : ∀ i σ' H', Pv i σ' H' → SqT K H' a xs)
    (hs : ∀ i x σ' H' H2, xs[i]? = some x → Pv i σ' H' → Ex H' H2 → tu { D with nx := Pv (i + 1), ct := Pv (i + 1), bk := D.nx } ((σ'.set p (some (.int (i : Int)))).set q (some x)) H2) (hd : ∀ σ' H', Pv xs.length σ' H' → D.nx σ' H') :
    ∃ W : Nat → Nat → L2.St → Hp → Prop, (∃ m, W 0 m σ H) ∧ ∀ i m σ H, W i m σ H → ((ItU K a).stop i H ∧ D.nx σ H) ∨ ((ItU K a).go i H ∧ ∃ Nx : L2.St → Hp → Prop, (∀ σ' H', Nx σ' H' → ∃ m', m' < m ∧ W (i + 1) m' σ' H') ∧
      ∀ x H', (ItU K a).yld i H x H' → gTup K 2 (gCons (gName p) (gCons (gName q) gNil)) x σ H' fun σ2 H2 => tu { D with nx := Nx, ct := Nx, bk := D.nx } σ2 H2) := by
  refine ⟨fun i m σ H => m + i = xs.length ∧ Pv i σ H, ⟨xs.length, by omega, h0⟩, ?_⟩
  rintro i m σ H ⟨hm, hp⟩
  have hq := hl i σ H hp
  by_cases hi : i < xs.length
  · refine .inr ⟨⟨xs, xs[i], hq, List.getElem?_eq_getElem hi⟩, Pv (i + 1), fun σ' H' p' => ⟨m - 1, by omega, by omega, p'⟩, ?_⟩
    rintro v H' ⟨T, y, rfl, hT, rfl, hy⟩
    exact g_two (hs i y σ H _ (hy xs hq) hp (Ex.new hT))
  · have e : i = xs.length := by omega
    subst e
    exact .inl ⟨⟨xs, hq, Nat.le_refl _⟩, hd σ H hp⟩
/-- for i, x in enumerate(e), e a list or a tuple at a name; H0: where it stood -/
theorem s_enumQ {p q : Nat} {H0 : Hp} (h : Ev tl σ H (.ref a)) (hq : SqQ K H0 a xs) (he : Ex H0 H) (Pv : Nat → L2.St → Hp → Prop) (h0 : ∀ H1, Ex H H1 → Pv 0 σ H1) (hl : ∀ i σ' H', Pv i σ' H' → Ex H0 H')
    (hs : ∀ i x σ' H' H2, xs[i]? = some x → Pv i σ' H' → Ex H' H2 → tu { D with nx := Pv (i + 1), ct := Pv (i + 1), bk := D.nx } ((σ'.set p (some (.int (i : Int)))).set q (some x)) H2)
    (hd : ∀ σ' H', Pv xs.length σ' H' → D.nx σ' H') : tFor (iEnumQ K (tCons tl tNil)) (gTup K 2 (gCons (gName p) (gCons (gName q) gNil))) tu D σ H := by
  rcases hq with hq | hq
  · exact .inl (h H (Ex.refl H) _ fun H1 e => ⟨a, xs, rfl, ex_l (he.trans e) hq, for_enumL Pv (h0 H1 e) (fun i σ' H' p => ex_l (hl i σ' H' p) hq) hs hd⟩)
  · exact .inr (h H (Ex.refl H) _ fun H1 e => ⟨a, xs, rfl, ex_t (he.trans e) hq, for_enumT Pv (h0 H1 e) (fun i σ' H' p => ex_t (hl i σ' H' p) hq) hs hd⟩)
/-- .. over a new list -/
theorem s_enumN {p q : Nat} (h : EvL tl σ H xs) (Pv : Addr → Nat → L2.St → Hp → Prop) (h0 : ∀ b H1, H b = none → Ex H H1 → H1 b = some (.lst xs) → Pv b 0 σ H1) (hl : ∀ b i σ' H', Pv b i σ' H' → H' b = some (.lst xs))
    (hs : ∀ b i x σ' H' H2, xs[i]? = some x → Pv b i σ' H' → Ex H' H2 → tu { D with nx := Pv b (i + 1), ct := Pv b (i + 1), bk := D.nx } ((σ'.set p (some (.int (i : Int)))).set q (some x)) H2)
    (hd : ∀ b σ' H', Pv b xs.length σ' H' → D.nx σ' H') : tFor (iEnumQ K (tCons tl tNil)) (gTup K 2 (gCons (gName p) (gCons (gName q) gNil))) tu D σ H :=
  .inl (h H (Ex.refl H) _ fun b H1 hn e hb => ⟨b, xs, rfl, sq_of hb, for_enumL (Pv b) (h0 b H1 hn e hb) (fun i σ' H' p => sq_of (hl b i σ' H' p)) (hs b) (hd b)⟩)
/-- the same, something behind -/
theorem q_forQ {j : Nat} {b : Addr} {H0 : Hp} (hb : Ev tl σ H (.ref b)) (hq : SqQ K H0 b xs) (he : Ex H0 H) (Pv : Nat → L2.St → Hp → Prop) (h0 : ∀ H1, Ex H H1 → Pv 0 σ H1) (hl : ∀ i σ' H', Pv i σ' H' → Ex H0 H')
    (hs : ∀ i x σ' H', xs[i]? = some x → Pv i σ' H' → tu { D with nx := Pv (i + 1), ct := Pv (i + 1), bk := tz D } (σ'.set j (some x)) H') (hd : ∀ σ' H', Pv xs.length σ' H' → tz D σ' H') : tSeq (tFor (iSeq K tl) (gName j) tu) tz D σ H :=
  s_forQ (D := { D with nx := tz D }) hb hq he Pv h0 hl hs hd
theorem q_forN {j : Nat} (h : EvL tl σ H xs) (Pv : Addr → Nat → L2.St → Hp → Prop) (h0 : ∀ b H1, H b = none → Ex H H1 → H1 b = some (.lst xs) → Pv b 0 σ H1) (hl : ∀ b i σ' H', Pv b i σ' H' → H' b = some (.lst xs))
    (hs : ∀ b i x σ' H', xs[i]? = some x → Pv b i σ' H' → tu { D with nx := Pv b (i + 1), ct := Pv b (i + 1), bk := tz D } (σ'.set j (some x)) H') (hd : ∀ b σ' H', Pv b xs.length σ' H' → tz D σ' H') : tSeq (tFor (iSeq K tl) (gName j) tu) tz D σ H :=
  s_forN (D := { D with nx := tz D }) h Pv h0 hl hs hd
theorem q_forU {j : Nat} (h : EvU tl σ H xs) (Pv : Addr → Nat → L2.St → Hp → Prop) (h0 : ∀ b H1, H b = none → Ex H H1 → H1 b = some (.tup xs) → Pv b 0 σ H1) (hl : ∀ b i σ' H', Pv b i σ' H' → H' b = some (.tup xs))
    (hs : ∀ b i x σ' H', xs[i]? = some x → Pv b i σ' H' → tu { D with nx := Pv b (i + 1), ct := Pv b (i + 1), bk := tz D } (σ'.set j (some x)) H') (hd : ∀ b σ' H', Pv b xs.length σ' H' → tz D σ' H') : tSeq (tFor (iSeq K tl) (gName j) tu) tz D σ H :=
  s_forU (D := { D with nx := tz D }) h Pv h0 hl hs hd
theorem q_enumQ {p q : Nat} {H0 : Hp} (h : Ev tl σ H (.ref a)) (hq : SqQ K H0 a xs) (he : Ex H0 H) (Pv : Nat → L2.St → Hp → Prop) (h0 : ∀ H1, Ex H H1 → Pv 0 σ H1) (hl : ∀ i σ' H', Pv i σ' H' → Ex H0 H')
    (hs : ∀ i x σ' H' H2, xs[i]? = some x → Pv i σ' H' → Ex H' H2 → tu { D with nx := Pv (i + 1), ct := Pv (i + 1), bk := tz D } ((σ'.set p (some (.int (i : Int)))).set q (some x)) H2)
    (hd : ∀ σ' H', Pv xs.length σ' H' → tz D σ' H') : tSeq (tFor (iEnumQ K (tCons tl tNil)) (gTup K 2 (gCons (gName p) (gCons (gName q) gNil))) tu) tz D σ H :=
  s_enumQ (D := { D with nx := tz D }) h hq he Pv h0 hl hs hd
theorem q_enumN {p q : Nat} (h : EvL tl σ H xs) (Pv : Addr → Nat → L2.St → Hp → Prop) (h0 : ∀ b H1, H b = none → Ex H H1 → H1 b = some (.lst xs) → Pv b 0 σ H1) (hl : ∀ b i σ' H', Pv b i σ' H' → H' b = some (.lst xs))
    (hs : ∀ b i x σ' H' H2, xs[i]? = some x → Pv b i σ' H' → Ex H' H2 → tu { D with nx := Pv b (i + 1), ct := Pv b (i + 1), bk := tz D } ((σ'.set p (some (.int (i : Int)))).set q (some x)) H2)
    (hd : ∀ b σ' H', Pv b xs.length σ' H' → tz D σ' H') : tSeq (tFor (iEnumQ K (tCons tl tNil)) (gTup K 2 (gCons (gName p) (gCons (gName q) gNil))) tu) tz D σ H :=
  s_enumN (D := { D with nx := tz D }) h Pv h0 hl hs hd
end
/-- a promise that raises -/
def RetE (C : Addr) (H : Hp) (E : XK) : Prop := ∀ H', Ex H H' → E (.ref C) none H'
/-- a promise of known data -/
def RetD (K : PySem.W.Frag) (d : PyData) (H : Hp) (Q : VK) : Prop := ∀ v H', Ex H H' → Dp K H' v d → Q v H'
end Tr

/-! Rows: what is drawn, what is refused, who clashes: the mathematics' words, the promises, the readings. -/
namespace Tr
open PySem L2 PySem.Spec PyProof.Rows Evl

/-! ### words -/
def mixed (a k : Int) : Int :=
  (a + 7919 * k) * 48271 % 2147483647 * ((a + 7919 * k) * 48271 % 2147483647 + 2 * k + 1) % 2147483629
theorem mixed_lo (a k : Int) : 0 ≤ mixed a k := Int.emod_nonneg _ (by decide)
theorem mixed_hi (a k : Int) : mixed a k < 2147483629 := Int.emod_lt_of_pos _ (by decide)
def gi (ns : List Int) (i : Int) : Int := ns.getD i.toNat 0
theorem atI_ints {ns : List Int} {i : Int} (h0 : 0 ≤ i) (h1 : i < ns.length) : atI (ns.map V.int) i = some (.int (gi ns i)) := by
  unfold atI ixN gi
  have hn : i.toNat < ns.length := by omega
  rw [if_pos h0, List.length_map, if_pos h1, Option.bind_some, List.getElem?_map, List.getD_eq_getElem?_getD, List.getElem?_eq_getElem hn]
  rfl
theorem at3 {x y z : Int} {i : Int} (h0 : 0 ≤ i) (h1 : i < 3) : atI [V.int x, V.int y, V.int z] i = some (.int (if i = 0 then x else if i = 1 then y else z)) := by
  rcases (show i = 0 ∨ i = 1 ∨ i = 2 by omega) with rfl | rfl | rfl <;> rfl
def pick3 (x y z i : Int) : Int := if i = 0 then x else if i = 1 then y else z
def anyF (cell many : Int) : List Int := (List.range many.toNat).map fun (k : Nat) => mixed cell (k : Int) % pick3 10 4 10 (cell % 3)
def longF (cell : Int) : Int := pick3 (1 + cell / 10 % 9) (1 + cell / 10 % 40) 3 (cell % 3)
/-- one exchange, where both heights stay within -/
def exch (ns : List Int) (one other : Int) : List Int :=
  let h1 := other - one + gi ns other
  let h2 := gi ns one - other + one
  if (0 ≤ h1 ∧ 0 ≤ h2) ∧ (h1 < 10 ∧ h2 < 10) then (ns.set one.toNat h1).set other.toNat h2 else ns
def exchD (ns : List Int) (draw : Int) : List Int :=
  let a := draw % ns.length
  let b := (a + 1 + draw / 64 % (ns.length - 1)) % ns.length
  if a > b then exch ns b a else exch ns a b
def mixedUp (ns : List Int) (cell : Int) (n : Nat) : List Int := (List.range n).foldl (fun r (k : Nat) => exchD r (mixed cell (k : Int))) ns
def turns2 (m : Nat) : Nat := if m > 1 then 2 * m else 0
def goStep (cell : Int) (r : List Int) (k : Int) : List Int :=
  let m := mixedUp r (mixed cell (50 + k)) (turns2 r.length)
  let b := (mixed cell (60 + k) % r.length).toNat
  m.drop b ++ m.take b
def going (cell many : Int) : List Int := goStep cell (goStep cell (List.replicate many.toNat (cell % 10)) 0) 1
/-- where the throw of a turn lands -/
def place (ns : List Int) (t : Nat) : Int := ((t : Int) + ns.getD t 0) % ns.length
def clashF (ns : List Int) : Option (Nat × Nat) := (List.range ns.length).findSome? fun j => ((List.range j).find? fun i => decide (place ns i = place ns j)).map fun i => (i, j)
def dPair : Option (Nat × Nat) → PyData
  | none => .none
  | some (i, j) => .tuple [.int i, .int j]
def Good (ns : List Int) : Prop := 1 ≤ ns.length ∧ ns.length ≤ 40 ∧ ∀ i ∈ ns, 0 ≤ i ∧ i ≤ 9
/-- what is no row -/
def Bad (K : PySem.W.Frag) (H : Hp) (x : V) : Prop := (∃ T, TyX K H x (.type T) ∧ kitB T "list" = some false ∧ kitB T "tuple" = some false) ∨
  ∃ a xs, x = .ref a ∧ SqQ K H a xs ∧ (∀ y ∈ xs, Typed K H y) ∧ ¬ (1 ≤ xs.length ∧ xs.length ≤ 40 ∧ xs.all hgtV = true)
def Row (K : PySem.W.Frag) (H : Hp) (x : V) (ns : List Int) : Prop := ∃ a, x = .ref a ∧ SqQ K H a (ns.map V.int)
theorem bad_ex {K : PySem.W.Frag} {H H' : Hp} {x : V} (e : Ex H H') (h : Bad K H x) : Bad K H' x := by
  rcases h with ⟨T, t, h⟩ | ⟨a, xs, rfl, hq, ht, h⟩
  · exact .inl ⟨T, tyx_ex e t, h⟩
  · exact .inr ⟨a, xs, rfl, ex_q e hq, fun y hy => typed_ex e (ht y hy), h⟩
theorem row_ex {K : PySem.W.Frag} {H H' : Hp} {x : V} {ns : List Int} (e : Ex H H') (h : Row K H x ns) : Row K H' x ns := let ⟨a, ea, hq⟩ := h; ⟨a, ea, ex_q e hq⟩

/-! ### promises -/
def sp_is_number (K : PySem.W.Frag) (c : Cs) : Sp := fun vs H Q _ => ∃ x, vs = [x] ∧ Typed K H x ∧ RetV (.bl (numV x)) H Q
def sp_is_height (K : PySem.W.Frag) (c : Cs) : Sp := fun vs H Q _ => ∃ x, vs = [x] ∧ Typed K H x ∧ RetV (.bl (hgtV x)) H Q
def sp_need_row (K : PySem.W.Frag) (c : Cs) : Sp := fun vs H Q E => ∃ x, vs = [x] ∧ ((Bad K H x ∧ RetE c.norow H E) ∨ ∃ ns, Row K H x ns ∧ Good ns ∧ RetV .non H Q)
def sp_clash (K : PySem.W.Frag) (c : Cs) : Sp := fun vs H Q E => ∃ x, vs = [x] ∧ ((Bad K H x ∧ RetE c.norow H E) ∨ ∃ ns, Row K H x ns ∧ Good ns ∧ RetD K (dPair (clashF ns)) H Q)
def sp_l_mixed (K : PySem.W.Frag) (c : Cs) : Sp := fun vs H Q _ => ∃ a k, vs = [.int a, .int k] ∧ RetV (.int (mixed a k)) H Q
def sp_l_long (K : PySem.W.Frag) (c : Cs) : Sp := fun vs H Q _ => ∃ a, vs = [.int a] ∧ RetV (.int (longF a)) H Q
def sp_l_cell_at (K : PySem.W.Frag) (c : Cs) : Sp := fun vs H Q _ => ∃ (a : Addr) (ns : List Int) (k : Int), vs = [.ref a, .int k] ∧ SqL K H a (ns.map V.int) ∧ 0 ≤ k ∧ RetV (.int (mixed (gi ns k) k)) H Q
def sp_l_any (K : PySem.W.Frag) (c : Cs) : Sp := fun vs H Q _ => ∃ a m : Int, vs = [.int a, .int m] ∧ 0 ≤ m ∧ m ≤ 1000 ∧ RetL ((anyF a m).map V.int) H Q
def sp_l_mixed_up (K : PySem.W.Frag) (c : Cs) : Sp := fun vs H Q _ => ∃ (p : Addr) (ns : List Int) (a : Int), vs = [.ref p, .int a] ∧ H p = some (.lst (ns.map V.int)) ∧ 1 ≤ ns.length ∧ ns.length ≤ 1000 ∧
  ∀ H', (∀ b o, b ≠ p → H b = some o → H' b = some o) → H' p = some (.lst ((mixedUp ns a (turns2 ns.length)).map V.int)) → Q .non H'
def sp_l_going (K : PySem.W.Frag) (c : Cs) : Sp := fun vs H Q _ => ∃ a m : Int, vs = [.int a, .int m] ∧ 1 ≤ m ∧ m ≤ 1000 ∧ RetL ((going a m).map V.int) H Q
section
variable {K : PySem.W.Frag} {c : Cs} {E : XK} {σ : L2.St} {H : Hp} {ta tb : TE}
theorem ev_l_mixed {a k : Int} (ha : Ev ta σ H (.int a)) (hb : Ev tb σ H (.int k)) : Ev (tCall (sp_l_mixed K c) [] E (tCons ta (tCons tb tNil))) σ H (.int (mixed a k)) :=
  ev_call (ea_cons ha (ea_cons hb ea_nil)) fun H1 _ Q q _ => ⟨a, k, rfl, q⟩
theorem ev_l_long {a : Int} (ha : Ev ta σ H (.int a)) : Ev (tCall (sp_l_long K c) [] E (tCons ta tNil)) σ H (.int (longF a)) :=
  ev_call (ea_cons ha ea_nil) fun H1 _ Q q _ => ⟨a, rfl, q⟩
theorem ev_l_cell_at {a : Addr} {ns : List Int} {k : Int} (ha : Ev ta σ H (.ref a)) (hb : Ev tb σ H (.int k)) (hs : SqL K H a (ns.map V.int)) (hk : 0 ≤ k) : Ev (tCall (sp_l_cell_at K c) [] E (tCons ta (tCons tb tNil))) σ H (.int (mixed (gi ns k) k)) :=
  ev_call (ea_cons ha (ea_cons hb ea_nil)) fun H1 e Q q _ => ⟨a, ns, k, rfl, ex_l e hs, hk, q⟩
theorem ev_is_number {x : V} (ha : Ev ta σ H x) (ht : Typed K H x) : Ev (tCall (sp_is_number K c) [] E (tCons ta tNil)) σ H (.bl (numV x)) :=
  ev_call (ea_cons ha ea_nil) fun H1 e Q q _ => ⟨x, rfl, typed_ex e ht, q⟩
theorem ev_is_height {x : V} (ha : Ev ta σ H x) (ht : Typed K H x) : Ev (tCall (sp_is_height K c) [] E (tCons ta tNil)) σ H (.bl (hgtV x)) :=
  ev_call (ea_cons ha ea_nil) fun H1 e Q q _ => ⟨x, rfl, typed_ex e ht, q⟩
theorem el_l_any {a m : Int} (ha : Ev ta σ H (.int a)) (hb : Ev tb σ H (.int m)) (h0 : 0 ≤ m) (h1 : m ≤ 1000) : EvL (tCall (sp_l_any K c) [] E (tCons ta (tCons tb tNil))) σ H ((anyF a m).map V.int) :=
  el_call (ea_cons ha (ea_cons hb ea_nil)) fun H1 e Q q _ => ⟨a, m, rfl, h0, h1, q⟩
theorem el_l_going {a m : Int} (ha : Ev ta σ H (.int a)) (hb : Ev tb σ H (.int m)) (h0 : 1 ≤ m) (h1 : m ≤ 1000) : EvL (tCall (sp_l_going K c) [] E (tCons ta (tCons tb tNil))) σ H ((going a m).map V.int) :=
  el_call (ea_cons ha (ea_cons hb ea_nil)) fun H1 e Q q _ => ⟨a, m, rfl, h0, h1, q⟩
theorem evd_clash {ns : List Int} (ha : EvQ K ta σ H (ns.map V.int)) (hg : Good ns) : EvD K (tCall (sp_clash K c) [] E (tCons ta tNil)) σ H (dPair (clashF ns)) := fun H1 e Q q =>
  ha H1 e _ fun a H2 e2 hq => ⟨.ref a, rfl, .inr ⟨ns, ⟨a, rfl, hq⟩, hg, fun v H' e3 hd => q v H' (e2.trans e3) hd⟩⟩
end
/-- is_number: slots thing -/
def t_is_number (K : PySem.W.Frag) (c : Cs) (E : XK) : TS :=
  (tRet (tAndV (tCB (cIsi K) (tCons (tVar 0) (tCons (tC (.ty "int")) tNil))) (tNotV (tCB (cIsi K) (tCons (tVar 0) (tCons (tC (.ty "bool")) tNil))))))

/-- is_height: slots thing -/
def t_is_height (K : PySem.W.Frag) (c : Cs) (E : XK) : TS :=
  (tRet (tAndV (tCall (sp_is_number K c) [] E0 (tCons (tVar 0) tNil)) (tChain xLe xLe (tC (.int 0)) (tVar 0) (tC (.int 9)))))

/-- need_row: slots thing, height -/
def t_need_row (K : PySem.W.Frag) (c : Cs) (E : XK) : TS :=
  (tSeq (tIfS (tOr (tNot (tB (tCB (cIsi K) (tCons (tVar 0) (tCons (tTup (tCons (tC (.ty "list")) (tCons (tC (.ty "tuple")) tNil))) tNil))))) (tNot (tTest (tChain xLe xLe (tC (.int 1)) (tCB (cLen K) (tCons (tVar 0) tNil)) (tC (.int 40)))))) (fun _ σ H => (fun cls d _ H => E cls d H) (.ref c.norow) none σ H) tNext)
  (tFor (iSeq K (tVar 0)) (gName 1) (tIfS (tNot (tB (tCall (sp_is_height K c) [] E0 (tCons (tVar 1) tNil)))) (fun _ σ H => (fun cls d _ H => E cls d H) (.ref c.norow) none σ H) tNext)))

/-- clash: slots row, met, turn, height, place -/
def t_clash (K : PySem.W.Frag) (c : Cs) (E : XK) : TS :=
  (tSeq (tDrop (tCall (sp_need_row K c) [] E (tCons (tVar 0) tNil)))
  (tSeq (tAsg tDNewK (gName 1))
  (tSeq (tFor (iEnumQ K (tCons (tVar 0) tNil)) (gTup K 2 (gCons (gName 2) (gCons (gName 3) gNil))) (tSeq (tAsg (tOp xMod (tOp (xAdd K) (tVar 2) (tVar 3)) (tCB (cLen K) (tCons (tVar 0) tNil))) (gName 4))
  (tSeq (tIfS (tB (tDIn (tVar 4) (tVar 1))) (tRet (tTup (tCons (tDGet (tVar 1) (tVar 4)) (tCons (tVar 2) tNil)))) tNext)
  (sDPut (tVar 1) (tVar 4) (tVar 2)))))
  (tRet (tC .non)))))

/-- _law_mixed: slots _law_cell, _law_k, _law_drawn -/
def t_l_mixed (K : PySem.W.Frag) (c : Cs) (E : XK) : TS :=
  (tSeq (tAsg (tOp xMod (tOp (xMul K) (tOp (xAdd K) (tVar 0) (tOp (xMul K) (tC (.int 7919)) (tVar 1))) (tC (.int 48271))) (tC (.int 2147483647))) (gName 2))
  (tRet (tOp xMod (tOp (xMul K) (tVar 2) (tOp (xAdd K) (tOp (xAdd K) (tVar 2) (tOp (xMul K) (tC (.int 2)) (tVar 1))) (tC (.int 1)))) (tC (.int 2147483629)))))

/-- _law_cell_at: slots _law_script, _law_k -/
def t_l_cell_at (K : PySem.W.Frag) (c : Cs) (E : XK) : TS :=
  (tSeq (tIfS (tTest (tOp xLt (tVar 1) (tCB (cLen K) (tCons (tVar 0) tNil)))) (tRet (tCall (sp_l_mixed K c) [] E0 (tCons (tOp (rIx K) (tVar 0) (tVar 1)) (tCons (tVar 1) tNil)))) tNext)
  (tRet (tCall (sp_l_mixed K c) [] E0 (tCons (tC (.int 0)) (tCons (tVar 1) tNil)))))

/-- _law_any: slots _law_cell, _law_many, _law_k -/
def t_l_any (K : PySem.W.Frag) (c : Cs) (E : XK) : TS :=
  (tRet (tLc (iRng1 (tCons (tVar 1) tNil)) (gName 2) tYes (tOp xMod (tCall (sp_l_mixed K c) [] E0 (tCons (tVar 0) (tCons (tVar 2) tNil))) (tOp (rIx K) (tLst (tCons (tC (.int 10)) (tCons (tC (.int 4)) (tCons (tC (.int 10)) tNil)))) (tOp xMod (tVar 0) (tC (.int 3))))) [2]))

/-- _law_mixed_up: slots _law_row, _law_cell, _law_many, _law_k, _law_draw, _law_one, _law_other, _law_heights -/
def t_l_mixed_up (K : PySem.W.Frag) (c : Cs) (E : XK) : TS :=
  (tSeq (tAsg (tCB (cLen K) (tCons (tVar 0) tNil)) (gName 2))
  (tFor (iRng1 (tCons (tOp (xMul K) (tOp (xMul K) (tC (.int 2)) (tVar 2)) (tCB cInt (tCons (tOp xGt (tVar 2) (tC (.int 1))) tNil))) tNil)) (gName 3) (tSeq (tAsg (tCall (sp_l_mixed K c) [] E0 (tCons (tVar 1) (tCons (tVar 3) tNil))) (gName 4))
  (tSeq (tAsg (tOp xMod (tVar 4) (tVar 2)) (gName 5))
  (tSeq (tAsg (tOp xMod (tOp (xAdd K) (tOp (xAdd K) (tVar 5) (tC (.int 1))) (tOp xMod (tOp xDiv (tVar 4) (tC (.int 64))) (tOp xSub (tVar 2) (tC (.int 1))))) (tVar 2)) (gName 6))
  (tSeq (tIfS (tTest (tOp xGt (tVar 5) (tVar 6))) (tPar 5 6 (tCons (tVar 6) (tCons (tVar 5) tNil))) tNext)
  (tSeq (tAsg (tTup (tCons (tOp (xAdd K) (tOp xSub (tVar 6) (tVar 5)) (tOp (rIx K) (tVar 0) (tVar 6))) (tCons (tOp (xAdd K) (tOp xSub (tOp (rIx K) (tVar 0) (tVar 5)) (tVar 6)) (tVar 5)) tNil))) (gName 7))
  (tIfS (tAnd (tTest (tOp xLe (tC (.int 0)) (tCB (cMin K) (tCons (tVar 7) tNil)))) (tTest (tOp xLt (tCB (cMax K) (tCons (tVar 7) tNil)) (tC (.int 10))))) (tAsg (tVar 7) (gTup K 2 (gCons (gSub (tVar 0) (tVar 5) rSetL) (gCons (gSub (tVar 0) (tVar 6) rSetL) gNil)))) tNext))))))))

/-- _law_going: slots _law_cell, _law_many, _law_row, _law_k, _law_by -/
def t_l_going (K : PySem.W.Frag) (c : Cs) (E : XK) : TS :=
  (tSeq (tAsg (tOp (xMul K) (tLst (tCons (tOp xMod (tVar 0) (tC (.int 10))) tNil)) (tVar 1)) (gName 2))
  (tSeq (tFor (iRng1 (tCons (tC (.int 2)) tNil)) (gName 3) (tSeq (tDrop (tCall (sp_l_mixed_up K c) [] E0 (tCons (tVar 2) (tCons (tCall (sp_l_mixed K c) [] E0 (tCons (tVar 0) (tCons (tOp (xAdd K) (tC (.int 50)) (tVar 3)) tNil))) tNil))))
  (tSeq (tAsg (tOp xMod (tCall (sp_l_mixed K c) [] E0 (tCons (tVar 0) (tCons (tOp (xAdd K) (tC (.int 60)) (tVar 3)) tNil))) (tVar 1)) (gName 4))
  (tAsg (tOp (xAdd K) (tSl (xSl K) (tVar 2) (tPart (tVar 4)) tNoPart) (tSl (xSl K) (tVar 2) tNoPart (tPart (tVar 4)))) (gName 2)))))
  (tRet (tVar 2))))

/-- _law_long: slots _law_cell -/
def t_l_long (K : PySem.W.Frag) (c : Cs) (E : XK) : TS :=
  (tRet (tOp (rIx K) (tLst (tCons (tOp (xAdd K) (tC (.int 1)) (tOp xMod (tOp xDiv (tVar 0) (tC (.int 10))) (tC (.int 9)))) (tCons (tOp (xAdd K) (tC (.int 1)) (tOp xMod (tOp xDiv (tVar 0) (tC (.int 10))) (tC (.int 40)))) (tCons (tC (.int 3)) tNil)))) (tOp xMod (tVar 0) (tC (.int 3)))))

section
variable {K : PySem.W.Frag} {c : Cs} {vs : List V} {H : Hp} {Q : VK} {E : XK}
theorem pure_is_number (h : sp_is_number K c vs H Q E) : t_is_number K c E { nx := fun _ H' => Q .non H', rt := Q } (start ["thing"] vs) H := by
  obtain ⟨x, rfl, ht, k⟩ := h
  refine s_ret (v := .bl (numV x)) ?_ fun H1 e => k H1 e
  have h1 : Ev (tVar 0) (start ["thing"] [x]) H x := ev_var rfl
  refine ev_is (ev_andV (ev_isInt h1 ht) fun hb => ev_notV (ev_isBool h1 hb)) ?_
  cases x <;> rfl
theorem pure_is_height (h : sp_is_height K c vs H Q E) : t_is_height K c E { nx := fun _ H' => Q .non H', rt := Q } (start ["thing"] vs) H := by
  obtain ⟨x, rfl, ht, k⟩ := h
  refine s_ret (v := .bl (hgtV x)) ?_ fun H1 e => k H1 e
  have h1 : Ev (tVar 0) (start ["thing"] [x]) H x := ev_var rfl
  cases x with
  | int i => exact ev_is (ev_andV (ev_is_number h1 ht) fun hb => ev_chain (by k_subL) h1 (by k_subL)) rfl
  | _ => exact ev_is (ev_andV (b := true) (ev_is_number h1 ht) fun hb => absurd hb Bool.false_ne_true) rfl
theorem pure_l_mixed (h : sp_l_mixed K c vs H Q E) : t_l_mixed K c E { nx := fun _ H' => Q .non H', rt := Q } (start ["_law_cell", "_law_k", "_law_drawn"] vs) H := by
  obtain ⟨a, k, rfl, q⟩ := h
  apply q_asg
  k_subL
  intro H1 e1
  have hd : 0 ≤ (a + 7919 * k) * 48271 % 2147483647 ∧ (a + 7919 * k) * 48271 % 2147483647 < 2147483647 := ⟨Int.emod_nonneg _ (by decide), Int.emod_lt_of_pos _ (by decide)⟩
  apply s_ret
  k_subL
  intro H2 e2
  exact q H2 (by k_allIn)
theorem pure_l_long (h : sp_l_long K c vs H Q E) : t_l_long K c E { nx := fun _ H' => Q .non H', rt := Q } (start ["_law_cell"] vs) H := by
  obtain ⟨a, rfl, q⟩ := h
  have hm : 0 ≤ a % 3 ∧ a % 3 < 3 := ⟨Int.emod_nonneg _ (by decide), Int.emod_lt_of_pos _ (by decide)⟩
  have h3 := at3 (x := 1 + a / 10 % 9) (y := 1 + a / 10 % 40) (z := 3) hm.1 hm.2
  apply s_ret
  k_subL
  intro H2 e2
  exact q H2 (by k_allIn)
theorem pure_l_cell_at (h : sp_l_cell_at K c vs H Q E) : t_l_cell_at K c E { nx := fun _ H' => Q .non H', rt := Q } (start ["_law_script", "_law_k"] vs) H := by
  obtain ⟨a, ns, k, rfl, hs, hk, q⟩ := h
  have hlen : ((ns.map V.int).length : Int) = ns.length := by rw [List.length_map]
  refine q_when (b := decide (k < ((ns.map V.int).length : Int))) (et_test (by k_subL)) (fun hb H1 e1 => ?_) fun hb H1 e1 => ?_
  · have hlt : k < ns.length := by
      rw [hlen] at hb
      exact of_decide_eq_true hb
    have hat := atI_ints hk hlt
    refine s_ret (ev_l_mixed (a := gi ns k) (k := k) (by k_subL) (by k_subL)) fun H2 e2 => q H2 (by k_allIn)
  · have hge : ¬ k < ns.length := by
      rw [hlen] at hb
      exact of_decide_eq_false hb
    have h0 : gi ns k = 0 := by
      unfold gi
      rw [List.getD_eq_getElem?_getD, List.getElem?_eq_none (by omega)]
      rfl
    rw [h0] at q
    exact s_ret (ev_l_mixed (a := 0) (k := k) (by k_subL) (by k_subL)) fun H2 e2 => q H2 (by k_allIn)
/-- of a sequence that stands at a, its items known or not: need_row -/
theorem pure_need_row (h : sp_need_row K c vs H Q E) : t_need_row K c E { nx := fun _ H' => Q .non H', rt := Q } (start ["thing", "height"] vs) H := by
  obtain ⟨x, rfl, h⟩ := h
  have hx : ∀ H1, Ev (tVar 0) (start ["thing", "height"] [x]) H1 x := fun H1 => ev_var rfl
  -- a sequence, whatever its items
  have key : ∀ (a : Addr) (xs : List V), x = .ref a → SqQ K H a xs → (∀ y ∈ xs, Typed K H y) → ((1 ≤ xs.length ∧ xs.length ≤ 40 ∧ xs.all hgtV = true) → RetV .non H Q) → (¬ (1 ≤ xs.length ∧ xs.length ≤ 40 ∧ xs.all hgtV = true) → RetE c.norow H E) →
      t_need_row K c E { nx := fun _ H' => Q .non H', rt := Q } (start ["thing", "height"] [x]) H := by
    rintro a xs rfl hq hty hgood hbad
    have hlen : Ev (tCB (cLen K) (tCons (tVar 0) tNil)) (start ["thing", "height"] [V.ref a]) H (.int (xs.length : Int)) := ev_lenQ (evq_of (hx H) hq)
    have hisi : Ev (tCB (cIsi K) (tCons (tVar 0) (tCons (tTup (tCons (tC (.ty "list")) (tCons (tC (.ty "tuple")) tNil))) tNil))) (start ["thing", "height"] [V.ref a]) H (.bl true) := by
      rcases hq with hq | hq
      · exact ev_isi2 (hx H) (tyx_l hq) (kitAny_cons (b := true) (kit_ty (by decide +kernel)) (fun z => nomatch z) fun _ => rfl)
      · exact ev_isi2 (hx H) (tyx_t hq) (kitAny_cons (b := false) (kit_ty (by decide +kernel)) (fun _ => kitAny_cons (b := true) (kit_ty (by decide +kernel)) (fun z => nomatch z) fun _ => rfl) fun z => nomatch z)
    refine q_when (et_or (et_not (et_B hisi)) fun _ => et_not (et_test (ev_chain (by k_subL) hlen (by k_subL)))) (fun hb H1 e1 => ?_) fun hb H1 e1 => ?_
    · refine hbad (fun z => ?_) H1 e1
      have h1 : decide ((1 : Int) ≤ (xs.length : Int)) = true := decide_eq_true (by omega)
      have h2 : decide ((xs.length : Int) ≤ 40) = true := decide_eq_true (by omega)
      rw [h1, h2] at hb
      exact absurd hb (by decide)
    · have hl : 1 ≤ xs.length ∧ xs.length ≤ 40 := by
        simp only [Bool.not_true, Bool.false_or, Bool.not_eq_false', Bool.and_eq_true, decide_eq_true_eq] at hb
        omega
      refine s_forQ (hx H1) hq e1 (fun i σ' H' => Ex H H' ∧ (∃ v, σ' = [some (.ref a), v]) ∧ ∀ j, j < i → ∀ y, xs[j]? = some y → hgtV y = true) (fun H2 e2 => ⟨by k_allIn, ⟨none, rfl⟩, fun j hj => absurd hj (Nat.not_lt_zero _)⟩) (fun i σ' H' p => p.1) ?_ ?_
      · rintro i y σ' H' hi ⟨hE, ⟨v, rfl⟩, hall⟩
        have hy : Typed K H y := hty y (List.mem_of_getElem? hi)
        refine s_when (et_not (et_B (ev_is_height (x := y) (ev_var rfl) (typed_ex hE hy)))) (fun hb H4 e4 => ?_) fun hb H4 e4 => ?_
        · refine hbad (fun z => ?_) H4 (by k_allIn)
          rw [List.all_eq_true] at z
          rw [z.2.2 y (List.mem_of_getElem? hi)] at hb
          exact absurd hb (by decide)
        · refine ⟨by k_allIn, ⟨some y, rfl⟩, fun j hj w hw => ?_⟩
          by_cases hji : j = i
          · subst hji
            rw [hi] at hw
            cases hw
            cases hg : hgtV y with
            | true => rfl
            | false =>
              rw [hg] at hb
              exact absurd hb (by decide)
          · exact hall j (by omega) w hw
      · rintro σ' H' ⟨hE, ⟨v, rfl⟩, hall⟩
        refine hgood ⟨hl.1, hl.2, List.all_eq_true.mpr fun y hy => ?_⟩ H' (by k_allIn)
        obtain ⟨j, hj, e⟩ := List.getElem_of_mem hy
        exact hall j hj y (by rw [List.getElem?_eq_getElem hj, e])
  rcases h with ⟨hb, hE⟩ | ⟨ns, ⟨a, rfl, hq⟩, hg, hQ⟩
  · rcases hb with ⟨T, ty, k1, k2⟩ | ⟨a, xs, rfl, hq, hty, hbad⟩
    · have hisi : Ev (tCB (cIsi K) (tCons (tVar 0) (tCons (tTup (tCons (tC (.ty "list")) (tCons (tC (.ty "tuple")) tNil))) tNil))) (start ["thing", "height"] [x]) H (.bl false) :=
        ev_isi2 (hx H) ty (kitAny_cons (b := false) (kit_ty k1) (fun _ => kitAny_cons (b := false) (kit_ty k2) (fun _ => kitAny_nil) fun z => nomatch z) fun z => nomatch z)
      refine q_when (b := true) (et_is (et_or (b := true) (et_not (et_B hisi)) fun z => nomatch z) rfl) (fun hb H1 e1 => hE H1 e1) fun hb => nomatch hb
    · exact key a xs rfl hq hty (fun z => absurd z hbad) fun _ => hE
  · refine key a (ns.map V.int) rfl hq (fun y hy => ?_) (fun _ => hQ) fun z => absurd ?_ z
    · obtain ⟨i, _, rfl⟩ := List.mem_map.mp hy
      exact typed_int
    · refine ⟨by rw [List.length_map]; exact hg.1, by rw [List.length_map]; exact hg.2.1, List.all_eq_true.mpr fun y hy => ?_⟩
      obtain ⟨i, hi, rfl⟩ := List.mem_map.mp hy
      have := hg.2.2 i hi
      show (decide (0 ≤ i) && decide (i ≤ 9)) = true
      rw [decide_eq_true this.1, decide_eq_true this.2]
      rfl
end
/-! ### who clashes -/
theorem findSome_range {α : Type} {f : Nat → Option α} : ∀ {n i : Nat} {y : α}, i < n → f i = some y → (∀ j, j < i → f j = none) → (List.range n).findSome? f = some y
  | 0, i, y, h, _, _ => absurd h (Nat.not_lt_zero _)
  | n + 1, i, y, h, hy, hn => by
    rw [List.range_succ, List.findSome?_append]
    by_cases e : i = n
    · subst e
      have z : (List.range i).findSome? f = none := List.findSome?_eq_none_iff.mpr fun j hj => hn j (List.mem_range.mp hj)
      rw [z]
      simp [hy]
    · rw [findSome_range (by omega) hy hn]
      rfl
theorem findSome_none {α : Type} {f : Nat → Option α} {n : Nat} (h : ∀ j, j < n → f j = none) : (List.range n).findSome? f = none := List.findSome?_eq_none_iff.mpr fun j hj => h j (List.mem_range.mp hj)
def fndP (ns : List Int) (j : Nat) : Option Nat := (List.range j).find? fun i => decide (place ns i = place ns j)
theorem clashF_some {ns : List Int} {i t : Nat} (hi : i < ns.length) (h : fndP ns i = some t) (hn : ∀ j, j < i → fndP ns j = none) : clashF ns = some (t, i) :=
  findSome_range (y := (t, i)) hi (by show (fndP ns i).map _ = _; rw [h]; rfl) fun j hj => by show (fndP ns j).map _ = _; rw [hn j hj]; rfl
theorem clashF_none {ns : List Int} (hn : ∀ j, j < ns.length → fndP ns j = none) : clashF ns = none :=
  findSome_none fun j hj => by show (fndP ns j).map _ = _; rw [hn j hj]; rfl
def metK (ns : List Int) (i : Nat) : List (Key × V) := (List.range i).map fun t => (Sum.inl (place ns t), V.int (t : Int))
theorem metK_val (ns : List Int) (i : Nat) (k : Int) : valV (metK ns i) (Sum.inl k) = ((List.range i).find? fun t => decide (place ns t = k)).map fun (t : Nat) => V.int (t : Int) := by
  unfold valV metK
  rw [List.find?_map, Option.map_map]
  have e : ((fun kv : Key × V => decide (kv.1 = Sum.inl k)) ∘ fun t : Nat => ((Sum.inl (place ns t) : Key), V.int (t : Int))) = fun t => decide (place ns t = k) := by
    funext t
    simp
  rw [e]
  rfl
theorem metK_put {ns : List Int} {i : Nat} (h : fndP ns i = none) : putK (metK ns i) (Sum.inl (place ns i)) (V.int (i : Int)) = metK ns (i + 1) := by
  have hv : valV (metK ns i) (Sum.inl (place ns i)) = none := by
    rw [metK_val]
    show (fndP ns i).map _ = none
    rw [h]
    rfl
  rw [putK_new _ hv]
  unfold metK
  rw [List.range_succ, List.map_append]
  rfl
theorem metK_len (ns : List Int) (i : Nat) : (metK ns i).length = i := by
  unfold metK
  rw [List.length_map, List.length_range]
theorem getD_of {ns : List Int} {i : Nat} {x : V} (h : (ns.map V.int)[i]? = some x) : i < ns.length ∧ x = .int (ns.getD i 0) := by
  rw [List.getElem?_map] at h
  have hi : i < ns.length := by
    cases e : ns[i]? with
    | none =>
      rw [e] at h
      cases h
    | some z => exact (List.getElem?_eq_some_iff.mp e).1
  rw [List.getElem?_eq_getElem hi] at h
  refine ⟨hi, ?_⟩
  rw [List.getD_eq_getElem?_getD, List.getElem?_eq_getElem hi]
  exact (Option.some.inj h).symm
section
variable {K : PySem.W.Frag} {c : Cs} {vs : List V} {H : Hp} {Q : VK} {E : XK}
theorem pure_clash (h : sp_clash K c vs H Q E) : t_clash K c E { nx := fun _ H' => Q .non H', rt := Q } (start ["row", "met", "turn", "height", "place"] vs) H := by
  obtain ⟨x, rfl, ⟨hb, hE⟩ | ⟨ns, ⟨a, rfl, hq⟩, hg, hQ⟩⟩ := h
  · exact ⟨x, rfl, x, rfl, .inl ⟨hb, hE⟩⟩
  · refine ⟨.ref a, rfl, .ref a, rfl, .inr ⟨ns, ⟨a, rfl, hq⟩, hg, fun H1 e1 => ?_⟩⟩
    show tSeq (tAsg tDNewK (gName 1)) _ _ _ H1
    refine q_asgD fun d hd => ?_
    have hdH : H d = none := fresh_back e1 hd
    have e2 : Ex H (upd H1 d (.dK [])) := e1.trans (Ex.new hd)
    have hn : 0 < ns.length := hg.1
    refine q_enumQ (a := a) (H0 := H) (ev_var rfl) hq e2 (fun i σ' H' => Ex H H' ∧ H' d = some (.dK (metK ns i)) ∧ (∃ u v w, σ' = [some (.ref a), some (.ref d), u, v, w]) ∧ ∀ j, j < i → fndP ns j = none)
      (fun H2 e3 => ⟨e2.trans e3, e3 d _ upd_same, ⟨none, none, none, rfl⟩, fun j hj => absurd hj (Nat.not_lt_zero _)⟩) (fun i σ' H' p => p.1) ?_ ?_
    · rintro i y σ' H' H2 hi ⟨eH, hm, ⟨u, v, w, rfl⟩, hno⟩ e3
      obtain ⟨hil, rfl⟩ := getD_of hi
      have hm2 : H2 d = some (.dK (metK ns i)) := e3 d _ hm
      have eH2 : Ex H H2 := eH.trans e3
      have hlen : Ev (tCB (cLen K) (tCons (tVar 0) tNil)) [some (.ref a), some (.ref d), some (.int (i : Int)), some (.int (ns.getD i 0)), w] H2 (.int (((ns.map V.int).length : Nat) : Int)) := ev_lenQ (evq_of (ev_var rfl) (ex_q eH2 hq))
      rw [List.length_map] at hlen
      refine q_asg (v := .int (place ns i)) (ev_op (ev_op (ev_var rfl) (ev_var rfl) rv_addI) hlen (rv_mod (by omega))) fun H3 e4 => ?_
      have hm3 : H3 d = some (.dK (metK ns i)) := e4 d _ hm2
      have hv := metK_val ns i (place ns i)
      refine q_when (b := (fndP ns i).isSome) (et_B (ev_is (ev_din (a := d) (k := Sum.inl (place ns i)) (ev_var rfl) (ev_var rfl) hm3) (by rw [hv]; show V.bl ((fndP ns i).map _).isSome = _; rw [Option.isSome_map]))) (fun hb H4 e5 => ?_) fun hb H4 e5 => ?_
      · obtain ⟨t, ht⟩ := Option.isSome_iff_exists.mp hb
        have hv2 : valV (metK ns i) (Sum.inl (place ns i)) = some (.int (t : Int)) := by
          rw [hv]
          show (fndP ns i).map _ = _
          rw [ht]
          rfl
        refine s_retU (xs := [.int (t : Int), .int (i : Int)]) (eu_tup (ea_cons (ev_dget (a := d) (k := Sum.inl (place ns i)) (ev_var rfl) (ev_var rfl) (e5 d _ hm3) hv2) (ea_cons (ev_var rfl) ea_nil)) (by show 2 ≤ 100000; decide)) fun p H5 hp e6 hp5 => ?_
        have hc := clashF_some hil ht hno
        rw [hc] at hQ
        exact hQ _ H5 (by k_allIn) (.tup (SqT.of hp5) (.cons (.int _) (.cons (.int _) .nil)))
      · have hnone : fndP ns i = none := by
          cases ho : fndP ns i with
          | none => rfl
          | some t =>
            rw [ho] at hb
            cases hb
        refine s_dput (a := d) (k := Sum.inl (place ns i)) (v := .int (i : Int)) (kvs := metK ns i) (ev_var rfl) (ev_var rfl) (ev_var rfl) (e5 d _ hm3) (by rw [metK_len]; have := hg.2.1; omega) fun H5 e6 => ?_
        rw [metK_put hnone]
        refine ⟨Ex.mut (by k_allIn) hdH, upd_same, ⟨_, _, _, rfl⟩, fun j hj => ?_⟩
        by_cases hji : j = i
        · rw [hji]
          exact hnone
        · exact hno j (by omega)
    · rintro σ' H' ⟨eH, _, _, hno⟩
      rw [List.length_map] at hno
      have hc := clashF_none hno
      rw [hc] at hQ
      exact s_ret (v := .non) ev_c fun H2 e3 => hQ _ H2 (by k_allIn) .non
end
end Tr

/-! The drawn rows' readings: any row, throws exchanged, a row that goes on. -/
namespace Tr
open PySem L2 PySem.Spec PyProof.Rows Evl

theorem et_yes {σ : L2.St} {H : Hp} : EvT tYes σ H true := fun H1 _ _ q => q H1 (Ex.refl H1)
theorem given_all {n : Nat} {v : Nat → V} : given n (fun _ => true) v = (List.range n).map v := by
  unfold given
  rw [List.filter_eq_self.mpr (fun _ _ => rfl)]
theorem ixN_int {n : Nat} {i : Int} (h0 : 0 ≤ i) (h1 : i < n) : ixN n i = some i.toNat := by
  unfold ixN
  rw [if_pos h0, if_pos h1]
/-- [e for x in range(n)], no test -/
theorem el_rng {σ : L2.St} {H : Hp} {ta te : TE} {j : Nat} {vs : List Nat} {n : Int} (v : Nat → V) (h : Ev ta σ H (.int n)) (hn : 0 ≤ n ∧ n ≤ 40000) (hw : ∀ x, wipe ((wipe σ vs).set j (some x)) vs = wipe σ vs)
    (he : ∀ (i : Nat) H1, Ex H H1 → (i : Int) < n → Ev te ((wipe σ vs).set j (some (.int (i : Int)))) H1 (v i)) : EvL (tLc (iRng1 (tCons ta tNil)) (gName j) tYes te vs) σ H ((List.range n.toNat).map v) := by
  have z := el_lcR1 (t := tYes) (ta := tCons ta tNil) (te := te) (j := j) (vs := vs) (fun _ => true) v (ea_cons h ea_nil) hn hw (fun _ _ _ _ => et_yes) fun i H1 e hi _ => he i H1 e hi
  rw [given_all] at z
  exact z
/-- a call as a statement, what it does to the heap told by its promise -/
theorem q_dropC {σ : L2.St} {H : Hp} {D : Ends} {tz : TS} {sp : Sp} {E : XK} {ta : TA} {vs : List V} (h : EvA ta σ H vs) (k : ∀ H1, Ex H H1 → sp (vs ++ []) H1 (fun _ H2 => tz D σ H2) E) : tSeq (tDrop (tCall sp [] E ta)) tz D σ H := h H (Ex.refl H) _ k
theorem s_dropC {σ : L2.St} {H : Hp} {D : Ends} {sp : Sp} {E : XK} {ta : TA} {vs : List V} (h : EvA ta σ H vs) (k : ∀ H1, Ex H H1 → sp (vs ++ []) H1 (fun _ H2 => D.nx σ H2) E) : tDrop (tCall sp [] E ta) D σ H := h H (Ex.refl H) _ k
theorem el_slX {K : PySem.W.Frag} {σ : L2.St} {H : Hp} {te : TE} {xs : List V} {tl th : TO} {lo hi : Option Int} (h : EvS K te σ H xs) (h1 : EvO tl σ H lo) (h2 : EvO th σ H hi) : EvL (tSl (xSl K) te tl th) σ H (cutV xs lo hi) := fun H1 e _ q =>
  h H1 e _ fun a H2 e2 hs => h1 H2 (e.trans e2) _ fun H3 e3 => h2 H3 ((e.trans e2).trans e3) _ fun H4 e4 =>
    .inl ⟨a, xs, rfl, ex_l (e3.trans e4) hs, fun p hp => q p _ (fresh_back ((e2.trans e3).trans e4) hp) (((e2.trans e3).trans e4).trans (Ex.new hp)) upd_same⟩
/-- x = e, e of known data -/
theorem q_asgV {K : PySem.W.Frag} {σ : L2.St} {H : Hp} {D : Ends} {tz : TS} {te : TE} {i : Nat} {d : PyData} (h : EvD K te σ H d) (k : ∀ v H1, Ex H H1 → Dp K H1 v d → tz D (σ.set i (some v)) H1) : tSeq (tAsg te (gName i)) tz D σ H := h H (Ex.refl H) _ k
theorem s_asgV {K : PySem.W.Frag} {σ : L2.St} {H : Hp} {D : Ends} {te : TE} {i : Nat} {d : PyData} (h : EvD K te σ H d) (k : ∀ v H1, Ex H H1 → Dp K H1 v d → D.nx (σ.set i (some v)) H1) : tAsg te (gName i) D σ H := h H (Ex.refl H) _ k
theorem s_retV {K : PySem.W.Frag} {σ : L2.St} {H : Hp} {D : Ends} {te : TE} {d : PyData} (h : EvD K te σ H d) (k : ∀ v H1, Ex H H1 → Dp K H1 v d → D.rt v H1) : tRet te D σ H := h H (Ex.refl H) _ k
/-- .. with a test -/
theorem el_rngIf {σ : L2.St} {H : Hp} {ta te : TE} {t : TT} {j : Nat} {vs : List Nat} {n : Int} (f : Nat → Bool) (v : Nat → V) (h : Ev ta σ H (.int n)) (hn : 0 ≤ n ∧ n ≤ 40000) (hw : ∀ x, wipe ((wipe σ vs).set j (some x)) vs = wipe σ vs)
    (ht : ∀ (i : Nat) H1, Ex H H1 → (i : Int) < n → EvT t ((wipe σ vs).set j (some (.int (i : Int)))) H1 (f i))
    (he : ∀ (i : Nat) H1, Ex H H1 → (i : Int) < n → f i = true → Ev te ((wipe σ vs).set j (some (.int (i : Int)))) H1 (v i)) : EvL (tLc (iRng1 (tCons ta tNil)) (gName j) t te vs) σ H (((List.range n.toNat).filter f).map v) :=
  el_lcR1 (ta := tCons ta tNil) (te := te) (j := j) (vs := vs) f v (ea_cons h ea_nil) hn hw ht he

theorem exch_len {ns : List Int} {a b : Int} : (exch ns a b).length = ns.length := by
  unfold exch
  simp only
  split
  · rw [List.length_set, List.length_set]
  · rfl
theorem exchD_len {ns : List Int} {d : Int} : (exchD ns d).length = ns.length := by
  unfold exchD
  simp only
  split <;> exact exch_len
theorem mixedUp_succ (ns : List Int) (a : Int) (n : Nat) : mixedUp ns a (n + 1) = exchD (mixedUp ns a n) (mixed a n) := by
  unfold mixedUp
  rw [List.range_succ, List.foldl_append]
  rfl
theorem mixedUp_len (ns : List Int) (a : Int) : ∀ n, (mixedUp ns a n).length = ns.length
  | 0 => rfl
  | n + 1 => by rw [mixedUp_succ, exchD_len, mixedUp_len ns a n]
theorem goStep_len (a : Int) (r : List Int) (k : Int) : (goStep a r k).length = r.length := by
  unfold goStep
  simp only
  rw [List.length_append, List.length_drop, List.length_take, mixedUp_len]
  omega
theorem going_len (a m : Int) : (going a m).length = m.toNat := by
  unfold going
  rw [goStep_len, goStep_len, List.length_replicate]
theorem anyF_len (a m : Int) : (anyF a m).length = m.toNat := by
  unfold anyF
  rw [List.length_map, List.length_range]
theorem map_set (ns : List Int) (i : Nat) (x : Int) : (ns.map V.int).set i (.int x) = (ns.set i x).map V.int := by
  rw [List.map_set]

section
variable {K : PySem.W.Frag} {c : Cs} {vs : List V} {H : Hp} {Q : VK} {E : XK}
theorem pure_l_any (h : sp_l_any K c vs H Q E) : t_l_any K c E { nx := fun _ H' => Q .non H', rt := Q } (start ["_law_cell", "_law_many", "_law_k"] vs) H := by
  obtain ⟨a, m, rfl, h0, h1, q⟩ := h
  have hm : 0 ≤ a % 3 ∧ a % 3 < 3 := ⟨Int.emod_nonneg _ (by decide), Int.emod_lt_of_pos _ (by decide)⟩
  have hp : 0 < pick3 10 4 10 (a % 3) := by
    unfold pick3
    split
    · decide
    · split <;> decide
  refine s_retL (xs := (anyF a m).map V.int) ?_ fun p H1 hp e1 h1 => q p H1 hp e1 h1
  have z := el_rng (σ := start ["_law_cell", "_law_many", "_law_k"] [V.int a, V.int m]) (H := H) (ta := tVar 1) (te := (tOp xMod (tCall (sp_l_mixed K c) [] E0 (tCons (tVar 0) (tCons (tVar 2) tNil))) (tOp (rIx K) (tLst (tCons (tC (.int 10)) (tCons (tC (.int 4)) (tCons (tC (.int 10)) tNil)))) (tOp xMod (tVar 0) (tC (.int 3)))))) (j := 2) (vs := [2]) (n := m)
    (fun k => .int (mixed a k % pick3 10 4 10 (a % 3))) (ev_var rfl) ⟨h0, by omega⟩ (fun _ => rfl) fun i H1 e hi => by
      have h3 := at3 (x := 10) (y := 4) (z := 10) hm.1 hm.2
      refine ev_op (ev_l_mixed (a := a) (k := (i : Int)) (ev_var rfl) (ev_var rfl)) (ev_ix (xs := [.int 10, .int 4, .int 10]) (i := a % 3) (by k_places) (fun _ _ => by k_subL) h3) (rv_mod hp)
  unfold anyF
  rw [List.map_map]
  exact z
theorem pure_l_mixed_up (h : sp_l_mixed_up K c vs H Q E) : t_l_mixed_up K c E { nx := fun _ H' => Q .non H', rt := Q } (start ["_law_row", "_law_cell", "_law_many", "_law_k", "_law_draw", "_law_one", "_law_other", "_law_heights"] vs) H := by
  obtain ⟨p, ns, a, rfl, hp, hn1, hn2, q⟩ := h
  have hlen : Ev (tCB (cLen K) (tCons (tVar 0) tNil)) (start ["_law_row", "_law_cell", "_law_many", "_law_k", "_law_draw", "_law_one", "_law_other", "_law_heights"] [V.ref p, V.int a]) H (.int (((ns.map V.int).length : Nat) : Int)) := ev_lenQ (evq_of (ev_var rfl) (.inl (SqL.of hp)))
  rw [List.length_map] at hlen
  refine q_asg hlen fun H1 e1 => ?_
  have hcnt : EvA (tCons (tOp (xMul K) (tOp (xMul K) (tC (.int 2)) (tVar 2)) (tCB cInt (tCons (tOp xGt (tVar 2) (tC (.int 1))) tNil))) tNil) ((start ["_law_row", "_law_cell", "_law_many", "_law_k", "_law_draw", "_law_one", "_law_other", "_law_heights"] [V.ref p, V.int a]).set 2 (some (.int (ns.length : Int)))) H1
      [.int ((turns2 ns.length : Nat) : Int)] := by
    refine ea_cons (ev_is (ev_op (ev_op ev_c (ev_var rfl) (rv_mul (by k_caughtB))) (ev_intB (ev_op (ev_var rfl) ev_c rv_gt)) (rv_mul (Or.inl ⟨by omega, by omega⟩))) ?_) ea_nil
    unfold turns2
    by_cases hc : ns.length > 1
    · rw [if_pos hc, show decide ((1 : Int) < (ns.length : Int)) = true from decide_eq_true (by omega)]
      show V.int (2 * (ns.length : Int) * 1) = _
      exact congrArg V.int (by omega)
    · rw [if_neg hc, show decide ((1 : Int) < (ns.length : Int)) = false from decide_eq_false (by omega)]
      show V.int (2 * (ns.length : Int) * 0) = V.int 0
      rw [Int.mul_zero]
  have hb : (0 : Int) ≤ ((turns2 ns.length : Nat) : Int) ∧ ((turns2 ns.length : Nat) : Int) ≤ 100000 := by
    unfold turns2
    split <;> omega
  refine s_forR1 hcnt hb (fun i σ' H' => (∀ b o, b ≠ p → H b = some o → H' b = some o) ∧ H' p = some (.lst ((mixedUp ns a i).map V.int)) ∧ ∃ v3 v4 v5 v6 v7, σ' = [some (.ref p), some (.int a), some (.int (ns.length : Int)), v3, v4, v5, v6, v7])
    (fun H2 e2 => ⟨fun b o _ hb => e2 b o (e1 b o hb), e2 p _ (e1 p _ hp), _, _, _, _, _, rfl⟩) ?_ ?_
  · rintro i σ' H' hi ⟨hk, hr, v3, v4, v5, v6, v7, rfl⟩
    -- there are at least two
    have hm : 2 ≤ ns.length := by
      unfold turns2 at hi
      split at hi <;> omega
    generalize hR : mixedUp ns a i = R at hr
    have hRl : R.length = ns.length := by
      rw [← hR]
      exact mixedUp_len ns a i
    refine q_asg (v := .int (mixed a i)) (ev_l_mixed (ev_var rfl) (ev_var rfl)) fun H2 e2 => ?_
    generalize hD : mixed a (i : Int) = d
    refine q_asg (v := .int (d % ns.length)) (ev_op (ev_var rfl) (ev_var rfl) (rv_mod (by omega))) fun H3 e3 => ?_
    refine q_asg (v := .int ((d % ns.length + 1 + d / 64 % (ns.length - 1)) % ns.length)) (ev_op (ev_op (ev_op (ev_var rfl) ev_c rv_addI) (ev_op (ev_op (ev_var rfl) ev_c (rv_div (by k_caughtB))) (ev_op (ev_var rfl) ev_c rv_sub) (rv_mod (by omega))) rv_addI) (ev_var rfl) (rv_mod (by omega))) fun H4 e4 => ?_
    have b1 : 0 ≤ d % ns.length ∧ d % ns.length < ns.length := ⟨Int.emod_nonneg _ (by omega), Int.emod_lt_of_pos _ (by omega)⟩
    have b2 : 0 ≤ (d % ns.length + 1 + d / 64 % (ns.length - 1)) % ns.length ∧ (d % ns.length + 1 + d / 64 % (ns.length - 1)) % ns.length < ns.length := ⟨Int.emod_nonneg _ (by omega), Int.emod_lt_of_pos _ (by omega)⟩
    have hex : mixedUp ns a (i + 1) = if d % (R.length : Int) > (d % R.length + 1 + d / 64 % (R.length - 1)) % R.length then exch R ((d % R.length + 1 + d / 64 % (R.length - 1)) % R.length) (d % R.length) else exch R (d % R.length) ((d % R.length + 1 + d / 64 % (R.length - 1)) % R.length) := by
      rw [mixedUp_succ, hR, hD]
      rfl
    rw [hRl] at hex
    generalize hA : d % (ns.length : Int) = A at b1 b2 hex
    generalize hB : (A + 1 + d / 64 % ((ns.length : Int) - 1)) % (ns.length : Int) = B at b2 hex
    have hr4 : H4 p = some (.lst (R.map V.int)) := e4 p _ (e3 p _ (e2 p _ hr))
    have hk4 : ∀ b o, b ≠ p → H b = some o → H4 b = some o := fun b o hb h => e4 b o (e3 b o (e2 b o (hk b o hb h)))
    -- behind the exchange of the two names
    have step : ∀ (A B : Int) (H5 : Hp), 0 ≤ A ∧ A < ns.length → 0 ≤ B ∧ B < ns.length → Ex H4 H5 → mixedUp ns a (i + 1) = exch R A B →
        ∀ (D : Ends), (∀ σ' H', ((∀ b o, b ≠ p → H b = some o → H' b = some o) ∧ H' p = some (.lst ((mixedUp ns a (i + 1)).map V.int)) ∧ ∃ v3 v4 v5 v6 v7, σ' = [some (.ref p), some (.int a), some (.int (ns.length : Int)), v3, v4, v5, v6, v7]) → D.nx σ' H') →
        tSeq (tAsg (tTup (tCons (tOp (xAdd K) (tOp xSub (tVar 6) (tVar 5)) (tOp (rIx K) (tVar 0) (tVar 6))) (tCons (tOp (xAdd K) (tOp xSub (tOp (rIx K) (tVar 0) (tVar 5)) (tVar 6)) (tVar 5)) tNil))) (gName 7))
          (tIfS (tAnd (tTest (tOp xLe (tC (.int 0)) (tCB (cMin K) (tCons (tVar 7) tNil)))) (tTest (tOp xLt (tCB (cMax K) (tCons (tVar 7) tNil)) (tC (.int 10))))) (tAsg (tVar 7) (gTup K 2 (gCons (gSub (tVar 0) (tVar 5) rSetL) (gCons (gSub (tVar 0) (tVar 6) rSetL) gNil)))) tNext)
          D [some (.ref p), some (.int a), some (.int (ns.length : Int)), some (.int (i : Int)), some (.int d), some (.int A), some (.int B), v7] H5 := by
      intro A B H5 bA bB e5 hexA D hD2
      have hr5 := e5 p _ hr4
      have hk5 : ∀ b o, b ≠ p → H b = some o → H5 b = some o := fun b o hb h => e5 b o (hk4 b o hb h)
      have iA : atI (R.map V.int) A = some (.int (gi R A)) := atI_ints bA.1 (by omega)
      have iB : atI (R.map V.int) B = some (.int (gi R B)) := atI_ints bB.1 (by omega)
      have row : EvQ K (tVar 0) [some (.ref p), some (.int a), some (.int (ns.length : Int)), some (.int (i : Int)), some (.int d), some (.int A), some (.int B), v7] H5 (R.map V.int) := evq_of (ev_var rfl) (.inl (SqL.of hr5))
      refine q_asgU (xs := [B - A + gi R B, gi R A - B + A].map V.int) (eu_tup (ea_cons (ev_op (ev_op (ev_var rfl) (ev_var rfl) rv_sub) (ev_ix (i := B) row (fun _ _ => ev_var rfl) iB) rv_addI) (ea_cons (ev_op (ev_op (ev_ix (i := A) row (fun _ _ => ev_var rfl) iA) (ev_var rfl) rv_sub) (ev_var rfl) rv_addI) ea_nil)) (by show 2 ≤ 100000; decide)) fun t H6 ht e6 ht6 => ?_
      generalize hh1 : B - A + gi R B = h1 at ht6
      generalize hh2 : gi R A - B + A = h2 at ht6
      have hr6 := e6 p _ hr5
      have hk6 : ∀ b o, b ≠ p → H b = some o → H6 b = some o := fun b o hb h => e6 b o (hk5 b o hb h)
      have tq : EvQ K (tVar 7) ([some (.ref p), some (.int a), some (.int (ns.length : Int)), some (.int (i : Int)), some (.int d), some (.int A), some (.int B), v7].set 7 (some (.ref t))) H6 ([h1, h2].map V.int) := evq_of (ev_var rfl) (.inr (SqT.of ht6))
      have mmin : ∃ m, m ∈ [h1, h2] ∧ (∀ y ∈ [h1, h2], m ≤ y) ∧ (0 ≤ m ↔ 0 ≤ h1 ∧ 0 ≤ h2) := by
        by_cases hc : h1 ≤ h2
        · exact ⟨h1, by simp, by simp [hc], by omega⟩
        · exact ⟨h2, by simp, by simp; omega, by omega⟩
      have mmax : ∃ m, m ∈ [h1, h2] ∧ (∀ y ∈ [h1, h2], y ≤ m) ∧ (m < 10 ↔ h1 < 10 ∧ h2 < 10) := by
        by_cases hc : h1 ≤ h2
        · exact ⟨h2, by simp, by simp [hc], by omega⟩
        · exact ⟨h1, by simp, by simp; omega, by omega⟩
      obtain ⟨m1, c1, c2, c3⟩ := mmin
      obtain ⟨m2, d1, d2, d3⟩ := mmax
      have hexch : exch R A B = if (0 ≤ h1 ∧ 0 ≤ h2) ∧ (h1 < 10 ∧ h2 < 10) then (R.set A.toNat h1).set B.toNat h2 else R := by
        unfold exch
        simp only [hh1, hh2]
      refine s_when (et_and (et_test (ev_op ev_c (ev_min tq c1 c2) rv_le)) fun _ => et_test (ev_op (ev_max tq d1 d2) ev_c rv_lt)) (fun hb H7 e7 => ?_) fun hb H7 e7 => ?_
      · have hcond : (0 ≤ h1 ∧ 0 ≤ h2) ∧ (h1 < 10 ∧ h2 < 10) := by
          rw [Bool.and_eq_true, decide_eq_true_eq, decide_eq_true_eq] at hb
          exact ⟨c3.mp hb.1, d3.mp hb.2⟩
        rw [if_pos hcond] at hexch
        have hr7 := e7 p _ hr6
        refine ⟨.ref t, rfl, t, [.int h1, .int h2], rfl, SqT.of (e7 t _ ht6), rfl, .int h1, [.int h2], rfl, .ref p, rfl, .int A, rfl, p, R.map V.int, A, A.toNat, rfl, rfl, hr7, ixN_int bA.1 (by rw [List.length_map]; omega), .int h2, [], rfl, .ref p, rfl, .int B, rfl, p, (R.map V.int).set A.toNat (.int h1), B, B.toNat, rfl, rfl, upd_same, ixN_int bB.1 (by rw [List.length_set, List.length_map]; omega), rfl, ?_⟩
        refine hD2 _ _ ⟨fun b o hb' h => ?_, ?_, _, _, _, _, _, rfl⟩
        · rw [upd_ne hb', upd_ne hb']
          exact e7 b o (hk6 b o hb' h)
        · rw [upd_same, hexA, hexch, map_set, map_set]
      · have hcond : ¬ ((0 ≤ h1 ∧ 0 ≤ h2) ∧ (h1 < 10 ∧ h2 < 10)) := fun z => by
          rw [decide_eq_true (c3.mpr z.1), decide_eq_true (d3.mpr z.2)] at hb
          exact absurd hb (by decide)
        rw [if_neg hcond] at hexch
        refine hD2 _ _ ⟨fun b o hb' h => e7 b o (hk6 b o hb' h), ?_, _, _, _, _, _, rfl⟩
        rw [hexA, hexch]
        exact e7 p _ hr6
    refine q_when (b := decide (B < A)) (et_test (ev_op (ev_var rfl) (ev_var rfl) rv_gt)) (fun hb H5 e5 => ?_) fun hb H5 e5 => ?_
    · refine ⟨_, rfl, _, rfl, _, _, rfl, ?_⟩
      exact step B A H5 b2 b1 e5 (by rw [hex, if_pos (of_decide_eq_true hb)]) _ fun σ' H' z => z
    · exact step A B H5 b1 b2 e5 (by rw [hex, if_neg (of_decide_eq_false hb)]) _ fun σ' H' z => z
  · rintro σ' H' ⟨hk, hr, _⟩
    exact q H' hk hr
theorem cutV_from {xs : List V} {i : Int} (h0 : 0 ≤ i) (h1 : i ≤ xs.length) : cutV xs (some i) none = xs.drop i.toNat := by
  unfold cutV
  have e1 : HT.sIx xs.length 0 (some i) = i.toNat := by
    unfold HT.sIx
    simp only
    split <;> omega
  have e2 : HT.sIx xs.length xs.length none = xs.length := rfl
  rw [e1, e2, List.take_of_length_le (by rw [List.length_drop]; omega)]
theorem cutV_upto {xs : List V} {i : Int} (h0 : 0 ≤ i) (h1 : i ≤ xs.length) : cutV xs none (some i) = xs.take i.toNat := by
  unfold cutV
  have e1 : HT.sIx xs.length xs.length (some i) = i.toNat := by
    unfold HT.sIx
    simp only
    split <;> omega
  have e2 : HT.sIx xs.length 0 none = 0 := rfl
  rw [e1, e2, List.drop_zero, Nat.sub_zero]
theorem pure_l_going (h : sp_l_going K c vs H Q E) : t_l_going K c E { nx := fun _ H' => Q .non H', rt := Q } (start ["_law_cell", "_law_many", "_law_row", "_law_k", "_law_by"] vs) H := by
  obtain ⟨a, m, rfl, h1, h2, q⟩ := h
  refine q_asgL (xs := (List.replicate m.toNat (a % 10)).map V.int) ?_ fun p H1 hp e1 hp1 => ?_
  · have z := el_rep (K := K) (σ := start ["_law_cell", "_law_many", "_law_row", "_law_k", "_law_by"] [V.int a, V.int m]) (H := H) (ta := tLst (tCons (tOp xMod (tVar 0) (tC (.int 10))) tNil)) (tb := tVar 1) (xs := [.int (a % 10)]) (k := m) (el_lst (by k_offL) (by show 1 ≤ 100000; decide)) (fun _ _ => ev_var rfl) (by omega) (by simp; omega)
    have e : (List.replicate m.toNat [V.int (a % 10)]).flatten = (List.replicate m.toNat (a % 10)).map V.int := by
      rw [List.map_replicate]
      generalize m.toNat = n
      induction n with
      | zero => rfl
      | succ n ih => rw [List.replicate_succ, List.flatten_cons, ih, List.replicate_succ]; rfl
    rw [e] at z
    exact z
  let step : Nat → List Int := fun i => if i = 0 then List.replicate m.toNat (a % 10) else if i = 1 then goStep a (List.replicate m.toNat (a % 10)) 0 else going a m
  refine q_forR1 (n := 2) (ea_cons ev_c ea_nil) (by decide) (fun i σ' H' => Ex H H' ∧ ∃ (p : Addr) (v3 v4 : Option V), H p = none ∧ H' p = some (.lst ((step i).map V.int)) ∧ σ' = [some (.int a), some (.int m), some (.ref p), v3, v4])
    (fun H2 e2 => ⟨e1.trans e2, p, none, none, hp, e2 p _ hp1, rfl⟩) ?_ ?_
  · rintro i σ' H' hi ⟨eH, p, v3, v4, hpH, hr, rfl⟩
    generalize hR : step i = R at hr
    have hRl : R.length = m.toNat := by
      rw [← hR]
      show (if i = 0 then _ else if i = 1 then _ else _ : List Int).length = _
      split
      · rw [List.length_replicate]
      · split
        · rw [goStep_len, List.length_replicate]
        · rw [going_len]
    have hnext : step (i + 1) = goStep a R i := by
      rcases (show i = 0 ∨ i = 1 by omega) with rfl | rfl
      · rw [← hR]; rfl
      · rw [← hR]; rfl
    have hm50 : Ev (tCall (sp_l_mixed K c) [] E0 (tCons (tVar 0) (tCons (tOp (xAdd K) (tC (.int 50)) (tVar 3)) tNil))) [some (.int a), some (.int m), some (.ref p), some (.int (i : Int)), v4] H' (.int (mixed a (50 + (i : Int)))) := ev_l_mixed (ev_var rfl) (ev_op ev_c (ev_var rfl) rv_addI)
    refine q_dropC (vs := [.ref p, .int (mixed a (50 + (i : Int)))]) (ea_cons (ev_var rfl) (ea_cons hm50 ea_nil)) fun H2 e2 => ?_
    refine ⟨p, R, mixed a (50 + (i : Int)), rfl, e2 p _ hr, by omega, by omega, fun H3 hk hr3 => ?_⟩
    have eH3 : Ex H H3 := fun b o hb => hk b o (ne_of_none hb hpH) (e2 b o (eH b o hb))
    have hm60 : Ev (tCall (sp_l_mixed K c) [] E0 (tCons (tVar 0) (tCons (tOp (xAdd K) (tC (.int 60)) (tVar 3)) tNil))) [some (.int a), some (.int m), some (.ref p), some (.int (i : Int)), v4] H3 (.int (mixed a (60 + (i : Int)))) := ev_l_mixed (ev_var rfl) (ev_op ev_c (ev_var rfl) rv_addI)
    refine q_asg (v := .int (mixed a (60 + (i : Int)) % m)) (ev_op hm60 (ev_var rfl) (rv_mod (by omega))) fun H4 e4 => ?_
    have hr4 := e4 p _ hr3
    generalize hM : mixedUp R (mixed a (50 + (i : Int))) (turns2 R.length) = M at hr4
    have hMl : M.length = m.toNat := by
      rw [← hM, mixedUp_len, hRl]
    have bB : 0 ≤ mixed a (60 + (i : Int)) % m ∧ mixed a (60 + (i : Int)) % m < m := ⟨Int.emod_nonneg _ (by omega), Int.emod_lt_of_pos _ (by omega)⟩
    have hgs : goStep a R i = M.drop (mixed a (60 + (i : Int)) % m).toNat ++ M.take (mixed a (60 + (i : Int)) % m).toNat := by
      rw [hRl] at hM
      unfold goStep
      simp only [hRl, hM]
      rw [show ((m.toNat : Nat) : Int) = m by omega]
    generalize hB : mixed a (60 + (i : Int)) % m = B at bB hgs
    have row : EvS K (tVar 2) [some (.int a), some (.int m), some (.ref p), some (.int (i : Int)), some (.int B)] H4 (M.map V.int) := evs_of (ev_var rfl) (SqL.of hr4)
    refine s_asgL (xs := (goStep a R i).map V.int) ?_ fun p' H5 hp5 e5 hr5 => ⟨by k_allIn, p', _, _, fresh_back (eH3.trans e4) hp5, by rw [hnext]; exact hr5, rfl⟩
    have z := el_cat (K := K) (evs_new (el_slX row (eo_some (ev_var (i := 4) rfl)) eo_none)) (evs_new (el_slX row eo_none (eo_some (ev_var (i := 4) rfl)))) (by have q1 := cutV_length (M.map V.int) (some B) none; have q2 := cutV_length (M.map V.int) none (some B); rw [List.length_map] at q1 q2; omega)
    rw [cutV_from bB.1 (by rw [List.length_map]; omega), cutV_upto bB.1 (by rw [List.length_map]; omega), ← List.map_drop, ← List.map_take, ← List.map_append, ← hgs] at z
    exact z
  · rintro σ' H' ⟨eH, p, v3, v4, hpH, hr, rfl⟩
    exact s_ret (v := .ref p) (ev_var rfl) fun H2 e2 => q p H2 hpH (eH.trans e2) (e2 p _ hr)
end
end Tr

/-! Data: their shape, when two are equal. -/
namespace Tr
open PySem L2 PySem.Spec PyProof.Rows Evl

theorem depthAll_le : ∀ {ds : List PyData} {k : Nat}, (∀ d ∈ ds, d.depth ≤ k) → PyData.depthAll ds ≤ k
  | [], k, _ => by
    unfold PyData.depthAll
    omega
  | d :: ds, k, h => by
    unfold PyData.depthAll
    have h1 := h d List.mem_cons_self
    have h2 := depthAll_le (ds := ds) (k := k) fun e he => h e (List.mem_cons_of_mem _ he)
    omega
theorem canAll : ∀ {ds : List PyData}, (∀ d ∈ ds, d.canLay0 = true) → PyData.canLayAll0 ds = true
  | [], _ => by simp [PyData.canLayAll0]
  | d :: ds, h => by
    rw [PyData.canLayAll0, h d List.mem_cons_self, canAll (ds := ds) fun e he => h e (List.mem_cons_of_mem _ he)]
    rfl
/-- flat at most k deep -/
def Flat (k : Nat) (d : PyData) : Prop := d.canLay0 = true ∧ d.depth ≤ k
theorem Flat.mono {j k : Nat} {d : PyData} (h : Flat j d) (hk : j ≤ k) : Flat k d := ⟨h.1, Nat.le_trans h.2 hk⟩
theorem flat_int {i : Int} : Flat 0 (.int i) := ⟨by simp [PyData.canLay0], by simp [PyData.depth]⟩
theorem flat_bl {b : Bool} : Flat 0 (.bool b) := ⟨by simp [PyData.canLay0], by simp [PyData.depth]⟩
theorem flat_non : Flat 0 .none := ⟨by simp [PyData.canLay0], by simp [PyData.depth]⟩
theorem flat_list {k : Nat} {ds : List PyData} (h : ∀ d ∈ ds, Flat k d) : Flat (k + 1) (.list ds) := by
  refine ⟨?_, ?_⟩
  · rw [PyData.canLay0]
    exact canAll fun d hd => (h d hd).1
  · rw [PyData.depth]
    have := depthAll_le fun d hd => (h d hd).2
    omega
theorem flat_tuple {k : Nat} {ds : List PyData} (h : ∀ d ∈ ds, Flat k d) : Flat (k + 1) (.tuple ds) := by
  refine ⟨?_, ?_⟩
  · rw [PyData.canLay0]
    exact canAll fun d hd => (h d hd).1
  · rw [PyData.depth]
    have := depthAll_le fun d hd => (h d hd).2
    omega
theorem Flat.shaped {k : Nat} {d : PyData} (h : Flat k d) (hk : k ≤ 64) : SeqAt.shaped d = true := by
  unfold SeqAt.shaped
  rw [h.1, decide_eq_true (Nat.le_trans h.2 hk)]
  rfl
theorem Flat.refl {k : Nat} {d : PyData} (h : Flat k d) : PyData.eqv d d = true := SeqAt.eqv_refl d h.1
theorem flat_ints {ns : List Int} : Flat 1 (.list (ns.map .int)) := flat_list fun d hd => by
  obtain ⟨i, _, rfl⟩ := List.mem_map.mp hd
  exact flat_int
theorem flat_intsT {ns : List Int} : Flat 1 (.tuple (ns.map .int)) := flat_tuple fun d hd => by
  obtain ⟨i, _, rfl⟩ := List.mem_map.mp hd
  exact flat_int
theorem eqvAll_ints : ∀ ns ms : List Int, PyData.eqvAll (ns.map .int) (ms.map .int) = decide (ns = ms)
  | [], [] => by simp [PyData.eqvAll]
  | [], m :: ms => by simp [PyData.eqvAll]
  | n :: ns, [] => by simp [PyData.eqvAll]
  | n :: ns, m :: ms => by
    have ih := eqvAll_ints ns ms
    rw [List.map_cons, List.map_cons, PyData.eqvAll, ih, PyData.eqv]
    by_cases h1 : n = m
    · subst h1
      simp
    · simp [h1]
theorem eqv_ints {ns ms : List Int} : PyData.eqv (.list (ns.map .int)) (.list (ms.map .int)) = decide (ns = ms) := by
  rw [PyData.eqv]
  exact eqvAll_ints ns ms
theorem eqv_nil {ds : List PyData} : PyData.eqv (.list ds) (.list []) = ds.isEmpty := by
  rw [PyData.eqv]
  cases ds <;> simp [PyData.eqvAll]
end Tr

/-! The drawn rows: their heights lie within 0 to 9. -/
namespace Tr
open PySem L2 PySem.Spec PyProof.Rows Evl
def HB (ns : List Int) : Prop := ∀ i ∈ ns, 0 ≤ i ∧ i ≤ 9
theorem HB.set {ns : List Int} (h : HB ns) {j : Nat} {x : Int} (hx : 0 ≤ x ∧ x ≤ 9) : HB (ns.set j x) := fun i hi => by
  rcases List.mem_or_eq_of_mem_set hi with hi | rfl
  · exact h i hi
  · exact hx
theorem HB.exch {ns : List Int} (h : HB ns) (a b : Int) : HB (exch ns a b) := by
  unfold Tr.exch
  simp only
  split
  · rename_i hc
    exact (h.set ⟨by omega, by omega⟩).set ⟨by omega, by omega⟩
  · exact h
theorem HB.exchD {ns : List Int} (h : HB ns) (d : Int) : HB (exchD ns d) := by
  unfold Tr.exchD
  simp only
  split <;> exact h.exch _ _
theorem HB.mixedUp {ns : List Int} (h : HB ns) (a : Int) : ∀ n, HB (mixedUp ns a n)
  | 0 => h
  | n + 1 => by
    rw [mixedUp_succ]
    exact (HB.mixedUp h a n).exchD _
theorem HB.goStep {ns : List Int} (h : HB ns) (a k : Int) : HB (goStep a ns k) := fun i hi => by
  unfold Tr.goStep at hi
  simp only at hi
  rcases List.mem_append.mp hi with hi | hi
  · exact h.mixedUp _ _ i (List.mem_of_mem_drop hi)
  · exact h.mixedUp _ _ i (List.mem_of_mem_take hi)
theorem hb_going (a m : Int) : HB (going a m) := by
  unfold going
  refine HB.goStep (HB.goStep (fun i hi => ?_) _ _) _ _
  have e := (List.mem_replicate.mp hi).2
  subst e
  omega
theorem hb_any (a m : Int) : HB (anyF a m) := fun i hi => by
  unfold anyF at hi
  obtain ⟨k, _, rfl⟩ := List.mem_map.mp hi
  unfold pick3
  split
  · omega
  · split <;> omega
theorem longF_lo (a : Int) : 1 ≤ longF a ∧ longF a ≤ 40 := by
  unfold longF pick3
  split
  · omega
  · split <;> omega
theorem good_going {a m : Int} (h1 : 1 ≤ m) (h2 : m ≤ 40) : Good (going a m) := ⟨by rw [going_len]; omega, by rw [going_len]; omega, hb_going a m⟩
theorem good_any {a m : Int} (h1 : 1 ≤ m) (h2 : m ≤ 40) : Good (anyF a m) := ⟨by rw [anyF_len]; omega, by rw [anyF_len]; omega, hb_any a m⟩
theorem Good.set {ns : List Int} (h : Good ns) {j : Nat} {x : Int} (hx : 0 ≤ x ∧ x ≤ 9) : Good (ns.set j x) := ⟨by rw [List.length_set]; exact h.1, by rw [List.length_set]; exact h.2.1, HB.set h.2.2 hx⟩
end Tr

/-! Own rules: the end. What each law promises, the walk, an own class named by a clause. -/
namespace Tr
open PySem L2 PySem.Spec PyProof.Rows

/-- the promise of every law -/
def spL (K : PySem.W.Frag) : Sp := fun vs H Q _ => ∃ (a : Addr) (ns : List Int), vs = [.ref a] ∧ SqL K H a (ns.map V.int) ∧ ns.length ≤ 63 ∧ ∀ H', Q (.bl true) H'
theorem exm_any {K : PySem.W.Frag} {S : Addr} {cls : Value} {b : Bool} (h1 : PySem.W.subIn K (.ref S) (.type "BaseException") = some true) (h2 : PySem.W.isClsIn K S = true) (h3 : PySem.W.typeIn K (.ref S) = some (.type "type")) (h4 : PySem.W.subIn K cls (.ref S) = some b) :
    PySem.W.exmOne K cls (.ref S) = some b := by
  have e1 : (PySem.W.subIn K (.ref S) (.type "BaseException") == some true) = true := by rw [h1] <;> rfl
  have h2' : (PySem.W.clsIn K S).isSome = true := h2
  have e2 : ((PySem.W.clsIn K S).isSome && PySem.W.typeIn K (.ref S) == some (.type "type")) = true := by rw [h2', h3] <;> rfl
  unfold PySem.W.exmOne PySem.W.kitCls
  rw [if_pos e1]
  exact (if_pos e2).trans h4
theorem walkL {l : PySem.W.OpenLaw} {k : Nat} {q : Program} {loose : List Str} {XP : (Str → Option Value) → Heap → Prop} {YP : World → Heap → Prop} {d : DefRec} {K : Params → PySem.W.Frag} (hn : l.most = some 63) (hdf : d.params.defaults = []) (hk : k ≤ 40)
    (hY : ∀ (w : World) (h : Heap), YP w h → (K w.params).In h)
    (F : ∀ (w : World) (mg : Str → Option Value) (fa : Addr) (h : Heap), (K w.params).In h → h.Ns mainGlobals mg → mg d.name = some (.ref fa) →
      ∃ fd : FuncData, (∀ (s : Shared) (u : Value), BindsTo s fd ⟨[u], []⟩ [("_law_script", u)]) ∧ ∀ base : Heap, (K w.params).In base → base.Ns mainGlobals mg → FnOk l.prog w (K w.params) mg base (L2.CX l.prog w) k fa fd ["_law_script"] (spL (K w.params))) :
    PySem.W.WalkO q loose XP YP l.row.toRowW d [] (fun f vs => PySem.call f vs) :=
  L2.walk_of (n := 63) (k := 40) (x := "_law_script") (CX := fun w => L2.CX l.prog w) (sp := fun w => spL (K w.params)) hn (by decide) hdf ⟨rfl, by decide, by decide⟩ hY
    (fun w mg fa h X G hm => by
      obtain ⟨fd, b, g⟩ := F w mg fa h X G hm
      exact ⟨fd, b, fun base X1 G1 => (g base X1 G1).mono hk⟩)
    (fun _ _ a ns hl _ hS => ⟨a, ns, rfl, hS, hl, fun _ => rfl⟩)
    (fun w H s e s' h => by
      obtain ⟨_, _, _, _, _, _, _, _, _, _, _, _, z⟩ := h
      exact z.elim)
end Tr

/-! Values known by a property alone (EvP): parts of lists of mixed things, tuples handed back; the row that a law draws. -/
namespace Tr
open PySem L2 PySem.Spec PyProof.Rows Evl

abbrev HP := V → Hp → Prop
def Mon (P : HP) : Prop := ∀ v H H', Ex H H' → P v H → P v H'
def EvP (P : HP) (te : TE) (σ : L2.St) (H : Hp) : Prop := ∀ H1, Ex H H1 → ∀ Q : VK, (∀ v H2, Ex H1 H2 → P v H2 → Q v H2) → te σ H1 Q
inductive AllP : List HP → List V → Hp → Prop where
  | nil {H : Hp} : AllP [] [] H
  | cons {P : HP} {Ps : List HP} {v : V} {vs : List V} {H : Hp} : P v H → AllP Ps vs H → AllP (P :: Ps) (v :: vs) H
def EpA (Ps : List HP) (ta : TA) (σ : L2.St) (H : Hp) : Prop := ∀ H1, Ex H H1 → ∀ Q : List V → Hp → Prop, (∀ vs H2, Ex H1 H2 → AllP Ps vs H2 → Q vs H2) → ta σ H1 Q
def RetP (P : HP) (H : Hp) (Q : VK) : Prop := ∀ v H', Ex H H' → P v H' → Q v H'
section
variable {K : PySem.W.Frag} {c : Cs} {E : XK} {σ : L2.St} {H : Hp} {P P' : HP} {Ps : List HP} {te ti : TE} {ta : TA} {v x : V} {vs xs : List V} {D : Ends} {tz : TS}
theorem AllP.len {Ps : List HP} {vs : List V} (h : AllP Ps vs H) : vs.length = Ps.length := by
  induction h with
  | nil => rfl
  | cons _ _ ih => rw [List.length_cons, List.length_cons, ih]
theorem AllP.at {Ps : List HP} {vs : List V} (h : AllP Ps vs H) : ∀ {i : Nat} {P : HP}, Ps[i]? = some P → ∃ v, vs[i]? = some v ∧ P v H := by
  induction h with
  | nil => intro i P e; cases e
  | @cons P Ps v vs H p r ih =>
    intro i P' e
    cases i with
    | zero =>
      cases e
      exact ⟨v, rfl, p⟩
    | succ i => exact ih e
theorem EvP.weak (h : EvP P te σ H) (w : ∀ v H', Ex H H' → P v H' → P' v H') : EvP P' te σ H := fun H1 e Q q => h H1 e Q fun v H2 e2 p => q v H2 e2 (w v H2 (e.trans e2) p)
theorem EvP.mono {H' : Hp} (h : EvP P te σ H) (e : Ex H H') : EvP P te σ H' := fun H1 e1 => h H1 (e.trans e1)
theorem evp_ev (h : Ev te σ H v) : EvP (fun x _ => x = v) te σ H := fun H1 e Q q => h H1 e Q fun H2 e2 => q v H2 e2 rfl
theorem evp_of (h : Ev te σ H v) (hp : ∀ H', Ex H H' → P v H') : EvP P te σ H := fun H1 e Q q => h H1 e Q fun H2 e2 => q v H2 e2 (hp H2 (e.trans e2))
theorem evp_l (h : EvL te σ H xs) : EvP (fun v H => ∃ p, v = .ref p ∧ H p = some (.lst xs)) te σ H := fun H1 e Q q => h H1 e Q fun p H2 _ e2 h2 => q _ H2 e2 ⟨p, rfl, h2⟩
theorem epa_nil : EpA [] tNil σ H := fun H1 _ _ q => q [] H1 (Ex.refl H1) .nil
theorem epa_cons {tr : TA} (h : EvP P te σ H) (hm : Mon P) (hr : EpA Ps tr σ H) : EpA (P :: Ps) (tCons te tr) σ H := fun H1 e _ q =>
  h H1 e _ fun v H2 e2 p => hr H2 (e.trans e2) _ fun vs H3 e3 r => q _ H3 (e2.trans e3) (.cons (hm v H2 H3 e3 p) r)
def MonAll (Ps : List HP) : Prop := ∀ P ∈ Ps, Mon P
theorem AllP.ex {Ps : List HP} {vs : List V} {H H' : Hp} (e : Ex H H') (m : MonAll Ps) (h : AllP Ps vs H) : AllP Ps vs H' := by
  induction h with
  | nil => exact .nil
  | cons p r ih => exact .cons (m _ List.mem_cons_self _ _ _ e p) (ih e fun P hP => m P (List.mem_cons_of_mem _ hP))
theorem mon_dp {d : PyData} : Mon fun v H => Dp K H v d := fun _ _ _ e h => dp_ex e h
theorem mon_eq : Mon fun v _ => v = x := fun _ _ _ _ h => h
/-- a list of such, a tuple of such -/
def LsP (Ps : List HP) : HP := fun v H => ∃ p vs, v = .ref p ∧ H p = some (.lst vs) ∧ AllP Ps vs H
def TuP (Ps : List HP) : HP := fun v H => ∃ p vs, v = .ref p ∧ H p = some (.tup vs) ∧ AllP Ps vs H
theorem epl (h : EpA Ps ta σ H) (m : MonAll Ps) (hl : Ps.length ≤ 100000) : EvP (LsP Ps) (tLst ta) σ H := fun H1 e _ q =>
  h H1 e _ fun vs H2 e2 r => ⟨sz_of (by rw [r.len]; exact hl), fun p hp => q _ _ (e2.trans (Ex.new hp)) ⟨p, vs, rfl, upd_same, r.ex (Ex.new hp) m⟩⟩
theorem epu (h : EpA Ps ta σ H) (m : MonAll Ps) (hl : Ps.length ≤ 100000) : EvP (TuP Ps) (tTup ta) σ H := fun H1 e _ q =>
  h H1 e _ fun vs H2 e2 r => ⟨sz_of (by rw [r.len]; exact hl), fun p hp => q _ _ (e2.trans (Ex.new hp)) ⟨p, vs, rfl, upd_same, r.ex (Ex.new hp) m⟩⟩
theorem at_lt {i : Int} {n : Nat} (h0 : 0 ≤ i) (h1 : i < xs.length) (hv : xs[i.toNat]? = some v) : atI xs i = some v := by
  unfold atI ixN
  rw [if_pos h0, if_pos h1, Option.bind_some]
  exact hv
/-- one of them, by its place -/
theorem ep_ix {i : Int} (h : EvP (LsP Ps) te σ H) (m : MonAll Ps) (hi : ∀ H', Ex H H' → Ev ti σ H' (.int i)) (h0 : 0 ≤ i) (h1 : i < Ps.length) (hp : Ps[i.toNat]? = some P) : EvP P (tOp (rIx K) te ti) σ H := fun H1 e Q q =>
  h H1 e _ fun v H2 e2 ⟨p, vs, ev, h2, r⟩ => by
    subst ev
    obtain ⟨x, hx, px⟩ := r.at hp
    refine hi H2 (e.trans e2) H2 (Ex.refl H2) _ fun H3 e3 => .inl ⟨p, vs, i, x, rfl, rfl, ex_l e3 (SqL.of h2), at_lt (n := 0) h0 (by rw [r.len]; exact h1) hx, q x H3 (e2.trans e3) ?_⟩
    exact m P (List.mem_of_getElem? hp) _ _ _ e3 px
theorem ep_ixT {i : Int} (h : EvP (TuP Ps) te σ H) (m : MonAll Ps) (hi : ∀ H', Ex H H' → Ev ti σ H' (.int i)) (h0 : 0 ≤ i) (h1 : i < Ps.length) (hp : Ps[i.toNat]? = some P) : EvP P (tOp (rIx K) te ti) σ H := fun H1 e Q q =>
  h H1 e _ fun v H2 e2 ⟨p, vs, ev, h2, r⟩ => by
    subst ev
    obtain ⟨x, hx, px⟩ := r.at hp
    refine hi H2 (e.trans e2) H2 (Ex.refl H2) _ fun H3 e3 => .inr (.inl ⟨p, vs, i, x, rfl, rfl, ex_t e3 (SqT.of h2), at_lt (n := 0) h0 (by rw [r.len]; exact h1) hx, q x H3 (e2.trans e3) ?_⟩)
    exact m P (List.mem_of_getElem? hp) _ _ _ e3 px
theorem s_retP (h : EvP P te σ H) (k : RetP P H D.rt) : tRet te D σ H := h H (Ex.refl H) _ k
theorem q_asgP {i : Nat} (h : EvP P te σ H) (k : ∀ v H1, Ex H H1 → P v H1 → tz D (σ.set i (some v)) H1) : tSeq (tAsg te (gName i)) tz D σ H := h H (Ex.refl H) _ k
/-- names for the parts of a tuple -/
theorem q_unp2 {i j : Nat} {P1 P2 : HP} (h : EvP (TuP [P1, P2]) te σ H) (k : ∀ v w H1, Ex H H1 → P1 v H1 → P2 w H1 → tz D ((σ.set i (some v)).set j (some w)) H1) : tSeq (tAsg te (gTup K 2 (gCons (gName i) (gCons (gName j) gNil)))) tz D σ H :=
  h H (Ex.refl H) _ fun v H1 e1 ⟨p, vs, ev, h1, r⟩ => by
    subst ev
    cases r with
    | cons p1 r =>
      cases r with
      | cons p2 r =>
        cases r
        exact ⟨p, _, rfl, SqT.of h1, rfl, _, _, rfl, _, _, rfl, rfl, k _ _ H1 e1 p1 p2⟩
theorem ixN_nat {n j : Nat} (h : j < n) : ixN n (j : Int) = some j := by
  unfold ixN
  rw [if_pos (by omega), if_pos (by omega)]
  rfl
/-- a store of such a thing into a list -/
theorem q_setP {tp tb : TE} {l : Addr} {j : Nat} (hl : H l = some (.lst xs)) (h : EvP P te σ H) (ho : Ev tp σ H (.ref l)) (hi : Ev tb σ H (.int (j : Int))) (hj : j < xs.length) (k : ∀ v H1, Ex H H1 → P v H1 → tz D σ (upd H1 l (.lst (xs.set j v)))) (m : Mon P) :
    tSeq (tAsg te (gSub tp tb rSetL)) tz D σ H :=
  h H (Ex.refl H) _ fun v H1 e1 pv => ho H1 e1 _ fun H2 e2 => hi H2 (e1.trans e2) _ fun H3 e3 =>
    ⟨l, xs, _, j, rfl, rfl, (e1.trans (e2.trans e3)) _ _ hl, ixN_nat hj, k v H3 (e1.trans (e2.trans e3)) (m _ _ _ (e2.trans e3) pv)⟩
/-- on, behind a block -/
theorem nx_mk {f : L2.St → Hp → Prop} {g : VK} {b k : L2.St → Hp → Prop} (h : f σ H) : Ends.nx { nx := f, rt := g, bk := b, ct := k } σ H := h
/-- the error is kept by the name of slot j -/
theorem keep_yes {cls cc : Value} {i j : Nat} {Wout : WX} (hm : PySem.W.exmOne K cls cc = some true) (hi : i < σ.length) (k : ∀ a H1, Ex H H1 → H1 a = some (EO cls a) → tz D (((σ.set i (some (.ref a))).set j (some (.ref a))).set i none) H1) :
    wKeep K cc i (fun _ _ _ => tAsg (tVar i) (gName j)) Wout { D with nx := tz D } cls none σ H :=
  ⟨true, hm, fun _ => ⟨rfl, fun a ha => ⟨_, List.getElem?_set_self hi, k a _ (Ex.new ha) upd_same⟩⟩, fun z => nomatch z⟩
/-- a list that stands at a name, some times; a tuple some times -/
theorem el_repV {a : Addr} {k : Int} {tb : TE} (ha : Ev te σ H (.ref a)) (h2 : H a = some (.lst xs)) (hb : ∀ H1, Ex H H1 → Ev tb σ H1 (.int k)) (hk : -1000 ≤ k ∧ k ≤ 100000) (hz : xs.length * k.toNat ≤ 100000) : EvL (tOp (xMul K) te tb) σ H (List.replicate k.toNat xs).flatten := fun H1 e Q q =>
  ha H1 e _ fun H2 e2 => hb H2 (e.trans e2) H2 (Ex.refl H2) _ fun H3 e3 => .inr (.inl ⟨a, k, xs, rfl, rfl, e3 _ _ (e2 _ _ (e a _ h2)), by omega, by omega, sz_of hz, fun p hp => q p _ (fresh_back (e2.trans e3) hp) ((e2.trans e3).trans (Ex.new hp)) upd_same⟩)
theorem eu_rep {k : Int} {tb : TE} (ha : EvU te σ H xs) (hb : ∀ H1, Ex H H1 → Ev tb σ H1 (.int k)) (hk : 2 ≤ k ∧ k ≤ 1000) (h0 : xs ≠ []) (hz : xs.length ≤ 1000) : EvU (tOp (xMul K) te tb) σ H (List.replicate k.toNat xs).flatten := fun H1 e Q q =>
  ha H1 e _ fun a H2 _ e2 h2 => hb H2 (e.trans e2) H2 (Ex.refl H2) _ fun H3 e3 => .inr (.inr ⟨a, k, xs, rfl, rfl, SqT.of (e3 a _ h2), h0, hk.1, hk.2, hz, fun p hp => q p _ (fresh_back (e2.trans e3) hp) ((e2.trans e3).trans (Ex.new hp)) upd_same⟩)
/-! the drawn row -/
def drawn (sel d : Int) : List Int := if sel = 0 then anyF d (longF d) else going d (longF d)
theorem good_drawn {sel d : Int} (hd : 0 ≤ d) : Good (drawn sel d) := by
  have h := longF_lo d
  unfold drawn
  split
  · exact good_any h.1 h.2
  · exact good_going h.1 h.2
theorem el_drawn {ts td te' : TE} {sel d : Int} (hs : ∀ H', Ex H H' → Ev ts σ H' (.int sel)) (h01 : sel = 0 ∨ sel = 1) (hd : Ev td σ H (.int d)) (he : Ev te' σ H (.int d)) :
    EvL (tCall2 c.f_l_any c.f_l_going (sp_l_any K c) (sp_l_going K c) E0 (tOp (rIx K) (tLst (tCons (tC (.ref c.f_l_any)) (tCons (tC (.ref c.f_l_going)) tNil))) ts) (tCons td (tCons (tCall (sp_l_long K c) [] E0 (tCons te' tNil)) tNil))) σ H ((drawn sel d).map V.int) := fun H1 e1 Q q => by
  have hlong := longF_lo d
  have hfe : ∀ f : Addr, atI [V.ref c.f_l_any, V.ref c.f_l_going] sel = some (.ref f) → Ev (tOp (rIx K) (tLst (tCons (tC (.ref c.f_l_any)) (tCons (tC (.ref c.f_l_going)) tNil))) ts) σ H (.ref f) := fun f hf =>
    ev_ix (i := sel) (evq_s (evs_new (el_lst (ea_cons ev_c (ea_cons ev_c ea_nil)) (by show 2 ≤ 100000; decide)))) (fun H' e' => hs H' e') hf
  have harg : ∀ H4, Ex H H4 → EvA (tCons td (tCons (tCall (sp_l_long K c) [] E0 (tCons te' tNil)) tNil)) σ H4 [.int d, .int (longF d)] := fun H4 e4 => ea_cons (hd.mono e4) (ea_cons (ev_l_long (he.mono e4)) ea_nil)
  rcases h01 with rfl | rfl
  · refine hfe c.f_l_any rfl H1 e1 _ fun H2 e2 => .inl ⟨rfl, harg H2 (e1.trans e2) H2 (Ex.refl _) _ fun H3 e3 => ⟨d, longF d, rfl, by omega, by omega, fun p H4 hp e4 h4 => q p H4 (fresh_back (e2.trans e3) hp) ((e2.trans e3).trans e4) h4⟩⟩
  · refine hfe c.f_l_going rfl H1 e1 _ fun H2 e2 => .inr ⟨rfl, harg H2 (e1.trans e2) H2 (Ex.refl _) _ fun H3 e3 => ⟨d, longF d, rfl, by omega, by omega, fun p H4 hp e4 h4 => q p H4 (fresh_back (e2.trans e3) hp) ((e2.trans e3).trans e4) h4⟩⟩
end
end Tr

/-! a op b op' c op'' d; more words of known data; what exchanged throws do to the places. -/
namespace Tr
open PySem L2 PySem.Spec PyProof.Rows Evl

def tChain3 (r r' r'' : R2) (ta tb tc td : TE) : TE := fun σ H Q => ta σ H fun x H1 => tb σ H1 fun y H2 => r x y H2 fun z H3 => ∃ k, z = .bl k ∧
  (if k = true then tc σ H3 fun w H4 => r' y w H4 fun z' H5 => ∃ k', z' = .bl k' ∧ (if k' = true then td σ H5 fun v H6 => r'' w v H6 Q else Q (.bl false) H5) else Q (.bl false) H3)
section
variable {X : Cx} {a b c d : Expr} {ta tb tc td : TE} {pos : Pos}
theorem pe_chain3 {op op' op'' : CmpOp} {r r' r'' : R2} (ho : OpR X (compareOp op) r) (ho' : OpR X (compareOp op') r') (ho'' : OpR X (compareOp op'') r'') (ha : PE X a ta) (hb : PE X b tb) (hc : PE X c tc) (hd : PE X d td)
    (hm : lastMarks [op, op', op''] [b, c, d] = false := by with_unfolding_all rfl) : PE X (.Compare a [op, op', op''] [b, c, d] pos) (tChain3 r r' r'' ta tb tc td) := by
  refine ⟨fun pins s σ H Q I h => ?_⟩
  refine Compare_chain (thn (ha.run pins s σ H _ I h) fun v s1 ⟨x, H1, I1, r1, q1⟩ => chain_link (thn (hb.run pins s1 σ H1 _ I1 q1) fun u s2 ⟨y, H2, I2, r2, q2⟩ =>
    thn (ho pins s2 σ H2 x y v u _ I2 r1 r2 q2) fun _ s3 ⟨z, H3, I3, r3, k, e, q3⟩ => ?_)) hm
  subst e
  cases r3
  refine wpAny_truthy_bool ?_
  cases k with
  | false => exact ite_ff ⟨.bl false, H3, I3, rfl, q3⟩
  | true =>
    refine ite_tt (chain_link (thn (hc.run pins s3 σ H3 _ I3 q3) fun w' s4 ⟨z', H4, I4, r4, q4⟩ => thn (ho' pins s4 σ H4 y z' u w' _ I4 r2 r4 q4) fun _ s5 ⟨z5, H5, I5, r5, k', e', q5⟩ => ?_))
    subst e'
    cases r5
    refine wpAny_truthy_bool ?_
    cases k' with
    | false => exact ite_ff ⟨.bl false, H5, I5, rfl, q5⟩
    | true => exact ite_tt (chain_last (thn (hd.run pins s5 σ H5 _ I5 q5) fun w6 s6 ⟨z6, H6, I6, r6, q6⟩ => ho'' pins s6 σ H6 z' z6 w' w6 Q I6 r4 r6 q6))
theorem pt_chain3 {op op' op'' : CmpOp} {r r' r'' : R2} (ho : OpR X (compareOp op) r) (ho' : OpR X (compareOp op') r') (ho'' : OpR X (compareOp op'') r'') (ha : PE X a ta) (hb : PE X b tb) (hc : PE X c tc) (hd : PE X d td)
    (hm : lastMarks [op, op', op''] [b, c, d] = false := by with_unfolding_all rfl) : PT X (.Compare a [op, op', op''] [b, c, d] pos) (tTest (tChain3 r r' r'' ta tb tc td)) := by
  refine ⟨fun pins s σ H Q I h => ?_⟩
  refine isTrue_chain (thn (ha.run pins s σ H _ I h) fun v s1 ⟨x, H1, I1, r1, q1⟩ => test_link (thn (hb.run pins s1 σ H1 _ I1 q1) fun u s2 ⟨y, H2, I2, r2, q2⟩ =>
    thn (ho pins s2 σ H2 x y v u _ I2 r1 r2 q2) fun _ s3 ⟨z, H3, I3, r3, k, e, q3⟩ => ?_)) hm
  subst e
  cases r3
  refine wpAny_truthy_bool ?_
  cases k with
  | false =>
    obtain ⟨k', e', q'⟩ := q3
    cases e'
    exact ite_ff ⟨H3, I3, q'⟩
  | true =>
    refine ite_tt (test_link (thn (hc.run pins s3 σ H3 _ I3 q3) fun w' s4 ⟨z', H4, I4, r4, q4⟩ => thn (ho' pins s4 σ H4 y z' u w' _ I4 r2 r4 q4) fun _ s5 ⟨z5, H5, I5, r5, k', e', q5⟩ => ?_))
    subst e'
    cases r5
    refine wpAny_truthy_bool ?_
    cases k' with
    | false =>
      obtain ⟨k2, e2, q'⟩ := q5
      cases e2
      exact ite_ff ⟨H5, I5, q'⟩
    | true =>
      refine ite_tt (test_last (thn (hd.run pins s5 σ H5 _ I5 q5) fun w6 s6 ⟨z6, H6, I6, r6, q6⟩ => thn (ho'' pins s6 σ H6 z' z6 w' w6 _ I6 r4 r6 q6) fun _ s7 ⟨z7, H7, I7, r7, k3, e3, q7⟩ => ?_))
      subst e3
      cases r7
      exact wpAny_truthy_bool ⟨H7, I7, q7⟩
end
section
variable {K : PySem.W.Frag} {σ : L2.St} {H : Hp} {ta tb tc td : TE}
/-- 0 <= one < other < bound -/
theorem ev_chain3 {i j k m : Int} (ha : Ev ta σ H (.int i)) (hb : Ev tb σ H (.int j)) (hc : Ev tc σ H (.int k)) (hd : Ev td σ H (.int m)) : Ev (tChain3 xLe xLt xLt ta tb tc td) σ H (.bl (decide (i ≤ j) && (decide (j < k) && decide (k < m)))) := fun H1 e Q q =>
  ha H1 e _ fun H2 e2 => hb H2 (e.trans e2) _ fun H3 e3 => ⟨i, j, rfl, rfl, decide (i ≤ j), rfl, by
    cases h1 : decide (i ≤ j) with
    | false =>
      rw [h1, Bool.false_and] at q
      exact q H3 (e2.trans e3)
    | true =>
      rw [h1, Bool.true_and] at q
      exact hc H3 ((e.trans e2).trans e3) _ fun H4 e4 => ⟨j, k, rfl, rfl, decide (j < k), rfl, by
        cases h2 : decide (j < k) with
        | false =>
          rw [h2, Bool.false_and] at q
          exact q H4 ((e2.trans e3).trans e4)
        | true =>
          rw [h2, Bool.true_and] at q
          exact hd H4 (((e.trans e2).trans e3).trans e4) _ fun H5 e5 => ⟨k, m, rfl, rfl, q H5 (((e2.trans e3).trans e4).trans e5)⟩⟩⟩
end
/-! ### a row goes on just where no two throws land together -/
def Goes (ns : List Int) : Prop := ∀ i j, i < ns.length → j < ns.length → place ns i = place ns j → i = j
theorem fndP_none {ns : List Int} {j : Nat} : fndP ns j = none ↔ ∀ i, i < j → place ns i ≠ place ns j := by
  show (List.range j).find? _ = none ↔ _
  rw [List.find?_eq_none]
  constructor
  · intro h i hi he
    exact h i (List.mem_range.mpr hi) (decide_eq_true he)
  · intro h i hi hd
    exact h i (List.mem_range.mp hi) (of_decide_eq_true hd)
theorem goes_iff {ns : List Int} : clashF ns = none ↔ Goes ns := by
  constructor
  · intro h i j hi hj he
    have key : ∀ j, j < ns.length → ∀ i, i < j → place ns i ≠ place ns j := fun j hj => by
      rw [← fndP_none]
      have h' := List.findSome?_eq_none_iff.mp h j (List.mem_range.mpr hj)
      exact Option.map_eq_none_iff.mp h'
    rcases Nat.lt_trichotomy i j with h1 | h1 | h1
    · exact absurd he (key j hj i h1)
    · exact h1
    · exact absurd he.symm (key i hi j h1)
  · intro h
    refine clashF_none fun j hj => fndP_none.mpr fun i hi he => ?_
    have := h i j (by omega) hj he
    omega
/-! ### two throws exchanged -/
def xchF (ns : List Int) (i j : Nat) : List Int := (ns.set i ((j : Int) - i + ns.getD j 0)).set j (ns.getD i 0 - ((j : Int) - i))
def swp (i j t : Nat) : Nat := if t = i then j else if t = j then i else t
theorem getD_set {ns : List Int} {i t : Nat} {x : Int} (hi : i < ns.length) : (ns.set i x).getD t 0 = if t = i then x else ns.getD t 0 := by
  rw [List.getD_eq_getElem?_getD, List.getD_eq_getElem?_getD]
  by_cases h : t = i
  · subst h
    rw [if_pos rfl, List.getElem?_set_self hi]
    rfl
  · rw [if_neg h, List.getElem?_set_ne (Ne.symm h)]
section
variable {ns : List Int} {i j t : Nat}
theorem xch_len : (xchF ns i j).length = ns.length := by unfold xchF; rw [List.length_set, List.length_set]
theorem xch_at (hi : i < j) (hj : j < ns.length) : (xchF ns i j).getD t 0 = if t = j then ns.getD i 0 - ((j : Int) - i) else if t = i then (j : Int) - i + ns.getD j 0 else ns.getD t 0 := by
  unfold xchF
  rw [getD_set (by rw [List.length_set]; exact hj), getD_set (by omega)]
theorem xch_place (hi : i < j) (hj : j < ns.length) : place (xchF ns i j) t = place ns (swp i j t) := by
  unfold place swp
  rw [xch_len, xch_at hi hj]
  by_cases h1 : t = j
  · subst h1
    rw [if_pos rfl, if_neg (by omega), if_pos rfl]
    congr 1
    omega
  · by_cases h2 : t = i
    · subst h2
      rw [if_neg (by omega), if_pos rfl, if_pos rfl]
      congr 1
      omega
    · rw [if_neg h1, if_neg h2, if_neg h2, if_neg h1]
theorem swp_lt {n : Nat} (hi : i < n) (hj : j < n) (ht : t < n) : swp i j t < n := by
  unfold swp
  split
  · exact hj
  · split
    · exact hi
    · exact ht
theorem swp_swp : swp i j (swp i j t) = t := by
  unfold swp
  by_cases h1 : t = i
  · subst h1
    rw [if_pos rfl]
    by_cases h2 : j = t
    · rw [if_pos h2, h2]
    · rw [if_neg h2, if_pos rfl]
  · rw [if_neg h1]
    by_cases h2 : t = j
    · rw [if_pos h2, if_pos rfl, h2]
    · rw [if_neg h2, if_neg h1, if_neg h2]
theorem xch_goes1 (hi : i < j) (hj : j < ns.length) (h : Goes ns) : Goes (xchF ns i j) := fun a b ha hb he => by
  rw [xch_len] at ha hb
  rw [xch_place hi hj, xch_place hi hj] at he
  have z := h _ _ (swp_lt (by omega) hj ha) (swp_lt (by omega) hj hb) he
  have z2 := congrArg (swp i j) z
  rwa [swp_swp, swp_swp] at z2
theorem list_ext0 {xs ys : List Int} (hl : xs.length = ys.length) (h : ∀ t, t < xs.length → xs.getD t 0 = ys.getD t 0) : xs = ys := by
  apply List.ext_getElem hl
  intro t h1 h2
  have z := h t h1
  rw [List.getD_eq_getElem?_getD, List.getD_eq_getElem?_getD, List.getElem?_eq_getElem h1, List.getElem?_eq_getElem h2] at z
  exact z
theorem xch_twice (hi : i < j) (hj : j < ns.length) : xchF (xchF ns i j) i j = ns := by
  refine list_ext0 (by rw [xch_len, xch_len]) fun t _ => ?_
  rw [xch_at hi (by rw [xch_len]; exact hj), xch_at hi hj, xch_at hi hj, xch_at hi hj]
  by_cases h1 : t = j
  · subst h1
    rw [if_pos rfl, if_neg (by omega), if_pos rfl]
    omega
  · by_cases h2 : t = i
    · subst h2
      rw [if_neg h1, if_pos rfl, if_pos rfl]
      omega
    · rw [if_neg h1, if_neg h2, if_neg h1, if_neg h2]
theorem xch_goes (hi : i < j) (hj : j < ns.length) : Goes (xchF ns i j) ↔ Goes ns := by
  refine ⟨fun h => ?_, xch_goes1 hi hj⟩
  have z := xch_goes1 (ns := xchF ns i j) hi (by rw [xch_len]; exact hj) h
  rwa [xch_twice hi hj] at z
theorem sum_set : ∀ {ns : List Int} {i : Nat} {x : Int}, i < ns.length → (ns.set i x).sum = ns.sum - ns.getD i 0 + x
  | n :: ns, 0, x, _ => by
    rw [List.set_cons_zero, List.sum_cons, List.sum_cons, List.getD_cons_zero]
    omega
  | n :: ns, i + 1, x, h => by
    rw [List.set_cons_succ, List.sum_cons, List.sum_cons, List.getD_cons_succ, sum_set (by simpa using h)]
    omega
theorem xch_sum (hi : i < j) (hj : j < ns.length) : (xchF ns i j).sum = ns.sum := by
  unfold xchF
  rw [sum_set (by rw [List.length_set]; exact hj), sum_set (by omega), getD_set (by omega), if_neg (by omega)]
  omega
end
end Tr

/-! Errors with fields raised: their __init__ defs; defs with a default; the places at all turns; rows that go on, things, states at a turn. -/
namespace Tr
open PySem L2 PySem.Spec PyProof.Rows Evl

/-! ### errors with fields -/
/-- the class x at C, its __init__ of two fields (of one) -/
def Rais2 (P : Program) (w : World) (K : PySem.W.Frag) (mg : Str → Option Value) (base : Heap) (x : Str) (C : Addr) (f g : Str) : Prop :=
  ∃ (fI : Addr) (fd : FuncData), ExI K mg x C fI ∧ PySem.W.findIn K (.ref C) f = some none ∧ PySem.W.findIn K (.ref C) g = some none ∧ FnOk P w K mg base (L2.CX P w) 1 fI fd ["self", f, g] (spInit2 K f g) ∧ Binds K fd ["self", f, g] []
def Rais1 (P : Program) (w : World) (K : PySem.W.Frag) (mg : Str → Option Value) (base : Heap) (x : Str) (C : Addr) (f : Str) : Prop :=
  ∃ (fI : Addr) (fd : FuncData), ExI K mg x C fI ∧ PySem.W.findIn K (.ref C) f = some none ∧ FnOk P w K mg base (L2.CX P w) 1 fI fd ["self", f] (spInit1 K f) ∧ Binds K fd ["self", f] []
section
variable {X : Cx} {C fI : Addr} {x : Str} {p pos pos2 : Pos} {e e2 : Expr} {ta : TA} {W : WX} {f g : Str}
theorem ps_raise2R (hc : X.calm = true) (tk : Takes X W) (R : Rais2 X.prog X.w X.K X.mg X.base x C f g) (hr : Room 2 X.A) (hg : Gl X x) (ha : PA X [e, e2] ta) (hdb : (x == ("__debug__" : Str)) = false := by decide)
    (he : starEach (e :: [e2]) X.env = (false, eval e X.env) :: starEach [e2] X.env := by rfl) (hpl : (backTo pos (starEach [e2] X.env)).any (·.1) = false := by rfl) :
    PS X (.Raise (some (.Call (.Name x p) [e, e2] [] pos)) none pos2) (tRaise2 C f g W ta) := by
  obtain ⟨fI, fd, P, n1, n2, F, b⟩ := R
  exact ps_raise2 hc tk P n1 n2 F hr b hg ha hdb he hpl
theorem ps_raise1R (hc : X.calm = true) (tk : Takes X W) (R : Rais1 X.prog X.w X.K X.mg X.base x C f) (hr : Room 2 X.A) (hg : Gl X x) (ha : PA X [e] ta) (hdb : (x == ("__debug__" : Str)) = false := by decide)
    (he : starEach (e :: []) X.env = (false, eval e X.env) :: starEach [] X.env := by rfl) (hpl : (backTo pos (starEach [] X.env)).any (·.1) = false := by rfl) :
    PS X (.Raise (some (.Call (.Name x p) [e] [] pos)) none pos2) (tRaise1 C f W ta) := by
  obtain ⟨fI, fd, P, n1, F, b⟩ := R
  exact ps_raise1 hc tk P n1 F hr b hg ha hdb he hpl
end
theorem refs_toss {T : Addr} : PySem.HandSPX.refsVE [.ref T, .type "ValueError", .type "Exception", .type "BaseException", .type "object"] = true :=
  (by decide +kernel : PySem.HandSPX.refsVE [.type "ValueError", .type "Exception", .type "BaseException", .type "object"] = true)
/-- what the two shapes of __init__ say, and that they keep their promise -/
def t_init2 (K : PySem.W.Frag) (m f g : Str) : TS := tSeq (tDrop (tVeI K (tCons (tVar 0) (tCons (tC (.str m)) tNil)))) (tSeq (tOst K f (tVar 0) (tVar 1)) (tOst K g (tVar 0) (tVar 2)))
def t_init1 (K : PySem.W.Frag) (m f : Str) : TS := tSeq (tDrop (tVeI K (tCons (tVar 0) (tCons (tC (.str m)) tNil)))) (tOst K f (tVar 0) (tVar 1))
section
variable {K : PySem.W.Frag} {m f g : Str} {vs : List V} {H : Hp} {Q : VK} {E : XK}
theorem pure_init2 (h : spInit2 K f g vs H Q E) : t_init2 K m f g { nx := fun _ H' => Q .non H', rt := Q } (start ["self", f, g] vs) H := by
  obtain ⟨a, C, x, y, rfl, T, n1, n2, ha, k⟩ := h
  refine ⟨.ref a, rfl, a, C, [.str m], rfl, (show 1 ≤ 1000 by decide), T, ha, ?_⟩
  refine ⟨x, rfl, .ref a, rfl, a, C, rfl, T, n1, .inl ⟨ha, fun d hd hda => ?_⟩⟩
  refine ⟨y, rfl, .ref a, rfl, a, C, rfl, T, n2, .inr ⟨d, [(f, x)], upd_same, ?_, (show 1 ≤ 900 by decide), k d hd hda _ rfl⟩⟩
  rw [upd_ne hda, upd_same]
theorem pure_init1 (h : spInit1 K f vs H Q E) : t_init1 K m f { nx := fun _ H' => Q .non H', rt := Q } (start ["self", f] vs) H := by
  obtain ⟨a, C, x, rfl, T, n1, ha, k⟩ := h
  refine ⟨.ref a, rfl, a, C, [.str m], rfl, (show 1 ≤ 1000 by decide), T, ha, ?_⟩
  exact ⟨x, rfl, .ref a, rfl, a, C, rfl, T, n1, .inl ⟨ha, fun d hd hda => k d hd hda _ rfl⟩⟩
end
/-- an error with these fields -/
def RetX (C : Addr) (fs : List (Str × V)) (H : Hp) (E : XK) : Prop := ∀ d H', H d = none → Ex H H' → H' d = some (.xd fs) → E (.ref C) (some d) H'
/-! ### a def with a default -/
structure PDd (P : Program) (w : World) (K : PySem.W.Frag) (mg : Str → Option Value) (base : Heap) (k : Nat) (x : Str) (f : Addr) (ps : List Str) (dvs : List V) (sp : Sp) : Prop where
  fn : ∃ (fd : FuncData) (ds : List Value), FnOk P w K mg base (L2.CX P w) k f fd ps sp ∧ Binds K fd ps ds ∧ Vals dvs ds
  g : mg x = some (.ref f)
  kp : PySem.W.keepIn K (.ref f) = true
section
variable {X : Cx} {k j : Nat} {f g : Addr} {ps qs : List Str} {sp sq : Sp} {E : XK} {x y : Str} {p pos : Pos} {e fe : Expr} {es : List Expr} {t : TA} {tf : TE} {dvs : List V}
theorem pe_pdd (D : PDd X.prog X.w X.K X.mg X.base k x f ps dvs sp) (hr : Room k X.A) (hx : Passes (L2.CX X.prog X.w) X E) (hg : Gl X x) (ha : PA X (e :: es) t) (hdb : (x == ("__debug__" : Str)) = false := by decide)
    (he : starEach (e :: es) X.env = (false, eval e X.env) :: starEach es X.env := by rfl) (hpl : (backTo pos (starEach es X.env)).any (·.1) = false := by rfl) :
    PE X (.Call (.Name x p) (e :: es) [] pos) (tCall sp dvs E t) := by
  obtain ⟨fd, ds, F, b, v⟩ := D.fn
  exact pe_call F hr hg D.g D.kp b v hx ha hdb he hpl
theorem pe_pddS {E : L2.St → XK} (D : PDd X.prog X.w X.K X.mg X.base k x f ps dvs sp) (hr : Room k X.A) (hx : ∀ σ, PassesAt (L2.CX X.prog X.w) X σ (E σ)) (hg : Gl X x) (ha : PA X (e :: es) t) (hdb : (x == ("__debug__" : Str)) = false := by decide)
    (he : starEach (e :: es) X.env = (false, eval e X.env) :: starEach es X.env := by rfl) (hpl : (backTo pos (starEach es X.env)).any (·.1) = false := by rfl) :
    PE X (.Call (.Name x p) (e :: es) [] pos) (tCallSD sp dvs E t) := by
  obtain ⟨fd, ds, F, b, v⟩ := D.fn
  exact pe_callSD F hr hg D.g D.kp b v hx ha hdb he hpl
/-- one of two defs that a list holds, called within a try's body -/
def tCall2S (f g : Addr) (sp sq : Sp) (E : L2.St → XK) (tf : TE) (t : TA) : TE := fun σ H Q => tf σ H fun v H1 => (v = .ref f ∧ t σ H1 fun vs H2 => sp vs H2 Q (E σ)) ∨ (v = .ref g ∧ t σ H1 fun vs H2 => sq vs H2 Q (E σ))
theorem pe_call2S {E : L2.St → XK} (D : PD X.prog X.w X.K X.mg X.base k x f ps sp) (C : PD X.prog X.w X.K X.mg X.base k y g qs sq) (hr : Room k X.A) (hx : ∀ σ, PassesAt (L2.CX X.prog X.w) X σ (E σ)) (hf : PE X fe tf) (ha : PA X (e :: es) t)
    (ht : eval (.Call fe (e :: es) [] pos) X.env = (do callWith pos (← eval fe X.env) [] (backTo pos (starEach (e :: es) X.env)) (backToKw pos (keywordEach [] X.env))) := by rfl)
    (he : starEach (e :: es) X.env = (false, eval e X.env) :: starEach es X.env := by rfl) (hpl : (backTo pos (starEach es X.env)).any (·.1) = false := by rfl) :
    PE X (.Call fe (e :: es) [] pos) (tCall2S f g sp sq E tf t) := by
  obtain ⟨fd, F, b⟩ := D.fn
  obtain ⟨gd, G, c⟩ := C.fn
  refine ⟨fun pins s σ H Q I h => ?_⟩
  refine Call_ (thn (hf.run pins s σ H _ I h) fun u s1 ⟨v, H1, I1, rv, q⟩ => ?_) ht
  rcases q with ⟨rfl, q⟩ | ⟨rfl, q⟩
  · cases rv
    refine PySem.W.callWith_K (h₀ := X.base) I.ok.mod.kin D.kp (thn (ha.run pos pins s1 σ H1 _ I1 q) fun us s2 ⟨vs, H2, I2, r, q2⟩ => ⟨I2.kIn, ?_⟩) he hpl
    exact run_fnS F hr b (hx σ) I2 r q2
  · cases rv
    refine PySem.W.callWith_K (h₀ := X.base) I.ok.mod.kin C.kp (thn (ha.run pos pins s1 σ H1 _ I1 q) fun us s2 ⟨vs, H2, I2, r, q2⟩ => ⟨I2.kIn, ?_⟩) he hpl
    exact run_fnS G hr c (hx σ) I2 r q2
end
section
variable {P : Program} {w : World} {K : PySem.W.Frag} {mg : Str → Option Value} {base : Heap}
/-- the def x(a, b=d) of the text st stands at f -/
structure DefAtD (K : PySem.W.Frag) (mg : Str → Option Value) (x : Str) (st : Stmt) (ps : List Str) (d : V) (f : Addr) : Prop where
  fn : ∃ fd, FunD K x x (defArgs st) (defBody st) (defScope st) [d] [] f fd ∧ Binds K fd ps [] ∧ ∃ ds, Vals [d] ds ∧ Binds K fd ps ds
  g : mg x = some (.ref f)
theorem DefAtD.keeps {x : Str} {st : Stmt} {f : Addr} {N ps : List Str} {k : Nat} {sp : Sp} {d : V} (D : DefAtD K mg x st ps d f) (S : FnScope N ps (defScope st)) (len : ∀ vs H Q E, sp vs H Q E → vs.length = ps.length)
    (hbody : ∀ (cdv : Value) (A : Around) (outer : List Env) (s : Shared) (H : Hp) (vs : List V) (Q : VK) (E : XK), Room k (A.deeper (envOfC x (defScope st) s.heap.objs.size f cdv)) → sp vs H Q E →
      ∃ t, PSs (cxOf (L2.CX P w) P w K mg base N x (defScope st) f cdv A outer s H E) (defBody st) t ∧ t { nx := fun _ H' => Q .non H', rt := Q } (start N vs) H) : PD P w K mg base (k + 1) x f ps sp ∧ PDd P w K mg base (k + 1) x f ps [d] sp := by
  obtain ⟨fd, F, b, ds, v, b1⟩ := D.fn
  have G := F.ok S len hbody
  exact ⟨⟨⟨fd, G, b⟩, D.g, F.kp⟩, ⟨fd, ds, G, b1, v⟩, D.g, F.kp⟩
end
theorem dflt_all {K : PySem.W.Frag} {fd : FuncData} {ps : List Str} (h : ∃ ds, Vals [] ds ∧ Binds K fd ps ds) : Binds K fd ps [] := by
  obtain ⟨ds, v, b⟩ := h
  cases v
  exact b
/-! ### the height at any turn -/
def hAt (ns : List Int) (t : Int) : Int := gi ns (t % ns.length)
/-- no two turns of all come down together -/
def GoesZ (h : Int → Int) : Prop := ∀ s t : Int, s + h s = t + h t → s = t
theorem hAt_nat {ns : List Int} {t : Nat} (h : t < ns.length) : hAt ns t = ns.getD t 0 := by
  unfold hAt gi
  rw [Int.emod_eq_of_lt (by omega) (by omega)]
  rfl
theorem hAt_add {ns : List Int} {t k : Int} : hAt ns (t + k * ns.length) = hAt ns t := by
  unfold hAt
  rw [Int.add_mul_emod_self_right]
theorem hAt_mod {ns : List Int} {t : Int} : hAt ns (t % ns.length) = hAt ns t := by
  unfold hAt
  rw [Int.emod_emod]
theorem hAt_of {ns : List Int} {s t : Int} (h : s % ns.length = t % ns.length) : hAt ns s = hAt ns t := by
  unfold hAt
  rw [h]
theorem goes_z {ns : List Int} (hn : 0 < ns.length) : Goes ns ↔ GoesZ (hAt ns) := by
  have pl : ∀ t : Nat, t < ns.length → place ns t = ((t : Int) + hAt ns t) % ns.length := fun t ht => by rw [hAt_nat ht]; rfl
  constructor
  · intro g s t e
    have hs0 : 0 ≤ s % (ns.length : Int) := Int.emod_nonneg _ (by omega)
    have hs1 : s % (ns.length : Int) < ns.length := Int.emod_lt_of_pos _ (by omega)
    have ht0 : 0 ≤ t % (ns.length : Int) := Int.emod_nonneg _ (by omega)
    have ht1 : t % (ns.length : Int) < ns.length := Int.emod_lt_of_pos _ (by omega)
    have key : ∀ u : Int, 0 ≤ u % (ns.length : Int) → u % (ns.length : Int) < ns.length → place ns (u % (ns.length : Int)).toNat = (u + hAt ns u) % ns.length := fun u h0 h1 => by
      rw [pl _ (by omega), Int.toNat_of_nonneg h0, hAt_mod, Int.emod_add_emod]
    have z := g (s % (ns.length : Int)).toNat (t % (ns.length : Int)).toNat (by omega) (by omega) (by rw [key s hs0 hs1, key t ht0 ht1, e])
    have z2 : s % (ns.length : Int) = t % (ns.length : Int) := by omega
    have z3 := hAt_of z2
    omega
  · intro g i j hi hj e
    rw [pl i hi, pl j hj] at e
    obtain ⟨k, hk⟩ := Int.dvd_of_emod_eq_zero (Int.emod_eq_emod_iff_emod_sub_eq_zero.mp e)
    have z := g i (j + k * ns.length) (by rw [hAt_add, show k * (ns.length : Int) = ns.length * k from Int.mul_comm _ _]; omega)
    have e1 : ((i : Nat) : Int) % ns.length = (j : Int) % ns.length := by rw [z, Int.add_mul_emod_self_right]
    rw [Int.emod_eq_of_lt (by omega) (by omega), Int.emod_eq_of_lt (by omega) (by omega)] at e1
    omega
/-- the state at a turn, by the heights thrown ahead of it -/
def stF (h : Int → Int) (t : Int) : Int := (List.range 9).foldl (fun s (k : Nat) => if h (t - ((k : Int) + 1)) ≥ (k : Int) + 1 then Builtin.bitOr s (1 * 2 ^ (h (t - ((k : Int) + 1)) - ((k : Int) + 1)).toNat) else s) 0
theorem stF_congr {h h' : Int → Int} {t t' : Int} (e : ∀ b, h (t - b) = h' (t' - b)) : stF h t = stF h' t' := by
  unfold stF
  congr 1
  funext s k
  rw [e]
def stUp (h : Int → Int) (t : Int) (n : Nat) : Int := (List.range n).foldl (fun s (k : Nat) => if h (t - ((k : Int) + 1)) ≥ (k : Int) + 1 then Builtin.bitOr s (1 * 2 ^ (h (t - ((k : Int) + 1)) - ((k : Int) + 1)).toNat) else s) 0
theorem stUp_succ (h : Int → Int) (t : Int) (n : Nat) : stUp h t (n + 1) = if h (t - ((n : Int) + 1)) ≥ (n : Int) + 1 then Builtin.bitOr (stUp h t n) (1 * 2 ^ (h (t - ((n : Int) + 1)) - ((n : Int) + 1)).toNat) else stUp h t n := by
  unfold stUp
  rw [List.range_succ, List.foldl_append]
  rfl
theorem mem_getD0 {ns : List Int} {t : Nat} (h : t < ns.length) : ns.getD t 0 ∈ ns := by
  rw [List.getD_eq_getElem?_getD, List.getElem?_eq_getElem h]
  exact List.getElem_mem h
theorem hAt_hgt {ns : List Int} (hg : Good ns) (t : Int) : 0 ≤ hAt ns t ∧ hAt ns t ≤ 9 := by
  have h1 := hg.1
  have b0 : 0 ≤ t % (ns.length : Int) := Int.emod_nonneg _ (by omega)
  have b1 : t % (ns.length : Int) < ns.length := Int.emod_lt_of_pos _ (by omega)
  exact hg.2.2 _ (mem_getD0 (by omega))
/-! ### promises -/
def Need (K : PySem.W.Frag) (c : Cs) (x : V) (H : Hp) (E : XK) (go : List Int → Prop) : Prop := (Bad K H x ∧ RetE c.norow H E) ∨
  ∃ ns, Row K H x ns ∧ Good ns ∧ ((∃ i j : Nat, clashF ns = some (i, j) ∧ RetX c.clash [("other", .int j), ("one", .int i)] H E) ∨ (clashF ns = none ∧ go ns))
def sp_need_going (K : PySem.W.Frag) (c : Cs) : Sp := fun vs H Q E => ∃ x, vs = [x] ∧ Need K c x H E fun _ => RetV .non H Q
def sp_things (K : PySem.W.Frag) (c : Cs) : Sp := fun vs H Q E => ∃ x, vs = [x] ∧ Need K c x H E fun ns => RetV (.int (ns.sum / ns.length)) H Q
def sp_state_at (K : PySem.W.Frag) (c : Cs) : Sp := fun vs H Q E => ∃ x t, vs = [x, t] ∧ Typed K H t ∧ Need K c x H E fun ns => ((∀ n : Int, t = .int n → n < 0) ∧ RetE c.noturn H E) ∨ ∃ n : Int, t = .int n ∧ 0 ≤ n ∧ RetV (.int (stF (hAt ns) n)) H Q
/-- need_going: slots row, pair -/
def t_need_going (K : PySem.W.Frag) (c : Cs) (E : XK) : TS :=
  (tSeq (tAsg (tCall (sp_clash K c) [] E (tCons (tVar 0) tNil)) (gName 1))
  (tIfS (tTest (tOp xNotN (tVar 1) (tC .non))) (tRaise2 c.clash "one" "other" (fun cls d _ H => E cls d H) (tCons (tOp (rIx K) (tVar 1) (tC (.int 0))) (tCons (tOp (rIx K) (tVar 1) (tC (.int 1))) tNil))) tNext))

/-- things: slots row -/
def t_things (K : PySem.W.Frag) (c : Cs) (E : XK) : TS :=
  (tSeq (tDrop (tCall (sp_need_going K c) [] E (tCons (tVar 0) tNil)))
  (tRet (tOp xDiv (tCB (cSum K) (tCons (tVar 0) tNil)) (tCB (cLen K) (tCons (tVar 0) tNil)))))

/-- state_at: slots row, turn, state, back, height -/
def t_state_at (K : PySem.W.Frag) (c : Cs) (E : XK) : TS :=
  (tSeq (tDrop (tCall (sp_need_going K c) [] E (tCons (tVar 0) tNil)))
  (tSeq (tIfS (tOr (tNot (tB (tCall (sp_is_number K c) [] E0 (tCons (tVar 1) tNil)))) (tTest (tOp xLt (tVar 1) (tC (.int 0))))) (fun _ σ H => (fun cls d _ H => E cls d H) (.ref c.noturn) none σ H) tNext)
  (tSeq (tAsg (tC (.int 0)) (gName 2))
  (tSeq (tFor (iRng2 (tCons (tC (.int 1)) (tCons (tOp (xAdd K) (tC (.int 9)) (tC (.int 1))) tNil))) (gName 3) (tSeq (tAsg (tOp (rIx K) (tVar 0) (tOp xMod (tOp xSub (tVar 1) (tVar 3)) (tCB (cLen K) (tCons (tVar 0) tNil)))) (gName 4))
  (tIfS (tTest (tOp xGe (tVar 4) (tVar 3))) (tAug 2 (tOp xShl (tC (.int 1)) (tOp xSub (tVar 4) (tVar 3))) xOr) tNext)))
  (tRet (tVar 2))))))

section
variable {K : PySem.W.Frag} {c : Cs} {vs : List V} {H : Hp} {Q : VK} {E : XK} {ns : List Int}
theorem atI_zero {α : Type} {x : α} {xs : List α} : atI (x :: xs) 0 = some x := by simp [atI, ixN]
theorem num_is {x : V} (h : numV x = true) : ∃ i, x = .int i := by
  cases x <;> first | exact ⟨_, rfl⟩ | cases h
theorem ev_lenI {σ : L2.St} {ta : TE} {ns : List Int} (h : EvQ K ta σ H (ns.map V.int)) : Ev (tCB (cLen K) (tCons ta tNil)) σ H (.int ((ns.length : Nat) : Int)) := by
  have z := ev_lenQ h
  rwa [List.length_map] at z
theorem ev_ixI {σ : L2.St} {ta tb : TE} {ns : List Int} {t : Nat} (h : EvQ K ta σ H (ns.map V.int)) (hb : ∀ H1, Ex H H1 → Ev tb σ H1 (.int (t : Int))) (ht : t < ns.length) : Ev (tOp (rIx K) ta tb) σ H (.int (ns.getD t 0)) :=
  ev_ix h hb (atI_ints (by omega) (by omega))
/-- row[t % len(row)] -/
theorem ev_hAt {σ : L2.St} {ta tb : TE} {t : Int} (h : EvQ K ta σ H (ns.map V.int)) (hb : ∀ H1, Ex H H1 → Ev tb σ H1 (.int (t % (ns.length : Int)))) (hn : 0 < ns.length) : Ev (tOp (rIx K) ta tb) σ H (.int (hAt ns t)) :=
  ev_ix h hb (atI_ints (Int.emod_nonneg _ (by omega)) (Int.emod_lt_of_pos _ (by omega)))
theorem told_many {σ : L2.St} {cls : Value} {b : Bool} {D : Ends} {tz : TS} {cc : Value} {ts : Addr → Value → Option Addr → TS} {Wout : WX} {r : List (Value × (Addr → Value → Option Addr → TS))} {d : Option Addr}
    (hm : PySem.W.exmOne K cls cc = some b) (h1 : b = true → ∀ a, H a = none → ts a cls d { D with nx := tz D } σ H) (h2 : b = false → wMany K Wout { D with nx := tz D } r cls d σ H) : wMany K Wout { D with nx := tz D } ((cc, ts) :: r) cls d σ H := ⟨b, hm, h1, h2⟩
theorem s_asgH {σ : L2.St} {D : Ends} {tz : TS} {i : Nat} {v : V} (k : tz D (σ.set i (some v)) H) : tAsg (tC v) (gName i) { D with nx := tz D } σ H := k
theorem dpa_ints_inv {H : Hp} : ∀ {ns : List Int} {vs : List V}, DpAll K H vs (ns.map PyData.int) → vs = ns.map V.int
  | [], _, .nil => rfl
  | n :: ns, _, .cons h hs => by
    cases h
    rw [dpa_ints_inv hs]
    rfl
theorem flat_str {w : Str} (h : PyData.strOk w = true) : Flat 0 (.str w) := ⟨by simp [PyData.canLay0, h], by simp [PyData.depth]⟩
/-- a plain value: the same in every heap -/
def Plain (v : V) : Prop := (∃ i, v = .int i) ∨ (∃ b, v = .bl b) ∨ v = .non ∨ ∃ s, v = .str s
theorem Plain.typed {v : V} {H : Hp} (h : Plain v) : Typed K H v := by
  rcases h with ⟨i, rfl⟩ | ⟨b, rfl⟩ | rfl | ⟨s, rfl⟩
  · exact typed_int
  · exact typed_bl
  · exact typed_non
  · exact typed_str
/-- clash(..) is None -/
theorem ev_isClash {σ : L2.St} {ta : TE} {ns : List Int} (ha : EvQ K ta σ H (ns.map V.int)) (hg : Good ns) : Ev (tOp xIsN (tCall (sp_clash K c) [] E (tCons ta tNil)) (tC .non)) σ H (.bl (clashF ns).isNone) := fun H1 e1 Q q =>
  evd_clash ha hg H1 e1 _ fun v H2 e2 hv => ev_c H2 (Ex.refl _) _ fun H3 e3 => ⟨rfl, by
    have z : decide (v = .non) = (clashF ns).isNone := by
      cases h : clashF ns with
      | none =>
        rw [h] at hv
        cases hv
        rfl
      | some t =>
        obtain ⟨i, j⟩ := t
        rw [h] at hv
        cases hv
        rfl
    rw [z]
    exact q H3 (e2.trans e3)⟩
theorem fresh_of {H' : Hp} {d : Addr} (e : Ex H H') (h : H' d = none) : H d = none := by
  cases z : H d with
  | none => rfl
  | some o => rw [e _ _ z] at h; cases h
/-- .. with what follows told once -/
theorem q_whenR {σ : L2.St} {D : Ends} {tt : TT} {tu tz : TS} {b : Bool} (h : EvT tt σ H b) (h1 : b = true → (∀ H', Ex H H' → tz D σ H') → ∀ H1, Ex H H1 → tu { D with nx := tz D } σ H1) (h2 : b = false → (∀ H', Ex H H' → tz D σ H') → ∀ H1, Ex H H1 → tz D σ H1)
    (k : ∀ H', Ex H H' → tz D σ H') : tSeq (tIfS tt tu tNext) tz D σ H := q_when h (fun hb H1 e1 => h1 hb k H1 e1) fun hb H1 e1 => h2 hb k H1 e1
/-- a list with a number too high behind it is no row -/
theorem bad_app {p : Addr} {ns : List Int} {m : Int} (hm : 9 < m) (hp : H p = some (.lst ((ns ++ [m]).map V.int))) : Bad K H (.ref p) := .inr ⟨p, _, rfl, .inl (SqL.of hp), fun y hy => by
  obtain ⟨i, _, rfl⟩ := List.mem_map.mp hy
  exact typed_int, fun z => by
  have w := List.all_eq_true.mp z.2.2 (.int m) (List.mem_map.mpr ⟨m, List.mem_append_right _ (List.mem_singleton.mpr rfl), rfl⟩)
  have w2 : (decide (0 ≤ m) && decide (m ≤ 9)) = true := w
  rw [Bool.and_eq_true, decide_eq_true_eq, decide_eq_true_eq] at w2
  omega⟩
theorem ev_things {σ : L2.St} {ta : TE} {ns : List Int} (ha : EvQ K ta σ H (ns.map V.int)) (hg : Good ns) (hc : clashF ns = none) : Ev (tCall (sp_things K c) [] E (tCons ta tNil)) σ H (.int (ns.sum / ns.length)) := fun H1 e1 Q q =>
  ha H1 e1 _ fun p H2 e2 hp => ⟨.ref p, rfl, .inr ⟨ns, ⟨p, rfl, hp⟩, hg, .inr ⟨hc, fun H3 e3 => q H3 (e2.trans e3)⟩⟩⟩
theorem ev_state_at {σ : L2.St} {ta tb : TE} {ns : List Int} {n : Int} (ha : EvQ K ta σ H (ns.map V.int)) (hb : ∀ H1, Ex H H1 → Ev tb σ H1 (.int n)) (hg : Good ns) (hc : clashF ns = none) (h0 : 0 ≤ n) : Ev (tCall (sp_state_at K c) [] E (tCons ta (tCons tb tNil))) σ H (.int (stF (hAt ns) n)) := fun H1 e1 Q q =>
  ha H1 e1 _ fun p H2 e2 hp => hb H2 (e1.trans e2) H2 (Ex.refl _) _ fun H3 e3 => ⟨.ref p, .int n, rfl, typed_int, .inr ⟨ns, ⟨p, rfl, ex_q e3 hp⟩, hg, .inr ⟨hc, .inr ⟨n, rfl, h0, fun H4 e4 => q H4 ((e2.trans e3).trans e4)⟩⟩⟩⟩
theorem ev_state_at0 {σ : L2.St} {ta : TE} {ns : List Int} (ha : EvQ K ta σ H (ns.map V.int)) (hg : Good ns) (hc : clashF ns = none) : Ev (tCall (sp_state_at K c) [.int 0] E (tCons ta tNil)) σ H (.int (stF (hAt ns) 0)) := fun H1 e1 Q q =>
  ha H1 e1 _ fun p H2 e2 hp => ⟨.ref p, .int 0, rfl, typed_int, .inr ⟨ns, ⟨p, rfl, hp⟩, hg, .inr ⟨hc, .inr ⟨0, rfl, Int.le_refl _, fun H4 e4 => q H4 (e2.trans e4)⟩⟩⟩⟩
theorem need_up {x : V} {H' : Hp} {go go' : List Int → Prop} (e : Ex H H') (h : Need K c x H E go) (k : ∀ ns, Row K H x ns → Good ns → clashF ns = none → go ns → go' ns) : Need K c x H' E go' := by
  rcases h with ⟨hb, q⟩ | ⟨ns, hr, hg, ⟨i, j, hc, q⟩ | ⟨hc, q⟩⟩
  · exact .inl ⟨bad_ex e hb, fun H1 e1 => q H1 (e.trans e1)⟩
  · exact .inr ⟨ns, row_ex e hr, hg, .inl ⟨i, j, hc, fun d H1 hd e1 h1 => q d H1 (by
      cases z : H d with
      | none => rfl
      | some o => rw [e _ _ z] at hd; cases hd) (e.trans e1) h1⟩⟩
  · exact .inr ⟨ns, row_ex e hr, hg, .inr ⟨hc, k ns hr hg hc q⟩⟩
theorem s_augO {σ : L2.St} {te : TE} {r : R2} {i : Nat} {x y z : V} {D : Ends} (hx : σ[i]? = some (some x)) (h : Ev te σ H y) (hr : ∀ H1, Ex H H1 → RV r x y H1 z) (k : ∀ H1, Ex H H1 → D.nx (σ.set i (some z)) H1) : tAug i te r D σ H :=
  ⟨x, hx, h H (Ex.refl H) _ fun H1 e1 => hr H1 e1 H1 (Ex.refl _) _ fun H2 e2 => k H2 (e1.trans e2)⟩
theorem pure_need_going (h : sp_need_going K c vs H Q E) : t_need_going K c E { nx := fun _ H' => Q .non H', rt := Q } (start ["row", "pair"] vs) H := by
  obtain ⟨x, rfl, ⟨hb, q⟩ | ⟨ns, hr, hg, h⟩⟩ := h
  · exact ⟨x, rfl, x, rfl, .inl ⟨hb, q⟩⟩
  refine ⟨x, rfl, x, rfl, .inr ⟨ns, hr, hg, fun v H1 e1 hv => ?_⟩⟩
  refine nx_mk ?_
  rcases h with ⟨i, j, hc, q⟩ | ⟨hc, q⟩
  · rw [hc] at hv
    cases hv with
    | @tup p xs _ hs ha =>
    cases ha with
    | cons a1 ha =>
    cases ha with
    | cons a2 ha =>
    cases ha
    cases a1
    cases a2
    refine s_when (b := true) (et_test (ev_op (ev_var (i := 1) rfl) ev_c rv_notN)) (fun _ H2 e2 => ?_) (fun z => nomatch z)
    have pr : ∀ {H' : Hp}, Ex H2 H' → EvQ K (tVar 1) [some x, some (V.ref p)] H' [.int (i : Int), .int (j : Int)] := fun e => evq_of (ev_var rfl) (.inr (ex_t (e2.trans e) hs))
    refine ea_cons (ev_ix (i := 0) (pr (Ex.refl _)) (fun _ _ => ev_c) rfl) (ea_cons (ev_ix (i := 1) (pr (Ex.refl _)) (fun _ _ => ev_c) rfl) ea_nil) H2 (Ex.refl _) _ fun H3 e3 => ⟨.int i, .int j, rfl, fun d hd => ?_⟩
    exact q d _ (fresh_back ((e1.trans e2).trans e3) hd) (((e1.trans e2).trans e3).trans (Ex.new hd)) upd_same
  · rw [hc] at hv
    cases hv
    exact s_when (b := false) (et_test (ev_op (ev_var (i := 1) rfl) ev_c rv_notN)) (fun z => nomatch z) fun _ H2 e2 => q H2 (e1.trans e2)
theorem pure_things (h : sp_things K c vs H Q E) : t_things K c E { nx := fun _ H' => Q .non H', rt := Q } (start ["row"] vs) H := by
  obtain ⟨x, rfl, h⟩ := h
  refine ⟨x, rfl, x, rfl, need_up (Ex.refl _) h fun ns hr hg hc q H1 e1 => ?_⟩
  obtain ⟨p, rfl, hq⟩ := hr
  have h1 := hg.1
  have h2 := hg.2.1
  exact s_ret (v := .int (ns.sum / ns.length)) (ev_op (ev_sum (evq_of (ev_var rfl) (ex_q e1 hq))) (ev_lenI (evq_of (ev_var rfl) (ex_q e1 hq))) (rv_div (by k_caughtB))) fun H2 e2 => q H2 (e1.trans e2)
theorem pure_state_at (h : sp_state_at K c vs H Q E) : t_state_at K c E { nx := fun _ H' => Q .non H', rt := Q } (start ["row", "turn", "state", "back", "height"] vs) H := by
  obtain ⟨x, t, rfl, ty, h⟩ := h
  refine ⟨x, rfl, x, rfl, need_up (Ex.refl _) h fun ns hr hg hc q H1 e1 => ?_⟩
  obtain ⟨p, rfl, hq⟩ := hr
  have h1 := hg.1
  have h2 := hg.2.1
  have test : EvT (tOr (tNot (tB (tCall (sp_is_number K c) [] E0 (tCons (tVar 1) tNil)))) (tTest (tOp xLt (tVar 1) (tC (.int 0))))) [some (V.ref p), some t, none, none, none] H1 (match t with | .int n => decide (n < 0) | _ => true) := by
    cases ht : numV t with
    | false => exact et_is (et_or (b := true) (et_not (et_B (ev_is_number (ev_var rfl) (typed_ex e1 ty)))) fun z => by rw [ht] at z; cases z) (by rw [ht]; cases t <;> first | rfl | cases ht)
    | true =>
      obtain ⟨n, rfl⟩ := num_is ht
      exact et_or (et_not (et_B (ev_is_number (ev_var rfl) (typed_ex e1 ty)))) fun _ => et_test (ev_op (ev_var rfl) ev_c rv_lt)
  refine nx_mk (q_when test (fun hb H2 e2 => ?_) fun hb H2 e2 => ?_)
  · rcases q with ⟨_, q⟩ | ⟨n, rfl, h0, q⟩
    · exact q H2 (e1.trans e2)
    · exact absurd (of_decide_eq_true hb) (by omega)
  rcases q with ⟨z, q⟩ | ⟨n, rfl, h0, q⟩
  · cases t with
    | int n => exact absurd (z n rfl) (of_decide_eq_false hb)
    | _ => cases hb
  have e12 := e1.trans e2
  refine q_asg (v := .int 0) ev_c fun H3 e3 => ?_
  have e13 := e12.trans e3
  refine q_forR2 (lo := 1) (n := 10) (ea_cons ev_c (ea_cons (ev_op ev_c ev_c rv_addI) ea_nil)) (by decide) (fun i σ' H' => Ex H H' ∧ ∃ u v, σ' = [some (V.ref p), some (.int n), some (.int (stUp (hAt ns) n i)), u, v])
    (fun H4 e4 => ⟨e13.trans e4, none, none, rfl⟩) ?_ ?_
  · rintro i σ' H' hi ⟨eH, u, v, rfl⟩
    have hi9 : i < 9 := by omega
    refine q_asg (v := .int (hAt ns (n - ((i : Int) + 1)))) (ev_is (ev_hAt (evq_of (ev_var rfl) (ex_q eH hq)) (fun H5 e5 => ev_op (ev_op (ev_var rfl) (ev_var rfl) rv_sub) (ev_lenI (evq_of (ev_var rfl) (ex_q (eH.trans e5) hq))) (rv_mod (by omega))) (by omega)) ?_) fun H4 e4 => ?_
    · show V.int (hAt ns (n - (1 + (i : Int)))) = _
      rw [show (1 : Int) + i = i + 1 by omega]
    have hb := hAt_hgt hg (n - ((i : Int) + 1))
    refine s_when (b := decide ((i : Int) + 1 ≤ hAt ns (n - ((i : Int) + 1)))) (et_is (et_test (ev_op (ev_var rfl) (ev_var rfl) rv_ge)) (by rw [show (1 : Int) + i = i + 1 by omega])) (fun hb' H5 e5 => ?_) fun hb' H5 e5 => ?_
    · have hge := of_decide_eq_true hb'
      refine s_augO (x := .int (stUp (hAt ns) n i)) rfl (ev_op ev_c (ev_op (ev_var rfl) (ev_var rfl) rv_sub) (rv_shl ⟨by omega, by omega, by decide⟩)) (fun _ _ => rv_or) fun H6 e6 => ⟨by k_allIn, some (.int (1 + (i : Int))), some (.int (hAt ns (n - ((i : Int) + 1)))), ?_⟩
      rw [stUp_succ, if_pos hge, show (1 : Int) + i = i + 1 by omega]
      rfl
    · refine ⟨by k_allIn, some (.int (1 + (i : Int))), some (.int (hAt ns (n - ((i : Int) + 1)))), ?_⟩
      rw [stUp_succ, if_neg (of_decide_eq_false hb')]
      rfl
  · rintro σ' H' ⟨eH, u, v, rfl⟩
    exact s_ret (v := .int (stF (hAt ns) n)) (ev_var rfl) fun H5 e5 => q H5 (eH.trans e5)
end
end Tr

/-! States: what they let, what a throw makes of them; comprehensions over range(a, b) and over a list or a tuple. -/
namespace Tr
open PySem L2 PySem.Spec PyProof.Rows Evl

section
variable {K : PySem.W.Frag} {σ : L2.St} {H : Hp} {t : TT} {te tl : TE} {ta : TA}
/-- [e for x in range(a, b) if t] -/
theorem el_lcR2 {j : Nat} {vs : List Nat} {lo n : Int} (f : Nat → Bool) (v : Nat → V) (h : EvA ta σ H [.int lo, .int n]) (hn : 0 ≤ lo ∧ lo ≤ 40000 ∧ 0 ≤ n ∧ n ≤ 40000) (hw : ∀ x, wipe ((wipe σ vs).set j (some x)) vs = wipe σ vs)
    (ht : ∀ (i : Nat) H1, Ex H H1 → lo + (i : Int) < n → EvT t ((wipe σ vs).set j (some (.int (lo + (i : Int))))) H1 (f i)) (he : ∀ (i : Nat) H1, Ex H H1 → lo + (i : Int) < n → f i = true → Ev te ((wipe σ vs).set j (some (.int (lo + (i : Int))))) H1 (v i)) :
    EvL (tLc (iRng2 ta) (gName j) t te vs) σ H (given (n - lo).toNat f v) := fun H0 e Q q => h H0 e _ fun H1 e1 => ⟨lo, n, rfl, ⟨by omega, by omega, by omega, by omega⟩, fun Dl hD =>
  lc_range (lo := lo) (n := (n - lo).toNat) (Cw H1 f v Dl) ⟨hD, Ex.new hD, upd_same⟩ (fun i H' hi p =>
    ⟨hw _, cw_turn p (by omega) (ht i H1 (e.trans e1) (by omega)) (fun hf => he i H1 (e.trans e1) (by omega) hf)⟩) (fun H' p => q Dl H' (fresh_back e1 p.1) (e1.trans p.2.1) p.2.2)⟩
theorem el_lcT {a : Addr} {xs : List V} {j : Nat} {vs : List Nat} (f : Nat → Bool) (v : Nat → V) (h : Ev tl σ H (.ref a)) (hx : SqT K H a xs) (hz : xs.length ≤ 40000) (hw : ∀ x, wipe ((wipe σ vs).set j (some x)) vs = wipe σ vs)
    (ht : ∀ (i : Nat) (x : V) H1, Ex H H1 → xs[i]? = some x → EvT t ((wipe σ vs).set j (some x)) H1 (f i)) (he : ∀ (i : Nat) (x : V) H1, Ex H H1 → xs[i]? = some x → f i = true → Ev te ((wipe σ vs).set j (some x)) H1 (v i)) :
    EvL (tLc (iTup K tl) (gName j) t te vs) σ H (given xs.length f v) := fun H0 e Q q => h H0 e _ fun H1 e1 => ⟨a, rfl, ⟨xs, ex_t (e.trans e1) hx⟩, fun Dl hD =>
  lc_tup (xs := xs) (Cw H1 f v Dl) ⟨hD, Ex.new hD, upd_same⟩ (fun i H' _ p => ex_t ((e.trans e1).trans p.2.1) hx) (fun i x H' hi p => ⟨hw x, cw_turn p (by have := (List.getElem?_eq_some_iff.mp hi).1; omega) (ht i x H1 (e.trans e1) hi) (fun hf => he i x H1 (e.trans e1) hi hf)⟩)
    (fun H' p => q Dl H' (fresh_back e1 p.1) (e1.trans p.2.1) p.2.2)⟩
/-- over a list or a tuple at a name -/
theorem el_lcQ {a : Addr} {xs : List V} {j : Nat} {vs : List Nat} (f : Nat → Bool) (v : Nat → V) (h : Ev tl σ H (.ref a)) (hx : SqQ K H a xs) (hz : xs.length ≤ 40000) (hw : ∀ x, wipe ((wipe σ vs).set j (some x)) vs = wipe σ vs)
    (ht : ∀ (i : Nat) (x : V) H1, Ex H H1 → xs[i]? = some x → EvT t ((wipe σ vs).set j (some x)) H1 (f i)) (he : ∀ (i : Nat) (x : V) H1, Ex H H1 → xs[i]? = some x → f i = true → Ev te ((wipe σ vs).set j (some x)) H1 (v i)) :
    EvL (tLc (iSeq K tl) (gName j) t te vs) σ H (given xs.length f v) := fun H0 e Q q => by
  rcases hx with hx | hx
  · exact .inl (el_lcL f v h hx hz hw ht he H0 e Q q)
  · exact .inr (el_lcT f v h hx hz hw ht he H0 e Q q)
/-- list(range(n)) -/
theorem el_listRg {n : Int} (h : Ev te σ H (.int n)) (hr : RgOk 0 n) : EvL (tLstRg (tRg1 te)) σ H (rgV 0 n) := fun H1 e Q q =>
  h H1 e _ fun H2 e2 => ⟨n, rfl, hr, fun l hl => q l _ (fresh_back e2 hl) (e2.trans (Ex.new hl)) upd_same⟩
end
/-- filtered, then mapped -/
theorem given_ints {n : Nat} {f : Nat → Bool} {g : Nat → Int} : given n f (fun i => V.int (g i)) = (((List.range n).filter f).map g).map V.int := by
  unfold given
  rw [List.map_map]
  rfl
/-! ### bits -/
def bitS (s : Int) (k : Nat) : Bool := decide (s / 2 ^ k % 2 = 1)
def letsF (s : Int) : List Int := if s % 2 = 0 then [0] else ((List.range 9).filter fun i => !bitS s (i + 1)).map fun (i : Nat) => 1 + (i : Int)
def thrownF (s h : Int) : Int := (if 0 < h then Builtin.bitOr s (1 * 2 ^ h.toNat) else s) / 2
/-- a state -/
def OkS (t : V) : Bool := match t with
  | .int s => decide (0 ≤ s) && decide (s ≤ 511)
  | _ => false
theorem okS_is {t : V} (h : OkS t = true) : ∃ s, t = .int s ∧ 0 ≤ s ∧ s ≤ 511 := by
  cases t with
  | int s =>
    have h : (decide (0 ≤ s) && decide (s ≤ 511)) = true := h
    rw [Bool.and_eq_true, decide_eq_true_eq, decide_eq_true_eq] at h
    exact ⟨s, rfl, h⟩
  | _ => cases h
theorem okS_int {s : Int} (h0 : 0 ≤ s) (h1 : s ≤ 511) : OkS (.int s) = true := by
  show (decide (0 ≤ s) && decide (s ≤ 511)) = true
  rw [decide_eq_true h0, decide_eq_true h1]
  rfl
theorem lets_len (s : Int) : (letsF s).length ≤ 9 ∧ (letsF s).length ≤ 100 := by
  unfold letsF
  split
  · exact ⟨by decide, by decide⟩
  · have z := List.length_filter_le (fun i => !bitS s (i + 1)) (List.range 9)
    rw [List.length_range] at z
    rw [List.length_map]
    omega
theorem lets_hgt {s h : Int} (m : h ∈ letsF s) : 0 ≤ h ∧ h ≤ 9 := by
  unfold letsF at m
  split at m
  · rw [List.mem_singleton.mp m]
    decide
  · obtain ⟨i, hi, rfl⟩ := List.mem_map.mp m
    have := List.mem_range.mp (List.mem_filter.mp hi).1
    omega
/-! ### promises -/
def NeedS (K : PySem.W.Frag) (c : Cs) (x : V) (H : Hp) (E : XK) (go : Int → Prop) : Prop := Typed K H x ∧ ((OkS x = false ∧ RetE c.nostate H E) ∨ ∃ s, x = .int s ∧ 0 ≤ s ∧ s ≤ 511 ∧ go s)
def sp_need_state (K : PySem.W.Frag) (c : Cs) : Sp := fun vs H Q E => ∃ x, vs = [x] ∧ NeedS K c x H E fun _ => RetV .non H Q
def sp_lets (K : PySem.W.Frag) (c : Cs) : Sp := fun vs H Q E => ∃ x, vs = [x] ∧ NeedS K c x H E fun s => RetL ((letsF s).map V.int) H Q
def sp_thrown (K : PySem.W.Frag) (c : Cs) : Sp := fun vs H Q E => ∃ x t, vs = [x, t] ∧ Typed K H t ∧ NeedS K c x H E fun s => ((∀ h : Int, t = .int h → ¬ h ∈ letsF s) ∧ RetE c.nothrow H E) ∨ ∃ h : Int, t = .int h ∧ h ∈ letsF s ∧ RetV (.int (thrownF s h)) H Q
/-- need_state: slots thing -/
def t_need_state (K : PySem.W.Frag) (c : Cs) (E : XK) : TS :=
  (tIfS (tOr (tNot (tB (tCall (sp_is_number K c) [] E0 (tCons (tVar 0) tNil)))) (tNot (tTest (tChain xLe xLe (tC (.int 0)) (tVar 0) (tC (.int 511)))))) (fun _ σ H => (fun cls d _ H => E cls d H) (.ref c.nostate) none σ H) tNext)

/-- lets: slots state, height -/
def t_lets (K : PySem.W.Frag) (c : Cs) (E : XK) : TS :=
  (tSeq (tDrop (tCall (sp_need_state K c) [] E (tCons (tVar 0) tNil)))
  (tSeq (tIfS (tTest (tOp (xEq K) (tOp xAnd (tVar 0) (tC (.int 1))) (tC (.int 0)))) (tRet (tLst (tCons (tC (.int 0)) tNil))) tNext)
  (tRet (tLc (iRng2 (tCons (tC (.int 1)) (tCons (tOp (xAdd K) (tC (.int 9)) (tC (.int 1))) tNil))) (gName 1) (tTest (tOp (xEq K) (tOp xAnd (tOp xShr (tVar 0) (tVar 1)) (tC (.int 1))) (tC (.int 0)))) (tVar 1) [1]))))

/-- thrown: slots state, height -/
def t_thrown (K : PySem.W.Frag) (c : Cs) (E : XK) : TS :=
  (tSeq (tIfS (tOr (tNot (tB (tCall (sp_is_number K c) [] E0 (tCons (tVar 1) tNil)))) (tTest (tOp (xNotIn K) (tVar 1) (tCall (sp_lets K c) [] E (tCons (tVar 0) tNil))))) (tSeq (tDrop (tCall (sp_need_state K c) [] E (tCons (tVar 0) tNil)))
  (fun _ σ H => (fun cls d _ H => E cls d H) (.ref c.nothrow) none σ H)) tNext)
  (tSeq (tIfS (tTest (tOp xGt (tVar 1) (tC (.int 0)))) (tAug 0 (tOp xShl (tC (.int 1)) (tVar 1)) xOr) tNext)
  (tRet (tOp xShr (tVar 0) (tC (.int 1))))))

section
variable {K : PySem.W.Frag} {c : Cs} {vs : List V} {H : Hp} {Q : VK} {E : XK}
theorem needs_up {x : V} {H' : Hp} {go go' : Int → Prop} (e : Ex H H') (h : NeedS K c x H E go) (k : ∀ s, 0 ≤ s → s ≤ 511 → go s → go' s) : NeedS K c x H' E go' := by
  obtain ⟨ty, ⟨hb, q⟩ | ⟨s, rfl, h0, h1, q⟩⟩ := h
  · exact ⟨typed_ex e ty, .inl ⟨hb, fun H1 e1 => q H1 (e.trans e1)⟩⟩
  · exact ⟨typed_int, .inr ⟨s, rfl, h0, h1, k s h0 h1 q⟩⟩
theorem pure_need_state (h : sp_need_state K c vs H Q E) : t_need_state K c E { nx := fun _ H' => Q .non H', rt := Q } (start ["thing"] vs) H := by
  obtain ⟨x, rfl, ty, h⟩ := h
  have test : EvT (tOr (tNot (tB (tCall (sp_is_number K c) [] E0 (tCons (tVar 0) tNil)))) (tNot (tTest (tChain xLe xLe (tC (.int 0)) (tVar 0) (tC (.int 511)))))) (start ["thing"] [x]) H (!OkS x) := by
    cases hn : numV x with
    | false => exact et_is (et_or (b := true) (et_not (et_B (ev_is_number (ev_var rfl) ty))) fun z => by rw [hn] at z; cases z) (by rw [hn]; cases x <;> first | rfl | cases hn)
    | true =>
      obtain ⟨n, rfl⟩ := num_is hn
      exact et_or (et_not (et_B (ev_is_number (ev_var rfl) ty))) fun _ => et_not (et_test (ev_chain ev_c (ev_var rfl) ev_c))
  refine s_when test (fun hb H2 e2 => ?_) fun hb H2 e2 => ?_
  · rcases h with ⟨_, q⟩ | ⟨s, rfl, h0, h1, q⟩
    · exact q H2 e2
    · rw [okS_int h0 h1] at hb
      cases hb
  · rcases h with ⟨z, q⟩ | ⟨s, rfl, h0, h1, q⟩
    · rw [z] at hb
      cases hb
    · exact q H2 e2
theorem bit_shift {s : Int} {k : Nat} : decide (Builtin.bitAnd (s / 2 ^ k) 1 = 0) = !bitS s k := by
  rw [PyProof.Rows.bitAnd_m1]
  unfold bitS
  by_cases h : s / 2 ^ k % 2 = 1
  · rw [decide_eq_true h, decide_eq_false (by omega)]
    rfl
  · rw [decide_eq_false h, decide_eq_true (by omega)]
    rfl
theorem pure_lets (h : sp_lets K c vs H Q E) : t_lets K c E { nx := fun _ H' => Q .non H', rt := Q } (start ["state", "height"] vs) H := by
  obtain ⟨x, rfl, h⟩ := h
  refine ⟨x, rfl, x, rfl, ?_⟩
  obtain ⟨ty, ⟨hb, q⟩ | ⟨s, rfl, h0, h1, q⟩⟩ := h
  · exact ⟨ty, .inl ⟨hb, q⟩⟩
  refine ⟨typed_int, .inr ⟨s, rfl, h0, h1, fun H1 e1 => nx_mk ?_⟩⟩
  refine q_when (b := decide (s % 2 = 0)) (et_is (et_test (ev_op (ev_op (ev_var rfl) ev_c rv_and) ev_c rv_eqI)) (by rw [PyProof.Rows.bitAnd_m1])) (fun hb H2 e2 => ?_) fun hb H2 e2 => ?_
  · refine s_retL (xs := [.int 0]) (el_lst (ea_cons ev_c ea_nil) (by show 1 ≤ 100000; decide)) fun p H3 hp e3 h3 => q p H3 (fresh_back (e1.trans e2) hp) ((e1.trans e2).trans e3) ?_
    unfold letsF
    rw [if_pos (of_decide_eq_true hb)]
    exact h3
  · refine s_retL (xs := (letsF s).map V.int) ?_ fun p H3 hp e3 h3 => q p H3 (fresh_back (e1.trans e2) hp) ((e1.trans e2).trans e3) h3
    have z := el_lcR2 (σ := [some (V.int s), none]) (H := H2) (t := tTest (tOp (xEq K) (tOp xAnd (tOp xShr (tVar 0) (tVar 1)) (tC (.int 1))) (tC (.int 0)))) (te := tVar 1) (j := 1) (vs := [1]) (lo := 1) (n := 10) (ta := tCons (tC (.int 1)) (tCons (tOp (xAdd K) (tC (.int 9)) (tC (.int 1))) tNil))
      (fun i => !bitS s (i + 1)) (fun i => .int (1 + (i : Int))) (ea_cons ev_c (ea_cons (ev_op ev_c ev_c rv_addI) ea_nil)) (by decide) (fun _ => rfl)
      (fun i H3 e3 hi => et_is (et_test (ev_op (ev_op (ev_op (ev_var rfl) (ev_var rfl) (rv_shr (by omega))) ev_c rv_and) ev_c rv_eqI)) (by rw [show ((1 : Int) + (i : Int)).toNat = i + 1 by omega, bit_shift])) (fun i H3 e3 hi _ => ev_var rfl)
    rw [given_ints (g := fun i => 1 + (i : Int))] at z
    unfold letsF
    rw [if_neg (of_decide_eq_false hb)]
    exact z
theorem eqv_int {i j : Int} : eqV (.int i) (.int j) = decide (i = j) := by
  show (i == j) = _
  rw [Bool.eq_iff_iff, beq_iff_eq, decide_eq_true_eq]
theorem in_ints {h : Int} : ∀ {ns : List Int}, inV (.int h) (ns.map V.int) = decide (h ∈ ns)
  | [] => rfl
  | n :: ns => by
    show (eqV (.int n) (.int h) || inV (.int h) (ns.map V.int)) = _
    rw [in_ints (ns := ns), eqv_int, Bool.eq_iff_iff]
    simp only [Bool.or_eq_true, decide_eq_true_eq, List.mem_cons]
    constructor
    · rintro (z | z)
      · exact .inl z.symm
      · exact .inr z
    · rintro (z | z)
      · exact .inl z.symm
      · exact .inr z
theorem flat_all {ns : List Int} : (ns.map V.int).all flatV = true := List.all_eq_true.mpr fun x hx => by
  obtain ⟨i, _, rfl⟩ := List.mem_map.mp hx
  rfl
theorem or_no {σ : L2.St} {t u : TT} {Q : Bool → Hp → Prop} (h1 : EvT t σ H false) (k : ∀ H1, Ex H H1 → u σ H1 Q) : tOr t u σ H Q := h1 H (Ex.refl _) _ fun H1 e1 => k H1 e1
theorem pure_thrown (h : sp_thrown K c vs H Q E) : t_thrown K c E { nx := fun _ H' => Q .non H', rt := Q } (start ["state", "height"] vs) H := by
  obtain ⟨x, t, rfl, ty, tx, h⟩ := h
  -- no number
  cases hn : numV t with
  | false =>
    have test : EvT (tOr (tNot (tB (tCall (sp_is_number K c) [] E0 (tCons (tVar 1) tNil)))) (tTest (tOp (xNotIn K) (tVar 1) (tCall (sp_lets K c) [] E (tCons (tVar 0) tNil))))) (start ["state", "height"] [x, t]) H true :=
      et_is (et_or (b := true) (et_not (et_B (ev_is_number (ev_var rfl) ty))) fun z => by rw [hn] at z; cases z) (by rw [hn]; rfl)
    refine q_when test (fun _ H2 e2 => ?_) fun hb => nomatch hb
    refine ⟨x, rfl, x, rfl, typed_ex e2 tx, ?_⟩
    rcases h with ⟨hb, q⟩ | ⟨s, rfl, h0, h1, q⟩
    · exact .inl ⟨hb, fun H3 e3 => q H3 (e2.trans e3)⟩
    · refine .inr ⟨s, rfl, h0, h1, fun H3 e3 => nx_mk ?_⟩
      rcases q with ⟨_, q⟩ | ⟨n, rfl, _, _⟩
      · exact q H3 (e2.trans e3)
      · cases hn
  | true =>
    obtain ⟨n, rfl⟩ := num_is hn
    rcases h with ⟨hb, q⟩ | ⟨s, rfl, h0, h1, q⟩
    · refine or_no (et_not (et_B (ev_is_number (ev_var rfl) ty))) fun H1 e1 => ?_
      exact ⟨.int n, rfl, x, rfl, x, rfl, typed_ex e1 tx, .inl ⟨hb, fun H3 e3 => q H3 (e1.trans e3)⟩⟩
    have hl := (lets_len s).2
    have test : EvT (tOr (tNot (tB (tCall (sp_is_number K c) [] E0 (tCons (tVar 1) tNil)))) (tTest (tOp (xNotIn K) (tVar 1) (tCall (sp_lets K c) [] E (tCons (tVar 0) tNil))))) (start ["state", "height"] [.int s, .int n]) H (!decide (n ∈ letsF s)) :=
      et_or (a := false) (et_not (et_B (ev_is_number (ev_var rfl) ty))) fun _ => et_test (ev_opL (xs := (letsF s).map V.int) (ev_var rfl) (el_call (ea_cons (ev_var rfl) ea_nil) fun H1 e1 Q' q' _ => ⟨.int s, rfl, typed_int, .inr ⟨s, rfl, h0, h1, q'⟩⟩) fun p H1 hp e1 H2 e2 Q' q' =>
        ⟨p, _, rfl, .inl (SqL.of (e2 _ _ hp)), rfl, flat_all, by rw [in_ints]; exact q' H2 (Ex.refl _)⟩)
    refine q_when test (fun hb H2 e2 => ?_) fun hb H2 e2 => ?_
    · refine ⟨.int s, rfl, .int s, rfl, typed_int, .inr ⟨s, rfl, h0, h1, fun H3 e3 => nx_mk ?_⟩⟩
      rcases q with ⟨_, q⟩ | ⟨n', e, hm, _⟩
      · exact q H3 (e2.trans e3)
      · cases e
        rw [decide_eq_true hm] at hb
        cases hb
    rcases q with ⟨hno, _⟩ | ⟨n', e, hm, q⟩
    · rw [decide_eq_false (hno n rfl)] at hb
      cases hb
    cases e
    have hh := lets_hgt hm
    refine q_when (b := decide (0 < n)) (et_is (et_test (ev_op (ev_var rfl) ev_c rv_gt)) rfl) (fun hb H3 e3 => ?_) fun hb H3 e3 => ?_
    · refine s_augO (x := .int s) rfl (ev_op ev_c (ev_var rfl) (rv_shl ⟨hh.1, by omega, by decide⟩)) (fun _ _ => rv_or) fun H4 e4 => nx_mk ?_
      refine s_ret (v := .int (thrownF s n)) (ev_is (ev_op (ev_var rfl) ev_c (rv_shr (by decide))) ?_) fun H5 e5 => q H5 (by k_allIn)
      unfold thrownF
      rw [if_pos (of_decide_eq_true hb)]
      rfl
    · refine s_ret (v := .int (thrownF s n)) (ev_is (ev_op (ev_var rfl) ev_c (rv_shr (by decide))) ?_) fun H5 e5 => q H5 (by k_allIn)
      unfold thrownF
      rw [if_neg (of_decide_eq_false hb)]
      rfl
theorem set_same {σ : L2.St} {j : Nat} {v : V} (h : σ[j]? = some (some v)) : σ.set j (some v) = σ := by
  apply List.ext_getElem?
  intro k
  by_cases e : j = k
  · subst e
    rw [h, List.getElem?_set_self (List.getElem?_eq_some_iff.mp h).1]
  · rw [List.getElem?_set_ne e]
/-- if t: x = e -/
theorem q_condA {σ : L2.St} {D : Ends} {tt : TT} {te : TE} {tz : TS} {b : Bool} {j : Nat} {P : HP} (h : EvT tt σ H b) (hy : b = true → ∀ H1, Ex H H1 → EvP P te σ H1) (h0 : b = false → ∀ H1, Ex H H1 → ∃ v, σ[j]? = some (some v) ∧ P v H1)
    (k : ∀ v H1, Ex H H1 → P v H1 → tz D (σ.set j (some v)) H1) : tSeq (tIfS tt (tAsg te (gName j)) tNext) tz D σ H :=
  q_when h (fun hb H1 e1 => hy hb H1 e1 H1 (Ex.refl _) _ fun v H2 e2 pv => k v H2 (e1.trans e2) pv) fun hb H1 e1 => by
    obtain ⟨v, hv, pv⟩ := h0 hb H1 e1
    have z := k v H1 e1 pv
    rw [set_same hv] at z
    exact z
end
end Tr

/-! How throws that go on come down: each turn one; states and their bits; a throw leads from state to state; the drawn rows go on. -/
namespace Tr
open PySem L2 PySem.Spec PyProof.Rows Evl

/-! ### who lands at a turn -/
theorem pigeon : ∀ (n : Nat) (f : Nat → Nat), (∀ i, i < n → f i < n) → (∀ i j, i < n → j < n → f i = f j → i = j) → ∀ y, y < n → ∃ x, x < n ∧ f x = y
  | 0, _, _, _, y, hy => absurd hy (Nat.not_lt_zero _)
  | n + 1, f, hf, hi, y, hy => by
    by_cases hx : ∃ x, x < n + 1 ∧ f x = n
    · obtain ⟨x, hxn, hfx⟩ := hx
      by_cases hyn : y = n
      · exact ⟨x, hxn, by rw [hfx, hyn]⟩
      -- swap n and x
      let g : Nat → Nat := fun i => if i = x then f n else f i
      have hg : ∀ i, i < n → g i < n := fun i hin => by
        show (if i = x then f n else f i) < n
        split
        · rename_i e
          have h1 := hf n (by omega)
          have h2 : f n ≠ n := fun z => by
            have := hi n x (by omega) hxn (by rw [z, hfx])
            omega
          omega
        · rename_i e
          have h1 := hf i (by omega)
          have h2 : f i ≠ n := fun z => e (hi i x (by omega) hxn (by rw [z, hfx]))
          omega
      have hgi : ∀ i j, i < n → j < n → g i = g j → i = j := fun i j h1 h2 e => by
        have e : (if i = x then f n else f i) = (if j = x then f n else f j) := e
        by_cases a : i = x
        · by_cases b : j = x
          · rw [a, b]
          · rw [if_pos a, if_neg b] at e
            have := hi n j (by omega) (by omega) e
            omega
        · by_cases b : j = x
          · rw [if_neg a, if_pos b] at e
            have := hi i n (by omega) (by omega) e
            omega
          · rw [if_neg a, if_neg b] at e
            exact hi i j (by omega) (by omega) e
      obtain ⟨z, hz, ez⟩ := pigeon n g hg hgi y (by omega)
      have ez : (if z = x then f n else f z) = y := ez
      by_cases a : z = x
      · rw [if_pos a] at ez
        exact ⟨n, by omega, ez⟩
      · rw [if_neg a] at ez
        exact ⟨z, by omega, ez⟩
    · have hf' : ∀ i, i < n → f i < n := fun i hin => by
        have h1 := hf i (by omega)
        have h2 : f i ≠ n := fun z => hx ⟨i, by omega, z⟩
        omega
      have hfn : f n < n := by
        have h1 := hf n (by omega)
        have h2 : f n ≠ n := fun z => hx ⟨n, by omega, z⟩
        omega
      obtain ⟨z, hz, ez⟩ := pigeon n f hf' (fun i j h1 h2 e => hi i j (by omega) (by omega) e) (f n) hfn
      have := hi z n (by omega) (by omega) ez
      omega
section
variable {ns : List Int}
/-- each turn has its one that comes down there -/
theorem lands (hn : 0 < ns.length) (hg : Goes ns) (t : Int) : ∃ s : Int, s + hAt ns s = t := by
  have hp : ∀ i, i < ns.length → 0 ≤ place ns i ∧ place ns i < ns.length := fun i _ => ⟨Int.emod_nonneg _ (by omega), Int.emod_lt_of_pos _ (by omega)⟩
  have b0 : 0 ≤ t % (ns.length : Int) := Int.emod_nonneg _ (by omega)
  have b1 : t % (ns.length : Int) < ns.length := Int.emod_lt_of_pos _ (by omega)
  obtain ⟨x, hx, e⟩ := pigeon ns.length (fun i => (place ns i).toNat) (fun i hi => by have := hp i hi; omega) (fun i j hi hj e => hg i j hi hj (by
    have h1 := hp i hi
    have h2 := hp j hj
    have e : (place ns i).toNat = (place ns j).toNat := e
    omega)) (t % (ns.length : Int)).toNat (by omega)
  have e : (place ns x).toNat = (t % (ns.length : Int)).toNat := e
  have e2 : ((x : Int) + hAt ns x) % ns.length = t % ns.length := by
    have h1 := hp x hx
    have h2 : place ns x = ((x : Int) + hAt ns x) % ns.length := by rw [hAt_nat hx]; rfl
    rw [← h2]
    omega
  obtain ⟨k, hk⟩ := Int.dvd_of_emod_eq_zero (Int.emod_eq_emod_iff_emod_sub_eq_zero.mp e2.symm)
  refine ⟨(x : Int) + k * ns.length, ?_⟩
  rw [hAt_add, Int.mul_comm k]
  omega
end
/-! ### bits of a state -/
theorem or_add {x k : Nat} (h : x.testBit k = false) : x ||| 2 ^ k = x + 2 ^ k := by
  have e : x &&& 2 ^ k = 0 := by
    apply Nat.eq_of_testBit_eq
    intro i
    rw [Nat.testBit_and, Nat.testBit_two_pow, Nat.zero_testBit]
    by_cases hk : k = i
    · subst hk
      rw [h]
      rfl
    · rw [decide_eq_false hk, Bool.and_false]
  have z := nat_or_add_and x (2 ^ k)
  omega
/-- as a natural number -/
def stN (h : Int → Int) (t : Int) : Nat → Nat
  | 0 => 0
  | n + 1 => if h (t - ((n : Int) + 1)) ≥ (n : Int) + 1 then stN h t n ||| 2 ^ (h (t - ((n : Int) + 1)) - ((n : Int) + 1)).toNat else stN h t n
theorem stN_up (h : Int → Int) (t : Int) : ∀ n, stUp h t n = ((stN h t n : Nat) : Int)
  | 0 => rfl
  | n + 1 => by
    rw [stUp_succ, stN, stN_up h t n]
    split
    · rw [Bits.bitOr_pp (by omega) (by rw [Int.one_mul]; exact Int.le_of_lt (Int.pow_pos (by decide))), Int.one_mul]
      congr 2
    · rfl
def stS (h : Int → Int) (t : Int) : Nat := stN h t 9
theorem stF_nat (h : Int → Int) (t : Int) : stF h t = ((stS h t : Nat) : Int) := stN_up h t 9
theorem stN_bit (h : Int → Int) (t : Int) (k : Nat) : ∀ n, (stN h t n).testBit k = true ↔ ∃ b : Nat, b < n ∧ h (t - ((b : Int) + 1)) = (b : Int) + 1 + k
  | 0 => by
    show Nat.testBit 0 k = true ↔ _
    rw [Nat.zero_testBit]
    constructor
    · intro z
      cases z
    · rintro ⟨b, hb, _⟩
      omega
  | n + 1 => by
    have ih := stN_bit h t k n
    rw [stN]
    split
    · rename_i hc
      rw [Nat.testBit_or, Nat.testBit_two_pow, Bool.or_eq_true, ih, decide_eq_true_eq]
      constructor
      · rintro (⟨b, hb, e⟩ | e)
        · exact ⟨b, by omega, e⟩
        · exact ⟨n, by omega, by omega⟩
      · rintro ⟨b, hb, e⟩
        by_cases hbn : b = n
        · subst hbn
          exact .inr (by omega)
        · exact .inl ⟨b, by omega, e⟩
    · rename_i hc
      rw [ih]
      constructor
      · rintro ⟨b, hb, e⟩
        exact ⟨b, by omega, e⟩
      · rintro ⟨b, hb, e⟩
        by_cases hbn : b = n
        · subst hbn
          omega
        · exact ⟨b, by omega, e⟩
/-- the bits of a state: what comes down in so many turns -/
theorem st_bit {h : Int → Int} (hh : ∀ t, 0 ≤ h t ∧ h t ≤ 9) (t : Int) (k : Nat) : (stS h t).testBit k = true ↔ ∃ s : Int, s < t ∧ s + h s = t + k := by
  show (stN h t 9).testBit k = true ↔ _
  rw [stN_bit]
  constructor
  · rintro ⟨b, hb, e⟩
    exact ⟨t - ((b : Int) + 1), by omega, by omega⟩
  · rintro ⟨s, hs, e⟩
    have h1 := hh s
    refine ⟨(t - s - 1).toNat, by omega, ?_⟩
    rw [show t - ((((t - s - 1).toNat : Nat) : Int) + 1) = s by omega]
    omega
theorem st_lt {h : Int → Int} (hh : ∀ t, 0 ≤ h t ∧ h t ≤ 9) (t : Int) : stS h t < 512 := by
  refine Nat.lt_pow_two_of_testBit (n := 9) _ fun k hk => ?_
  cases hb : (stS h t).testBit k with
  | false => rfl
  | true =>
    obtain ⟨s, hs, e⟩ := (st_bit hh t k).mp hb
    have := hh s
    omega
theorem bitS_nat {s k : Nat} : bitS (s : Int) k = s.testBit k := by
  unfold bitS
  rw [Nat.testBit_eq_decide_div_mod_eq, Bool.eq_iff_iff, decide_eq_true_eq, decide_eq_true_eq]
  rw [show ((s : Int) / 2 ^ k % 2) = ((s / 2 ^ k % 2 : Nat) : Int) by rw [Int.natCast_emod, Int.natCast_ediv, Int.natCast_pow]; rfl]
  omega
theorem thrown_nat {s : Nat} {h : Int} (h0 : 0 ≤ h) : thrownF (s : Int) h = (((if 0 < h then s ||| 2 ^ h.toNat else s) / 2 : Nat) : Int) := by
  unfold thrownF
  split
  · rw [Bits.bitOr_pp (by omega) (by rw [Int.one_mul]; exact Int.le_of_lt (Int.pow_pos (by decide))), Int.one_mul, Int.toNat_natCast,
      show ((2 : Int) ^ h.toNat).toNat = 2 ^ h.toNat by rw [show ((2 : Int) ^ h.toNat) = ((2 ^ h.toNat : Nat) : Int) by rw [Int.natCast_pow]; rfl, Int.toNat_natCast], Int.natCast_ediv]
    rfl
  · rw [Int.natCast_ediv]
    rfl
section
variable {h : Int → Int}
/-- a throw leads on -/
theorem st_step (hh : ∀ t, 0 ≤ h t ∧ h t ≤ 9) (t : Int) : thrownF (stF h t) (h t) = stF h (t + 1) := by
  have h1 := hh t
  rw [stF_nat, stF_nat, thrown_nat h1.1]
  congr 1
  apply Nat.eq_of_testBit_eq
  intro k
  rw [Nat.testBit_div_two, Bool.eq_iff_iff, st_bit hh]
  have key : (if 0 < h t then stS h t ||| 2 ^ (h t).toNat else stS h t).testBit (k + 1) = true ↔ ((stS h t).testBit (k + 1) = true ∨ h t = (k : Int) + 1) := by
    split
    · rw [Nat.testBit_or, Nat.testBit_two_pow, Bool.or_eq_true, decide_eq_true_eq]
      constructor
      · rintro (z | z)
        · exact .inl z
        · exact .inr (by omega)
      · rintro (z | z)
        · exact .inl z
        · exact .inr (by omega)
    · constructor
      · exact fun z => .inl z
      · rintro (z | z)
        · exact z
        · omega
  rw [key, st_bit hh]
  constructor
  · rintro (⟨s, hs, e⟩ | e)
    · exact ⟨s, by omega, by omega⟩
    · exact ⟨t, by omega, by omega⟩
  · rintro ⟨s, hs, e⟩
    by_cases z : s = t
    · subst z
      exact .inr (by omega)
    · exact .inl ⟨s, by omega, by omega⟩
/-- .. and is let -/
theorem st_let (hh : ∀ t, 0 ≤ h t ∧ h t ≤ 9) (hg : GoesZ h) (hs : ∀ t, ∃ s, s + h s = t) (t : Int) : h t ∈ letsF (stF h t) := by
  have h1 := hh t
  have b0 := st_bit hh t 0
  rw [Nat.testBit_zero] at b0
  rw [stF_nat]
  unfold letsF
  split
  · rename_i hev
    rw [List.mem_singleton]
    obtain ⟨s, e⟩ := hs t
    have h2 := hh s
    by_cases z : s = t
    · subst z
      omega
    · exact absurd (b0.mpr ⟨s, by omega, by omega⟩) (by rw [decide_eq_true_eq]; omega)
  · rename_i hod
    obtain ⟨s, hst, e⟩ := b0.mp (by rw [decide_eq_true_eq]; omega)
    have hne : h t ≠ 0 := fun z => by
      have := hg s t (by omega)
      omega
    refine List.mem_map.mpr ⟨(h t - 1).toNat, List.mem_filter.mpr ⟨List.mem_range.mpr (by omega), ?_⟩, by omega⟩
    rw [bitS_nat, Bool.not_eq_true']
    cases hb : (stS h t).testBit ((h t - 1).toNat + 1) with
    | false => rfl
    | true =>
      obtain ⟨u, hu, eu⟩ := (st_bit hh t _).mp hb
      have := hg u t (by omega)
      omega
/-- a sum instead -/
def dueUp (h : Int → Int) (t : Int) : Nat → Int
  | 0 => 0
  | n + 1 => if h (t - ((n : Int) + 1)) - ((n : Int) + 1) ≥ 0 then dueUp h t n + 1 * 2 ^ (h (t - ((n : Int) + 1)) - ((n : Int) + 1)).toNat else dueUp h t n
theorem due_st (hg : GoesZ h) (t : Int) : ∀ n, dueUp h t n = ((stN h t n : Nat) : Int)
  | 0 => rfl
  | n + 1 => by
    rw [dueUp, stN, due_st hg t n]
    by_cases hc : h (t - ((n : Int) + 1)) ≥ (n : Int) + 1
    · rw [if_pos (by omega), if_pos hc, or_add, Int.natCast_add, Int.natCast_pow, Int.one_mul]
      · rfl
      · cases hb : (stN h t n).testBit (h (t - ((n : Int) + 1)) - ((n : Int) + 1)).toNat with
        | false => rfl
        | true =>
          obtain ⟨b, hb, e⟩ := (stN_bit h t _ n).mp hb
          have := hg (t - ((b : Int) + 1)) (t - ((n : Int) + 1)) (by omega)
          omega
    · rw [if_neg (by omega), if_neg hc]
theorem due_more (hh : ∀ t, 0 ≤ h t ∧ h t ≤ 9) (t : Int) : ∀ n, dueUp h t (9 + n) = dueUp h t 9
  | 0 => rfl
  | n + 1 => by
    have := hh (t - (((9 + n : Nat) : Int) + 1))
    rw [show 9 + (n + 1) = (9 + n) + 1 from rfl, dueUp, if_neg (by omega), due_more hh t n]
theorem due_is (hh : ∀ t, 0 ≤ h t ∧ h t ≤ 9) (hg : GoesZ h) (t : Int) : dueUp h t 30 = stF h t := by
  rw [show (30 : Nat) = 9 + 21 from rfl, due_more hh, due_st hg, stF_nat]
  rfl
end
/-! ### rows turned, rows repeated -/
def turnF (ns : List Int) (n : Int) : List Int := (List.range ns.length).map fun (t : Nat) => hAt ns ((t : Int) + n)
def repF (ns : List Int) (m : Nat) : List Int := (List.range (m * ns.length)).map fun (t : Nat) => hAt ns t
section
variable {ns : List Int} {n : Int} {m : Nat}
theorem turn_len : (turnF ns n).length = ns.length := by unfold turnF; rw [List.length_map, List.length_range]
theorem rep_len : (repF ns m).length = m * ns.length := by unfold repF; rw [List.length_map, List.length_range]
theorem getD_mapR {f : Nat → Int} {k t : Nat} (h : t < k) : ((List.range k).map f).getD t 0 = f t := by
  rw [List.getD_eq_getElem?_getD, List.getElem?_map, List.getElem?_range h]
  rfl
theorem turn_hAt (hn : 0 < ns.length) (t : Int) : hAt (turnF ns n) t = hAt ns (t + n) := by
  have b0 : 0 ≤ t % (ns.length : Int) := Int.emod_nonneg _ (by omega)
  have b1 : t % (ns.length : Int) < ns.length := Int.emod_lt_of_pos _ (by omega)
  show (turnF ns n).getD (t % ((turnF ns n).length : Int)).toNat 0 = _
  rw [turn_len]
  show ((List.range ns.length).map _).getD _ 0 = _
  rw [getD_mapR (by omega), Int.toNat_of_nonneg b0]
  exact hAt_of (by rw [Int.emod_add_emod])
theorem rep_hAt (hn : 0 < ns.length) (hm : 0 < m) (t : Int) : hAt (repF ns m) t = hAt ns t := by
  have hp : 0 < m * ns.length := Nat.mul_pos hm hn
  have b0 : 0 ≤ t % ((m * ns.length : Nat) : Int) := Int.emod_nonneg _ (by omega)
  have b1 : t % ((m * ns.length : Nat) : Int) < ((m * ns.length : Nat) : Int) := Int.emod_lt_of_pos _ (by omega)
  show (repF ns m).getD (t % ((repF ns m).length : Int)).toNat 0 = _
  rw [rep_len]
  show ((List.range (m * ns.length)).map _).getD _ 0 = _
  rw [getD_mapR (by omega), Int.toNat_of_nonneg b0]
  refine hAt_of ?_
  rw [Int.natCast_mul]
  exact Int.emod_emod_of_dvd _ (Int.dvd_mul_left _ _)
theorem goes_shift {h h' : Int → Int} {k : Int} (e : ∀ t, h' t = h (t + k)) : GoesZ h' ↔ GoesZ h := by
  constructor
  · intro g s t z
    have w := g (s - k) (t - k) (by rw [e, e, show s - k + k = s by omega, show t - k + k = t by omega]; omega)
    omega
  · intro g s t z
    rw [e, e] at z
    have w := g (s + k) (t + k) (by omega)
    omega
theorem isNone_goes {as bs : List Int} (h : Goes as ↔ Goes bs) : (clashF as).isNone = (clashF bs).isNone := by
  rw [Bool.eq_iff_iff, Option.isNone_iff_eq_none, Option.isNone_iff_eq_none, goes_iff, goes_iff]
  exact h
theorem turn_goes (hn : 0 < ns.length) : (clashF (turnF ns n)).isNone = (clashF ns).isNone :=
  isNone_goes (by rw [goes_z hn, goes_z (by rw [turn_len]; exact hn)]; exact goes_shift (k := n) fun t => turn_hAt hn t)
theorem rep_goes (hn : 0 < ns.length) (hm : 0 < m) : (clashF (repF ns m)).isNone = (clashF ns).isNone :=
  isNone_goes (by rw [goes_z hn, goes_z (by rw [rep_len]; exact Nat.mul_pos hm hn)]; exact goes_shift (k := 0) fun t => by rw [rep_hAt hn hm, Int.add_zero])
/-- the cut and joined row -/
theorem turn_cut (hn : 0 < ns.length) : ns.drop (n % (ns.length : Int)).toNat ++ ns.take (n % (ns.length : Int)).toNat = turnF ns n := by
  have b0 : 0 ≤ n % (ns.length : Int) := Int.emod_nonneg _ (by omega)
  have b1 : n % (ns.length : Int) < ns.length := Int.emod_lt_of_pos _ (by omega)
  have hk : ∀ t : Nat, hAt ns ((t : Int) + n) = hAt ns ((t : Int) + n % (ns.length : Int)) := fun t => hAt_of (by rw [Int.add_emod_emod])
  generalize hK : (n % (ns.length : Int)).toNat = k
  have hk' : n % (ns.length : Int) = (k : Int) := by omega
  refine list_ext0 (by rw [turn_len, List.length_append, List.length_drop, List.length_take]; omega) fun t ht => ?_
  rw [List.length_append, List.length_drop, List.length_take] at ht
  have htn : t < ns.length := by omega
  show _ = ((List.range ns.length).map _).getD _ 0
  rw [getD_mapR htn, hk, hk']
  rw [List.getD_eq_getElem?_getD]
  by_cases h : t + k < ns.length
  · rw [List.getElem?_append_left (by rw [List.length_drop]; omega), List.getElem?_drop, ← List.getD_eq_getElem?_getD]
    rw [show ((t : Int) + (k : Int)) = ((t + k : Nat) : Int) by omega, hAt_nat h, Nat.add_comm]
  · rw [List.getElem?_append_right (by rw [List.length_drop]; omega), List.length_drop, List.getElem?_take_of_lt (by omega), ← List.getD_eq_getElem?_getD]
    have e : hAt ns ((t : Int) + (k : Int)) = hAt ns ((t + k - ns.length : Nat) : Int) := hAt_of (by
      rw [show ((t : Int) + (k : Int)) = ((t + k - ns.length : Nat) : Int) + 1 * (ns.length : Int) by omega, Int.add_mul_emod_self_right])
    rw [e, hAt_nat (by omega)]
    congr 1
    omega
theorem map_self (hn : 0 < ns.length) {k : Nat} : (List.range ns.length).map (fun (t : Nat) => hAt ns ((k * ns.length + t : Nat) : Int)) = ns := by
  refine list_ext0 (by rw [List.length_map, List.length_range]) fun t ht => ?_
  rw [List.length_map, List.length_range] at ht
  rw [getD_mapR ht, show ((k * ns.length + t : Nat) : Int) = (t : Int) + (k : Int) * ns.length by rw [Int.natCast_add, Int.natCast_mul]; omega, hAt_add, hAt_nat ht]
theorem rep_cut (hn : 0 < ns.length) : ∀ m, (List.replicate m ns).flatten = repF ns m
  | 0 => by
    unfold repF
    rw [Nat.zero_mul]
    rfl
  | m + 1 => by
    rw [List.replicate_succ', List.flatten_append, rep_cut hn m]
    unfold repF
    rw [Nat.succ_mul, List.range_add, List.map_append, List.map_map]
    congr 1
    rw [List.flatten_cons, List.flatten_nil, List.append_nil]
    exact (map_self hn (k := m)).symm
theorem turn_sum (hn : 0 < ns.length) : (turnF ns n).sum = ns.sum := by
  rw [← turn_cut hn, List.sum_append]
  have z := List.take_append_drop (n % (ns.length : Int)).toNat ns
  have z2 := congrArg List.sum z
  rw [List.sum_append] at z2
  omega
theorem rep_sum (hn : 0 < ns.length) : ∀ m : Nat, (repF ns m).sum = m * ns.sum
  | 0 => by
    unfold repF
    rw [Nat.zero_mul]
    show (0 : Int) = (0 : Nat) * _
    omega
  | m + 1 => by
    rw [← rep_cut hn, List.replicate_succ', List.flatten_append, List.sum_append, rep_cut hn, rep_sum hn m, List.flatten_cons, List.flatten_nil, List.append_nil, Int.natCast_succ, Int.add_mul]
    omega
theorem good_turn (hg : Good ns) : Good (turnF ns n) := ⟨by rw [turn_len]; exact hg.1, by rw [turn_len]; exact hg.2.1, fun x hx => by
  obtain ⟨t, _, rfl⟩ := List.mem_map.mp hx
  exact hAt_hgt hg _⟩
theorem good_rep (hg : Good ns) (hm : 0 < m) (h40 : m * ns.length ≤ 40) : Good (repF ns m) := ⟨by rw [rep_len]; exact Nat.mul_pos hm hg.1, by rw [rep_len]; exact h40, fun x hx => by
  obtain ⟨t, _, rfl⟩ := List.mem_map.mp hx
  exact hAt_hgt hg _⟩
end
/-! ### the drawn rows go on -/
section
variable {ns : List Int}
theorem goes_exch {i j : Int} (h0 : 0 ≤ i) (h1 : i < j) (h2 : j < ns.length) (hg : Goes ns) : Goes (exch ns i j) := by
  unfold exch
  simp only
  split
  · have z := xch_goes1 (ns := ns) (i := i.toNat) (j := j.toNat) (by omega) (by omega) hg
    unfold xchF at z
    rw [Int.toNat_of_nonneg h0, Int.toNat_of_nonneg (by omega)] at z
    have e1 : gi ns j = ns.getD j.toNat 0 := rfl
    have e2 : gi ns i - j + i = ns.getD i.toNat 0 - (j - i) := by show ns.getD i.toNat 0 - j + i = _; omega
    rw [e1, e2]
    exact z
  · exact hg
theorem goes_exchD {d : Int} (hd : 0 ≤ d) (hn : 2 ≤ ns.length) (hg : Goes ns) : Goes (exchD ns d) := by
  unfold exchD
  simp only
  have a0 : 0 ≤ d % (ns.length : Int) := Int.emod_nonneg _ (by omega)
  have a1 : d % (ns.length : Int) < ns.length := Int.emod_lt_of_pos _ (by omega)
  have c0 : 0 ≤ d / 64 % ((ns.length : Int) - 1) := Int.emod_nonneg _ (by omega)
  have c1 : d / 64 % ((ns.length : Int) - 1) < (ns.length : Int) - 1 := Int.emod_lt_of_pos _ (by omega)
  generalize d % (ns.length : Int) = a at a0 a1
  generalize d / 64 % ((ns.length : Int) - 1) = c at c0 c1
  have b0 : 0 ≤ (a + 1 + c) % (ns.length : Int) := Int.emod_nonneg _ (by omega)
  have b1 : (a + 1 + c) % (ns.length : Int) < ns.length := Int.emod_lt_of_pos _ (by omega)
  have hab : (a + 1 + c) % (ns.length : Int) ≠ a := fun z => by
    by_cases h : a + 1 + c < ns.length
    · rw [Int.emod_eq_of_lt (by omega) h] at z
      omega
    · rw [show a + 1 + c = (a + 1 + c - ns.length) + 1 * (ns.length : Int) by omega, Int.add_mul_emod_self_right, Int.emod_eq_of_lt (by omega) (by omega)] at z
      omega
  generalize (a + 1 + c) % (ns.length : Int) = b at b0 b1 hab
  split
  · exact goes_exch b0 (by omega) a1 hg
  · exact goes_exch a0 (by omega) b1 hg
theorem goes_mixedUp {cell : Int} (hn : 2 ≤ ns.length) (hg : Goes ns) : ∀ n, Goes (mixedUp ns cell n)
  | 0 => hg
  | n + 1 => by
    rw [mixedUp_succ]
    exact goes_exchD (mixed_lo _ _) (by rw [mixedUp_len]; exact hn) (goes_mixedUp hn hg n)
theorem goes_turn {b : Nat} (hb : b < ns.length) (hg : Goes ns) : Goes (ns.drop b ++ ns.take b) := by
  have hn : 0 < ns.length := by omega
  have z := turn_cut (ns := ns) (n := (b : Int)) hn
  rw [Int.emod_eq_of_lt (by omega) (by omega), Int.toNat_natCast] at z
  rw [z, ← goes_iff, ← Option.isNone_iff_eq_none, turn_goes hn, Option.isNone_iff_eq_none, goes_iff]
  exact hg
theorem goes_one (hl : ns.length = 1) : Goes ns := fun i j hi hj _ => by omega
theorem goes_step {cell k : Int} (hn : 1 ≤ ns.length) (hg : Goes ns) : Goes (goStep cell ns k) := by
  unfold goStep
  simp only
  have b0 : 0 ≤ mixed cell (60 + k) % (ns.length : Int) := Int.emod_nonneg _ (by omega)
  have b1 : mixed cell (60 + k) % (ns.length : Int) < ns.length := Int.emod_lt_of_pos _ (by omega)
  refine goes_turn (by rw [mixedUp_len]; omega) ?_
  by_cases h2 : 2 ≤ ns.length
  · exact goes_mixedUp h2 hg _
  · exact goes_one (by rw [mixedUp_len]; omega)
theorem goes_flat {n : Nat} {x : Int} : Goes (List.replicate n x) := fun i j hi hj e => by
  rw [List.length_replicate] at hi hj
  unfold place at e
  rw [List.length_replicate, List.getD_eq_getElem?_getD, List.getD_eq_getElem?_getD, List.getElem?_replicate, List.getElem?_replicate, if_pos hi, if_pos hj] at e
  obtain ⟨k, hk⟩ := Int.dvd_of_emod_eq_zero (Int.emod_eq_emod_iff_emod_sub_eq_zero.mp e)
  have hk : (i : Int) - j = n * k := by
    have : (i : Int) + (some x).getD 0 - (j + (some x).getD 0) = n * k := hk
    omega
  have k0 : k = 0 := by
    rcases Int.lt_trichotomy k 0 with h | h | h
    · have : (n : Int) * k ≤ n * (-1) := Int.mul_le_mul_of_nonneg_left (by omega) (by omega)
      omega
    · exact h
    · have : (n : Int) * 1 ≤ n * k := Int.mul_le_mul_of_nonneg_left (by omega) (by omega)
      omega
  rw [k0] at hk
  omega
theorem goes_going {a m : Int} (h1 : 1 ≤ m) : Goes (going a m) := by
  unfold going
  exact goes_step (by rw [goStep_len, List.length_replicate]; omega) (goes_step (by rw [List.length_replicate]; omega) goes_flat)
theorem going_clash {a m : Int} (h1 : 1 ≤ m) : clashF (going a m) = none := goes_iff.mpr (goes_going h1)
end
end Tr

/-! Counts: how many are up, by the bits of a state, is the average height; clashing pairs; dicts that lose a key. -/
namespace Tr
open PySem L2 PySem.Spec PyProof.Rows Evl

/-! ### sums -/
def sumN (f : Nat → Int) : Nat → Int
  | 0 => 0
  | n + 1 => sumN f n + f n
theorem sumN_congr {f g : Nat → Int} : ∀ {n : Nat}, (∀ i, i < n → f i = g i) → sumN f n = sumN g n
  | 0, _ => rfl
  | n + 1, h => by rw [sumN, sumN, sumN_congr fun i hi => h i (by omega), h n (by omega)]
theorem sumN_add {f g : Nat → Int} : ∀ n : Nat, sumN (fun i => f i + g i) n = sumN f n + sumN g n
  | 0 => rfl
  | n + 1 => by
    rw [sumN, sumN, sumN, sumN_add n]
    omega
theorem sumN_zero : ∀ n : Nat, sumN (fun _ => 0) n = 0
  | 0 => rfl
  | n + 1 => by rw [sumN, sumN_zero n]; rfl
theorem sumN_const {k : Int} : ∀ n : Nat, sumN (fun _ => k) n = n * k
  | 0 => by rw [sumN]; omega
  | n + 1 => by
    rw [sumN, sumN_const n, Int.natCast_succ, Int.add_mul]
    omega
theorem sumN_swap (g : Nat → Nat → Int) (m : Nat) : ∀ n : Nat, sumN (fun t => sumN (fun b => g t b) m) n = sumN (fun b => sumN (fun t => g t b) n) m
  | 0 => (sumN_zero m).symm
  | n + 1 => by
    rw [sumN, sumN_swap g m n, ← sumN_add]
    rfl
theorem sumN_back (f : Int → Int) : ∀ n : Nat, sumN (fun t => f ((t : Int) - 1)) n + f ((n : Int) - 1) = sumN (fun t => f (t : Int)) n + f (-1) := fun n => by
  induction n with
  | zero => rfl
  | succ n ih =>
    rw [sumN, sumN, show ((n + 1 : Nat) : Int) - 1 = n by omega]
    omega
theorem sumN_round {f : Int → Int} {n : Nat} (hp : ∀ t, f (t + n) = f t) (k : Nat) : sumN (fun t => f ((t : Int) - k)) n = sumN (fun t => f (t : Int)) n := by
  induction k with
  | zero => exact sumN_congr fun i _ => by rw [show ((i : Int) - ((0 : Nat) : Int)) = i by omega]
  | succ k ih =>
    rw [← ih]
    have z := sumN_back (fun t => f (t - k)) n
    have e : f ((n : Int) - 1 - k) = f (-1 - k) := by
      rw [← hp (-1 - k)]
      congr 1
      omega
    rw [e] at z
    have z2 : sumN (fun t => f ((t : Int) - 1 - k)) n = sumN (fun t => f ((t : Int) - k)) n := by omega
    rw [← z2]
    exact sumN_congr fun i _ => by rw [show (i : Int) - ((k + 1 : Nat) : Int) = (i : Int) - 1 - k by omega]
theorem sum_range (f : Nat → Int) : ∀ n : Nat, ((List.range n).map f).sum = sumN f n
  | 0 => rfl
  | n + 1 => by
    rw [List.range_succ, List.map_append, List.sum_append, sum_range f n, sumN]
    show _ + (f n + 0) = _
    omega
theorem map_getD0 : ∀ (ns : List Int), (List.range ns.length).map (fun i => ns.getD i 0) = ns
  | [] => rfl
  | n :: ns => by
    rw [List.length_cons, List.range_succ_eq_map, List.map_cons, List.map_map]
    exact congrArg (n :: ·) (map_getD0 ns)
theorem sum_hAt (ns : List Int) : ns.sum = sumN (fun t => hAt ns (t : Int)) ns.length := by
  have z := congrArg List.sum (map_getD0 ns)
  rw [sum_range] at z
  rw [← z]
  exact sumN_congr fun i hi => (hAt_nat hi).symm
/-! ### how many bits -/
def pc (x n : Nat) : Nat := ((List.range n).filter x.testBit).length
theorem pc_succ (x n : Nat) : pc x (n + 1) = pc x n + (if x.testBit n = true then 1 else 0) := by
  unfold pc
  rw [List.range_succ, List.filter_append, List.length_append]
  congr 1
  rw [List.filter_cons]
  split <;> rfl
theorem pc_zero : ∀ n, pc 0 n = 0
  | 0 => rfl
  | n + 1 => by rw [pc_succ, pc_zero n, Nat.zero_testBit]; rfl
theorem pc_or {x k : Nat} (h : x.testBit k = false) : ∀ n : Nat, pc (x ||| 2 ^ k) n = pc x n + (if k < n then 1 else 0)
  | 0 => by
    rw [if_neg (by omega)]
    rfl
  | n + 1 => by
    rw [pc_succ, pc_succ, pc_or h n, Nat.testBit_or, Nat.testBit_two_pow]
    by_cases hk : k = n
    · subst hk
      simp [h]
    · rw [decide_eq_false hk, Bool.or_false]
      by_cases hlt : k < n
      · rw [if_pos hlt, if_pos (show k < n + 1 by omega)]
        omega
      · rw [if_neg hlt, if_neg (show ¬ k < n + 1 by omega)]
        omega
theorem pc_half (x : Nat) : ∀ n : Nat, pc x (n + 1) = (if x.testBit 0 = true then 1 else 0) + pc (x / 2) n
  | 0 => by
    rw [pc_succ]
    show 0 + _ = _ + 0
    omega
  | n + 1 => by
    rw [pc_succ, pc_half x n, pc_succ (x / 2) n, Nat.testBit_div_two]
    omega
section
variable {h : Int → Int}
/-- how many are up ahead of turn t -/
def upAt (h : Int → Int) (t : Int) : Nat := pc (stS h t) 9
theorem upAt_next (hh : ∀ t, 0 ≤ h t ∧ h t ≤ 9) (hg : GoesZ h) (hs : ∀ t, ∃ s, s + h s = t) (t : Int) : upAt h (t + 1) = upAt h t := by
  have h1 := hh t
  have step := st_step hh t
  rw [stF_nat, stF_nat, thrown_nat h1.1] at step
  have step : (if 0 < h t then stS h t ||| 2 ^ (h t).toNat else stS h t) / 2 = stS h (t + 1) := by omega
  have b0 := st_bit hh t 0
  have zero : h t = 0 ↔ ¬ (stS h t).testBit 0 = true := by
    rw [b0]
    constructor
    · rintro e ⟨s, hst, e2⟩
      have := hg s t (by omega)
      omega
    · intro e
      obtain ⟨s, e2⟩ := hs t
      have h2 := hh s
      by_cases z : s = t
      · subst z
        omega
      · exact absurd ⟨s, by omega, by omega⟩ e
  have hx : (stS h t).testBit 9 = false := by
    cases hb : (stS h t).testBit 9 with
    | false => rfl
    | true =>
      obtain ⟨s, hst, e2⟩ := (st_bit hh t 9).mp hb
      have := hh s
      omega
  have p10 : pc (stS h t) 10 = upAt h t := by
    rw [show (10 : Nat) = 9 + 1 from rfl, pc_succ, hx]
    rfl
  show pc (stS h (t + 1)) 9 = _
  rw [← step]
  by_cases hp : 0 < h t
  · rw [if_pos hp]
    have hfree : (stS h t).testBit (h t).toNat = false := by
      cases hb : (stS h t).testBit (h t).toNat with
      | false => rfl
      | true =>
        obtain ⟨s, hst, e2⟩ := (st_bit hh t _).mp hb
        have := hg s t (by omega)
        omega
    have a1 := pc_or hfree 10
    rw [if_pos (by omega), p10, pc_half] at a1
    have a2 : (stS h t ||| 2 ^ (h t).toNat).testBit 0 = true := by
      rw [Nat.testBit_or]
      cases hb : (stS h t).testBit 0 with
      | true => rfl
      | false =>
        have := zero.mpr (by rw [hb]; decide)
        omega
    rw [if_pos a2] at a1
    omega
  · rw [if_neg hp]
    have e0 : h t = 0 := by omega
    have a2 : ¬ (stS h t).testBit 0 = true := zero.mp e0
    rw [pc_half, if_neg a2] at p10
    omega
theorem upAt_zero (hh : ∀ t, 0 ≤ h t ∧ h t ≤ 9) (hg : GoesZ h) (hs : ∀ t, ∃ s, s + h s = t) : ∀ t : Nat, upAt h t = upAt h 0
  | 0 => rfl
  | t + 1 => by
    rw [← upAt_zero hh hg hs t]
    exact upAt_next hh hg hs t
theorem upAt_sum (hh : ∀ t, 0 ≤ h t ∧ h t ≤ 9) (hg : GoesZ h) (t : Int) : ∀ n, n ≤ 9 → ((pc (stN h t n) 9 : Nat) : Int) = sumN (fun b => if h (t - ((b : Int) + 1)) ≥ (b : Int) + 1 then 1 else 0) n
  | 0, _ => by
    show ((pc 0 9 : Nat) : Int) = 0
    rw [pc_zero]
    rfl
  | n + 1, hn => by
    have ih := upAt_sum hh hg t n (by omega)
    rw [stN, sumN]
    have h1 := hh (t - ((n : Int) + 1))
    by_cases hc : h (t - ((n : Int) + 1)) ≥ (n : Int) + 1
    · rw [if_pos hc, if_pos hc, pc_or, if_pos (by omega), ← ih]
      · omega
      · cases hb : (stN h t n).testBit (h (t - ((n : Int) + 1)) - ((n : Int) + 1)).toNat with
        | false => rfl
        | true =>
          obtain ⟨b, hb, e⟩ := (stN_bit h t _ n).mp hb
          have := hg (t - ((b : Int) + 1)) (t - ((n : Int) + 1)) (by omega)
          omega
    · rw [if_neg hc, if_neg hc, ih]
      omega
theorem sum_steps {x : Int} (h0 : 0 ≤ x) : ∀ m : Nat, sumN (fun b => if x ≥ (b : Int) + 1 then 1 else 0) m = if x ≤ m then x else m
  | 0 => by
    rw [sumN]
    split <;> omega
  | m + 1 => by
    rw [sumN, sum_steps h0 m]
    split <;> split <;> split <;> omega
end
/-- as many are up as the average height -/
theorem up_mean {ns : List Int} (hg : Good ns) (hc : clashF ns = none) : ((upAt (hAt ns) 0 : Nat) : Int) * ns.length = ns.sum := by
  have hn : 0 < ns.length := hg.1
  have hh := hAt_hgt hg
  have hz := (goes_z hn).mp (goes_iff.mp hc)
  have hs := lands hn (goes_iff.mp hc)
  have e1 : sumN (fun t => ((upAt (hAt ns) (t : Int) : Nat) : Int)) ns.length = ns.length * ((upAt (hAt ns) 0 : Nat) : Int) := by
    rw [← sumN_const]
    exact sumN_congr fun i _ => by rw [upAt_zero hh hz hs]
  have e2 : sumN (fun t => ((upAt (hAt ns) (t : Int) : Nat) : Int)) ns.length = ns.sum := by
    rw [sum_hAt]
    have a : ∀ t : Nat, ((upAt (hAt ns) (t : Int) : Nat) : Int) = sumN (fun b => if hAt ns ((t : Int) - ((b : Int) + 1)) ≥ (b : Int) + 1 then 1 else 0) 9 := fun t => upAt_sum hh hz t 9 (by omega)
    rw [sumN_congr fun i _ => a i, sumN_swap (fun t b => if hAt ns ((t : Int) - ((b : Int) + 1)) ≥ (b : Int) + 1 then 1 else 0)]
    have b : ∀ b : Nat, sumN (fun t => if hAt ns ((t : Int) - ((b : Int) + 1)) ≥ (b : Int) + 1 then 1 else 0) ns.length = sumN (fun t => if hAt ns (t : Int) ≥ (b : Int) + 1 then 1 else 0) ns.length := fun b => by
      have z := sumN_round (f := fun t => if hAt ns t ≥ (b : Int) + 1 then 1 else 0) (n := ns.length) (fun t => by
        show (if hAt ns (t + ns.length) ≥ (b : Int) + 1 then (1 : Int) else 0) = _
        rw [show t + (ns.length : Int) = t + 1 * (ns.length : Int) by omega, hAt_add]) (b + 1)
      rw [show (((b + 1 : Nat) : Int)) = (b : Int) + 1 by omega] at z
      exact z
    rw [sumN_congr fun i _ => b i, ← sumN_swap (fun t b => if hAt ns (t : Int) ≥ (b : Int) + 1 then 1 else 0)]
    refine sumN_congr fun i _ => ?_
    have h1 := hh (i : Int)
    rw [sum_steps h1.1, if_pos (by omega)]
  rw [← e2, e1, Int.mul_comm]
theorem up_things {ns : List Int} (hg : Good ns) (hc : clashF ns = none) : ns.sum / (ns.length : Int) = ((upAt (hAt ns) 0 : Nat) : Int) := by
  have hn := hg.1
  rw [← up_mean hg hc]
  exact Int.mul_ediv_cancel _ (by omega)
/-! ### who clashes -/
theorem clash_get {ns : List Int} {i j : Nat} (h : clashF ns = some (i, j)) : i < j ∧ j < ns.length ∧ place ns i = place ns j := by
  unfold clashF at h
  obtain ⟨k, hk, e⟩ := List.exists_of_findSome?_eq_some h
  cases hf : (List.range k).find? (fun i => decide (place ns i = place ns k)) with
  | none =>
    rw [hf] at e
    cases e
  | some t =>
    rw [hf] at e
    cases e
    have h1 := List.mem_of_find?_eq_some hf
    have h2 := List.find?_some hf
    exact ⟨List.mem_range.mp h1, List.mem_range.mp hk, of_decide_eq_true h2⟩
theorem place_same {ns : List Int} {i j : Nat} : ((i : Int) + ns.getD i 0 - j - ns.getD j 0) % (ns.length : Int) = 0 ↔ place ns i = place ns j := by
  unfold place
  rw [Int.emod_eq_emod_iff_emod_sub_eq_zero, show (i : Int) + ns.getD i 0 - j - ns.getD j 0 = (i : Int) + ns.getD i 0 - (j + ns.getD j 0) by omega]
theorem flat_dPair (o : Option (Nat × Nat)) : Flat 1 (dPair o) := by
  cases o with
  | none => exact flat_non.mono (by decide)
  | some p =>
    refine flat_tuple fun d hd => ?_
    rcases List.mem_cons.mp hd with rfl | hd
    · exact flat_int
    · rw [List.mem_singleton.mp hd]
      exact flat_int
/-! ### dicts -/
theorem valV_drop {kvs : List (Key × V)} {k j : Key} : valV (dropK kvs k) j = if j = k then none else valV kvs j := by
  induction kvs with
  | nil => split <;> rfl
  | cons p r ih =>
    by_cases e : p.1 = k
    · rw [dropK_pos e, ih]
      by_cases hj : j = k
      · rw [if_pos hj, if_pos hj]
      · rw [if_neg hj, if_neg hj, valV_neg (fun z => hj (z.symm.trans e))]
    · rw [dropK_neg e]
      by_cases hp : p.1 = j
      · rw [valV_pos hp, if_neg (fun z => e (hp.trans z)), valV_pos hp]
      · rw [valV_neg hp, ih, valV_neg hp]
section
variable {K : PySem.W.Frag} {c : Cs} {vs : List V} {H : Hp} {Q : VK} {E : XK} {σ : L2.St} {D : Ends} {tz : TS}
/-- H2 is H, but for a -/
def But (a : Addr) (H H2 : Hp) : Prop := ∀ b o, b ≠ a → H b = some o → H2 b = some o
/-- d.pop(k, None), what comes of it not wanted -/
theorem q_pop {td ty : TE} {a : Addr} {kvs : List (Key × V)} {k : Key} (hd : Ev td σ H (.ref a)) (hk : Ev ty σ H (kV k)) (ha : H a = some (.dK kvs)) (q : ∀ H2, H2 a = some (.dK (dropK kvs k)) → But a H H2 → tz D σ H2) :
    tSeq (tDrop (tDPop2 td ty (tC .non))) tz D σ H :=
  hd H (Ex.refl _) _ fun H1 e1 => ⟨a, rfl, .inl ⟨kvs, .inl (e1 _ _ ha)⟩, hk H1 e1 _ fun H2 e2 => ev_c H2 (Ex.refl _) _ fun H3 e3 => ⟨kvs, k, e3 _ _ (e2 _ _ (e1 _ _ ha)), rfl,
    fun _ _ => q _ upd_same fun b o hb e => (upd_ne hb).trans (e3 _ _ (e2 _ _ (e1 _ _ e))),
    fun hn => q _ (by rw [dropK_no (valV_not hn)]; exact e3 _ _ (e2 _ _ (e1 _ _ ha))) fun b o hb e => e3 _ _ (e2 _ _ (e1 _ _ e))⟩⟩
/-- if t: d[k] = e -/
theorem q_condPut {td ty te : TE} {tt : TT} {a : Addr} {kvs : List (Key × V)} {k : Key} {v : V} {b : Bool} (h : EvT tt σ H b) (hv : ∀ H1, Ex H H1 → Ev te σ H1 v) (hd : ∀ H1, Ex H H1 → Ev td σ H1 (.ref a)) (hk : ∀ H1, Ex H H1 → Ev ty σ H1 (kV k)) (ha : H a = some (.dK kvs)) (hz : kvs.length < 100000)
    (q : ∀ H2, H2 a = some (.dK (if b = true then putK kvs k v else kvs)) → But a H H2 → tz D σ H2) : tSeq (tIfS tt (sDPut td ty te) tNext) tz D σ H :=
  q_when h (fun hb H1 e1 => s_dput (hv H1 e1) (hd H1 e1) (hk H1 e1) (e1 _ _ ha) hz fun H2 e2 => q _ (by rw [if_pos hb]; exact upd_same) fun b o hb e => (upd_ne hb).trans (e2 _ _ (e1 _ _ e)))
    fun hb H1 e1 => q _ (by rw [if_neg (by rw [hb]; decide)]; exact e1 _ _ ha) fun b o _ e => e1 _ _ e
theorem But.ex {a : Addr} {H0 H H2 : Hp} (b : But a H H2) (e : Ex H0 H) (h : H0 a = none) : Ex H0 H2 := fun x o hx => b x o (ne_of_none hx h) (e x o hx)
/-- two names for the parts of a tuple at a name -/
theorem q_unpT {i j : Nat} {te : TE} {a : Addr} {x y : V} (h : Ev te σ H (.ref a)) (ht : SqT K H a [x, y]) (k : ∀ H1, Ex H H1 → tz D ((σ.set i (some x)).set j (some y)) H1) : tSeq (tAsg te (gTup K 2 (gCons (gName i) (gCons (gName j) gNil)))) tz D σ H :=
  h H (Ex.refl _) _ fun H1 e1 => ⟨a, _, rfl, ex_t e1 ht, rfl, _, _, rfl, _, _, rfl, rfl, k H1 e1⟩
end
end Tr

/-! Own rule: several clauses, some of which name their error; an else behind them. -/
namespace Tr
open PySem L2 PySem.Spec PyProof.Rows

abbrev Cl := Value × Option Nat × (Addr → Value → Option Addr → TS)
/-- D, the name of slot i gone -/
def gone (i : Nat) (D : Ends) : Ends := { nx := fun σ' H' => D.nx (σ'.set i none) H', rt := D.rt, bk := fun σ' H' => D.bk (σ'.set i none) H', ct := fun σ' H' => D.ct (σ'.set i none) H' }
def inCl (o : Option Nat) (ts : Addr → Value → Option Addr → TS) (a : Addr) (cls : Value) (d : Option Addr) (D : Ends) (σ : L2.St) (H : Hp) : Prop := match o with
  | none => ts a cls d D σ H
  | some i => ts a cls d (gone i D) (σ.set i (some (.ref a))) H
/-- what the clauses wish of an error of the body, one behind the other -/
def wMix (K : PySem.W.Frag) (Wout : WX) (D : Ends) : List Cl → WX
  | [] => Wout
  | (c, o, ts) :: r => fun cls d σ H => ∃ b, PySem.W.exmOne K cls c = some b ∧ (b = true → ∀ a, H a = none → inCl o ts a cls d D σ H) ∧ (b = false → wMix K Wout D r cls d σ H)
def SuOk (X : Cx) (ts : Addr → Value → Option Addr → TS) (ss : List Stmt) : Prop := ∀ (a : Addr) (oe : Obj) (cls : Value) (d : Option Addr) (pn : List (Addr × Obj)), Zc cls d oe → (∃ vs, oe.data = .fields vs) → PSs (X.suite a ((a, oe) :: pn)) ss (ts a cls d)
inductive Mix (X : Cx) : List ExceptHandler → List Cl → Prop
  | nil : Mix X [] []
  | plain {x : Str} {c : Value} {ts : Addr → Value → Option Addr → TS} {b₀ : Stmt} {suite : List Stmt} {np pos' : Pos} {hds : List ExceptHandler} {l : List Cl} (hc : Names X x c) (su : SuOk X ts (b₀ :: suite)) (r : Mix X hds l) :
      Mix X (.ExceptHandler (some (.Name x np)) none (b₀ :: suite) pos' :: hds) ((c, none, ts) :: l)
  | as {x n : Str} {c : Value} {i : Nat} {ts : Addr → Value → Option Addr → TS} {b₀ : Stmt} {suite : List Stmt} {np pos' : Pos} {hds : List ExceptHandler} {l : List Cl} (hi : X.N[i]? = some n) (hln : X.env.kindOf n = some .local) (hc : Names X x c) (su : SuOk X ts (b₀ :: suite)) (r : Mix X hds l) :
      Mix X (.ExceptHandler (some (.Name x np)) (some n) (b₀ :: suite) pos' :: hds) ((c, some i, ts) :: l)
section
variable {X : Cx} {body orelse : List Stmt} {h₀ : ExceptHandler} {hds : List ExceptHandler} {l : List Cl} {pos : Pos} {tb : WX → TS} {Wout : WX} {u : TS}
theorem ps_try_mix (ho : PSs X orelse u) (hs : X.stack = X.env :: X.outer) (hf : X.env.frame = some X.env.locals) (hN : X.N.Nodup) (tk : Takes X Wout)
    (hb : ∀ (W : WX) (pn : List (Addr × Obj)) (xe : Value → Shared → Prop), Takes (X.tr pn xe) W → PassesOwn (model X.prog X.w) X.A X.env xe → PSs (X.tr pn xe) body (tb W))
    (hh : Mix X (h₀ :: hds) l) : PS X (.Try body (h₀ :: hds) orelse [] pos) (fun D σ H => tb (wMix X.K Wout D l) { D with nx := u D } σ H) := by
  refine ⟨fun pins s σ H D I h => ?_⟩
  have ok := I.ok
  have frA : X.A.frames = some (X.env :: X.outer) := ok.frames.trans (congrArg some hs)
  refine wpAny_Try_except (wpAny_mono ((hb (wMix X.K Wout D l) (X.pn ++ pins) (fun e y1 => wpAny (model X.prog X.w) X.A (noteFrame e X.env) (fun _ y2 => wpAny (model X.prog X.w) X.A (setFlight e none)
    (fun _ y3 => wpAny (model X.prog X.w) X.A (handleBy e X.env (h₀ :: hds)) (SP X pins D) X.xe y3) X.xe y2) X.xe y1) (fun v y xx => ?_) PassesOwn.looking).run [] s σ H { D with nx := u D } (I.toTry _) h)
    (fun f s1 hsp => ?_) (fun e s1 he => he))
  · obtain ⟨a, B, sI, pins1, σ1, H1, cls, d, rfl, J0, nb, up, sky, na, os, ag, w⟩ := xx
    have J : Inv X pins σ1 H1 sI := J0.ofTry ok
    rw [hs] at sky
    refine Sky.land Zc.steady frA hf sky fun h3 fl3 up3 => ?_
    have J3 : Inv X pins σ1 H1 { y with heap := h3 } := J.landed nb fl3.1 (up.trans up3) os ag
    obtain ⟨o3, v3, g3, z3, d3⟩ := fl3.there
    have aFr : a ∉ frs (X.env :: X.outer) := fun hm => by
      obtain ⟨_, o', e', hnf⟩ := fl3.2.2.1.mem hm
      rw [g3] at e'
      cases e'
      exact hnf _ d3
    have aL : a ≠ X.env.locals := fun w => aFr (List.mem_filterMap.mpr ⟨X.env, List.mem_cons_self, hf.trans (congrArg some w.symm)⟩)
    have aF : a ∉ X.fs := fun hm => by
      obtain ⟨e, he, q⟩ := List.mem_filterMap.mp hm
      exact aFr (List.mem_filterMap.mpr ⟨e, List.mem_cons_of_mem _ he, q⟩)
    have S3 := J3.suite g3 d3 na aL aF
    -- a clause's name, read
    have nameIs : ∀ {x : Str} {np : Pos} {c : Value} {Q : Value → Shared → Prop} {E : Value → Shared → Prop}, Names X x c → Q c { y with heap := h3 } → wpAny (model X.prog X.w) (X.A.mark (some (.ref a))) (eval (.Name x np) X.env) Q E { y with heap := h3 } := fun {x np c Q E} hc q => by
      rcases hc with ⟨hg, hdb, hm | ⟨hm, hv, hnn⟩⟩
      · exact ld_glob (X := X.suite a ((a, o3) :: (X.pn ++ pins))) S3 hg hm q hdb
      · exact ld_blt (X := X.suite a ((a, o3) :: (X.pn ++ pins))) S3 hg hm hv q hnn hdb
    have LM : ∀ {c : Value} {b : Bool}, PySem.W.exmOne X.K cls c = some b → _ := fun {c b} hb1 => PySem.W.exm_one (M := model X.prog X.w) (J3.kIn) (fun A Q E s k q => wpAny_typeOf_ref (k _ _ g3) (by rw [z3.1]; exact q)) hb1
    have go : ∀ {hds1 : List ExceptHandler} {l1 : List Cl}, Mix X hds1 l1 → wMix X.K Wout D l1 cls d σ1 H1 → wpAny (model X.prog X.w) X.A (handleBy (.ref a) X.env hds1) (SP X pins D) X.xe { y with heap := h3 } := by
      intro hds1 l1 hk
      induction hk with
      | nil =>
        intro w
        refine wpAny_handleBy_nil ?_
        obtain ⟨_, _, _, oe, vs, T, _, _, he, hz, hd, h1, _⟩ := id fl3
        unfold PySem.passOn
        refine wpAny_bind (wpAny_field he hd h1 ?_)
        rw [if_neg (show ¬ ((Value.ref T == Value.none) = true) from by simp)]
        have away : wpAny (model X.prog X.w) X.A (setFlight (.ref a) X.env.frame) (fun _ y4 => wpAny (model X.prog X.w) X.A (throw (.ref a) : Sem Flow) (SP X pins D) X.xe y4) X.xe { y with heap := h3 } := by
          rw [hf]
          exact HandSPX.setFlight_upZ fl3 fun h4 hh4 up4 => wpAny_throw (tk _ _ ⟨a, B, sI, pins, σ1, H1, cls, d, rfl, J, nb, (up.trans up3).trans up4, .inr (.inr (by rw [hs]; exact hh4)), na, os, ag, w⟩)
        first
          | exact wpAny_bind (wpAny_pure (wpAny_bind away))
          | exact wpAny_bind away
      | @plain x c ts b₀ suite np pos' hds2 l2 hc su r ih =>
        rintro ⟨b, hb1, hyes, hno⟩
        refine wpAny_handleBy_cons (codeAny_handlers_test (nameIs hc ((LM hb1).here ?_))) (by intro q; cases q)
        cases b with
        | false => exact ih (hno rfl)
        | true =>
          refine codeAny_handlers_suite (HandSPX.lands_againZ fl3 fun h4 fl4 up4 => ?_)
          obtain ⟨o4, v4, g4, z4, d4⟩ := fl4.there
          have S4 := (J.landed (s' := { y with heap := h4 }) nb fl4.1 ((up.trans up3).trans up4) os ag).suite g4 d4 na aL aF
          refine wpAny_mono ((su a o4 cls d (X.pn ++ pins) z4 ⟨_, d4⟩).run [] _ _ H1 _ S4 (hyes rfl a na)) (fun f s6 hsp => ?_) (fun _ _ z => False.elim z)
          cases f with
          | ret u =>
            obtain ⟨v6, σ6, H6, S6, r6, q6⟩ := hsp
            exact ⟨_, _, _, S6.unsuite ok, r6, q6⟩
          | _ =>
            obtain ⟨σ6, H6, S6, q6⟩ := hsp
            exact ⟨_, _, S6.unsuite ok, q6⟩
      | @as x n c i ts b₀ suite np pos' hds2 l2 hi hln hc su r ih =>
        rintro ⟨b, hb1, hyes, hno⟩
        refine wpAny_handleBy_cons (codeAny_handlers_test (nameIs hc ((LM hb1).here ?_))) (by intro q; cases q)
        cases b with
        | false => exact ih (hno rfl)
        | true =>
          refine codeAny_handlers_suite_as (HandSPX.lands_againZ fl3 fun h4 fl4 up4 => ?_)
          obtain ⟨o4, v4, g4, z4, d4⟩ := fl4.there
          have S4 := (J.landed (s' := { y with heap := h4 }) nb fl4.1 ((up.trans up3).trans up4) os ag).suite g4 d4 na aL aF
          refine store_ok (X := X.suite a ((a, o4) :: (X.pn ++ pins))) (v := .ref a) S4 hN hi (.inl hln) rfl (fun s5 S5 => ?_) (.inr hln)
          refine wpAny_mono ((su a o4 cls d (X.pn ++ pins) z4 ⟨_, d4⟩).run [] s5 _ H1 _ S5 (hyes rfl a na)) (fun f s6 hsp => ?_) (fun _ _ z => False.elim z)
          cases f with
          | ret u =>
            obtain ⟨v6, σ6, H6, S6, r6, q6⟩ := hsp
            exact gone_ok (S6.unsuite ok) hN hi hln fun s7 J7 => ⟨_, _, _, J7, r6, q6⟩
          | _ =>
            obtain ⟨σ6, H6, S6, q6⟩ := hsp
            exact gone_ok (S6.unsuite ok) hN hi hln fun s7 J7 => ⟨_, _, J7, q6⟩
    exact go hh w
  · cases f with
    | next =>
      obtain ⟨σ', H', J', q⟩ := hsp
      exact ho.run pins s1 σ' H' D (J'.ofTry ok) q
    | ret u =>
      obtain ⟨v, σ', H', J', r, q⟩ := hsp
      exact ⟨v, σ', H', J'.ofTry ok, r, q⟩
    | _ =>
      obtain ⟨σ', H', J', q⟩ := hsp
      exact ⟨σ', H', J'.ofTry ok, q⟩
theorem ps_try_mix0 (hs : X.stack = X.env :: X.outer) (hf : X.env.frame = some X.env.locals) (hN : X.N.Nodup) (tk : Takes X Wout)
    (hb : ∀ (W : WX) (pn : List (Addr × Obj)) (xe : Value → Shared → Prop), Takes (X.tr pn xe) W → PassesOwn (model X.prog X.w) X.A X.env xe → PSs (X.tr pn xe) body (tb W))
    (hh : Mix X (h₀ :: hds) l) : PS X (.Try body (h₀ :: hds) [] [] pos) (fun D σ H => tb (wMix X.K Wout D l) D σ H) := ps_try_mix (u := tNext) pss_nil hs hf hN tk hb hh
end
end Tr

/-! Orbits: their mathematics, and what orbit_of and orbits tell. -/
namespace Tr
open PySem L2 PySem.Spec PyProof.Rows Evl

/-! ### going along -/
def nxN (ns : List Int) (t : Nat) : Nat := (place ns t).toNat
def itN (ns : List Int) (t : Nat) : Nat → Nat
  | 0 => t
  | k + 1 => nxN ns (itN ns t k)
section
variable {ns : List Int} {t : Nat}
theorem nx_lt (hn : 0 < ns.length) : nxN ns t < ns.length := by
  have b0 : 0 ≤ place ns t := Int.emod_nonneg _ (by omega)
  have b1 : place ns t < ns.length := Int.emod_lt_of_pos _ (by omega)
  unfold nxN
  omega
theorem nx_int (hn : 0 < ns.length) : ((nxN ns t : Nat) : Int) = place ns t := by
  have b0 : 0 ≤ place ns t := Int.emod_nonneg _ (by omega)
  unfold nxN
  omega
theorem it_lt (hn : 0 < ns.length) (ht : t < ns.length) : ∀ k, itN ns t k < ns.length
  | 0 => ht
  | k + 1 => nx_lt hn
theorem nx_inj (hn : 0 < ns.length) (hg : Goes ns) {a b : Nat} (ha : a < ns.length) (hb : b < ns.length) (e : nxN ns a = nxN ns b) : a = b := by
  refine hg a b ha hb ?_
  rw [← nx_int hn, ← nx_int hn, e]
theorem it_back (hn : 0 < ns.length) (hg : Goes ns) (ht : t < ns.length) : ∀ i j, itN ns t i = itN ns t (i + j) → itN ns t j = t
  | 0, j, e => by
    rw [Nat.zero_add] at e
    exact e.symm
  | i + 1, j, e => by
    refine it_back hn hg ht i j (nx_inj hn hg (it_lt hn ht _) (it_lt hn ht _) ?_)
    rw [show i + 1 + j = (i + j) + 1 by omega] at e
    exact e
theorem it_returns (hn : 0 < ns.length) (hg : Goes ns) (ht : t < ns.length) : ∃ k, k < ns.length ∧ itN ns t (k + 1) = t := by
  by_cases hi : ∀ i j, i < ns.length → j < ns.length → itN ns t i = itN ns t j → i = j
  · obtain ⟨x, hx, e⟩ := pigeon ns.length (itN ns t) (fun i _ => it_lt hn ht i) hi (itN ns t ns.length) (it_lt hn ht _)
    refine ⟨ns.length - x - 1, by omega, ?_⟩
    rw [show ns.length - x - 1 + 1 = ns.length - x by omega]
    exact it_back hn hg ht x (ns.length - x) (by rw [show x + (ns.length - x) = ns.length by omega]; exact e)
  · simp only [Classical.not_forall] at hi
    obtain ⟨i, j, hi1, hj1, e, hne⟩ := hi
    rcases Nat.lt_or_gt_of_ne hne with h | h
    · refine ⟨j - i - 1, by omega, ?_⟩
      rw [show j - i - 1 + 1 = j - i by omega]
      exact it_back hn hg ht i (j - i) (by rw [show i + (j - i) = j by omega]; exact e)
    · refine ⟨i - j - 1, by omega, ?_⟩
      rw [show i - j - 1 + 1 = i - j by omega]
      exact it_back hn hg ht j (i - j) (by rw [show j + (i - j) = i by omega]; exact e.symm)
/-- how long till it is back -/
def perN (ns : List Int) (t : Nat) : Nat := (((List.range ns.length).find? fun k => decide (itN ns t (k + 1) = t)).getD 0) + 1
theorem per_spec (hn : 0 < ns.length) (hg : Goes ns) (ht : t < ns.length) : itN ns t (perN ns t) = t ∧ perN ns t ≤ ns.length ∧ 1 ≤ perN ns t ∧ ∀ k, 1 ≤ k → k < perN ns t → itN ns t k ≠ t := by
  unfold perN
  cases hf : (List.range ns.length).find? (fun k => decide (itN ns t (k + 1) = t)) with
  | none =>
    obtain ⟨k, hk, e⟩ := it_returns hn hg ht
    have z := List.find?_eq_none.mp hf k (List.mem_range.mpr hk)
    exact absurd (decide_eq_true e) z
  | some k =>
    obtain ⟨h1, h2, h3⟩ := List.find?_range_eq_some.mp hf
    refine ⟨of_decide_eq_true h1, by have := List.mem_range.mp h2; show k + 1 ≤ _; omega, by show 1 ≤ k + 1; omega, fun j hj1 hj2 e => ?_⟩
    have hj2 : j < k + 1 := hj2
    have z := h3 (j - 1) (by omega)
    rw [show j - 1 + 1 = j by omega, decide_eq_true e] at z
    cases z
def orbN (ns : List Int) (t : Nat) : List Nat := (List.range (perN ns t)).map (itN ns t)
def sumO (ns : List Int) (O : List Nat) : Int := (O.map fun t => ns.getD t 0).sum
theorem orb_len : (orbN ns t).length = perN ns t := by unfold orbN; rw [List.length_map, List.length_range]
theorem orb_lt (hn : 0 < ns.length) (ht : t < ns.length) {u : Nat} (h : u ∈ orbN ns t) : u < ns.length := by
  obtain ⟨k, _, rfl⟩ := List.mem_map.mp h
  exact it_lt hn ht k
theorem orb_inj (hn : 0 < ns.length) (hg : Goes ns) (ht : t < ns.length) {i j : Nat} (hi : i < perN ns t) (hj : j < perN ns t) (e : itN ns t i = itN ns t j) : i = j := by
  obtain ⟨_, _, _, least⟩ := per_spec hn hg ht
  rcases Nat.lt_trichotomy i j with h | h | h
  · exact absurd (it_back hn hg ht i (j - i) (by rw [show i + (j - i) = j by omega]; exact e)) (least _ (by omega) (by omega))
  · exact h
  · exact absurd (it_back hn hg ht j (i - j) (by rw [show j + (i - j) = i by omega]; exact e.symm)) (least _ (by omega) (by omega))
theorem nodup_mapOn {α β : Type} {f : α → β} : ∀ {l : List α}, l.Nodup → (∀ a ∈ l, ∀ b ∈ l, f a = f b → a = b) → (l.map f).Nodup
  | [], _, _ => List.nodup_nil
  | x :: l, hn, hi => by
    rw [List.nodup_cons] at hn
    rw [List.map_cons, List.nodup_cons]
    refine ⟨fun hm => ?_, nodup_mapOn hn.2 fun a ha b hb => hi a (List.mem_cons_of_mem _ ha) b (List.mem_cons_of_mem _ hb)⟩
    obtain ⟨y, hy, e⟩ := List.mem_map.mp hm
    have := hi y (List.mem_cons_of_mem _ hy) x List.mem_cons_self e
    subst this
    exact hn.1 hy
theorem orb_nodup (hn : 0 < ns.length) (hg : Goes ns) (ht : t < ns.length) : (orbN ns t).Nodup :=
  nodup_mapOn List.nodup_range fun a ha b hb e => orb_inj hn hg ht (List.mem_range.mp ha) (List.mem_range.mp hb) e
/-- how far it got behind j throws -/
def farN (ns : List Int) (t : Nat) (j : Nat) : Int := sumN (fun k => ns.getD (itN ns t k) 0) j
theorem far_it (hn : 0 < ns.length) (ht : t < ns.length) : ∀ j, ((t : Int) + farN ns t j) % (ns.length : Int) = ((itN ns t j : Nat) : Int)
  | 0 => by
    show ((t : Int) + 0) % _ = (t : Int)
    rw [Int.add_zero, Int.emod_eq_of_lt (by omega) (by omega)]
  | j + 1 => by
    have ih := far_it hn ht j
    show ((t : Int) + (farN ns t j + ns.getD (itN ns t j) 0)) % _ = ((nxN ns (itN ns t j) : Nat) : Int)
    rw [nx_int hn, ← Int.add_assoc, ← Int.emod_add_emod, ih]
    rfl
theorem sumO_far : sumO ns (orbN ns t) = farN ns t (perN ns t) := by
  unfold sumO orbN farN
  rw [List.map_map]
  exact sum_range _ _
theorem sumO_div (hn : 0 < ns.length) (hg : Goes ns) (ht : t < ns.length) : sumO ns (orbN ns t) / (ns.length : Int) * ns.length = sumO ns (orbN ns t) := by
  have z := far_it hn ht (perN ns t)
  rw [(per_spec hn hg ht).1, ← sumO_far] at z
  have e : (t : Int) = (t : Int) % ns.length := (Int.emod_eq_of_lt (by omega) (by omega)).symm
  have w := Int.emod_eq_emod_iff_emod_sub_eq_zero.mp (z.trans e)
  have z2 : sumO ns (orbN ns t) % (ns.length : Int) = 0 := by
    rwa [show (t : Int) + sumO ns (orbN ns t) - (t : Int) = sumO ns (orbN ns t) by omega] at w
  exact Int.ediv_mul_cancel (Int.dvd_of_emod_eq_zero z2)
/-! ### all orbits -/
def stepO (ns : List Int) (acc : List Nat × List (List Nat)) (t : Nat) : List Nat × List (List Nat) := if t ∈ acc.1 then acc else (acc.1 ++ orbN ns t, acc.2 ++ [orbN ns t])
def accO (ns : List Int) (i : Nat) : List Nat × List (List Nat) := (List.range i).foldl (stepO ns) ([], [])
theorem accO_succ (i : Nat) : accO ns (i + 1) = stepO ns (accO ns i) i := by
  unfold accO
  rw [List.range_succ, List.foldl_append]
  rfl
def dO (ns : List Int) (O : List Nat) : PyData := .tuple [.tuple ((O.map fun (t : Nat) => (t : Int)).map .int), .int (sumO ns O / ns.length)]
def orbsD (ns : List Int) (i : Nat) : List PyData := (accO ns i).2.map (dO ns)
/-- met so far: closed both ways, each once -/
structure MetI (ns : List Int) (m : List Nat) : Prop where
  nd : m.Nodup
  lt : ∀ u ∈ m, u < ns.length
  cl : ∀ u, u < ns.length → (nxN ns u ∈ m ↔ u ∈ m)
theorem it_met {m : List Nat} (hn : 0 < ns.length) (ht : t < ns.length) (M : MetI ns m) : ∀ k, itN ns t k ∈ m ↔ t ∈ m
  | 0 => Iff.rfl
  | k + 1 => (M.cl _ (it_lt hn ht k)).trans (it_met hn ht M k)
theorem orb_cl (hn : 0 < ns.length) (hg : Goes ns) (ht : t < ns.length) {u : Nat} (hu : u < ns.length) : nxN ns u ∈ orbN ns t ↔ u ∈ orbN ns t := by
  obtain ⟨back, _, one, _⟩ := per_spec hn hg ht
  unfold orbN
  rw [List.mem_map, List.mem_map]
  constructor
  · rintro ⟨k, hk, e⟩
    have hk := List.mem_range.mp hk
    cases k with
    | zero =>
      refine ⟨perN ns t - 1, List.mem_range.mpr (by omega), nx_inj hn hg (it_lt hn ht _) hu ?_⟩
      show itN ns t (perN ns t - 1 + 1) = _
      rw [show perN ns t - 1 + 1 = perN ns t by omega, back]
      exact e
    | succ k => exact ⟨k, List.mem_range.mpr (by omega), nx_inj hn hg (it_lt hn ht _) hu e⟩
  · rintro ⟨k, hk, rfl⟩
    have hk := List.mem_range.mp hk
    by_cases hp : k + 1 = perN ns t
    · refine ⟨0, List.mem_range.mpr (by omega), ?_⟩
      show t = itN ns t (k + 1)
      rw [hp, back]
    · exact ⟨k + 1, List.mem_range.mpr (by omega), rfl⟩
theorem self_orb (hn : 0 < ns.length) (hg : Goes ns) (ht : t < ns.length) : t ∈ orbN ns t := by
  obtain ⟨_, _, one, _⟩ := per_spec hn hg ht
  exact List.mem_map.mpr ⟨0, List.mem_range.mpr (by omega), rfl⟩
theorem met_step {m : List Nat} (hn : 0 < ns.length) (hg : Goes ns) (ht : t < ns.length) (M : MetI ns m) (hm : ¬ t ∈ m) : MetI ns (m ++ orbN ns t) := by
  refine ⟨List.nodup_append.mpr ⟨M.nd, orb_nodup hn hg ht, fun a ha b hb e => ?_⟩, fun u hu => ?_, fun u hu => ?_⟩
  · subst e
    obtain ⟨k, _, rfl⟩ := List.mem_map.mp hb
    exact hm ((it_met hn ht M k).mp ha)
  · rcases List.mem_append.mp hu with h | h
    · exact M.lt u h
    · exact orb_lt hn ht h
  · rw [List.mem_append, List.mem_append, M.cl u hu, orb_cl hn hg ht hu]
theorem accO_met (hn : 0 < ns.length) (hg : Goes ns) : ∀ i, i ≤ ns.length → MetI ns (accO ns i).1 ∧ (∀ t, t < i → t ∈ (accO ns i).1) ∧ ((accO ns i).2.map fun O => sumO ns O / (ns.length : Int)).sum * ns.length = sumO ns (accO ns i).1 ∧ (accO ns i).2.length ≤ i
  | 0, _ => ⟨⟨List.nodup_nil, (fun u hu => absurd hu List.not_mem_nil), fun u _ => by show _ ∈ ([] : List Nat) ↔ _ ∈ ([] : List Nat); simp⟩, (fun t ht => absurd ht (Nat.not_lt_zero _)), by show (0 : Int) * _ = 0; omega, Nat.le_refl _⟩
  | i + 1, hi => by
    obtain ⟨M, all, sm, ln⟩ := accO_met hn hg i (by omega)
    rw [accO_succ]
    unfold stepO
    split
    · rename_i hm
      refine ⟨M, fun t ht => ?_, sm, by omega⟩
      by_cases e : t = i
      · subst e
        exact hm
      · exact all t (by omega)
    · rename_i hm
      refine ⟨met_step hn hg (by omega) M hm, fun t ht => ?_, ?_, by show (_ ++ [_]).length ≤ _; rw [List.length_append]; show _ + 1 ≤ _; omega⟩
      · show t ∈ _ ++ _
        rw [List.mem_append]
        by_cases e : t = i
        · subst e
          exact .inr (self_orb hn hg (by omega))
        · exact .inl (all t (by omega))
      · show (((accO ns i).2 ++ [orbN ns i]).map fun O => sumO ns O / (ns.length : Int)).sum * ns.length = sumO ns ((accO ns i).1 ++ orbN ns i)
        have e1 : sumO ns ((accO ns i).1 ++ orbN ns i) = sumO ns (accO ns i).1 + sumO ns (orbN ns i) := by
          unfold sumO
          rw [List.map_append, List.sum_append]
        rw [e1, List.map_append, List.sum_append, Int.add_mul, sm]
        have e2 := sumO_div hn hg (t := i) (by omega)
        show _ + (sumO ns (orbN ns i) / (ns.length : Int) + 0) * ns.length = _
        rw [Int.add_zero, e2]
theorem sum_perm {ns : List Int} : ∀ (n : Nat) (m : List Nat), m.Nodup → (∀ u ∈ m, u < n) → (∀ t, t < n → t ∈ m) → sumO ns m = sumN (fun t => ns.getD t 0) n
  | 0, m, _, hl, _ => by
    cases m with
    | nil => rfl
    | cons a m => exact absurd (hl a List.mem_cons_self) (Nat.not_lt_zero _)
  | n + 1, m, hn, hl, ha => by
    have hm := ha n (by omega)
    obtain ⟨a, b, rfl⟩ := List.append_of_mem hm
    have z : sumO ns (a ++ n :: b) = sumO ns (a ++ b) + ns.getD n 0 := by
      unfold sumO
      rw [List.map_append, List.map_append, List.map_cons, List.sum_append, List.sum_append, List.sum_cons]
      omega
    have hn' := List.nodup_append.mp hn
    have hb := List.nodup_cons.mp hn'.2.1
    rw [z, sumN, sum_perm n (a ++ b) (List.nodup_append.mpr ⟨hn'.1, hb.2, fun x hx y hy => hn'.2.2 x hx y (List.mem_cons_of_mem _ hy)⟩) (fun u hu => ?_) fun t ht => ?_]
    · have h1 : u < n + 1 := by
        rcases List.mem_append.mp hu with h | h
        · exact hl u (List.mem_append_left _ h)
        · exact hl u (List.mem_append_right _ (List.mem_cons_of_mem _ h))
      have h2 : u ≠ n := fun e => by
        subst e
        rcases List.mem_append.mp hu with h | h
        · exact hn'.2.2 u h u List.mem_cons_self rfl
        · exact hb.1 h
      omega
    · rcases List.mem_append.mp (ha t (by omega)) with h | h
      · exact List.mem_append_left _ h
      · rcases List.mem_cons.mp h with h | h
        · omega
        · exact List.mem_append_right _ h
/-- all things of all orbits together -/
theorem orbs_sum (hn : 0 < ns.length) (hg : Goes ns) : ((accO ns ns.length).2.map fun O => sumO ns O / (ns.length : Int)).sum * ns.length = ns.sum := by
  obtain ⟨M, all, sm, _⟩ := accO_met hn hg ns.length (Nat.le_refl _)
  rw [sm, sum_perm ns.length _ M.nd M.lt all]
  have z := congrArg List.sum (map_getD0 ns)
  rw [sum_range] at z
  exact z
theorem flat_orbs {i : Nat} : Flat 3 (.list (orbsD ns i)) := flat_list fun d hd => by
  obtain ⟨O, _, rfl⟩ := List.mem_map.mp hd
  refine flat_tuple fun d hd => ?_
  rcases List.mem_cons.mp hd with rfl | hd
  · exact flat_intsT
  · rw [List.mem_singleton.mp hd]
    exact flat_int.mono (by decide)
end
/-! ### promises -/
def natI (O : List Nat) : List Int := O.map fun (t : Nat) => (t : Int)
def RetU (xs : List V) (H : Hp) (Q : VK) : Prop := ∀ p H2, H p = none → Ex H H2 → H2 p = some (.tup xs) → Q (.ref p) H2
/-- a new list of known data, its parts elsewhere -/
def RetO (K : PySem.W.Frag) (ds : List PyData) (H : Hp) (Q : VK) : Prop := ∀ l xs H2, H l = none → Ex H H2 → H2 l = some (.lst xs) → DpAll K (del H2 l) xs ds → Q (.ref l) H2
def sp_orbit_of (K : PySem.W.Frag) (c : Cs) : Sp := fun vs H Q _ => ∃ (p : Addr) (ns : List Int) (t : Nat), vs = [.ref p, .int (t : Int)] ∧ SqQ K H p (ns.map V.int) ∧ Good ns ∧ clashF ns = none ∧ t < ns.length ∧ RetU ((natI (orbN ns t)).map V.int) H Q
def sp_orbits (K : PySem.W.Frag) (c : Cs) : Sp := fun vs H Q E => ∃ x, vs = [x] ∧ Need K c x H E fun ns => RetO K (orbsD ns ns.length) H Q
/-- orbit_of: slots row, turn, turns -/
def t_orbit_of (K : PySem.W.Frag) (c : Cs) (E : XK) : TS :=
  (tSeq (tAsg (tLst (tCons (tVar 1) tNil)) (gName 2))
  (tSeq (tWhile (tB (tC (.bl true))) (tSeq (tAsg (tOp xMod (tOp (xAdd K) (tVar 1) (tOp (rIx K) (tVar 0) (tVar 1))) (tCB (cLen K) (tCons (tVar 0) tNil))) (gName 1))
  (tSeq (tIfS (tTest (tOp (xEq K) (tVar 1) (tOp (rIx K) (tVar 2) (tC (.int 0))))) tBreak tNext)
  (tDrop (tBM K "list" rAppend (tVar 2) (tCons (tVar 1) tNil))))))
  (tRet (tCB (cTuple K) (tCons (tVar 2) tNil)))))

/-- orbits: slots row, found, met, turn, turns, one -/
def t_orbits (K : PySem.W.Frag) (c : Cs) (E : XK) : TS :=
  (tSeq (tDrop (tCall (sp_need_going K c) [] E (tCons (tVar 0) tNil)))
  (tSeq (tAsg (tLst tNil) (gName 1))
  (tSeq (tAsg tDNewK (gName 2))
  (tSeq (tFor (iRng1 (tCons (tCB (cLen K) (tCons (tVar 0) tNil)) tNil)) (gName 3) (tSeq (tIfS (tB (tDIn (tVar 3) (tVar 2))) tCont tNext)
  (tSeq (tAsg (tCall (sp_orbit_of K c) [] E0 (tCons (tVar 0) (tCons (tVar 3) tNil))) (gName 4))
  (tSeq (tFor (iSeq K (tVar 4)) (gName 5) (sDPut (tVar 2) (tVar 5) (tC (.bl true))))
  (tDrop (tBM K "list" rAppend (tVar 1) (tCons (tTup (tCons (tVar 4) (tCons (tOp xDiv (tCB (cSum K) (tCons (tLc (iSeq K (tVar 4)) (gName 5) tYes (tOp (rIx K) (tVar 0) (tVar 5)) [5]) tNil)) (tCB (cLen K) (tCons (tVar 0) tNil))) tNil))) tNil)))))))
  (tRet (tVar 1))))))

section
variable {K : PySem.W.Frag} {c : Cs} {vs : List V} {H H' H2 : Hp} {Q : VK} {E : XK} {ns : List Int} {D : Ends} {tz : TS} {σ : L2.St} {te ta tb : TE} {l a : Addr}
theorem del_at {b : Addr} {o : HO} (hb : b ≠ l) (h : H b = some o) : del H l b = some o := (if_neg hb).trans h
theorem ex_del : Ex (del H l) H := fun b o h => by
  by_cases e : b = l
  · subst e
    rw [L2.del_same] at h
    cases h
  · rwa [L2.del_ne e] at h
theorem ex_dels (e : But l H H2) : Ex (del H l) (del H2 l) := fun b o h => by
  by_cases hb : b = l
  · subst hb
    rw [L2.del_same] at h
    cases h
  · rw [L2.del_ne hb] at h
    exact del_at hb (e b o hb h)
theorem but_ex (e : Ex H H2) : But l H H2 := fun b o _ h => e b o h
theorem but_upd {o : HO} (e : Ex H H2) : But l H (upd H2 l o) := fun b o' hb h => (upd_ne hb).trans (e b o' h)
theorem But.trans {H3 : Hp} (e : But l H H2) (f : But l H2 H3) : But l H H3 := fun b o hb h => f b o hb (e b o hb h)
theorem dpa_snoc {xs : List V} {ds : List PyData} {x : V} {d : PyData} (h : DpAll K H xs ds) (hx : Dp K H x d) : DpAll K H (xs ++ [x]) (ds ++ [d]) := by
  induction xs generalizing ds with
  | nil =>
    cases h
    exact .cons hx .nil
  | cons y ys ih =>
    cases h with
    | cons h1 h2 => exact .cons h1 (ih h2)
theorem at_last {α : Type} {xs : List α} {x : α} : atI (xs ++ [x]) (-1) = some x := by
  unfold atI ixN
  rw [if_neg (by omega), if_pos (by rw [List.length_append]; show -((xs.length + 1 : Nat) : Int) ≤ -1; omega), Option.bind_some, List.length_append]
  show (xs ++ [x])[(((xs.length + 1 : Nat) : Int) + -1).toNat]? = some x
  rw [show (((xs.length + 1 : Nat) : Int) + -1).toNat = xs.length by omega, List.getElem?_append_right (Nat.le_refl _), Nat.sub_self]
  rfl
theorem natI_take {f : Nat → Nat} {j : Nat} : (natI ((List.range (j + 1)).map f)).map V.int = (natI ((List.range j).map f)).map V.int ++ [V.int (f j : Int)] := by
  unfold natI
  rw [List.range_succ, List.map_append, List.map_append, List.map_append]
  rfl
theorem eu_tupleL {xs : List V} (ha : EvS K ta σ H xs) : EvU (tCB (cTuple K) (tCons ta tNil)) σ H xs := fun H1 e Q q =>
  ha H1 e _ fun a H2 e2 h2 => ⟨a, xs, rfl, .inl ⟨h2, fun l hl => q l _ (fresh_back e2 hl) (e2.trans (Ex.new hl)) upd_same⟩⟩
theorem pure_orbit_of (h : sp_orbit_of K c vs H Q E) : t_orbit_of K c E { nx := fun _ H' => Q .non H', rt := Q } (start ["row", "turn", "turns"] vs) H := by
  obtain ⟨p, ns, t, rfl, hq, hg, hc, ht, q⟩ := h
  have hn : 0 < ns.length := hg.1
  have h40 := hg.2.1
  have hgo := goes_iff.mp hc
  obtain ⟨back, hper, one, least⟩ := per_spec hn hgo ht
  refine q_asgL (xs := [.int (t : Int)]) (el_lst (ea_cons (ev_var rfl) ea_nil) (by show 1 ≤ 100000; decide)) fun l H1 hl e1 h1 => ?_
  have lenR : ∀ {H' : Hp} {σ : L2.St}, Ex H H' → σ[0]? = some (some (.ref p)) → Ev (tCB (cLen K) (tCons (tVar 0) tNil)) σ H' (.int ((ns.length : Nat) : Int)) := fun e h0 => ev_lenI (evq_of (ev_var h0) (ex_q e hq))
  let W : Nat → L2.St → Hp → Prop := fun m σ' H' => ∃ j, j < perN ns t ∧ m + j = perN ns t ∧ Ex H H' ∧ H' l = some (.lst ((natI ((List.range (j + 1)).map (itN ns t))).map V.int)) ∧ σ' = [some (.ref p), some (.int ((itN ns t j : Nat) : Int)), some (.ref l)]
  refine s_while (D := { nx := _, rt := _ }) W (perN ns t) ⟨0, one, rfl, e1, h1, rfl⟩ ?_
  rintro m σ' H' ⟨j, hj, hm, eH, hll, rfl⟩
  refine ⟨true, et_B ev_c, fun _ H2 e2 => ⟨_, fun _ _ h => h, ?_⟩, fun z => nomatch z⟩
  have eH2 := eH.trans e2
  have hit := it_lt hn ht j
  refine q_asg (v := .int ((itN ns t (j + 1) : Nat) : Int)) (ev_is (ev_op (ev_op (ev_var rfl) (ev_ixI (t := itN ns t j) (evq_of (ev_var rfl) (ex_q eH2 hq)) (fun _ _ => ev_var rfl) hit) rv_addI) (lenR eH2 rfl) (rv_mod (by omega))) ?_) fun H3 e3 => ?_
  · show V.int (place ns (itN ns t j)) = _
    rw [← nx_int hn]
    rfl
  have hl3 := e3 _ _ (e2 _ _ hll)
  have g0 : atI ((natI ((List.range (j + 1)).map (itN ns t))).map V.int) 0 = some (.int (t : Int)) := by
    have z := atI_ints (ns := natI ((List.range (j + 1)).map (itN ns t))) (i := 0) (by decide) (by unfold natI; rw [List.length_map, List.length_map, List.length_range]; omega)
    rw [z]
    congr 2
    show (natI ((List.range (j + 1)).map (itN ns t))).getD 0 0 = _
    unfold natI
    rw [List.map_map]
    exact getD_mapR (f := fun k => ((itN ns t k : Nat) : Int)) (by omega)
  refine q_when (b := decide (itN ns t (j + 1) = t)) (et_is (et_test (ev_op (ev_var rfl) (ev_ix (i := 0) (evq_of (ev_var rfl) (.inl (SqL.of hl3))) (fun _ _ => ev_c) g0) rv_eqI)) (by rw [Bool.eq_iff_iff, decide_eq_true_eq, decide_eq_true_eq]; omega)) (fun hb H4 e4 => ?_) fun hb H4 e4 => ?_
  · have hb := of_decide_eq_true hb
    have e : j + 1 = perN ns t := by
      by_cases h : j + 1 < perN ns t
      · exact absurd hb (least (j + 1) (by omega) h)
      · omega
    rw [e] at hl3
    refine s_retU (xs := (natI (orbN ns t)).map V.int) (eu_tupleL (evs_of (ev_var (i := 2) rfl) (SqL.of (e4 _ _ hl3)))) fun r H5 hr e5 h5 => ?_
    exact q r H5 (fresh_back ((eH2.trans e3).trans e4) hr) (((eH2.trans e3).trans e4).trans e5) h5
  · have hb := of_decide_eq_false hb
    have hj2 : j + 1 < perN ns t := by
      by_cases h : j + 1 = perN ns t
      · rw [h] at hb
        exact absurd back hb
      · omega
    refine s_app (v := .int ((itN ns t (j + 1) : Nat) : Int)) (e4 _ _ hl3) (ev_var rfl) (ev_var rfl) (by unfold natI; rw [List.length_map, List.length_map, List.length_map, List.length_range]; omega) fun H5 e5 => ⟨m - 1, by omega, j + 1, hj2, by omega, Ex.mut (((eH2.trans e3).trans e4).trans e5) hl, ?_, rfl⟩
    rw [upd_same, natI_take (j := j + 1)]
/-- what is no tuple may go -/
theorem sqT_del {a : Addr} {xs : List V} {o : HO} (h : SqT K H a xs) (hl : H l = some o) (ho : ∀ ys, o ≠ .tup ys) (hf : ∀ f u, o ≠ .frz f u) : SqT K (del H l) a xs := by
  rcases h with h | h
  · refine .inl ?_
    rcases h with h | ⟨f, h⟩
    · refine .inl (del_at (fun e => ?_) h)
      subst e
      rw [hl] at h
      cases h
      exact ho _ rfl
    · refine .inr ⟨f, del_at (fun e => ?_) h⟩
      subst e
      rw [hl] at h
      cases h
      exact hf _ _ rfl
  · exact .inr h
theorem dpa_intsH {ns : List Int} : ∀ {vs : List V}, DpAll K H vs (ns.map PyData.int) → DpAll K H2 vs (ns.map PyData.int) := by
  induction ns with
  | nil =>
    intro vs h
    cases h
    exact .nil
  | cons n ns ih =>
    intro vs h
    cases h with
    | cons h1 h2 =>
      cases h1
      exact .cons (.int n) (ih h2)
theorem dpO_del {O : List Nat} {v : V} {o : HO} (h : Dp K H v (dO ns O)) (hl : H l = some o) (ho : ∀ ys, o ≠ .tup ys) (hf : ∀ f u, o ≠ .frz f u) : Dp K (del H l) v (dO ns O) := by
  cases h with
  | tup hs ha =>
  cases ha with
  | cons h1 ha =>
  cases ha with
  | cons h2 ha =>
  cases ha
  cases h2
  cases h1 with
  | tup ht hb => exact .tup (sqT_del hs hl ho hf) (.cons (.tup (sqT_del ht hl ho hf) (dpa_intsH hb)) (.cons (.int _) .nil))
theorem evd_of' {i : Int} (h : Ev te σ H (.int i)) : EvD K te σ H (.int i) := fun H1 e Q q => h H1 e Q fun H2 e2 => q _ H2 e2 (.int i)
theorem evd_tup2 {d1 d2 : PyData} (h1 : EvD K ta σ H d1) (h2 : EvD K tb σ H d2) : EvD K (tTup (tCons ta (tCons tb tNil))) σ H (.tuple [d1, d2]) := fun H1 e Q q =>
  h1 H1 e _ fun v H2 e2 p => h2 H2 (e.trans e2) _ fun w H3 e3 p2 => ⟨sz_of (by show 2 ≤ 100000; decide), fun r hr => q _ _ ((e2.trans e3).trans (Ex.new hr)) (.tup (SqT.of upd_same) (.cons (dp_ex (e3.trans (Ex.new hr)) p) (.cons (dp_ex (Ex.new hr) p2) .nil)))⟩
/-- a value of known data, put at the end of a list -/
theorem s_appD {xs : List V} {d : PyData} (hl : H l = some (.lst xs)) (ha : Ev ta σ H (.ref l)) (h : EvD K te σ H d) (hz : xs.length < 100000) (k : ∀ v H1, Ex H H1 → Dp K H1 v d → D.nx σ (upd H1 l (.lst (xs ++ [v])))) :
    tDrop (tBM K "list" rAppend ta (tCons te tNil)) D σ H := ha H (Ex.refl H) _ fun H1 e1 =>
  ⟨Or.inl ⟨rfl, xs, sq_of (e1 l _ hl)⟩, h H1 e1 _ fun v H2 e2 p => ⟨l, xs, v, rfl, rfl, e2 l _ (e1 l _ hl), sz_lt hz, k v H2 (e1.trans e2) p⟩⟩
theorem eu_orbit_of {p : Addr} {t : Nat} (ha : Ev ta σ H (.ref p)) (hb : Ev tb σ H (.int (t : Int))) (hq : SqQ K H p (ns.map V.int)) (hg : Good ns) (hc : clashF ns = none) (ht : t < ns.length) : EvU (tCall (sp_orbit_of K c) [] E (tCons ta (tCons tb tNil))) σ H ((natI (orbN ns t)).map V.int) := fun H1 e1 Q q =>
  ha H1 e1 _ fun H2 e2 => hb H2 (e1.trans e2) _ fun H3 e3 => ⟨p, ns, t, rfl, ex_q ((e1.trans e2).trans e3) hq, hg, hc, ht, fun r H4 hr e4 h4 => q r H4 (fresh_back (e2.trans e3) hr) ((e2.trans e3).trans e4) h4⟩
theorem mem_natI {O : List Nat} {u : Int} : u ∈ natI O ↔ ∃ t ∈ O, (t : Int) = u := by
  unfold natI
  rw [List.mem_map]
theorem natI_at {O : List Nat} {i : Nat} {x : V} (h : ((natI O).map V.int)[i]? = some x) : ∃ (hi : i < O.length), x = .int ((O[i] : Nat) : Int) := by
  unfold natI at h
  rw [List.map_map, List.getElem?_map] at h
  cases e : O[i]? with
  | none =>
    rw [e] at h
    cases h
  | some z =>
    rw [e] at h
    obtain ⟨hi, ez⟩ := List.getElem?_eq_some_iff.mp e
    refine ⟨hi, ?_⟩
    rw [ez]
    exact (Option.some.inj h).symm
theorem putK_le (kvs : List (Key × V)) (k : Key) (v : V) : (putK kvs k v).length ≤ kvs.length + 1 := by
  unfold putK
  split
  · rw [List.length_map]
    omega
  · rw [List.length_append]
    exact Nat.le_refl _
theorem pure_orbits (h : sp_orbits K c vs H Q E) : t_orbits K c E { nx := fun _ H' => Q .non H', rt := Q } (start ["row", "found", "met", "turn", "turns", "one"] vs) H := by
  obtain ⟨x, rfl, h⟩ := h
  refine ⟨x, rfl, x, rfl, need_up (Ex.refl _) h fun ns hr hg hc q H1 e1 => nx_mk ?_⟩
  obtain ⟨p, rfl, hq⟩ := hr
  have hn : 0 < ns.length := hg.1
  have h40 := hg.2.1
  have hgo := goes_iff.mp hc
  refine q_asgL (xs := []) (el_lst ea_nil (by decide)) fun l H2 hl2 e2 h2 => ?_
  have e12 := e1.trans e2
  have hlH : H l = none := fresh_back e1 hl2
  refine q_asgD fun d hd => ?_
  have hdH : H d = none := fresh_back e12 hd
  have hld : l ≠ d := ne_of_none h2 hd
  have lenR : ∀ {H' : Hp} {σ : L2.St}, Ex H H' → σ[0]? = some (some (.ref p)) → Ev (tCB (cLen K) (tCons (tVar 0) tNil)) σ H' (.int ((ns.length : Nat) : Int)) := fun e h0 => ev_lenI (evq_of (ev_var h0) (ex_q e hq))
  refine q_forR1 (n := (ns.length : Int)) (ea_cons (lenR (e12.trans (Ex.new hd)) rfl) ea_nil) (by omega)
    (fun i σ' H' => Ex H H' ∧ (∃ kvs, H' d = some (.dK kvs) ∧ kvs.length ≤ i * 40 ∧ ∀ u : Int, (valV kvs (Sum.inl u)).isSome = true ↔ ∃ t ∈ (accO ns i).1, (t : Int) = u) ∧ (∃ xs, H' l = some (.lst xs) ∧ xs.length ≤ i ∧ DpAll K (del (del H' d) l) xs (orbsD ns i)) ∧ ∃ u v w, σ' = [some (V.ref p), some (.ref l), some (.ref d), u, v, w])
    (fun H3 e3 => ⟨(e12.trans (Ex.new hd)).trans e3, ⟨[], e3 _ _ upd_same, Nat.zero_le _, fun u => ⟨(fun z => nomatch z), fun ⟨t, ht, _⟩ => absurd ht List.not_mem_nil⟩⟩, ⟨[], e3 _ _ ((upd_ne hld).trans h2), Nat.le_refl _, .nil⟩, none, none, none, rfl⟩) ?_ ?_
  · rintro i σ' H' hi ⟨eH, ⟨kvs, hdk, hkl, hks⟩, ⟨xs, hll, hxl, hdp⟩, u, v, w, rfl⟩
    have hi' : i < ns.length := by omega
    have isd : (valV kvs (Sum.inl (i : Int))).isSome = decide (i ∈ (accO ns i).1) := by
      rw [Bool.eq_iff_iff, hks, decide_eq_true_eq]
      constructor
      · rintro ⟨t, ht, e⟩
        have : t = i := by omega
        rwa [this] at ht
      · exact fun h => ⟨i, h, rfl⟩
    refine q_when (b := decide (i ∈ (accO ns i).1)) (et_is (et_B (ev_din (k := Sum.inl (i : Int)) (ev_var rfl) (ev_var rfl) hdk)) isd) (fun hb H3 e3 => ?_) fun hb H3 e3 => ?_
    · have hm := of_decide_eq_true hb
      have ea : accO ns (i + 1) = accO ns i := by rw [accO_succ]; exact if_pos hm
      refine ⟨eH.trans e3, ⟨kvs, e3 _ _ hdk, by omega, by rw [ea]; exact hks⟩, ⟨xs, e3 _ _ hll, by omega, ?_⟩, some (.int (i : Int)), v, w, rfl⟩
      show DpAll K _ xs ((accO ns (i + 1)).2.map (dO ns))
      rw [ea]
      exact dpa_ex (ex_dels (but_ex (ex_dels (but_ex e3)))) hdp
    have hm := of_decide_eq_false hb
    have ea : accO ns (i + 1) = ((accO ns i).1 ++ orbN ns i, (accO ns i).2 ++ [orbN ns i]) := by rw [accO_succ]; exact if_neg hm
    obtain ⟨back, hper, one, least⟩ := per_spec hn hgo hi'
    have hol : (orbN ns i).length ≤ 40 := by rw [orb_len]; omega
    refine q_asgU (eu_orbit_of (K := K) (c := c) (t := i) (ev_var rfl) (ev_var rfl) (ex_q (eH.trans e3) hq) hg hc hi') fun T H4 hT e4 h4 => ?_
    have eH4 := (eH.trans e3).trans e4
    have hTd : T ≠ d := Ne.symm (ne_of_none (e3 _ _ hdk) hT)
    have hTl : T ≠ l := Ne.symm (ne_of_none (e3 _ _ hll) hT)
    have hdk4 := e4 _ _ (e3 _ _ hdk)
    have hll4 := e4 _ _ (e3 _ _ hll)
    have hTdel : SqQ K (del H4 d) T ((natI (orbN ns i)).map V.int) := .inr (SqT.of (del_at hTd h4))
    refine q_forQ (j := 5) (b := T) (H0 := del H4 d) (ev_var (i := 4) rfl) hTdel ex_del (fun j σ' H' => But d H4 H' ∧ (∃ kvs', H' d = some (.dK kvs') ∧ kvs'.length ≤ i * 40 + j ∧ ∀ u : Int, (valV kvs' (Sum.inl u)).isSome = true ↔ (∃ t ∈ (accO ns i).1, (t : Int) = u) ∨ ∃ t ∈ (orbN ns i).take j, (t : Int) = u) ∧ ∃ w, σ' = [some (V.ref p), some (.ref l), some (.ref d), some (.int (i : Int)), some (.ref T), w])
      (fun H5 e5 => ⟨but_ex e5, ⟨kvs, e5 _ _ hdk4, by omega, fun u => by rw [hks]; simp⟩, w, rfl⟩) (fun j σ' H' z => fun b o hb => by
        by_cases e : b = d
        · subst e
          rw [L2.del_same] at hb
          cases hb
        · rw [L2.del_ne e] at hb
          exact z.1 b o e hb) ?_ ?_
    · rintro j x σ' H5 hx ⟨b5, ⟨kvs', hk', hkl', hks'⟩, w, rfl⟩
      obtain ⟨hj, rfl⟩ := natI_at hx
      refine s_dput (v := .bl true) (k := Sum.inl (((orbN ns i)[j] : Nat) : Int)) ev_c (ev_var rfl) (ev_var rfl) hk' (by omega) fun H6 e6 => ⟨fun b o hb h => (upd_ne hb).trans (e6 _ _ (b5 b o hb h)), ⟨_, upd_same, ?_, fun u => ?_⟩, some _, rfl⟩
      · have := putK_le kvs' (Sum.inl (((orbN ns i)[j] : Nat) : Int)) (.bl true)
        omega
      · rw [valV_put, List.take_succ_eq_append_getElem hj]
        split
        · rename_i e
          have e : u = (((orbN ns i)[j] : Nat) : Int) := by injection e
          constructor
          · intro _
            exact .inr ⟨_, List.mem_append_right _ (List.mem_singleton.mpr rfl), e.symm⟩
          · intro _
            rfl
        · rename_i e
          rw [hks']
          constructor
          · rintro (h | ⟨t, ht, e2⟩)
            · exact .inl h
            · exact .inr ⟨t, List.mem_append_left _ ht, e2⟩
          · rintro (h | ⟨t, ht, e2⟩)
            · exact .inl h
            · rcases List.mem_append.mp ht with ht | ht
              · exact .inr ⟨t, ht, e2⟩
              · rw [List.mem_singleton.mp ht] at e2
                exact absurd (by rw [e2]) e
    · rintro σ' H5 ⟨b5, ⟨kvs', hk', hkl', hks'⟩, w, rfl⟩
      have hlen : ((natI (orbN ns i)).map V.int).length = (orbN ns i).length := by unfold natI; rw [List.length_map, List.length_map]
      rw [hlen, List.take_length] at hks'
      rw [hlen] at hkl'
      have eH5 : Ex H H5 := b5.ex eH4 hdH
      have hT5 := b5 _ _ hTd h4
      have hll5 := b5 _ _ hld hll4
      have row : ∀ {H' : Hp} {σ : L2.St}, Ex H H' → σ[0]? = some (some (.ref p)) → EvQ K (tVar 0) σ H' (ns.map V.int) := fun e h0 => evq_of (ev_var h0) (ex_q e hq)
      have sumE : Ev (tOp xDiv (tCB (cSum K) (tCons (tLc (iSeq K (tVar 4)) (gName 5) tYes (tOp (rIx K) (tVar 0) (tVar 5)) [5]) tNil)) (tCB (cLen K) (tCons (tVar 0) tNil))) [some (V.ref p), some (.ref l), some (.ref d), some (.int (i : Int)), some (.ref T), w] H5 (.int (sumO ns (orbN ns i) / ns.length)) := by
        have z := el_lcQ (K := K) (σ := [some (V.ref p), some (.ref l), some (.ref d), some (.int (i : Int)), some (.ref T), w]) (H := H5) (t := tYes) (te := tOp (rIx K) (tVar 0) (tVar 5)) (tl := tVar 4) (j := 5) (vs := [5]) (a := T) (xs := (natI (orbN ns i)).map V.int)
          (fun _ => true) (fun k => .int ((fun u : Nat => ns.getD u 0) ((orbN ns i).getD k 0))) (ev_var rfl) (.inr (SqT.of hT5)) (by rw [hlen]; omega) (fun _ => rfl)
          (fun k x H6 e6 hx => et_yes) (fun k x H6 e6 hx _ => by
            obtain ⟨hk, rfl⟩ := natI_at hx
            have e : (orbN ns i).getD k 0 = (orbN ns i)[k] := by rw [List.getD_eq_getElem?_getD, List.getElem?_eq_getElem hk]; rfl
            show Ev _ _ _ (.int (ns.getD ((orbN ns i).getD k 0) 0))
            rw [e]
            exact ev_ixI (t := (orbN ns i)[k]) (row (eH5.trans e6) rfl) (fun _ _ => ev_var rfl) (orb_lt hn hi' (List.getElem_mem hk)))
        have e : given ((natI (orbN ns i)).map V.int).length (fun _ => true) (fun k => V.int ((fun u : Nat => ns.getD u 0) ((orbN ns i).getD k 0))) = ((orbN ns i).map fun u => ns.getD u 0).map V.int := by
          rw [hlen, given_all]
          have y : (List.range (orbN ns i).length).map (fun k => (orbN ns i).getD k 0) = orbN ns i := by
            apply List.ext_getElem (by rw [List.length_map, List.length_range])
            intro k h1 h2
            rw [List.getElem_map, List.getElem_range, List.getD_eq_getElem?_getD, List.getElem?_eq_getElem h2]
            rfl
          have y2 := congrArg (fun L => (L.map fun u : Nat => ns.getD u 0).map V.int) y
          simp only [List.map_map] at y2 ⊢
          exact y2
        rw [e] at z
        exact ev_op (ev_sum (evq_s (evs_new z))) (lenR eH5 rfl) (rv_div (by k_caughtB))
      refine s_appD (d := dO ns (orbN ns i)) hll5 (ev_var rfl) (evd_tup2 (evd_w (evw_of (ev_var (i := 4) rfl) (SqT.of hT5)) (dpa_ints _)) (evd_of' sumE)) (by omega) fun v2 H6 e6 hv => ?_
      have hk6 := e6 _ _ hk'
      have hl6 := e6 _ _ hll5
      have hdel : Dp K (del (del H6 d) l) v2 (dO ns (orbN ns i)) := dpO_del (dpO_del hv hk6 (fun _ z => nomatch z) (fun _ _ z => nomatch z)) (del_at hld hl6) (fun _ z => nomatch z) (fun _ _ z => nomatch z)
      refine ⟨Ex.mut (eH5.trans e6) hlH, ⟨kvs', (upd_ne (Ne.symm hld)).trans hk6, by omega, ?_⟩, ⟨xs ++ [v2], upd_same, by rw [List.length_append]; show xs.length + 1 ≤ _; omega, ?_⟩, some (.int (i : Int)), some (.ref T), w, rfl⟩
      · intro u
        rw [hks', ea]
        show _ ↔ ∃ t ∈ (accO ns i).1 ++ orbN ns i, _
        constructor
        · rintro (⟨t, ht, e⟩ | ⟨t, ht, e⟩)
          · exact ⟨t, List.mem_append_left _ ht, e⟩
          · exact ⟨t, List.mem_append_right _ ht, e⟩
        · rintro ⟨t, ht, e⟩
          rcases List.mem_append.mp ht with ht | ht
          · exact .inl ⟨t, ht, e⟩
          · exact .inr ⟨t, ht, e⟩
      · show DpAll K _ (xs ++ [v2]) ((accO ns (i + 1)).2.map (dO ns))
        rw [ea, List.map_append]
        have step1 : Ex (del (del H' d) l) (del (del H6 d) l) := ex_dels (but_ex (ex_dels fun b o hb h => e6 _ _ (b5 b o hb (e4 _ _ (e3 _ _ h)))))
        have step2 : Ex (del (del H6 d) l) (del (del (upd H6 l (.lst (xs ++ [v2]))) d) l) := ex_dels fun b o hb h => by
          by_cases e : b = d
          · subst e
            rw [L2.del_same] at h
            cases h
          · rw [L2.del_ne e] at h ⊢
            exact (upd_ne hb).trans h
        exact dpa_snoc (dpa_ex (step1.trans step2) hdp) (dp_ex step2 hdel)
  · rintro σ' H' ⟨eH, _, ⟨xs, hll, hxl, hdp⟩, u, v, w, rfl⟩
    refine s_ret (v := .ref l) (ev_var rfl) fun H3 e3 => q l xs H3 hlH (eH.trans e3) (e3 _ _ hll) ?_
    exact dpa_ex (ex_dels fun b o hb h => by
      by_cases e : b = d
      · subst e
        rw [L2.del_same] at h
        cases h
      · rw [L2.del_ne e] at h
        exact e3 _ _ h) hdp
end
end Tr

/-! Ways from state to state: paths, which is less, a search round by round that finds the least; how many bits. -/
namespace Tr
open PySem L2 PySem.Spec PyProof.Rows Evl

/-! ### paths -/
/-- throws, each let, lead from a to b -/
inductive PathS : Int → List Int → Int → Prop where
  | nil (a : Int) : PathS a [] a
  | cons {a h : Int} {p : List Int} {b : Int} : h ∈ letsF a → PathS (thrownF a h) p b → PathS a (h :: p) b
def pcI (s : Int) : Nat := pc s.toNat 9
theorem step_fin : ((List.range 512).all fun s => (letsF s).all fun h => decide (0 ≤ thrownF s h) && (decide (thrownF s h ≤ 511) && decide (pcI (thrownF s h) = pcI s))) = true := by decide +kernel
theorem step_ok {s h : Int} (h0 : 0 ≤ s) (h1 : s ≤ 511) (m : h ∈ letsF s) : 0 ≤ thrownF s h ∧ thrownF s h ≤ 511 ∧ pcI (thrownF s h) = pcI s := by
  have z := List.all_eq_true.mp step_fin s.toNat (List.mem_range.mpr (by omega))
  rw [Int.toNat_of_nonneg h0] at z
  have z := List.all_eq_true.mp z h m
  simp only [Bool.and_eq_true, decide_eq_true_eq] at z
  exact z
theorem PathS.ok {a b : Int} {p : List Int} (h : PathS a p b) (h0 : 0 ≤ a) (h1 : a ≤ 511) : 0 ≤ b ∧ b ≤ 511 ∧ pcI b = pcI a := by
  induction h with
  | nil a => exact ⟨h0, h1, rfl⟩
  | @cons a h p b m _ ih =>
    obtain ⟨z0, z1, z2⟩ := step_ok h0 h1 m
    obtain ⟨w0, w1, w2⟩ := ih z0 z1
    exact ⟨w0, w1, w2.trans z2⟩
theorem PathS.snoc {a b h : Int} {p : List Int} (q : PathS a p b) (m : h ∈ letsF b) : PathS a (p ++ [h]) (thrownF b h) := by
  induction q with
  | nil a => exact .cons m (.nil _)
  | cons m' _ ih => exact .cons m' (ih m)
theorem PathS.app {a b c : Int} {p q : List Int} (h : PathS a p b) (k : PathS b q c) : PathS a (p ++ q) c := by
  induction h with
  | nil a => exact k
  | cons m _ ih => exact .cons m (ih k)
theorem PathS.fn {a b b' : Int} {p : List Int} (h : PathS a p b) (k : PathS a p b') : b = b' := by
  induction h with
  | nil a => cases k; rfl
  | cons m _ ih =>
    cases k with
    | cons _ k => exact ih k
theorem PathS.hgt {a b : Int} {p : List Int} (h : PathS a p b) : ∀ x ∈ p, 0 ≤ x ∧ x ≤ 9 := by
  induction h with
  | nil a => exact fun x hx => absurd hx List.not_mem_nil
  | cons m _ ih =>
    intro x hx
    rcases List.mem_cons.mp hx with rfl | hx
    · exact lets_hgt m
    · exact ih x hx
/-! ### a number for a path: the less, the shorter, then the smaller -/
def keyF (c : Int) (p : List Int) : Int := p.foldl (fun acc h => 16 * acc + h) c
theorem key_snoc (c : Int) (p : List Int) (h : Int) : keyF c (p ++ [h]) = 16 * keyF c p + h := by
  unfold keyF
  rw [List.foldl_append]
  rfl
theorem key_app (c : Int) (p q : List Int) : keyF c (p ++ q) = keyF (keyF c p) q := List.foldl_append ..
theorem key_bounds : ∀ (p : List Int) (c : Int), (∀ x ∈ p, 0 ≤ x ∧ x ≤ 9) → c * 16 ^ p.length ≤ keyF c p ∧ keyF c p < (c + 1) * 16 ^ p.length
  | [], c, _ => ⟨by show c * 16 ^ 0 ≤ c; omega, by show c < (c + 1) * 16 ^ 0; omega⟩
  | h :: p, c, hp => by
    have hh := hp h List.mem_cons_self
    obtain ⟨z1, z2⟩ := key_bounds p (16 * c + h) fun x hx => hp x (List.mem_cons_of_mem _ hx)
    have e : keyF c (h :: p) = keyF (16 * c + h) p := rfl
    have hpos : (0 : Int) < 16 ^ p.length := Int.pow_pos (by decide)
    rw [e, List.length_cons, Int.pow_succ]
    generalize (16 : Int) ^ p.length = P at z1 z2 hpos
    constructor
    · refine Int.le_trans ?_ z1
      rw [show c * (P * 16) = (16 * c) * P by rw [Int.mul_comm P 16, ← Int.mul_assoc, Int.mul_comm c 16]]
      exact Int.mul_le_mul_of_nonneg_right (by omega) (by omega)
    · refine Int.lt_of_lt_of_le z2 ?_
      rw [show (c + 1) * (P * 16) = (16 * (c + 1)) * P by rw [Int.mul_comm P 16, ← Int.mul_assoc, Int.mul_comm (c + 1) 16]]
      exact Int.mul_le_mul_of_nonneg_right (by omega) (by omega)
theorem pow_mono {m n : Nat} (h : m ≤ n) : (16 : Int) ^ m ≤ 16 ^ n := by
  obtain ⟨k, rfl⟩ := Nat.exists_eq_add_of_le h
  rw [Int.pow_add]
  have h1 : (0 : Int) < 16 ^ m := Int.pow_pos (by decide)
  have h2 : (0 : Int) < 16 ^ k := Int.pow_pos (by decide)
  have := Int.mul_le_mul_of_nonneg_left (show (1 : Int) ≤ 16 ^ k by omega) (show (0 : Int) ≤ 16 ^ m by omega)
  omega
/-- of lesser number is not longer -/
theorem key_len {c : Int} (hc : 1 ≤ c) {p q : List Int} (hp : ∀ x ∈ p, 0 ≤ x ∧ x ≤ 9) (hq : ∀ x ∈ q, 0 ≤ x ∧ x ≤ 9) (h : keyF c p ≤ keyF c q) : p.length ≤ q.length := by
  by_cases hl : p.length ≤ q.length
  · exact hl
  · have z1 := (key_bounds p c hp).1
    have z2 := (key_bounds q c hq).2
    have hm := pow_mono (show q.length + 1 ≤ p.length by omega)
    have hpos : (0 : Int) < 16 ^ q.length := Int.pow_pos (by decide)
    rw [Int.pow_succ] at hm
    have y1 : c * ((16 : Int) ^ q.length * 16) ≤ c * 16 ^ p.length := Int.mul_le_mul_of_nonneg_left hm (by omega)
    have y2 : (c + 1) * (16 : Int) ^ q.length ≤ (c * 16) * 16 ^ q.length := Int.mul_le_mul_of_nonneg_right (by omega) (by omega)
    rw [show c * ((16 : Int) ^ q.length * 16) = (c * 16) * 16 ^ q.length by rw [Int.mul_comm ((16 : Int) ^ q.length) 16, Int.mul_assoc]] at y1
    omega
theorem key_inj : ∀ (p q : List Int) (c d : Int), p.length = q.length → (∀ x ∈ p, 0 ≤ x ∧ x ≤ 9) → (∀ x ∈ q, 0 ≤ x ∧ x ≤ 9) → keyF c p = keyF d q → c = d ∧ p = q
  | [], [], c, d, _, _, _, e => ⟨e, rfl⟩
  | h :: p, k :: q, c, d, hl, hp, hq, e => by
    obtain ⟨e1, e2⟩ := key_inj p q (16 * c + h) (16 * d + k) (by simpa using hl) (fun x hx => hp x (List.mem_cons_of_mem _ hx)) (fun x hx => hq x (List.mem_cons_of_mem _ hx)) e
    have h1 := hp h List.mem_cons_self
    have h2 := hq k List.mem_cons_self
    exact ⟨by omega, by rw [e2, show h = k by omega]⟩
/-- the least of the shortest -/
def IsWay (a b : Int) (w : List Int) : Prop := PathS a w b ∧ ∀ q, PathS a q b → keyF 1 w ≤ keyF 1 q
theorem way_uniq {a b : Int} {v w : List Int} (h : IsWay a b v) (k : IsWay a b w) : v = w := by
  have e : keyF 1 v = keyF 1 w := Int.le_antisymm (h.2 w k.1) (k.2 v h.1)
  have l1 := key_len (c := 1) (by decide) h.1.hgt k.1.hgt (Int.le_of_eq e)
  have l2 := key_len (c := 1) (by decide) k.1.hgt h.1.hgt (Int.le_of_eq e.symm)
  exact (key_inj v w 1 1 (by omega) h.1.hgt k.1.hgt e).2
open Classical in
noncomputable def wayF (a b : Int) : List Int := if h : ∃ w, IsWay a b w then Classical.choose h else []
theorem way_is {a b : Int} {w : List Int} (h : IsWay a b w) : wayF a b = w := by
  have hx : ∃ w, IsWay a b w := ⟨w, h⟩
  unfold wayF
  rw [dif_pos hx]
  exact way_uniq (Classical.choose_spec hx) h
/-! ### any two states of as many bits are joined -/
def lowS (s : Int) : Int := (letsF s).headD 0
/-- the least throws, n of them -/
def downP : Nat → Int → List Int
  | 0, _ => []
  | n + 1, s => lowS s :: downP n (thrownF s (lowS s))
def downS : Nat → Int → Int
  | 0, s => s
  | n + 1, s => downS n (thrownF s (lowS s))
/-- from the ground up: what threw the highest, going back -/
def topH (t : Nat) : Nat := ((List.range 10).filter fun h => (2 * t).testBit h).getLastD 0
def upP : Nat → Nat → List Int → List Int
  | 0, _, acc => acc
  | n + 1, t, acc => upP n (2 * t - 2 ^ topH t + 1) ((topH t : Int) :: acc)
def runS : Int → List Int → Option Int
  | s, [] => some s
  | s, h :: p => if h ∈ letsF s then runS (thrownF s h) p else none
theorem run_path : ∀ (p : List Int) (s t : Int), runS s p = some t → PathS s p t
  | [], s, t, e => by
    cases e
    exact .nil _
  | h :: p, s, t, e => by
    unfold runS at e
    split at e
    · rename_i m
      exact .cons m (run_path p _ t e)
    · cases e
theorem down_fin : ((List.range 512).all fun s => decide (runS s (downP 9 s) = some (2 ^ pcI s - 1))) = true := by decide +kernel
theorem up_fin : ((List.range 512).all fun s => decide (runS (2 ^ pcI s - 1) (upP (pcI s) s []) = some (s : Int))) = true := by decide +kernel
theorem down_len : ∀ n s, (downP n s).length = n
  | 0, _ => rfl
  | n + 1, s => by
    show (downP n _).length + 1 = _
    rw [down_len n]
theorem up_len : ∀ n t acc, (upP n t acc).length = n + acc.length
  | 0, _, acc => (Nat.zero_add _).symm
  | n + 1, t, acc => by
    show (upP n _ _).length = _
    rw [up_len n, List.length_cons]
    omega
theorem pcI_le (s : Int) : pcI s ≤ 9 := by
  show ((List.range 9).filter _).length ≤ 9
  have z := List.length_filter_le s.toNat.testBit (List.range 9)
  rw [List.length_range] at z
  exact z
/-- .. by at most eighteen throws -/
theorem joined {a b : Int} (a0 : 0 ≤ a) (a1 : a ≤ 511) (b0 : 0 ≤ b) (b1 : b ≤ 511) (h : pcI a = pcI b) : ∃ p, PathS a p b ∧ p.length ≤ 18 := by
  have d := of_decide_eq_true (List.all_eq_true.mp down_fin a.toNat (List.mem_range.mpr (by omega)))
  have u := of_decide_eq_true (List.all_eq_true.mp up_fin b.toNat (List.mem_range.mpr (by omega)))
  rw [Int.toNat_of_nonneg a0] at d
  rw [Int.toNat_of_nonneg b0] at u
  rw [h] at d
  refine ⟨_, (run_path _ _ _ d).app (run_path _ _ _ u), ?_⟩
  rw [List.length_append, down_len, up_len]
  have := pcI_le b
  show 9 + (pcI b + 0) ≤ 18
  omega
end Tr

/-! The search: what it holds, that what it finds is the least; as a list of states with their throws. -/
namespace Tr
open PySem L2 PySem.Spec PyProof.Rows Evl

abbrev Ent := Int × List Int
theorem lets_sorted_fin : ((List.range 512).all fun s => decide ((letsF s).Pairwise (· < ·))) = true := by decide +kernel
theorem lets_sorted {s : Int} (h0 : 0 ≤ s) (h1 : s ≤ 511) : (letsF s).Pairwise (· < ·) := by
  have z := of_decide_eq_true (List.all_eq_true.mp lets_sorted_fin s.toNat (List.mem_range.mpr (by omega)))
  rwa [Int.toNat_of_nonneg h0] at z
/-- between two states looked at -/
structure Bf (one : Int) (L : List Ent) (a : Nat) (B : Int) : Prop where
  nd : (L.map (·.1)).Nodup
  path : ∀ e ∈ L, PathS one e.2 e.1
  srt : L.Pairwise fun e f => keyF 1 e.2 < keyF 1 f.2
  cl : ∀ i e, i < a → L[i]? = some e → ∀ h ∈ letsF e.1, thrownF e.1 h ∈ L.map (·.1)
  mn : ∀ e ∈ L, ∀ q, PathS one q e.1 → keyF 1 e.2 ≤ keyF 1 q
  fst : (one, []) ∈ L
  lo : ∀ e ∈ L, keyF 1 e.2 < 16 * B
  hi : ∀ i e, a ≤ i → L[i]? = some e → B ≤ keyF 1 e.2
  le : a ≤ L.length
/-- within the look at the state s, the throws hs are left -/
structure Bw (one : Int) (L : List Ent) (a : Nat) (s : Int) (p : List Int) (hs : List Int) : Prop where
  nd : (L.map (·.1)).Nodup
  path : ∀ e ∈ L, PathS one e.2 e.1
  srt : L.Pairwise fun e f => keyF 1 e.2 < keyF 1 f.2
  cl : ∀ i e, i < a → L[i]? = some e → ∀ h ∈ letsF e.1, thrownF e.1 h ∈ L.map (·.1)
  mn : ∀ e ∈ L, ∀ q, PathS one q e.1 → keyF 1 e.2 ≤ keyF 1 q
  fst : (one, []) ∈ L
  at_ : L[a]? = some (s, p)
  clh : ∀ h ∈ letsF s, h ∈ hs ∨ thrownF s h ∈ L.map (·.1)
  up : ∀ e ∈ L, ∀ h ∈ hs, keyF 1 e.2 < 16 * keyF 1 p + h
  bnd : ∀ e ∈ L, keyF 1 e.2 < 16 * keyF 1 p + 16
  sub : ∀ h ∈ hs, h ∈ letsF s
  asc : hs.Pairwise (· < ·)
section
variable {one : Int} {L : List Ent} {a : Nat} {B s h : Int} {p hs : List Int}
theorem bf_start : Bf one [(one, [])] 0 1 := by
  refine ⟨?_, ?_, ?_, ?_, ?_, ?_, ?_, ?_, ?_⟩
  · exact List.nodup_cons.mpr ⟨List.not_mem_nil, List.nodup_nil⟩
  · intro e he
    rw [List.mem_singleton.mp he]
    exact .nil _
  · exact List.pairwise_singleton _ _
  · intro i e hi
    omega
  · intro e he q hq
    rw [List.mem_singleton.mp he]
    have z := (key_bounds q 1 hq.hgt).1
    have : (0 : Int) < 16 ^ q.length := Int.pow_pos (by decide)
    show (1 : Int) ≤ _
    omega
  · exact List.mem_singleton.mpr rfl
  · intro e he
    rw [List.mem_singleton.mp he]
    show (1 : Int) < 16
    decide
  · intro i e _ he
    cases i with
    | zero =>
      cases he
      exact Int.le_refl _
    | succ i => cases he
  · exact Nat.zero_le _
theorem bw_start (b : Bf one L a B) (o0 : 0 ≤ one) (o1 : one ≤ 511) (ha : L[a]? = some (s, p)) : Bw one L a s p (letsF s) := by
  have hm := List.mem_of_getElem? ha
  have hk : B ≤ keyF 1 p := b.hi a _ (Nat.le_refl _) ha
  have ok := (b.path _ hm).ok o0 o1
  refine ⟨b.nd, b.path, b.srt, b.cl, b.mn, b.fst, ha, fun h hh => .inl hh, fun e he h hh => ?_, fun e he => ?_, fun h hh => hh, lets_sorted ok.1 ok.2.1⟩
  · have := b.lo e he
    have := lets_hgt hh
    omega
  · have := b.lo e he
    omega
theorem bw_end (b : Bw one L a s p []) : Bf one L (a + 1) (keyF 1 p + 1) := by
  have hal := (List.getElem?_eq_some_iff.mp b.at_).1
  refine ⟨b.nd, b.path, b.srt, fun i e hi he h hh => ?_, b.mn, b.fst, fun e he => ?_, fun i e hi he => ?_, hal⟩
  · by_cases hia : i < a
    · exact b.cl i e hia he h hh
    · have : i = a := by omega
      subst this
      rw [b.at_] at he
      cases he
      rcases b.clh h hh with z | z
      · exact absurd z List.not_mem_nil
      · exact z
  · have := b.bnd e he
    omega
  · obtain ⟨hil, ei⟩ := List.getElem?_eq_some_iff.mp he
    obtain ⟨_, ea⟩ := List.getElem?_eq_some_iff.mp b.at_
    have z := List.pairwise_iff_getElem.mp b.srt a i hal hil (by omega)
    rw [ea, ei] at z
    have z : keyF 1 p < keyF 1 e.2 := z
    omega
theorem bw_old (b : Bw one L a s p (h :: hs)) (ht : thrownF s h ∈ L.map (·.1)) : Bw one L a s p hs :=
  ⟨b.nd, b.path, b.srt, b.cl, b.mn, b.fst, b.at_, fun k hk => by
    rcases b.clh k hk with z | z
    · rcases List.mem_cons.mp z with rfl | z
      · exact .inr ht
      · exact .inl z
    · exact .inr z, fun e he k hk => b.up e he k (List.mem_cons_of_mem _ hk), b.bnd, fun k hk => b.sub k (List.mem_cons_of_mem _ hk), (List.pairwise_cons.mp b.asc).2⟩
/-- where a path leaves what is found -/
theorem leaves {S : Int → Prop} {y x : Int} {q : List Int} (hq : PathS y q x) (hy : S y) (hx : ¬ S x) : ∃ q1 k q2 z, q = q1 ++ k :: q2 ∧ PathS y q1 z ∧ S z ∧ k ∈ letsF z ∧ ¬ S (thrownF z k) := by
  induction hq with
  | nil a => exact absurd hy hx
  | @cons a k r b m _ ih =>
    by_cases hs : S (thrownF a k)
    · obtain ⟨q1, k', q2, z, e, h1, h2, h3, h4⟩ := ih hs hx
      exact ⟨k :: q1, k', q2, z, by rw [e]; rfl, .cons m h1, h2, h3, h4⟩
    · exact ⟨[], k, r, a, rfl, .nil _, hy, m, hs⟩
theorem bw_new (b : Bw one L a s p (h :: hs)) (ht : ¬ thrownF s h ∈ L.map (·.1)) : Bw one (L ++ [(thrownF s h, p ++ [h])]) a s p hs := by
  have hal := (List.getElem?_eq_some_iff.mp b.at_).1
  have hm := List.mem_of_getElem? b.at_
  have hl : h ∈ letsF s := b.sub h List.mem_cons_self
  have hh := lets_hgt hl
  have hasc := List.pairwise_cons.mp b.asc
  have hp := b.path _ hm
  have kp : 1 ≤ keyF 1 p := by
    have z := (key_bounds p 1 hp.hgt).1
    have : (0 : Int) < 16 ^ p.length := Int.pow_pos (by decide)
    omega
  have mem' : ∀ {e : Ent}, e ∈ L ++ [(thrownF s h, p ++ [h])] → e ∈ L ∨ e = (thrownF s h, p ++ [h]) := fun he => by
    rcases List.mem_append.mp he with z | z
    · exact .inl z
    · exact .inr (List.mem_singleton.mp z)
  have map' : (L ++ [(thrownF s h, p ++ [h])]).map (·.1) = L.map (·.1) ++ [thrownF s h] := List.map_append ..
  refine ⟨?_, fun e he => ?_, ?_, fun i e hi he k hk => ?_, fun e he q hq => ?_, List.mem_append_left _ b.fst, ?_, fun k hk => ?_, fun e he k hk => ?_, fun e he => ?_, fun k hk => b.sub k (List.mem_cons_of_mem _ hk), hasc.2⟩
  · rw [map']
    exact List.nodup_append.mpr ⟨b.nd, List.nodup_cons.mpr ⟨List.not_mem_nil, List.nodup_nil⟩, fun x hx y hy e => ht (by rw [← List.mem_singleton.mp hy, ← e]; exact hx)⟩
  · rcases mem' he with z | rfl
    · exact b.path e z
    · exact hp.snoc hl
  · refine List.pairwise_append.mpr ⟨b.srt, List.pairwise_singleton _ _, fun e he f hf => ?_⟩
    rw [List.mem_singleton.mp hf, key_snoc]
    exact b.up e he h List.mem_cons_self
  · rw [List.getElem?_append_left (by omega)] at he
    rw [map']
    exact List.mem_append_left _ (b.cl i e hi he k hk)
  · rcases mem' he with z | rfl
    · exact b.mn e z q hq
    · rw [key_snoc]
      obtain ⟨q1, k, q2, z, rfl, g1, g2, g3, g4⟩ := leaves (S := fun x => x ∈ L.map (·.1)) hq (List.mem_map.mpr ⟨_, b.fst, rfl⟩) ht
      obtain ⟨ez, hez, rfl⟩ := List.mem_map.mp g2
      obtain ⟨iz, hiz, eiz⟩ := List.getElem_of_mem hez
      have k1 := b.mn ez hez q1 g1
      have hiza : a ≤ iz := by
        by_cases w : iz < a
        · exact absurd (b.cl iz ez w (by rw [List.getElem?_eq_getElem hiz, eiz]) k g3) g4
        · omega
      have kk := lets_hgt g3
      have kq : 16 * keyF 1 q1 + k ≤ keyF 1 (q1 ++ k :: q2) := by
        rw [key_app]
        show _ ≤ keyF (16 * keyF 1 q1 + k) q2
        have z := (key_bounds q2 (16 * keyF 1 q1 + k) fun x hx => hq.hgt x (List.mem_append_right _ (List.mem_cons_of_mem _ hx))).1
        have z1 : 1 ≤ keyF 1 q1 := by
          have z := (key_bounds q1 1 g1.hgt).1
          have : (0 : Int) < 16 ^ q1.length := Int.pow_pos (by decide)
          omega
        have z2 : (1 : Int) ≤ 16 ^ q2.length := Int.pow_pos (by decide)
        have z3 := Int.mul_le_mul_of_nonneg_left z2 (show 0 ≤ 16 * keyF 1 q1 + k by omega)
        omega
      by_cases hi : iz = a
      · subst hi
        have e : ez = (s, p) := by
          have w := b.at_
          rw [List.getElem?_eq_getElem hiz, eiz] at w
          exact Option.some.inj w
        subst e
        rcases b.clh k g3 with w | w
        · have : h ≤ k := by
            rcases List.mem_cons.mp w with rfl | w
            · exact Int.le_refl _
            · exact Int.le_of_lt (hasc.1 k w)
          have k1 : keyF 1 p ≤ keyF 1 q1 := k1
          show 16 * keyF 1 p + h ≤ _
          omega
        · exact absurd w g4
      · have w := List.pairwise_iff_getElem.mp b.srt a iz hal hiz (by omega)
        obtain ⟨_, ea⟩ := List.getElem?_eq_some_iff.mp b.at_
        rw [ea, eiz] at w
        have w : keyF 1 p < keyF 1 ez.2 := w
        show 16 * keyF 1 p + h ≤ _
        omega
  · rw [List.getElem?_append_left hal]
    exact b.at_
  · rw [map']
    rcases b.clh k hk with z | z
    · rcases List.mem_cons.mp z with rfl | z
      · exact .inr (List.mem_append_right _ (List.mem_singleton.mpr rfl))
      · exact .inl z
    · exact .inr (List.mem_append_left _ z)
  · rcases mem' he with z | rfl
    · exact b.up e z k (List.mem_cons_of_mem _ hk)
    · rw [key_snoc]
      have := hasc.1 k hk
      omega
  · rcases mem' he with z | rfl
    · exact b.bnd e z
    · rw [key_snoc]
      omega
/-- while the other isn't found there is one to look at -/
theorem bf_more {other : Int} (b : Bf one L a B) (hp : ∃ q, PathS one q other) (ho : ¬ other ∈ L.map (·.1)) : a < L.length := by
  by_cases h : a < L.length
  · exact h
  · obtain ⟨q, hq⟩ := hp
    obtain ⟨q1, k, q2, z, _, _, g2, g3, g4⟩ := leaves (S := fun x => x ∈ L.map (·.1)) hq (List.mem_map.mpr ⟨_, b.fst, rfl⟩) ho
    obtain ⟨ez, hez, rfl⟩ := List.mem_map.mp g2
    obtain ⟨iz, hiz, eiz⟩ := List.getElem_of_mem hez
    exact absurd (b.cl iz ez (by omega) (by rw [List.getElem?_eq_getElem hiz, eiz]) k g3) g4
theorem bf_way {other : Int} {w : List Int} (b : Bf one L a B) (h : (other, w) ∈ L) : IsWay one other w := ⟨b.path _ h, b.mn _ h⟩
theorem nodup_le : ∀ (n : Nat) (l : List Int), l.Nodup → (∀ x ∈ l, 0 ≤ x ∧ x < (n : Int)) → l.length ≤ n
  | 0, l, _, hl => by
    cases l with
    | nil => exact Nat.le_refl _
    | cons x l =>
      have := hl x List.mem_cons_self
      omega
  | n + 1, l, hn, hl => by
    by_cases hm : (n : Int) ∈ l
    · obtain ⟨u, v, rfl⟩ := List.append_of_mem hm
      have hn' := List.nodup_append.mp hn
      have hv := List.nodup_cons.mp hn'.2.1
      have z := nodup_le n (u ++ v) (List.nodup_append.mpr ⟨hn'.1, hv.2, fun x hx y hy => hn'.2.2 x hx y (List.mem_cons_of_mem _ hy)⟩) fun x hx => by
        have h1 : 0 ≤ x ∧ x < ((n + 1 : Nat) : Int) := by
          rcases List.mem_append.mp hx with h | h
          · exact hl x (List.mem_append_left _ h)
          · exact hl x (List.mem_append_right _ (List.mem_cons_of_mem _ h))
        have h2 : x ≠ (n : Int) := fun e => by
          subst e
          rcases List.mem_append.mp hx with h | h
          · exact hn'.2.2 _ h _ List.mem_cons_self rfl
          · exact hv.1 h
        omega
      rw [List.length_append] at z ⊢
      rw [List.length_cons]
      omega
    · have z := nodup_le n l hn fun x hx => by
        have h1 := hl x hx
        have h2 : x ≠ (n : Int) := fun e => hm (e ▸ hx)
        omega
      omega
theorem found_len {L : List Ent} (nd : (L.map (·.1)).Nodup) (path : ∀ e ∈ L, PathS one e.2 e.1) (o0 : 0 ≤ one) (o1 : one ≤ 511) : L.length ≤ 512 := by
  have z := nodup_le 512 (L.map (·.1)) nd fun x hx => by
    obtain ⟨e, he, rfl⟩ := List.mem_map.mp hx
    have := (path e he).ok o0 o1
    omega
  rwa [List.length_map] at z
end
/-! ### the dict of what is found -/
/-- each entry's list stands somewhere -/
def FndAt (H : Hp) (kvs : List (Key × V)) (L : List Ent) : Prop := kvs.length = L.length ∧ ∀ (i : Nat) kv e, kvs[i]? = some kv → L[i]? = some e → ∃ r, kv = (Sum.inl e.1, .ref r) ∧ H r = some (.lst (e.2.map V.int))
theorem fnd_ex {H H' : Hp} {kvs : List (Key × V)} {L : List Ent} (e : Ex H H') (h : FndAt H kvs L) : FndAt H' kvs L := ⟨h.1, fun i kv f h1 h2 => by
  obtain ⟨r, e1, e2⟩ := h.2 i kv f h1 h2
  exact ⟨r, e1, e _ _ e2⟩⟩
theorem fnd_snoc {H : Hp} {kvs : List (Key × V)} {L : List Ent} {r : Addr} {e : Ent} (h : FndAt H kvs L) (hr : H r = some (.lst (e.2.map V.int))) : FndAt H (kvs ++ [(Sum.inl e.1, .ref r)]) (L ++ [e]) := by
  refine ⟨by rw [List.length_append, List.length_append, h.1]; rfl, fun i y q h1 h2 => ?_⟩
  by_cases hi : i < kvs.length
  · rw [List.getElem?_append_left hi] at h1
    rw [List.getElem?_append_left (by have := h.1; omega)] at h2
    exact h.2 i y q h1 h2
  · rw [List.getElem?_append_right (by omega)] at h1
    rw [List.getElem?_append_right (by have := h.1; omega), ← h.1] at h2
    have hi0 : i - kvs.length = 0 := by
      have := (List.getElem?_eq_some_iff.mp h1).1
      simp at this
      omega
    rw [hi0] at h1 h2
    cases h1
    cases h2
    exact ⟨r, rfl, hr⟩
theorem fnd_tail {H : Hp} {kv : Key × V} {kvs : List (Key × V)} {e : Ent} {L : List Ent} (h : FndAt H (kv :: kvs) (e :: L)) : FndAt H kvs L := ⟨by have := h.1; simp at this; exact this, fun i y q h1 h2 => h.2 (i + 1) y q h1 h2⟩
theorem fnd_get {H : Hp} : ∀ {kvs : List (Key × V)} {L : List Ent} (t : Int), FndAt H kvs L → (L.map (·.1)).Nodup → ((valV kvs (Sum.inl t)).isSome = true ↔ t ∈ L.map (·.1)) ∧ ∀ w, (t, w) ∈ L → ∃ r, valV kvs (Sum.inl t) = some (.ref r) ∧ H r = some (.lst (w.map V.int))
  | [], [], t, _, _ => ⟨⟨(fun z => nomatch z), fun z => absurd z List.not_mem_nil⟩, fun w z => absurd z List.not_mem_nil⟩
  | [], _ :: _, _, h, _ => absurd h.1 (by simp)
  | _ :: _, [], _, h, _ => absurd h.1 (by simp)
  | kv :: kvs, e :: L, t, h, nd => by
    obtain ⟨r, rfl, hr⟩ := h.2 0 kv e rfl rfl
    have nd' := List.nodup_cons.mp nd
    obtain ⟨i1, i2⟩ := fnd_get t (fnd_tail h) nd'.2
    by_cases z : e.1 = t
    · subst z
      rw [valV_pos rfl]
      refine ⟨⟨fun _ => List.mem_cons_self, fun _ => rfl⟩, fun w hw => ?_⟩
      rcases List.mem_cons.mp hw with hw | hw
      · exact ⟨r, rfl, by rw [← hw] at hr; exact hr⟩
      · exact absurd (List.mem_map.mpr ⟨_, hw, rfl⟩) nd'.1
    · have zk : ¬ (Sum.inl e.1 : Key) = Sum.inl t := fun y => z (by injection y)
      rw [valV_neg zk]
      refine ⟨i1.trans ⟨fun y => List.mem_cons_of_mem _ y, fun y => ?_⟩, fun w hw => ?_⟩
      · rcases List.mem_cons.mp y with y | y
        · exact absurd y.symm z
        · exact y
      · rcases List.mem_cons.mp hw with hw | hw
        · rw [← hw] at z
          exact absurd rfl z
        · exact i2 w hw
/-! ### promises -/
def sp_bits_in (K : PySem.W.Frag) (c : Cs) : Sp := fun vs H Q _ => ∃ s : Int, vs = [.int s] ∧ 0 ≤ s ∧ s ≤ 511 ∧ RetV (.int (pcI s : Int)) H Q
def sp_way (K : PySem.W.Frag) (c : Cs) : Sp := fun vs H Q E => ∃ x y, vs = [x, y] ∧ ((Typed K H x ∧ OkS x = false ∧ RetE c.nostate H E) ∨ ∃ s, x = .int s ∧ 0 ≤ s ∧ s ≤ 511 ∧
  ((Typed K H y ∧ OkS y = false ∧ RetE c.nostate H E) ∨ ∃ t, y = .int t ∧ 0 ≤ t ∧ t ≤ 511 ∧ ((pcI s ≠ pcI t ∧ RetE c.noway H E) ∨ (pcI s = pcI t ∧ RetL ((wayF s t).map V.int) H Q))))
/-- bits_in: slots state, many -/
def t_bits_in (K : PySem.W.Frag) (c : Cs) (E : XK) : TS :=
  (tSeq (tAsg (tC (.int 0)) (gName 1))
  (tSeq (tWhile (tTest (tOp xGt (tVar 0) (tC (.int 0)))) (tSeq (tAug 1 (tOp xAnd (tVar 0) (tC (.int 1))) (ipI fun i j => i + j))
  (tAug 0 (tC (.int 1)) xShr)))
  (tRet (tVar 1))))

/-- way: slots one, other, found, waiting, at, state, height, behind -/
def t_way (K : PySem.W.Frag) (c : Cs) (E : XK) : TS :=
  (tSeq (tDrop (tCall (sp_need_state K c) [] E (tCons (tVar 0) tNil)))
  (tSeq (tDrop (tCall (sp_need_state K c) [] E (tCons (tVar 1) tNil)))
  (tSeq (tIfS (tTest (tOp (xNe K) (tCall (sp_bits_in K c) [] E0 (tCons (tVar 0) tNil)) (tCall (sp_bits_in K c) [] E0 (tCons (tVar 1) tNil)))) (fun _ σ H => (fun cls d _ H => E cls d H) (.ref c.noway) none σ H) tNext)
  (tSeq (tAsg (tDisp [((tVar 0), (tLst tNil))]) (gName 2))
  (tSeq (tAsg (tLst (tCons (tVar 0) tNil)) (gName 3))
  (tSeq (tAsg (tC (.int 0)) (gName 4))
  (tSeq (tWhile (tB (tDNotIn (tVar 1) (tVar 2))) (tSeq (tAsg (tOp (rIx K) (tVar 3) (tVar 4)) (gName 5))
  (tSeq (tAug 4 (tC (.int 1)) (ipI fun i j => i + j))
  (tFor (iSeq K (tCall (sp_lets K c) [] E (tCons (tVar 5) tNil))) (gName 6) (tSeq (tAsg (tCall (sp_thrown K c) [] E (tCons (tVar 5) (tCons (tVar 6) tNil))) (gName 7))
  (tIfS (tB (tDNotIn (tVar 7) (tVar 2))) (tSeq (sDPut (tVar 2) (tVar 7) (tOp (xAdd K) (tDGet (tVar 2) (tVar 5)) (tLst (tCons (tVar 6) tNil))))
  (tDrop (tBM K "list" rAppend (tVar 3) (tCons (tVar 7) tNil)))) tNext))))))
  (tRet (tCB (cList K) (tCons (tDGet (tVar 2) (tVar 1)) tNil))))))))))

section
variable {K : PySem.W.Frag} {c : Cs} {vs : List V} {H : Hp} {Q : VK} {E : XK}
theorem pos_nat (n : Nat) : decide ((n : Int) > 0) = decide (0 < n) := by
  rw [Bool.eq_iff_iff, decide_eq_true_eq, decide_eq_true_eq]
  omega
theorem pure_bits_in (h : sp_bits_in K c vs H Q E) : t_bits_in K c E { nx := fun _ H' => Q .non H', rt := Q } (start ["state", "many"] vs) H := by
  obtain ⟨s, rfl, h0, h1, q⟩ := h
  obtain ⟨x, rfl⟩ : ∃ x : Nat, s = (x : Int) := ⟨s.toNat, by omega⟩
  refine q_asg (v := .int 0) ev_c fun H1 e1 => ?_
  let W : Nat → L2.St → Hp → Prop := fun m σ' H' => ∃ j, j ≤ 9 ∧ m + j = 9 ∧ Ex H H' ∧ σ' = [some (.int ((x / 2 ^ j : Nat) : Int)), some (.int ((pc x j : Nat) : Int))]
  refine q_while W 9 ⟨0, by omega, rfl, e1, by rw [Nat.pow_zero, Nat.div_one]; rfl⟩ ?_
  rintro m σ' H' ⟨j, hj, hm, eH, rfl⟩
  refine ⟨decide (0 < x / 2 ^ j), et_is (et_test (ev_op (ev_var rfl) ev_c rv_gt)) (pos_nat _), fun hb H2 e2 => ?_, fun hb H2 e2 => ?_⟩
  · have hb := of_decide_eq_true hb
    have hj9 : j < 9 := by
      by_cases z : j = 9
      · subst z
        have : x / 2 ^ 9 = 0 := Nat.div_eq_of_lt (by omega)
        omega
      · omega
    refine ⟨_, fun _ _ h => h, ?_⟩
    refine q_aug (a := ((pc x j : Nat) : Int)) (b := (((x / 2 ^ j) % 2 : Nat) : Int)) rfl (ev_is (ev_op (ev_var rfl) ev_c rv_and) (by rw [PyProof.Rows.bitAnd_m1, Int.natCast_emod]; rfl)) fun H3 e3 => ?_
    refine s_augO (x := .int ((x / 2 ^ j : Nat) : Int)) (y := .int 1) (z := .int ((x / 2 ^ (j + 1) : Nat) : Int)) rfl ev_c (fun H4 e4 => by
      have z := rv_shr (H := H4) (i := ((x / 2 ^ j : Nat) : Int)) (j := 1) (by decide)
      rw [show ((x / 2 ^ (j + 1) : Nat) : Int) = ((x / 2 ^ j : Nat) : Int) / 2 ^ (1 : Int).toNat by
        rw [Nat.pow_succ, ← Nat.div_div_eq_div_mul, Int.natCast_ediv]
        rfl]
      exact z) fun H4 e4 => ⟨m - 1, by omega, j + 1, by omega, by omega, ((eH.trans e2).trans e3).trans e4, ?_⟩
    have e : ((pc x (j + 1) : Nat) : Int) = ((pc x j : Nat) : Int) + (((x / 2 ^ j) % 2 : Nat) : Int) := by
      rw [pc_succ, Nat.testBit_eq_decide_div_mod_eq]
      by_cases z : x / 2 ^ j % 2 = 1
      · rw [if_pos (decide_eq_true z), z]
        omega
      · rw [if_neg (by rw [decide_eq_true_eq]; exact z), show x / 2 ^ j % 2 = 0 by omega]
        omega
    rw [e]
    rfl
  · have hb := of_decide_eq_false hb
    have z : ∀ k, pc x (j + k) = pc x j := fun k => by
      induction k with
      | zero => rfl
      | succ k ih =>
        rw [show j + (k + 1) = (j + k) + 1 from rfl, pc_succ, ih, if_neg (by
          rw [Nat.testBit_eq_decide_div_mod_eq, decide_eq_true_eq, Nat.pow_add, ← Nat.div_div_eq_div_mul, Nat.eq_zero_of_not_pos hb, Nat.zero_div]
          decide)]
        rfl
    have z9 := z (9 - j)
    rw [show j + (9 - j) = 9 by omega] at z9
    refine s_ret (v := .int (pcI (x : Int) : Int)) (ev_is (ev_var rfl) ?_) fun H3 e3 => q H3 ((eH.trans e2).trans e3)
    show V.int ((pc x j : Nat) : Int) = V.int ((pc (x : Int).toNat 9 : Nat) : Int)
    rw [Int.toNat_natCast, z9]
theorem ev_bits_in {σ : L2.St} {ta : TE} {s : Int} (ha : Ev ta σ H (.int s)) (h0 : 0 ≤ s) (h1 : s ≤ 511) : Ev (tCall (sp_bits_in K c) [] E (tCons ta tNil)) σ H (.int (pcI s : Int)) :=
  ev_call (ea_cons ha ea_nil) fun H1 e Q q _ => ⟨s, rfl, h0, h1, q⟩
theorem ev_thrownS {σ : L2.St} {ta tb : TE} {s h : Int} (ha : Ev ta σ H (.int s)) (hb : Ev tb σ H (.int h)) (h0 : 0 ≤ s) (h1 : s ≤ 511) (hm : h ∈ letsF s) : Ev (tCall (sp_thrown K c) [] E (tCons ta (tCons tb tNil))) σ H (.int (thrownF s h)) :=
  ev_call (ea_cons ha (ea_cons hb ea_nil)) fun H1 e Q q _ => ⟨_, _, rfl, typed_int, typed_int, .inr ⟨s, rfl, h0, h1, .inr ⟨h, rfl, hm, q⟩⟩⟩
theorem el_letsS {σ : L2.St} {ta : TE} {s : Int} (ha : Ev ta σ H (.int s)) (h0 : 0 ≤ s) (h1 : s ≤ 511) : EvL (tCall (sp_lets K c) [] E (tCons ta tNil)) σ H ((letsF s).map V.int) :=
  el_call (ea_cons ha ea_nil) fun H1 e1 Q' q' _ => ⟨.int s, rfl, typed_int, .inr ⟨s, rfl, h0, h1, q'⟩⟩
/-- d[k] = e, e a new list -/
theorem q_dputL {σ : L2.St} {D : Ends} {tz : TS} {td ty te : TE} {a : Addr} {kvs : List (Key × V)} {k : Key} {xs : List V} (hv : EvL te σ H xs) (hd : ∀ H1, Ex H H1 → Ev td σ H1 (.ref a)) (hk : ∀ H1, Ex H H1 → Ev ty σ H1 (kV k)) (ha : H a = some (.dK kvs)) (hz : kvs.length < 100000)
    (q : ∀ r H1, H r = none → Ex H H1 → H1 r = some (.lst xs) → tz D σ (upd H1 a (.dK (putK kvs k (.ref r))))) : tSeq (sDPut td ty te) tz D σ H :=
  hv H (Ex.refl H) _ fun r H1 hr e1 h1 => hd H1 e1 H1 (Ex.refl _) _ fun H2 e2 => hk H2 (e1.trans e2) H2 (Ex.refl _) _ fun H3 e3 => ⟨a, _, rfl, DPut.k (((e1.trans e2).trans e3) a _ ha) (sz_lt hz), q r H3 hr ((e1.trans e2).trans e3) (e3 _ _ (e2 _ _ h1))⟩
theorem pure_way (h : sp_way K c vs H Q E) : t_way K c E { nx := fun _ H' => Q .non H', rt := Q } (start ["one", "other", "found", "waiting", "at", "state", "height", "behind"] vs) H := by
  obtain ⟨x, y, rfl, ⟨tx, hx, q⟩ | ⟨one, rfl, o0, o1, h⟩⟩ := h
  · exact ⟨x, rfl, x, rfl, tx, .inl ⟨hx, q⟩⟩
  refine ⟨.int one, rfl, .int one, rfl, typed_int, .inr ⟨one, rfl, o0, o1, fun H1 e1 => nx_mk ?_⟩⟩
  rcases h with ⟨ty, hy, q⟩ | ⟨oth, rfl, p0, p1, h⟩
  · exact ⟨y, rfl, y, rfl, typed_ex e1 ty, .inl ⟨hy, fun H2 e2 => q H2 (e1.trans e2)⟩⟩
  refine ⟨.int oth, rfl, .int oth, rfl, typed_int, .inr ⟨oth, rfl, p0, p1, fun H2 e2 => nx_mk ?_⟩⟩
  have e12 := e1.trans e2
  refine q_when (b := !decide (pcI one = pcI oth)) (et_is (et_test (ev_op (ev_bits_in (ev_var rfl) o0 o1) (ev_bits_in (ev_var rfl) p0 p1) rv_neI)) (by congr 1; rw [Bool.eq_iff_iff, decide_eq_true_eq, decide_eq_true_eq]; omega)) (fun hb H3 e3 => ?_) fun hb H3 e3 => ?_
  · rcases h with ⟨_, q⟩ | ⟨e, _⟩
    · exact q H3 (e12.trans e3)
    · rw [decide_eq_true e] at hb
      cases hb
  rcases h with ⟨e, _⟩ | ⟨hpc, q⟩
  · rw [decide_eq_false e] at hb
    cases hb
  have e13 := e12.trans e3
  obtain ⟨pw, hpw, _⟩ := joined o0 o1 p0 p1 hpc
  -- the dict of what is found
  refine fun d hd => ⟨.int one, rfl, sz_of (by decide), fun r hr => ⟨?_, [(Sum.inl one, .ref r)], rfl, by show 1 ≤ 15; decide, ?_⟩⟩
  · exact (upd_ne (ne_of_none upd_same hr)).trans upd_same
  have hrd : r ≠ d := Ne.symm (ne_of_none upd_same hr)
  refine nx_mk ?_
  have hdH : H d = none := fresh_back e13 hd
  have e14 : Ex H (upd (upd (upd H3 d (.dK [])) r (.lst [])) d (.dK (mergeK [] [(Sum.inl one, V.ref r)]))) := Ex.mut ((e13.trans (Ex.new hd)).trans (Ex.new hr)) hdH
  have r4 : (upd (upd (upd H3 d (.dK [])) r (.lst [])) d (.dK (mergeK [] [(Sum.inl one, V.ref r)]))) r = some (.lst []) := (upd_ne hrd).trans upd_same
  have d4 : (upd (upd (upd H3 d (.dK [])) r (.lst [])) d (.dK (mergeK [] [(Sum.inl one, V.ref r)]))) d = some (.dK [(Sum.inl one, V.ref r)]) := upd_same
  generalize upd (upd (upd H3 d (.dK [])) r (.lst [])) d (.dK (mergeK [] [(Sum.inl one, V.ref r)])) = H4 at e14 r4 d4
  refine q_asgL (xs := [.int one]) (el_lst (ea_cons (ev_var rfl) ea_nil) (by show 1 ≤ 100000; decide)) fun w H5 hw e5 h5 => ?_
  have hwH : H w = none := fresh_back e14 hw
  have hdw : d ≠ w := ne_of_none d4 hw
  have hrw : r ≠ w := ne_of_none r4 hw
  refine q_asg (v := .int 0) ev_c fun H6 e6 => ?_
  let W : Nat → L2.St → Hp → Prop := fun m σ' H' => ∃ (a : Nat) (L : List Ent) (B : Int) (kvs : List (Key × V)) (u5 u6 u7 : Option V), Bf one L a B ∧ m + a = 513 ∧ Ex H H' ∧ H' d = some (.dK kvs) ∧ H' w = some (.lst ((L.map (·.1)).map V.int)) ∧ FndAt (del (del H' d) w) kvs L ∧
    σ' = [some (.int one), some (.int oth), some (.ref d), some (.ref w), some (.int (a : Int)), u5, u6, u7]
  refine q_while W 513 ⟨0, [(one, [])], 1, [(Sum.inl one, .ref r)], none, none, none, bf_start, rfl, (e14.trans e5).trans e6, e6 _ _ (e5 _ _ d4), e6 _ _ h5, ⟨rfl, fun i kv e h1 h2 => ?_⟩, rfl⟩ ?_
  · cases i with
    | zero =>
      cases h1
      cases h2
      exact ⟨r, rfl, del_at hrw (del_at hrd (e6 _ _ (e5 _ _ r4)))⟩
    | succ i => cases h1
  rintro m σ' H' ⟨a, L, B, kvs, u5, u6, u7, b, hm, eH, hdk, hww, hf, rfl⟩
  obtain ⟨g1, g2⟩ := fnd_get oth hf b.nd
  refine ⟨!(valV kvs (Sum.inl oth)).isSome, et_B (ev_dnotin (k := Sum.inl oth) (ev_var rfl) (ev_var rfl) hdk), fun hb H7 e7 => ⟨_, fun _ _ h => h, ?_⟩, fun hb H7 e7 => ?_⟩
  · have hno : ¬ oth ∈ L.map (·.1) := fun z => by
      rw [g1.mpr z] at hb
      cases hb
    have hal := bf_more b ⟨_, hpw⟩ hno
    have hlen := found_len b.nd b.path o0 o1
    obtain ⟨⟨s, p⟩, ha⟩ : ∃ e, L[a]? = some e := ⟨_, List.getElem?_eq_getElem hal⟩
    have hsm := List.mem_of_getElem? ha
    have ok := (b.path _ hsm).ok o0 o1
    have s0 : 0 ≤ s := ok.1
    have s1 : s ≤ 511 := ok.2.1
    have eH7 := eH.trans e7
    have hat : atI ((L.map (·.1)).map V.int) (a : Int) = some (.int s) := by
      have z : ((L.map (·.1)).map V.int)[a]? = some (.int s) := by
        rw [List.getElem?_map, List.getElem?_map, ha]
        rfl
      exact at_lt (n := 0) (by omega) (by rw [List.length_map, List.length_map]; omega) (by rw [Int.toNat_natCast]; exact z)
    refine q_asg (v := .int s) (ev_ix (i := (a : Int)) (evq_of (ev_var rfl) (.inl (SqL.of (e7 _ _ hww)))) (fun _ _ => ev_var rfl) hat) fun H8 e8 => ?_
    refine q_aug (a := (a : Int)) (b := 1) rfl ev_c fun H9 e9 => ?_
    have e79 := (e7.trans e8).trans e9
    have eH9 := eH.trans e79
    have bw := bw_start b o0 o1 ha
    refine s_forN (xs := (letsF s).map V.int) (el_letsS (K := K) (c := c) (ev_var rfl) s0 s1) (fun f i σ' H' => H' f = some (.lst ((letsF s).map V.int)) ∧ f ≠ w ∧ Ex H H' ∧ (∃ (L : List Ent) (kvs : List (Key × V)), Bw one L a s p ((letsF s).drop i) ∧ H' d = some (.dK kvs) ∧ H' w = some (.lst ((L.map (·.1)).map V.int)) ∧ FndAt (del (del H' d) w) kvs L) ∧
      ∃ u v, σ' = [some (.int one), some (.int oth), some (.ref d), some (.ref w), some (.int ((a : Int) + 1)), some (.int s), u, v])
      (fun f H10 hf10 e10 h10 => ⟨h10, Ne.symm (ne_of_none (e79 _ _ hww) hf10), eH9.trans e10, ⟨L, kvs, bw, e10 _ _ (e79 _ _ hdk), e10 _ _ (e79 _ _ hww), fnd_ex (ex_dels (but_ex (ex_dels (but_ex (e79.trans e10))))) hf⟩, u6, u7, rfl⟩) (fun f i σ' H' z => z.1) ?_ ?_
    · rintro f i x σ' H10 hx ⟨hff, hfw, eH10, ⟨L, kvs, bw, hdk, hww, hf⟩, u, v, rfl⟩
      obtain ⟨hil, rfl⟩ := getD_of hx
      have hdrop : (letsF s).drop i = (letsF s).getD i 0 :: (letsF s).drop (i + 1) := by
        rw [List.drop_eq_getElem_cons hil, List.getD_eq_getElem?_getD, List.getElem?_eq_getElem hil]
        rfl
      rw [hdrop] at bw
      generalize (letsF s).getD i 0 = h at bw
      have hl : h ∈ letsF s := bw.sub h List.mem_cons_self
      have hh := lets_hgt hl
      have hlen := found_len bw.nd bw.path o0 o1
      refine q_asg (v := .int (thrownF s h)) (ev_thrownS (K := K) (c := c) (ev_var rfl) (ev_var rfl) s0 s1 hl) fun H11 e11 => ?_
      obtain ⟨g1, g2⟩ := fnd_get (thrownF s h) hf bw.nd
      refine s_when (b := !(valV kvs (Sum.inl (thrownF s h))).isSome) (et_B (ev_dnotin (k := Sum.inl (thrownF s h)) (ev_var rfl) (ev_var rfl) (e11 _ _ hdk))) (fun hb H12 e12 => ?_) fun hb H12 e12 => ?_
      · have hno : ¬ thrownF s h ∈ L.map (·.1) := fun z => by
          rw [g1.mpr z] at hb
          cases hb
        have hvn : valV kvs (Sum.inl (thrownF s h)) = none := by
          cases z : valV kvs (Sum.inl (thrownF s h)) with
          | none => rfl
          | some o =>
            rw [z] at hb
            cases hb
        have e1012 := e11.trans e12
        obtain ⟨_, g4⟩ := fnd_get s hf bw.nd
        obtain ⟨r0, hv0, hr0⟩ := g4 p (List.mem_of_getElem? bw.at_)
        have hr12 : H12 r0 = some (.lst (p.map V.int)) := e1012 _ _ (ex_del _ _ (ex_del _ _ hr0))
        have bw' := bw_new bw hno
        have pl : p.length ≤ 18 := by
          have hmem := List.mem_of_getElem? bw.at_
          have hpp := bw.path _ hmem
          obtain ⟨q', hq', hl'⟩ := joined o0 o1 s0 s1 (hpp.ok o0 o1).2.2.symm
          have := key_len (c := 1) (by decide) hpp.hgt hq'.hgt (bw.mn _ hmem q' hq')
          show p.length ≤ 18
          have e : (s, p).2 = p := rfl
          rw [e] at this
          omega
        refine q_dputL (k := Sum.inl (thrownF s h)) (xs := (p ++ [h]).map V.int) ?_ (fun _ _ => ev_var rfl) (fun _ _ => ev_var rfl) (e1012 _ _ hdk) (by have := hf.1; omega) fun rn H13 hrn e13' h13 => ?_
        · rw [List.map_append]
          exact el_cat (evs_of (ev_dget (k := Sum.inl s) (ev_var rfl) (ev_var rfl) (e1012 _ _ hdk) hv0) (SqL.of hr12)) (evs_new (el_lst (ea_cons (ev_var rfl) ea_nil) (by show 1 ≤ 100000; decide))) (by rw [List.length_map]; show p.length + 1 ≤ 100000; omega)
        have e1013 := e1012.trans e13'
        have hrd' : rn ≠ d := Ne.symm (ne_of_none (e1012 _ _ hdk) hrn)
        have hrw' : rn ≠ w := Ne.symm (ne_of_none (e1012 _ _ hww) hrn)
        have eH14 : Ex H (upd H13 d (.dK (putK kvs (Sum.inl (thrownF s h)) (.ref rn)))) := Ex.mut (eH10.trans e1013) hdH
        have b14 : But d H10 (upd H13 d (.dK (putK kvs (Sum.inl (thrownF s h)) (.ref rn)))) := but_upd e1013
        have d14 : (upd H13 d (.dK (putK kvs (Sum.inl (thrownF s h)) (.ref rn)))) d = some (.dK (kvs ++ [(Sum.inl (thrownF s h), .ref rn)])) := by rw [upd_same, putK_new _ hvn]
        have rn14 : (upd H13 d (.dK (putK kvs (Sum.inl (thrownF s h)) (.ref rn)))) rn = some (.lst ((p ++ [h]).map V.int)) := (upd_ne hrd').trans h13
        generalize upd H13 d (.dK (putK kvs (Sum.inl (thrownF s h)) (.ref rn))) = H14 at eH14 b14 d14 rn14
        refine s_app (v := .int (thrownF s h)) (b14 _ _ (Ne.symm hdw) hww) (ev_var rfl) (ev_var rfl) (by rw [List.length_map, List.length_map]; omega) fun H15 e15 => ⟨(upd_ne hfw).trans (e15 _ _ (b14 _ _ (fun z => by
          subst z
          rw [hdk] at hff
          cases hff) hff)), hfw, Ex.mut (eH14.trans e15) hwH, ⟨L ++ [(thrownF s h, p ++ [h])], kvs ++ [(Sum.inl (thrownF s h), .ref rn)], bw', (upd_ne hdw).trans (e15 _ _ d14), ?_, ?_⟩, some (.int h), some (.int (thrownF s h)), rfl⟩
        · rw [upd_same, List.map_append, List.map_append]
          rfl
        · have st : Ex (del (del H10 d) w) (del (del (upd H15 w (.lst ((L.map (·.1)).map V.int ++ [.int (thrownF s h)]))) d) w) := ex_dels fun b o hb ho => by
            by_cases z : b = d
            · subst z
              rw [L2.del_same] at ho
              cases ho
            · rw [L2.del_ne z] at ho ⊢
              exact (upd_ne hb).trans (e15 _ _ (b14 _ _ z ho))
          exact fnd_snoc (e := (thrownF s h, p ++ [h])) (fnd_ex st hf) (del_at hrw' (del_at hrd' ((upd_ne hrw').trans (e15 _ _ rn14))))
      · have hyes : thrownF s h ∈ L.map (·.1) := by
          rw [Bool.not_eq_false'] at hb
          exact g1.mp hb
        have e1012 := e11.trans e12
        exact ⟨e1012 _ _ hff, hfw, eH10.trans e1012, ⟨L, kvs, bw_old bw hyes, e1012 _ _ hdk, e1012 _ _ hww, fnd_ex (ex_dels (but_ex (ex_dels (but_ex e1012)))) hf⟩, some (.int h), some (.int (thrownF s h)), rfl⟩
    · rintro f σ' H10 ⟨hff, hfw, eH10, ⟨L, kvs, bw, hdk, hww, hf⟩, u, v, rfl⟩
      rw [List.length_map, List.drop_length] at bw
      exact ⟨m - 1, by omega, a + 1, L, keyF 1 p + 1, kvs, some (.int s), u, v, bw_end bw, by omega, eH10, hdk, hww, hf, rfl⟩
  · have hyes : oth ∈ L.map (·.1) := by
      rw [Bool.not_eq_false'] at hb
      exact g1.mp hb
    obtain ⟨⟨t', wy⟩, hmem, et⟩ := List.mem_map.mp hyes
    have et : t' = oth := et
    subst et
    obtain ⟨r', hv, hr'⟩ := g2 wy hmem
    have hw' := way_is (bf_way b hmem)
    have eH7 := eH.trans e7
    have hr7 : H7 r' = some (.lst (wy.map V.int)) := e7 _ _ (ex_del _ _ (ex_del _ _ hr'))
    rw [hw'] at q
    refine s_retL (xs := wy.map V.int) (el_listQ (evq_of (ev_dget (k := Sum.inl t') (ev_var rfl) (ev_var rfl) (e7 _ _ hdk) hv) (.inl (SqL.of hr7)))) fun l H8 hl e8 h8 => q l H8 (fresh_back eH7 hl) (eH7.trans e8) h8
end
end Tr

/-! Comprehensions in comprehensions. -/
namespace Tr
open PySem L2 PySem.Spec PyProof.Rows Evl

theorem lookup_relabel_ne {env : Env} {x : PySem.Str} {k : NameKind} (hk : k = .cell ∨ k = .free) : ∀ {l : List (PySem.Str × NameKind)}, l.lookup x = some k →
    (l.map fun y => if (y.2 == NameKind.free && env.scope.kind == ScopeKind.function && env.kindOf y.1 == some NameKind.cell) = true then (y.1, NameKind.cell) else (y.1, y.2)).lookup x = some .cell ∨
    (l.map fun y => if (y.2 == NameKind.free && env.scope.kind == ScopeKind.function && env.kindOf y.1 == some NameKind.cell) = true then (y.1, NameKind.cell) else (y.1, y.2)).lookup x = some .free
  | [], h => nomatch h
  | (a, b) :: l, h => by
    rw [List.lookup_cons] at h
    rw [List.map_cons]
    cases hb : x == a with
    | true =>
      rw [hb] at h
      have hbk : b = k := Option.some.inj h
      by_cases q : (b == NameKind.free && env.scope.kind == ScopeKind.function && env.kindOf a == some NameKind.cell) = true
      · rw [if_pos q, List.lookup_cons, hb]
        exact .inl rfl
      · rw [if_neg q, List.lookup_cons, hb]
        rcases hk with hk | hk
        · exact .inl (by rw [← hk, ← hbk])
        · exact .inr (by rw [← hk, ← hbk])
    | false =>
      rw [hb] at h
      have z := lookup_relabel_ne (env := env) hk h
      by_cases q : (b == NameKind.free && env.scope.kind == ScopeKind.function && env.kindOf a == some NameKind.cell) = true
      · rw [if_pos q, List.lookup_cons, hb]
        exact z
      · rw [if_neg q, List.lookup_cons, hb]
        exact z
theorem blkOk_in {X : Cx} {s : Shared} {H : Hp} {scope0 scope : Scope} {cl : List (PySem.Str × Addr)} {C : Addr} {fp : List Addr} {N : List PySem.Str} {own : List (PySem.Str × Nat)} (hN : X.N = N) (h : blkC N scope0 scope own = true) :
    BlkOk (X.blk s H scope0 (compEnvC scope0 cl C X.env) fp).N (X.blk s H scope0 (compEnvC scope0 cl C X.env) fp).env.scope scope own := by
  subst hN
  have b := blkOk_by h
  exact ⟨b.kind, b.uniq, b.ix, fun y hy e => (b.free y hy e).elim (lookup_relabel_ne (.inl rfl)) (lookup_relabel_ne (.inr rfl)), b.own⟩

section
variable {K : PySem.W.Frag} {σ : L2.St} {H : Hp} {t : TT} {te tl : TE} {ta : TA}
/-- [e for i, x in enumerate(..)] -/
theorem lcEn {J : It} {xs : List V} {p q : Nat} {ws : List Nat} {Q : VK} {H0 H1 : Hp} (f : Nat → Bool) (v : Nat → V) (e0 : Ex H0 H1) (hn : xs.length ≤ 40000) (hgo : ∀ i H', i < xs.length → Ex H1 H' → J.go i H') (hst : ∀ H', Ex H1 H' → J.stop xs.length H')
    (hy : ∀ i x H' H'', i < xs.length → Ex H1 H' → J.yld i H' x H'' → ∃ T y, x = .ref T ∧ H' T = none ∧ H'' = upd H' T (.tup [.int (i : Nat), y]) ∧ xs[i]? = some y)
    (hw : ∀ x y, wipe (((wipe σ ws).set p (some x)).set q (some y)) ws = wipe σ ws)
    (ht : ∀ (i : Nat) (x : V) H1, Ex H0 H1 → xs[i]? = some x → EvT t (((wipe σ ws).set p (some (.int (i : Int)))).set q (some x)) H1 (f i))
    (he : ∀ (i : Nat) (x : V) H1, Ex H0 H1 → xs[i]? = some x → f i = true → Ev te (((wipe σ ws).set p (some (.int (i : Int)))).set q (some x)) H1 (v i))
    (k : ∀ D H2, H1 D = none → Ex H1 H2 → H2 D = some (.lst (given xs.length f v)) → Q (.ref D) H2) :
    ∀ D, H1 D = none → ∃ W : Nat → Nat → Hp → Prop, (∃ m, W 0 m (upd H1 D (.lst []))) ∧ ∀ i m H, W i m H →
      (J.stop i H ∧ Q (.ref D) H) ∨ (J.go i H ∧ ∃ Nx : Hp → Prop, (∀ H', Nx H' → ∃ m', m' < m ∧ W (i + 1) m' H') ∧ ∀ x H', J.yld i H x H' → gTup K 2 (gCons (gName p) (gCons (gName q) gNil)) x (wipe σ ws) H' fun σ2 H2 => wipe σ2 ws = wipe σ ws ∧ t σ2 H2 fun b H3 =>
        if b = true then te σ2 H3 fun y H4 => ∃ acc, H4 D = some (.lst acc) ∧ acc.length < sizeLine ∧ Nx (upd H4 D (.lst (acc ++ [y]))) else Nx H3) := by
  intro D hD
  refine ⟨fun i m H => m + i = xs.length ∧ Cw H1 f v D i H, ⟨xs.length, rfl, hD, Ex.new hD, upd_same⟩, ?_⟩
  rintro i m H ⟨hm, p1, p2, p3⟩
  by_cases hi : i < xs.length
  · refine .inr ⟨hgo i H hi p2, Cw H1 f v D (i + 1), fun H' z => ⟨m - 1, by omega, by omega, z⟩, fun x H' hyl => ?_⟩
    obtain ⟨T, y, rfl, hT, rfl, hxy⟩ := hy i x H H' hi p2 hyl
    have p2' := p2.trans (Ex.new (o := .tup [.int (i : Nat), y]) hT)
    refine g_two ⟨hw _ _, ?_⟩
    refine cw_turn (H := H1) ⟨p1, p2', ?_⟩ (by omega) ?_ fun hf => ?_
    · rw [upd_ne (fun z => by rw [← z, p3] at hT; cases hT)]
      exact p3
    · exact ht i y H1 e0 hxy
    · exact he i y H1 e0 hxy hf
  · have : i = xs.length := by omega
    subst this
    exact .inl ⟨hst H p2, k D H p1 p2 p3⟩
theorem el_lcEn {a : Addr} {xs : List V} {p q : Nat} {ws : List Nat} (f : Nat → Bool) (v : Nat → V) (h : Ev tl σ H (.ref a)) (hx : SqQ K H a xs) (hz : xs.length ≤ 40000) (hw : ∀ x y, wipe (((wipe σ ws).set p (some x)).set q (some y)) ws = wipe σ ws)
    (ht : ∀ (i : Nat) (x : V) H1, Ex H H1 → xs[i]? = some x → EvT t (((wipe σ ws).set p (some (.int (i : Int)))).set q (some x)) H1 (f i))
    (he : ∀ (i : Nat) (x : V) H1, Ex H H1 → xs[i]? = some x → f i = true → Ev te (((wipe σ ws).set p (some (.int (i : Int)))).set q (some x)) H1 (v i)) :
    EvL (tLc (iEnumQ K (tCons tl tNil)) (gTup K 2 (gCons (gName p) (gCons (gName q) gNil))) t te ws) σ H (given xs.length f v) := fun H0 e Q k => by
  rcases hx with hx | hx
  · refine .inl (h H0 e _ fun H1 e1 => ⟨a, xs, rfl, ex_l (e.trans e1) hx, lcEn f v (e.trans e1) hz (fun i H' hi e' => ⟨xs, xs[i], ex_l ((e.trans e1).trans e') hx, List.getElem?_eq_getElem hi⟩)
      (fun H' e' => ⟨xs, ex_l ((e.trans e1).trans e') hx, Nat.le_refl _⟩) ?_ hw ht he fun D H2 hD e2 h2 => k D H2 (fresh_back e1 hD) (e1.trans e2) h2⟩)
    rintro i x H' H'' hi e' ⟨T, y, rfl, hT, rfl, hy⟩
    exact ⟨T, y, rfl, hT, rfl, hy xs (ex_l ((e.trans e1).trans e') hx)⟩
  · refine .inr (h H0 e _ fun H1 e1 => ⟨a, xs, rfl, ex_t (e.trans e1) hx, lcEn f v (e.trans e1) hz (fun i H' hi e' => ⟨xs, xs[i], ex_t ((e.trans e1).trans e') hx, List.getElem?_eq_getElem hi⟩)
      (fun H' e' => ⟨xs, ex_t ((e.trans e1).trans e') hx, Nat.le_refl _⟩) ?_ hw ht he fun D H2 hD e2 h2 => k D H2 (fresh_back e1 hD) (e1.trans e2) h2⟩)
    rintro i x H' H'' hi e' ⟨T, y, rfl, hT, rfl, hy⟩
    exact ⟨T, y, rfl, hT, rfl, hy xs (ex_t ((e.trans e1).trans e') hx)⟩
/-- len(set(..)) of ints that differ -/
theorem ev_lenSet {ns : List Int} (h : EvS K te σ H (ns.map V.int)) (h64 : ns.length < 64) (nd : ns.Nodup) : Ev (tLenSetI K te) σ H (.int ((ns.length : Nat) : Int)) := fun H1 e1 Q q =>
  h H1 e1 _ fun p H2 e2 hp => ⟨p, ns, rfl, hp, h64, nd, q H2 e2⟩
end
end Tr

/-! Law k08: whole rows joined. -/
namespace Tr
open PySem L2 PySem.Spec PyProof.Rows Evl

/-! ### a walk that comes back is a row without a clash -/
theorem PathS.split {a b : Int} {p : List Int} (h : PathS a p b) : ∀ i, i ≤ p.length → ∃ c, PathS a (p.take i) c ∧ PathS c (p.drop i) b := by
  induction h with
  | nil a =>
    intro i hi
    have : i = 0 := Nat.le_zero.mp hi
    subst this
    exact ⟨a, .nil _, .nil _⟩
  | @cons a h p b m k ih =>
    intro i hi
    cases i with
    | zero => exact ⟨a, .nil _, .cons m k⟩
    | succ i =>
      obtain ⟨c, h1, h2⟩ := ih i (by rw [List.length_cons] at hi; omega)
      exact ⟨c, .cons m h1, h2⟩
theorem thrown_bit {s h : Int} (h0 : 0 ≤ s) (h1 : 0 ≤ h) {k : Nat} : bitS (thrownF s h) k = (bitS s (k + 1) || (decide (0 < h) && decide (h.toNat = k + 1))) := by
  obtain ⟨n, rfl⟩ : ∃ n : Nat, s = (n : Int) := ⟨s.toNat, by omega⟩
  rw [thrown_nat h1, bitS_nat, bitS_nat]
  rw [show ∀ x : Nat, (x / 2).testBit k = x.testBit (k + 1) from fun x => by rw [Nat.testBit_succ]]
  by_cases h2 : 0 < h
  · rw [if_pos h2, Nat.testBit_or, Nat.testBit_two_pow]
    simp [h2]
  · rw [if_neg h2]
    simp [h2]
theorem bit_keep {a b : Int} {p : List Int} (h : PathS a p b) : 0 ≤ a → a ≤ 511 → ∀ k : Nat, p.length ≤ k → bitS a k = true → bitS b (k - p.length) = true := by
  induction h with
  | nil a => exact fun _ _ k _ hb => hb
  | @cons a h p b m _ ih =>
    intro a0 a1 k hk hb
    obtain ⟨z0, z1, _⟩ := step_ok a0 a1 m
    rw [List.length_cons] at hk
    have e := ih z0 z1 (k - 1) (by omega) (by
      rw [thrown_bit a0 (lets_hgt m).1, show k - 1 + 1 = k by omega, hb]
      rfl)
    rw [List.length_cons, show k - (p.length + 1) = k - 1 - p.length by omega]
    exact e
theorem let_clear {s h : Int} (m : h ∈ letsF s) : bitS s h.toNat = false := by
  unfold letsF at m
  split at m
  · rename_i e
    rw [List.mem_singleton.mp m]
    show decide (s / 2 ^ 0 % 2 = 1) = false
    rw [decide_eq_false_iff_not]
    omega
  · obtain ⟨i, hi, rfl⟩ := List.mem_map.mp m
    have z := (List.mem_filter.mp hi).2
    rw [show (1 + (i : Int)).toNat = i + 1 by omega]
    simpa using z
theorem path_clash {a b : Int} {p : List Int} (h : PathS a p b) (a0 : 0 ≤ a) (a1 : a ≤ 511) {i j : Nat} (hij : i < j) (hj : j < p.length) : (i : Int) + p.getD i 0 ≠ (j : Int) + p.getD j 0 := by
  intro e
  obtain ⟨c, h1, h2⟩ := h.split i (by omega)
  obtain ⟨c0, c1, _⟩ := h1.ok a0 a1
  have ei : p.drop i = p.getD i 0 :: p.drop (i + 1) := by
    rw [List.drop_eq_getElem_cons (by omega), List.getD_eq_getElem?_getD, List.getElem?_eq_getElem (by omega)]
    rfl
  rw [ei] at h2
  generalize p.getD i 0 = x at e h2
  cases h2 with
  | cons m h2 =>
  obtain ⟨d0, d1, _⟩ := step_ok c0 c1 m
  obtain ⟨g, k1, k2⟩ := h2.split (j - (i + 1)) (by rw [List.length_drop]; omega)
  rw [List.drop_drop, show i + 1 + (j - (i + 1)) = j by omega] at k2
  have ej : p.drop j = p.getD j 0 :: p.drop (j + 1) := by
    rw [List.drop_eq_getElem_cons (by omega), List.getD_eq_getElem?_getD, List.getElem?_eq_getElem (by omega)]
    rfl
  rw [ej] at k2
  generalize p.getD j 0 = y at e k2
  cases k2 with
  | cons m2 k2 =>
  have hx := lets_hgt m
  have hy := lets_hgt m2
  have hl : ((p.drop (i + 1)).take (j - (i + 1))).length = j - (i + 1) := by
    rw [List.length_take, List.length_drop]
    omega
  have z := bit_keep k1 d0 d1 (x.toNat - 1) (by rw [hl]; omega) (by
    rw [thrown_bit c0 hx.1, show x.toNat - 1 + 1 = x.toNat by omega]
    have h1 : 0 < x := by omega
    simp [h1])
  rw [hl, show x.toNat - 1 - (j - (i + 1)) = y.toNat by omega, let_clear m2] at z
  cases z
theorem path_rep {a : Int} {ns : List Int} (h : PathS a ns a) : ∀ m : Nat, PathS a (List.replicate m ns).flatten a
  | 0 => .nil _
  | m + 1 => by
    rw [List.replicate_succ, List.flatten_cons]
    exact h.app (path_rep h m)
theorem path_goes {a : Int} {ns : List Int} (h : PathS a ns a) (a0 : 0 ≤ a) (a1 : a ≤ 511) (hn : 0 < ns.length) : Goes ns := by
  have hgt : ∀ t, 0 ≤ hAt ns t ∧ hAt ns t ≤ 9 := fun t => by
    have b0 : 0 ≤ t % (ns.length : Int) := Int.emod_nonneg _ (by omega)
    have b1 : t % (ns.length : Int) < ns.length := Int.emod_lt_of_pos _ (by omega)
    exact h.hgt _ (mem_getD0 (by omega))
  have lt : ∀ s t : Int, s < t → s + hAt ns s ≠ t + hAt ns t := by
    intro s t hst e
    have b0 : 0 ≤ s % (ns.length : Int) := Int.emod_nonneg _ (by omega)
    have b1 : s % (ns.length : Int) < ns.length := Int.emod_lt_of_pos _ (by omega)
    have hs := hgt s
    have ht := hgt t
    have hp := path_rep h 10
    rw [rep_cut hn 10] at hp
    have hl : (repF ns 10).length = 10 * ns.length := rep_len
    have at' : ∀ k : Nat, k < 10 * ns.length → (repF ns 10).getD k 0 = hAt ns (k : Int) := fun k hk => getD_mapR hk
    refine path_clash hp a0 a1 (i := (s % (ns.length : Int)).toNat) (j := (s % (ns.length : Int)).toNat + (t - s).toNat) (by omega) (by rw [hl]; omega) ?_
    rw [at' _ (by omega), at' _ (by omega)]
    have e1 : hAt ns (((s % (ns.length : Int)).toNat : Nat) : Int) = hAt ns s := hAt_of (by
      rw [Int.toNat_of_nonneg b0, Int.emod_emod_of_dvd _ (Int.dvd_refl _)])
    have e2 : hAt ns (((s % (ns.length : Int)).toNat + (t - s).toNat : Nat) : Int) = hAt ns t := hAt_of (by
      rw [show (((s % (ns.length : Int)).toNat + (t - s).toNat : Nat) : Int) = s % (ns.length : Int) + (t - s) by omega, Int.add_emod, Int.emod_emod_of_dvd _ (Int.dvd_refl _), ← Int.add_emod, show s + (t - s) = t by omega])
    rw [e1, e2]
    omega
  refine (goes_z hn).mpr fun s t e => ?_
  rcases Int.lt_trichotomy s t with h | h | h
  · exact absurd e (lt s t h)
  · exact h
  · exact absurd e.symm (lt t s h)
/-! ### any two states of as many bits are joined by nine throws -/
theorem down_fin9 : ((List.range 512).all fun s => decide (runS s (downP (9 - pcI s) s) = some (2 ^ pcI s - 1))) = true := by decide +kernel
theorem joined9 {a b : Int} (a0 : 0 ≤ a) (a1 : a ≤ 511) (b0 : 0 ≤ b) (b1 : b ≤ 511) (h : pcI a = pcI b) : ∃ p, PathS a p b ∧ p.length ≤ 9 := by
  have d := of_decide_eq_true (List.all_eq_true.mp down_fin9 a.toNat (List.mem_range.mpr (by omega)))
  have u := of_decide_eq_true (List.all_eq_true.mp up_fin b.toNat (List.mem_range.mpr (by omega)))
  rw [Int.toNat_of_nonneg a0] at d
  rw [Int.toNat_of_nonneg b0] at u
  rw [h] at d
  refine ⟨_, (run_path _ _ _ d).app (run_path _ _ _ u), ?_⟩
  rw [List.length_append, down_len, up_len]
  have := pcI_le b
  show 9 - pcI b + (pcI b + 0) ≤ 9
  omega
theorem way_min {a b : Int} : ∀ (n : Nat) (p : List Int), PathS a p b → (keyF 1 p).toNat ≤ n → ∃ w, IsWay a b w
  | 0, p, hp, hn => ⟨p, hp, fun q hq => by
    have z := (key_bounds q 1 hq.hgt).1
    have : (0 : Int) < 16 ^ q.length := Int.pow_pos (by decide)
    omega⟩
  | n + 1, p, hp, hn => by
    by_cases h : ∃ q, PathS a q b ∧ keyF 1 q < keyF 1 p
    · obtain ⟨q, hq, hlt⟩ := h
      have z := (key_bounds q 1 hq.hgt).1
      have : (0 : Int) < 16 ^ q.length := Int.pow_pos (by decide)
      exact way_min n q hq (by omega)
    · refine ⟨p, hp, fun q hq => ?_⟩
      by_cases hlt : keyF 1 q < keyF 1 p
      · exact absurd ⟨q, hq, hlt⟩ h
      · omega
theorem way_short {a b : Int} (a0 : 0 ≤ a) (a1 : a ≤ 511) (b0 : 0 ≤ b) (b1 : b ≤ 511) (h : pcI a = pcI b) : PathS a (wayF a b) b ∧ (wayF a b).length ≤ 9 := by
  obtain ⟨p, hp, hl⟩ := joined9 a0 a1 b0 b1 h
  obtain ⟨w, hw⟩ := way_min _ p hp (Nat.le_refl _)
  rw [way_is hw]
  have := key_len (c := 1) (by decide) hw.1.hgt hp.hgt (hw.2 p hp)
  exact ⟨hw.1, by omega⟩
/-! ### the rows drawn -/
theorem walk_row {h : Int → Int} (hh : ∀ t, 0 ≤ h t ∧ h t ≤ 9) (hg : GoesZ h) (hs : ∀ t, ∃ s, s + h s = t) : ∀ n : Nat, PathS (stF h 0) ((List.range n).map fun (t : Nat) => h (t : Int)) (stF h (n : Int))
  | 0 => .nil _
  | n + 1 => by
    rw [List.range_succ, List.map_append]
    have z := (walk_row hh hg hs n).snoc (st_let hh hg hs n)
    rw [st_step hh n] at z
    exact z
theorem walk_reps {ns : List Int} (hg : Good ns) (hc : clashF ns = none) (m : Nat) : PathS (stF (hAt ns) 0) (List.replicate m ns).flatten (stF (hAt ns) 0) := by
  have hn : 0 < ns.length := hg.1
  rw [rep_cut hn m]
  have z := walk_row (hAt_hgt hg) ((goes_z hn).mp (goes_iff.mp hc)) (lands hn (goes_iff.mp hc)) (m * ns.length)
  have e : stF (hAt ns) ((m * ns.length : Nat) : Int) = stF (hAt ns) 0 := stF_congr fun b => by
    rw [show ((m * ns.length : Nat) : Int) - b = (0 - b) + (m : Int) * ns.length by rw [Int.natCast_mul]; omega]
    exact hAt_add
  rw [e] at z
  exact z
theorem exch_sum {ns : List Int} {i j : Int} (h0 : 0 ≤ i) (h1 : i < j) (h2 : j < ns.length) : (exch ns i j).sum = ns.sum := by
  unfold exch
  simp only
  split
  · have z := xch_sum (ns := ns) (i := i.toNat) (j := j.toNat) (by omega) (by omega)
    unfold xchF at z
    rw [Int.toNat_of_nonneg h0, Int.toNat_of_nonneg (by omega)] at z
    have e1 : gi ns j = ns.getD j.toNat 0 := rfl
    have e2 : gi ns i - j + i = ns.getD i.toNat 0 - (j - i) := by show ns.getD i.toNat 0 - j + i = _; omega
    rw [e1, e2]
    exact z
  · rfl
theorem exchD_sum {ns : List Int} {d : Int} (hd : 0 ≤ d) (hn : 2 ≤ ns.length) : (exchD ns d).sum = ns.sum := by
  unfold exchD
  simp only
  have a0 : 0 ≤ d % (ns.length : Int) := Int.emod_nonneg _ (by omega)
  have a1 : d % (ns.length : Int) < ns.length := Int.emod_lt_of_pos _ (by omega)
  have c0 : 0 ≤ d / 64 % ((ns.length : Int) - 1) := Int.emod_nonneg _ (by omega)
  have c1 : d / 64 % ((ns.length : Int) - 1) < (ns.length : Int) - 1 := Int.emod_lt_of_pos _ (by omega)
  generalize d % (ns.length : Int) = a at a0 a1
  generalize d / 64 % ((ns.length : Int) - 1) = c at c0 c1
  have b0 : 0 ≤ (a + 1 + c) % (ns.length : Int) := Int.emod_nonneg _ (by omega)
  have b1 : (a + 1 + c) % (ns.length : Int) < ns.length := Int.emod_lt_of_pos _ (by omega)
  have hab : (a + 1 + c) % (ns.length : Int) ≠ a := fun z => by
    by_cases h : a + 1 + c < ns.length
    · rw [Int.emod_eq_of_lt (by omega) h] at z
      omega
    · rw [show a + 1 + c = (a + 1 + c - ns.length) + 1 * (ns.length : Int) by omega, Int.add_mul_emod_self_right, Int.emod_eq_of_lt (by omega) (by omega)] at z
      omega
  generalize (a + 1 + c) % (ns.length : Int) = b at b0 b1 hab
  split
  · exact exch_sum b0 (by omega) a1
  · exact exch_sum a0 (by omega) b1
theorem mixedUp_sum {ns : List Int} {cell : Int} (hn : 2 ≤ ns.length) : ∀ n, (mixedUp ns cell n).sum = ns.sum
  | 0 => rfl
  | n + 1 => by
    rw [mixedUp_succ, exchD_sum (mixed_lo _ _) (by rw [mixedUp_len]; exact hn)]
    exact mixedUp_sum hn n
theorem goStep_sum {ns : List Int} {cell k : Int} : (goStep cell ns k).sum = ns.sum := by
  unfold goStep
  simp only
  rw [List.sum_append, Int.add_comm, ← List.sum_append, List.take_append_drop]
  unfold turns2
  split
  · exact mixedUp_sum (by omega) _
  · rfl
theorem rep_sum1 {x : Int} : ∀ n : Nat, (List.replicate n x).sum = n * x
  | 0 => by simp
  | n + 1 => by
    rw [List.replicate_succ, List.sum_cons, rep_sum1 n, Int.natCast_add, Int.add_mul]
    omega
theorem going_sum {a m : Int} (h1 : 1 ≤ m) : (going a m).sum = m * (a % 10) := by
  unfold going
  rw [goStep_sum, goStep_sum, rep_sum1, Int.toNat_of_nonneg (by omega)]
theorem going_lenI {a m : Int} (h1 : 1 ≤ m) : ((going a m).length : Int) = m := by
  unfold going
  rw [goStep_len, goStep_len, List.length_replicate]
  omega
/-- as many things as the least figure says -/
theorem going_up {a m : Int} (h1 : 1 ≤ m) (h40 : m ≤ 40) : (pcI (stF (hAt (going a m)) 0) : Int) = a % 10 := by
  have e := up_things (good_going (a := a) h1 h40) (going_clash (a := a) h1)
  rw [going_sum h1, going_lenI h1, Int.mul_ediv_cancel_left _ (by omega)] at e
  rw [e]
  show ((pc (stF (hAt (going a m)) 0).toNat 9 : Nat) : Int) = ((pc (stS (hAt (going a m)) 0) 9 : Nat) : Int)
  rw [stF_nat, Int.toNat_natCast]
theorem going_things {a m : Int} (h1 : 1 ≤ m) : (going a m).sum / ((going a m).length : Int) = a % 10 := by
  rw [going_sum h1, going_lenI h1, Int.mul_ediv_cancel_left _ (by omega)]
/-! ### the program -/
def LstP (xs : List V) : HP := fun v H => ∃ p, v = .ref p ∧ H p = some (.lst xs)
theorem lstP_mon {xs : List V} : Mon (LstP xs) := fun v H H' e ⟨p, a, b⟩ => ⟨p, a, e _ _ b⟩
def upS (ns : List Int) : Int := stF (hAt ns) 0
/-- the two ways -/
def BriP (ns ms : List Int) : HP := TuP [LstP ((wayF (upS ns) (upS ms)).map V.int), LstP ((wayF (upS ms) (upS ns)).map V.int)]
def sp_k08_bridge (K : PySem.W.Frag) (c : Cs) : Sp := fun vs H Q E => ∃ x y, vs = [x, y] ∧ Need K c x H E fun ns => Need K c y H E fun ms =>
  (pcI (upS ns) ≠ pcI (upS ms) ∧ RetE c.noway H E) ∨ (pcI (upS ns) = pcI (upS ms) ∧ RetP (BriP ns ms) H Q)
def sp_k08_l_goes_on (K : PySem.W.Frag) (c : Cs) : Sp := fun vs H Q _ => ∃ (p : Addr) (ns : List Int), vs = [.ref p] ∧ SqL K H p (ns.map V.int) ∧ 1 ≤ ns.length ∧ ns.length < 64 ∧ Goes ns ∧ RetV (.bl true) H Q
def sp_k08_l_comes_back (K : PySem.W.Frag) (c : Cs) : Sp := fun vs H Q _ => ∃ (p : Addr) (ns : List Int) (s : Int), vs = [.ref p, .int s] ∧ SqL K H p (ns.map V.int) ∧ 0 ≤ s ∧ s ≤ 511 ∧ PathS s ns s ∧ RetV (.bl true) H Q
def sp_k08_l_same (K : PySem.W.Frag) (c : Cs) : Sp := fun vs H Q _ => ∃ a m h : Int, vs = [.int a, .int m, .int h] ∧ 1 ≤ m ∧ m ≤ 1000 ∧ RetL ((going (a - a % 10 + h) m).map V.int) H Q
def Told8 (K : PySem.W.Frag) (x y : V) (H : Hp) (s : Str) : Prop := (s = "row" ∧ Bad K H x) ∨ ∃ ns, Row K H x ns ∧ Good ns ∧ ((s = "clash" ∧ clashF ns ≠ none) ∨ (clashF ns = none ∧
  ((s = "row" ∧ Bad K H y) ∨ ∃ ms, Row K H y ms ∧ Good ms ∧ ((s = "clash" ∧ clashF ms ≠ none) ∨ (s = "way" ∧ clashF ms = none ∧ pcI (upS ns) ≠ pcI (upS ms))))))
def sp_k08_l_told (K : PySem.W.Frag) (c : Cs) : Sp := fun vs H Q _ => ∃ x y s, vs = [x, y] ∧ Told8 K x y H s ∧ RetV (.str s) H Q
def sp_k08_law (K : PySem.W.Frag) (c : Cs) : Sp := fun vs H Q _ => ∃ (a : Addr) (ns : List Int), vs = [.ref a] ∧ SqL K H a (ns.map V.int) ∧ ns.length ≤ 63 ∧ ∀ H', Q (.bl true) H'
structure Ex08 (K : PySem.W.Frag) (c : Cs) : Prop where
  rr : PySem.W.exmOne K (.ref c.norow) (.ref c.norow) = some true
  cr : PySem.W.exmOne K (.ref c.clash) (.ref c.norow) = some false
  cc : PySem.W.exmOne K (.ref c.clash) (.ref c.clash) = some true
  wr : PySem.W.exmOne K (.ref c.noway) (.ref c.norow) = some false
  wc : PySem.W.exmOne K (.ref c.noway) (.ref c.clash) = some false
  ww : PySem.W.exmOne K (.ref c.noway) (.ref c.noway) = some true
/-- bridge: slots one, other, first, second -/
def t_k08_bridge (K : PySem.W.Frag) (c : Cs) (E : XK) : TS :=
  (tSeq (tAsg (tCall (sp_state_at K c) [.int 0] E (tCons (tVar 0) tNil)) (gName 2))
  (tSeq (tAsg (tCall (sp_state_at K c) [.int 0] E (tCons (tVar 1) tNil)) (gName 3))
  (tRet (tTup (tCons (tCall (sp_way K c) [] E (tCons (tVar 2) (tCons (tVar 3) tNil))) (tCons (tCall (sp_way K c) [] E (tCons (tVar 3) (tCons (tVar 2) tNil))) tNil))))))

/-- _law_goes_on: slots _law_row, _law_places, _law_turn, _law_height -/
def t_k08_l_goes_on (K : PySem.W.Frag) (c : Cs) (E : XK) : TS :=
  (tSeq (tAsg (tLc (iEnumQ K (tCons (tVar 0) tNil)) (gTup K 2 (gCons (gName 2) (gCons (gName 3) gNil))) tYes (tOp xMod (tOp (xAdd K) (tVar 2) (tVar 3)) (tCB (cLen K) (tCons (tVar 0) tNil))) [2, 3]) (gName 1))
  (tRet (tOp (xEq K) (tLenSetI K (tVar 1)) (tCB (cLen K) (tCons (tVar 0) tNil)))))

/-- _law_comes_back: slots _law_row, _law_state, _law_first, _law_height -/
def t_k08_l_comes_back (K : PySem.W.Frag) (c : Cs) (E : XK) : TS :=
  (tSeq (tAsg (tVar 1) (gName 2))
  (tSeq (tFor (iSeq K (tVar 0)) (gName 3) (tSeq (tIfS (tTest (tOp (xNotIn K) (tVar 3) (tCall (sp_lets K c) [] E0 (tCons (tVar 1) tNil)))) (tRet (tC (.bl false))) tNext)
  (tAsg (tCall (sp_thrown K c) [] E0 (tCons (tVar 1) (tCons (tVar 3) tNil))) (gName 1))))
  (tRet (tOp (xEq K) (tVar 1) (tVar 2)))))

/-- _law_same: slots _law_cell, _law_many, _law_height, _law_row -/
def t_k08_l_same (K : PySem.W.Frag) (c : Cs) (E : XK) : TS :=
  (tSeq (tAsg (tCall (sp_l_going K c) [] E0 (tCons (tOp (xAdd K) (tOp xSub (tVar 0) (tOp xMod (tVar 0) (tC (.int 10)))) (tVar 2)) (tCons (tVar 1) tNil))) (gName 3))
  (tRet (tVar 3)))

/-- _law_told: slots _law_one, _law_other, _law_found -/
def t_k08_l_told (K : PySem.W.Frag) (c : Cs) (E : XK) : TS :=
  (tSeq (tAsg (tC .non) (gName 2))
  (tSeq (fun D σ H => (fun W => (tAsg (tCallS (sp_k08_bridge K c) (WE W) (tCons (tVar 0) (tCons (tVar 1) tNil))) (gName 2))) (wMany K (fun _ _ _ _ => False) D [((.ref c.norow), fun a cls d => (tAsg (tC (.str "row")) (gName 2))), ((.ref c.clash), fun a cls d => (tAsg (tC (.str "clash")) (gName 2))), ((.ref c.noway), fun a cls d => (tAsg (tC (.str "way")) (gName 2)))]) D σ H)
  (tRet (tVar 2))))

/-- law: slots _law_script, _law_k, _law_cell, _law_draw, _law_one, _law_other, _law_there, _law_back, _law_whole, _law_third -/
def t_k08_law (K : PySem.W.Frag) (c : Cs) (E : XK) : TS :=
  (tSeq (tFor (iEnumQ K (tCons (tOp (xAdd K) (tVar 0) (tLst (tCons (tC (.int 0)) (tCons (tC (.int 1)) tNil)))) tNil)) (gTup K 2 (gCons (gName 1) (gCons (gName 2) gNil))) (tSeq (tAsg (tCall (sp_l_mixed K c) [] E0 (tCons (tVar 2) (tCons (tVar 1) tNil))) (gName 3))
  (tSeq (tAsg (tCall (sp_k08_l_same K c) [] E0 (tCons (tVar 3) (tCons (tOp (xAdd K) (tC (.int 1)) (tOp xMod (tOp xDiv (tVar 3) (tC (.int 10))) (tC (.int 9)))) (tCons (tOp xMod (tVar 3) (tC (.int 10))) tNil)))) (gName 4))
  (tSeq (tAsg (tCall (sp_k08_l_same K c) [] E0 (tCons (tOp xDiv (tVar 3) (tC (.int 3))) (tCons (tOp (xAdd K) (tC (.int 1)) (tOp xMod (tOp xDiv (tVar 3) (tC (.int 90))) (tC (.int 9)))) (tCons (tOp xMod (tVar 3) (tC (.int 10))) tNil)))) (gName 5))
  (tSeq (tAsg (tCall (sp_k08_bridge K c) [] E0 (tCons (tVar 4) (tCons (tCB (cTuple K) (tCons (tVar 5) tNil)) tNil))) (gTup K 2 (gCons (gName 6) (gCons (gName 7) gNil))))
  (tSeq (tAsg (tOp (xAdd K) (tOp (xAdd K) (tOp (xAdd K) (tOp (xMul K) (tVar 4) (tOp (xAdd K) (tC (.int 1)) (tOp xMod (tOp xDiv (tVar 3) (tC (.int 7))) (tC (.int 2))))) (tVar 6)) (tOp (xMul K) (tVar 5) (tOp xMod (tOp xDiv (tVar 3) (tC (.int 14))) (tC (.int 3))))) (tVar 7)) (gName 8))
  (tSeq (tIfS (tOr (tNot (tB (tCall (sp_k08_l_goes_on K c) [] E0 (tCons (tVar 8) tNil)))) (tOr (tNot (tB (tCall (sp_k08_l_comes_back K c) [] E0 (tCons (tVar 8) (tCons (tCall (sp_state_at K c) [.int 0] E0 (tCons (tVar 4) tNil)) tNil))))) (tTest (tOp xGt (tCB (cMax K) (tCons (tCB (cLen K) (tCons (tVar 6) tNil)) (tCons (tCB (cLen K) (tCons (tVar 7) tNil)) tNil))) (tC (.int 18)))))) (tRet (tC (.bl false))) tNext)
  (tSeq (tAsg (tCall (sp_k08_l_same K c) [] E0 (tCons (tOp xDiv (tVar 3) (tC (.int 5))) (tCons (tOp (xAdd K) (tC (.int 1)) (tOp xMod (tOp xDiv (tVar 3) (tC (.int 9))) (tC (.int 9)))) (tCons (tOp xMod (tOp (xAdd K) (tOp (xAdd K) (tOp xMod (tVar 3) (tC (.int 10))) (tC (.int 1))) (tOp xMod (tOp xDiv (tVar 3) (tC (.int 11))) (tC (.int 9)))) (tC (.int 10))) tNil)))) (gName 9))
  (tSeq (tIfS (tOr (tTest (tOp (xEq K) (tCall (sp_things K c) [] E0 (tCons (tVar 9) tNil)) (tCall (sp_things K c) [] E0 (tCons (tVar 4) tNil)))) (tTest (tOp (xNe K) (tCall (sp_k08_l_told K c) [] E0 (tCons (tVar 4) (tCons (tVar 9) tNil))) (tC (.str "way"))))) (tRet (tC (.bl false))) tNext)
  (tSeq (tIfS (tOr (tTest (tOp (xNotIn K) (tCall (sp_k08_l_told K c) [] E0 (tCons (tOp (xAdd K) (tVar 4) (tLst (tCons (tC (.int 4)) (tCons (tC (.int 3)) tNil)))) (tCons (tVar 9) tNil))) (tLst (tCons (tC (.str "clash")) (tCons (tC (.str "way")) tNil))))) (tTest (tOp (xNe K) (tCall (sp_k08_l_told K c) [] E0 (tCons (tLst (tCons (tC (.int 5)) (tCons (tC (.int 4)) tNil))) (tCons (tLst (tCons (tC (.int 4)) (tCons (tC (.int 10)) tNil))) tNil))) (tC (.str "clash"))))) (tRet (tC (.bl false))) tNext)
  (tIfS (tOr (tTest (tOp (xNe K) (tCall (sp_k08_l_told K c) [] E0 (tCons (tLst tNil) (tCons (tLst (tCons (tC (.int 5)) (tCons (tC (.int 4)) tNil))) tNil))) (tC (.str "row")))) (tOr (tTest (tOp (xNe K) (tCall (sp_k08_l_told K c) [] E0 (tCons (tVar 4) (tCons (tLst (tCons (tC (.int 10)) tNil)) tNil))) (tC (.str "row")))) (tTest (tOp (xNe K) (tCall (sp_k08_l_told K c) [] E0 (tCons (tVar 9) (tCons (tLst (tCons (tC (.int 5)) (tCons (tC (.int 4)) tNil))) tNil))) (tC (.str "clash")))))) (tRet (tC (.bl false))) tNext)))))))))))
  (tRet (tC (.bl true))))

section
variable {K : PySem.W.Frag} {c : Cs} {vs : List V} {H : Hp} {Q : VK} {E : XK}
theorem upS_ok {ns : List Int} (hg : Good ns) : 0 ≤ upS ns ∧ upS ns ≤ 511 := by
  have := st_lt (hAt_hgt hg) 0
  unfold upS
  rw [stF_nat]
  omega
theorem el_way8 {σ : L2.St} {ta tb : TE} {s t : Int} (ha : Ev ta σ H (.int s)) (hb : Ev tb σ H (.int t)) (hs : 0 ≤ s ∧ s ≤ 511) (ht : 0 ≤ t ∧ t ≤ 511) (he : pcI s = pcI t) : EvL (tCall (sp_way K c) [] E (tCons ta (tCons tb tNil))) σ H ((wayF s t).map V.int) :=
  el_call (ea_cons ha (ea_cons hb ea_nil)) fun H1 e1 Q' q' _ => ⟨_, _, rfl, .inr ⟨s, rfl, hs.1, hs.2, .inr ⟨t, rfl, ht.1, ht.2, .inr ⟨he, q'⟩⟩⟩⟩
theorem pure_k08_bridge (h : sp_k08_bridge K c vs H Q E) : t_k08_bridge K c E { nx := fun _ H' => Q .non H', rt := Q } (start ["one", "other", "first", "second"] vs) H := by
  obtain ⟨x, y, rfl, hx⟩ := h
  refine ⟨x, rfl, x, .int 0, rfl, typed_int, need_up (Ex.refl _) hx fun ns hr hg hc hy => .inr ⟨0, rfl, Int.le_refl _, fun H1 e1 => ?_⟩⟩
  refine ⟨y, rfl, y, .int 0, rfl, typed_int, need_up e1 hy fun ms hr' hg' hc' h => .inr ⟨0, rfl, Int.le_refl _, fun H2 e2 => ?_⟩⟩
  have s1 := upS_ok hg
  have s2 := upS_ok hg'
  rcases h with ⟨hne, q⟩ | ⟨he, q⟩
  · exact ⟨_, rfl, _, rfl, _, _, rfl, .inr ⟨upS ns, rfl, s1.1, s1.2, .inr ⟨upS ms, rfl, s2.1, s2.2, .inl ⟨hne, fun H3 e3 => q H3 ((e1.trans e2).trans e3)⟩⟩⟩⟩
  · refine s_retP (epu (epa_cons (P := LstP ((wayF (upS ns) (upS ms)).map V.int)) (evp_l (el_way8 (K := K) (c := c) (ev_var rfl) (ev_var rfl) s1 s2 he)) lstP_mon (epa_cons (P := LstP ((wayF (upS ms) (upS ns)).map V.int)) (evp_l (el_way8 (K := K) (c := c) (ev_var rfl) (ev_var rfl) s2 s1 he.symm)) lstP_mon epa_nil)) (fun P hP => ?_) (by show 2 ≤ 100000; decide)) fun v H3 e3 hv => q v H3 ((e1.trans e2).trans e3) hv
    rcases List.mem_cons.mp hP with rfl | hP
    · exact lstP_mon
    · rw [List.mem_singleton.mp hP]
      exact lstP_mon
theorem pure_k08_l_goes_on (h : sp_k08_l_goes_on K c vs H Q E) : t_k08_l_goes_on K c E { nx := fun _ H' => Q .non H', rt := Q } (start ["_law_row", "_law_places", "_law_turn", "_law_height"] vs) H := by
  obtain ⟨p, ns, rfl, hq, h1, h64, hg, q⟩ := h
  refine q_asgL (xs := (((List.range ns.length).map (place ns)).map V.int)) ?_ fun l H1 hl e1 h1' => ?_
  · have z := el_lcEn (K := K) (σ := [some (V.ref p), none, none, none]) (H := H) (t := tYes) (te := tOp xMod (tOp (xAdd K) (tVar 2) (tVar 3)) (tCB (cLen K) (tCons (tVar 0) tNil))) (p := 2) (q := 3) (ws := [2, 3]) (fun _ => true) (fun i => .int (place ns i)) (ev_var (i := 0) rfl) (.inl hq) (by rw [List.length_map]; omega) (fun _ _ => rfl)
      (fun _ _ _ _ _ => et_yes) fun i x H1 e hi _ => by
        obtain ⟨hil, rfl⟩ := getD_of hi
        exact ev_op (ev_op (ev_var rfl) (ev_var rfl) rv_addI) (ev_lenI (evq_of (ev_var rfl) (.inl (ex_l e hq)))) (rv_mod (by omega))
    rw [given_all, List.length_map, show (fun i => V.int (place ns i)) = V.int ∘ place ns from rfl, ← List.map_map] at z
    exact z
  · refine s_ret (v := .bl true) (ev_is (ev_op (ev_lenSet (evs_of (ev_var rfl) (SqL.of h1')) (by rw [List.length_map, List.length_range]; exact h64) ?_) (ev_lenI (evq_of (ev_var rfl) (.inl (ex_l e1 hq)))) rv_eqI) (by rw [List.length_map, List.length_range]; simp)) fun H2 e2 => q H2 (e1.trans e2)
    refine List.pairwise_iff_getElem.mpr fun i j hi hj hij => ?_
    rw [List.length_map, List.length_range] at hi hj
    rw [List.getElem_map, List.getElem_map, List.getElem_range, List.getElem_range]
    exact fun z => absurd (hg i j hi hj z) (by omega)
theorem pure_k08_l_comes_back (h : sp_k08_l_comes_back K c vs H Q E) : t_k08_l_comes_back K c E { nx := fun _ H' => Q .non H', rt := Q } (start ["_law_row", "_law_state", "_law_first", "_law_height"] vs) H := by
  obtain ⟨p, ns, s, rfl, hq, s0, s1, hp, q⟩ := h
  refine q_asg (v := .int s) (ev_var rfl) fun H1 e1 => ?_
  refine q_forQ (b := p) (H0 := H) (xs := ns.map V.int) (ev_var (i := 0) rfl) (.inl hq) e1 (fun i σ' H' => Ex H H' ∧ ∃ st u, σ' = [some (.ref p), some (.int st), some (.int s), u] ∧ 0 ≤ st ∧ st ≤ 511 ∧ PathS st (ns.drop i) s)
    (fun H2 e2 => ⟨e1.trans e2, s, none, rfl, s0, s1, hp⟩) (fun i σ' H' p => p.1) ?_ ?_
  · rintro i x σ' H' hi ⟨eH, st, u, rfl, t0, t1, hw⟩
    obtain ⟨hil, rfl⟩ := getD_of hi
    have ei : ns.drop i = ns.getD i 0 :: ns.drop (i + 1) := by
      rw [List.drop_eq_getElem_cons (by omega), List.getD_eq_getElem?_getD, List.getElem?_eq_getElem (by omega)]
      rfl
    rw [ei] at hw
    generalize ns.getD i 0 = x at hw
    cases hw with
    | cons hm hw =>
    have lets : ∀ {σ : L2.St} {H' : Hp}, σ[1]? = some (some (.int st)) → EvL (tCall (sp_lets K c) [] E0 (tCons (tVar 1) tNil)) σ H' ((letsF st).map V.int) := fun h3 => el_letsS (K := K) (c := c) (ev_var h3) t0 t1
    have ok := step_ok t0 t1 hm
    refine q_when (b := false) (et_is (et_test (ev_opL (xs := (letsF st).map V.int) (ev_var (i := 3) rfl) (lets rfl) fun p H1 hp e1 H2 e2 Q' q' => ⟨p, _, rfl, .inl (SqL.of (e2 _ _ hp)), rfl, flat_all, by rw [in_ints]; exact q' H2 (Ex.refl _)⟩)) (by rw [decide_eq_true hm]; rfl)) (fun z => nomatch z) fun _ H4 e4 => ?_
    exact s_asg (v := .int (thrownF st x)) (ev_thrownS (K := K) (c := c) (ev_var rfl) (ev_var rfl) t0 t1 hm) fun H5 e5 => ⟨(eH.trans e4).trans e5, thrownF st x, some (.int x), rfl, ok.1, ok.2.1, hw⟩
  · rintro σ' H' ⟨eH, st, u, rfl, t0, t1, hw⟩
    rw [List.length_map, List.drop_length] at hw
    cases hw
    exact s_ret (v := .bl true) (ev_is (ev_op (ev_var rfl) (ev_var rfl) rv_eqI) (by simp)) fun H2 e2 => q H2 (eH.trans e2)
theorem pure_k08_l_same (h : sp_k08_l_same K c vs H Q E) : t_k08_l_same K c E { nx := fun _ H' => Q .non H', rt := Q } (start ["_law_cell", "_law_many", "_law_height", "_law_row"] vs) H := by
  obtain ⟨a, m, h, rfl, h1, h2, q⟩ := h
  refine q_asgL (el_l_going (K := K) (c := c) (ev_op (ev_op (ev_var rfl) (ev_op (ev_var rfl) ev_c (rv_mod (by omega))) rv_sub) (ev_var rfl) rv_addI) (ev_var rfl) h1 h2) fun p H1 hp e1 hl => ?_
  exact s_ret (v := .ref p) (ev_var rfl) fun H2 e2 => q p H2 hp (e1.trans e2) (e2 _ _ hl)
theorem pure_k08_l_told (N : Ex08 K c) (h : sp_k08_l_told K c vs H Q E) : t_k08_l_told K c E { nx := fun _ H' => Q .non H', rt := Q } (start ["_law_one", "_law_other", "_law_found"] vs) H := by
  obtain ⟨x, y, s, rfl, h, q⟩ := h
  refine q_asg (v := .non) ev_c fun H1 e1 => ?_
  refine ⟨x, rfl, y, rfl, x, y, rfl, ?_⟩
  have fin : ∀ {H4 : Hp} {u : Option V}, Ex H1 H4 → (tRet (tVar 2) { nx := fun _ H' => Q .non H', rt := Q } [some x, some y, some (.str s)] H4) := fun e4 => s_ret (v := .str s) (ev_var rfl) fun H5 e5 => q H5 ((e1.trans e4).trans e5)
  rcases h with ⟨rfl, hb⟩ | ⟨ns, hr, hg, ⟨rfl, hc⟩ | ⟨hc, ⟨rfl, hb⟩ | ⟨ms, hr', hg', ⟨rfl, hc'⟩ | ⟨rfl, hc', hne⟩⟩⟩⟩
  · exact .inl ⟨bad_ex e1 hb, fun H4 e4 => told_many N.rr (fun _ _ _ => s_asgH (fin (u := none) e4)) (fun z => nomatch z)⟩
  · cases hcl : clashF ns with
    | none => exact absurd hcl hc
    | some ij =>
      obtain ⟨i, j⟩ := ij
      exact .inr ⟨ns, row_ex e1 hr, hg, .inl ⟨i, j, hcl, fun d H4 hd e4 h4 => told_many N.cr (fun z => nomatch z) fun _ => told_many N.cc (fun _ _ _ => s_asgH (fin (u := none) e4)) (fun z => nomatch z)⟩⟩
  · exact .inr ⟨ns, row_ex e1 hr, hg, .inr ⟨hc, .inl ⟨bad_ex e1 hb, fun H4 e4 => told_many N.rr (fun _ _ _ => s_asgH (fin (u := none) e4)) (fun z => nomatch z)⟩⟩⟩
  · cases hcl : clashF ms with
    | none => exact absurd hcl hc'
    | some ij =>
      obtain ⟨i, j⟩ := ij
      exact .inr ⟨ns, row_ex e1 hr, hg, .inr ⟨hc, .inr ⟨ms, row_ex e1 hr', hg', .inl ⟨i, j, hcl, fun d H4 hd e4 h4 => told_many N.cr (fun z => nomatch z) fun _ => told_many N.cc (fun _ _ _ => s_asgH (fin (u := none) e4)) (fun z => nomatch z)⟩⟩⟩⟩
  · exact .inr ⟨ns, row_ex e1 hr, hg, .inr ⟨hc, .inr ⟨ms, row_ex e1 hr', hg', .inr ⟨hc', .inl ⟨hne, fun H4 e4 => told_many N.wr (fun z => nomatch z) fun _ => told_many N.wc (fun z => nomatch z) fun _ => told_many N.ww (fun _ _ _ => s_asgH (fin (u := none) e4)) (fun z => nomatch z)⟩⟩⟩⟩⟩
theorem row_of {ns : List Int} {te : TE} {σ : L2.St} (h : EvQ K te σ H (ns.map V.int)) : EvP (fun v H => Row K H v ns) te σ H := fun H1 e Q q => h H1 e _ fun a H2 e2 hq => q _ H2 e2 ⟨a, rfl, hq⟩
theorem row_mon {ns : List Int} : Mon fun v H => Row K H v ns := fun v H H' e h => row_ex e h
theorem bad_mon : Mon fun v H => Bad K H v := fun v H H' e h => bad_ex e h
theorem ev_told8 {σ : L2.St} {ta tb : TE} {P1 P2 : HP} {s : Str} (ha : EvP P1 ta σ H) (hb : EvP P2 tb σ H) (m : Mon P1) (hk : ∀ x y H', P1 x H' → P2 y H' → Told8 K x y H' s) : Ev (tCall (sp_k08_l_told K c) [] E (tCons ta (tCons tb tNil))) σ H (.str s) := fun H1 e1 Q q =>
  ha H1 e1 _ fun x H2 e2 hx => hb H2 (e1.trans e2) _ fun y H3 e3 hy => ⟨x, y, s, rfl, hk x y H3 (m _ _ _ e3 hx) hy, fun H4 e4 => q H4 ((e2.trans e3).trans e4)⟩
theorem ep_bridge {σ : L2.St} {ta tb : TE} {ns ms : List Int} (ha : EvQ K ta σ H (ns.map V.int)) (hb : EvQ K tb σ H (ms.map V.int)) (hg : Good ns) (hc : clashF ns = none) (hg' : Good ms) (hc' : clashF ms = none) (he : pcI (upS ns) = pcI (upS ms)) :
    EvP (BriP ns ms) (tCall (sp_k08_bridge K c) [] E (tCons ta (tCons tb tNil))) σ H := fun H1 e1 Q q =>
  ha H1 e1 _ fun x H2 e2 hx => hb H2 (e1.trans e2) _ fun y H3 e3 hy => ⟨.ref x, .ref y, rfl, .inr ⟨ns, ⟨x, rfl, ex_q e3 hx⟩, hg, .inr ⟨hc, .inr ⟨ms, ⟨y, rfl, hy⟩, hg', .inr ⟨hc', .inr ⟨he, fun v H4 e4 hv => q v H4 ((e2.trans e3).trans e4) hv⟩⟩⟩⟩⟩⟩
theorem ev_goes_on {σ : L2.St} {ta : TE} {ns : List Int} (ha : EvS K ta σ H (ns.map V.int)) (h1 : 1 ≤ ns.length) (h64 : ns.length < 64) (hg : Goes ns) : Ev (tCall (sp_k08_l_goes_on K c) [] E (tCons ta tNil)) σ H (.bl true) := fun H1 e1 Q q =>
  ha H1 e1 _ fun x H2 e2 hx => ⟨x, ns, rfl, hx, h1, h64, hg, fun H4 e4 => q H4 (e2.trans e4)⟩
theorem ev_comes_back {σ : L2.St} {ta tb : TE} {ns : List Int} {s : Int} (ha : EvS K ta σ H (ns.map V.int)) (hb : ∀ H1, Ex H H1 → Ev tb σ H1 (.int s)) (s0 : 0 ≤ s ∧ s ≤ 511) (hp : PathS s ns s) : Ev (tCall (sp_k08_l_comes_back K c) [] E (tCons ta (tCons tb tNil))) σ H (.bl true) := fun H1 e1 Q q =>
  ha H1 e1 _ fun x H2 e2 hx => hb H2 (e1.trans e2) H2 (Ex.refl _) _ fun H3 e3 => ⟨x, ns, s, rfl, ex_l e3 hx, s0.1, s0.2, hp, fun H4 e4 => q H4 ((e2.trans e3).trans e4)⟩
theorem el_same {σ : L2.St} {ta tb tc : TE} {a m h : Int} (ha : Ev ta σ H (.int a)) (hb : Ev tb σ H (.int m)) (hc : Ev tc σ H (.int h)) (h1 : 1 ≤ m) (h2 : m ≤ 1000) : EvL (tCall (sp_k08_l_same K c) [] E (tCons ta (tCons tb (tCons tc tNil)))) σ H ((going (a - a % 10 + h) m).map V.int) :=
  el_call (ea_cons ha (ea_cons hb (ea_cons hc ea_nil))) fun H1 e Q q _ => ⟨a, m, h, rfl, h1, h2, q⟩
theorem flat_rep8 {m : Nat} {ns : List Int} : (List.replicate m (ns.map V.int)).flatten = ((List.replicate m ns).flatten).map V.int := by
  induction m with
  | zero => rfl
  | succ m ih => rw [List.replicate_succ, List.flatten_cons, ih, List.replicate_succ, List.flatten_cons, List.map_append]
theorem flat_len8 {m : Nat} {ns : List Int} : ((List.replicate m ns).flatten).length = m * ns.length := by
  induction m with
  | zero => simp
  | succ m ih => rw [List.replicate_succ, List.flatten_cons, List.length_append, ih, Nat.succ_mul, Nat.add_comm]
/-- 4 and 3 behind a row land together -/
theorem clash43 {ns : List Int} : clashF (ns ++ [4, 3]) ≠ none := fun z => by
  have g := goes_iff.mp z ns.length (ns.length + 1) (by rw [List.length_append]; show ns.length < ns.length + 2; omega) (by rw [List.length_append]; show ns.length + 1 < ns.length + 2; omega) (by
    unfold place
    rw [List.getD_eq_getElem?_getD, List.getD_eq_getElem?_getD, List.getElem?_append_right (Nat.le_refl _), List.getElem?_append_right (by omega), Nat.sub_self, show ns.length + 1 - ns.length = 1 by omega]
    show ((ns.length : Int) + 4) % _ = (((ns.length + 1 : Nat) : Int) + 3) % _
    rw [show (((ns.length + 1 : Nat) : Int) + 3) = (ns.length : Int) + 4 by omega])
  omega
theorem pure_k08_law (h : sp_k08_law K c vs H Q E) : t_k08_law K c E { nx := fun _ H' => Q .non H', rt := Q } (start ["_law_script", "_law_k", "_law_cell", "_law_draw", "_law_one", "_law_other", "_law_there", "_law_back", "_law_whole", "_law_third"] vs) H := by
  obtain ⟨a, ns, rfl, hs, hl, q⟩ := h
  have hlist : EvL (tOp (xAdd K) (tVar 0) (tLst (tCons (tC (.int 0)) (tCons (tC (.int 1)) tNil)))) (start ["_law_script", "_law_k", "_law_cell", "_law_draw", "_law_one", "_law_other", "_law_there", "_law_back", "_law_whole", "_law_third"] [V.ref a]) H ((ns ++ [0, 1]).map V.int) := by
    rw [List.map_append]
    exact el_cat (evs_of (ev_var rfl) hs) (evs_new (el_lst (ea_cons ev_c (ea_cons ev_c ea_nil)) (by show 2 ≤ 100000; decide))) (by rw [List.length_map]; show ns.length + 2 ≤ 100000; omega)
  refine q_enumN hlist (fun b i σ' H' => H' b = some (.lst ((ns ++ [0, 1]).map V.int)) ∧ Ex H H' ∧ ∃ u1 u2 u3 u4 u5 u6 u7 u8 u9, σ' = [some (.ref a), u1, u2, u3, u4, u5, u6, u7, u8, u9])
    (fun b H1 hb e1 h1 => ⟨h1, e1, none, none, none, none, none, none, none, none, none, rfl⟩) (fun b i σ' H' p => p.1) ?_ ?_
  · rintro b i y σ' H' H2 hi ⟨hlst, eH, u1, u2, u3, u4, u5, u6, u7, u8, u9, rfl⟩ e2
    obtain ⟨hil, rfl⟩ := getD_of hi
    generalize (ns ++ [0, 1]).getD i 0 = cell
    refine q_asg (v := .int (mixed cell i)) (ev_l_mixed (ev_var rfl) (ev_var rfl)) fun H3 e3 => ?_
    have hD0 := mixed_lo cell i
    generalize mixed cell (i : Int) = d at hD0
    have A1 : 1 ≤ 1 + d / 10 % 9 ∧ 1 + d / 10 % 9 ≤ 9 := by omega
    have B1 : 1 ≤ 1 + d / 90 % 9 ∧ 1 + d / 90 % 9 ≤ 9 := by omega
    have C1 : 1 ≤ 1 + d / 9 % 9 ∧ 1 + d / 9 % 9 ≤ 9 := by omega
    have dv : ∀ {σ : L2.St} {H' : Hp} {k : Int} {n : Int}, σ[3]? = some (some (.int d)) → CDiv d k → 0 < n → Ev (tOp xMod (tOp xDiv (tVar 3) (tC (.int k))) (tC (.int n))) σ H' (.int (d / k % n)) := fun h hk hn => ev_op (ev_op (ev_var h) ev_c (rv_div hk)) ev_c (rv_mod hn)
    refine q_asgL (el_same (K := K) (c := c) (ev_var rfl) (ev_op ev_c (dv rfl (by k_caughtB) (by omega)) rv_addI) (ev_op (ev_var rfl) ev_c (rv_mod (by omega))) A1.1 (by omega)) fun p1 H4 hp1 e4 h1 => ?_
    refine q_asgL (el_same (K := K) (c := c) (ev_op (ev_var rfl) ev_c (rv_div (by k_caughtB))) (ev_op ev_c (dv rfl (by k_caughtB) (by omega)) rv_addI) (ev_op (ev_var rfl) ev_c (rv_mod (by omega))) B1.1 (by omega)) fun p2 H5 hp2 e5 h2 => ?_
    have g1 := good_going (a := d - d % 10 + d % 10) A1.1 (by omega)
    have c1 := going_clash (a := d - d % 10 + d % 10) A1.1
    have l1 := going_lenI (a := d - d % 10 + d % 10) A1.1
    have t1 := going_things (a := d - d % 10 + d % 10) A1.1
    have n1 : (pcI (upS (going (d - d % 10 + d % 10) (1 + d / 10 % 9))) : Int) = d % 10 := (going_up A1.1 (by omega)).trans (by omega)
    rw [show (d - d % 10 + d % 10) % 10 = d % 10 by omega] at t1
    have g2 := good_going (a := d / 3 - d / 3 % 10 + d % 10) B1.1 (by omega)
    have c2 := going_clash (a := d / 3 - d / 3 % 10 + d % 10) B1.1
    have l2 := going_lenI (a := d / 3 - d / 3 % 10 + d % 10) B1.1
    have n2 : (pcI (upS (going (d / 3 - d / 3 % 10 + d % 10) (1 + d / 90 % 9))) : Int) = d % 10 := (going_up B1.1 (by omega)).trans (by omega)
    generalize going (d - d % 10 + d % 10) (1 + d / 10 % 9) = R at h1 g1 c1 l1 n1 t1
    generalize going (d / 3 - d / 3 % 10 + d % 10) (1 + d / 90 % 9) = S at h2 g2 c2 l2 n2
    have rowR : ∀ {H' : Hp} {σ : L2.St}, Ex H4 H' → σ[4]? = some (some (.ref p1)) → EvS K (tVar 4) σ H' (R.map V.int) := fun e h0 => evs_of (ev_var h0) (SqL.of (e _ _ h1))
    have rowS : ∀ {H' : Hp} {σ : L2.St}, Ex H5 H' → σ[5]? = some (some (.ref p2)) → EvS K (tVar 5) σ H' (S.map V.int) := fun e h0 => evs_of (ev_var h0) (SqL.of (e _ _ h2))
    have hpc : pcI (upS R) = pcI (upS S) := by omega
    refine q_unp2 (ep_bridge (K := K) (c := c) (evq_s (rowR e5 rfl)) (evq_w (evw_tuple (evq_s (rowS (Ex.refl _) rfl)))) g1 c1 g2 c2 hpc) fun v6 v7 H6 e6 hv6 hv7 => ?_
    obtain ⟨p6, rfl, h6⟩ := hv6
    obtain ⟨p7, rfl, h7⟩ := hv7
    have w1 := way_short (upS_ok g1).1 (upS_ok g1).2 (upS_ok g2).1 (upS_ok g2).2 hpc
    have w2 := way_short (upS_ok g2).1 (upS_ok g2).2 (upS_ok g1).1 (upS_ok g1).2 hpc.symm
    generalize wayF (upS R) (upS S) = X at h6 w1
    generalize wayF (upS S) (upS R) = Y at h7 w2
    have K1 : 0 ≤ 1 + d / 7 % 2 ∧ 1 + d / 7 % 2 ≤ 2 := by omega
    have K2 : 0 ≤ d / 14 % 3 ∧ d / 14 % 3 ≤ 2 := by omega
    generalize hk1 : (1 + d / 7 % 2).toNat = k1
    generalize hk2 : (d / 14 % 3).toNat = k2
    have m1 : k1 * R.length ≤ 2 * 9 := Nat.mul_le_mul (by omega) (by omega)
    have m2 : k2 * S.length ≤ 2 * 9 := Nat.mul_le_mul (by omega) (by omega)
    have hw : PathS (upS R) ((((List.replicate k1 R).flatten ++ X) ++ (List.replicate k2 S).flatten) ++ Y) (upS R) := (((walk_reps g1 c1 k1).app w1.1).app (walk_reps g2 c2 k2)).app w2.1
    have hwl : ((((List.replicate k1 R).flatten ++ X) ++ (List.replicate k2 S).flatten) ++ Y).length = k1 * R.length + X.length + k2 * S.length + Y.length := by
      rw [List.length_append, List.length_append, List.length_append, flat_len8, flat_len8]
    have hw1 : 1 * 1 ≤ k1 * R.length := Nat.mul_le_mul (by omega) (by omega)
    refine q_asgL (xs := ((((List.replicate k1 R).flatten ++ X) ++ (List.replicate k2 S).flatten) ++ Y).map V.int) ?_ fun p8 H8 hp8 e8 h8 => ?_
    · rw [List.map_append, List.map_append, List.map_append, ← flat_rep8, ← flat_rep8]
      have L1 : ((List.replicate k1 (R.map V.int)).flatten).length = k1 * R.length := by rw [flat_rep8, List.length_map, flat_len8]
      have L2' : ((List.replicate k2 (S.map V.int)).flatten).length = k2 * S.length := by rw [flat_rep8, List.length_map, flat_len8]
      have r1 := el_repV (K := K) (te := tVar 4) (tb := tOp (xAdd K) (tC (.int 1)) (tOp xMod (tOp xDiv (tVar 3) (tC (.int 7))) (tC (.int 2)))) (k := 1 + d / 7 % 2) (ev_var (i := 4) (σ := [some (.ref a), some (.int (i : Int)), some (.int cell), some (.int d), some (.ref p1), some (.ref p2), some (.ref p6), some (.ref p7), u8, u9]) rfl) (e6 _ _ (e5 _ _ h1)) (fun _ _ => ev_op ev_c (dv rfl (by k_caughtB) (by omega)) rv_addI) (by omega) (by rw [List.length_map, hk1, Nat.mul_comm]; omega)
      have r2 := el_repV (K := K) (te := tVar 5) (tb := tOp xMod (tOp xDiv (tVar 3) (tC (.int 14))) (tC (.int 3))) (k := d / 14 % 3) (ev_var (i := 5) (σ := [some (.ref a), some (.int (i : Int)), some (.int cell), some (.int d), some (.ref p1), some (.ref p2), some (.ref p6), some (.ref p7), u8, u9]) rfl) (e6 _ _ h2) (fun _ _ => dv rfl (by k_caughtB) (by omega)) (by omega) (by rw [List.length_map, hk2, Nat.mul_comm]; omega)
      rw [hk1] at r1
      rw [hk2] at r2
      exact el_cat (evs_new (el_cat (evs_new (el_cat (evs_new r1) (evs_of (ev_var rfl) (SqL.of h6)) (by rw [L1, List.length_map]; omega))) (evs_new r2) (by rw [List.length_append, L1, L2', List.length_map]; omega))) (evs_of (ev_var rfl) (SqL.of h7)) (by rw [List.length_append, List.length_append, L1, L2', List.length_map, List.length_map]; omega)
    have hW := path_goes hw (upS_ok g1).1 (upS_ok g1).2 (by rw [hwl]; omega)
    have h1W : 1 ≤ ((((List.replicate k1 R).flatten ++ X) ++ (List.replicate k2 S).flatten) ++ Y).length := by rw [hwl]; omega
    have h64W : ((((List.replicate k1 R).flatten ++ X) ++ (List.replicate k2 S).flatten) ++ Y).length < 64 := by rw [hwl]; omega
    generalize (((List.replicate k1 R).flatten ++ X) ++ (List.replicate k2 S).flatten) ++ Y = W at h8 hw hW h1W h64W
    have e68 := e6.trans e8
    refine q_when (b := false) (et_is (et_or (a := false) (et_is (et_not (et_B (ev_goes_on (K := K) (c := c) (evs_of (ev_var rfl) (SqL.of h8)) h1W h64W hW))) rfl) fun _ => et_or (a := false) (et_is (et_not (et_B (ev_comes_back (K := K) (c := c) (s := upS R) (evs_of (ev_var rfl) (SqL.of h8)) (fun H' e' => ev_state_at0 (K := K) (c := c) (evq_s (rowR ((e5.trans e68).trans e') rfl)) g1 c1) (upS_ok g1) hw))) rfl) fun _ =>
      et_test (ev_op (ev_max2 (ev_lenI (ns := X) (evq_of (ev_var rfl) (.inl (SqL.of (e8 _ _ h6))))) (ev_lenI (ns := Y) (evq_of (ev_var rfl) (.inl (SqL.of (e8 _ _ h7)))))) ev_c rv_gt)) (by
        rw [Bool.false_or, Bool.false_or, decide_eq_false_iff_not]
        split <;> omega)) (fun z => nomatch z) fun _ H9 e9 => ?_
    have T0 : 0 ≤ (d % 10 + 1 + d / 11 % 9) % 10 ∧ (d % 10 + 1 + d / 11 % 9) % 10 ≤ 9 ∧ (d % 10 + 1 + d / 11 % 9) % 10 ≠ d % 10 := by omega
    refine q_asgL (el_same (K := K) (c := c) (ev_op (ev_var rfl) ev_c (rv_div (by k_caughtB))) (ev_op ev_c (dv rfl (by k_caughtB) (by omega)) rv_addI) (ev_op (ev_op (ev_op (ev_op (ev_var rfl) ev_c (rv_mod (by omega))) ev_c rv_addI) (dv rfl (by k_caughtB) (by omega)) rv_addI) ev_c (rv_mod (by omega))) C1.1 (by omega)) fun p3 H10 hp3 e10 h3 => ?_
    generalize (d % 10 + 1 + d / 11 % 9) % 10 = h at T0 h3
    have g3 := good_going (a := d / 5 - d / 5 % 10 + h) C1.1 (by omega)
    have c3 := going_clash (a := d / 5 - d / 5 % 10 + h) C1.1
    have t3 := going_things (a := d / 5 - d / 5 % 10 + h) C1.1
    have n3 : (pcI (upS (going (d / 5 - d / 5 % 10 + h) (1 + d / 9 % 9))) : Int) = h := (going_up C1.1 (by omega)).trans (by omega)
    rw [show (d / 5 - d / 5 % 10 + h) % 10 = h by omega] at t3
    generalize going (d / 5 - d / 5 % 10 + h) (1 + d / 9 % 9) = T at h3 g3 c3 n3 t3
    have rowT : ∀ {H' : Hp} {σ : L2.St}, Ex H10 H' → σ[9]? = some (some (.ref p3)) → EvS K (tVar 9) σ H' (T.map V.int) := fun e h0 => evs_of (ev_var h0) (SqL.of (e _ _ h3))
    have e510 := (e68.trans e9).trans e10
    have e410 := e5.trans e510
    have wayRT : ∀ x y H', Row K H' x R → Row K H' y T → Told8 K x y H' "way" := fun x y H' h h' => .inr ⟨R, h, g1, .inr ⟨c1, .inr ⟨T, h', g3, .inr ⟨rfl, c3, by omega⟩⟩⟩⟩
    refine q_when (b := false) (et_is (et_or (a := false) (et_is (et_test (ev_op (ev_things (K := K) (c := c) (evq_s (rowT (Ex.refl _) rfl)) g3 c3) (ev_things (K := K) (c := c) (evq_s (rowR e410 rfl)) g1 c1) rv_eqI)) (by rw [t1, t3, decide_eq_false_iff_not]; omega)) fun _ =>
      et_test (ev_op (ev_told8 (K := K) (c := c) (row_of (evq_s (rowR e410 rfl))) (row_of (evq_s (rowT (Ex.refl _) rfl))) row_mon wayRT) ev_c (rv_neV rfl))) (by simp)) (fun z => nomatch z) fun _ H11 e11 => ?_
    have e411 := e410.trans e11
    have g43 : Good (R ++ [4, 3]) := ⟨by rw [List.length_append]; show 1 ≤ R.length + 2; omega, by rw [List.length_append]; show R.length + 2 ≤ 40; omega, fun x hx => by
      rcases List.mem_append.mp hx with h | h
      · exact g1.2.2 x h
      · simp at h
        omega⟩
    have g54 : Good [5, 4] := ⟨by decide, by decide, fun x hx => by simp at hx; omega⟩
    have k54 : clashF [5, 4] ≠ none := by decide
    have row54 : ∀ {σ : L2.St} {H' : Hp}, EvP (fun v H => Row K H v [5, 4]) (tLst (tCons (tC (.int 5)) (tCons (tC (.int 4)) tNil))) σ H' := row_of (evq_s (evs_new (el_lst (ea_cons ev_c (ea_cons ev_c ea_nil)) (by show 2 ≤ 100000; decide))))
    have bad10 : ∀ {σ : L2.St} {H' : Hp}, EvP (fun v H => Bad K H v) (tLst (tCons (tC (.int 10)) tNil)) σ H' := (evp_l (el_lst (ea_cons ev_c ea_nil) (by show 1 ≤ 100000; decide))).weak fun v H' _ ⟨p, ev, hp⟩ => by
      subst ev
      exact bad_app (ns := []) (m := 10) (by decide) hp
    have bad0 : ∀ {σ : L2.St} {H' : Hp}, EvP (fun v H => Bad K H v) (tLst tNil) σ H' := (evp_l (el_lst ea_nil (by show 0 ≤ 100000; decide))).weak fun v H' _ ⟨p, ev, hp⟩ => by
      subst ev
      exact .inr ⟨p, [], rfl, .inl (SqL.of hp), fun y hy => absurd hy List.not_mem_nil, fun z => absurd z.1 (by decide)⟩
    have row43 : ∀ {σ : L2.St} {H' : Hp}, Ex H4 H' → σ[4]? = some (some (.ref p1)) → EvP (fun v H => Row K H v (R ++ [4, 3])) (tOp (xAdd K) (tVar 4) (tLst (tCons (tC (.int 4)) (tCons (tC (.int 3)) tNil)))) σ H' := fun e h0 => row_of (evq_s (evs_new (by
      rw [List.map_append]
      exact el_cat (rowR e h0) (evs_new (el_lst (ea_cons ev_c (ea_cons ev_c ea_nil)) (by show 2 ≤ 100000; decide))) (by rw [List.length_map]; show R.length + 2 ≤ 100000; omega))))
    have any4 : ∀ {σ : L2.St} {H' : Hp}, EvP (fun _ _ => True) (tLst (tCons (tC (.int 4)) (tCons (tC (.int 10)) tNil))) σ H' := (evp_l (el_lst (ea_cons ev_c (ea_cons ev_c ea_nil)) (by show 2 ≤ 100000; decide))).weak fun _ _ _ _ => trivial
    refine q_when (b := false) (et_is (et_or (a := false) (et_is (et_test (ev_opL (xs := [V.str "clash", .str "way"]) (ev_told8 (K := K) (c := c) (row43 e411 rfl) (row_of (evq_s (rowT e11 rfl))) row_mon fun x y H' h h' => .inr ⟨_, h, g43, .inl ⟨rfl, clash43⟩⟩) (el_lst (ea_cons ev_c (ea_cons ev_c ea_nil)) (by show 2 ≤ 100000; decide)) fun p H1 hp e1 H2 e2 Q' q' => ⟨p, _, rfl, .inl (SqL.of (e2 _ _ hp)), rfl, rfl, q' H2 (Ex.refl _)⟩)) rfl) fun _ =>
      et_test (ev_op (ev_told8 (K := K) (c := c) row54 any4 row_mon fun x y H' h h' => .inr ⟨_, h, g54, .inl ⟨rfl, k54⟩⟩) ev_c (rv_neV rfl))) (by simp)) (fun z => nomatch z) fun _ H12 e12 => ?_
    have e412 := e411.trans e12
    refine s_when (b := false) (et_is (et_or (a := false) (et_is (et_test (ev_op (ev_told8 (K := K) (c := c) bad0 row54 bad_mon fun x y H' h h' => .inl ⟨rfl, h⟩) ev_c (rv_neV rfl))) (by simp)) fun _ => et_or (a := false) (et_is (et_test (ev_op (ev_told8 (K := K) (c := c) (row_of (evq_s (rowR e412 rfl))) bad10 row_mon fun x y H' h h' => .inr ⟨R, h, g1, .inr ⟨c1, .inl ⟨rfl, h'⟩⟩⟩) ev_c (rv_neV rfl))) (by simp)) fun _ =>
      et_test (ev_op (ev_told8 (K := K) (c := c) (row_of (evq_s (rowT (e11.trans e12) rfl))) row54 row_mon fun x y H' h h' => .inr ⟨T, h, g3, .inr ⟨c3, .inr ⟨_, h', g54, .inl ⟨rfl, k54⟩⟩⟩⟩) ev_c (rv_neV rfl))) (by simp)) (fun z => nomatch z) fun _ H13 e13 => ?_
    have all := ((e2.trans e3).trans e4).trans (e412.trans e13)
    exact ⟨all _ _ hlst, eH.trans all, _, _, _, _, _, _, _, _, _, rfl⟩
  · rintro b σ' H' ⟨_, eH, u1, u2, u3, u4, u5, u6, u7, u8, u9, rfl⟩
    exact s_ret (v := .bl true) ev_c fun H2 e2 => q H2
end
end Tr

namespace Tie
open PySem L2 PySem.Spec PyProof.Rows Evl Tr
def top (i : Nat) : Stmt := PySem.Challenge.pw_tossrow_k08_whole_joined_rows.main.body.getD i (.Pass ⟨0, 0, 0, 0⟩)
abbrev s_l_mixed : Stmt := top 28
theorem sc_l_mixed : FnScope ["_law_cell", "_law_k", "_law_drawn"] ["_law_cell", "_law_k"] (defScope s_l_mixed) := ⟨rfl, rfl, rfl, by decide +kernel, rfl, by decide +kernel, by decide +kernel⟩
abbrev s_l_mixed_up : Stmt := top 31
theorem sc_l_mixed_up : FnScope ["_law_row", "_law_cell", "_law_many", "_law_k", "_law_draw", "_law_one", "_law_other", "_law_heights"] ["_law_row", "_law_cell"] (defScope s_l_mixed_up) := ⟨rfl, rfl, rfl, by decide +kernel, rfl, by decide +kernel, by decide +kernel⟩
abbrev s_l_going : Stmt := top 32
theorem sc_l_going : FnScope ["_law_cell", "_law_many", "_law_row", "_law_k", "_law_by"] ["_law_cell", "_law_many"] (defScope s_l_going) := ⟨rfl, rfl, rfl, by decide +kernel, rfl, by decide +kernel, by decide +kernel⟩
abbrev s_k08_l_same : Stmt := top 36
theorem sc_k08_l_same : FnScope ["_law_cell", "_law_many", "_law_height", "_law_row"] ["_law_cell", "_law_many", "_law_height"] (defScope s_k08_l_same) := ⟨rfl, rfl, rfl, by decide +kernel, rfl, by decide +kernel, by decide +kernel⟩
abbrev s_is_number : Stmt := top 11
theorem sc_is_number : FnScope ["thing"] ["thing"] (defScope s_is_number) := ⟨rfl, rfl, rfl, by decide +kernel, rfl, by decide +kernel, by decide +kernel⟩
abbrev s_is_height : Stmt := top 12
theorem sc_is_height : FnScope ["thing"] ["thing"] (defScope s_is_height) := ⟨rfl, rfl, rfl, by decide +kernel, rfl, by decide +kernel, by decide +kernel⟩
abbrev s_need_row : Stmt := top 13
theorem sc_need_row : FnScope ["thing", "height"] ["thing"] (defScope s_need_row) := ⟨rfl, rfl, rfl, by decide +kernel, rfl, by decide +kernel, by decide +kernel⟩
abbrev s_clash : Stmt := top 14
theorem sc_clash : FnScope ["row", "met", "turn", "height", "place"] ["row"] (defScope s_clash) := ⟨rfl, rfl, rfl, by decide +kernel, rfl, by decide +kernel, by decide +kernel⟩
abbrev s_need_going : Stmt := top 15
theorem sc_need_going : FnScope ["row", "pair"] ["row"] (defScope s_need_going) := ⟨rfl, rfl, rfl, by decide +kernel, rfl, by decide +kernel, by decide +kernel⟩
abbrev s_state_at : Stmt := top 22
theorem sc_state_at : FnScope ["row", "turn", "state", "back", "height"] ["row", "turn"] (defScope s_state_at) := ⟨rfl, rfl, rfl, by decide +kernel, rfl, by decide +kernel, by decide +kernel⟩
abbrev s_need_state : Stmt := top 19
theorem sc_need_state : FnScope ["thing"] ["thing"] (defScope s_need_state) := ⟨rfl, rfl, rfl, by decide +kernel, rfl, by decide +kernel, by decide +kernel⟩
abbrev s_bits_in : Stmt := top 24
theorem sc_bits_in : FnScope ["state", "many"] ["state"] (defScope s_bits_in) := ⟨rfl, rfl, rfl, by decide +kernel, rfl, by decide +kernel, by decide +kernel⟩
abbrev s_lets : Stmt := top 20
theorem sc_lets : FnScope ["state", "height"] ["state"] (defScope s_lets) := ⟨rfl, rfl, rfl, by decide +kernel, rfl, by decide +kernel, by decide +kernel⟩
abbrev s_thrown : Stmt := top 21
theorem sc_thrown : FnScope ["state", "height"] ["state", "height"] (defScope s_thrown) := ⟨rfl, rfl, rfl, by decide +kernel, rfl, by decide +kernel, by decide +kernel⟩
abbrev s_way : Stmt := top 25
theorem sc_way : FnScope ["one", "other", "found", "waiting", "at", "state", "height", "behind"] ["one", "other"] (defScope s_way) := ⟨rfl, rfl, rfl, by decide +kernel, rfl, by decide +kernel, by decide +kernel⟩
abbrev s_k08_bridge : Stmt := top 26
theorem sc_k08_bridge : FnScope ["one", "other", "first", "second"] ["one", "other"] (defScope s_k08_bridge) := ⟨rfl, rfl, rfl, by decide +kernel, rfl, by decide +kernel, by decide +kernel⟩
abbrev s_k08_l_comes_back : Stmt := top 35
theorem sc_k08_l_comes_back : FnScope ["_law_row", "_law_state", "_law_first", "_law_height"] ["_law_row", "_law_state"] (defScope s_k08_l_comes_back) := ⟨rfl, rfl, rfl, by decide +kernel, rfl, by decide +kernel, by decide +kernel⟩
abbrev s_k08_l_goes_on : Stmt := top 34
theorem sc_k08_l_goes_on : FnScope ["_law_row", "_law_places", "_law_turn", "_law_height"] ["_law_row"] (defScope s_k08_l_goes_on) := ⟨rfl, rfl, rfl, by decide +kernel, rfl, by decide +kernel, by decide +kernel⟩
abbrev s_k08_l_told : Stmt := top 37
theorem sc_k08_l_told : FnScope ["_law_one", "_law_other", "_law_found"] ["_law_one", "_law_other"] (defScope s_k08_l_told) := ⟨rfl, rfl, rfl, by decide +kernel, rfl, by decide +kernel, by decide +kernel⟩
abbrev s_things : Stmt := top 16
theorem sc_things : FnScope ["row"] ["row"] (defScope s_things) := ⟨rfl, rfl, rfl, by decide +kernel, rfl, by decide +kernel, by decide +kernel⟩
abbrev s_k08_law : Stmt := top 38
theorem sc_k08_law : FnScope ["_law_script", "_law_k", "_law_cell", "_law_draw", "_law_one", "_law_other", "_law_there", "_law_back", "_law_whole", "_law_third"] ["_law_script"] (defScope s_k08_law) := ⟨rfl, rfl, rfl, by decide +kernel, rfl, by decide +kernel, by decide +kernel⟩
abbrev s_i_Clash : Stmt := inClass (top 3) 0
theorem sc_i_Clash : FnScope ["self", "one", "other"] ["self", "one", "other"] (defScope s_i_Clash) := ⟨rfl, rfl, rfl, by decide +kernel, rfl, by decide +kernel, by decide +kernel⟩
structure Txt (P : Program) (w : World) (K : PySem.W.Frag) (mg : Str → Option Value) (base : Heap) (c : Cs) : Prop where
  b_bool : mg "bool" = none
  b_enumerate : mg "enumerate" = none
  b_int : mg "int" = none
  b_isinstance : mg "isinstance" = none
  b_len : mg "len" = none
  b_list : mg "list" = none
  b_max : mg "max" = none
  b_min : mg "min" = none
  b_range : mg "range" = none
  b_set : mg "set" = none
  b_sum : mg "sum" = none
  b_tuple : mg "tuple" = none
  k_MOST_HIGH : ∃ t, mg "MOST_HIGH" = some (.int 9 t)
  k_MOST_LONG : ∃ t, mg "MOST_LONG" = some (.int 40 t)
  k_MOST_STATE : ∃ t, mg "MOST_STATE" = some (.int 511 t)
  x_Clash : ExK K mg "Clash" c.clash
  x_NoRow : ExP K mg "NoRow" c.norow
  x_NoState : ExP K mg "NoState" c.nostate
  x_NoThrow : ExP K mg "NoThrow" c.nothrow
  x_NoTurn : ExP K mg "NoTurn" c.noturn
  x_NoWay : ExP K mg "NoWay" c.noway
  x_TossError : ExK K mg "TossError" c.toss
  r_Clash : Rais2 P w K mg base "Clash" c.clash "one" "other"
theorem in_Clash {P : Program} {w : World} {K : PySem.W.Frag} {mg : Str → Option Value} {base : Heap} {c : Cs} {fI : Addr} {fd : FuncData} (X : ExI K mg "Clash" c.clash fI) (h0 : PySem.W.findIn K (.ref c.clash) "one" = some none) (h1 : PySem.W.findIn K (.ref c.clash) "other" = some none) (B : ExB K mg "TossError" c.toss) (F : Fun K "__init__" "Clash.__init__" s_i_Clash fI fd) (b : Binds K fd ["self", "one", "other"] []) : Rais2 P w K mg base "Clash" c.clash "one" "other" :=
  ⟨fI, fd, X, h0, h1, F.okX (k := 0) sc_i_Clash (fun vs H Q E h => by obtain ⟨_, _, _, _, rfl, _⟩ := h; rfl) (fun cdv A outer s H vs Q E hr h => ⟨t_init2 K "two turns clash" "one" "other",
    pss_cons (ps_expr (pe_baseinit B rfl (pa_cons (pv 0) (pa_cons pe_str pa_nil)))) (pss_cons (ps_ost (pv 0) (pv 1)) (pss_one (ps_ost (pv 0) (pv 2)))),
    pure_init2 h⟩), b⟩
section
variable {P : Program} {w : World} {K : PySem.W.Frag} {mg : Str → Option Value} {base : Heap} {c : Cs}
theorem pd_l_mixed {f : Addr} (T : Txt P w K mg base c) (D : DefAt K mg "_law_mixed" s_l_mixed ["_law_cell", "_law_k"] f)  : PD P w K mg base 1 "_law_mixed" f ["_law_cell", "_law_k"] (sp_l_mixed K c) :=
  D.keeps (k := 0) sc_l_mixed (fun vs H Q E h => by
    first | (obtain ⟨_, rfl, _⟩ := h; rfl) | (obtain ⟨_, _, rfl, _⟩ := h; rfl) | (obtain ⟨_, _, _, rfl, _⟩ := h; rfl) | (obtain ⟨_, _, _, _, rfl, _⟩ := h; rfl) | (obtain ⟨_, _, _, _, _, rfl, _⟩ := h; rfl) | (obtain ⟨_, _, _, _, _, _, rfl, _⟩ := h; rfl) | (obtain ⟨_, _, _, _, _, _, _, rfl, _⟩ := h; rfl) | (obtain ⟨_, _, _, _, _, _, _, _, rfl, _⟩ := h; rfl)) (fun cdv A outer s H vs Q E hr h => ⟨t_l_mixed K c E,
    (pss_cons (ps_set (i := 2) sc_l_mixed.nd rfl (Or.inl rfl) (pe_op opMod (pe_op opMul (pe_op opAdd (pv 0) (pe_op opMul pe_int (pv 1))) pe_int) pe_int))
      (pss_one (ps_ret (pe_op opMod (pe_op opMul (pv 2) (pe_op opAdd (pe_op opAdd (pv 2) (pe_op opMul pe_int (pv 1))) pe_int)) pe_int)))),
    pure_l_mixed h⟩)
theorem pd_l_mixed_up {f : Addr} (T : Txt P w K mg base c) (D : DefAt K mg "_law_mixed_up" s_l_mixed_up ["_law_row", "_law_cell"] f) {f_l_mixed : Addr} (h_l_mixed : PD P w K mg base 1 "_law_mixed" f_l_mixed ["_law_cell", "_law_k"] (sp_l_mixed K c)) : PD P w K mg base 2 "_law_mixed_up" f ["_law_row", "_law_cell"] (sp_l_mixed_up K c) :=
  D.keeps (k := 1) sc_l_mixed_up (fun vs H Q E h => by
    first | (obtain ⟨_, rfl, _⟩ := h; rfl) | (obtain ⟨_, _, rfl, _⟩ := h; rfl) | (obtain ⟨_, _, _, rfl, _⟩ := h; rfl) | (obtain ⟨_, _, _, _, rfl, _⟩ := h; rfl) | (obtain ⟨_, _, _, _, _, rfl, _⟩ := h; rfl) | (obtain ⟨_, _, _, _, _, _, rfl, _⟩ := h; rfl) | (obtain ⟨_, _, _, _, _, _, _, rfl, _⟩ := h; rfl) | (obtain ⟨_, _, _, _, _, _, _, _, rfl, _⟩ := h; rfl)) (fun cdv A outer s H vs Q E hr h => ⟨t_l_mixed_up K c E,
    (pss_cons (ps_set (i := 2) sc_l_mixed_up.nd rfl (Or.inl rfl) (pe_callB fnLen (by rfl) T.b_len (by decide +kernel) (pa_cons (pv 0) pa_nil)))
      (pss_one (ps_for (passes_of rfl) rfl (pi_range1 rfl T.b_range (pa_cons (pe_op opMul (pe_op opMul pe_int (pv 2)) (pe_callTy fnInt (by rfl) T.b_int (by decide +kernel) (pa_cons (pe_cmpR opGt (pv 2) pe_int (nomark _)) pa_nil))) pa_nil)) (pg_name (i := 3) sc_l_mixed_up.nd rfl (Or.inl rfl)) (pss_cons (ps_set (i := 4) sc_l_mixed_up.nd rfl (Or.inl rfl) (pe_pd h_l_mixed (hr.mono (by decide)) passL rfl (pa_cons (pv 1) (pa_cons (pv 3) pa_nil))))
      (pss_cons (ps_set (i := 5) sc_l_mixed_up.nd rfl (Or.inl rfl) (pe_op opMod (pv 4) (pv 2)))
      (pss_cons (ps_set (i := 6) sc_l_mixed_up.nd rfl (Or.inl rfl) (pe_op opMod (pe_op opAdd (pe_op opAdd (pv 5) pe_int) (pe_op opMod (pe_op opDiv (pv 4) pe_int) (pe_op opSub (pv 2) pe_int))) (pv 2)))
      (pss_cons (ps_if (pt_cmpR opGt (pv 5) (pv 6) (nomark _)) (pss_one (ps_par (i := 5) (j := 6) rfl sc_l_mixed_up.nd rfl rfl (by decide) rfl rfl (pa_cons (pv 6) (pa_cons (pv 5) pa_nil)) (by rfl))) pss_nil)
      (pss_cons (ps_set (i := 7) sc_l_mixed_up.nd rfl (Or.inl rfl) (pe_tup (pa_cons (pe_op opAdd (pe_op opSub (pv 6) (pv 5)) (pe_ix ix_seq (pv 0) (pv 6) (fun _ _ => rfl))) (pa_cons (pe_op opAdd (pe_op opSub (pe_ix ix_seq (pv 0) (pv 5) (fun _ _ => rfl)) (pv 6)) (pv 5)) pa_nil))))
      (pss_one (ps_if (PW.pt (pw_and (pt_cmpR opLe pe_int (pe_callB (fnMin rfl) (by rfl) T.b_min (by decide +kernel) (pa_cons (pv 7) pa_nil)) (nomark _)) (pw_and1 (pt_cmpR opLt (pe_callB (fnMax rfl) (by rfl) T.b_max (by decide +kernel) (pa_cons (pv 7) pa_nil)) pe_int (nomark _))))) (pss_one (ps_asg (pv 7) (pg_tup rfl (pgs_cons (pg_sub (pv 0) (pv 5) set_list) (pgs_cons (pg_sub (pv 0) (pv 6) set_list) pgs_nil))))) pss_nil)))))))))),
    pure_l_mixed_up h⟩)
theorem pd_l_going (T : Txt P w K mg base c) (D : DefAt K mg "_law_going" s_l_going ["_law_cell", "_law_many"] c.f_l_going) {f_l_mixed_up : Addr} (h_l_mixed_up : PD P w K mg base 2 "_law_mixed_up" f_l_mixed_up ["_law_row", "_law_cell"] (sp_l_mixed_up K c)) {f_l_mixed : Addr} (h_l_mixed : PD P w K mg base 1 "_law_mixed" f_l_mixed ["_law_cell", "_law_k"] (sp_l_mixed K c)) : PD P w K mg base 3 "_law_going" c.f_l_going ["_law_cell", "_law_many"] (sp_l_going K c) :=
  D.keeps (k := 2) sc_l_going (fun vs H Q E h => by
    first | (obtain ⟨_, rfl, _⟩ := h; rfl) | (obtain ⟨_, _, rfl, _⟩ := h; rfl) | (obtain ⟨_, _, _, rfl, _⟩ := h; rfl) | (obtain ⟨_, _, _, _, rfl, _⟩ := h; rfl) | (obtain ⟨_, _, _, _, _, rfl, _⟩ := h; rfl) | (obtain ⟨_, _, _, _, _, _, rfl, _⟩ := h; rfl) | (obtain ⟨_, _, _, _, _, _, _, rfl, _⟩ := h; rfl) | (obtain ⟨_, _, _, _, _, _, _, _, rfl, _⟩ := h; rfl)) (fun cdv A outer s H vs Q E hr h => ⟨t_l_going K c E,
    (pss_cons (ps_set (i := 2) sc_l_going.nd rfl (Or.inl rfl) (pe_op opMul (pe_lst (pa_cons (pe_op opMod (pv 0) pe_int) pa_nil)) (pv 1)))
      (pss_cons (ps_for (passes_of rfl) rfl (pi_range1 rfl T.b_range (pa_cons pe_int pa_nil)) (pg_name (i := 3) sc_l_going.nd rfl (Or.inl rfl)) (pss_cons (ps_expr (pe_pd h_l_mixed_up (hr.mono (by decide)) passL rfl (pa_cons (pv 2) (pa_cons (pe_pd h_l_mixed (hr.mono (by decide)) passL rfl (pa_cons (pv 0) (pa_cons (pe_op opAdd pe_int (pv 3)) pa_nil))) pa_nil))))
      (pss_cons (ps_set (i := 4) sc_l_going.nd rfl (Or.inl rfl) (pe_op opMod (pe_pd h_l_mixed (hr.mono (by decide)) passL rfl (pa_cons (pv 0) (pa_cons (pe_op opAdd pe_int (pv 3)) pa_nil))) (pv 1)))
      (pss_one (ps_set (i := 2) sc_l_going.nd rfl (Or.inl rfl) (pe_op opAdd (pe_slice opSl (pv 2) (po_some (pv 4)) po_none) (pe_slice opSl (pv 2) po_none (po_some (pv 4)))))))))
      (pss_one (ps_ret (pv 2))))),
    pure_l_going h⟩)
theorem pd_k08_l_same {f : Addr} (T : Txt P w K mg base c) (D : DefAt K mg "_law_same" s_k08_l_same ["_law_cell", "_law_many", "_law_height"] f) (h_l_going : PD P w K mg base 3 "_law_going" c.f_l_going ["_law_cell", "_law_many"] (sp_l_going K c)) : PD P w K mg base 4 "_law_same" f ["_law_cell", "_law_many", "_law_height"] (sp_k08_l_same K c) :=
  D.keeps (k := 3) sc_k08_l_same (fun vs H Q E h => by
    first | (obtain ⟨_, rfl, _⟩ := h; rfl) | (obtain ⟨_, _, rfl, _⟩ := h; rfl) | (obtain ⟨_, _, _, rfl, _⟩ := h; rfl) | (obtain ⟨_, _, _, _, rfl, _⟩ := h; rfl) | (obtain ⟨_, _, _, _, _, rfl, _⟩ := h; rfl) | (obtain ⟨_, _, _, _, _, _, rfl, _⟩ := h; rfl) | (obtain ⟨_, _, _, _, _, _, _, rfl, _⟩ := h; rfl) | (obtain ⟨_, _, _, _, _, _, _, _, rfl, _⟩ := h; rfl)) (fun cdv A outer s H vs Q E hr h => ⟨t_k08_l_same K c E,
    (pss_cons (ps_set (i := 3) sc_k08_l_same.nd rfl (Or.inl rfl) (pe_pd h_l_going (hr.mono (by decide)) passL rfl (pa_cons (pe_op opAdd (pe_op opSub (pv 0) (pe_op opMod (pv 0) pe_int)) (pv 2)) (pa_cons (pv 1) pa_nil))))
      (pss_one (ps_ret (pv 3)))),
    pure_k08_l_same h⟩)
theorem pd_is_number {f : Addr} (T : Txt P w K mg base c) (D : DefAt K mg "is_number" s_is_number ["thing"] f)  : PD P w K mg base 1 "is_number" f ["thing"] (sp_is_number K c) :=
  D.keeps (k := 0) sc_is_number (fun vs H Q E h => by
    first | (obtain ⟨_, rfl, _⟩ := h; rfl) | (obtain ⟨_, _, rfl, _⟩ := h; rfl) | (obtain ⟨_, _, _, rfl, _⟩ := h; rfl) | (obtain ⟨_, _, _, _, rfl, _⟩ := h; rfl) | (obtain ⟨_, _, _, _, _, rfl, _⟩ := h; rfl) | (obtain ⟨_, _, _, _, _, _, rfl, _⟩ := h; rfl) | (obtain ⟨_, _, _, _, _, _, _, rfl, _⟩ := h; rfl) | (obtain ⟨_, _, _, _, _, _, _, _, rfl, _⟩ := h; rfl)) (fun cdv A outer s H vs Q E hr h => ⟨t_is_number K c E,
    (pss_one (ps_ret (pe_and (pe_callB fnIsi (by rfl) T.b_isinstance (by decide +kernel) (pa_cons (pv 0) (pa_cons (pe_bty T.b_int (by decide +kernel) rfl) pa_nil))) (pe_one (pe_not (pe_callB fnIsi (by rfl) T.b_isinstance (by decide +kernel) (pa_cons (pv 0) (pa_cons (pe_bty T.b_bool (by decide +kernel) rfl) pa_nil)))))))),
    pure_is_number h⟩)
theorem pd_is_height {f : Addr} (T : Txt P w K mg base c) (D : DefAt K mg "is_height" s_is_height ["thing"] f) {f_is_number : Addr} (h_is_number : PD P w K mg base 1 "is_number" f_is_number ["thing"] (sp_is_number K c)) : PD P w K mg base 2 "is_height" f ["thing"] (sp_is_height K c) :=
  D.keeps (k := 1) sc_is_height (fun vs H Q E h => by
    first | (obtain ⟨_, rfl, _⟩ := h; rfl) | (obtain ⟨_, _, rfl, _⟩ := h; rfl) | (obtain ⟨_, _, _, rfl, _⟩ := h; rfl) | (obtain ⟨_, _, _, _, rfl, _⟩ := h; rfl) | (obtain ⟨_, _, _, _, _, rfl, _⟩ := h; rfl) | (obtain ⟨_, _, _, _, _, _, rfl, _⟩ := h; rfl) | (obtain ⟨_, _, _, _, _, _, _, rfl, _⟩ := h; rfl) | (obtain ⟨_, _, _, _, _, _, _, _, rfl, _⟩ := h; rfl)) (fun cdv A outer s H vs Q E hr h => ⟨t_is_height K c E,
    (pss_one (ps_ret (pe_and (pe_pd h_is_number (hr.mono (by decide)) passL rfl (pa_cons (pv 0) pa_nil)) (pe_one (pe_chain opLe opLe pe_int (pv 0) (pe_gint T.k_MOST_HIGH rfl)))))),
    pure_is_height h⟩)
theorem pd_need_row {f : Addr} (T : Txt P w K mg base c) (D : DefAt K mg "need_row" s_need_row ["thing"] f) {f_is_height : Addr} (h_is_height : PD P w K mg base 2 "is_height" f_is_height ["thing"] (sp_is_height K c)) : PD P w K mg base 3 "need_row" f ["thing"] (sp_need_row K c) :=
  D.keeps (k := 2) sc_need_row (fun vs H Q E h => by
    first | (obtain ⟨_, rfl, _⟩ := h; rfl) | (obtain ⟨_, _, rfl, _⟩ := h; rfl) | (obtain ⟨_, _, _, rfl, _⟩ := h; rfl) | (obtain ⟨_, _, _, _, rfl, _⟩ := h; rfl) | (obtain ⟨_, _, _, _, _, rfl, _⟩ := h; rfl) | (obtain ⟨_, _, _, _, _, _, rfl, _⟩ := h; rfl) | (obtain ⟨_, _, _, _, _, _, _, rfl, _⟩ := h; rfl) | (obtain ⟨_, _, _, _, _, _, _, _, rfl, _⟩ := h; rfl)) (fun cdv A outer s H vs Q E hr h => ⟨t_need_row K c E,
    (pss_cons (ps_if (PW.pt (pw_or (pt_not (pt_val (pe_callB fnIsi (by rfl) T.b_isinstance (by decide +kernel) (pa_cons (pv 0) (pa_cons (pe_tup (pa_cons (pe_bty T.b_list (by decide +kernel) rfl) (pa_cons (pe_bty T.b_tuple (by decide +kernel) rfl) pa_nil))) pa_nil))))) (pw_or1 (pt_not (pt_chain opLe opLe pe_int (pe_callB fnLen (by rfl) T.b_len (by decide +kernel) (pa_cons (pv 0) pa_nil)) (pe_gint T.k_MOST_LONG rfl)))))) (pss_one (ps_raiseP (W := (fun cls d _ H => E cls d H)) rfl (takes_of rfl rfl rfl rfl) T.x_NoRow rfl)) pss_nil)
      (pss_one (ps_for (passes_of rfl) rfl (pi_seq (pv 0)) (pg_name (i := 1) sc_need_row.nd rfl (Or.inl rfl)) (pss_one (ps_if (pt_not (pt_val (pe_pd h_is_height (hr.mono (by decide)) passL rfl (pa_cons (pv 1) pa_nil)))) (pss_one (ps_raiseP (W := (fun cls d _ H => E cls d H)) rfl (takes_of rfl rfl rfl rfl) T.x_NoRow rfl)) pss_nil))))),
    pure_need_row h⟩)
theorem pd_clash {f : Addr} (T : Txt P w K mg base c) (D : DefAt K mg "clash" s_clash ["row"] f) {f_need_row : Addr} (h_need_row : PD P w K mg base 3 "need_row" f_need_row ["thing"] (sp_need_row K c)) : PD P w K mg base 4 "clash" f ["row"] (sp_clash K c) :=
  D.keeps (k := 3) sc_clash (fun vs H Q E h => by
    first | (obtain ⟨_, rfl, _⟩ := h; rfl) | (obtain ⟨_, _, rfl, _⟩ := h; rfl) | (obtain ⟨_, _, _, rfl, _⟩ := h; rfl) | (obtain ⟨_, _, _, _, rfl, _⟩ := h; rfl) | (obtain ⟨_, _, _, _, _, rfl, _⟩ := h; rfl) | (obtain ⟨_, _, _, _, _, _, rfl, _⟩ := h; rfl) | (obtain ⟨_, _, _, _, _, _, _, rfl, _⟩ := h; rfl) | (obtain ⟨_, _, _, _, _, _, _, _, rfl, _⟩ := h; rfl)) (fun cdv A outer s H vs Q E hr h => ⟨t_clash K c E,
    (pss_cons (ps_expr (pe_pd h_need_row (hr.mono (by decide)) (passE (takes_of rfl rfl rfl rfl)) rfl (pa_cons (pv 0) pa_nil)))
      (pss_cons (ps_set (i := 1) sc_clash.nd rfl (Or.inl rfl) pe_dnewK)
      (pss_cons (ps_for (passes_of rfl) rfl (pi_enumQ rfl T.b_enumerate (pa_cons (pv 0) pa_nil)) (pg_tup rfl (pgs_cons (pg_name (i := 2) sc_clash.nd rfl (Or.inl rfl)) (pgs_cons (pg_name (i := 3) sc_clash.nd rfl (Or.inl rfl)) pgs_nil))) (pss_cons (ps_set (i := 4) sc_clash.nd rfl (Or.inl rfl) (pe_op opMod (pe_op opAdd (pv 2) (pv 3)) (pe_callB fnLen (by rfl) T.b_len (by decide +kernel) (pa_cons (pv 0) pa_nil))))
      (pss_cons (ps_if (pt_cmp (pc_din (hu_of hr) (pv 4) (pv 1))) (pss_one (ps_ret (pe_tup (pa_cons (pe_dget (hu_of hr) (pv 1) (pv 4) (fun _ _ => rfl)) (pa_cons (pv 2) pa_nil))))) pss_nil)
      (pss_one (ps_dput (hu_of hr) (pv 1) (pv 4) (pv 2) rfl)))))
      (pss_one (ps_ret pe_non))))),
    pure_clash h⟩)
theorem pd_need_going {f : Addr} (T : Txt P w K mg base c) (D : DefAt K mg "need_going" s_need_going ["row"] f) {f_clash : Addr} (h_clash : PD P w K mg base 4 "clash" f_clash ["row"] (sp_clash K c)) : PD P w K mg base 5 "need_going" f ["row"] (sp_need_going K c) :=
  D.keeps (k := 4) sc_need_going (fun vs H Q E h => by
    first | (obtain ⟨_, rfl, _⟩ := h; rfl) | (obtain ⟨_, _, rfl, _⟩ := h; rfl) | (obtain ⟨_, _, _, rfl, _⟩ := h; rfl) | (obtain ⟨_, _, _, _, rfl, _⟩ := h; rfl) | (obtain ⟨_, _, _, _, _, rfl, _⟩ := h; rfl) | (obtain ⟨_, _, _, _, _, _, rfl, _⟩ := h; rfl) | (obtain ⟨_, _, _, _, _, _, _, rfl, _⟩ := h; rfl) | (obtain ⟨_, _, _, _, _, _, _, _, rfl, _⟩ := h; rfl)) (fun cdv A outer s H vs Q E hr h => ⟨t_need_going K c E,
    (pss_cons (ps_set (i := 1) sc_need_going.nd rfl (Or.inl rfl) (pe_pd h_clash (hr.mono (by decide)) (passE (takes_of rfl rfl rfl rfl)) rfl (pa_cons (pv 0) pa_nil)))
      (pss_one (ps_if (pt_cmpR opNotN (pv 1) pe_non (nomark _)) (pss_one (ps_raise2R (W := (fun cls d _ H => E cls d H)) rfl (takes_of rfl rfl rfl rfl) T.r_Clash (hr.mono (by decide)) rfl (pa_cons (pe_ix ix_seq (pv 1) pe_int (fun _ _ => rfl)) (pa_cons (pe_ix ix_seq (pv 1) pe_int (fun _ _ => rfl)) pa_nil)))) pss_nil))),
    pure_need_going h⟩)
theorem pd_state_at {f : Addr} (T : Txt P w K mg base c) (D : DefAtD K mg "state_at" s_state_at ["row", "turn"] (.int 0) f) {f_need_going : Addr} (h_need_going : PD P w K mg base 5 "need_going" f_need_going ["row"] (sp_need_going K c)) {f_is_number : Addr} (h_is_number : PD P w K mg base 1 "is_number" f_is_number ["thing"] (sp_is_number K c)) : PD P w K mg base 6 "state_at" f ["row", "turn"] (sp_state_at K c) ∧ PDd P w K mg base 6 "state_at" f ["row", "turn"] [.int 0] (sp_state_at K c) :=
  D.keeps (k := 5) sc_state_at (fun vs H Q E h => by
    first | (obtain ⟨_, rfl, _⟩ := h; rfl) | (obtain ⟨_, _, rfl, _⟩ := h; rfl) | (obtain ⟨_, _, _, rfl, _⟩ := h; rfl) | (obtain ⟨_, _, _, _, rfl, _⟩ := h; rfl) | (obtain ⟨_, _, _, _, _, rfl, _⟩ := h; rfl) | (obtain ⟨_, _, _, _, _, _, rfl, _⟩ := h; rfl) | (obtain ⟨_, _, _, _, _, _, _, rfl, _⟩ := h; rfl) | (obtain ⟨_, _, _, _, _, _, _, _, rfl, _⟩ := h; rfl)) (fun cdv A outer s H vs Q E hr h => ⟨t_state_at K c E,
    (pss_cons (ps_expr (pe_pd h_need_going (hr.mono (by decide)) (passE (takes_of rfl rfl rfl rfl)) rfl (pa_cons (pv 0) pa_nil)))
      (pss_cons (ps_if (PW.pt (pw_or (pt_not (pt_val (pe_pd h_is_number (hr.mono (by decide)) passL rfl (pa_cons (pv 1) pa_nil)))) (pw_or1 (pt_cmpR opLt (pv 1) pe_int (nomark _))))) (pss_one (ps_raiseP (W := (fun cls d _ H => E cls d H)) rfl (takes_of rfl rfl rfl rfl) T.x_NoTurn rfl)) pss_nil)
      (pss_cons (ps_set (i := 2) sc_state_at.nd rfl (Or.inl rfl) pe_int)
      (pss_cons (ps_for (passes_of rfl) rfl (pi_range2 rfl T.b_range (pa_cons pe_int (pa_cons (pe_op opAdd (pe_gint T.k_MOST_HIGH rfl) pe_int) pa_nil))) (pg_name (i := 3) sc_state_at.nd rfl (Or.inl rfl)) (pss_cons (ps_set (i := 4) sc_state_at.nd rfl (Or.inl rfl) (pe_ix ix_seq (pv 0) (pe_op opMod (pe_op opSub (pv 1) (pv 3)) (pe_callB fnLen (by rfl) T.b_len (by decide +kernel) (pa_cons (pv 0) pa_nil))) (fun _ _ => rfl)))
      (pss_one (ps_if (pt_cmpR opGe (pv 4) (pv 3) (nomark _)) (pss_one (ps_aug (i := 2) sc_state_at.nd rfl (Or.inl rfl) (pe_op opShl pe_int (pe_op opSub (pv 4) (pv 3))) iop_or)) pss_nil))))
      (pss_one (ps_ret (pv 2))))))),
    pure_state_at h⟩)
theorem pd_need_state {f : Addr} (T : Txt P w K mg base c) (D : DefAt K mg "need_state" s_need_state ["thing"] f) {f_is_number : Addr} (h_is_number : PD P w K mg base 1 "is_number" f_is_number ["thing"] (sp_is_number K c)) : PD P w K mg base 2 "need_state" f ["thing"] (sp_need_state K c) :=
  D.keeps (k := 1) sc_need_state (fun vs H Q E h => by
    first | (obtain ⟨_, rfl, _⟩ := h; rfl) | (obtain ⟨_, _, rfl, _⟩ := h; rfl) | (obtain ⟨_, _, _, rfl, _⟩ := h; rfl) | (obtain ⟨_, _, _, _, rfl, _⟩ := h; rfl) | (obtain ⟨_, _, _, _, _, rfl, _⟩ := h; rfl) | (obtain ⟨_, _, _, _, _, _, rfl, _⟩ := h; rfl) | (obtain ⟨_, _, _, _, _, _, _, rfl, _⟩ := h; rfl) | (obtain ⟨_, _, _, _, _, _, _, _, rfl, _⟩ := h; rfl)) (fun cdv A outer s H vs Q E hr h => ⟨t_need_state K c E,
    (pss_one (ps_if (PW.pt (pw_or (pt_not (pt_val (pe_pd h_is_number (hr.mono (by decide)) passL rfl (pa_cons (pv 0) pa_nil)))) (pw_or1 (pt_not (pt_chain opLe opLe pe_int (pv 0) (pe_gint T.k_MOST_STATE rfl)))))) (pss_one (ps_raiseP (W := (fun cls d _ H => E cls d H)) rfl (takes_of rfl rfl rfl rfl) T.x_NoState rfl)) pss_nil)),
    pure_need_state h⟩)
theorem pd_bits_in {f : Addr} (T : Txt P w K mg base c) (D : DefAt K mg "bits_in" s_bits_in ["state"] f)  : PD P w K mg base 1 "bits_in" f ["state"] (sp_bits_in K c) :=
  D.keeps (k := 0) sc_bits_in (fun vs H Q E h => by
    first | (obtain ⟨_, rfl, _⟩ := h; rfl) | (obtain ⟨_, _, rfl, _⟩ := h; rfl) | (obtain ⟨_, _, _, rfl, _⟩ := h; rfl) | (obtain ⟨_, _, _, _, rfl, _⟩ := h; rfl) | (obtain ⟨_, _, _, _, _, rfl, _⟩ := h; rfl) | (obtain ⟨_, _, _, _, _, _, rfl, _⟩ := h; rfl) | (obtain ⟨_, _, _, _, _, _, _, rfl, _⟩ := h; rfl) | (obtain ⟨_, _, _, _, _, _, _, _, rfl, _⟩ := h; rfl)) (fun cdv A outer s H vs Q E hr h => ⟨t_bits_in K c E,
    (pss_cons (ps_set (i := 1) sc_bits_in.nd rfl (Or.inl rfl) pe_int)
      (pss_cons (ps_while (passes_of rfl) (pt_cmpR opGt (pv 0) pe_int (nomark _)) (pss_cons (ps_aug (i := 1) sc_bits_in.nd rfl (Or.inl rfl) (pe_op opAnd (pv 0) pe_int) ip_add)
      (pss_one (ps_aug (i := 0) sc_bits_in.nd rfl (Or.inl rfl) pe_int iop_shr))))
      (pss_one (ps_ret (pv 1))))),
    pure_bits_in h⟩)
theorem pd_lets {f : Addr} (T : Txt P w K mg base c) (D : DefAt K mg "lets" s_lets ["state"] f) {f_need_state : Addr} (h_need_state : PD P w K mg base 2 "need_state" f_need_state ["thing"] (sp_need_state K c)) : PD P w K mg base 3 "lets" f ["state"] (sp_lets K c) :=
  D.keeps (k := 2) sc_lets (fun vs H Q E h => by
    first | (obtain ⟨_, rfl, _⟩ := h; rfl) | (obtain ⟨_, _, rfl, _⟩ := h; rfl) | (obtain ⟨_, _, _, rfl, _⟩ := h; rfl) | (obtain ⟨_, _, _, _, rfl, _⟩ := h; rfl) | (obtain ⟨_, _, _, _, _, rfl, _⟩ := h; rfl) | (obtain ⟨_, _, _, _, _, _, rfl, _⟩ := h; rfl) | (obtain ⟨_, _, _, _, _, _, _, rfl, _⟩ := h; rfl) | (obtain ⟨_, _, _, _, _, _, _, _, rfl, _⟩ := h; rfl)) (fun cdv A outer s H vs Q E hr h => ⟨t_lets K c E,
    (pss_cons (ps_expr (pe_pd h_need_state (hr.mono (by decide)) (passE (takes_of rfl rfl rfl rfl)) rfl (pa_cons (pv 0) pa_nil)))
      (pss_cons (ps_if (pt_cmpR (opEq hr.units) (pe_op opAnd (pv 0) pe_int) pe_int (nomark _)) (pss_one (ps_ret (pe_lst (pa_cons pe_int pa_nil)))) pss_nil)
      (pss_one (ps_ret (pe_lc (own := [("height", 1)]) rfl sc_lets.nd (pi_range2 rfl T.b_range (pa_cons pe_int (pa_cons (pe_op opAdd (pe_gint T.k_MOST_HIGH rfl) pe_int) pa_nil))) (blkOk_by (own := [("height", 1)]) (N := ["state", "height"]) (sc := defScope s_lets) (by decide +kernel)) (fun _ _ _ _ _ => (pg_name (i := 1) sc_lets.nd rfl (Or.inl rfl))) (fun _ _ _ _ _ => (pts_one (pt_cmpR (opEq hr.units) (pe_op opAnd (pe_op opShr (pv 0) (pv 1)) pe_int) pe_int (nomark _)))) (fun _ _ _ _ _ => (pv 1))))))),
    pure_lets h⟩)
theorem pd_thrown {f : Addr} (T : Txt P w K mg base c) (D : DefAt K mg "thrown" s_thrown ["state", "height"] f) {f_lets : Addr} (h_lets : PD P w K mg base 3 "lets" f_lets ["state"] (sp_lets K c)) {f_is_number : Addr} (h_is_number : PD P w K mg base 1 "is_number" f_is_number ["thing"] (sp_is_number K c)) {f_need_state : Addr} (h_need_state : PD P w K mg base 2 "need_state" f_need_state ["thing"] (sp_need_state K c)) : PD P w K mg base 4 "thrown" f ["state", "height"] (sp_thrown K c) :=
  D.keeps (k := 3) sc_thrown (fun vs H Q E h => by
    first | (obtain ⟨_, rfl, _⟩ := h; rfl) | (obtain ⟨_, _, rfl, _⟩ := h; rfl) | (obtain ⟨_, _, _, rfl, _⟩ := h; rfl) | (obtain ⟨_, _, _, _, rfl, _⟩ := h; rfl) | (obtain ⟨_, _, _, _, _, rfl, _⟩ := h; rfl) | (obtain ⟨_, _, _, _, _, _, rfl, _⟩ := h; rfl) | (obtain ⟨_, _, _, _, _, _, _, rfl, _⟩ := h; rfl) | (obtain ⟨_, _, _, _, _, _, _, _, rfl, _⟩ := h; rfl)) (fun cdv A outer s H vs Q E hr h => ⟨t_thrown K c E,
    (pss_cons (ps_if (PW.pt (pw_or (pt_not (pt_val (pe_pd h_is_number (hr.mono (by decide)) passL rfl (pa_cons (pv 1) pa_nil)))) (pw_or1 (pt_cmpR opNotIn (pv 1) (pe_pd h_lets (hr.mono (by decide)) (passE (takes_of rfl rfl rfl rfl)) rfl (pa_cons (pv 0) pa_nil)) (by rfl))))) (pss_cons (ps_expr (pe_pd h_need_state (hr.mono (by decide)) (passE (takes_of rfl rfl rfl rfl)) rfl (pa_cons (pv 0) pa_nil)))
      (pss_one (ps_raiseP (W := (fun cls d _ H => E cls d H)) rfl (takes_of rfl rfl rfl rfl) T.x_NoThrow rfl))) pss_nil)
      (pss_cons (ps_if (pt_cmpR opGt (pv 1) pe_int (nomark _)) (pss_one (ps_aug (i := 0) sc_thrown.nd rfl (Or.inl rfl) (pe_op opShl pe_int (pv 1)) iop_or)) pss_nil)
      (pss_one (ps_ret (pe_op opShr (pv 0) pe_int))))),
    pure_thrown h⟩)
theorem pd_way {f : Addr} (T : Txt P w K mg base c) (D : DefAt K mg "way" s_way ["one", "other"] f) {f_need_state : Addr} (h_need_state : PD P w K mg base 2 "need_state" f_need_state ["thing"] (sp_need_state K c)) {f_bits_in : Addr} (h_bits_in : PD P w K mg base 1 "bits_in" f_bits_in ["state"] (sp_bits_in K c)) {f_lets : Addr} (h_lets : PD P w K mg base 3 "lets" f_lets ["state"] (sp_lets K c)) {f_thrown : Addr} (h_thrown : PD P w K mg base 4 "thrown" f_thrown ["state", "height"] (sp_thrown K c)) : PD P w K mg base 5 "way" f ["one", "other"] (sp_way K c) :=
  D.keeps (k := 4) sc_way (fun vs H Q E h => by
    first | (obtain ⟨_, rfl, _⟩ := h; rfl) | (obtain ⟨_, _, rfl, _⟩ := h; rfl) | (obtain ⟨_, _, _, rfl, _⟩ := h; rfl) | (obtain ⟨_, _, _, _, rfl, _⟩ := h; rfl) | (obtain ⟨_, _, _, _, _, rfl, _⟩ := h; rfl) | (obtain ⟨_, _, _, _, _, _, rfl, _⟩ := h; rfl) | (obtain ⟨_, _, _, _, _, _, _, rfl, _⟩ := h; rfl) | (obtain ⟨_, _, _, _, _, _, _, _, rfl, _⟩ := h; rfl)) (fun cdv A outer s H vs Q E hr h => ⟨t_way K c E,
    (pss_cons (ps_expr (pe_pd h_need_state (hr.mono (by decide)) (passE (takes_of rfl rfl rfl rfl)) rfl (pa_cons (pv 0) pa_nil)))
      (pss_cons (ps_expr (pe_pd h_need_state (hr.mono (by decide)) (passE (takes_of rfl rfl rfl rfl)) rfl (pa_cons (pv 1) pa_nil)))
      (pss_cons (ps_if (pt_cmpR (opNe hr.units) (pe_pd h_bits_in (hr.mono (by decide)) passL rfl (pa_cons (pv 0) pa_nil)) (pe_pd h_bits_in (hr.mono (by decide)) passL rfl (pa_cons (pv 1) pa_nil)) (nomark _)) (pss_one (ps_raiseP (W := (fun cls d _ H => E cls d H)) rfl (takes_of rfl rfl rfl rfl) T.x_NoWay rfl)) pss_nil)
      (pss_cons (ps_set (i := 2) sc_way.nd rfl (Or.inl rfl) (pe_disp (pps_cons (pv 0) (pe_lst pa_nil) pps_nil) (by rfl) (by rfl) (fun z => by cases z) (by decide)))
      (pss_cons (ps_set (i := 3) sc_way.nd rfl (Or.inl rfl) (pe_lst (pa_cons (pv 0) pa_nil)))
      (pss_cons (ps_set (i := 4) sc_way.nd rfl (Or.inl rfl) pe_int)
      (pss_cons (ps_while (passes_of rfl) (pt_cmp (pc_dnotin (hu_of hr) (pv 1) (pv 2))) (pss_cons (ps_set (i := 5) sc_way.nd rfl (Or.inl rfl) (pe_ix ix_seq (pv 3) (pv 4) (fun _ _ => rfl)))
      (pss_cons (ps_aug (i := 4) sc_way.nd rfl (Or.inl rfl) pe_int ip_add)
      (pss_one (ps_for (passes_of rfl) rfl (pi_seq (pe_pd h_lets (hr.mono (by decide)) (passE (takes_of rfl rfl rfl rfl)) rfl (pa_cons (pv 5) pa_nil))) (pg_name (i := 6) sc_way.nd rfl (Or.inl rfl)) (pss_cons (ps_set (i := 7) sc_way.nd rfl (Or.inl rfl) (pe_pd h_thrown (hr.mono (by decide)) (passE (takes_of rfl rfl rfl rfl)) rfl (pa_cons (pv 5) (pa_cons (pv 6) pa_nil))))
      (pss_one (ps_if (pt_cmp (pc_dnotin (hu_of hr) (pv 7) (pv 2))) (pss_cons (ps_dput (hu_of hr) (pv 2) (pv 7) (pe_op opAdd (pe_dget (hu_of hr) (pv 2) (pv 5) (fun _ _ => rfl)) (pe_lst (pa_cons (pv 6) pa_nil))) rfl)
      (pss_one (ps_expr (pe_bm PySem.F.plainAttrs_list PySem.F.slot_list_append PySem.F.type_list_append mt_append (pv 3) (pa_cons (pv 7) pa_nil))))) pss_nil))))))))
      (pss_one (ps_ret (pe_callTy fnList (by rfl) T.b_list (by decide +kernel) (pa_cons (pe_dget (hu_of hr) (pv 2) (pv 1) (fun _ _ => rfl)) pa_nil))))))))))),
    pure_way h⟩)
theorem pd_k08_bridge {f : Addr} (T : Txt P w K mg base c) (D : DefAt K mg "bridge" s_k08_bridge ["one", "other"] f) {f_state_at : Addr} (hd_state_at : PDd P w K mg base 6 "state_at" f_state_at ["row", "turn"] [.int 0] (sp_state_at K c)) {f_way : Addr} (h_way : PD P w K mg base 5 "way" f_way ["one", "other"] (sp_way K c)) : PD P w K mg base 7 "bridge" f ["one", "other"] (sp_k08_bridge K c) :=
  D.keeps (k := 6) sc_k08_bridge (fun vs H Q E h => by
    first | (obtain ⟨_, rfl, _⟩ := h; rfl) | (obtain ⟨_, _, rfl, _⟩ := h; rfl) | (obtain ⟨_, _, _, rfl, _⟩ := h; rfl) | (obtain ⟨_, _, _, _, rfl, _⟩ := h; rfl) | (obtain ⟨_, _, _, _, _, rfl, _⟩ := h; rfl) | (obtain ⟨_, _, _, _, _, _, rfl, _⟩ := h; rfl) | (obtain ⟨_, _, _, _, _, _, _, rfl, _⟩ := h; rfl) | (obtain ⟨_, _, _, _, _, _, _, _, rfl, _⟩ := h; rfl)) (fun cdv A outer s H vs Q E hr h => ⟨t_k08_bridge K c E,
    (pss_cons (ps_set (i := 2) sc_k08_bridge.nd rfl (Or.inl rfl) (pe_pdd hd_state_at (hr.mono (by decide)) (passE (takes_of rfl rfl rfl rfl)) rfl (pa_cons (pv 0) pa_nil)))
      (pss_cons (ps_set (i := 3) sc_k08_bridge.nd rfl (Or.inl rfl) (pe_pdd hd_state_at (hr.mono (by decide)) (passE (takes_of rfl rfl rfl rfl)) rfl (pa_cons (pv 1) pa_nil)))
      (pss_one (ps_ret (pe_tup (pa_cons (pe_pd h_way (hr.mono (by decide)) (passE (takes_of rfl rfl rfl rfl)) rfl (pa_cons (pv 2) (pa_cons (pv 3) pa_nil))) (pa_cons (pe_pd h_way (hr.mono (by decide)) (passE (takes_of rfl rfl rfl rfl)) rfl (pa_cons (pv 3) (pa_cons (pv 2) pa_nil))) pa_nil))))))),
    pure_k08_bridge h⟩)
theorem pd_k08_l_comes_back {f : Addr} (T : Txt P w K mg base c) (D : DefAt K mg "_law_comes_back" s_k08_l_comes_back ["_law_row", "_law_state"] f) {f_lets : Addr} (h_lets : PD P w K mg base 3 "lets" f_lets ["state"] (sp_lets K c)) {f_thrown : Addr} (h_thrown : PD P w K mg base 4 "thrown" f_thrown ["state", "height"] (sp_thrown K c)) : PD P w K mg base 5 "_law_comes_back" f ["_law_row", "_law_state"] (sp_k08_l_comes_back K c) :=
  D.keeps (k := 4) sc_k08_l_comes_back (fun vs H Q E h => by
    first | (obtain ⟨_, rfl, _⟩ := h; rfl) | (obtain ⟨_, _, rfl, _⟩ := h; rfl) | (obtain ⟨_, _, _, rfl, _⟩ := h; rfl) | (obtain ⟨_, _, _, _, rfl, _⟩ := h; rfl) | (obtain ⟨_, _, _, _, _, rfl, _⟩ := h; rfl) | (obtain ⟨_, _, _, _, _, _, rfl, _⟩ := h; rfl) | (obtain ⟨_, _, _, _, _, _, _, rfl, _⟩ := h; rfl) | (obtain ⟨_, _, _, _, _, _, _, _, rfl, _⟩ := h; rfl)) (fun cdv A outer s H vs Q E hr h => ⟨t_k08_l_comes_back K c E,
    (pss_cons (ps_set (i := 2) sc_k08_l_comes_back.nd rfl (Or.inl rfl) (pv 1))
      (pss_cons (ps_for (passes_of rfl) rfl (pi_seq (pv 0)) (pg_name (i := 3) sc_k08_l_comes_back.nd rfl (Or.inl rfl)) (pss_cons (ps_if (pt_cmpR opNotIn (pv 3) (pe_pd h_lets (hr.mono (by decide)) passL rfl (pa_cons (pv 1) pa_nil)) (by rfl)) (pss_one (ps_ret pe_bl)) pss_nil)
      (pss_one (ps_set (i := 1) sc_k08_l_comes_back.nd rfl (Or.inl rfl) (pe_pd h_thrown (hr.mono (by decide)) passL rfl (pa_cons (pv 1) (pa_cons (pv 3) pa_nil)))))))
      (pss_one (ps_ret (pe_cmpR (opEq hr.units) (pv 1) (pv 2) (nomark _)))))),
    pure_k08_l_comes_back h⟩)
theorem pd_k08_l_goes_on {f : Addr} (T : Txt P w K mg base c) (D : DefAt K mg "_law_goes_on" s_k08_l_goes_on ["_law_row"] f)  : PD P w K mg base 1 "_law_goes_on" f ["_law_row"] (sp_k08_l_goes_on K c) :=
  D.keeps (k := 0) sc_k08_l_goes_on (fun vs H Q E h => by
    first | (obtain ⟨_, rfl, _⟩ := h; rfl) | (obtain ⟨_, _, rfl, _⟩ := h; rfl) | (obtain ⟨_, _, _, rfl, _⟩ := h; rfl) | (obtain ⟨_, _, _, _, rfl, _⟩ := h; rfl) | (obtain ⟨_, _, _, _, _, rfl, _⟩ := h; rfl) | (obtain ⟨_, _, _, _, _, _, rfl, _⟩ := h; rfl) | (obtain ⟨_, _, _, _, _, _, _, rfl, _⟩ := h; rfl) | (obtain ⟨_, _, _, _, _, _, _, _, rfl, _⟩ := h; rfl)) (fun cdv A outer s H vs Q E hr h => ⟨t_k08_l_goes_on K c E,
    (pss_cons (ps_setLc (i := 1) (own := [("_law_turn", 2), ("_law_height", 3)]) rfl sc_k08_l_goes_on.nd rfl rfl (sw_true rfl rfl rfl (by decide +kernel)) (pi_enumQ rfl T.b_enumerate (pa_cons (pv 0) pa_nil)) (blkOk_by (own := [("_law_turn", 2), ("_law_height", 3)]) (N := ["_law_row", "_law_places", "_law_turn", "_law_height"]) (sc := defScope s_k08_l_goes_on) (by decide +kernel)) (fun _ _ _ _ _ => (pg_tup rfl (pgs_cons (pg_name (i := 2) sc_k08_l_goes_on.nd rfl (Or.inl rfl)) (pgs_cons (pg_name (i := 3) sc_k08_l_goes_on.nd rfl (Or.inl rfl)) pgs_nil)))) (fun _ _ _ _ _ => pts_nil) (fun _ _ _ _ _ => (pe_op opMod (pe_op opAdd (pv 2) (pv 3)) (pe_callB fnLen (by rfl) T.b_len (by decide +kernel) (pa_cons (pv 0) pa_nil)))))
      (pss_one (ps_ret (pe_cmpR (opEq hr.units) (pe_lenSetI rfl (by rfl) T.b_len (by rfl) T.b_set (pv 1)) (pe_callB fnLen (by rfl) T.b_len (by decide +kernel) (pa_cons (pv 0) pa_nil)) (nomark _))))),
    pure_k08_l_goes_on h⟩)
theorem pd_k08_l_told {f : Addr} (T : Txt P w K mg base c) (N : Ex08 K c) (D : DefAt K mg "_law_told" s_k08_l_told ["_law_one", "_law_other"] f) {f_k08_bridge : Addr} (h_k08_bridge : PD P w K mg base 7 "bridge" f_k08_bridge ["one", "other"] (sp_k08_bridge K c)) : PD P w K mg base 8 "_law_told" f ["_law_one", "_law_other"] (sp_k08_l_told K c) :=
  D.keeps (k := 7) sc_k08_l_told (fun vs H Q E h => by
    first | (obtain ⟨_, rfl, _⟩ := h; rfl) | (obtain ⟨_, _, rfl, _⟩ := h; rfl) | (obtain ⟨_, _, _, rfl, _⟩ := h; rfl) | (obtain ⟨_, _, _, _, rfl, _⟩ := h; rfl) | (obtain ⟨_, _, _, _, _, rfl, _⟩ := h; rfl) | (obtain ⟨_, _, _, _, _, _, rfl, _⟩ := h; rfl) | (obtain ⟨_, _, _, _, _, _, _, rfl, _⟩ := h; rfl) | (obtain ⟨_, _, _, _, _, _, _, _, rfl, _⟩ := h; rfl)) (fun cdv A outer s H vs Q E hr h => ⟨t_k08_l_told K c E,
    (pss_cons (ps_set (i := 2) sc_k08_l_told.nd rfl (Or.inl rfl) pe_non)
      (pss_cons (ps_try_many (tb := fun W => (tAsg (tCallS (sp_k08_bridge K c) (WE W) (tCons (tVar 0) (tCons (tVar 1) tNil))) (gName 2))) (l := [((.ref c.norow), fun a cls d => (tAsg (tC (.str "row")) (gName 2))), ((.ref c.clash), fun a cls d => (tAsg (tC (.str "clash")) (gName 2))), ((.ref c.noway), fun a cls d => (tAsg (tC (.str "way")) (gName 2)))]) (Wout := (fun _ _ _ _ => False)) rfl rfl takes0 (fun W pn xe tk _ => (pss_one (ps_set (i := 2) sc_k08_l_told.nd rfl (Or.inl rfl) (pe_pdS h_k08_bridge (hr.mono (by decide)) (fun σ => passAt tk σ) rfl (pa_cons (pv 0) (pa_cons (pv 1) pa_nil)))))) (.cons ⟨rfl, by decide, .inl T.x_NoRow.g⟩ (fun a oe cls d pn hz hf => (pss_one (ps_set (i := 2) sc_k08_l_told.nd rfl (Or.inl rfl) pe_str))) (.cons ⟨rfl, by decide, .inl T.x_Clash.g⟩ (fun a oe cls d pn hz hf => (pss_one (ps_set (i := 2) sc_k08_l_told.nd rfl (Or.inl rfl) pe_str))) (.cons ⟨rfl, by decide, .inl T.x_NoWay.g⟩ (fun a oe cls d pn hz hf => (pss_one (ps_set (i := 2) sc_k08_l_told.nd rfl (Or.inl rfl) pe_str))) .nil))))
      (pss_one (ps_ret (pv 2))))),
    pure_k08_l_told N h⟩)
theorem pd_things {f : Addr} (T : Txt P w K mg base c) (D : DefAt K mg "things" s_things ["row"] f) {f_need_going : Addr} (h_need_going : PD P w K mg base 5 "need_going" f_need_going ["row"] (sp_need_going K c)) : PD P w K mg base 6 "things" f ["row"] (sp_things K c) :=
  D.keeps (k := 5) sc_things (fun vs H Q E h => by
    first | (obtain ⟨_, rfl, _⟩ := h; rfl) | (obtain ⟨_, _, rfl, _⟩ := h; rfl) | (obtain ⟨_, _, _, rfl, _⟩ := h; rfl) | (obtain ⟨_, _, _, _, rfl, _⟩ := h; rfl) | (obtain ⟨_, _, _, _, _, rfl, _⟩ := h; rfl) | (obtain ⟨_, _, _, _, _, _, rfl, _⟩ := h; rfl) | (obtain ⟨_, _, _, _, _, _, _, rfl, _⟩ := h; rfl) | (obtain ⟨_, _, _, _, _, _, _, _, rfl, _⟩ := h; rfl)) (fun cdv A outer s H vs Q E hr h => ⟨t_things K c E,
    (pss_cons (ps_expr (pe_pd h_need_going (hr.mono (by decide)) (passE (takes_of rfl rfl rfl rfl)) rfl (pa_cons (pv 0) pa_nil)))
      (pss_one (ps_ret (pe_op opDiv (pe_callB (fnSum rfl) (by rfl) T.b_sum (by decide +kernel) (pa_cons (pv 0) pa_nil)) (pe_callB fnLen (by rfl) T.b_len (by decide +kernel) (pa_cons (pv 0) pa_nil)))))),
    pure_things h⟩)
theorem fn_k08_law {f : Addr} {fd : FuncData} (T : Txt P w K mg base c) (F : Fun K "law" "law" s_k08_law f fd) {f_l_mixed : Addr} (h_l_mixed : PD P w K mg base 1 "_law_mixed" f_l_mixed ["_law_cell", "_law_k"] (sp_l_mixed K c)) {f_k08_l_same : Addr} (h_k08_l_same : PD P w K mg base 4 "_law_same" f_k08_l_same ["_law_cell", "_law_many", "_law_height"] (sp_k08_l_same K c)) {f_k08_bridge : Addr} (h_k08_bridge : PD P w K mg base 7 "bridge" f_k08_bridge ["one", "other"] (sp_k08_bridge K c)) {f_k08_l_comes_back : Addr} (h_k08_l_comes_back : PD P w K mg base 5 "_law_comes_back" f_k08_l_comes_back ["_law_row", "_law_state"] (sp_k08_l_comes_back K c)) {f_state_at : Addr} (hd_state_at : PDd P w K mg base 6 "state_at" f_state_at ["row", "turn"] [.int 0] (sp_state_at K c)) {f_k08_l_goes_on : Addr} (h_k08_l_goes_on : PD P w K mg base 1 "_law_goes_on" f_k08_l_goes_on ["_law_row"] (sp_k08_l_goes_on K c)) {f_k08_l_told : Addr} (h_k08_l_told : PD P w K mg base 8 "_law_told" f_k08_l_told ["_law_one", "_law_other"] (sp_k08_l_told K c)) {f_things : Addr} (h_things : PD P w K mg base 6 "things" f_things ["row"] (sp_things K c)) : FnOk P w K mg base (L2.CX P w) 9 f fd ["_law_script"] (spL K) :=
  F.okX (k := 8) sc_k08_law (fun vs H Q E h => by
    first | (obtain ⟨_, rfl, _⟩ := h; rfl) | (obtain ⟨_, _, rfl, _⟩ := h; rfl) | (obtain ⟨_, _, _, rfl, _⟩ := h; rfl) | (obtain ⟨_, _, _, _, rfl, _⟩ := h; rfl) | (obtain ⟨_, _, _, _, _, rfl, _⟩ := h; rfl) | (obtain ⟨_, _, _, _, _, _, rfl, _⟩ := h; rfl) | (obtain ⟨_, _, _, _, _, _, _, rfl, _⟩ := h; rfl) | (obtain ⟨_, _, _, _, _, _, _, _, rfl, _⟩ := h; rfl)) (fun cdv A outer s H vs Q E hr h => ⟨t_k08_law K c E,
    (pss_cons (ps_for (passes_of rfl) rfl (pi_enumQ rfl T.b_enumerate (pa_cons (pe_op opAdd (pv 0) (pe_lst (pa_cons pe_int (pa_cons pe_int pa_nil)))) pa_nil)) (pg_tup rfl (pgs_cons (pg_name (i := 1) sc_k08_law.nd rfl (Or.inl rfl)) (pgs_cons (pg_name (i := 2) sc_k08_law.nd rfl (Or.inl rfl)) pgs_nil))) (pss_cons (ps_set (i := 3) sc_k08_law.nd rfl (Or.inl rfl) (pe_pd h_l_mixed (hr.mono (by decide)) passL rfl (pa_cons (pv 2) (pa_cons (pv 1) pa_nil))))
      (pss_cons (ps_set (i := 4) sc_k08_law.nd rfl (Or.inl rfl) (pe_pd h_k08_l_same (hr.mono (by decide)) passL rfl (pa_cons (pv 3) (pa_cons (pe_op opAdd pe_int (pe_op opMod (pe_op opDiv (pv 3) pe_int) pe_int)) (pa_cons (pe_op opMod (pv 3) pe_int) pa_nil)))))
      (pss_cons (ps_set (i := 5) sc_k08_law.nd rfl (Or.inl rfl) (pe_pd h_k08_l_same (hr.mono (by decide)) passL rfl (pa_cons (pe_op opDiv (pv 3) pe_int) (pa_cons (pe_op opAdd pe_int (pe_op opMod (pe_op opDiv (pv 3) pe_int) pe_int)) (pa_cons (pe_op opMod (pv 3) pe_int) pa_nil)))))
      (pss_cons (ps_asg (pe_pd h_k08_bridge (hr.mono (by decide)) passL rfl (pa_cons (pv 4) (pa_cons (pe_callTy fnTuple (by rfl) T.b_tuple (by decide +kernel) (pa_cons (pv 5) pa_nil)) pa_nil))) (pg_tup rfl (pgs_cons (pg_name (i := 6) sc_k08_law.nd rfl (Or.inl rfl)) (pgs_cons (pg_name (i := 7) sc_k08_law.nd rfl (Or.inl rfl)) pgs_nil))))
      (pss_cons (ps_set (i := 8) sc_k08_law.nd rfl (Or.inl rfl) (pe_op opAdd (pe_op opAdd (pe_op opAdd (pe_op opMul (pv 4) (pe_op opAdd pe_int (pe_op opMod (pe_op opDiv (pv 3) pe_int) pe_int))) (pv 6)) (pe_op opMul (pv 5) (pe_op opMod (pe_op opDiv (pv 3) pe_int) pe_int))) (pv 7)))
      (pss_cons (ps_if (PW.pt (pw_or (pt_not (pt_val (pe_pd h_k08_l_goes_on (hr.mono (by decide)) passL rfl (pa_cons (pv 8) pa_nil)))) (pw_or (pt_not (pt_val (pe_pd h_k08_l_comes_back (hr.mono (by decide)) passL rfl (pa_cons (pv 8) (pa_cons (pe_pdd hd_state_at (hr.mono (by decide)) passL rfl (pa_cons (pv 4) pa_nil)) pa_nil))))) (pw_or1 (pt_cmpR opGt (pe_callB (fnMax rfl) (by rfl) T.b_max (by decide +kernel) (pa_cons (pe_callB fnLen (by rfl) T.b_len (by decide +kernel) (pa_cons (pv 6) pa_nil)) (pa_cons (pe_callB fnLen (by rfl) T.b_len (by decide +kernel) (pa_cons (pv 7) pa_nil)) pa_nil))) pe_int (nomark _)))))) (pss_one (ps_ret pe_bl)) pss_nil)
      (pss_cons (ps_set (i := 9) sc_k08_law.nd rfl (Or.inl rfl) (pe_pd h_k08_l_same (hr.mono (by decide)) passL rfl (pa_cons (pe_op opDiv (pv 3) pe_int) (pa_cons (pe_op opAdd pe_int (pe_op opMod (pe_op opDiv (pv 3) pe_int) pe_int)) (pa_cons (pe_op opMod (pe_op opAdd (pe_op opAdd (pe_op opMod (pv 3) pe_int) pe_int) (pe_op opMod (pe_op opDiv (pv 3) pe_int) pe_int)) pe_int) pa_nil)))))
      (pss_cons (ps_if (PW.pt (pw_or (pt_cmpR (opEq hr.units) (pe_pd h_things (hr.mono (by decide)) passL rfl (pa_cons (pv 9) pa_nil)) (pe_pd h_things (hr.mono (by decide)) passL rfl (pa_cons (pv 4) pa_nil)) (nomark _)) (pw_or1 (pt_cmpR (opNe hr.units) (pe_pd h_k08_l_told (hr.mono (by decide)) passL rfl (pa_cons (pv 4) (pa_cons (pv 9) pa_nil))) pe_str (nomark _))))) (pss_one (ps_ret pe_bl)) pss_nil)
      (pss_cons (ps_if (PW.pt (pw_or (pt_cmpR opNotIn (pe_pd h_k08_l_told (hr.mono (by decide)) passL rfl (pa_cons (pe_op opAdd (pv 4) (pe_lst (pa_cons pe_int (pa_cons pe_int pa_nil)))) (pa_cons (pv 9) pa_nil))) (pe_lst (pa_cons pe_str (pa_cons pe_str pa_nil))) (by rfl)) (pw_or1 (pt_cmpR (opNe hr.units) (pe_pd h_k08_l_told (hr.mono (by decide)) passL rfl (pa_cons (pe_lst (pa_cons pe_int (pa_cons pe_int pa_nil))) (pa_cons (pe_lst (pa_cons pe_int (pa_cons pe_int pa_nil))) pa_nil))) pe_str (nomark _))))) (pss_one (ps_ret pe_bl)) pss_nil)
      (pss_one (ps_if (PW.pt (pw_or (pt_cmpR (opNe hr.units) (pe_pd h_k08_l_told (hr.mono (by decide)) passL rfl (pa_cons (pe_lst pa_nil) (pa_cons (pe_lst (pa_cons pe_int (pa_cons pe_int pa_nil))) pa_nil))) pe_str (nomark _)) (pw_or (pt_cmpR (opNe hr.units) (pe_pd h_k08_l_told (hr.mono (by decide)) passL rfl (pa_cons (pv 4) (pa_cons (pe_lst (pa_cons pe_int pa_nil)) pa_nil))) pe_str (nomark _)) (pw_or1 (pt_cmpR (opNe hr.units) (pe_pd h_k08_l_told (hr.mono (by decide)) passL rfl (pa_cons (pv 9) (pa_cons (pe_lst (pa_cons pe_int (pa_cons pe_int pa_nil))) pa_nil))) pe_str (nomark _)))))) (pss_one (ps_ret pe_bl)) pss_nil))))))))))))
      (pss_one (ps_ret pe_bl))),
    pure_k08_law h⟩)
end
end Tie
namespace Tie
open PySem L2 PySem.Spec PyProof.Rows Evl Tr
theorem all_mk {l : PySem.W.OpenLaw} {w : World} {K : PySem.W.Frag} {h : Heap} {mg : Str → Option Value} {fa : Addr} (X : K.In h) (G : h.Ns mainGlobals mg) (hfa : mg "law" = some (.ref fa))
    {f_l_mixed : Addr} {od_l_mixed an_l_mixed : Option Addr} {sl_l_mixed : Array (Option Value)} {oc_l_mixed kV_l_mixed dc_l_mixed pm_l_mixed cd_l_mixed ct_l_mixed : Value}
    {f_l_mixed_up : Addr} {od_l_mixed_up an_l_mixed_up : Option Addr} {sl_l_mixed_up : Array (Option Value)} {oc_l_mixed_up kV_l_mixed_up dc_l_mixed_up pm_l_mixed_up cd_l_mixed_up ct_l_mixed_up : Value}
    {f_l_going : Addr} {od_l_going an_l_going : Option Addr} {sl_l_going : Array (Option Value)} {oc_l_going kV_l_going dc_l_going pm_l_going cd_l_going ct_l_going : Value}
    {f_k08_l_same : Addr} {od_k08_l_same an_k08_l_same : Option Addr} {sl_k08_l_same : Array (Option Value)} {oc_k08_l_same kV_k08_l_same dc_k08_l_same pm_k08_l_same cd_k08_l_same ct_k08_l_same : Value}
    {f_is_number : Addr} {od_is_number an_is_number : Option Addr} {sl_is_number : Array (Option Value)} {oc_is_number kV_is_number dc_is_number pm_is_number cd_is_number ct_is_number : Value}
    {f_is_height : Addr} {od_is_height an_is_height : Option Addr} {sl_is_height : Array (Option Value)} {oc_is_height kV_is_height dc_is_height pm_is_height cd_is_height ct_is_height : Value}
    {f_need_row : Addr} {od_need_row an_need_row : Option Addr} {sl_need_row : Array (Option Value)} {oc_need_row kV_need_row dc_need_row pm_need_row cd_need_row ct_need_row : Value}
    {f_clash : Addr} {od_clash an_clash : Option Addr} {sl_clash : Array (Option Value)} {oc_clash kV_clash dc_clash pm_clash cd_clash ct_clash : Value}
    {f_need_going : Addr} {od_need_going an_need_going : Option Addr} {sl_need_going : Array (Option Value)} {oc_need_going kV_need_going dc_need_going pm_need_going cd_need_going ct_need_going : Value}
    {f_state_at : Addr} {od_state_at an_state_at : Option Addr} {sl_state_at : Array (Option Value)} {oc_state_at kV_state_at dc_state_at pm_state_at cd_state_at ct_state_at : Value}
    {dT_state_at : Addr} {dK_state_at : Tok} {dN_state_at : Nat}
    {dC_state_at : Value} {dD_state_at : Option Addr} {dS_state_at : Array (Option Value)}
    {f_need_state : Addr} {od_need_state an_need_state : Option Addr} {sl_need_state : Array (Option Value)} {oc_need_state kV_need_state dc_need_state pm_need_state cd_need_state ct_need_state : Value}
    {f_bits_in : Addr} {od_bits_in an_bits_in : Option Addr} {sl_bits_in : Array (Option Value)} {oc_bits_in kV_bits_in dc_bits_in pm_bits_in cd_bits_in ct_bits_in : Value}
    {f_lets : Addr} {od_lets an_lets : Option Addr} {sl_lets : Array (Option Value)} {oc_lets kV_lets dc_lets pm_lets cd_lets ct_lets : Value}
    {f_thrown : Addr} {od_thrown an_thrown : Option Addr} {sl_thrown : Array (Option Value)} {oc_thrown kV_thrown dc_thrown pm_thrown cd_thrown ct_thrown : Value}
    {f_way : Addr} {od_way an_way : Option Addr} {sl_way : Array (Option Value)} {oc_way kV_way dc_way pm_way cd_way ct_way : Value}
    {f_k08_bridge : Addr} {od_k08_bridge an_k08_bridge : Option Addr} {sl_k08_bridge : Array (Option Value)} {oc_k08_bridge kV_k08_bridge dc_k08_bridge pm_k08_bridge cd_k08_bridge ct_k08_bridge : Value}
    {f_k08_l_comes_back : Addr} {od_k08_l_comes_back an_k08_l_comes_back : Option Addr} {sl_k08_l_comes_back : Array (Option Value)} {oc_k08_l_comes_back kV_k08_l_comes_back dc_k08_l_comes_back pm_k08_l_comes_back cd_k08_l_comes_back ct_k08_l_comes_back : Value}
    {f_k08_l_goes_on : Addr} {od_k08_l_goes_on an_k08_l_goes_on : Option Addr} {sl_k08_l_goes_on : Array (Option Value)} {oc_k08_l_goes_on kV_k08_l_goes_on dc_k08_l_goes_on pm_k08_l_goes_on cd_k08_l_goes_on ct_k08_l_goes_on : Value}
    {f_k08_l_told : Addr} {od_k08_l_told an_k08_l_told : Option Addr} {sl_k08_l_told : Array (Option Value)} {oc_k08_l_told kV_k08_l_told dc_k08_l_told pm_k08_l_told cd_k08_l_told ct_k08_l_told : Value}
    {f_things : Addr} {od_things an_things : Option Addr} {sl_things : Array (Option Value)} {oc_things kV_things dc_things pm_things cd_things ct_things : Value}
    {f_k08_law : Addr} {od_k08_law an_k08_law : Option Addr} {sl_k08_law : Array (Option Value)} {oc_k08_law kV_k08_law dc_k08_law pm_k08_law cd_k08_law ct_k08_law : Value}
    {tk_MOST_HIGH : Tok}
    {tk_MOST_LONG : Tok}
    {tk_MOST_STATE : Tok}
    {C_Clash : Addr}
    {C_NoRow : Addr}
    {C_NoState : Addr}
    {C_NoThrow : Addr}
    {C_NoTurn : Addr}
    {C_NoWay : Addr}
    {C_TossError : Addr}
    {f_i_Clash : Addr} {od_i_Clash an_i_Clash : Option Addr} {sl_i_Clash : Array (Option Value)} {oc_i_Clash kV_i_Clash dc_i_Clash pm_i_Clash cd_i_Clash ct_i_Clash : Value}
    {nm_Clash q_Clash : Str} {N_Clash : Addr} {bs_Clash : List Value} {sn_Clash : List Str} {sub_Clash : List Value} {ab_Clash : Bool} {col_Clash : Option Bool} {dd_Clash : Option Addr} {m0_Clash m1_Clash m2_Clash m3_Clash m5_Clash : Option Value}
    (a_l_mixed : PySem.W.nsIn K mainGlobals "_law_mixed" = some (some (.ref f_l_mixed)))
    (l_l_mixed : K.lookup f_l_mixed = some ⟨oc_l_mixed, od_l_mixed, .func (PySem.W.fnOf "_law_mixed" "_law_mixed" (defArgs s_l_mixed) (defBody s_l_mixed) (defScope s_l_mixed) .none kV_l_mixed dc_l_mixed pm_l_mixed an_l_mixed cd_l_mixed ct_l_mixed), sl_l_mixed⟩)
    (c_l_mixed : PySem.W.codeIn K cd_l_mixed "_law_mixed" = true)
    (k_l_mixed : PySem.W.keepIn K (.ref f_l_mixed) = true)
    (a_l_mixed_up : PySem.W.nsIn K mainGlobals "_law_mixed_up" = some (some (.ref f_l_mixed_up)))
    (l_l_mixed_up : K.lookup f_l_mixed_up = some ⟨oc_l_mixed_up, od_l_mixed_up, .func (PySem.W.fnOf "_law_mixed_up" "_law_mixed_up" (defArgs s_l_mixed_up) (defBody s_l_mixed_up) (defScope s_l_mixed_up) .none kV_l_mixed_up dc_l_mixed_up pm_l_mixed_up an_l_mixed_up cd_l_mixed_up ct_l_mixed_up), sl_l_mixed_up⟩)
    (c_l_mixed_up : PySem.W.codeIn K cd_l_mixed_up "_law_mixed_up" = true)
    (k_l_mixed_up : PySem.W.keepIn K (.ref f_l_mixed_up) = true)
    (a_l_going : PySem.W.nsIn K mainGlobals "_law_going" = some (some (.ref f_l_going)))
    (l_l_going : K.lookup f_l_going = some ⟨oc_l_going, od_l_going, .func (PySem.W.fnOf "_law_going" "_law_going" (defArgs s_l_going) (defBody s_l_going) (defScope s_l_going) .none kV_l_going dc_l_going pm_l_going an_l_going cd_l_going ct_l_going), sl_l_going⟩)
    (c_l_going : PySem.W.codeIn K cd_l_going "_law_going" = true)
    (k_l_going : PySem.W.keepIn K (.ref f_l_going) = true)
    (a_k08_l_same : PySem.W.nsIn K mainGlobals "_law_same" = some (some (.ref f_k08_l_same)))
    (l_k08_l_same : K.lookup f_k08_l_same = some ⟨oc_k08_l_same, od_k08_l_same, .func (PySem.W.fnOf "_law_same" "_law_same" (defArgs s_k08_l_same) (defBody s_k08_l_same) (defScope s_k08_l_same) .none kV_k08_l_same dc_k08_l_same pm_k08_l_same an_k08_l_same cd_k08_l_same ct_k08_l_same), sl_k08_l_same⟩)
    (c_k08_l_same : PySem.W.codeIn K cd_k08_l_same "_law_same" = true)
    (k_k08_l_same : PySem.W.keepIn K (.ref f_k08_l_same) = true)
    (a_is_number : PySem.W.nsIn K mainGlobals "is_number" = some (some (.ref f_is_number)))
    (l_is_number : K.lookup f_is_number = some ⟨oc_is_number, od_is_number, .func (PySem.W.fnOf "is_number" "is_number" (defArgs s_is_number) (defBody s_is_number) (defScope s_is_number) .none kV_is_number dc_is_number pm_is_number an_is_number cd_is_number ct_is_number), sl_is_number⟩)
    (c_is_number : PySem.W.codeIn K cd_is_number "is_number" = true)
    (k_is_number : PySem.W.keepIn K (.ref f_is_number) = true)
    (a_is_height : PySem.W.nsIn K mainGlobals "is_height" = some (some (.ref f_is_height)))
    (l_is_height : K.lookup f_is_height = some ⟨oc_is_height, od_is_height, .func (PySem.W.fnOf "is_height" "is_height" (defArgs s_is_height) (defBody s_is_height) (defScope s_is_height) .none kV_is_height dc_is_height pm_is_height an_is_height cd_is_height ct_is_height), sl_is_height⟩)
    (c_is_height : PySem.W.codeIn K cd_is_height "is_height" = true)
    (k_is_height : PySem.W.keepIn K (.ref f_is_height) = true)
    (a_need_row : PySem.W.nsIn K mainGlobals "need_row" = some (some (.ref f_need_row)))
    (l_need_row : K.lookup f_need_row = some ⟨oc_need_row, od_need_row, .func (PySem.W.fnOf "need_row" "need_row" (defArgs s_need_row) (defBody s_need_row) (defScope s_need_row) .none kV_need_row dc_need_row pm_need_row an_need_row cd_need_row ct_need_row), sl_need_row⟩)
    (c_need_row : PySem.W.codeIn K cd_need_row "need_row" = true)
    (k_need_row : PySem.W.keepIn K (.ref f_need_row) = true)
    (a_clash : PySem.W.nsIn K mainGlobals "clash" = some (some (.ref f_clash)))
    (l_clash : K.lookup f_clash = some ⟨oc_clash, od_clash, .func (PySem.W.fnOf "clash" "clash" (defArgs s_clash) (defBody s_clash) (defScope s_clash) .none kV_clash dc_clash pm_clash an_clash cd_clash ct_clash), sl_clash⟩)
    (c_clash : PySem.W.codeIn K cd_clash "clash" = true)
    (k_clash : PySem.W.keepIn K (.ref f_clash) = true)
    (a_need_going : PySem.W.nsIn K mainGlobals "need_going" = some (some (.ref f_need_going)))
    (l_need_going : K.lookup f_need_going = some ⟨oc_need_going, od_need_going, .func (PySem.W.fnOf "need_going" "need_going" (defArgs s_need_going) (defBody s_need_going) (defScope s_need_going) .none kV_need_going dc_need_going pm_need_going an_need_going cd_need_going ct_need_going), sl_need_going⟩)
    (c_need_going : PySem.W.codeIn K cd_need_going "need_going" = true)
    (k_need_going : PySem.W.keepIn K (.ref f_need_going) = true)
    (a_state_at : PySem.W.nsIn K mainGlobals "state_at" = some (some (.ref f_state_at)))
    (l_state_at : K.lookup f_state_at = some ⟨oc_state_at, od_state_at, .func (PySem.W.fnOf "state_at" "state_at" (defArgs s_state_at) (defBody s_state_at) (defScope s_state_at) (.ref dT_state_at) kV_state_at dc_state_at pm_state_at an_state_at cd_state_at ct_state_at), sl_state_at⟩)
    (ld_state_at : K.lookup dT_state_at = some ⟨dC_state_at, dD_state_at, .seq #[.int 0 dK_state_at] dN_state_at, dS_state_at⟩)
    (c_state_at : PySem.W.codeIn K cd_state_at "state_at" = true)
    (k_state_at : PySem.W.keepIn K (.ref f_state_at) = true)
    (a_need_state : PySem.W.nsIn K mainGlobals "need_state" = some (some (.ref f_need_state)))
    (l_need_state : K.lookup f_need_state = some ⟨oc_need_state, od_need_state, .func (PySem.W.fnOf "need_state" "need_state" (defArgs s_need_state) (defBody s_need_state) (defScope s_need_state) .none kV_need_state dc_need_state pm_need_state an_need_state cd_need_state ct_need_state), sl_need_state⟩)
    (c_need_state : PySem.W.codeIn K cd_need_state "need_state" = true)
    (k_need_state : PySem.W.keepIn K (.ref f_need_state) = true)
    (a_bits_in : PySem.W.nsIn K mainGlobals "bits_in" = some (some (.ref f_bits_in)))
    (l_bits_in : K.lookup f_bits_in = some ⟨oc_bits_in, od_bits_in, .func (PySem.W.fnOf "bits_in" "bits_in" (defArgs s_bits_in) (defBody s_bits_in) (defScope s_bits_in) .none kV_bits_in dc_bits_in pm_bits_in an_bits_in cd_bits_in ct_bits_in), sl_bits_in⟩)
    (c_bits_in : PySem.W.codeIn K cd_bits_in "bits_in" = true)
    (k_bits_in : PySem.W.keepIn K (.ref f_bits_in) = true)
    (a_lets : PySem.W.nsIn K mainGlobals "lets" = some (some (.ref f_lets)))
    (l_lets : K.lookup f_lets = some ⟨oc_lets, od_lets, .func (PySem.W.fnOf "lets" "lets" (defArgs s_lets) (defBody s_lets) (defScope s_lets) .none kV_lets dc_lets pm_lets an_lets cd_lets ct_lets), sl_lets⟩)
    (c_lets : PySem.W.codeIn K cd_lets "lets" = true)
    (k_lets : PySem.W.keepIn K (.ref f_lets) = true)
    (a_thrown : PySem.W.nsIn K mainGlobals "thrown" = some (some (.ref f_thrown)))
    (l_thrown : K.lookup f_thrown = some ⟨oc_thrown, od_thrown, .func (PySem.W.fnOf "thrown" "thrown" (defArgs s_thrown) (defBody s_thrown) (defScope s_thrown) .none kV_thrown dc_thrown pm_thrown an_thrown cd_thrown ct_thrown), sl_thrown⟩)
    (c_thrown : PySem.W.codeIn K cd_thrown "thrown" = true)
    (k_thrown : PySem.W.keepIn K (.ref f_thrown) = true)
    (a_way : PySem.W.nsIn K mainGlobals "way" = some (some (.ref f_way)))
    (l_way : K.lookup f_way = some ⟨oc_way, od_way, .func (PySem.W.fnOf "way" "way" (defArgs s_way) (defBody s_way) (defScope s_way) .none kV_way dc_way pm_way an_way cd_way ct_way), sl_way⟩)
    (c_way : PySem.W.codeIn K cd_way "way" = true)
    (k_way : PySem.W.keepIn K (.ref f_way) = true)
    (a_k08_bridge : PySem.W.nsIn K mainGlobals "bridge" = some (some (.ref f_k08_bridge)))
    (l_k08_bridge : K.lookup f_k08_bridge = some ⟨oc_k08_bridge, od_k08_bridge, .func (PySem.W.fnOf "bridge" "bridge" (defArgs s_k08_bridge) (defBody s_k08_bridge) (defScope s_k08_bridge) .none kV_k08_bridge dc_k08_bridge pm_k08_bridge an_k08_bridge cd_k08_bridge ct_k08_bridge), sl_k08_bridge⟩)
    (c_k08_bridge : PySem.W.codeIn K cd_k08_bridge "bridge" = true)
    (k_k08_bridge : PySem.W.keepIn K (.ref f_k08_bridge) = true)
    (a_k08_l_comes_back : PySem.W.nsIn K mainGlobals "_law_comes_back" = some (some (.ref f_k08_l_comes_back)))
    (l_k08_l_comes_back : K.lookup f_k08_l_comes_back = some ⟨oc_k08_l_comes_back, od_k08_l_comes_back, .func (PySem.W.fnOf "_law_comes_back" "_law_comes_back" (defArgs s_k08_l_comes_back) (defBody s_k08_l_comes_back) (defScope s_k08_l_comes_back) .none kV_k08_l_comes_back dc_k08_l_comes_back pm_k08_l_comes_back an_k08_l_comes_back cd_k08_l_comes_back ct_k08_l_comes_back), sl_k08_l_comes_back⟩)
    (c_k08_l_comes_back : PySem.W.codeIn K cd_k08_l_comes_back "_law_comes_back" = true)
    (k_k08_l_comes_back : PySem.W.keepIn K (.ref f_k08_l_comes_back) = true)
    (a_k08_l_goes_on : PySem.W.nsIn K mainGlobals "_law_goes_on" = some (some (.ref f_k08_l_goes_on)))
    (l_k08_l_goes_on : K.lookup f_k08_l_goes_on = some ⟨oc_k08_l_goes_on, od_k08_l_goes_on, .func (PySem.W.fnOf "_law_goes_on" "_law_goes_on" (defArgs s_k08_l_goes_on) (defBody s_k08_l_goes_on) (defScope s_k08_l_goes_on) .none kV_k08_l_goes_on dc_k08_l_goes_on pm_k08_l_goes_on an_k08_l_goes_on cd_k08_l_goes_on ct_k08_l_goes_on), sl_k08_l_goes_on⟩)
    (c_k08_l_goes_on : PySem.W.codeIn K cd_k08_l_goes_on "_law_goes_on" = true)
    (k_k08_l_goes_on : PySem.W.keepIn K (.ref f_k08_l_goes_on) = true)
    (a_k08_l_told : PySem.W.nsIn K mainGlobals "_law_told" = some (some (.ref f_k08_l_told)))
    (l_k08_l_told : K.lookup f_k08_l_told = some ⟨oc_k08_l_told, od_k08_l_told, .func (PySem.W.fnOf "_law_told" "_law_told" (defArgs s_k08_l_told) (defBody s_k08_l_told) (defScope s_k08_l_told) .none kV_k08_l_told dc_k08_l_told pm_k08_l_told an_k08_l_told cd_k08_l_told ct_k08_l_told), sl_k08_l_told⟩)
    (c_k08_l_told : PySem.W.codeIn K cd_k08_l_told "_law_told" = true)
    (k_k08_l_told : PySem.W.keepIn K (.ref f_k08_l_told) = true)
    (a_things : PySem.W.nsIn K mainGlobals "things" = some (some (.ref f_things)))
    (l_things : K.lookup f_things = some ⟨oc_things, od_things, .func (PySem.W.fnOf "things" "things" (defArgs s_things) (defBody s_things) (defScope s_things) .none kV_things dc_things pm_things an_things cd_things ct_things), sl_things⟩)
    (c_things : PySem.W.codeIn K cd_things "things" = true)
    (k_things : PySem.W.keepIn K (.ref f_things) = true)
    (a_k08_law : PySem.W.nsIn K mainGlobals "law" = some (some (.ref f_k08_law)))
    (l_k08_law : K.lookup f_k08_law = some ⟨oc_k08_law, od_k08_law, .func (PySem.W.fnOf "law" "law" (defArgs s_k08_law) (defBody s_k08_law) (defScope s_k08_law) .none kV_k08_law dc_k08_law pm_k08_law an_k08_law cd_k08_law ct_k08_law), sl_k08_law⟩)
    (c_k08_law : PySem.W.codeIn K cd_k08_law "law" = true)
    (k_k08_law : PySem.W.keepIn K (.ref f_k08_law) = true)
    (z_bool : PySem.W.nsIn K mainGlobals "bool" = some none)
    (z_enumerate : PySem.W.nsIn K mainGlobals "enumerate" = some none)
    (z_int : PySem.W.nsIn K mainGlobals "int" = some none)
    (z_isinstance : PySem.W.nsIn K mainGlobals "isinstance" = some none)
    (z_len : PySem.W.nsIn K mainGlobals "len" = some none)
    (z_list : PySem.W.nsIn K mainGlobals "list" = some none)
    (z_max : PySem.W.nsIn K mainGlobals "max" = some none)
    (z_min : PySem.W.nsIn K mainGlobals "min" = some none)
    (z_range : PySem.W.nsIn K mainGlobals "range" = some none)
    (z_set : PySem.W.nsIn K mainGlobals "set" = some none)
    (z_sum : PySem.W.nsIn K mainGlobals "sum" = some none)
    (z_tuple : PySem.W.nsIn K mainGlobals "tuple" = some none)
    (n_MOST_HIGH : PySem.W.nsIn K mainGlobals "MOST_HIGH" = some (some (.int 9 tk_MOST_HIGH)))
    (n_MOST_LONG : PySem.W.nsIn K mainGlobals "MOST_LONG" = some (some (.int 40 tk_MOST_LONG)))
    (n_MOST_STATE : PySem.W.nsIn K mainGlobals "MOST_STATE" = some (some (.int 511 tk_MOST_STATE)))
    (e1_Clash : PySem.W.nsIn K mainGlobals "Clash" = some (some (.ref C_Clash)))
    (e2_Clash : PySem.W.keepIn K (.ref C_Clash) = true)
    (e3_Clash : PySem.W.subIn K (.ref C_Clash) (.type "BaseException") = some true)
    (e4_Clash : PySem.W.typeIn K (.ref C_Clash) = some (.type "type"))
    (e5_Clash : PySem.W.isClsIn K C_Clash = true)
    (e1_NoRow : PySem.W.nsIn K mainGlobals "NoRow" = some (some (.ref C_NoRow)))
    (e2_NoRow : PySem.W.keepIn K (.ref C_NoRow) = true)
    (e3_NoRow : PySem.W.subIn K (.ref C_NoRow) (.type "BaseException") = some true)
    (e4_NoRow : PySem.W.typeIn K (.ref C_NoRow) = some (.type "type"))
    (e5_NoRow : PySem.W.isClsIn K C_NoRow = true)
    (e6_NoRow : PySem.W.excIn K C_NoRow [.type "ValueError", .type "Exception", .type "BaseException", .type "object"] "ValueError.__new__" = true)
    (e1_NoState : PySem.W.nsIn K mainGlobals "NoState" = some (some (.ref C_NoState)))
    (e2_NoState : PySem.W.keepIn K (.ref C_NoState) = true)
    (e3_NoState : PySem.W.subIn K (.ref C_NoState) (.type "BaseException") = some true)
    (e4_NoState : PySem.W.typeIn K (.ref C_NoState) = some (.type "type"))
    (e5_NoState : PySem.W.isClsIn K C_NoState = true)
    (e6_NoState : PySem.W.excIn K C_NoState [.type "ValueError", .type "Exception", .type "BaseException", .type "object"] "ValueError.__new__" = true)
    (e1_NoThrow : PySem.W.nsIn K mainGlobals "NoThrow" = some (some (.ref C_NoThrow)))
    (e2_NoThrow : PySem.W.keepIn K (.ref C_NoThrow) = true)
    (e3_NoThrow : PySem.W.subIn K (.ref C_NoThrow) (.type "BaseException") = some true)
    (e4_NoThrow : PySem.W.typeIn K (.ref C_NoThrow) = some (.type "type"))
    (e5_NoThrow : PySem.W.isClsIn K C_NoThrow = true)
    (e6_NoThrow : PySem.W.excIn K C_NoThrow [.type "ValueError", .type "Exception", .type "BaseException", .type "object"] "ValueError.__new__" = true)
    (e1_NoTurn : PySem.W.nsIn K mainGlobals "NoTurn" = some (some (.ref C_NoTurn)))
    (e2_NoTurn : PySem.W.keepIn K (.ref C_NoTurn) = true)
    (e3_NoTurn : PySem.W.subIn K (.ref C_NoTurn) (.type "BaseException") = some true)
    (e4_NoTurn : PySem.W.typeIn K (.ref C_NoTurn) = some (.type "type"))
    (e5_NoTurn : PySem.W.isClsIn K C_NoTurn = true)
    (e6_NoTurn : PySem.W.excIn K C_NoTurn [.type "ValueError", .type "Exception", .type "BaseException", .type "object"] "ValueError.__new__" = true)
    (e1_NoWay : PySem.W.nsIn K mainGlobals "NoWay" = some (some (.ref C_NoWay)))
    (e2_NoWay : PySem.W.keepIn K (.ref C_NoWay) = true)
    (e3_NoWay : PySem.W.subIn K (.ref C_NoWay) (.type "BaseException") = some true)
    (e4_NoWay : PySem.W.typeIn K (.ref C_NoWay) = some (.type "type"))
    (e5_NoWay : PySem.W.isClsIn K C_NoWay = true)
    (e6_NoWay : PySem.W.excIn K C_NoWay [.type "ValueError", .type "Exception", .type "BaseException", .type "object"] "ValueError.__new__" = true)
    (e1_TossError : PySem.W.nsIn K mainGlobals "TossError" = some (some (.ref C_TossError)))
    (e2_TossError : PySem.W.keepIn K (.ref C_TossError) = true)
    (e3_TossError : PySem.W.subIn K (.ref C_TossError) (.type "BaseException") = some true)
    (e4_TossError : PySem.W.typeIn K (.ref C_TossError) = some (.type "type"))
    (e5_TossError : PySem.W.isClsIn K C_TossError = true)
    (at_Clash : PySem.W.findIn K (.ref C_Clash) "__init__" = some (some (.ref f_i_Clash)))
    (ti_Clash : PySem.W.typeIn K (.ref f_i_Clash) = some (.type "function"))
    (ox_Clash : K.lookup C_Clash = some (excClassObj nm_Clash q_Clash C_Clash N_Clash bs_Clash [.ref C_TossError, .type "ValueError", .type "Exception", .type "BaseException", .type "object"] true sn_Clash sub_Clash ab_Clash col_Clash dd_Clash m0_Clash m1_Clash m2_Clash m3_Clash m5_Clash "ValueError.__new__"))
    (sa_Clash : PySem.W.findIn K (.ref C_Clash) "__setattr__" = some (some (.builtin "object.__setattr__")))
    (fl_Clash_one : PySem.W.findIn K (.ref C_Clash) "one" = some none)
    (fl_Clash_other : PySem.W.findIn K (.ref C_Clash) "other" = some none)
    (l_i_Clash : K.lookup f_i_Clash = some ⟨oc_i_Clash, od_i_Clash, .func (PySem.W.fnOf "__init__" "Clash.__init__" (defArgs s_i_Clash) (defBody s_i_Clash) (defScope s_i_Clash) .none kV_i_Clash dc_i_Clash pm_i_Clash an_i_Clash cd_i_Clash ct_i_Clash), sl_i_Clash⟩)
    (c_i_Clash : PySem.W.codeIn K cd_i_Clash "Clash.__init__" = true)
    (k_i_Clash : PySem.W.keepIn K (.ref f_i_Clash) = true)
    (rd_TossError : PySem.W.readsIn K C_TossError (.type "type") = true)
    (ga_TossError : PySem.W.specialIn K (.ref C_TossError) "__getattribute__" = some (some (.builtin "type.__getattribute__")))
    (at_TossError : PySem.W.findCls K (.ref C_TossError) (.type "type") "__init__" = some (.val (.builtin "ValueError.__init__")))
    (s_NoRow_NoRow : PySem.W.subIn K (.ref C_NoRow) (.ref C_NoRow) = some true)
    (s_Clash_NoRow : PySem.W.subIn K (.ref C_Clash) (.ref C_NoRow) = some false)
    (s_Clash_Clash : PySem.W.subIn K (.ref C_Clash) (.ref C_Clash) = some true)
    (s_NoWay_NoRow : PySem.W.subIn K (.ref C_NoWay) (.ref C_NoRow) = some false)
    (s_NoWay_Clash : PySem.W.subIn K (.ref C_NoWay) (.ref C_Clash) = some false)
    (s_NoWay_NoWay : PySem.W.subIn K (.ref C_NoWay) (.ref C_NoWay) = some true) :
    ∃ fd : FuncData, (∀ (s : Shared) (v : Value), BindsTo s fd ⟨[v], []⟩ [("_law_script", v)]) ∧ ∀ base : Heap, K.In base → base.Ns mainGlobals mg → FnOk l.prog w K mg base (L2.CX l.prog w) 9 fa fd ["_law_script"] (spL K) := by
  have e := hfa.symm.trans (PySem.W.mg_of X G a_k08_law)
  cases e
  let c : Cs := { toss := C_TossError, norow := C_NoRow, clash := C_Clash, nostate := C_NoState, nothrow := C_NoThrow, noturn := C_NoTurn, noway := C_NoWay, nolog := (0 : Nat), notext := (0 : Nat), f_l_any := (0 : Nat), f_l_going := f_l_going, f_turned := (0 : Nat), f_repeated := (0 : Nat), hall := (0 : Nat) }
  have F_l_mixed := fun_mk (st := s_l_mixed) l_l_mixed c_l_mixed k_l_mixed
  have D_l_mixed : DefAt K mg "_law_mixed" s_l_mixed ["_law_cell", "_law_k"] f_l_mixed := ⟨⟨_, F_l_mixed, F_l_mixed.binds fun _ _ _ _ _ _ us hl => match us, hl with | [_, _], _ => rfl⟩, PySem.W.mg_of X G a_l_mixed⟩
  have F_l_mixed_up := fun_mk (st := s_l_mixed_up) l_l_mixed_up c_l_mixed_up k_l_mixed_up
  have D_l_mixed_up : DefAt K mg "_law_mixed_up" s_l_mixed_up ["_law_row", "_law_cell"] f_l_mixed_up := ⟨⟨_, F_l_mixed_up, F_l_mixed_up.binds fun _ _ _ _ _ _ us hl => match us, hl with | [_, _], _ => rfl⟩, PySem.W.mg_of X G a_l_mixed_up⟩
  have F_l_going := fun_mk (st := s_l_going) l_l_going c_l_going k_l_going
  have D_l_going : DefAt K mg "_law_going" s_l_going ["_law_cell", "_law_many"] f_l_going := ⟨⟨_, F_l_going, F_l_going.binds fun _ _ _ _ _ _ us hl => match us, hl with | [_, _], _ => rfl⟩, PySem.W.mg_of X G a_l_going⟩
  have F_k08_l_same := fun_mk (st := s_k08_l_same) l_k08_l_same c_k08_l_same k_k08_l_same
  have D_k08_l_same : DefAt K mg "_law_same" s_k08_l_same ["_law_cell", "_law_many", "_law_height"] f_k08_l_same := ⟨⟨_, F_k08_l_same, F_k08_l_same.binds fun _ _ _ _ _ _ us hl => match us, hl with | [_, _, _], _ => rfl⟩, PySem.W.mg_of X G a_k08_l_same⟩
  have F_is_number := fun_mk (st := s_is_number) l_is_number c_is_number k_is_number
  have D_is_number : DefAt K mg "is_number" s_is_number ["thing"] f_is_number := ⟨⟨_, F_is_number, F_is_number.binds fun _ _ _ _ _ _ us hl => match us, hl with | [_], _ => rfl⟩, PySem.W.mg_of X G a_is_number⟩
  have F_is_height := fun_mk (st := s_is_height) l_is_height c_is_height k_is_height
  have D_is_height : DefAt K mg "is_height" s_is_height ["thing"] f_is_height := ⟨⟨_, F_is_height, F_is_height.binds fun _ _ _ _ _ _ us hl => match us, hl with | [_], _ => rfl⟩, PySem.W.mg_of X G a_is_height⟩
  have F_need_row := fun_mk (st := s_need_row) l_need_row c_need_row k_need_row
  have D_need_row : DefAt K mg "need_row" s_need_row ["thing"] f_need_row := ⟨⟨_, F_need_row, F_need_row.binds fun _ _ _ _ _ _ us hl => match us, hl with | [_], _ => rfl⟩, PySem.W.mg_of X G a_need_row⟩
  have F_clash := fun_mk (st := s_clash) l_clash c_clash k_clash
  have D_clash : DefAt K mg "clash" s_clash ["row"] f_clash := ⟨⟨_, F_clash, F_clash.binds fun _ _ _ _ _ _ us hl => match us, hl with | [_], _ => rfl⟩, PySem.W.mg_of X G a_clash⟩
  have F_need_going := fun_mk (st := s_need_going) l_need_going c_need_going k_need_going
  have D_need_going : DefAt K mg "need_going" s_need_going ["row"] f_need_going := ⟨⟨_, F_need_going, F_need_going.binds fun _ _ _ _ _ _ us hl => match us, hl with | [_], _ => rfl⟩, PySem.W.mg_of X G a_need_going⟩
  have G_state_at : FunD K "state_at" "state_at" (defArgs s_state_at) (defBody s_state_at) (defScope s_state_at) [.int 0] [] f_state_at _ := ⟨⟨_, _, _, _, _, _, _, _, _, _, rfl, l_state_at, c_state_at, .inr ⟨(fun z => nomatch z), _, _, [_], _, rfl, ld_state_at, rfl, Paired.cons ⟨_, rfl⟩ Paired.nil⟩, .inl rfl⟩, k_state_at⟩
  have D_state_at : DefAtD K mg "state_at" s_state_at ["row", "turn"] (.int 0) f_state_at := ⟨⟨_, G_state_at, dflt_all (G_state_at.binds1 2 1 (fun z => nomatch z) rfl fun T kV doc pm an cdv ct us its hu hi => match us, its, hu, hi with | [_, _], [_], _, _ => ⟨_, rfl, rfl⟩), G_state_at.binds1 1 0 (fun z => nomatch z) rfl fun T kV doc pm an cdv ct us its hu hi => match us, its, hu, hi with | [_], [_], _, _ => ⟨_, rfl, rfl⟩⟩, PySem.W.mg_of X G a_state_at⟩
  have F_need_state := fun_mk (st := s_need_state) l_need_state c_need_state k_need_state
  have D_need_state : DefAt K mg "need_state" s_need_state ["thing"] f_need_state := ⟨⟨_, F_need_state, F_need_state.binds fun _ _ _ _ _ _ us hl => match us, hl with | [_], _ => rfl⟩, PySem.W.mg_of X G a_need_state⟩
  have F_bits_in := fun_mk (st := s_bits_in) l_bits_in c_bits_in k_bits_in
  have D_bits_in : DefAt K mg "bits_in" s_bits_in ["state"] f_bits_in := ⟨⟨_, F_bits_in, F_bits_in.binds fun _ _ _ _ _ _ us hl => match us, hl with | [_], _ => rfl⟩, PySem.W.mg_of X G a_bits_in⟩
  have F_lets := fun_mk (st := s_lets) l_lets c_lets k_lets
  have D_lets : DefAt K mg "lets" s_lets ["state"] f_lets := ⟨⟨_, F_lets, F_lets.binds fun _ _ _ _ _ _ us hl => match us, hl with | [_], _ => rfl⟩, PySem.W.mg_of X G a_lets⟩
  have F_thrown := fun_mk (st := s_thrown) l_thrown c_thrown k_thrown
  have D_thrown : DefAt K mg "thrown" s_thrown ["state", "height"] f_thrown := ⟨⟨_, F_thrown, F_thrown.binds fun _ _ _ _ _ _ us hl => match us, hl with | [_, _], _ => rfl⟩, PySem.W.mg_of X G a_thrown⟩
  have F_way := fun_mk (st := s_way) l_way c_way k_way
  have D_way : DefAt K mg "way" s_way ["one", "other"] f_way := ⟨⟨_, F_way, F_way.binds fun _ _ _ _ _ _ us hl => match us, hl with | [_, _], _ => rfl⟩, PySem.W.mg_of X G a_way⟩
  have F_k08_bridge := fun_mk (st := s_k08_bridge) l_k08_bridge c_k08_bridge k_k08_bridge
  have D_k08_bridge : DefAt K mg "bridge" s_k08_bridge ["one", "other"] f_k08_bridge := ⟨⟨_, F_k08_bridge, F_k08_bridge.binds fun _ _ _ _ _ _ us hl => match us, hl with | [_, _], _ => rfl⟩, PySem.W.mg_of X G a_k08_bridge⟩
  have F_k08_l_comes_back := fun_mk (st := s_k08_l_comes_back) l_k08_l_comes_back c_k08_l_comes_back k_k08_l_comes_back
  have D_k08_l_comes_back : DefAt K mg "_law_comes_back" s_k08_l_comes_back ["_law_row", "_law_state"] f_k08_l_comes_back := ⟨⟨_, F_k08_l_comes_back, F_k08_l_comes_back.binds fun _ _ _ _ _ _ us hl => match us, hl with | [_, _], _ => rfl⟩, PySem.W.mg_of X G a_k08_l_comes_back⟩
  have F_k08_l_goes_on := fun_mk (st := s_k08_l_goes_on) l_k08_l_goes_on c_k08_l_goes_on k_k08_l_goes_on
  have D_k08_l_goes_on : DefAt K mg "_law_goes_on" s_k08_l_goes_on ["_law_row"] f_k08_l_goes_on := ⟨⟨_, F_k08_l_goes_on, F_k08_l_goes_on.binds fun _ _ _ _ _ _ us hl => match us, hl with | [_], _ => rfl⟩, PySem.W.mg_of X G a_k08_l_goes_on⟩
  have F_k08_l_told := fun_mk (st := s_k08_l_told) l_k08_l_told c_k08_l_told k_k08_l_told
  have D_k08_l_told : DefAt K mg "_law_told" s_k08_l_told ["_law_one", "_law_other"] f_k08_l_told := ⟨⟨_, F_k08_l_told, F_k08_l_told.binds fun _ _ _ _ _ _ us hl => match us, hl with | [_, _], _ => rfl⟩, PySem.W.mg_of X G a_k08_l_told⟩
  have F_things := fun_mk (st := s_things) l_things c_things k_things
  have D_things : DefAt K mg "things" s_things ["row"] f_things := ⟨⟨_, F_things, F_things.binds fun _ _ _ _ _ _ us hl => match us, hl with | [_], _ => rfl⟩, PySem.W.mg_of X G a_things⟩
  have F_k08_law := fun_mk (st := s_k08_law) l_k08_law c_k08_law k_k08_law
  have F_i_Clash := fun_mk (st := s_i_Clash) l_i_Clash c_i_Clash k_i_Clash
  have b_i_Clash := F_i_Clash.binds (ps := ["self", "one", "other"]) fun _ _ _ _ _ _ us hl => match us, hl with | [_, _, _], _ => rfl
  have B_TossError : ExB K mg "TossError" C_TossError := ⟨PySem.W.mg_of X G e1_TossError, rd_TossError, ga_TossError, at_TossError⟩
  have T : ∀ base : Heap, Txt l.prog w K mg base c := fun base => { b_bool := PySem.W.mg_none_of X G z_bool, b_enumerate := PySem.W.mg_none_of X G z_enumerate, b_int := PySem.W.mg_none_of X G z_int, b_isinstance := PySem.W.mg_none_of X G z_isinstance, b_len := PySem.W.mg_none_of X G z_len, b_list := PySem.W.mg_none_of X G z_list, b_max := PySem.W.mg_none_of X G z_max, b_min := PySem.W.mg_none_of X G z_min, b_range := PySem.W.mg_none_of X G z_range, b_set := PySem.W.mg_none_of X G z_set, b_sum := PySem.W.mg_none_of X G z_sum, b_tuple := PySem.W.mg_none_of X G z_tuple, k_MOST_HIGH := ⟨tk_MOST_HIGH, PySem.W.mg_of X G n_MOST_HIGH⟩, k_MOST_LONG := ⟨tk_MOST_LONG, PySem.W.mg_of X G n_MOST_LONG⟩, k_MOST_STATE := ⟨tk_MOST_STATE, PySem.W.mg_of X G n_MOST_STATE⟩, x_Clash := { g := PySem.W.mg_of X G e1_Clash, kp := e2_Clash, sb := e3_Clash, ty := e4_Clash, ic := e5_Clash }, x_NoRow := { g := PySem.W.mg_of X G e1_NoRow, kp := e2_NoRow, sb := e3_NoRow, ty := e4_NoRow, ic := e5_NoRow, xq := e6_NoRow }, x_NoState := { g := PySem.W.mg_of X G e1_NoState, kp := e2_NoState, sb := e3_NoState, ty := e4_NoState, ic := e5_NoState, xq := e6_NoState }, x_NoThrow := { g := PySem.W.mg_of X G e1_NoThrow, kp := e2_NoThrow, sb := e3_NoThrow, ty := e4_NoThrow, ic := e5_NoThrow, xq := e6_NoThrow }, x_NoTurn := { g := PySem.W.mg_of X G e1_NoTurn, kp := e2_NoTurn, sb := e3_NoTurn, ty := e4_NoTurn, ic := e5_NoTurn, xq := e6_NoTurn }, x_NoWay := { g := PySem.W.mg_of X G e1_NoWay, kp := e2_NoWay, sb := e3_NoWay, ty := e4_NoWay, ic := e5_NoWay, xq := e6_NoWay }, x_TossError := { g := PySem.W.mg_of X G e1_TossError, kp := e2_TossError, sb := e3_TossError, ty := e4_TossError, ic := e5_TossError }, r_Clash := in_Clash { g := PySem.W.mg_of X G e1_Clash, kp := e2_Clash, sb := e3_Clash, ty := e4_Clash, ic := e5_Clash, ox := ⟨⟨_, _, _, _, _, _, _, _, _, _, _, _, _, _, _, ox_Clash, refs_toss⟩, sa_Clash, e3_Clash, e4_Clash, e2_Clash⟩, at_ := at_Clash, tI := ti_Clash } fl_Clash_one fl_Clash_other B_TossError F_i_Clash b_i_Clash }
  have N : Ex08 K c := ⟨(exm_any e3_NoRow e5_NoRow e4_NoRow s_NoRow_NoRow), (exm_any e3_NoRow e5_NoRow e4_NoRow s_Clash_NoRow), (exm_any e3_Clash e5_Clash e4_Clash s_Clash_Clash), (exm_any e3_NoRow e5_NoRow e4_NoRow s_NoWay_NoRow), (exm_any e3_Clash e5_Clash e4_Clash s_NoWay_Clash), (exm_any e3_NoWay e5_NoWay e4_NoWay s_NoWay_NoWay)⟩
  refine ⟨PySem.W.fnOf "law" "law" (defArgs s_k08_law) (defBody s_k08_law) (defScope s_k08_law) .none kV_k08_law dc_k08_law pm_k08_law an_k08_law cd_k08_law ct_k08_law, fun s v => .of_eq rfl, fun base _ _ => ?_⟩
  have p_l_mixed := pd_l_mixed (base := base) (c := c) (T base) D_l_mixed 
  have p_l_mixed_up := pd_l_mixed_up (base := base) (c := c) (T base) D_l_mixed_up p_l_mixed
  have p_l_going := pd_l_going (base := base) (c := c) (T base) D_l_going p_l_mixed_up p_l_mixed
  have p_k08_l_same := pd_k08_l_same (base := base) (c := c) (T base) D_k08_l_same p_l_going
  have p_is_number := pd_is_number (base := base) (c := c) (T base) D_is_number 
  have p_is_height := pd_is_height (base := base) (c := c) (T base) D_is_height p_is_number
  have p_need_row := pd_need_row (base := base) (c := c) (T base) D_need_row p_is_height
  have p_clash := pd_clash (base := base) (c := c) (T base) D_clash p_need_row
  have p_need_going := pd_need_going (base := base) (c := c) (T base) D_need_going p_clash
  obtain ⟨p_state_at, pd_state_at⟩ := pd_state_at (base := base) (c := c) (T base) D_state_at p_need_going p_is_number
  have p_need_state := pd_need_state (base := base) (c := c) (T base) D_need_state p_is_number
  have p_bits_in := pd_bits_in (base := base) (c := c) (T base) D_bits_in 
  have p_lets := pd_lets (base := base) (c := c) (T base) D_lets p_need_state
  have p_thrown := pd_thrown (base := base) (c := c) (T base) D_thrown p_lets p_is_number p_need_state
  have p_way := pd_way (base := base) (c := c) (T base) D_way p_need_state p_bits_in p_lets p_thrown
  have p_k08_bridge := pd_k08_bridge (base := base) (c := c) (T base) D_k08_bridge pd_state_at p_way
  have p_k08_l_comes_back := pd_k08_l_comes_back (base := base) (c := c) (T base) D_k08_l_comes_back p_lets p_thrown
  have p_k08_l_goes_on := pd_k08_l_goes_on (base := base) (c := c) (T base) D_k08_l_goes_on 
  have p_k08_l_told := pd_k08_l_told (base := base) (c := c) (T base) N D_k08_l_told p_k08_bridge
  have p_things := pd_things (base := base) (c := c) (T base) D_things p_need_going
  exact fn_k08_law (base := base) (c := c) (T base) F_k08_law p_l_mixed p_k08_l_same p_k08_bridge p_k08_l_comes_back pd_state_at p_k08_l_goes_on p_k08_l_told p_things
theorem walk {l : PySem.W.OpenLaw} {q : Program} {loose : List Str} {XP : (Str → Option Value) → Heap → Prop} {YP : World → Heap → Prop} {d : DefRec} {K : Params → PySem.W.Frag} (hn : l.most = some 63) (hdf : d.params.defaults = [])
    (hY : ∀ (w : World) (h : Heap), YP w h → (K w.params).In h)
    (F : ∀ (w : World) (mg : Str → Option Value) (fa : Addr) (h : Heap), (K w.params).In h → h.Ns mainGlobals mg → mg d.name = some (.ref fa) →
      ∃ fd : FuncData, (∀ (s : Shared) (u : Value), BindsTo s fd ⟨[u], []⟩ [("_law_script", u)]) ∧ ∀ base : Heap, (K w.params).In base → base.Ns mainGlobals mg → FnOk l.prog w (K w.params) mg base (L2.CX l.prog w) 9 fa fd ["_law_script"] (spL (K w.params))) :
    PySem.W.WalkO q loose XP YP l.row.toRowW d [] (fun f vs => PySem.call f vs) :=
  walkL hn hdf (by decide) hY F
end Tie
open PySem PySem.W PyProof.Rows in
set_option maxRecDepth 100000 in
set_option maxHeartbeats 0 in
theorem PySem.Challenge.cw_tossrow_k08_whole_joined_rows_holds : PySem.Challenge.rw_tossrow_k08_whole_joined_rows.Holds := by
  w_on; o_law; k_head; (case hw => w_witness2)
  k_fill
  refine Tie.walk (l := PySem.Challenge.rw_tossrow_k08_whole_joined_rows) rfl rfl (fun w h Y => PySem.W.kIn_of Y) ?F
  case F =>
    intro w mg fa h KX G hmg
    refine' Tie.all_mk KX G hmg ?a_l_mixed ?l_l_mixed ?c_l_mixed ?k_l_mixed ?a_l_mixed_up ?l_l_mixed_up ?c_l_mixed_up ?k_l_mixed_up ?a_l_going ?l_l_going ?c_l_going ?k_l_going ?a_k08_l_same ?l_k08_l_same ?c_k08_l_same ?k_k08_l_same ?a_is_number ?l_is_number ?c_is_number ?k_is_number ?a_is_height ?l_is_height ?c_is_height ?k_is_height ?a_need_row ?l_need_row ?c_need_row ?k_need_row ?a_clash ?l_clash ?c_clash ?k_clash ?a_need_going ?l_need_going ?c_need_going ?k_need_going ?a_state_at ?l_state_at ?ld_state_at ?c_state_at ?k_state_at ?a_need_state ?l_need_state ?c_need_state ?k_need_state ?a_bits_in ?l_bits_in ?c_bits_in ?k_bits_in ?a_lets ?l_lets ?c_lets ?k_lets ?a_thrown ?l_thrown ?c_thrown ?k_thrown ?a_way ?l_way ?c_way ?k_way ?a_k08_bridge ?l_k08_bridge ?c_k08_bridge ?k_k08_bridge ?a_k08_l_comes_back ?l_k08_l_comes_back ?c_k08_l_comes_back ?k_k08_l_comes_back ?a_k08_l_goes_on ?l_k08_l_goes_on ?c_k08_l_goes_on ?k_k08_l_goes_on ?a_k08_l_told ?l_k08_l_told ?c_k08_l_told ?k_k08_l_told ?a_things ?l_things ?c_things ?k_things ?a_k08_law ?l_k08_law ?c_k08_law ?k_k08_law ?z_bool ?z_enumerate ?z_int ?z_isinstance ?z_len ?z_list ?z_max ?z_min ?z_range ?z_set ?z_sum ?z_tuple ?n_MOST_HIGH ?n_MOST_LONG ?n_MOST_STATE ?e1_Clash ?e2_Clash ?e3_Clash ?e4_Clash ?e5_Clash ?e1_NoRow ?e2_NoRow ?e3_NoRow ?e4_NoRow ?e5_NoRow ?e6_NoRow ?e1_NoState ?e2_NoState ?e3_NoState ?e4_NoState ?e5_NoState ?e6_NoState ?e1_NoThrow ?e2_NoThrow ?e3_NoThrow ?e4_NoThrow ?e5_NoThrow ?e6_NoThrow ?e1_NoTurn ?e2_NoTurn ?e3_NoTurn ?e4_NoTurn ?e5_NoTurn ?e6_NoTurn ?e1_NoWay ?e2_NoWay ?e3_NoWay ?e4_NoWay ?e5_NoWay ?e6_NoWay ?e1_TossError ?e2_TossError ?e3_TossError ?e4_TossError ?e5_TossError ?at_Clash ?ti_Clash ?ox_Clash ?sa_Clash ?fl_Clash_one ?fl_Clash_other ?l_i_Clash ?c_i_Clash ?k_i_Clash ?rd_TossError ?ga_TossError ?at_TossError ?s_NoRow_NoRow ?s_Clash_NoRow ?s_Clash_Clash ?s_NoWay_NoRow ?s_NoWay_Clash ?s_NoWay_NoWay
    (case a_l_mixed => k_is)
    (case l_l_mixed => k_is)
    (case c_l_mixed => k_is)
    (case k_l_mixed => k_is)
    (case a_l_mixed_up => k_is)
    (case l_l_mixed_up => k_is)
    (case c_l_mixed_up => k_is)
    (case k_l_mixed_up => k_is)
    (case a_l_going => k_is)
    (case l_l_going => k_is)
    (case c_l_going => k_is)
    (case k_l_going => k_is)
    (case a_k08_l_same => k_is)
    (case l_k08_l_same => k_is)
    (case c_k08_l_same => k_is)
    (case k_k08_l_same => k_is)
    (case a_is_number => k_is)
    (case l_is_number => k_is)
    (case c_is_number => k_is)
    (case k_is_number => k_is)
    (case a_is_height => k_is)
    (case l_is_height => k_is)
    (case c_is_height => k_is)
    (case k_is_height => k_is)
    (case a_need_row => k_is)
    (case l_need_row => k_is)
    (case c_need_row => k_is)
    (case k_need_row => k_is)
    (case a_clash => k_is)
    (case l_clash => k_is)
    (case c_clash => k_is)
    (case k_clash => k_is)
    (case a_need_going => k_is)
    (case l_need_going => k_is)
    (case c_need_going => k_is)
    (case k_need_going => k_is)
    (case a_state_at => k_is)
    (case l_state_at => k_is)
    (case ld_state_at => k_is)
    (case c_state_at => k_is)
    (case k_state_at => k_is)
    (case a_need_state => k_is)
    (case l_need_state => k_is)
    (case c_need_state => k_is)
    (case k_need_state => k_is)
    (case a_bits_in => k_is)
    (case l_bits_in => k_is)
    (case c_bits_in => k_is)
    (case k_bits_in => k_is)
    (case a_lets => k_is)
    (case l_lets => k_is)
    (case c_lets => k_is)
    (case k_lets => k_is)
    (case a_thrown => k_is)
    (case l_thrown => k_is)
    (case c_thrown => k_is)
    (case k_thrown => k_is)
    (case a_way => k_is)
    (case l_way => k_is)
    (case c_way => k_is)
    (case k_way => k_is)
    (case a_k08_bridge => k_is)
    (case l_k08_bridge => k_is)
    (case c_k08_bridge => k_is)
    (case k_k08_bridge => k_is)
    (case a_k08_l_comes_back => k_is)
    (case l_k08_l_comes_back => k_is)
    (case c_k08_l_comes_back => k_is)
    (case k_k08_l_comes_back => k_is)
    (case a_k08_l_goes_on => k_is)
    (case l_k08_l_goes_on => k_is)
    (case c_k08_l_goes_on => k_is)
    (case k_k08_l_goes_on => k_is)
    (case a_k08_l_told => k_is)
    (case l_k08_l_told => k_is)
    (case c_k08_l_told => k_is)
    (case k_k08_l_told => k_is)
    (case a_things => k_is)
    (case l_things => k_is)
    (case c_things => k_is)
    (case k_things => k_is)
    (case a_k08_law => k_is)
    (case l_k08_law => k_is)
    (case c_k08_law => k_is)
    (case k_k08_law => k_is)
    (case z_bool => k_is)
    (case z_enumerate => k_is)
    (case z_int => k_is)
    (case z_isinstance => k_is)
    (case z_len => k_is)
    (case z_list => k_is)
    (case z_max => k_is)
    (case z_min => k_is)
    (case z_range => k_is)
    (case z_set => k_is)
    (case z_sum => k_is)
    (case z_tuple => k_is)
    (case n_MOST_HIGH => k_is)
    (case n_MOST_LONG => k_is)
    (case n_MOST_STATE => k_is)
    (case e1_Clash => k_is)
    (case e2_Clash => k_is)
    (case e3_Clash => k_is)
    (case e4_Clash => k_is)
    (case e5_Clash => k_is)
    (case e1_NoRow => k_is)
    (case e2_NoRow => k_is)
    (case e3_NoRow => k_is)
    (case e4_NoRow => k_is)
    (case e5_NoRow => k_is)
    (case e6_NoRow => k_exc)
    (case e1_NoState => k_is)
    (case e2_NoState => k_is)
    (case e3_NoState => k_is)
    (case e4_NoState => k_is)
    (case e5_NoState => k_is)
    (case e6_NoState => k_exc)
    (case e1_NoThrow => k_is)
    (case e2_NoThrow => k_is)
    (case e3_NoThrow => k_is)
    (case e4_NoThrow => k_is)
    (case e5_NoThrow => k_is)
    (case e6_NoThrow => k_exc)
    (case e1_NoTurn => k_is)
    (case e2_NoTurn => k_is)
    (case e3_NoTurn => k_is)
    (case e4_NoTurn => k_is)
    (case e5_NoTurn => k_is)
    (case e6_NoTurn => k_exc)
    (case e1_NoWay => k_is)
    (case e2_NoWay => k_is)
    (case e3_NoWay => k_is)
    (case e4_NoWay => k_is)
    (case e5_NoWay => k_is)
    (case e6_NoWay => k_exc)
    (case e1_TossError => k_is)
    (case e2_TossError => k_is)
    (case e3_TossError => k_is)
    (case e4_TossError => k_is)
    (case e5_TossError => k_is)
    (case at_Clash => k_is)
    (case ti_Clash => k_is)
    (case ox_Clash => k_is)
    (case sa_Clash => k_is)
    (case fl_Clash_one => k_is)
    (case fl_Clash_other => k_is)
    (case l_i_Clash => k_is)
    (case c_i_Clash => k_is)
    (case k_i_Clash => k_is)
    (case rd_TossError => k_is)
    (case ga_TossError => k_is)
    (case at_TossError => k_is)
    (case s_NoRow_NoRow => k_is)
    (case s_Clash_NoRow => k_is)
    (case s_Clash_Clash => k_is)
    (case s_NoWay_NoRow => k_is)
    (case s_NoWay_Clash => k_is)
    (case s_NoWay_NoWay => k_is)
