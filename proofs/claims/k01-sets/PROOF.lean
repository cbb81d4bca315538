import PyProof.Rows.All
import Wide.All
import OpenK.AllK
import Wide.FinOn
import HandS.ForMost
import HandS.Walk
import HandS.Strs
import HandS.Conv
import HandS.Evl
import HandS.IsInst
import HandS.Comp
import HandS.EndTab
import HandS.Exc
import HandS.ExcCtx
import HandS.ExcField
import HandS.ExcInit
import HandS.ExcIs
import HandS.ExcOwn
import HandS.HotCalls
import HandS.Lambda
import KE.KExcIs
import PyProof.StrBlock2
import PySem.Challenge.RW_shiftrow_k01_sets_refused
set_option Elab.async false
set_option linter.all false
set_option maxRecDepth 100000
set_option maxHeartbeats 4000000
/-! own rules over the layer: list(text), len(set(text)) -/
namespace SrX
open PySem PySem.Spec PyProof.Rows L2

/-- the text of these signs -/
def tx (l : List Nat) : Str := ⟨l.toArray⟩
/-- one sign as a text -/
abbrev sg (c : Nat) : V := .str ⟨#[c]⟩
def sgs (z : Str) : List V := z.cps.toList.map sg

theorem call_list_sg {X : Cx} (hc : X.calm = true) : CallR X (.type "list") (fun xs H Q => ∃ z : Str, xs = [.str z] ∧ z.length ≤ sizeLine ∧ ∀ q, H q = none → Q (.ref q) (upd H q (.lst (sgs z)))) := by
  intro pins s σ H xs us Q I r h
  obtain ⟨z, rfl, hz, q⟩ := h
  obtain ⟨u, rfl, rx⟩ := vals1 r
  obtain ⟨t, rfl⟩ := rx
  have hzz : z.cps.size ≤ sizeLine := hz
  refine call_list_str (I.ok.hd hc) z t (fun h1 tk acc c1 hk e hi => ?_) hzz
  refine ⟨.ref s.heap.objs.size, upd H s.heap.objs.size (.lst (sgs z)), I.laid hk (Nat.le_refl _) ⟨?_, acc.toList, c1, ?_, ?_⟩, rfl, q _ (I.hok.fresh (Nat.le_refl _))⟩
  · unfold sgs; rw [List.length_map, Array.length_toList]; exact hzz
  · refine vals_of_at (by unfold sgs; rw [List.length_map, Array.length_toList, Array.length_toList]; exact hi.1.symm) fun j x w h3 h4 => ?_
    obtain ⟨c, t2, hc2, rfl⟩ := hi.2 j w (by rw [← Array.getElem?_toList]; exact h4)
    have e3 : (sgs z)[j]? = some (sg c) := by
      unfold sgs
      rw [List.getElem?_map, Array.getElem?_toList, hc2]; rfl
    rw [e3] at h3
    cases h3
    exact ⟨_, rfl⟩
  · rw [Array.toArray_toList]; exact e

/-! ### sets of a text's signs -/
def stS (a : List Str) (x : Str) : List Str := if a.any (· == x) then a else a ++ [x]
def fmS (val : Nat → Str) (i : Nat) : List Str := ((List.range i).map val).foldl stS []
theorem fmS_succ (val : Nat → Str) (i : Nat) : fmS val (i + 1) = stS (fmS val i) (val i) := by
  unfold fmS
  rw [List.range_succ, List.map_append, List.foldl_append]
  rfl
theorem stS_len (a : List Str) (x : Str) : (stS a x).length = if a.any (· == x) then a.length else a.length + 1 := by
  unfold stS
  split <;> simp
theorem fmS_le (val : Nat → Str) : ∀ i, (fmS val i).length ≤ i
  | 0 => Nat.le_refl _
  | i + 1 => by
    have ih := fmS_le val i
    rw [fmS_succ, stS_len]
    split <;> omega
theorem stS_any (a : List Str) (x k : Str) : (stS a x).any (· == k) = (a.any (· == k) || decide (k = x)) := by
  unfold stS
  by_cases h : a.any (· == x) = true
  · rw [if_pos h]
    by_cases e : k = x
    · subst e; rw [h]; simp
    · simp [e]
  · rw [if_neg h, List.any_append]
    by_cases e : k = x
    · subst e; simp
    · have hb : (x == k) = false := by simpa [beq_iff_eq] using (fun z : x = k => e z.symm)
      simp [hb, e]

section
variable {prog : Program} {w : World} {A : Around} {R : Result → Shared → Prop} {I : Addr} {fp wr : List Addr} {G : Array GenState → Array GenState → Prop} {n : Nat} {P : Nat → Value → Prop} {St : Nat → Shared → Prop}
theorem loopSg (W : WalksS prog w A.in1 I fp wr G n P St) (S : Addr) (hSf : S ∉ fp) (val : Nat → Str) (hn : n + 1 < scanBound) (hval : ∀ i v, P i v → ∃ t, v = .str (val i) t) :
    ∀ (k i : Nat) (s : Shared), n - i = k → i ≤ n → St i s → s.heap.SetOf (PySem.strKind prog w) S (fun q => (fmS val i).any (· == q)) (fmS val i).length →
      (∀ s1, Moved (S :: wr) G s s1 → s1.heap.SetOf (PySem.strKind prog w) S (fun q => (fmS val n).any (· == q)) (fmS val n).length → R (.ok (.ret .none)) s1) →
      codeAny (model prog w) A (.builtin "set.update.loop" ⟨[.ref S, .ref I], []⟩) R s := by
  have hSw : S ∉ wr := fun h => hSf (W.sub _ h)
  have hsub : ∀ b ∈ wr, b ∈ S :: wr := fun b hb => List.mem_cons_of_mem _ hb
  intro k
  induction k with
  | zero =>
    intro i s hk hi hst hS hR
    have hin : i = n := by omega
    subst hin
    refine codeAny_builtin PyProof.Rows.F.entry_set_update_loop ?_
    rw [Around.under_plainId PyProof.Rows.F.plain_set_update_loop _]
    show wpAny _ A.in1 (pyNext (.ref I) >>= _) _ _ s
    refine wpAny_bind (W.done s _ _ hst fun s1 hm => ?_)
    show wpAny _ A.in1 (ret Value.none) _ _ s1
    refine wpAny_pure (hR s1 (hm.mono hsub) ?_)
    obtain ⟨o, es, ep, t, ho, r⟩ := hS
    exact ⟨o, es, ep, t, hm.heap S _ hSw ho, r⟩
  | succ k ih =>
    intro i s hk hi hst hS hR
    have hlt : i < n := by omega
    refine codeAny_builtin PyProof.Rows.F.entry_set_update_loop ?_
    rw [Around.under_plainId PyProof.Rows.F.plain_set_update_loop _]
    show wpAny _ A.in1 (pyNext (.ref I) >>= _) _ _ s
    refine wpAny_bind (W.item i s _ _ hlt hst fun v s1 hP hst1 hm => ?_)
    obtain ⟨t, rfl⟩ := hval i v hP
    have hS1 : s1.heap.SetOf (PySem.strKind prog w) S (fun q => (fmS val i).any (· == q)) (fmS val i).length := by
      obtain ⟨o, es, ep, tb, ho, r⟩ := hS
      exact ⟨o, es, ep, tb, hm.heap S _ hSw ho, r⟩
    show wpAny _ A.in1 (holding [Value.str (val i) t] (setAdd S (.str (val i) t)) >>= _) _ _ s1
    refine wpAny_bind (wpAny_holding ?_)
    unfold setAdd
    refine wpAny_holding ?_
    refine wpAny_bind ((PySem.strKind prog w).pyHash (k := val i) (strKind_is _ _ _ _) ?_)
    have hroom : (fmS val i).length + 1 < scanBound := by have := fmS_le val i; omega
    refine wpAny_setAddHashed_of (knd := PySem.strKind prog w) (s := { s1 with toks := s1.toks + 1 }) (strKind_is _ _ _ _) rfl hS1 hroom fun h2 hsb hS2 => ?_
    have hSi : h2.SetOf (PySem.strKind prog w) S (fun q => (fmS val (i + 1)).any (· == q)) (fmS val (i + 1)).length :=
      SetOf_congr hS2 (fun q => by rw [fmS_succ, stS_any]) (by rw [fmS_succ, stS_len])
    refine wpAny_pure ⟨plainId_quiet PyProof.Rows.F.plain_set_update_loop _, ih (i + 1) _ (by omega) hlt (W.frame _ s1 _ _ hst1 (Nat.le_succ _) fun b hb o e => ?_) hSi fun s3 hm3 hS3 => ?_⟩
    · rw [hsb.2 b (fun z : b = S => hSf (by rw [← z]; exact hb))]; exact e
    · refine hR s3 (Moved.trans W.gtrans ((hm.mono hsub).then_heap (Nat.le_succ _) fun b o hb e => ?_) hm3) hS3
      rw [hsb.2 b (fun z : b = S => hb (by rw [z]; exact List.mem_cons_self))]; exact e
end

def valOf (x : Str) : Nat → Str := fun i => ⟨#[x.cps.getD i 0]⟩
section
variable {prog : Program} {w : World} {A : Around} {E : Value → Shared → Prop} {s : Shared}
theorem call_set_text {x : Str} {tk0 : Tok} {Q : Value → Shared → Prop} (hh : A.handled = none) (hb : x.cps.size + 1 < scanBound)
    (h : ∀ (h1 : Heap) (tk : Nat), h1.SetOf (PySem.strKind prog w) s.heap.objs.size (fun q => (fmS (valOf x) x.cps.size).any (· == q)) (fmS (valOf x) x.cps.size).length →
      (∀ b o, b < s.heap.objs.size → s.heap.get? b = some o → h1.get? b = some o) → Q (.ref s.heap.objs.size) { s with heap := h1, toks := tk }) :
    wpAny (model prog w) A (call (.type "set") [.str x tk0]) Q E s := by
  obtain ⟨c, tl, hmro⟩ := PySem.F.called_set.mro
  have hmade := PySem.F.called_set.made
  have hsub := PySem.F.called_set.sub
  refine wpAny_call (codeAny_of_tree ?_)
  show wpAny _ _ (callAny (.type "set") _) _ _ _
  refine wpAny_pure ⟨Code.quiet_builtin _ (by decide +kernel), codeAny_builtin PySem.F.entry_type_call ?_⟩
  rw [Around.under_plain (weight_type_call_type "set" [.str x tk0] []) rfl]
  have h1 := PySem.F.called_set.notType
  have h2 := PySem.F.called_set.canCreate
  have hct := PySem.F.typeCall_set_1 (.str x tk0)
  repeat (any_goals (first | assumption | wp_step))
  refine codeAny_mono (code_set_new_1 (.str x tk0) (E := E) (Q₁ := fun obj s2 => ∃ led : Bool, obj = .ref s.heap.objs.size ∧ s2 = { s with heap := s.heap.push { cls := .type "set", dict := none, data := .set #[] 0 (.fresh 0 0 led) } }) fun led => ⟨led, rfl, rfl⟩) fun r s2 hr => ?_
  cases r with
  | error e => exact hr
  | ok fl =>
    cases fl with
    | ret obj =>
      obtain ⟨led, rfl, rfl⟩ := hr
      have hS : (s.heap.push { cls := .type "set", dict := none, data := .set #[] 0 (.fresh 0 0 led) }).get? s.heap.objs.size = some { cls := .type "set", dict := none, data := .set #[] 0 (.fresh 0 0 led) } := Heap.get?_push_size _ rfl
      have hT : Shared.TypeIs { s with heap := s.heap.push { cls := .type "set", dict := none, data := .set #[] 0 (.fresh 0 0 led) } } (.ref s.heap.objs.size) "set" := ⟨_, hS, rfl⟩
      have hli := PySem.F.called_set.init.lookup
      have hbi := PySem.F.called_set.init.bind (.ref s.heap.objs.size)
      repeat (any_goals (first | assumption | wp_step))
      refine codeAny_mono (codeAny_call_builtin (R := wants (fun r s3 => r = .none ∧ ∃ h3 tk, s3 = { s with heap := h3, toks := tk } ∧
          h3.SetOf (PySem.strKind prog w) s.heap.objs.size (fun q => (fmS (valOf x) x.cps.size).any (· == q)) (fmS (valOf x) x.cps.size).length ∧
          (∀ b o, b < s.heap.objs.size → s.heap.get? b = some o → h3.get? b = some o)) E) PySem.F.called_set.init.plain PySem.F.entry_set_init (check_set_init_1 hT ?_)) fun r3 s3 hr3 => ?_
      · have hs1 := PySem.F.sub_str_set
        have hs2 := PySem.F.sub_str_frozenset
        have hne : (Value.type "str" == Value.type "dict") = false := by decide
        have hTx : Shared.TypeIs { s with heap := s.heap.push { cls := .type "set", dict := none, data := .set #[] 0 (.fresh 0 0 led) } } (.str x tk0) "str" := rfl
        unfold Builtin.«set.__init__» noKeywords Builtin.Frozenset.updateFrom
        generalize hPI : pyIter = PI
        wp_walk
        subst hPI
        refine wpAny_pyIter_str fun oI St W st0 => ?_
        refine wpAny_bind (wpAny_runValue ?_)
        have hh3 : A.in1.in1.in1.handled = none := by simp [hh]
        have hSf : s.heap.objs.size ∉ [(s.heap.push { cls := .type "set", dict := none, data := .set #[] 0 (.fresh 0 0 led) }).objs.size] := by
          rw [Heap.size_push]
          simp only [List.mem_cons, List.not_mem_nil, or_false]
          exact Nat.ne_of_lt (Nat.lt_succ_self _)
        have hval : ∀ (i : Nat) (v : Value), SignAt x i v → ∃ t, v = .str (valOf x i) t := fun i v ⟨c, u, hc, hv⟩ => ⟨u, by
          rw [hv]
          unfold valOf
          rw [Array.getD_eq_getD_getElem?, hc]
          rfl⟩
        refine loopSg ((W _ hh3).toS) s.heap.objs.size hSf (valOf x) hb hval (x.cps.size - 0) 0 _ (by omega) (Nat.zero_le _) st0 ?hS0 ?hR
        case hS0 =>
          have hget : ((s.heap.push { cls := .type "set", dict := none, data := .set #[] 0 (.fresh 0 0 led) }).push oI).get? s.heap.objs.size
              = some { cls := .type "set", dict := none, data := .set #[] 0 (.fresh 0 0 led) } := Heap.get?_push_of_some _ hS
          exact PyProof.Rows.SetOf_congr ((PyProof.Rows.setObjOf_fresh (knd := PySem.strKind prog w) led).setOf hget (by unfold scanBound; omega)) (fun _ => rfl) rfl
        case hR =>
          intro s4 hm hS4
          obtain ⟨h4, g4, d4, tk4, os4⟩ := s4
          have eg : g4 = s.gens := hm.gens
          have ed : d4 = s.drawn := hm.drawn
          have eo : os4 = s.os := hm.os
          subst eg; subst ed; subst eo
          show wpAny _ _ _ _ _ _
          refine wpAny_pure ?_
          show wpAny _ _ (ret Value.none) _ _ _
          refine wpAny_pure ⟨rfl, h4, tk4, rfl, hS4, fun b o hb e => ?_⟩
          have hb1 : b ≠ s.heap.objs.size := Nat.ne_of_lt hb
          have hb2 : b ≠ (s.heap.push { cls := .type "set", dict := none, data := .set #[] 0 (.fresh 0 0 led) }).objs.size := by
            rw [Heap.size_push]; exact Nat.ne_of_lt (Nat.lt_succ_of_lt hb)
          exact hm.heap b o (by simp only [List.mem_cons, List.mem_singleton, List.not_mem_nil, or_false, not_or]; exact ⟨hb1, hb2⟩) (Heap.get?_push_of_some _ (Heap.get?_push_of_some _ e))
      · cases r3 with
        | error e => exact hr3
        | ok fl3 =>
          cases fl3 with
          | ret r =>
            obtain ⟨rfl, h3, tk, rfl, hS3, hk3⟩ := hr3
            repeat (any_goals (first | assumption | wp_step))
            exact h _ _ hS3 hk3
          | _ => exact hr3.elim
    | _ => exact hr.elim
end

/-- how many signs of a text differ -/
def dd (l : List Nat) : Nat := (fmS (valOf (tx l)) l.length).length
def tLenSg (ta : TE) : TE := fun σ H Q => ta σ H fun x H1 => ∃ l : List Nat, x = .str (tx l) ∧ l.length ≤ 1000 ∧ Q (.int (dd l : Nat)) H1
theorem pe_lenSg {X : Cx} {a : Expr} {ta : TE} {p p2 q pos : Pos} (hc : X.calm = true) (hm : X.mg "len" = none) (hm2 : X.mg "set" = none) (ha : PE X a ta) (hg : Gl X "len" := by rfl) (hg2 : Gl X "set" := by rfl)
    (na : starEach [a] X.env = (false, eval a X.env) :: starEach [] X.env := by rfl) : PE X (.Call (.Name "len" p) [.Call (.Name "set" p2) [a] [] q] [] pos) (tLenSg ta) := by
  refine ⟨fun pins s σ H Q I h => ?_⟩
  refine Call_ (ld_blt I hg hm boot_len ?_)
  refine PyProof.Rows.callWith_builtin1 (PyProof.Rows.args_cons ?_ rfl) rfl rfl
  refine Call_ (ld_blt I hg2 hm2 boot_set ?_)
  refine PyProof.Rows.callWith_type1 (PyProof.Rows.args_cons (thn (ha.run pins s σ H _ I h) fun v s1 ⟨x, H1, I1, r1, q1⟩ => PyProof.Rows.args_nil ?_) na) na rfl
  obtain ⟨l, rfl, hl, q1⟩ := q1
  obtain ⟨t, rfl⟩ := r1
  have hz : (tx l).cps.size = l.length := by unfold tx; simp
  refine call_set_text (I1.ok.hd hc) (by rw [hz]; unfold scanBound; omega) fun h2 tk hS hk => ?_
  refine PyProof.Rows.args_nil ?_
  rw [hz] at hS
  obtain ⟨o, es, ep, t2, ho, hex, hd, r0, r2, r3, hf, hn⟩ := hS
  have I2 : Inv X pins σ H1 { s1 with heap := h2, toks := tk } := I1.kept fun b o e => hk b o (Heap.lt_size e) e
  have hle := fmS_le (valOf (tx l)) l.length
  refine call_len_set ho hex hd hf (by rw [hn]; omega) ⟨.int (dd l : Nat), H1, I2.tok _, ⟨_, by rw [hn]; rfl⟩, q1⟩

theorem any_of_mem {val : Nat → Str} : ∀ (i j : Nat), j < i → (fmS val i).any (· == val j) = true
  | 0, j, h => absurd h (Nat.not_lt_zero _)
  | i + 1, j, h => by
    rw [fmS_succ, stS_any]
    by_cases e : j = i
    · subst e; simp
    · rw [any_of_mem i j (by omega)]; rfl
theorem mem_of_any {val : Nat → Str} (k : Str) : ∀ (i : Nat), (fmS val i).any (· == k) = true → ∃ j, j < i ∧ k = val j
  | 0, h => by simp [fmS] at h
  | i + 1, h => by
    rw [fmS_succ, stS_any, Bool.or_eq_true] at h
    rcases h with h | h
    · obtain ⟨j, hj, e⟩ := mem_of_any k i h
      exact ⟨j, by omega, e⟩
    · exact ⟨i, by omega, of_decide_eq_true h⟩
theorem fmS_full {val : Nat → Str} : ∀ (i : Nat), (fmS val i).length = i ↔ ∀ a b, a < b → b < i → val a ≠ val b
  | 0 => ⟨fun _ a b h1 h2 => absurd h2 (Nat.not_lt_zero _), fun _ => rfl⟩
  | i + 1 => by
    have ih := fmS_full (val := val) i
    have le := fmS_le val i
    rw [fmS_succ, stS_len]
    constructor
    · intro h a b hab hb
      split at h
      · omega
      · rename_i hn
        have hfull : (fmS val i).length = i := by omega
        by_cases e : b = i
        · subst e
          intro z
          apply hn
          rw [← z]
          exact any_of_mem b a hab
        · exact ih.mp hfull a b hab (by omega)
    · intro h
      have hfull : (fmS val i).length = i := ih.mpr fun a b hab hb => h a b hab (by omega)
      split
      · rename_i hn
        obtain ⟨j, hj, e⟩ := mem_of_any (val i) i hn
        exact absurd e.symm (h j i hj (Nat.lt_succ_self _))
      · omega
theorem valOf_at {l : List Nat} {i : Nat} (hi : i < l.length) : valOf (tx l) i = ⟨#[l[i]]⟩ := by
  unfold valOf tx
  rw [Array.getD_eq_getD_getElem?, List.getElem?_toArray, List.getElem?_eq_getElem hi]
  rfl
theorem one_inj {a b : Nat} (h : (⟨#[a]⟩ : Str) = ⟨#[b]⟩) : a = b := by
  have h2 := congrArg (fun s : Str => s.cps.toList) h
  simpa using h2
theorem dd_full (l : List Nat) : dd l = l.length ↔ l.Nodup := by
  unfold dd
  rw [fmS_full]
  show _ ↔ List.Pairwise (· ≠ ·) l
  rw [List.pairwise_iff_getElem]
  constructor
  · intro h i j hi hj hij z
    refine h i j hij hj ?_
    rw [valOf_at hi, valOf_at hj, z]
  · intro h i j hij hj z
    have hi : i < l.length := by omega
    rw [valOf_at hi, valOf_at hj] at z
    exact h i j hi hj hij (one_inj z)
theorem dd_le (l : List Nat) : dd l ≤ l.length := fmS_le _ _
end SrX
/-! walking over what is known of the heap: F is known, the dice's list d apart -/
namespace Sr
open PySem PySem.Spec PyProof.Rows L2 SrX

abbrev Ex (H H1 : Hp) : Prop := L2.Same H H1
theorem exr (H : Hp) : Ex H H := Same.refl H
theorem ex_new {H : Hp} {p : Addr} {u : HO} (h : H p = none) : Ex H (upd H p u) := fun b o e => by
  rw [upd_ne (ne_of_none e h)]; exact e
theorem ex_mut {H H1 : Hp} {p : Addr} {u : HO} (e : Ex H H1) (h : H p = none) : Ex H (upd H1 p u) := fun b o q => by
  rw [upd_ne (ne_of_none q h)]; exact e b o q
theorem ex_upd {H H1 : Hp} {p : Addr} {u : HO} (e : Ex H H1) : Ex (upd H p u) (upd H1 p u) := fun b o q => by
  by_cases hb : b = p
  · subst hb; rw [upd_same] at q ⊢; exact q
  · rw [upd_ne hb] at q ⊢; exact e b o q
theorem ex_l {K : PySem.W.Frag} {H H1 : Hp} {a : Addr} {xs : List V} (e : Ex H H1) (h : SqL K H a xs) : SqL K H1 a xs := e.seq h
theorem ex_t {K : PySem.W.Frag} {H H1 : Hp} {a : Addr} {xs : List V} (e : Ex H H1) (h : SqT K H a xs) : SqT K H1 a xs := by
  rcases h with (h | ⟨o, h⟩) | h
  · exact .inl (.inl (e _ _ h))
  · exact .inl (.inr ⟨o, e _ _ h⟩)
  · exact .inr h
theorem sz {n : Nat} (h : n ≤ 100000) : n ≤ sizeLine := Nat.le_trans h (by decide)
theorem sz1 {n : Nat} (h : n < 100000) : n < sizeLine := Nat.lt_of_lt_of_le h (by decide)

/-- a list of dice stands at d -/
def Dc (H : Hp) (d : Addr) : Prop := ∃ ns : List Int, H d = some (.lst (ns.map V.int)) ∧ 2 ≤ ns.length ∧ ns.length ≤ 70
structure Wd (o : Option Addr) (F H : Hp) : Prop where
  ex : Ex F H
  dc : ∀ d, o = some d → F d = none ∧ Dc H d
theorem Dc.ex {H H1 : Hp} {d : Addr} (h : Dc H d) (e : Ex H H1) : Dc H1 d := by
  obtain ⟨ns, h1, h2⟩ := h
  exact ⟨ns, e _ _ h1, h2⟩
section
variable {o : Option Addr} {F F1 H H1 : Hp} {p : Addr} {u : HO}
theorem Wd.up (w : Wd o F H) (e : Ex H H1) : Wd o F H1 := ⟨w.ex.trans e, fun d h => ⟨(w.dc d h).1, (w.dc d h).2.ex e⟩⟩
theorem Wd.down (w : Wd o F H) (e : Ex F1 F) : Wd o F1 H := ⟨e.trans w.ex, fun d h => ⟨e.free (w.dc d h).1, (w.dc d h).2⟩⟩
theorem Wd.fr (w : Wd o F H) (n : H p = none) : F p = none := w.ex.free n
theorem Wd.ned (w : Wd o F H) (n : H p = none) : ∀ d, o = some d → d ≠ p := fun d h => by
  obtain ⟨ns, h1, _⟩ := (w.dc d h).2
  exact ne_of_none h1 n
theorem Wd.new (w : Wd o F H) (n : H p = none) (e : Ex H H1) (h : H1 p = some u) : Wd o (upd F p u) H1 := by
  refine ⟨fun b v q => ?_, fun d hd => ⟨?_, (w.dc d hd).2.ex e⟩⟩
  · by_cases hb : b = p
    · subst hb; rw [upd_same] at q; rw [← q]; exact h
    · rw [upd_ne hb] at q; exact e _ _ (w.ex _ _ q)
  · rw [upd_ne (w.ned n d hd)]; exact (w.dc d hd).1
theorem Wd.new1 (w : Wd o F H) (n : H p = none) : Wd o (upd F p u) (upd H p u) := w.new n (ex_new n) upd_same
theorem Wd.mut {v : HO} (w : Wd o F H) (h : F p = some v) : Wd o (upd F p u) (upd H p u) := by
  refine ⟨ex_upd w.ex, fun d hd => ?_⟩
  obtain ⟨f, ns, h1, h2⟩ := w.dc d hd
  have ne : d ≠ p := fun z => by rw [z, h] at f; cases f
  exact ⟨by rw [upd_ne ne]; exact f, ns, by rw [upd_ne ne]; exact h1, h2⟩
theorem Wd.l {K : PySem.W.Frag} {a : Addr} {xs : List V} (w : Wd o F H) (h : SqL K F a xs) : SqL K H a xs := ex_l w.ex h
theorem Wd.t {K : PySem.W.Frag} {a : Addr} {xs : List V} (w : Wd o F H) (h : SqT K F a xs) : SqT K H a xs := ex_t w.ex h
theorem Wd.bare (e : Ex F H) : Wd none F H := ⟨e, fun d h => by cases h⟩
end

def Wp {α : Type} (o : Option Addr) (k : Hp → (α → Hp → Prop) → Prop) (F : Hp) (P : α → Hp → Prop) : Prop :=
  ∀ H, Wd o F H → ∀ Q : α → Hp → Prop, (∀ v H1 F1, Wd o F1 H1 → P v F1 → Q v H1) → k H Q
def Go (o : Option Addr) (t : TS) (D : Ends) (σ : L2.St) (F : Hp) : Prop := ∀ H, Wd o F H → t D σ H
/-- what holds behind a turn -/
def Cl (o : Option Addr) (P : L2.St → Hp → Prop) : L2.St → Hp → Prop := fun σ H => ∃ F, Wd o F H ∧ P σ F

section
variable {o : Option Addr} {F : Hp} {σ : L2.St} {K : PySem.W.Frag} {α : Type}
theorem Wp.imp {k : Hp → (α → Hp → Prop) → Prop} {P P1 : α → Hp → Prop} (h : Wp o k F P1) (i : ∀ v F1, P1 v F1 → P v F1) : Wp o k F P := fun H w Q q => h H w Q fun v H1 F1 w1 p => q v H1 F1 w1 (i v F1 p)
theorem go_of {t : TS} {D : Ends} {H : Hp} (g : Go none t D σ H) : t D σ H := g H (Wd.bare (exr H))

theorem go_st {t : TS} {D : Ends} {H : Hp} {σ0 : L2.St} (e : σ0 = σ) (g : Go none t D σ H) : t D σ0 H := by subst e; exact go_of g

/-! ### expressions -/
variable {P : V → Hp → Prop} {ta tb tc te : TE} {x y z v : V} {r r2 : R2}
theorem wp_var {i : Nat} (h : σ[i]? = some (some v)) (q : P v F) : Wp o (tVar i σ) F P := fun H w Q k => ⟨v, h, k v H F w q⟩
theorem wp_c (q : P v F) : Wp o (tC v σ) F P := fun H w Q k => k v H F w q
theorem wp_op (h : Wp o (ta σ) F fun x F1 => Wp o (tb σ) F1 fun y F2 => Wp o (r x y) F2 P) : Wp o (tOp r ta tb σ) F P := fun H w Q k =>
  h H w _ fun x H1 F1 w1 h1 => h1 H1 w1 _ fun y H2 F2 w2 h2 => h2 H2 w2 Q k
theorem wp_un {r : V → Hp → VK → Prop} (h : Wp o (ta σ) F fun x F1 => Wp o (r x) F1 P) : Wp o (tUn r ta σ) F P := fun H w Q k =>
  h H w _ fun x H1 F1 w1 h1 => h1 H1 w1 Q k
theorem wp_chain (h : Wp o (ta σ) F fun x F1 => Wp o (tb σ) F1 fun y F2 => Wp o (r x y) F2 fun z F3 => ∃ k, z = .bl k ∧ (k = true → Wp o (tc σ) F3 fun w F4 => Wp o (r2 y w) F4 P) ∧ (k = false → P (.bl false) F3)) :
    Wp o (tChain r r2 ta tb tc σ) F P := fun H w Q k =>
  h H w _ fun x H1 F1 w1 h1 => h1 H1 w1 _ fun y H2 F2 w2 h2 => h2 H2 w2 _ fun z H3 F3 w3 ⟨b, e, ht, hf⟩ => ⟨b, e, by
    cases b with
    | true => rw [if_pos rfl]; exact ht rfl H3 w3 _ fun x4 H4 F4 w4 h4 => h4 H4 w4 Q k
    | false => rw [if_neg Bool.false_ne_true]; exact k _ H3 F3 w3 (hf rfl)⟩
theorem wp_ifE {tt : TT} (h : Wp o (tt σ) F fun b F1 => (b = true → Wp o (ta σ) F1 P) ∧ (b = false → Wp o (tb σ) F1 P)) : Wp o (tIf tt ta tb σ) F P := fun H w Q k =>
  h H w _ fun b H1 F1 w1 ⟨h1, h2⟩ => by
    cases b with
    | true => rw [if_pos rfl]; exact h1 rfl H1 w1 Q k
    | false => rw [if_neg Bool.false_ne_true]; exact h2 rfl H1 w1 Q k
theorem wp_andV (h : Wp o (ta σ) F fun x F1 => ∃ c, x = .bl c ∧ (c = true → Wp o (tb σ) F1 P) ∧ (c = false → P (.bl false) F1)) : Wp o (tAndV ta tb σ) F P := fun H w Q k =>
  h H w _ fun x H1 F1 w1 ⟨c, e, h1, h2⟩ => ⟨c, e, by
    cases c with
    | true => rw [if_pos rfl]; exact h1 rfl H1 w1 Q k
    | false => rw [if_neg Bool.false_ne_true]; exact k _ H1 F1 w1 (h2 rfl)⟩
theorem wp_orV (h : Wp o (ta σ) F fun x F1 => ∃ c, x = .bl c ∧ (c = true → P (.bl true) F1) ∧ (c = false → Wp o (tb σ) F1 P)) : Wp o (tOrV ta tb σ) F P := fun H w Q k =>
  h H w _ fun x H1 F1 w1 ⟨c, e, h1, h2⟩ => ⟨c, e, by
    cases c with
    | true => rw [if_pos rfl]; exact k _ H1 F1 w1 (h1 rfl)
    | false => rw [if_neg Bool.false_ne_true]; exact h2 rfl H1 w1 Q k⟩
theorem wp_notV (h : Wp o (ta σ) F fun x F1 => ∃ c, x = .bl c ∧ P (.bl (!c)) F1) : Wp o (tNotV ta σ) F P := fun H w Q k =>
  h H w _ fun x H1 F1 w1 ⟨c, e, h1⟩ => ⟨c, e, k _ H1 F1 w1 h1⟩
/-! tests -/
variable {T : Bool → Hp → Prop} {tt tu : TT}
theorem wp_test (h : Wp o (te σ) F fun x F1 => ∃ k, x = .bl k ∧ T k F1) : Wp o (tTest te σ) F T := fun H w Q k => h H w _ fun x H1 F1 w1 ⟨b, e, p⟩ => ⟨b, e, k b H1 F1 w1 p⟩
theorem wp_B (h : Wp o (te σ) F fun x F1 => ∃ k, x = .bl k ∧ T k F1) : Wp o (tB te σ) F T := fun H w Q k => h H w _ fun x H1 F1 w1 ⟨b, e, p⟩ => ⟨b, e, k b H1 F1 w1 p⟩
theorem wp_and (h : Wp o (tt σ) F fun b F1 => (b = true → Wp o (tu σ) F1 T) ∧ (b = false → T false F1)) : Wp o (tAnd tt tu σ) F T := fun H w Q k =>
  h H w _ fun b H1 F1 w1 ⟨h1, h2⟩ => by
    cases b with
    | true => rw [if_pos rfl]; exact h1 rfl H1 w1 Q k
    | false => rw [if_neg Bool.false_ne_true]; exact k _ H1 F1 w1 (h2 rfl)
theorem wp_or (h : Wp o (tt σ) F fun b F1 => (b = true → T true F1) ∧ (b = false → Wp o (tu σ) F1 T)) : Wp o (tOr tt tu σ) F T := fun H w Q k =>
  h H w _ fun b H1 F1 w1 ⟨h1, h2⟩ => by
    cases b with
    | true => rw [if_pos rfl]; exact k _ H1 F1 w1 (h1 rfl)
    | false => rw [if_neg Bool.false_ne_true]; exact h2 rfl H1 w1 Q k
/-- and, or: one way for both noes (yeses) -/
theorem wp_andS {X Y : Hp → Prop} (R : Hp → Prop) (h : Wp o (tt σ) F fun b F1 => R F1 ∧ (b = true → Wp o (tu σ) F1 fun c F2 => R F2 ∧ (c = true → X F2))) (e : ∀ F1, R F1 → Y F1) :
    Wp o (tAnd tt tu σ) F fun b F1 => (b = true → X F1) ∧ (b = false → Y F1) := fun H w Q k => h H w _ fun b H1 F1 w1 ⟨r, h1⟩ => by
  cases b with
  | true => rw [if_pos rfl]; exact h1 rfl H1 w1 Q fun c H2 F2 w2 ⟨r2, x⟩ => k c H2 F2 w2 ⟨x, fun _ => e F2 r2⟩
  | false => rw [if_neg Bool.false_ne_true]; exact k _ H1 F1 w1 ⟨fun z => (by cases z), fun _ => e F1 r⟩
theorem wp_orS {X Y : Hp → Prop} (R : Hp → Prop) (h : Wp o (tt σ) F fun b F1 => R F1 ∧ (b = false → Wp o (tu σ) F1 fun c F2 => R F2 ∧ (c = false → Y F2))) (e : ∀ F1, R F1 → X F1) :
    Wp o (tOr tt tu σ) F fun b F1 => (b = true → X F1) ∧ (b = false → Y F1) := fun H w Q k => h H w _ fun b H1 F1 w1 ⟨r, h1⟩ => by
  cases b with
  | true => rw [if_pos rfl]; exact k _ H1 F1 w1 ⟨fun _ => e F1 r, fun z => (by cases z)⟩
  | false => rw [if_neg Bool.false_ne_true]; exact h1 rfl H1 w1 Q fun c H2 F2 w2 ⟨r2, x⟩ => k c H2 F2 w2 ⟨fun _ => e F2 r2, x⟩
theorem wp_not (h : Wp o (tt σ) F fun b F1 => T (!b) F1) : Wp o (tNot tt σ) F T := fun H w Q k => h H w _ fun b H1 F1 w1 p => k _ H1 F1 w1 p
theorem wp_yes (q : T true F) : Wp o (tYes σ) F T := fun H w Q k => k _ H F w q
/-! arguments, displays, calls -/
variable {L : List V → Hp → Prop} {tl tr : TA}
theorem wp_nil (q : L [] F) : Wp o (tNil σ) F L := fun H w Q k => k _ H F w q
theorem wp_cons (h : Wp o (ta σ) F fun x F1 => Wp o (tr σ) F1 fun xs F2 => L (x :: xs) F2) : Wp o (tCons ta tr σ) F L := fun H w Q k =>
  h H w _ fun x H1 F1 w1 h1 => h1 H1 w1 _ fun xs H2 F2 w2 h2 => k _ H2 F2 w2 h2
theorem wp_tup (h : Wp o (tl σ) F fun vs F1 => vs.length ≤ 100000 ∧ ∀ p, F1 p = none → P (.ref p) (upd F1 p (.tup vs))) : Wp o (tTup tl σ) F P := fun H w Q k =>
  h H w _ fun vs H1 F1 w1 ⟨hl, h1⟩ => ⟨sz hl, fun p hp => k _ _ _ (w1.new1 hp) (h1 p (w1.fr hp))⟩
theorem wp_lst (h : Wp o (tl σ) F fun vs F1 => vs.length ≤ 100000 ∧ ∀ p, F1 p = none → P (.ref p) (upd F1 p (.lst vs))) : Wp o (tLst tl σ) F P := fun H w Q k =>
  h H w _ fun vs H1 F1 w1 ⟨hl, h1⟩ => ⟨sz hl, fun p hp => k _ _ _ (w1.new1 hp) (h1 p (w1.fr hp))⟩
theorem wp_call {sp : Sp} {dvs : List V} {E : XK} (h : Wp o (tl σ) F fun vs F1 => Wp o (fun H Q => sp (vs ++ dvs) H Q E) F1 P) : Wp o (tCall sp dvs E tl σ) F P := fun H w Q k =>
  h H w _ fun vs H1 F1 w1 h1 => h1 H1 w1 Q k
theorem wp_cb {r : List V → Hp → VK → Prop} (h : Wp o (tl σ) F fun vs F1 => Wp o (r vs) F1 P) : Wp o (tCB r tl σ) F P := fun H w Q k =>
  h H w _ fun vs H1 F1 w1 h1 => h1 H1 w1 Q k
/-- x.m(..), x a list -/
theorem wp_bmL {r : V → List V → Hp → VK → Prop} (h : Wp o (ta σ) F fun x F1 => ∃ a xs, x = .ref a ∧ SqL K F1 a xs ∧ Wp o (tl σ) F1 fun vs F2 => Wp o (r (.ref a) vs) F2 P) : Wp o (tBM K "list" r ta tl σ) F P := fun H w Q k =>
  h H w _ fun x H1 F1 w1 ⟨a, xs, e, hs, h1⟩ => by
    subst e
    exact ⟨.inl ⟨rfl, xs, w1.l hs⟩, h1 H1 w1 _ fun vs H2 F2 w2 h2 => h2 H2 w2 Q k⟩
theorem wp_bm0L {r : V → List V → Hp → VK → Prop} (h : Wp o (ta σ) F fun x F1 => ∃ a xs, x = .ref a ∧ SqL K F1 a xs ∧ Wp o (r (.ref a) []) F1 P) : Wp o (tBM0 K "list" r ta σ) F P := fun H w Q k =>
  h H w _ fun x H1 F1 w1 ⟨a, xs, e, hs, h1⟩ => by
    subst e
    exact ⟨.inl ⟨rfl, xs, w1.l hs⟩, h1 H1 w1 Q k⟩
theorem wp_m1 {r : V → List V → Hp → VK → Prop} (h : Wp o (ta σ) F fun x F1 => (∃ a, x = .str a) ∧ Wp o (tb σ) F1 fun y F2 => Wp o (r x [y]) F2 P) : Wp o (tM1 r ta tb σ) F P := fun H w Q k =>
  h H w _ fun x H1 F1 w1 ⟨e, h1⟩ => ⟨e, h1 H1 w1 _ fun y H2 F2 w2 h2 => h2 H2 w2 Q k⟩
theorem wp_bmS {r : V → List V → Hp → VK → Prop} (h : Wp o (ta σ) F fun x F1 => ∃ a, x = .str a ∧ Wp o (tl σ) F1 fun vs F2 => Wp o (r x vs) F2 P) : Wp o (tBM K "str" r ta tl σ) F P := fun H w Q k =>
  h H w _ fun x H1 F1 w1 ⟨a, e, h1⟩ => by
    subst e
    exact ⟨rfl, h1 H1 w1 _ fun vs H2 F2 w2 h2 => h2 H2 w2 Q k⟩
/-! slices -/
variable {O : Option Int → Hp → Prop}
theorem wp_noPart (q : O none F) : Wp o (tNoPart σ) F O := fun H w Q k => k _ H F w q
theorem wp_part (h : Wp o (te σ) F fun x F1 => ∃ i, x = .int i ∧ O (some i) F1) : Wp o (tPart te σ) F O := fun H w Q k => h H w _ fun x H1 F1 w1 ⟨i, e, p⟩ => ⟨i, e, k _ H1 F1 w1 p⟩
theorem wp_sl {r : V → Option Int → Option Int → Hp → VK → Prop} {ll lh : TO} (h : Wp o (te σ) F fun x F1 => Wp o (ll σ) F1 fun a F2 => Wp o (lh σ) F2 fun b F3 => Wp o (r x a b) F3 P) : Wp o (tSl r te ll lh σ) F P := fun H w Q k =>
  h H w _ fun x H1 F1 w1 h1 => h1 H1 w1 _ fun a H2 F2 w2 h2 => h2 H2 w2 _ fun b H3 F3 w3 h3 => h3 H3 w3 Q k

/-! ### operators by values -/
def rAddP : R2 := fun x y H Q => rI0 (fun i j => .int (i + j)) x y H Q ∨ (∃ i j, x = .str i ∧ y = .str j ∧ i.length + j.length ≤ sizeLine ∧ Q (.str (i ++ j)) H) ∨ rCat x y H Q
theorem op_addP {X : Cx} : OpR X (binaryOp .Add) rAddP := op_add.or (op_add_str.or op_cat)
theorem wp_addI {i j : Int} (q : P (.int (i + j)) F) : Wp o (rAddP (.int i) (.int j)) F P := fun H w Q k => .inl ⟨i, j, rfl, rfl, k _ H F w q⟩
theorem tx_app (a b : List Nat) : tx a ++ tx b = tx (a ++ b) := by
  show (⟨a.toArray ++ b.toArray⟩ : Str) = ⟨(a ++ b).toArray⟩
  simp
theorem tx_len (a : List Nat) : (tx a).length = a.length := by
  show a.toArray.size = a.length
  simp
theorem wp_addS {i j : List Nat} (h : i.length + j.length ≤ 100000) (q : P (.str (tx (i ++ j))) F) : Wp o (rAddP (.str (tx i)) (.str (tx j))) F P := fun H w Q k =>
  .inr (.inl ⟨tx i, tx j, rfl, rfl, by rw [tx_len, tx_len]; exact sz h, by rw [tx_app]; exact k _ H F w q⟩)
theorem wp_addL {a b : Addr} {xs ys : List V} (ha : F a = some (.lst xs)) (hb : F b = some (.lst ys)) (h : xs.length + ys.length ≤ 100000) (q : ∀ p, F p = none → P (.ref p) (upd F p (.lst (xs ++ ys)))) : Wp o (rAddP (.ref a) (.ref b)) F P := fun H w Q k =>
  .inr (.inr ⟨a, b, xs, ys, rfl, rfl, w.ex _ _ ha, w.ex _ _ hb, sz h, fun p hp => k _ _ _ (w.new1 hp) (q p (w.fr hp))⟩)
def rMulP : R2 := fun x y H Q => rI CMul (fun i j => .int (i * j)) x y H Q ∨ rRep x y H Q
theorem op_mulP {X : Cx} : OpR X (binaryOp .Mult) rMulP := op_mul.or op_rep
theorem wp_mulI {i j : Int} (h : CMul i j) (q : P (.int (i * j)) F) : Wp o (rMulP (.int i) (.int j)) F P := fun H w Q k => .inl ⟨i, j, rfl, rfl, h, k _ H F w q⟩
theorem wp_rep {a : Addr} {n : Nat} {xs : List V} (ha : F a = some (.lst xs)) (h : xs.length * n ≤ 100000) (hn : n ≤ 100000) (q : ∀ p, F p = none → P (.ref p) (upd F p (.lst (List.replicate n xs).flatten))) : Wp o (rMulP (.ref a) (.int (n : Int))) F P := fun H w Q k =>
  .inr ⟨a, n, xs, rfl, rfl, w.ex _ _ ha, by omega, by omega, by rw [Int.toNat_natCast]; exact sz h, fun p hp => by
    rw [Int.toNat_natCast]
    exact k _ _ _ (w.new1 hp) (q p (w.fr hp))⟩
abbrev rSub : R2 := rI0 fun i j => .int (i - j)
abbrev rLt : R2 := rI0 fun i j => .bl (decide (i < j))
abbrev rLe : R2 := rI0 fun i j => .bl (decide (i ≤ j))
theorem wp_i0 {g : Int → Int → V} {i j : Int} (q : P (g i j) F) : Wp o (rI0 g (.int i) (.int j)) F P := fun H w Q k => ⟨i, j, rfl, rfl, k _ H F w q⟩
theorem wp_i {C : Int → Int → Prop} {g : Int → Int → V} {i j : Int} (h : C i j) (q : P (g i j) F) : Wp o (rI C g (.int i) (.int j)) F P := fun H w Q k => ⟨i, j, rfl, rfl, h, k _ H F w q⟩
theorem wp_u {g : Int → V} {i : Int} (q : P (g i) F) : Wp o (rU g (.int i)) F P := fun H w Q k => ⟨i, rfl, k _ H F w q⟩
def rEqP (K : PySem.W.Frag) : R2 := fun x y H Q => rEq x y H Q ∨ rEqD K x y H Q
def rNeP (K : PySem.W.Frag) : R2 := fun x y H Q => rNe x y H Q ∨ rNeD K x y H Q
theorem op_eqP {X : Cx} (hu : X.A.units + 64 < cLine) : OpR X (compareOp .Eq) (rEqP X.K) := op_eq.or (op_eqD hu)
theorem op_neP {X : Cx} (hu : X.A.units + 64 < cLine) : OpR X (compareOp .NotEq) (rNeP X.K) := op_ne.or (op_neD hu)
theorem decI {i j : Int} : decide (V.int i = V.int j) = decide (i = j) := by simp
theorem decS {i j : List Nat} : decide (V.str (tx i) = V.str (tx j)) = decide (i = j) := by
  have h : (tx i = tx j) ↔ i = j := ⟨fun e => by
    have e2 := congrArg (fun s : Str => s.cps.toList) e
    simpa [tx] using e2, fun e => by rw [e]⟩
  simp [h]
theorem wp_eqI {i j : Int} (q : P (.bl (decide (i = j))) F) : Wp o (rEqP K (.int i) (.int j)) F P := fun H w Q k => .inl ⟨rfl, by rw [decI]; exact k _ H F w q⟩
theorem wp_neI {i j : Int} (q : P (.bl (!decide (i = j))) F) : Wp o (rNeP K (.int i) (.int j)) F P := fun H w Q k => .inl ⟨rfl, by rw [decI]; exact k _ H F w q⟩
theorem wp_eqS {i j : List Nat} (q : P (.bl (decide (i = j))) F) : Wp o (rEqP K (.str (tx i)) (.str (tx j))) F P := fun H w Q k => .inl ⟨rfl, by rw [decS]; exact k _ H F w q⟩
theorem wp_neS {i j : List Nat} (q : P (.bl (!decide (i = j))) F) : Wp o (rNeP K (.str (tx i)) (.str (tx j))) F P := fun H w Q k => .inl ⟨rfl, by rw [decS]; exact k _ H F w q⟩
theorem wp_isN {x : V} (q : P (.bl (decide (x = .non))) F) : Wp o (fun H Q => V.non = .non ∧ Q (.bl (decide (x = .non))) H) F P := fun H w Q k => ⟨rfl, k _ H F w q⟩
/-! data -/
mutual
theorem Dp.up {H H1 : Hp} (e : Ex H H1) : ∀ {v : V} {d : PyData}, Dp K H v d → Dp K H1 v d
  | _, _, .non => .non
  | _, _, .bl b => .bl b
  | _, _, .int i => .int i
  | _, _, .str x => .str x
  | _, _, .lst h a => .lst (ex_l e h) (DpAll.up e a)
  | _, _, .tup h a => .tup (ex_t e h) (DpAll.up e a)
theorem DpAll.up {H H1 : Hp} (e : Ex H H1) : ∀ {vs : List V} {ds : List PyData}, DpAll K H vs ds → DpAll K H1 vs ds
  | _, _, .nil => .nil
  | _, _, .cons a b => .cons (Dp.up e a) (DpAll.up e b)
end
theorem wp_eqD {d e : PyData} (h1 : Dp K F x d) (h2 : Dp K F y e) (s1 : SeqAt.shaped d = true) (s2 : SeqAt.shaped e = true) (q : P (.bl (PyData.eqv d e)) F) : Wp o (rEqP K x y) F P := fun H w Q k =>
  .inr ⟨d, e, Dp.up w.ex h1, Dp.up w.ex h2, s1, s2, k _ H F w q⟩
theorem wp_neD {d e : PyData} (h1 : Dp K F x d) (h2 : Dp K F y e) (s1 : SeqAt.shaped d = true) (s2 : SeqAt.shaped e = true) (q : P (.bl (!PyData.eqv d e)) F) : Wp o (rNeP K x y) F P := fun H w Q k =>
  .inr ⟨d, e, Dp.up w.ex h1, Dp.up w.ex h2, s1, s2, k _ H F w q⟩
def rInP (K : PySem.W.Frag) : R2 := fun x y H Q => (∃ (c : Nat) (z : Str), x = .str ⟨#[c]⟩ ∧ y = .str z ∧ Q (.bl (decide (c ∈ z.cps.toList))) H) ∨ rIn K false x y H Q
def rNiP (K : PySem.W.Frag) : R2 := fun x y H Q => (∃ (c : Nat) (z : Str), x = .str ⟨#[c]⟩ ∧ y = .str z ∧ Q (.bl (!decide (c ∈ z.cps.toList))) H) ∨ rIn K true x y H Q
theorem op_inP {X : Cx} : OpR X (compareOp .In) (rInP X.K) := op_in_sign.or op_in_seq
theorem op_niP {X : Cx} : OpR X (compareOp .NotIn) (rNiP X.K) := op_notIn_sign.or op_notIn_seq
theorem wp_inS {c : Nat} {l : List Nat} (q : P (.bl (decide (c ∈ l))) F) : Wp o (rInP K (sg c) (.str (tx l))) F P := fun H w Q k => .inl ⟨c, tx l, rfl, rfl, k _ H F w q⟩
theorem wp_niS {c : Nat} {l : List Nat} (q : P (.bl (!decide (c ∈ l))) F) : Wp o (rNiP K (sg c) (.str (tx l))) F P := fun H w Q k => .inl ⟨c, tx l, rfl, rfl, k _ H F w q⟩
theorem wp_niT {p : Addr} {xs : List V} (h : SqT K F p xs) (hx : flatV x = true) (ha : xs.all flatV = true) (q : P (.bl (!inV x xs)) F) : Wp o (rNiP K x (.ref p)) F P := fun H w Q k =>
  .inr ⟨p, xs, rfl, .inr (w.t h), hx, ha, k _ H F w q⟩
/-! subscripts -/
theorem wp_ixL {p : Addr} {xs : List V} {i : Int} (h : SqL K F p xs) (ha : atI xs i = some v) (q : P v F) : Wp o (rIx K (.ref p) (.int i)) F P := fun H w Q k => .inl ⟨p, xs, i, v, rfl, rfl, w.l h, ha, k _ H F w q⟩
theorem wp_ixT {p : Addr} {xs : List V} {i : Int} (h : SqT K F p xs) (ha : atI xs i = some v) (q : P v F) : Wp o (rIx K (.ref p) (.int i)) F P := fun H w Q k => .inr (.inl ⟨p, xs, i, v, rfl, rfl, w.t h, ha, k _ H F w q⟩)
theorem wp_ixS {l : List Nat} {i : Int} {c : Nat} (h : l.length ≤ 100000) (ha : atI l i = some c) (q : P (sg c) F) : Wp o (rIx K (.str (tx l)) (.int i)) F P := fun H w Q k =>
  .inr (.inr ⟨tx l, i, c, rfl, rfl, by rw [tx_len]; exact sz h, ha, k _ H F w q⟩)
def cutN (l : List Nat) (lo hi : Option Int) : List Nat := (l.drop (HT.sIx l.length 0 lo)).take (HT.sIx l.length l.length hi - HT.sIx l.length 0 lo)
def rSlP (K : PySem.W.Frag) : V → Option Int → Option Int → Hp → VK → Prop := fun x a b H Q => rSlL K x a b H Q ∨ rSlS x a b H Q
theorem sl_P {X : Cx} : SlR X (rSlP X.K) := sl_list.or sl_str
theorem wp_slL {p : Addr} {xs : List V} {a b : Option Int} (h : SqL K F p xs) (q : ∀ p, F p = none → P (.ref p) (upd F p (.lst (cutV xs a b)))) : Wp o (rSlP K (.ref p) a b) F P := fun H w Q k =>
  .inl ⟨p, xs, rfl, w.l h, fun p hp => k _ _ _ (w.new1 hp) (q p (w.fr hp))⟩
theorem wp_slS {l : List Nat} {a b : Option Int} (h : l.length ≤ 100000) (q : P (.str (tx (cutN l a b))) F) : Wp o (rSlP K (.str (tx l)) a b) F P := fun H w Q k =>
  .inr ⟨tx l, rfl, by rw [tx_len]; exact sz h, by
    have e : cutS (tx l) a b = tx (cutN l a b) := by
      unfold cutS cutN tx
      simp only [Str.length, List.size_toArray]
    rw [e]; exact k _ H F w q⟩
/-! built-ins -/
abbrev rLenV (K : PySem.W.Frag) : List V → Hp → VK → Prop := fun xs H Q => ∃ x n, xs = [x] ∧ LenV K x H n ∧ Q (.int n) H
theorem wp_lenL {p : Addr} {xs : List V} (h : SqL K F p xs) (q : P (.int (xs.length : Nat)) F) : Wp o (rLenV K [.ref p]) F P := fun H w Q k => ⟨_, xs.length, rfl, .inl ⟨xs, w.l h, rfl⟩, k _ H F w q⟩
theorem wp_lenT {p : Addr} {xs : List V} (h : SqT K F p xs) (q : P (.int (xs.length : Nat)) F) : Wp o (rLenV K [.ref p]) F P := fun H w Q k => ⟨_, xs.length, rfl, .inr ⟨xs, w.t h, rfl⟩, k _ H F w q⟩
theorem wp_lenS {l : List Nat} (h : l.length ≤ 100000) (q : P (.int (l.length : Nat)) F) : Wp o (rLenV K [.str (tx l)]) F P := fun H w Q k => ⟨_, l.length, rfl, ⟨by rw [tx_len]; exact sz h, (tx_len l).symm⟩, k _ H F w q⟩
def rListP (K : PySem.W.Frag) : List V → Hp → VK → Prop := fun xs H Q => (∃ p ys, xs = [.ref p] ∧ (SqL K H p ys ∨ SqT K H p ys) ∧ ∀ l, H l = none → Q (.ref l) (upd H l (.lst ys))) ∨
  (∃ z : Str, xs = [.str z] ∧ z.length ≤ sizeLine ∧ ∀ q, H q = none → Q (.ref q) (upd H q (.lst (sgs z))))
theorem call_listP {X : Cx} (hc : X.calm = true) : CallR X (.type "list") (rListP X.K) := call_list_of.or (call_list_sg hc)
theorem wp_listL {p : Addr} {xs : List V} (h : SqL K F p xs) (q : ∀ p, F p = none → P (.ref p) (upd F p (.lst xs))) : Wp o (rListP K [.ref p]) F P := fun H w Q k =>
  .inl ⟨p, xs, rfl, .inl (w.l h), fun p hp => k _ _ _ (w.new1 hp) (q p (w.fr hp))⟩
theorem wp_listS {l : List Nat} (h : l.length ≤ 100000) (q : ∀ p, F p = none → P (.ref p) (upd F p (.lst (l.map sg)))) : Wp o (rListP K [.str (tx l)]) F P := fun H w Q k =>
  .inr ⟨tx l, rfl, by rw [tx_len]; exact sz h, fun p hp => k _ _ _ (w.new1 hp) (q p (w.fr hp))⟩
theorem wp_lenSg (h : Wp o (ta σ) F fun x F1 => ∃ l : List Nat, x = .str (tx l) ∧ l.length ≤ 1000 ∧ P (.int (dd l : Nat)) F1) : Wp o (tLenSg ta σ) F P := fun H w Q k =>
  h H w _ fun x H1 F1 w1 ⟨l, e, hl, p⟩ => ⟨l, e, hl, k _ H1 F1 w1 p⟩
end

/-! ### what a def hands back -/
/-- a new object -/
def RetN (u : HO) (H : Hp) (Q : VK) : Prop := ∀ p H1, H p = none → Ex H H1 → H1 p = some u → Q (.ref p) H1
/-- a value -/
def RetV (v : V) (H : Hp) (Q : VK) : Prop := ∀ H1, Ex H H1 → Q v H1
section
variable {o : Option Addr} {F H : Hp} {P : V → Hp → Prop} {Q : VK} {u : HO} {v : V}
theorem RetN.use (w : Wd o F H) (q : ∀ p, F p = none → P (.ref p) (upd F p u)) (k : ∀ v H1 F1, Wd o F1 H1 → P v F1 → Q v H1) : RetN u H Q := fun p H1 n e h => k _ _ _ (w.new n e h) (q p (w.fr n))
theorem RetV.use (w : Wd o F H) (q : P v F) (k : ∀ v H1 F1, Wd o F1 H1 → P v F1 → Q v H1) : RetV v H Q := fun H1 e => k _ _ _ (w.up e) q
theorem RetN.out {p : Addr} {F1 : Hp} (k : RetN u H Q) (e : Ex H F1) (n : H p = none) (h : F1 p = some u) : ∀ H1, Wd o F1 H1 → Q (.ref p) H1 := fun H1 w => k p H1 n (e.trans w.ex) (w.ex _ _ h)
theorem RetV.out {F1 : Hp} (k : RetV v H Q) (e : Ex H F1) : ∀ H1, Wd o F1 H1 → Q v H1 := fun H1 w => k H1 (e.trans w.ex)
end

/-! ### statements -/
section
variable {o : Option Addr} {F : Hp} {σ : L2.St} {K : PySem.W.Frag} {D : Ends} {te ta tb : TE} {tt : TT} {tu tw tz : TS} {g : TG} {tl : TA}
theorem go_set {i : Nat} (h : Wp o (te σ) F fun v F1 => Go o tz D (σ.set i (some v)) F1) : Go o (tSeq (tAsg te (gName i)) tz) D σ F := fun H w => h H w _ fun v H1 F1 w1 k => k H1 w1
theorem go_asg (h : Wp o (te σ) F fun v F1 => Wp o (g v σ) F1 fun σ1 F2 => Go o tz D σ1 F2) : Go o (tSeq (tAsg te g) tz) D σ F := fun H w => h H w _ fun v H1 F1 w1 k => k H1 w1 _ fun σ1 H2 F2 w2 k2 => k2 H2 w2
theorem go_if (h : Wp o (tt σ) F fun b F1 => (b = true → Go o tu { D with nx := tz D } σ F1) ∧ (b = false → Go o tw { D with nx := tz D } σ F1)) : Go o (tSeq (tIfS tt tu tw) tz) D σ F := fun H w => h H w _ fun b H1 F1 w1 ⟨h1, h2⟩ => by
  cases b with
  | true => rw [if_pos rfl]; exact h1 rfl H1 w1
  | false => rw [if_neg Bool.false_ne_true]; exact h2 rfl H1 w1
theorem go_ret (h : Wp o (te σ) F fun v F1 => ∀ H, Wd o F1 H → D.rt v H) : Go o (tSeq (tRet te) tz) D σ F := fun H w => h H w _ fun v H1 F1 w1 k => k H1 w1
theorem go_drop (h : Wp o (te σ) F fun v F1 => Go o tz D σ F1) : Go o (tSeq (tDrop te) tz) D σ F := fun H w => h H w _ fun v H1 F1 w1 k => k H1 w1
theorem go_never (h : False) : Go o (tSeq tNever tz) D σ F := h.elim
theorem go_next (h : ∀ H, Wd o F H → D.nx σ H) : Go o tNext D σ F := h
/-- the end of a branch: on with what is behind the if -/
theorem go_back {D1 : Ends} (h : Go o tz D1 σ F) : Go o tNext { D with nx := tz D1 } σ F := h
/-- the end of a loop's turn -/
theorem go_turn {P : L2.St → Hp → Prop} (hD : D.nx = Cl o P) (h : P σ F) : Go o tNext D σ F := fun H w => by
  show D.nx σ H
  rw [hD]
  exact ⟨F, w, h⟩
theorem go_turnW {P : L2.St → Hp → Prop} (h : P σ F) : ∀ H, Wd o F H → Cl o P σ H := fun H w => ⟨F, w, h⟩
/-! targets -/
variable {P : L2.St → Hp → Prop} {v : V} {vs : List V} {gs : TGs}
theorem wp_gName {i : Nat} (q : P (σ.set i (some v)) F) : Wp o (gName i v σ) F P := fun H w Q k => k _ H F w q
theorem wp_gTup {n : Nat} {a : Addr} (h : SqT K F a vs) (hl : vs.length = n) (q : Wp o (gs vs σ) F P) : Wp o (gTup K n gs (.ref a) σ) F P := fun H w Q k => ⟨a, vs, rfl, w.t h, hl, q H w Q k⟩
theorem wp_gCons (h : Wp o (g v σ) F fun σ1 F1 => Wp o (gs vs σ1) F1 P) : Wp o (gCons g gs (v :: vs) σ) F P := fun H w Q k => ⟨v, vs, rfl, h H w _ fun σ1 H1 F1 w1 h1 => h1 H1 w1 Q k⟩
theorem wp_gNil (q : P σ F) : Wp o (gNil [] σ) F P := fun H w Q k => ⟨rfl, k _ H F w q⟩
theorem wp_gSetL (h : Wp o (ta σ) F fun x F1 => Wp o (tb σ) F1 fun y F2 => ∃ a xs i j, x = .ref a ∧ y = .int i ∧ F2 a = some (.lst xs) ∧ ixN xs.length i = some j ∧ P σ (upd F2 a (.lst (xs.set j v)))) : Wp o (gSub ta tb rSetL v σ) F P := fun H w Q k =>
  h H w _ fun x H1 F1 w1 h1 => h1 H1 w1 _ fun y H2 F2 w2 ⟨a, xs, i, j, e1, e2, hf, hj, p⟩ => ⟨a, xs, i, j, e1, e2, w2.ex _ _ hf, hj, k _ _ _ (w2.mut hf) p⟩
/-! list methods as statements -/
variable {R : V → Hp → Prop}
theorem wp_append {a : Addr} {xs : List V} {x : V} (h : F a = some (.lst xs)) (hz : xs.length < 100000) (q : R .non (upd F a (.lst (xs ++ [x])))) : Wp o (rAppend (.ref a) [x]) F R := fun H w Q k =>
  ⟨a, xs, x, rfl, rfl, w.ex _ _ h, sz1 hz, k _ _ _ (w.mut h) q⟩
theorem wp_clear {a : Addr} {xs : List V} (h : F a = some (.lst xs)) (q : R .non (upd F a (.lst []))) : Wp o (rClear (.ref a) []) F R := fun H w Q k =>
  ⟨a, xs, rfl, rfl, w.ex _ _ h, k _ _ _ (w.mut h) q⟩
/-! loops -/
/-- over a list -/
theorem go_forL (Iv : Nat → L2.St → Hp → Prop) (h : Wp o (te σ) F fun x F1 => ∃ a xs, x = .ref a ∧ SqL K F1 a xs ∧ Iv 0 σ F1 ∧ (∀ i σ1 F2, i ≤ xs.length → Iv i σ1 F2 → SqL K F2 a xs) ∧
    (∀ i y σ1 F2, xs[i]? = some y → Iv i σ1 F2 → Wp o (g y σ1) F2 fun σ2 F3 => Go o tu { D with nx := Cl o (Iv (i + 1)), ct := Cl o (Iv (i + 1)), bk := tz D } σ2 F3) ∧ (∀ σ1 F2, Iv xs.length σ1 F2 → Go o tz D σ1 F2)) :
    Go o (tSeq (tFor (iList K te) g tu) tz) D σ F := fun H w => h H w _ fun x H1 F1 w1 ⟨a, xs, e, hs, h0, hl, ht, hd⟩ => ⟨a, e, ⟨xs, w1.l hs⟩,
  for_list (D := { D with nx := tz D }) (fun i => Cl o (Iv i)) ⟨F1, w1, h0⟩ (fun i σ1 H2 hi ⟨F2, w2, p⟩ => w2.l (hl i σ1 F2 hi p)) (fun i y σ1 H2 hy ⟨F2, w2, p⟩ => ht i y σ1 F2 hy p H2 w2 _ fun σ2 H3 F3 w3 k => k H3 w3) fun σ1 H2 ⟨F2, w2, p⟩ => hd σ1 F2 p H2 w2⟩
/-- .. the invariant chosen when the list is known -/
theorem go_forLx (h : Wp o (te σ) F fun x F1 => ∃ a xs, x = .ref a ∧ SqL K F1 a xs ∧ ∃ Iv : Nat → L2.St → Hp → Prop, Iv 0 σ F1 ∧ (∀ i σ1 F2, i ≤ xs.length → Iv i σ1 F2 → SqL K F2 a xs) ∧
    (∀ i y σ1 F2, xs[i]? = some y → Iv i σ1 F2 → Wp o (g y σ1) F2 fun σ2 F3 => Go o tu { D with nx := Cl o (Iv (i + 1)), ct := Cl o (Iv (i + 1)), bk := tz D } σ2 F3) ∧ (∀ σ1 F2, Iv xs.length σ1 F2 → Go o tz D σ1 F2)) :
    Go o (tSeq (tFor (iList K te) g tu) tz) D σ F := fun H w => h H w _ fun x H1 F1 w1 ⟨a, xs, e, hs, Iv, h0, hl, ht, hd⟩ => ⟨a, e, ⟨xs, w1.l hs⟩,
  for_list (D := { D with nx := tz D }) (fun i => Cl o (Iv i)) ⟨F1, w1, h0⟩ (fun i σ1 H2 hi ⟨F2, w2, p⟩ => w2.l (hl i σ1 F2 hi p)) (fun i y σ1 H2 hy ⟨F2, w2, p⟩ => ht i y σ1 F2 hy p H2 w2 _ fun σ2 H3 F3 w3 k => k H3 w3) fun σ1 H2 ⟨F2, w2, p⟩ => hd σ1 F2 p H2 w2⟩
theorem go_forT (Iv : Nat → L2.St → Hp → Prop) (h : Wp o (te σ) F fun x F1 => ∃ a xs, x = .ref a ∧ SqT K F1 a xs ∧ Iv 0 σ F1 ∧ (∀ i σ1 F2, i ≤ xs.length → Iv i σ1 F2 → SqT K F2 a xs) ∧
    (∀ i y σ1 F2, xs[i]? = some y → Iv i σ1 F2 → Wp o (g y σ1) F2 fun σ2 F3 => Go o tu { D with nx := Cl o (Iv (i + 1)), ct := Cl o (Iv (i + 1)), bk := tz D } σ2 F3) ∧ (∀ σ1 F2, Iv xs.length σ1 F2 → Go o tz D σ1 F2)) :
    Go o (tSeq (tFor (iTup K te) g tu) tz) D σ F := fun H w => h H w _ fun x H1 F1 w1 ⟨a, xs, e, hs, h0, hl, ht, hd⟩ => ⟨a, e, ⟨xs, w1.t hs⟩,
  for_tup (D := { D with nx := tz D }) (fun i => Cl o (Iv i)) ⟨F1, w1, h0⟩ (fun i σ1 H2 hi ⟨F2, w2, p⟩ => w2.t (hl i σ1 F2 hi p)) (fun i y σ1 H2 hy ⟨F2, w2, p⟩ => ht i y σ1 F2 hy p H2 w2 _ fun σ2 H3 F3 w3 k => k H3 w3) fun σ1 H2 ⟨F2, w2, p⟩ => hd σ1 F2 p H2 w2⟩
/-- over range(n) -/
theorem go_forR {j : Nat} (Iv : Nat → L2.St → Hp → Prop) (h : Wp o (tl σ) F fun vs F1 => ∃ n : Nat, vs = [.int (n : Int)] ∧ n ≤ 1000000 ∧ Iv 0 σ F1 ∧
    (∀ i σ1 F2, i < n → Iv i σ1 F2 → Go o tu { D with nx := Cl o (Iv (i + 1)), ct := Cl o (Iv (i + 1)), bk := tz D } (σ1.set j (some (.int (i : Int)))) F2) ∧ (∀ σ1 F2, Iv n σ1 F2 → Go o tz D σ1 F2)) :
    Go o (tSeq (tFor (iRng1 tl) (gName j) tu) tz) D σ F := fun H w => h H w _ fun vs H1 F1 w1 ⟨n, e, hn, h0, ht, hd⟩ => ⟨(n : Int), e, by omega, by omega, by
  rw [Int.toNat_natCast]
  exact for_range (D := { D with nx := tz D }) (fun i => Cl o (Iv i)) ⟨F1, w1, h0⟩ (fun i σ1 H2 hi ⟨F2, w2, p⟩ => by
    have e0 : (0 : Int) + (i : Int) = (i : Int) := Int.zero_add _
    rw [e0]
    exact ht i σ1 F2 hi p H2 w2) fun σ1 H2 ⟨F2, w2, p⟩ => hd σ1 F2 p H2 w2⟩
/-- over enumerate(list) -/
theorem go_forE (Iv : Nat → L2.St → Hp → Prop) (h : Wp o (tl σ) F fun us F1 => ∃ a xs, us = [.ref a] ∧ SqL K F1 a xs ∧ Iv 0 σ F1 ∧ (∀ i σ1 F2, i ≤ xs.length → Iv i σ1 F2 → SqL K F2 a xs) ∧
    (∀ i y σ1 F2 p, xs[i]? = some y → F2 p = none → Iv i σ1 F2 → Wp o (g (.ref p) σ1) (upd F2 p (.tup [.int (i : Nat), y])) fun σ2 F3 => Go o tu { D with nx := Cl o (Iv (i + 1)), ct := Cl o (Iv (i + 1)), bk := tz D } σ2 F3) ∧ (∀ σ1 F2, Iv xs.length σ1 F2 → Go o tz D σ1 F2)) :
    Go o (tSeq (tFor (iEnum K tl) g tu) tz) D σ F := fun H w => h H w _ fun us H1 F1 w1 ⟨a, xs, e, hs, h0, hl, ht, hd⟩ => ⟨a, xs, e, w1.l hs,
  for_it (D := { D with nx := tz D }) walk_enum (fun i => Cl o (Iv i)) ⟨F1, w1, h0⟩ (fun i σ1 H2 hi ⟨F2, w2, p⟩ => w2.l (hl i σ1 F2 hi p)) (fun i v σ1 H2 H3 hi ⟨F2, w2, p⟩ hy => by
    obtain ⟨T, x, y, e1, e2, e3, e4, e5⟩ := hy
    cases e4
    subst e1; subst e3
    exact ht i y σ1 F2 T e5 (w2.fr e2) p _ (w2.new1 e2) _ fun σ2 H4 F4 w4 k => k H4 w4) fun σ1 H2 ⟨F2, w2, p⟩ => hd σ1 F2 p H2 w2⟩
theorem go_while (Iv : Nat → L2.St → Hp → Prop) (m : Nat) (h0 : Iv m σ F) (h : ∀ m σ1 F1, Iv m σ1 F1 → Wp o (tt σ1) F1 fun b F2 =>
    (b = true → Go o tu { D with nx := Cl o (fun σ2 F3 => ∃ m1, m1 < m ∧ Iv m1 σ2 F3), ct := Cl o (fun σ2 F3 => ∃ m1, m1 < m ∧ Iv m1 σ2 F3), bk := tz D } σ1 F2) ∧ (b = false → Go o tz D σ1 F2)) :
    Go o (tSeq (tWhile tt tu) tz) D σ F := fun H w => ⟨fun m => Cl o (Iv m), ⟨m, F, w, h0⟩, fun m σ1 H1 ⟨F1, w1, p⟩ => h m σ1 F1 p H1 w1 _ fun b H2 F2 w2 ⟨h1, h2⟩ => by
  cases b with
  | true =>
    rw [if_pos rfl]
    exact ⟨_, fun σ2 H3 ⟨F3, w3, m1, hm, q⟩ => ⟨m1, hm, F3, w3, q⟩, h1 rfl H2 w2⟩
  | false =>
    rw [if_neg Bool.false_ne_true]
    exact h2 rfl H2 w2⟩
end

/-! ### comprehensions -/
section
variable {o : Option Addr} {F : Hp} {σ : L2.St} {K : PySem.W.Frag} {P : V → Hp → Prop} {ts te : TE} {tt : TT} {tl : TA} {g : TG} {vs : List Nat}
/-- one turn: the list D so far, what is known -/
def LcT (o : Option Addr) (D : Addr) (acc : List V) (tt : TT) (te : TE) (σ : L2.St) (F : Hp) (N : List V → Hp → Prop) : Prop :=
  Wp o (tt σ) F fun b F1 => (b = true → Wp o (te σ) F1 fun y F2 => F2 D = some (.lst acc) ∧ acc.length < 100000 ∧ N (acc ++ [y]) (upd F2 D (.lst (acc ++ [y])))) ∧ (b = false → F1 D = some (.lst acc) ∧ N acc F1)
theorem lc_turn {D : Addr} {acc : List V} {N : List V → Hp → Prop} {Nx : Hp → Prop} {σ2 : L2.St} {H2 : Hp} {F2 : Hp} (w : Wd o F2 H2) (h : LcT o D acc tt te σ2 F2 N) (n : ∀ acc1 H F3, Wd o F3 H → F3 D = some (.lst acc1) → N acc1 F3 → Nx H) :
    tt σ2 H2 fun b H3 => if b = true then te σ2 H3 fun y H4 => ∃ acc, H4 D = some (.lst acc) ∧ acc.length < sizeLine ∧ Nx (upd H4 D (.lst (acc ++ [y]))) else Nx H3 := h H2 w _ fun b H3 F3 w3 ⟨h1, h2⟩ => by
  cases b with
  | true =>
    rw [if_pos rfl]
    exact h1 rfl H3 w3 _ fun y H4 F4 w4 ⟨hd, hz, hn⟩ => ⟨acc, w4.ex _ _ hd, sz1 hz, n _ _ _ (w4.mut hd) upd_same hn⟩
  | false =>
    rw [if_neg Bool.false_ne_true]
    exact n acc H3 F3 w3 (h2 rfl).1 (h2 rfl).2
theorem wp_lcL {j : Nat} (hw : ∀ x, wipe ((wipe σ vs).set j (some x)) vs = wipe σ vs)
    (h : Wp o (ts σ) F fun x F1 => ∃ a xs, x = .ref a ∧ SqL K F1 a xs ∧ ∀ D, F1 D = none → ∃ Iv : Nat → List V → Hp → Prop, Iv 0 [] (upd F1 D (.lst [])) ∧ (∀ i acc F2, Iv i acc F2 → SqL K F2 a xs) ∧
      (∀ i x acc F2, xs[i]? = some x → F2 D = some (.lst acc) → Iv i acc F2 → LcT o D acc tt te ((wipe σ vs).set j (some x)) F2 (Iv (i + 1))) ∧ (∀ acc F2, F2 D = some (.lst acc) → Iv xs.length acc F2 → P (.ref D) F2)) :
    Wp o (tLc (iList K ts) (gName j) tt te vs σ) F P := fun H w Q k => h H w _ fun x H1 F1 w1 ⟨a, xs, e, hs, hh⟩ => ⟨a, e, ⟨xs, w1.l hs⟩, fun D hD => by
  obtain ⟨Iv, h0, hl, ht, hd⟩ := hh D (w1.fr hD)
  refine lc_list (xs := xs) (fun i H2 => ∃ acc F2, Wd o F2 H2 ∧ F2 D = some (.lst acc) ∧ Iv i acc F2) ⟨[], _, w1.new1 hD, upd_same, h0⟩ (fun i H2 hi ⟨acc, F2, w2, _, p⟩ => w2.l (hl i acc F2 p)) (fun i y H2 hy ⟨acc, F2, w2, q2, p⟩ => ?_) fun H2 ⟨acc, F2, w2, q2, p⟩ => k _ _ _ w2 (hd acc F2 q2 p)
  refine ⟨hw y, ?_⟩
  exact lc_turn w2 (ht i y acc F2 hy q2 p) fun acc1 H3 F3 w3 q3 n => ⟨acc1, F3, w3, q3, n⟩⟩
theorem wp_lcT {j : Nat} (hw : ∀ x, wipe ((wipe σ vs).set j (some x)) vs = wipe σ vs)
    (h : Wp o (ts σ) F fun x F1 => ∃ a xs, x = .ref a ∧ SqT K F1 a xs ∧ ∀ D, F1 D = none → ∃ Iv : Nat → List V → Hp → Prop, Iv 0 [] (upd F1 D (.lst [])) ∧ (∀ i acc F2, Iv i acc F2 → SqT K F2 a xs) ∧
      (∀ i x acc F2, xs[i]? = some x → F2 D = some (.lst acc) → Iv i acc F2 → LcT o D acc tt te ((wipe σ vs).set j (some x)) F2 (Iv (i + 1))) ∧ (∀ acc F2, F2 D = some (.lst acc) → Iv xs.length acc F2 → P (.ref D) F2)) :
    Wp o (tLc (iTup K ts) (gName j) tt te vs σ) F P := fun H w Q k => h H w _ fun x H1 F1 w1 ⟨a, xs, e, hs, hh⟩ => ⟨a, e, ⟨xs, w1.t hs⟩, fun D hD => by
  obtain ⟨Iv, h0, hl, ht, hd⟩ := hh D (w1.fr hD)
  refine lc_tup (xs := xs) (fun i H2 => ∃ acc F2, Wd o F2 H2 ∧ F2 D = some (.lst acc) ∧ Iv i acc F2) ⟨[], _, w1.new1 hD, upd_same, h0⟩ (fun i H2 hi ⟨acc, F2, w2, _, p⟩ => w2.t (hl i acc F2 p)) (fun i y H2 hy ⟨acc, F2, w2, q2, p⟩ => ?_) fun H2 ⟨acc, F2, w2, q2, p⟩ => k _ _ _ w2 (hd acc F2 q2 p)
  refine ⟨hw y, ?_⟩
  exact lc_turn w2 (ht i y acc F2 hy q2 p) fun acc1 H3 F3 w3 q3 n => ⟨acc1, F3, w3, q3, n⟩⟩
theorem wp_lcR {j : Nat} (hw : ∀ x, wipe ((wipe σ vs).set j (some x)) vs = wipe σ vs)
    (h : Wp o (tl σ) F fun us F1 => ∃ n : Nat, us = [.int (n : Int)] ∧ n ≤ 1000000 ∧ ∀ D, F1 D = none → ∃ Iv : Nat → List V → Hp → Prop, Iv 0 [] (upd F1 D (.lst [])) ∧
      (∀ i acc F2, i < n → F2 D = some (.lst acc) → Iv i acc F2 → LcT o D acc tt te ((wipe σ vs).set j (some (.int (i : Int)))) F2 (Iv (i + 1))) ∧ (∀ acc F2, F2 D = some (.lst acc) → Iv n acc F2 → P (.ref D) F2)) :
    Wp o (tLc (iRng1 tl) (gName j) tt te vs σ) F P := fun H w Q k => h H w _ fun us H1 F1 w1 ⟨n, e, hn, hh⟩ => ⟨(n : Int), e, by omega, by omega, fun D hD => by
  obtain ⟨Iv, h0, ht, hd⟩ := hh D (w1.fr hD)
  rw [Int.toNat_natCast]
  refine lc_range (n := n) (fun i H2 => ∃ acc F2, Wd o F2 H2 ∧ F2 D = some (.lst acc) ∧ Iv i acc F2) ⟨[], _, w1.new1 hD, upd_same, h0⟩ (fun i H2 hi ⟨acc, F2, w2, q2, p⟩ => ?_) fun H2 ⟨acc, F2, w2, q2, p⟩ => k _ _ _ w2 (hd acc F2 q2 p)
  have e0 : (0 : Int) + (i : Int) = (i : Int) := Int.zero_add _
  rw [e0]
  refine ⟨hw _, ?_⟩
  exact lc_turn w2 (ht i acc F2 hi q2 p) fun acc1 H3 F3 w3 q3 n => ⟨acc1, F3, w3, q3, n⟩⟩
theorem wp_lcS {j : Nat} (hw : ∀ x, wipe ((wipe σ vs).set j (some x)) vs = wipe σ vs)
    (h : Wp o (ts σ) F fun x F1 => ∃ l : List Nat, x = .str (tx l) ∧ ∀ D, F1 D = none → ∃ Iv : Nat → List V → Hp → Prop, Iv 0 [] (upd F1 D (.lst [])) ∧
      (∀ i c acc F2, l[i]? = some c → F2 D = some (.lst acc) → Iv i acc F2 → LcT o D acc tt te ((wipe σ vs).set j (some (sg c))) F2 (Iv (i + 1))) ∧ (∀ acc F2, F2 D = some (.lst acc) → Iv l.length acc F2 → P (.ref D) F2)) :
    Wp o (tLc (iStr ts) (gName j) tt te vs σ) F P := fun H w Q k => h H w _ fun x H1 F1 w1 ⟨l, e, hh⟩ => ⟨tx l, e, fun D hD => by
  obtain ⟨Iv, h0, ht, hd⟩ := hh D (w1.fr hD)
  have ez : (tx l).cps.size = l.length := by simp [tx]
  refine lc_it (walk_str (z := tx l)) (fun i H2 => ∃ acc F2, Wd o F2 H2 ∧ F2 D = some (.lst acc) ∧ Iv i acc F2) ⟨[], _, w1.new1 hD, upd_same, h0⟩ (fun _ _ _ _ => trivial) (fun i y H2 H3 hi ⟨acc, F2, w2, q2, p⟩ hy => ?_) fun H2 ⟨acc, F2, w2, q2, p⟩ => k _ _ _ w2 (hd acc F2 q2 (by rw [← ez]; exact p))
  obtain ⟨e3, c, hc, ey⟩ := hy
  subst e3; subst ey
  refine ⟨hw _, ?_⟩
  have hc2 : l[i]? = some c := by simpa [tx] using hc
  exact lc_turn w2 (ht i c acc F2 hc2 q2 p) fun acc1 H3 F3 w3 q3 n => ⟨acc1, F3, w3, q3, n⟩⟩
end

/-! ### defs -/
/-- the def x stands as the statement st says -/
def DefAt (K : PySem.W.Frag) (mg : Str → Option Value) (x : Str) (st : Stmt) : Prop := ∃ f fd, Fun K x x st f fd ∧ mg x = some (.ref f)
/-- x keeps its promise, up to the level k -/
def Pm (P : Program) (w : World) (K : PySem.W.Frag) (mg : Str → Option Value) (base : Heap) (CX : CXT) (k : Nat) (x : Str) (ps : List Str) (sp : Sp) : Prop :=
  ∃ f fd, FnOk P w K mg base CX k f fd ps sp ∧ mg x = some (.ref f) ∧ PySem.W.keepIn K (.ref f) = true ∧ Binds K fd ps []
theorem defAt_mk {K : PySem.W.Frag} {h : Heap} {mg : Str → Option Value} {x : Str} {st : Stmt} {f : Addr} {oc : Value} {od an : Option Addr} {osl : Array (Option Value)} {kV doc pm cdv ct : Value} (X : K.In h) (G : h.Ns mainGlobals mg)
    (a : PySem.W.nsIn K mainGlobals x = some (some (.ref f))) (l : K.lookup f = some ⟨oc, od, .func (PySem.W.fnOf x x (defArgs st) (defBody st) (defScope st) .none kV doc pm an cdv ct), osl⟩)
    (c : PySem.W.codeIn K cdv x = true) (k : PySem.W.keepIn K (.ref f) = true) : DefAt K mg x st := ⟨f, _, fun_mk l c k, PySem.W.mg_of X G a⟩
section
variable {X : Cx}
theorem pe_pm {CX : CXT} {k : Nat} {x : Str} {ps : List Str} {sp : Sp} {E : XK} {e : Expr} {es : List Expr} {t : TA} {p pos : Pos} (G : Pm X.prog X.w X.K X.mg X.base CX k x ps sp) (hr : Room k X.A) (hx : Passes CX X E) (ha : PA X (e :: es) t) (hg : Gl X x := by rfl)
    (hd : (x == ("__debug__" : Str)) = false := by decide) (he : starEach (e :: es) X.env = (false, eval e X.env) :: starEach es X.env := by rfl) (hpl : (backTo pos (starEach es X.env)).any (·.1) = false := by rfl) :
    PE X (.Call (.Name x p) (e :: es) [] pos) (tCall sp [] E t) := by
  obtain ⟨f, fd, F, hm, hk, hb⟩ := G
  exact pe_call F hr hg hm hk hb .nil hx ha hd he hpl
/-- a module's number, a module's text -/
theorem pe_cst {x : Str} {i : Int} {pos : Pos} (h : ∃ t, X.mg x = some (.int i t)) (hg : Gl X x := by rfl) (hd : (x == ("__debug__" : Str)) = false := by decide) : PE X (.Name x pos) (tC (.int i)) := by
  obtain ⟨t, h⟩ := h
  exact pe_glob hg h ⟨t, rfl⟩ hd
theorem pe_cstS {x : Str} {l : List Nat} {pos : Pos} (h : ∃ t, X.mg x = some (.str (tx l) t)) (hg : Gl X x := by rfl) (hd : (x == ("__debug__" : Str)) = false := by decide) : PE X (.Name x pos) (tC (.str (tx l))) := by
  obtain ⟨t, h⟩ := h
  exact pe_glob hg h ⟨t, rfl⟩ hd
theorem pe_strT {x : Str} {j : Nat} {pos : Pos} {l : List Nat} (h : x = tx l) : PE X (.Constant (.str x) j pos) (tC (.str (tx l))) := by
  rw [h]; exact pe_str
end
/-- the built-ins' names are the built-ins' -/
structure Bl (mg : Str → Option Value) : Prop where
  len : mg "len" = none
  list : mg "list" = none
  range : mg "range" = none
  abs : mg "abs" = none
  int_ : mg "int" = none
  bool_ : mg "bool" = none
  str_ : mg "str" = none
  isinstance : mg "isinstance" = none
  all : mg "all" = none
  enumerate : mg "enumerate" = none
  max : mg "max" = none
  min : mg "min" = none
  set : mg "set" = none
  sorted : mg "sorted" = none
  tuple : mg "tuple" = none

/-! ### known answers -/
theorem bT {b : Bool} {X Y : Prop} (h : b = true) (x : X) : (b = true → X) ∧ (b = false → Y) := ⟨fun _ => x, fun z => by rw [h] at z; cases z⟩
theorem bF {b : Bool} {X Y : Prop} (h : b = false) (y : Y) : (b = true → X) ∧ (b = false → Y) := ⟨fun z => (by rw [h] at z; cases z), fun _ => y⟩
/-! ### known facts -/
theorem fr_in {F : Hp} {p q : Addr} {u : HO} (h : upd F q u p = none) : F p = none := by
  by_cases e : p = q
  · subst e; rw [upd_same] at h; cases h
  · rw [upd_ne e] at h; exact h
theorem fr_ne {F : Hp} {p q : Addr} {u : HO} (h : upd F q u p = none) : p ≠ q := fun e => by
  rw [e, upd_same] at h; cases h
theorem at_ne {F : Hp} {a p : Addr} {u v : HO} (h : F a = some u) (n : F p = none) : upd F p v a = some u := by
  rw [upd_ne (ne_of_none h n)]; exact h
theorem atNat {α : Type} {l : List α} {i : Int} {x : α} (h0 : 0 ≤ i) (h : l[i.toNat]? = some x) : atI l i = some x := by
  have e : i = ((i.toNat : Nat) : Int) := by omega
  rw [e]
  exact atI_nat h

/-! ### a cut behind a statement -/
section
variable {o : Option Addr} {F : Hp} {σ : L2.St} {D : Ends} {tu tw : TS} {tt : TT}
theorem go_cut (M : L2.St → Hp → Prop) (h : Go o tu { D with nx := Cl o M } σ F) (k : ∀ σ1 F1, M σ1 F1 → Go o tw D σ1 F1) : Go o (Evl.tCut tu tw) D σ F := fun H w => ⟨Cl o M, h H w, fun σ1 H1 ⟨F1, w1, m⟩ => k σ1 F1 m H1 w1⟩
theorem go_ifB (h : Wp o (tt σ) F fun b F1 => (b = true → Go o tu D σ F1) ∧ (b = false → Go o tw D σ F1)) : Go o (tIfS tt tu tw) D σ F := fun H w => h H w _ fun b H1 F1 w1 ⟨h1, h2⟩ => by
  cases b with
  | true => rw [if_pos rfl]; exact h1 rfl H1 w1
  | false => rw [if_neg Bool.false_ne_true]; exact h2 rfl H1 w1
end
/-! ### more operations by values -/
section
variable {o : Option Addr} {F : Hp} {σ : L2.St} {K : PySem.W.Frag} {P : V → Hp → Prop} {x y v : V}
def rIsN : R2 := fun x y H Q => y = .non ∧ Q (.bl (decide (x = .non))) H
def rNotN : R2 := fun x y H Q => y = .non ∧ Q (.bl (!decide (x = .non))) H
theorem op_isNs {X : Cx} : OpR X (compareOp .Is) rIsN := op_isN
theorem op_notNs {X : Cx} : OpR X (compareOp .IsNot) rNotN := op_notN
theorem wp_isNs (q : P (.bl (decide (x = .non))) F) : Wp o (rIsN x .non) F P := fun H w Q k => ⟨rfl, k _ H F w q⟩
theorem wp_notNs (q : P (.bl (!decide (x = .non))) F) : Wp o (rNotN x .non) F P := fun H w Q k => ⟨rfl, k _ H F w q⟩
theorem wp_eq0 (h : scal x y = true) (q : P (.bl (decide (x = y))) F) : Wp o (rEqP K x y) F P := fun H w Q k => .inl ⟨h, k _ H F w q⟩
theorem wp_ne0 (h : scal x y = true) (q : P (.bl (!decide (x = y))) F) : Wp o (rNeP K x y) F P := fun H w Q k => .inl ⟨h, k _ H F w q⟩
abbrev rAbs : List V → Hp → VK → Prop := fun xs H Q => ∃ i, xs = [V.int i] ∧ Q (.int (if i < 0 then -i else i)) H
theorem wp_abs {i : Int} (q : P (.int (if i < 0 then -i else i)) F) : Wp o (fun H Q => ∃ j, [V.int i] = [V.int j] ∧ Q (.int (if j < 0 then -j else j)) H) F P := fun H w Q k => ⟨i, rfl, k _ H F w q⟩
theorem ixN_nat {n j : Nat} (hj : j < n) : ixN n (j : Int) = some j := by
  unfold ixN
  rw [if_pos (by omega), if_pos (by omega)]
  simp
theorem wp_popAt {a : Addr} {xs : List V} {j : Nat} (h : F a = some (.lst xs)) (hz : xs.length ≤ 100000) (hj : xs[j]? = some y) (q : P y (upd F a (.lst (xs.eraseIdx j)))) : Wp o (rPopAt (.ref a) [.int (j : Int)]) F P := fun H w Q k => by
  have hl : j < xs.length := (List.getElem?_eq_some_iff.mp hj).1
  exact ⟨a, xs, j, j, y, rfl, rfl, w.ex _ _ h, by omega, by omega, (ixN_seq (ixN_nat hl)).1, hj, k _ _ _ (w.mut h) q⟩
def rIntP : List V → Hp → VK → Prop := fun xs H Q => ((∃ i, xs = [.int i] ∧ Q (.int i) H) ∨ ∃ k, xs = [.bl k] ∧ Q (.int (if k then 1 else 0)) H) ∨ (∃ a n, xs = [.str a] ∧ PySem.intText? a = some n ∧ a.length ≤ 640 ∧ Q (.int n) H)
theorem call_intP {X : Cx} : CallR X (.type "int") rIntP := call_int1.or call_int_str
theorem wp_intB {b : Bool} (q : P (.int (if b then 1 else 0)) F) : Wp o (rIntP [.bl b]) F P := fun H w Q k => .inl (.inr ⟨b, rfl, k _ H F w q⟩)
/-! isinstance -/
theorem tyX_l {H : Hp} {a : Addr} {xs : List V} (h : SqL K H a xs) : TyX K H (.ref a) (.type "list") := by
  rcases h with (h | ⟨ob, h⟩) | ⟨ob, its, n, h, hc, _⟩
  · exact .base (.lst h)
  · exact .base (.frz h)
  · exact .kList h hc
theorem tyX_t {H : Hp} {a : Addr} {xs : List V} (h : SqT K H a xs) : TyX K H (.ref a) (.type "tuple") := by
  rcases h with (h | ⟨ob, h⟩) | ⟨ob, its, n, h, hc, _⟩
  · exact .base (.tup h)
  · exact .fTuple h
  · exact .kTuple h hc
/-- the built-in type of a plain value -/
inductive TyP (K : PySem.W.Frag) (H : Hp) : V → String → Prop where
  | non : TyP K H .non "NoneType"
  | bl (b : Bool) : TyP K H (.bl b) "bool"
  | int (i : Int) : TyP K H (.int i) "int"
  | str (z : Str) : TyP K H (.str z) "str"
  | lst {a : Addr} {xs : List V} (h : SqL K H a xs) : TyP K H (.ref a) "list"
  | tup {a : Addr} {xs : List V} (h : SqT K H a xs) : TyP K H (.ref a) "tuple"
theorem TyP.ty {H : Hp} {t : String} (h : TyP K H x t) : TyX K H x (.type t) := by
  cases h with
  | non => exact .base .non
  | bl b => exact .base (.bl b)
  | int i => exact .base (.int i)
  | str z => exact .base (.str z)
  | lst h => exact tyX_l h
  | tup h => exact tyX_t h
theorem TyP.up {H H1 : Hp} {t : String} (e : Ex H H1) (h : TyP K H x t) : TyP K H1 x t := by
  cases h with
  | non => exact .non
  | bl b => exact .bl b
  | int i => exact .int i
  | str z => exact .str z
  | lst h => exact .lst (ex_l e h)
  | tup h => exact .tup (ex_t e h)
theorem wp_isi {t c : String} {b : Bool} (h : TyP K F x t) (hk : kitB t c = some b) (q : P (.bl b) F) : Wp o (rIsi K [x, .ty c]) F P := fun H w Q k =>
  ⟨x, .ty c, .type t, .type c, b, rfl, .ty c, (h.up w.ex).ty, kit_ty hk, k _ H F w q⟩
theorem wp_all {a : Addr} {bs : List Bool} (h : SqL K F a (bs.map V.bl)) (q : P (.bl (bs.all id)) F) : Wp o (rAll K [.ref a]) F P := fun H w Q k => ⟨a, bs, rfl, w.l h, k _ H F w q⟩
theorem wp_lenX {p : Addr} {xs : List V} (h : SqL K F p xs ∨ SqT K F p xs) (q : P (.int (xs.length : Nat)) F) : Wp o (rLenV K [.ref p]) F P := h.elim (fun h => wp_lenL h q) fun h => wp_lenT h q
theorem wp_ixX {p : Addr} {xs : List V} {i : Int} (h : SqL K F p xs ∨ SqT K F p xs) (ha : atI xs i = some v) (q : P v F) : Wp o (rIx K (.ref p) (.int i)) F P := h.elim (fun h => wp_ixL h ha q) fun h => wp_ixT h ha q
/-! join of signs -/
abbrev rJoin (K : PySem.W.Frag) : V → List V → Hp → VK → Prop := fun x xs H Q => ∃ a p, ∃ ys : List Str, x = .str a ∧ xs = [.ref p] ∧ (SqL K H p (ys.map V.str) ∨ SqT K H p (ys.map V.str)) ∧
  (ys.map (·.length)).sum + ys.length * a.length ≤ 16777216 ∧ Q (.str (Txt.join a ys)) H
theorem join_sg : ∀ l : List Nat, Str.join (tx []) (l.map fun c => (⟨#[c]⟩ : Str)) = tx l
  | [] => rfl
  | [c] => rfl
  | c :: d :: r => by
    have ih := join_sg (d :: r)
    show (⟨#[c]⟩ : Str) ++ tx [] ++ Str.join (tx []) ((d :: r).map fun c => (⟨#[c]⟩ : Str)) = tx (c :: d :: r)
    rw [ih]
    show tx [c] ++ tx [] ++ tx (d :: r) = _
    rw [tx_app, tx_app]
    rfl
theorem sum_ones : ∀ l : List Nat, ((l.map fun c => (⟨#[c]⟩ : Str)).map (·.length)).sum = l.length
  | [] => rfl
  | c :: r => by
    have ih := sum_ones r
    rw [List.map_cons, List.map_cons, List.sum_cons, ih, List.length_cons]
    show 1 + r.length = r.length + 1
    omega
theorem wp_joinSg {p : Addr} {l : List Nat} (h : SqL K F p (l.map sg)) (hl : l.length ≤ 100000) (q : P (.str (tx l)) F) : Wp o (rJoin K (.str (tx [])) [.ref p]) F P := fun H w Q k =>
  ⟨tx [], p, l.map fun c => ⟨#[c]⟩, rfl, rfl, .inl (by rw [List.map_map]; exact w.l h), by
    rw [sum_ones, List.length_map]
    show l.length + l.length * 0 ≤ _
    omega, by
    rw [show Txt.join (tx []) (l.map fun c => (⟨#[c]⟩ : Str)) = Str.join (tx []) (l.map fun c => (⟨#[c]⟩ : Str)) from PySem.StrLaws.glued_eq_join _ _, join_sg]
    exact k _ H F w q⟩
end
/-! ### dice -/
section
variable {o : Option Addr} {F H : Hp} {d : Addr}
/-- H without d -/
def rm (H : Hp) (d : Addr) : Hp := fun b => if b = d then none else H b
theorem rm_same : rm H d d = none := by unfold rm; rw [if_pos rfl]
theorem rm_ne {b : Addr} (h : b ≠ d) : rm H d b = H b := by unfold rm; rw [if_neg h]
theorem ex_rm : Ex (rm H d) H := fun b u e => by
  by_cases h : b = d
  · rw [h, rm_same] at e; cases e
  · rw [rm_ne h] at e; exact e
theorem ex_to_rm (e : Ex F H) (n : F d = none) : Ex F (rm H d) := fun b u q => by
  rw [rm_ne (ne_of_none q n)]
  exact e b u q
theorem Wd.dice (h : Dc H d) : Wd (some d) (rm H d) H := ⟨ex_rm, fun b e => by cases e; exact ⟨rm_same, h⟩⟩
end

/-! ### data: lists of ints, lists of signs -/
section
variable {o : Option Addr} {F : Hp} {K : PySem.W.Frag} {P : V → Hp → Prop}
theorem lay_all : ∀ {ds : List PyData}, (∀ d ∈ ds, d.canLay0 = true) → PyData.canLayAll0 ds = true
  | [], _ => rfl
  | d :: r, h => by
    show (d.canLay0 && PyData.canLayAll0 r) = true
    rw [h d List.mem_cons_self, lay_all fun e he => h e (List.mem_cons_of_mem _ he)]
    rfl
theorem depth_all {n : Nat} : ∀ {ds : List PyData}, (∀ d ∈ ds, d.depth ≤ n) → PyData.depthAll ds ≤ n
  | [], _ => Nat.zero_le _
  | d :: r, h => by
    show max d.depth (PyData.depthAll r) ≤ n
    exact Nat.max_le.mpr ⟨h d List.mem_cons_self, depth_all fun e he => h e (List.mem_cons_of_mem _ he)⟩
theorem shaped_list {ds : List PyData} (h1 : ∀ d ∈ ds, d.canLay0 = true) (h2 : ∀ d ∈ ds, d.depth ≤ 63) : SeqAt.shaped (.list ds) = true := by
  unfold SeqAt.shaped
  rw [Bool.and_eq_true, decide_eq_true_eq]
  refine ⟨lay_all h1, ?_⟩
  show PyData.depthAll ds + 1 ≤ 64
  have := depth_all h2
  omega
abbrev dI (cs : List Int) : List PyData := cs.map PyData.int
abbrev dSg (l : List Nat) : List PyData := l.map fun c => PyData.str ⟨#[c]⟩
theorem dpa_I : ∀ cs : List Int, DpAll K F (cs.map V.int) (dI cs)
  | [] => .nil
  | c :: r => .cons (.int c) (dpa_I r)
theorem dpa_S : ∀ l : List Nat, DpAll K F (l.map sg) (dSg l)
  | [] => .nil
  | c :: r => .cons (.str _) (dpa_S r)
theorem dp_I {a : Addr} {cs : List Int} (h : SqL K F a (cs.map V.int)) : Dp K F (.ref a) (.list (dI cs)) := .lst h (dpa_I cs)
theorem dp_S {a : Addr} {l : List Nat} (h : SqL K F a (l.map sg)) : Dp K F (.ref a) (.list (dSg l)) := .lst h (dpa_S l)
theorem sh_I (cs : List Int) : SeqAt.shaped (.list (dI cs)) = true := shaped_list (fun d hd => by
  obtain ⟨c, _, rfl⟩ := List.mem_map.mp hd; rfl) fun d hd => by
  obtain ⟨c, _, rfl⟩ := List.mem_map.mp hd; exact Nat.zero_le _
theorem sh_S {l : List Nat} (h : ∀ c ∈ l, c < 128) : SeqAt.shaped (.list (dSg l)) = true := shaped_list (fun d hd => by
  obtain ⟨c, hc, rfl⟩ := List.mem_map.mp hd
  have := h c hc
  simp [PyData.canLay0, PyData.strOk]
  omega) fun d hd => by
  obtain ⟨c, _, rfl⟩ := List.mem_map.mp hd; exact Nat.zero_le _
theorem eqvAll_I : ∀ cs ds : List Int, PyData.eqvAll (dI cs) (dI ds) = decide (cs = ds)
  | [], [] => rfl
  | [], _ :: _ => rfl
  | _ :: _, [] => rfl
  | c :: r, d :: t => by
    show ((c == d) && PyData.eqvAll (dI r) (dI t)) = decide (c :: r = d :: t)
    rw [eqvAll_I r t, Bool.beq_eq_decide_eq]
    by_cases h : c = d <;> by_cases h2 : r = t <;> simp [h, h2]
theorem eqv_I (cs ds : List Int) : PyData.eqv (.list (dI cs)) (.list (dI ds)) = decide (cs = ds) := eqvAll_I cs ds
theorem eqv_S0 (l : List Nat) : PyData.eqv (.list (dSg l)) (.list []) = decide (l = []) := by
  cases l with
  | nil => rfl
  | cons c r => rfl
theorem wp_neIL {a b : Addr} {xs ys : List Int} (ha : SqL K F a (xs.map V.int)) (hb : SqL K F b (ys.map V.int)) (q : P (.bl (!decide (xs = ys))) F) : Wp o (rNeP K (.ref a) (.ref b)) F P :=
  wp_neD (dp_I ha) (dp_I hb) (sh_I xs) (sh_I ys) (by rw [eqv_I]; exact q)
theorem wp_eqIL {a b : Addr} {xs ys : List Int} (ha : SqL K F a (xs.map V.int)) (hb : SqL K F b (ys.map V.int)) (q : P (.bl (decide (xs = ys))) F) : Wp o (rEqP K (.ref a) (.ref b)) F P :=
  wp_eqD (dp_I ha) (dp_I hb) (sh_I xs) (sh_I ys) (by rw [eqv_I]; exact q)
theorem wp_neS0 {a b : Addr} {l : List Nat} (ha : SqL K F a (l.map sg)) (hb : SqL K F b []) (h : ∀ c ∈ l, c < 128) (q : P (.bl (!decide (l = []))) F) : Wp o (rNeP K (.ref a) (.ref b)) F P :=
  wp_neD (dp_S ha) (.lst hb .nil) (sh_S h) rfl (by rw [eqv_S0]; exact q)
end
/-! ### what a def of dice hands back -/
section
variable {o : Option Addr} {F H : Hp} {d : Addr} {P : V → Hp → Prop} {Q : VK} {u : HO} {p : Addr} {H1 F1 : Hp}
theorem Wd.newD (w : Wd (some d) F H) (n : H p = none) (e : Ex (rm H d) H1) (hd : Dc H1 d) (h : H1 p = some u) : Wd (some d) (upd F p u) H1 := by
  have f := (w.dc d rfl).1
  have e2 : Ex F H1 := (ex_to_rm w.ex f).trans e
  refine ⟨fun b v q => ?_, fun b z => ?_⟩
  · by_cases hb : b = p
    · subst hb; rw [upd_same] at q; rw [← q]; exact h
    · rw [upd_ne hb] at q; exact e2 _ _ q
  · cases z
    rw [upd_ne (w.ned n d rfl)]
    exact ⟨f, hd⟩
/-- a new object of which something is told -/
def RetND (d : Addr) (Pu : HO → Prop) (H : Hp) (Q : VK) : Prop := ∀ p H1 u, H p = none → Ex (rm H d) H1 → Dc H1 d → H1 p = some u → Pu u → Q (.ref p) H1
theorem RetND.use {Pu : HO → Prop} (w : Wd (some d) F H) (q : ∀ p u, F p = none → Pu u → P (.ref p) (upd F p u)) (k : ∀ v H1 F1, Wd (some d) F1 H1 → P v F1 → Q v H1) : RetND d Pu H Q :=
  fun p H1 u n e hd h hu => k _ _ _ (w.newD n e hd h) (q p u (w.fr n) hu)
theorem RetND.out {Pu : HO → Prop} (k : RetND d Pu H Q) (e : Ex (rm H d) F1) (n : rm H d p = none) (h : F1 p = some u) (hu : Pu u) : ∀ H1, Wd (some d) F1 H1 → Q (.ref p) H1 := fun H1 w => by
  obtain ⟨f, hd⟩ := w.dc d rfl
  have nd : p ≠ d := ne_of_none h f
  rw [rm_ne nd] at n
  exact k p H1 u n (e.trans w.ex) hd (w.ex _ _ h) hu
theorem go_stD {t : TS} {D : Ends} {σ0 σ : L2.St} (hd : Dc H d) (e : σ0 = σ) (g : Go (some d) t D σ (rm H d)) : t D σ0 H := by
  subst e
  exact g H (Wd.dice hd)
end

/-! ### the rules with the written part by name -/
section
variable {X : Cx} (K : PySem.W.Frag) (hK : X.K = K)
include hK
theorem ixK : IxR X (rIx K) := hK ▸ ix_seq
theorem eqK (hu : X.A.units + 64 < cLine) : OpR X (compareOp .Eq) (rEqP K) := hK ▸ op_eqP hu
theorem neK (hu : X.A.units + 64 < cLine) : OpR X (compareOp .NotEq) (rNeP K) := hK ▸ op_neP hu
theorem inK : OpR X (compareOp .In) (rInP K) := hK ▸ op_inP
theorem niK : OpR X (compareOp .NotIn) (rNiP K) := hK ▸ op_niP
theorem slK : SlR X (rSlP K) := hK ▸ sl_P
theorem lenK : CallR X (.builtin "len") (rLenV K) := hK ▸ call_len
theorem listK (hc : X.calm = true) : CallR X (.type "list") (rListP K) := hK ▸ call_listP hc
theorem isiK : CallR X (.builtin "isinstance") (rIsi K) := hK ▸ call_isi
theorem allK (hc : X.calm = true) : CallR X (.builtin "all") (rAll K) := hK ▸ cr_all hc
theorem maxK (hc : X.calm = true) : CallR X (.builtin "max") (rMax K) := hK ▸ cr_max hc
theorem sortedK : CallR X (.builtin "sorted") (rSorted K) := hK ▸ cr_sorted
theorem joinK : MtR X "str.join" (rJoin K) := hK ▸ mt_join
theorem indexK : MtR X "list.index" (rIndex K) := hK ▸ mt_index
theorem piL {tg l : Expr} {tl : TE} (h : PE X l tl) : PI X tg l (iList K tl) := hK ▸ pi_list h
theorem piT {tg l : Expr} {tl : TE} (h : PE X l tl) : PI X tg l (iTup K tl) := hK ▸ pi_tup h
theorem piE {e : Expr} {ta : TA} {p pos tpos : Pos} {elts : List Expr} {kk : Nat} (hm : X.mg "enumerate" = none) (ha : PA X [e] ta) (hg : Gl X "enumerate" := by rfl) (hs : starEach [e] X.env = [(false, eval e X.env)] := by rfl) :
    PI X (.Tuple elts kk tpos) (.Call (.Name "enumerate" p) [e] [] pos) (iEnum K ta) := hK ▸ pi_enum hg hm ha hs
theorem pgT {es : List Expr} {k : Nat} {pos : Pos} {t : TGs} {n : Nat} (hc : X.calm = true) (h : PGs X es t) (hn : (assignEach es X.env).length = n := by rfl) (hst : (assignEach es X.env).findIdx? (·.1) = none := by rfl) : PG X (.Tuple es k pos) (gTup K n t) := hK ▸ pg_tup hc h hn hst
variable {o e : Expr} {es : List Expr} {to : TE} {t : TA} {name : Str} {apos cpos : Pos} {T id : String} {r : V → List V → Hp → VK → Prop}
theorem bm0K (pa : PlainAttrs T) (slot : Slot T name id) (hty : typeOf (.builtin id) = pure (.type "method_descriptor")) (hm : MtR X id r) (ho : PE X o to)
    (hbase : attributeBase o name X.env (eval o X.env) = eval o X.env := by rfl) (hline : (apos.endLine == cpos.line) = true := by rfl) : PE X (.Call (.Attribute o name apos) [] [] cpos) (tBM0 K T r to) := hK ▸ pe_bm0 pa slot hty hm ho hbase hline
theorem bmK (pa : PlainAttrs T) (slot : Slot T name id) (hty : typeOf (.builtin id) = pure (.type "method_descriptor")) (hm : MtR X id r) (ho : PE X o to) (ha : PA X (e :: es) t)
    (hbase : attributeBase o name X.env (eval o X.env) = eval o X.env := by rfl)
    (hfew : ((backTo cpos (starEach (e :: es) X.env)).all (fun x => !x.1) && (backToKw cpos (keywordEach [] X.env)).all (fun x => x.1.isSome)
      && decide ((e :: es).length + ([] : List Keyword).length + (if ([] : List Keyword).isEmpty then 0 else 1) < 30)) = true := by rfl) (hline : (apos.endLine == cpos.line) = true := by rfl)
    (he : starEach (e :: es) X.env = (false, eval e X.env) :: starEach es X.env := by rfl) (hpl : (backTo cpos (starEach es X.env)).any (·.1) = false := by rfl) :
    PE X (.Call (.Attribute o name apos) (e :: es) [] cpos) (tBM K T r to t) := hK ▸ pe_bm pa slot hty hm ho ha hbase hfew hline he hpl
theorem peJoin {te : TE} (ho : PE X o to) (he : PE X e te) (hs : starEach [e] X.env = [(false, eval e X.env)] := by rfl) (hbase : attributeBase o "join" X.env (eval o X.env) = eval o X.env := by rfl) (hline : (apos.endLine == cpos.line) = true := by rfl) :
    PE X (.Call (.Attribute o "join" apos) [e] [] cpos) (tM1 (rJoin K) to te) := hK ▸ pe_join ho he hs hbase hline
end
theorem gz_l {F F1 : Hp} {p : Addr} {u : HO} (h : upd F p u = F1) (n : F p = none) : Ex F F1 ∧ F1 p = some u := by
  subst h
  exact ⟨ex_new n, upd_same⟩
end Sr
/-! exceptions of own classes over an own base: made, raised, caught, asked -/
namespace Sr
open PySem PySem.Spec PyProof.Rows L2 SrX
/-- the base class, asked for its __init__ by name -/
structure TeC (K : PySem.W.Frag) (mg : Str → Option Value) (x : Str) (CT : Addr) : Prop where
  m : mg x = some (.ref CT)
  sp : PySem.W.specialIn K (.ref CT) "__getattribute__" = some (some (.builtin "type.__getattribute__"))
  rd : PySem.W.readsIn K CT (.type "type") = true
  fc : PySem.W.findCls K (.ref CT) (.type "type") "__init__" = some (.val (.builtin "ValueError.__init__"))
section
variable {X : Cx} {CT : Addr} {x : Str} {e : Expr} {es : List Expr} {ta : TA} {p1 p2 pos : Pos}
theorem pe_teinit {pl : Sem Bool} (T : TeC X.K X.mg x CT) (ha : PA X (e :: es) ta) (hg : Gl X x := by rfl) (hd : (x == ("__debug__" : Str)) = false := by decide)
    (hc : eval (.Call (.Attribute (.Name x p1) "__init__" p2) (e :: es) [] pos) X.env = (do
      let ov ← eval (.Name x p1) X.env
      standAt p2.atName
      let (f, first) ← holding [ov] (getMethod ov "__init__" pl)
      callWith pos f first (backTo pos (starEach (e :: es) X.env)) (backToKw pos (keywordEach [] X.env))) := by rfl)
    (he : starEach (e :: es) X.env = (false, eval e X.env) :: starEach es X.env := by rfl) (hpl : (backTo pos (starEach es X.env)).any (·.1) = false := by rfl) :
    PE X (.Call (.Attribute (.Name x p1) "__init__" p2) (e :: es) [] pos) (tVeI X.K ta) := by
  refine ⟨fun pins s σ H Q I h => ?_⟩
  refine PySem.W.methodCall_KW (ld_glob I hg T.m ?_ hd) hc
  refine PySem.W.method_cls I.kIn T.sp ?_
  refine PySem.W.cls_value I.kIn T.rd T.fc (by decide +kernel) ?_
  show wpAny _ _ (callWith pos (Value.builtin "ValueError.__init__") [] (backTo pos (starEach (e :: es) X.env)) []) _ _ _
  refine PyProof.Rows.callWith_method1 (thn (ha.run pos pins _ σ H _ (I.tok _) h) fun us s1 ⟨vs, H1, I1, r1, a, C, ws, ev, hl, T, ea, q⟩ => ?_) he hpl
  subst ev
  cases r1 with
  | @cons _ u0 _ ur ra rw' =>
    obtain rfl : u0 = Value.ref a := ra
    have hlen : ur.length ≤ sizeLine := by
      rw [← Paired.length rw', sizeLine_eq]
      omega
    exact oinit_ok T I1 ea hlen fun s' J => ⟨.non, H1, J, rfl, q⟩
/-- the end of C(e, ..), its context none -/
theorem mk_endN {pins : List (Addr × Obj)} {σ : L2.St} {H1 H2 : Hp} {Q : XK} {hp hp2 h2 : Heap} {g1 g2 : Array GenState} {d1 d2 : Drawn} {t1 t2 : Nat} {os1 os2 : OsState} {a C d : Addr} {fs : List (Str × V)} (T : Raises X (.ref C)) (I1 : L2.Inv X pins σ H1 ⟨hp, g1, d1, t1, os1⟩)
    (ha : hp.objs.size ≤ a) (k : ∀ b o, hp.get? b = some o → hp2.get? b = some o) (un : Un (frs X.stack) [] (upd H1 a (exo a C none)) H2 hp2 h2) (hok : HOk X.prog X.w H2 h2) (ho : os2 = os1) (hb : AllBare g2)
    (ea : H2 a = some (exo a C (some d))) (ed : H2 d = some (exd d fs)) (hd1 : H1 d = none) (q : Q (.ref C) (some d) (upd (del H2 a) d (.xd fs))) : L2N.MkP X pins σ Q (.ref a) ⟨h2, g2, d2, t2, os2⟩ := by
  obtain ⟨t0, G, J, kG, ge, hoe, na⟩ := mk_end0 (d2 := d2) (t2 := t2) I1 ha k un hok ho hb ea ed hd1
  exact ⟨a, _, _, ⟨G, g2, d2, t2, os2⟩, _, .ref C, some d, rfl, J, kG, ge, hoe, ⟨rfl, rfl, fun vs e => by cases e; rfl⟩, rfl, rfl, na, rfl, hb, T, q⟩
theorem pmk_oexN {CX : CXT} {C fI : Addr} {k : Nat} {fd : FuncData} {ps : List Str} {sp : Sp} {ds : List Value} {dvs : List V} {p : Pos} (T : OexC X.K C) (iC : PySem.W.findIn X.K (.ref C) "__init__" = some (some (.ref fI))) (tI : PySem.W.typeIn X.K (.ref fI) = some (.type "function"))
    (F1 : FnOk X.prog X.w X.K X.mg X.base CX k fI fd ps sp) (hr : Room (k + 1) X.A) (hb : Binds X.K fd ps ds) (hd : Vals dvs ds) (hx : Passes CX X (fun _ _ _ => False)) (hg : Gl X x) (hm : X.mg x = some (.ref C)) (ha : PA X (e :: es) ta)
    (hdb : (x == ("__debug__" : Str)) = false := by decide) (he : starEach (e :: es) X.env = (false, eval e X.env) :: starEach es X.env := by rfl) (hpl : (backTo pos (starEach es X.env)).any (·.1) = false := by rfl) :
    L2N.PMk X (.Call (.Name x p) (e :: es) [] pos) (tMkO C sp dvs ta) := by
  intro pins s σ H Q I h
  obtain ⟨nm, q, N, bs, bm, sn, sub, ab, col, dd, k0, k1, k2, k3, k5, hC, hbm⟩ := T.cls
  refine wpAny_Call_Name_kw (ld_glob I hg hm ?_ hdb)
  refine PySem.W.callWith_K (h₀ := X.base) I.ok.mod.kin T.kC (thn (ha.run pos pins s σ H _ I h) fun us s1 ⟨vs, H1, I1, r1, hz, q1⟩ => ⟨I1.kIn, ?_⟩) he hpl
  show wpAny _ _ (call (.ref C) us) _ _ _
  obtain ⟨hp, g, dr, tk, os⟩ := s1
  have hsz : hp.objs.size ≤ hp.objs.size + 1 := Nat.le_succ _
  have hn : H1 (hp.objs.size + 1) = none := I1.hok.fresh hsz
  have hq := q1 (hp.objs.size + 1) hn
  have kk : ∀ b o, hp.get? b = some o → ((hp.push (PySem.W.kdv_tup us)).push (PySem.HandSPX.excO C hp.objs.size)).get? b = some o := fun b o e => Heap.get?_push_of_some _ (Heap.get?_push_of_some _ e)
  have hget : ((hp.push (PySem.W.kdv_tup us)).push (PySem.HandSPX.excO C hp.objs.size)).get? (hp.objs.size + 1) = some (PySem.HandSPX.excO C hp.objs.size) := by heap_get
  have I2 : L2.Inv X pins σ (upd H1 (hp.objs.size + 1) (exo (hp.objs.size + 1) C none)) ⟨(hp.push (PySem.W.kdv_tup us)).push (PySem.HandSPX.excO C hp.objs.size), g, dr, tk, os⟩ :=
    I1.laid (t' := tk) (a := hp.objs.size + 1) (o := exo (hp.objs.size + 1) C none) (h' := (hp.push (PySem.W.kdv_tup us)).push (PySem.HandSPX.excO C hp.objs.size)) kk hsz (exo_ok hget)
  have r2 : Vals (V.ref (hp.objs.size + 1) :: (vs ++ dvs)) (Value.ref (hp.objs.size + 1) :: (us ++ ds)) := .cons rfl (r1.append hd)
  have hl : (Value.ref (hp.objs.size + 1) :: us ++ ds).length = ps.length := by
    have e := r2.length
    rw [F1.len _ _ _ _ hq] at e
    exact e.symm
  have hus : us.length ≤ sizeLine := by
    rw [← Paired.length r1, sizeLine_eq]
    omega
  refine wpAny_call (PySem.HandSPX.call_own F.excBase_ValueError (fun Y => PySem.HandSPX.refsVE_contains Y bm hbm) (I1.kIn _ _ hC) (PySem.W.looks_findIn I1.kIn iC) (fun self => PySem.W.bind_fn I1.kIn self tI) hus
    (codeAny_mono (F1.run _ X.stack _ _ ⟨Value.ref (hp.objs.size + 1) :: us, []⟩ (Value.ref (hp.objs.size + 1) :: (us ++ ds)) _ _ (fun _ _ _ => False) (hr.make C us []) (I2.env0.make C us []) (hb _ (Value.ref (hp.objs.size + 1) :: us) I2.kIn hl) r2 hq) fun r s' hq' => ?_))
  cases r with
  | error er => exact hx pins σ _ _ er s' I2 hq'
  | ok fl =>
    cases fl with
    | ret u =>
      obtain ⟨v, H2, os2, bare2, un2, hok2, rv, ev, d, fs, ea, ed, hd1, q2⟩ := hq'
      subst ev
      obtain ⟨h2, g2, d2, t2, os'⟩ := s'
      exact ⟨rv, mk_endN (raises_own T.exC T.tyC) I1 hsz kk un2 hok2 os2 bare2 ea ed hd1 q2⟩
    | next => exact False.elim hq'
    | brk => exact False.elim hq'
    | cont => exact False.elim hq'
end
/-! ### promises of defs that may raise -/
section
variable {P : Program} {w : World} {K : PySem.W.Frag} {mg : Str → Option Value} {base : Heap}
theorem okXN {x qual : Str} {st : Stmt} {f : Addr} {fd : FuncData} {N ps : List Str} {k : Nat} {sp : Sp} (F : Fun K x qual st f fd) (S : FnScope N ps (defScope st)) (len : ∀ vs H Q E, sp vs H Q E → vs.length = ps.length)
    (hbody : ∀ (cdv : Value) (A : Around) (outer : List Env) (s : Shared) (H : Hp) (vs : List V) (Q : VK) (E : XK), Room k (A.deeper (envOfC qual (defScope st) s.heap.objs.size f cdv)) → sp vs H Q E →
      ∃ t, PSs (cxOf (L2N.CX P w) P w K mg base N qual (defScope st) f cdv A outer s H E) (defBody st) t ∧ t { nx := fun _ H' => Q .non H', rt := Q } (start N vs) H) : FnOk P w K mg base (L2N.CX P w) (k + 1) f fd ps sp := by
  obtain ⟨oc, od, kV, doc, pm, an, cdv, ct, osl, rfl, lk, hcd⟩ := F.ex
  exact fn_of lk hcd S len fun A outer s H vs Q E hr hsp => hbody cdv A outer s H vs Q E hr hsp
theorem passLN {X : Cx} : Passes (L2N.CX X.prog X.w) X E0 := fun _ _ _ _ _ _ _ h => by
  obtain ⟨_, _, _, _, _, _, _, _, _, _, _, _, z⟩ := h
  exact z.elim
theorem takes0N {X : Cx} : L2N.Takes X (fun _ _ _ _ => False) := fun _ _ x => by
  obtain ⟨_, _, _, _, _, _, _, _, _, _, _, _, _, _, _, _, z⟩ := x
  exact z.elim
end
/-! ### C(v): raised -/
/-- what C's __init__ does -/
def spI (C : Addr) (f : Str) : Sp := fun vs H Q _ => ∃ (a : Addr) (v : V), vs = [.ref a, v] ∧ H a = some (exo a C none) ∧ ∀ d, H d = none → d ≠ a → Q .non (upd (upd H d (exd d [(f, v)])) a (exo a C (some d)))
/-- the class x at C, its field f -/
def Rz (P : Program) (w : World) (K : PySem.W.Frag) (mg : Str → Option Value) (base : Heap) (x : Str) (C : Addr) (f : Str) : Prop :=
  OexC K C ∧ mg x = some (.ref C) ∧ ∃ fI fd, PySem.W.findIn K (.ref C) "__init__" = some (some (.ref fI)) ∧ PySem.W.typeIn K (.ref fI) = some (.type "function") ∧ FnOk P w K mg base CX0 1 fI fd ["self", f] (spI C f) ∧ Binds K fd ["self", f] []
def tRz (C : Addr) (f : Str) (W : WX) (ta : TA) : TS := fun _ σ H => tMkO C (spI C f) [] ta σ H fun cls d H' => W cls d σ H'
theorem ps_rz {X : Cx} {W : WX} {x f : Str} {C : Addr} {e : Expr} {ta : TA} {p pos pos' : Pos} (G : Rz X.prog X.w X.K X.mg X.base x C f) (hc : X.calm = true) (hr : Room 2 X.A) (tk : L2N.Takes X W) (ha : PA X [e] ta) (hg : Gl X x := by rfl)
    (hdb : (x == ("__debug__" : Str)) = false := by decide) (he : starEach [e] X.env = (false, eval e X.env) :: starEach [] X.env := by rfl) (hpl : (backTo pos (starEach [] X.env)).any (·.1) = false := by rfl) :
    PS X (.Raise (some (.Call (.Name x p) [e] [] pos)) none pos') (tRz C f W ta) := by
  obtain ⟨T, hm, fI, fd, iC, tI, F1, hb⟩ := G
  exact L2N.ps_raise (pos := pos') hc tk (pmk_oexN (p := p) (pos := pos) (e := e) (es := []) (ds := []) (dvs := []) T iC tI F1 hr hb .nil pass0 hg hm ha hdb he hpl)
theorem ex_xd {H1 : Hp} {a d : Addr} {u0 u1 u2 u3 : HO} (ha : H1 a = none) (hd : H1 d = none) : Ex H1 (upd (del (upd (upd (upd H1 a u0) d u1) a u2) a) d u3) := fun b o e => by
  have nb : b ≠ a := ne_of_none e ha
  have nd : b ≠ d := ne_of_none e hd
  rw [upd_ne nd, del_ne nb, upd_ne nb, upd_ne nd, upd_ne nb]
  exact e
theorem go_rz {o : Option Addr} {F : Hp} {σ : L2.St} {D : Ends} {C : Addr} {f : Str} {W : WX} {ta : TA} {tz : TS} (h : Wp o (ta σ) F fun vs F1 => ∃ v, vs = [v] ∧ ∀ H, Wd o F1 H → ∀ d H2, H d = none → Ex H H2 → H2 d = some (.xd [(f, v)]) → W (.ref C) (some d) σ H2) :
    Go o (tSeq (tRz C f W ta) tz) D σ F := fun H w => h H w _ fun vs H1 F1 w1 ⟨v, e, k⟩ => by
  subst e
  refine ⟨by show 1 ≤ 1000; decide, fun a ha => ⟨a, v, rfl, upd_same, fun d hd hda => ⟨rfl, d, [(f, v)], upd_same, ?_, ?_, ?_⟩⟩⟩
  · rw [upd_ne hda, upd_same]
  · rw [upd_ne hda] at hd
    exact hd
  · rw [upd_ne hda] at hd
    exact k H1 w1 d _ hd (ex_xd ha hd) upd_same
/-! ### isinstance of the caught one, its own dict there or not -/
/-- what the class says -/
structure XcC (K : PySem.W.Frag) (D : Addr) : Prop where
  hg : PySem.W.findIn K (.ref D) "__getattribute__" = some (some (.builtin "BaseException.__getattribute__"))
  hk : PySem.W.findIn K (.ref D) "__getattr__" = some none
  hs : PySem.W.subIn K (.ref D) (.type "BaseException") = some true
  hd : PySem.W.hasDictIn K D = true
  ha : PySem.W.findIn K (.ref D) "__class__" = some (some (.builtin "object.__class__"))
  hn : PySem.W.specialIn K (.builtin "object.__class__") "__get__" = some (some (.builtin "getset_descriptor.__get__"))
  ht : PySem.W.takesIn K (.builtin "object.__class__") = some true
  hm : PySem.W.mroIn K D (.type "object") = some true
def rIsX (K : PySem.W.Frag) (a : Addr) (cls : Value) (d : Option Addr) : List V → Hp → VK → Prop := fun xs H Q => ∃ (D : Addr) (c : V) (cv : Value) (b : Bool), cls = .ref D ∧ XcC K D ∧ xs = [.ref a, c] ∧ (∀ u, RelV c u → u = cv) ∧ PySem.W.kitOne K (.ref D) cv = some b ∧ (∀ dd, d = some dd → ∃ fs, H dd = some (.xd fs)) ∧ Q (.bl b) H
theorem call_isX {X : Cx} {a : Addr} {cls : Value} {d : Option Addr} {oe : Obj} {pn : List (Addr × Obj)} (hz : Zc cls d oe) (hf : ∃ vs, oe.data = .fields vs) : CallR (X.suite a ((a, oe) :: pn)) (.builtin "isinstance") (rIsX X.K a cls d) := by
  intro pins s σ H xs us Q I r h
  obtain ⟨D, c, cv, b, ed, C, rfl, hcv, e, hdd, q⟩ := h
  subst ed
  cases r with
  | cons rx rr =>
    cases rr with
    | cons rt rr =>
      cases rr
      cases rx
      have ec := hcv _ rt
      subst ec
      obtain ⟨hget, _⟩ := I.pin (a, oe) (List.mem_append.mpr (.inl List.mem_cons_self))
      obtain ⟨vs, hv⟩ := hf
      obtain ⟨od, J⟩ : ∃ od, PySem.W.InstAt s.heap a oe D od := by
        cases d with
        | none => exact ⟨none, hget, hz.1, by unfold PySem.W.notCls; rw [hv] <;> rfl, by rw [hz.2]; exact trivial⟩
        | some dd =>
          obtain ⟨fs, ea⟩ := hdd dd rfl
          have hx : ObjOk X.prog X.w H s.heap dd (.xd fs) := I.hok dd _ ea
          obtain ⟨mA, hns, hr⟩ := hx
          obtain ⟨od, ho, hl⟩ := lookIn_ns hns
          exact ⟨some od, hget, hz.1, by unfold PySem.W.notCls; rw [hv] <;> rfl, by rw [hz.2]; exact ho⟩
      have hcl : (PySem.W.clsIn X.K D).isSome = true := by
        have := C.hd
        unfold PySem.W.hasDictIn at this
        cases q : PySem.W.clsIn X.K D with
        | none => rw [q] at this; cases this
        | some _ => rfl
      exact PySem.W.kia_one (PySem.W.kitx_exc hcl C.hg C.hk C.hs C.ha C.hn C.ht C.hm) I.kIn J e (fun z => nomatch z) fun tk => ⟨.bl b, H, I.kept (t' := tk) fun _ _ z => z, rfl, q⟩
/-! ### the rules with the written part by name -/
section
variable {X : Cx} (K : PySem.W.Frag) (hK : X.K = K)
include hK
theorem pe_teinitK {CT : Addr} {x : Str} {e : Expr} {es : List Expr} {ta : TA} {p1 p2 pos : Pos} {pl : Sem Bool} (T : TeC K X.mg x CT) (ha : PA X (e :: es) ta) (hg : Gl X x := by rfl) (hd : (x == ("__debug__" : Str)) = false := by decide)
    (hc : eval (.Call (.Attribute (.Name x p1) "__init__" p2) (e :: es) [] pos) X.env = (do
      let ov ← eval (.Name x p1) X.env
      standAt p2.atName
      let (f, first) ← holding [ov] (getMethod ov "__init__" pl)
      callWith pos f first (backTo pos (starEach (e :: es) X.env)) (backToKw pos (keywordEach [] X.env))) := by rfl)
    (he : starEach (e :: es) X.env = (false, eval e X.env) :: starEach es X.env := by rfl) (hpl : (backTo pos (starEach es X.env)).any (·.1) = false := by rfl) :
    PE X (.Call (.Attribute (.Name x p1) "__init__" p2) (e :: es) [] pos) (tVeI K ta) := by
  subst hK
  exact pe_teinit T ha hg hd hc he hpl
theorem ps_ostK {o e : Expr} {to te : TE} {f : Str} {p' pos : Pos} (ho : PE X o to) (he : PE X e te) (hs : swapsWith e (some (.Attribute o f p')) pos.line X.env = pure false := by rfl) : PS X (.Assign [.Attribute o f p'] e pos) (tOst K f to te) := by
  subst hK
  exact ps_ost ho he hs
theorem isXK {a : Addr} {cls : Value} {d : Option Addr} {oe : Obj} {pn : List (Addr × Obj)} (hz : Zc cls d oe) (hf : ∃ vs, oe.data = .fields vs) : CallR (X.suite a ((a, oe) :: pn)) (.builtin "isinstance") (rIsX K a cls d) := by
  subst hK
  exact call_isX hz hf
theorem pe_xfK {a C : Addr} {oe : Obj} {cls : Value} {d : Option Addr} {pn : List (Addr × Obj)} {e : Expr} {te : TE} {pos : Pos} {n : Str} (T : XfC K C) (hno : PySem.W.findIn K (.ref C) n = some none)
    (hz : Zc cls d oe) (hf : ∃ vs, oe.data = .fields vs) (he : PE (X.suite a ((a, oe) :: pn)) e te) (hb : attributeBase e n X.env (eval e X.env) = eval e X.env := by rfl) :
    PE (X.suite a ((a, oe) :: pn)) (.Attribute e n pos) (tXf a cls d C n te) := by
  subst hK
  exact pe_xf T hno hz hf he hb
end
section
variable {X : Cx}
theorem pe_clsG {x : Str} {C : Addr} {pos : Pos} (h : X.mg x = some (.ref C)) (hg : Gl X x := by rfl) (hd : (x == ("__debug__" : Str)) = false := by decide) : PE X (.Name x pos) (tC (.ref C)) := pe_glob hg h rfl hd
theorem pe_pmS {k : Nat} {x : Str} {ps : List Str} {sp : Sp} {W : WX} {e : Expr} {es : List Expr} {t : TA} {p pos : Pos} (G : Pm X.prog X.w X.K X.mg X.base (L2N.CX X.prog X.w) k x ps sp) (hr : Room k X.A) (tk : L2N.Takes X W) (ha : PA X (e :: es) t) (hg : Gl X x := by rfl)
    (hd : (x == ("__debug__" : Str)) = false := by decide) (he : starEach (e :: es) X.env = (false, eval e X.env) :: starEach es X.env := by rfl) (hpl : (backTo pos (starEach es X.env)).any (·.1) = false := by rfl) :
    PE X (.Call (.Name x p) (e :: es) [] pos) (tCallS sp (WE W) t) := by
  obtain ⟨f, fd, F, hm, hk, hb⟩ := G
  exact pe_callS F hr hg hm hk hb (L2N.passAt tk) ha hd he hpl
end
section
variable {o : Option Addr} {F : Hp} {σ : L2.St} {D : Ends} {K : PySem.W.Frag} {P : V → Hp → Prop} {te : TE} {tz : TS} {ta : TA}
theorem wp_callS {sp : Sp} {E : L2.St → XK} (h : Wp o (ta σ) F fun vs F1 => Wp o (fun H Q => sp vs H Q (E σ)) F1 P) : Wp o (tCallS sp E ta σ) F P := fun H w Q k =>
  h H w _ fun vs H1 F1 w1 h1 => h1 H1 w1 Q k
theorem go_try {c : Value} {i : Nat} {ts : Addr → Value → Option Addr → TS} {tb : WX → TS} {Wout : WX} (h : Go o (tb (wAs K c i ts Wout { D with nx := tz D })) { D with nx := tz D } σ F) :
    Go o (tSeq (fun D σ H => tb (wAs K c i ts Wout D) D σ H) tz) D σ F := h
/-- the caught one: into the suite -/
theorem go_was {c : Value} {i : Nat} {ts : Addr → Value → Option Addr → TS} {Wout : WX} {D1 : Ends} {cls : Value} {d : Addr} {f : Str} {v : V} {H2 : Hp} (w : Wd o F H2) (hx : H2 d = some (.xd [(f, v)])) (n : F d = none) (no : ∀ b, o = some b → b ≠ d) (e : PySem.W.exmOne K cls c = some true)
    (h : ∀ a, Go o (ts a cls (some d)) { nx := fun σ' H' => D1.nx (σ'.set i none) H', rt := D1.rt, bk := fun σ' H' => D1.bk (σ'.set i none) H', ct := fun σ' H' => D1.ct (σ'.set i none) H' } (σ.set i (some (.ref a))) (upd F d (.xd [(f, v)]))) :
    wAs K c i ts Wout D1 cls (some d) σ H2 := ⟨true, e, fun _ a ha => h a H2 ⟨fun b u q => by
      by_cases hb : b = d
      · subst hb; rw [upd_same] at q; rw [← q]; exact hx
      · rw [upd_ne hb] at q; exact w.ex _ _ q, fun b hb => ⟨by rw [upd_ne (no b hb)]; exact (w.dc b hb).1, (w.dc b hb).2⟩⟩, fun z => nomatch z⟩
theorem wp_isX {a D : Addr} {cls : Value} {dd : Addr} {fs : List (Str × V)} {c : V} {cv : Value} {b : Bool} (e : cls = .ref D) (C : XcC K D) (hcv : ∀ u, RelV c u → u = cv) (hk : PySem.W.kitOne K (.ref D) cv = some b) (hx : F dd = some (.xd fs)) (q : P (.bl b) F) :
    Wp o (rIsX K a cls (some dd) [.ref a, c]) F P := fun H w Q k => ⟨D, c, cv, b, e, C, rfl, hcv, hk, fun z hz => by cases hz; exact ⟨fs, w.ex _ _ hx⟩, k _ H F w q⟩
theorem wp_xf {a C : Addr} {cls : Value} {dd : Addr} {f : Str} {fs : List (Str × V)} {v : V} (h : Wp o (te σ) F fun x F1 => x = .ref a ∧ cls = .ref C ∧ F1 dd = some (.xd fs) ∧ fs.lookup f = some v ∧ P v F1) : Wp o (tXf a cls (some dd) C f te σ) F P := fun H w Q k =>
  h H w _ fun x H1 F1 w1 ⟨e1, e2, hx, hl, q⟩ => ⟨e1, e2, dd, fs, v, rfl, w1.ex _ _ hx, hl, k _ H1 F1 w1 q⟩
theorem wp_teI {a C : Addr} {ws : List V} (h : Wp o (ta σ) F fun vs F1 => vs = .ref a :: ws ∧ ws.length ≤ 1000 ∧ OexC K C ∧ F1 a = some (exo a C none) ∧ P .non F1) : Wp o (tVeI K ta σ) F P := fun H w Q k =>
  h H w _ fun vs H1 F1 w1 ⟨e, hl, T, hx, q⟩ => ⟨a, C, ws, e, hl, T, w1.ex _ _ hx, k _ H1 F1 w1 q⟩
theorem go_ost {f : Str} {to : TE} {a C : Addr} (h : Wp o (te σ) F fun y F1 => Wp o (to σ) F1 fun x F2 => x = .ref a ∧ OexC K C ∧ PySem.W.findIn K (.ref C) f = some none ∧ ∀ H, Wd o F2 H → H a = some (exo a C none) ∧ ∀ dx, H dx = none → dx ≠ a → tz D σ (upd (upd H dx (exd dx [(f, y)])) a (exo a C (some dx)))) :
    Go o (tSeq (tOst K f to te) tz) D σ F := fun H w => h H w _ fun y H1 F1 w1 h1 => h1 H1 w1 _ fun x H2 F2 w2 ⟨e, T, hno, k⟩ => ⟨a, C, e, T, hno, .inl (k H2 w2)⟩
end
end Sr
/-! a text once or not at all -/
namespace Sr
open PySem PySem.Spec PyProof.Rows L2 SrX
def rMulS : R2 := fun x y H Q => ∃ (i : Str) (n : Int), x = .str i ∧ y = .int n ∧ (n = 0 ∨ n = 1) ∧ Q (.str (if n = 1 then i else tx [])) H
theorem op_mulS {X : Cx} : OpR X (binaryOp .Mult) rMulS := by
  intro pins s σ H x y v u Q I rx ry h
  obtain ⟨i, n, rfl, rfl, hn, q⟩ := h
  obtain ⟨t, rfl⟩ := rx
  obtain ⟨t', rfl⟩ := ry
  refine PySem.SB.mul (n := n) ?_ fun t2 k => ?_
  · rcases hn with rfl | rfl
    · exact ⟨by decide, fun z => absurd (by decide) z, fun z => absurd (by decide) z⟩
    · exact ⟨by decide, fun _ z => by simp at z, fun _ z => by simp at z⟩
  · refine ⟨.str (if n = 1 then i else tx []), H, I.tok _, ⟨t2, ?_⟩, q⟩
    rcases hn with rfl | rfl
    · rfl
    · show Value.str (if (1 : Int) < 1 then Str.empty else if ((1 : Int) == 1 || i.length == 0) = true then i else _) t2 = _
      rw [if_neg (by decide), if_pos (by simp)]
      rfl
theorem wp_mulS {o : Option Addr} {F : Hp} {Pq : V → Hp → Prop} {l : List Nat} {n : Int} (h : n = 0 ∨ n = 1) (q : Pq (.str (tx (if n = 1 then l else []))) F) : Wp o (rMulS (.str (tx l)) (.int n)) F Pq := fun H w Q k =>
  ⟨tx l, n, rfl, rfl, h, by
    have e : (if n = 1 then tx l else tx []) = tx (if n = 1 then l else []) := by split <;> rfl
    rw [e]
    exact k _ H F w q⟩
end Sr
/-! a comprehension over a list while an exception is handled -/
namespace Sr
open PySem PySem.Spec PyProof.Rows L2 SrX HotX
section
variable {prog : Program} {w : World} {A : Around} {E : Value → Shared → Prop} {s : Shared}
theorem pyNext_list_end_hot {it l x1 : Addr} {i : Nat} {items} {Q : Option Value → Shared → Prop} (hot : HotAt A x1 s.heap) (hne : x1 ≠ it)
    (hit : s.heap.IsListIter it l i) (hl : s.heap.IsList l items) (hx : items[i]? = none)
    (hQ : ∀ h', (∀ b o, b ≠ it → s.heap.get? b = some o → h'.get? b = some o) → Q none { s with heap := h' }) : wpAny (model prog w) A (pyNext (.ref it)) Q E s := by
  obtain ⟨o, ho, hc, hd⟩ := id hit
  obtain ⟨ol, hol, _, nl, hdl⟩ := hl
  obtain ⟨hh, o1, vs1, h1, d1, c1⟩ := hot
  unfold pyNext
  refine wpAny_bind (wpAny_attempt (wpAny_callSpecial?_slot (name := Str.ofString "__next__") hit.typeIs slot_listiter_next
    (wpAny_call_entry slot_listiter_next hit.typeIs entry_listiter_next ?_ (args_listiter_next _))))
  show wpAny _ _ (field (.ref it) 0 >>= _) _ _ s
  refine wpAny_bind (wpAny_field ho hd (x := .ref l) rfl ?_)
  show wpAny _ _ (if (Value.ref l == Value.none) = true then _ else _) _ _ s
  rw [if_neg (show ¬ ((Value.ref l == Value.none) = true) from Bool.false_ne_true)]
  show wpAny _ _ (field (.ref it) 1 >>= _) _ _ s
  refine wpAny_bind (wpAny_field ho hd (x := .int i 0) rfl ?_)
  show wpAny _ _ (seqItems? (.ref l) >>= _) _ _ s
  refine wpAny_bind (wpAny_seqItems hol hdl ?_)
  simp only [Int.toNat_natCast, hx]
  refine wpAny_bind (wpAny_rule (wpAny_bind (wpAny_setField ho hd (by simp) ?_)))
  show wpAny _ _ (newExc (.type "StopIteration") [] >>= _) _ _ _
  refine wpAny_bind ?_
  simp only [newExc, newTuple]
  refine wpAny_bind (wpAny_newObj_type ?_ (by size_fits))
  refine wpAny_bind (m := firstArgMember _ _) (wpAny_of_eq (a := Value.none) (by first | rfl | (simp only [firstArgMember]; rfl)) ?_)
  refine wpAny_newObj_type ?_ (by size_fits)
  have hk : ∀ b u, b ≠ it → s.heap.get? b = some u → (s.heap.update it (Obj.mapFields (·.setIfInBounds 0 .none))).get? b = some u := fun b u n e => by
    rw [Heap.get?_update_other _ _ (Ne.symm n)]
    exact e
  refine raiseNew_hot ⟨hh, o1, vs1, Heap.get?_push_of_some _ (Heap.get?_push_of_some _ (hk _ _ hne h1)), d1, c1⟩ (Nat.ne_of_lt (Heap.lt_size (Heap.get?_push_of_some _ (hk _ _ hne h1)))) (Heap.get?_push_size _ rfl) rfl (by first | (simp; done) | (simp; omega) | (simp only [Array.size_append]; simp; omega)) ?_
  refine wpAny_bind (wpAny_isInstance (T := "StopIteration") (b := true) ⟨_, Heap.get?_update_self _ (Heap.get?_push_size _ rfl) rfl, rfl⟩ isSubtype_stop ?_)
  refine wpAny_pure (hQ _ fun b o n e => ?_)
  rw [Heap.get?_update_other _ _ (Nat.ne_of_gt (Heap.lt_size (Heap.get?_push_of_some _ (hk _ _ n e))))]
  exact Heap.get?_push_of_some _ (Heap.get?_push_of_some _ (hk _ _ n e))
end
/-! ### the list's turns, one exception being handled -/
open L2H in
/-- what a turn keeps and gives, the handled exception at x1 out of the way -/
structure TurnQ (P : Program) (w : World) (K : PySem.W.Frag) (tg : Expr) (J : It) (fp : List Addr) (it : Addr) (tn : Nat → Heap → Prop) : Prop where
  obj : ∀ i h, tn i h → ∀ b ∈ fp, ∃ o, h.get? b = some o ∧ ∀ v, o.data ≠ .cell v
  keep : ∀ i h h', tn i h → (∀ b ∈ fp, ∀ o, h.get? b = some o → h'.get? b = some o) → tn i h'
  item : ∀ (X : Cx), X.prog = P → X.w = w → X.K = K → ∀ (i : Nat) (pins : List (Addr × Obj)) (s : Shared) (σ : L2.St) (H : Hp) (E : Value → Shared → Prop), Inv X pins σ H s → (∀ b ∈ fp, FpOk X pins H b) → tn i s.heap → J.go i H →
    wpAny (model P w) X.A (pyNext (.ref it)) (fun r s1 => ∃ u, r = some u ∧
      wpAny (model P w) X.A (letOwnedTupleGo tg (.ref it) u) (fun _ s2 => ∃ x H', Inv X pins σ H' s2 ∧ RelV x u ∧ J.yld i H x H' ∧ tn (i + 1) s2.heap ∧ ∀ b ∈ fp, H' b = none) E s1) E s
  done : ∀ (X : Cx), X.prog = P → X.w = w → X.K = K → ∀ (i : Nat) (pins : List (Addr × Obj)) (s : Shared) (σ : L2.St) (H : Hp) (E : Value → Shared → Prop), (∃ x1, HotAt X.A x1 s.heap ∧ x1 ∉ fp) → Inv X pins σ H s → (∀ b ∈ fp, FpOk X pins H b) → tn i s.heap → J.stop i H →
    wpAny (model P w) X.A (pyNext (.ref it)) (fun r s1 => r = none ∧ Inv X pins σ H s1) E s
  self : ∀ (A : Around) (i : Nat) (s : Shared) (Q : Value → Shared → Prop) (E : Value → Shared → Prop), tn i s.heap → Q (.ref it) s → wpAny (model P w) A (pyIter (.ref it)) Q E s
theorem turn_listQ {P : Program} {w : World} {K : PySem.W.Frag} {tg : Expr} (a it : Addr) : TurnQ P w K tg (Itl K a) [it] it (fun i h => h.IsListIter it a i) where
  obj := fun i h st b hb => by
    have e : b = it := by simpa using hb
    subst e
    obtain ⟨o, e, c, d⟩ := st
    exact ⟨o, e, fun v z => by rw [d] at z; cases z⟩
  keep := fun i h h' st k => st.at fun o e => k it (by simp) o e
  item := by
    intro X hP hw hK i pins s σ H E I hf st hg
    subst hP hw hK
    obtain ⟨xs, x, hq, hx⟩ := hg
    obtain ⟨its, rv, p, hz⟩ := I.list hq
    obtain ⟨u, hu, ru⟩ := rv.get hx
    obtain ⟨f0, f1, f2, f3, f4, f5⟩ := hf it (by simp)
    refine wpAny_pyNext_list_item st p.isList (x := u) (by simpa using hu) fun h' st' sb => ?_
    have I1 : Inv X pins σ H { s with heap := h' } := I.turned (t' := s.toks) (fun b o hb e => (sb.2 b hb).trans e) f0 f1 f3 f4 f5
    obtain ⟨o, e, c, d⟩ := id st'
    exact ⟨u, rfl, L2.go_of (s := { s with heap := h' }) e c d (by decide) ⟨x, H, I1, ru, ⟨rfl, fun ys hy => by rw [I.list_inj hy hq]; exact hx⟩, st', fun b hb => (hf b hb).1⟩⟩
  done := by
    intro X hP hw hK i pins s σ H E hot I hf st hg
    subst hP hw hK
    obtain ⟨xs, hq, hx⟩ := hg
    obtain ⟨its, rv, p, hz⟩ := I.list hq
    obtain ⟨f0, f1, f2, f3, f4, f5⟩ := hf it (by simp)
    obtain ⟨x1, hot, hne⟩ := hot
    have hl := rv.length
    exact pyNext_list_end_hot hot (by simpa using hne) st p.isList (by simp; omega) fun h' eb => ⟨rfl, I.turned (t' := s.toks) (fun b o hb e => eb b o hb e) f0 f1 f3 f4 f5⟩
  self := fun _ _ _ _ _ st h => wpAny_pyIter_listiter st h
section
variable {X : Cx}
theorem lc_coreH {pins : List (Addr × Obj)} {s : Shared} {σ : L2.St} {H : Hp} {Q : VK} {elt tg iter : Expr} {ifs : List Expr} {scope : Scope} {own : List (Str × Nat)} {pos pos' : Pos} {tl : TE} {g : TG} {tt : TT} {te : TE} {use : Option (Value → Sem Unit)} {Qf : Value → Shared → Prop}
    (hc : L2H.HotC X) (hN : X.N.Nodup) (I : Inv X pins σ H s) (hi : PE X iter tl) (ok : BlkOk X.N X.env.scope scope own)
    (hg : ∀ (s : Shared) (H : Hp) (C : Addr) (cl : List (Str × Addr)) (fp : List Addr), PG (X.blk s H scope (compEnvC scope cl C X.env) fp) tg g) (ht : ∀ (s : Shared) (H : Hp) (C : Addr) (cl : List (Str × Addr)) (fp : List Addr), PTs (X.blk s H scope (compEnvC scope cl C X.env) fp) ifs tt)
    (he : ∀ (s : Shared) (H : Hp) (C : Addr) (cl : List (Str × Addr)) (fp : List Addr), PE (X.blk s H scope (compEnvC scope cl C X.env) fp) elt te) (hs : ∀ x, foldedSetIterable iter X.env x = pure x)
    (h : tLc (iList X.K tl) g tt te (own.map (·.2)) σ H Q)
    (hRR : ∀ D C s' m H', Inv X pins σ H' s' → Q (.ref D) H' → s'.heap.Ns C m → FpOk X pins H' C → compPost (model X.prog X.w) X.A X.xe use Qf (.ref D) C (.ok .next) s') :
    wpAny (model X.prog X.w) X.A (comprehension (.ListComp elt [⟨tg, iter, ifs, 0⟩] scope pos) scope X.env pos' (newList []) false (eval iter X.env) use) Qf X.xe s := by
  have hfree : ∀ y ∈ scope.names, y.2 = .free → ∃ c, X.env.cells.lookup y.1 = some c := fun y hy e => by
    rcases ok.free y hy e with k | k
    · exact I.ok.has _ (.inl k)
    · exact I.ok.has _ (.inr k)
  refine wpAny_comprehension_free (use := use) rfl hs (closure_ok hfree) ok.kind (fun y hy e => by rw [ok.uniq y hy, e])
    (thn (hi.run pins s σ H _ I h) fun xv s1 ⟨x, H1, I1, r1, q1⟩ => ?_)
  obtain ⟨a, ex, ⟨xs, hq⟩, q⟩ := q1
  subst ex
  cases r1
  obtain ⟨its, rv, pL, hz⟩ := I1.list hq
  refine wpAny_pyIter_list pL.isList ?_
  generalize hs2 : ({ s1 with heap := s1.heap.push _ } : Shared) = s2
  have I2 : Inv X pins σ H1 s2 := by
    rw [← hs2]
    exact I1.kept (t' := s1.toks) fun b o e => Heap.get?_push_of_some _ e
  generalize hit : s1.heap.objs.size = it
  have st2 : s2.heap.IsListIter it a 0 := by
    rw [← hs2, ← hit]
    exact ⟨_, Heap.get?_push_size _ rfl, rfl, rfl⟩
  have fIt : FpOk X pins H1 it := by
    rw [← hit]
    exact I1.fpOk (Nat.le_refl _) (I1.hok.fresh (Nat.le_refl _))
  have f2 : ∀ b ∈ [it], FpOk X pins H1 b := fun b hb => by
    have e : b = it := by simpa using hb
    subst e
    exact fIt
  generalize hfp : [it] = fp at f2
  have T : TurnQ X.prog X.w X.K tg (Itl X.K a) fp it (fun i h => h.IsListIter it a i) := by
    rw [← hfp]
    exact turn_listQ a it
  generalize htn : (fun (i : Nat) (h : Heap) => h.IsListIter it a i) = tn at T
  have st2 : tn 0 s2.heap := by rw [← htn]; exact st2
  refine wpAny_newObj_type (newEnv_comp ?_) (by show 0 ≤ sizeLine; decide)
  generalize hD : s2.heap.objs.size = D
  have hDn : H1 D = none := I2.hok.fresh (Nat.le_of_eq hD)
  obtain ⟨W, ⟨m0, w0⟩, turn⟩ := q D hDn
  generalize hs3 : ({ s2 with heap := s2.heap.push { cls := .type "list", data := .seq ([] : List Value).toArray } } : Shared) = s3
  have I3 : Inv X pins σ (upd H1 D (.lst [])) s3 := by
    rw [← hs3]
    refine I2.laid (t' := s2.toks) (fun b o e => Heap.get?_push_of_some _ e) (Nat.le_of_eq hD) ⟨Nat.zero_le _, [], 0, .nil, ?_⟩
    rw [← hD]
    exact Heap.get?_push_size _ rfl
  have h3 : s3.heap = s2.heap.push { cls := .type "list", data := .seq ([] : List Value).toArray } := by rw [← hs3]
  have sz : ∀ b ∈ fp, b < s2.heap.objs.size := fun b hb => by
    obtain ⟨o, e, _⟩ := T.obj _ _ st2 b hb
    exact Heap.lt_size e
  have f3 : ∀ b ∈ fp, FpOk X pins (upd H1 D (.lst [])) b ∧ b < s3.heap.objs.size := fun b hb => by
    have hlt := sz b hb
    refine ⟨⟨?_, (f2 b hb).2⟩, by rw [h3, Heap.size_push]; exact Nat.lt_succ_of_lt hlt⟩
    rw [upd_ne (by rw [← hD]; exact Nat.ne_of_lt hlt)]
    exact (f2 b hb).1
  have st3 : tn 0 s3.heap := T.keep _ _ _ st2 fun b _ o e => by rw [h3]; exact Heap.get?_push_of_some _ e
  have I4 := block_start I3 ok hN f3
  have pg := hg s3 (upd H1 D (.lst [])) s3.heap.objs.size (cellsFrom (s3.heap.objs.size + 1) scope.names (cloFrom X.env.cells scope.names [])) fp
  have pt := ht s3 (upd H1 D (.lst [])) s3.heap.objs.size (cellsFrom (s3.heap.objs.size + 1) scope.names (cloFrom X.env.cells scope.names [])) fp
  have pe := he s3 (upd H1 D (.lst [])) s3.heap.objs.size (cellsFrom (s3.heap.objs.size + 1) scope.names (cloFrom X.env.cells scope.names [])) fp
  show codeAny _ _ (.compStart (.ListComp elt [⟨tg, iter, ifs, 0⟩] scope pos) 0 (.ref it) (.ref D) (compEnvC scope (cellsFrom (s3.heap.objs.size + 1) scope.names (cloFrom X.env.cells scope.names [])) s3.heap.objs.size X.env)) (compPost (model X.prog X.w) X.A X.xe use Qf (.ref D) s3.heap.objs.size) { s3 with heap := pushCells (s3.heap.push { cls := .type "dict", data := .dict #[] }) scope.names }
  have nfp : ∀ b ∈ fp, (upd H1 D (.lst [])) b = none := fun b hb => (f3 b hb).1.1
  generalize hce : compEnvC scope (cellsFrom (s3.heap.objs.size + 1) scope.names (cloFrom X.env.cells scope.names [])) s3.heap.objs.size X.env = ce at I4 pg pt pe ⊢
  have cL : ce.locals = s3.heap.objs.size := by subst hce; rfl
  generalize hH3 : upd H1 D (.lst []) = H3 at I3 I4 pg pt pe w0 nfp f3
  generalize hs4 : ({ s3 with heap := pushCells (s3.heap.push { cls := .type "dict", data := .dict #[] }) scope.names } : Shared) = s4 at I4 ⊢
  have st4 : tn 0 s4.heap := T.keep _ _ _ st3 fun b _ o e => by rw [← hs4]; exact pushCells_keeps _ _ _ _ (Heap.get?_push_of_some _ e)
  have stat : ∀ {σ' : L2.St} {H' : Hp} {s' : Shared}, Inv (X.blk s3 H3 scope ce fp) [] σ' H' s' → (∀ b ∈ fp, H' b = none) → ∀ b ∈ fp, FpOk (X.blk s3 H3 scope ce fp) [] H' b := fun {σ' H' s'} I' hn b hb =>
    ⟨hn b hb, (I'.ok.exf b hb).1, I'.ok.exfs b hb, .inl hb, fun x c e => (I'.ok.exf b hb).2 x c e, fun p hp => absurd (show p ∈ ([] : List (Addr × Obj)) ++ [] from hp) (by simp)⟩
  have back : ∀ {σ' : L2.St} {H' : Hp} {s' : Shared}, Inv (X.blk s3 H3 scope ce fp) [] σ' H' s' → Inv X pins σ H' s' := fun {σ' H' s'} I' =>
    I3.call' (ch := fp) I'.os I'.base I'.hok I'.bare fun b hb => ⟨(f3 b hb).1.2.2.2.1, (f3 b hb).1.2.1, (f3 b hb).1.2.2.2.2.1, (f3 b hb).1.2.2.2.2.2⟩
  have loop : codeAny (model X.prog X.w) X.A (.compLoop (.ListComp elt [⟨tg, iter, ifs, 0⟩] scope pos) 0 (.ref it) (.ref D) ce) (compPost (model X.prog X.w) X.A X.xe use Qf (.ref D) s3.heap.objs.size) s4 := by
    refine compLoop_any (fun n s' => ∃ i H', Inv (X.blk s3 H3 scope ce fp) [] (wipe σ (own.map (·.2))) H' s' ∧ tn i s'.heap ∧ (∀ b ∈ fp, H' b = none) ∧ W i n H') ?_ m0 ⟨0, H3, I4, st4, nfp, w0⟩
    rintro n s5 ⟨i, H5, I5, st5, n5, w5⟩
    rcases turn i n H5 w5 with ⟨stop, qq⟩ | ⟨go, Nx, hNx, step⟩
    · have hot : ∃ x1, HotAt X.A x1 s5.heap ∧ x1 ∉ fp := by
        obtain ⟨p, ⟨hh, v1, e1, c1⟩, hp⟩ := hc
        refine ⟨p.1, ⟨hh, p.2, v1, ((back I5).pin p (List.mem_append_left _ hp)).1, e1, c1⟩, fun hm => ?_⟩
        exact (f3 p.1 hm).1.2.2.2.2.2 p (List.mem_append_left _ hp) rfl
      have td := T.done (X.blk s3 H3 scope ce fp) rfl rfl rfl i [] s5 _ H5 (fun _ _ => False) hot I5 (stat I5 n5) st5 stop
      refine thnF td fun r s6 ⟨hr, I6⟩ => ?_
      subst hr
      have I7 : Inv X pins σ H5 s6 := back I6
      have nC : H5 s3.heap.objs.size = none := by
        have z : H5 ce.locals = none := I6.free
        rw [cL] at z
        exact z
      obtain ⟨m, hn, _⟩ := I6.loc
      have hn : s6.heap.Ns ce.locals m := hn
      rw [cL] at hn
      exact hRR D s3.heap.objs.size s6 m H5 I7 qq hn (I3.fpOk (Nat.le_refl _) nC)
    · have ti := T.item (X.blk s3 H3 scope ce fp) rfl rfl rfl i [] s5 _ H5 (fun _ _ => False) I5 (stat I5 n5) st5 go
      refine thnF ti fun r s6 ⟨u, hr, h6⟩ => ?_
      subst hr
      refine thnF h6 fun _ s7 ⟨x, H7, I7, r7, y7, st7, n7⟩ => ?_
      have I7' := I7.pinned (stat I7 n7) (T.obj _ _ st7)
      refine thnF (pg.run _ s7 _ H7 x u _ I7' r7 (step x H7 y7)) fun _ s8 ⟨σ8, H8, I8, hw8, q8⟩ => ?_
      refine thnF (pt.run _ s8 σ8 H8 _ I8 q8) fun b s9 ⟨H9, I9, q9⟩ => ?_
      have fin : ∀ {s' : Shared} {H' : Hp}, Inv (X.blk s3 H3 scope ce fp) ([] ++ pinsAt fp s7.heap) σ8 H' s' → Nx H' → ∃ m, m < n ∧ ∃ i H', Inv (X.blk s3 H3 scope ce fp) [] (wipe σ (own.map (·.2))) H' s' ∧ tn i s'.heap ∧ (∀ b ∈ fp, H' b = none) ∧ W i m H' := fun {s' H'} I' nx => by
        obtain ⟨m', hm, w'⟩ := hNx H' nx
        have pin' : ∀ b ∈ fp, ∀ o, s7.heap.get? b = some o → s'.heap.get? b = some o ∧ H' b = none := fun b hb o e =>
          let z := I'.pin (b, o) (List.mem_append_right _ (List.mem_append_right _ (mem_pinsAt hb e)))
          ⟨z.1, z.2.1⟩
        have hl : (wipe σ (own.map (·.2))).length = σ8.length := by rw [← hw8, wipe_length]
        refine ⟨m', hm, i + 1, H', (I'.unpinned (pins := [])).weak hl (fun j v e => ?_), T.keep _ _ _ st7 fun b hb o e => (pin' b hb o e).1, fun b hb => ?_, w'⟩
        · rw [← hw8] at e
          exact (wipe_some e).1
        · obtain ⟨o, e, _⟩ := T.obj _ _ st7 b hb
          exact (pin' b hb o e).2
      cases b with
      | false =>
        simp only [Bool.false_eq_true, if_false] at q9 ⊢
        exact fin I9 q9
      | true =>
        simp only [if_true] at q9 ⊢
        refine thnF (pe.run _ s9 σ8 H9 _ I9 q9) fun z s10 ⟨yv, H10, I10, r10, acc, hD10, hz10, nx⟩ => ?_
        exact app_ok (X := X.blk s3 H3 scope ce fp) I10 hD10 hz10 r10 fun s11 I11 => fin I11 nx
  exact codeAny_compStart_list loop (T.self X.A 0 _ _ _ st4 loop)
/-- [elt for target in iter if ..], an exception being handled -/
theorem pe_lcH {elt tg iter : Expr} {ifs : List Expr} {scope : Scope} {own : List (Str × Nat)} {pos : Pos} {tl : TE} {g : TG} {tt : TT} {te : TE} (K : PySem.W.Frag) (hK : X.K = K) (hc : L2H.HotC X) (hN : X.N.Nodup) (hi : PE X iter tl) (ok : BlkOk X.N X.env.scope scope own)
    (hg : ∀ (s : Shared) (H : Hp) (C : Addr) (cl : List (Str × Addr)) (fp : List Addr), PG (X.blk s H scope (compEnvC scope cl C X.env) fp) tg g) (ht : ∀ (s : Shared) (H : Hp) (C : Addr) (cl : List (Str × Addr)) (fp : List Addr), PTs (X.blk s H scope (compEnvC scope cl C X.env) fp) ifs tt)
    (he : ∀ (s : Shared) (H : Hp) (C : Addr) (cl : List (Str × Addr)) (fp : List Addr), PE (X.blk s H scope (compEnvC scope cl C X.env) fp) elt te) (hs : ∀ x, foldedSetIterable iter X.env x = pure x := by intro _; rfl) :
    PE X (.ListComp elt [⟨tg, iter, ifs, 0⟩] scope pos) (tLc (iList K tl) g tt te (own.map (·.2))) := by
  subst hK
  refine ⟨fun pins s σ H Q I h => ?_⟩
  rw [eval_ListComp]
  refine lc_coreH hc hN I hi ok hg ht he hs h fun D C s' m H' I' q hn f => ⟨m, hn, fun h'' sb => ?_⟩
  obtain ⟨f0, f1, f2, f3, f4, f5⟩ := f
  exact ⟨.ref D, H', I'.turned (t' := s'.toks) (fun b o hb e => (sb.2 b hb).trans e) f0 f1 f3 f4 f5, rfl, q⟩
end
/-! ### defs called within the suite -/
theorem hot_suite {X : Cx} {a : Addr} {oe : Obj} {cls : Value} {d : Option Addr} {pn : List (Addr × Obj)} (hz : L2N.Zn cls d oe) (hf : ∃ vs, oe.data = .fields vs) : L2H.HotC (X.suite a ((a, oe) :: pn)) :=
  ⟨(a, oe), ⟨rfl, by obtain ⟨vs, hd⟩ := hf; exact ⟨vs, hd, hz.2.2 vs hd⟩⟩, List.mem_cons_self⟩
section
variable {P : Program} {w : World} {K : PySem.W.Frag} {mg : Str → Option Value} {base : Heap}
theorem okH {CX : CXT} {x qual : Str} {st : Stmt} {f : Addr} {fd : FuncData} {N ps : List Str} {k : Nat} {sp : Sp} (F : Fun K x qual st f fd) (S : FnScope N ps (defScope st)) (len : ∀ vs H Q E, sp vs H Q E → vs.length = ps.length)
    (hbody : ∀ (cdv : Value) (A : Around) (outer : List Env) (s : Shared) (H : Hp) (vs : List V) (Q : VK) (E : XK) (p : Addr × Obj), L2H.Hot1 A p → L2H.RoomH k (A.deeper (envOfC qual (defScope st) s.heap.objs.size f cdv)) → sp vs H Q E →
      ∃ t, PSs (L2H.cxH CX P w K mg base N qual (defScope st) f cdv A outer s H E p) (defBody st) t ∧ t { nx := fun _ H' => Q .non H', rt := Q } (start N vs) H) : L2H.FnH P w K mg base CX (k + 1) f fd ps sp := by
  obtain ⟨oc, od, kV, doc, pm, an, cdv, ct, osl, rfl, lk, hcd⟩ := F.ex
  exact L2H.fn_ofH lk hcd S len fun A outer s H vs Q E p hot hr hsp => hbody cdv A outer s H vs Q E p hot hr hsp
/-- x keeps its promise while an exception is handled -/
def PmH (P : Program) (w : World) (K : PySem.W.Frag) (mg : Str → Option Value) (base : Heap) (k : Nat) (x : Str) (ps : List Str) (sp : Sp) : Prop :=
  ∃ f fd, L2H.FnH P w K mg base CX0 k f fd ps sp ∧ mg x = some (.ref f) ∧ PySem.W.keepIn K (.ref f) = true ∧ Binds K fd ps []
end
theorem pe_pmH {X : Cx} {k : Nat} {x : Str} {ps : List Str} {sp : Sp} {e : Expr} {es : List Expr} {t : TA} {p pos : Pos} (G : PmH X.prog X.w X.K X.mg X.base k x ps sp) (hr : L2H.RoomH k X.A) (hc : L2H.HotC X) (ha : PA X (e :: es) t) (hg : Gl X x := by rfl)
    (hd : (x == ("__debug__" : Str)) = false := by decide) (he : starEach (e :: es) X.env = (false, eval e X.env) :: starEach es X.env := by rfl) (hpl : (backTo pos (starEach es X.env)).any (·.1) = false := by rfl) :
    PE X (.Call (.Name x p) (e :: es) [] pos) (tCallS sp (fun _ => E0) t) := by
  obtain ⟨f, fd, F, hm, hk, hb⟩ := G
  exact L2H.pe_callH (CX := CX0) F hr hc hg hm hk hb (fun _ _ _ _ _ _ _ h => h.elim) ha hd he hpl
end Sr
namespace L2H
open PySem
theorem RoomH.units {k : Nat} {A : Around} (r : RoomH k A) : A.units + 64 < cLine := by have := r.un; omega
end L2H
/-! a lambda, with or without a default, handed to a def; its exceptions' context is None -/
namespace Sr
open PySem PySem.Spec PyProof.Rows L2 SrX LamX
abbrev lamFd (qual : Str) (params : Arguments) (body : Expr) (scope : Scope) (cl : List (Str × Addr)) (pm cdv ct dv : Value) : FuncData := { PySem.W.kla_fn "<lambda>" qual params body scope cl pm cdv ct with defaults := dv }
abbrev lamOb (qual : Str) (params : Arguments) (body : Expr) (scope : Scope) (cl : List (Str × Addr)) (pm : Value) (c' : Addr) (ctv dv : Value) : Obj := { cls := .type "function", data := .func (lamFd qual params body scope cl pm (.ref c') ctv dv) }
section
variable {M : Model} {A : Around} {E : Value → Shared → Prop} {s : Shared} {qual : Str} {params : Arguments} {body : Expr} {scope : Scope} {env : Env} {c P : Addr} {ps : Array Value} {pos : Pos} {firstLine : Nat} {mg : Str → Option Value}
  {clos : List (Str × Addr)} {Q : Value → Shared → Prop} {dv : Value}
theorem lam_tailNew (hcl : closureFor scope env = pure clos) (hge0 : env.globals = mainGlobals) (hg : s.heap.Ns mainGlobals mg) (hcode : env.code = .ref c) (C : PySem.W.CodeHd s.heap c P) (hP : s.heap.get? P = some { cls := .none, data := .fields ps }) (ht : TriplesOk ps.toList)
    (hnf : codeAmong pos ps.toList = none) (hgP : mainGlobals ≠ P) (hb : s.heap.BuiltinsAt mg P)
    (h : ∀ c' ctv h' tk, Heap.ExtBut P s.heap h' → s.heap.objs.size ≤ c' → c' < h'.objs.size → h'.CodeRec (.ref c') qual → h'.get? P = some { cls := .none, data := .fields (ps ++ #[rawInt pos.line, rawInt pos.col, .ref c']) } →
      Q (.ref h'.objs.size) { s with heap := h'.push (lamOb qual params body scope clos ((mg "__name__").getD .none) c' ctv dv), toks := tk }) :
    wpAny M A (makeTail "<lambda>" qual params (.expr body) scope env dv .none none pos firstLine) Q E s := by
  obtain ⟨bm, ob, hbm, hne0, _, hneP, hbo, hcls, hdict, hdata⟩ := hb
  unfold makeTail
  rw [hcl, hge0]
  refine wpAny_bind (wpAny_pure ?_)
  cases clos with
  | nil =>
    simp only [List.isEmpty_nil, if_true]
    refine wpAny_bind (wpAny_pure ?_)
    refine wpAny_bind (wpAny_functionCodeX hcode (C.code hP ht) (C.tab hP) hnf fun c' h' tk hx hge hlt _ hrec htb _ => ?_)
    have hg' := hg.extBut hx hgP
    refine wpAny_bind (wpAny_builtinsFor hg' hbm hne0 (hx _ _ hneP hbo) hcls hdict hdata ?_)
    refine wpAny_bind (wpAny_nsGet hg' ?_)
    exact wpAny_bind (wpAny_pure (wpAny_newObj_type (h c' .none h' tk hx hge hlt hrec htb.2) (by size_fits)))
  | cons q r =>
    simp only [List.isEmpty_cons, Bool.false_eq_true, if_false]
    refine wpAny_bind (wpAny_newTextTuple ?_)
    refine wpAny_bind (wpAny_functionCodeX hcode ((C.keeps fun b o e => Heap.get?_push_of_some _ e).code (Heap.get?_push_of_some _ hP) ht) ((C.keeps fun b o e => Heap.get?_push_of_some _ e).tab (Heap.get?_push_of_some _ hP)) hnf fun c' h' tk hx hge hlt _ hrec htb _ => ?_)
    have hg' := (hg.push _).extBut hx hgP
    have hx' : Heap.ExtBut P s.heap h' := fun b o hb' e => hx b o hb' (Heap.get?_push_of_some _ e)
    have hge' : s.heap.objs.size ≤ c' := Nat.le_trans (by rw [Heap.size_push]; omega) hge
    refine wpAny_bind (wpAny_builtinsFor hg' hbm hne0 (hx' _ _ hneP hbo) hcls hdict hdata ?_)
    refine wpAny_bind (wpAny_nsGet hg' ?_)
    exact wpAny_bind (wpAny_pure (wpAny_newObj_type (h c' _ h' tk hx' hge' hlt hrec htb.2) (by size_fits)))
theorem lam_tailHit {cv : Value} (hcl : closureFor scope env = pure clos) (hge0 : env.globals = mainGlobals) (hg : s.heap.Ns mainGlobals mg) (hcode : env.code = .ref c) (C : PySem.W.CodeHd s.heap c P) (hP : s.heap.get? P = some { cls := .none, data := .fields ps }) (ht : TriplesOk ps.toList)
    (hf : codeAmong pos ps.toList = some cv) (hb : s.heap.BuiltinsAt mg P)
    (h : ∀ (ctv : Value) (h' : Heap) (tk : Tok), (∀ b o, s.heap.get? b = some o → h'.get? b = some o) → s.heap.objs.size ≤ h'.objs.size →
      Q (.ref h'.objs.size) { s with heap := h'.push { cls := .type "function", data := .func (lamFd qual params body scope clos ((mg "__name__").getD .none) cv ctv dv) }, toks := tk }) :
    wpAny M A (makeTail "<lambda>" qual params (.expr body) scope env dv .none none pos firstLine) Q E s := by
  obtain ⟨bm, ob, hbm, hne0, _, hneP, hbo, hcls, hdict, hdata⟩ := hb
  unfold makeTail
  rw [hcl, hge0]
  refine wpAny_bind (wpAny_pure ?_)
  cases clos with
  | nil =>
    simp only [List.isEmpty_nil, if_true]
    refine wpAny_bind (wpAny_pure ?_)
    refine wpAny_bind (wpAny_functionCode_hit hcode (C.code hP ht) hf ?_)
    refine wpAny_bind (wpAny_builtinsFor hg hbm hne0 hbo hcls hdict hdata ?_)
    refine wpAny_bind (wpAny_nsGet hg ?_)
    exact wpAny_bind (wpAny_pure (wpAny_newObj_type (h .none s.heap s.toks (fun _ _ e => e) (Nat.le_refl _)) (by size_fits)))
  | cons q r =>
    simp only [List.isEmpty_cons, Bool.false_eq_true, if_false]
    refine wpAny_bind (wpAny_newTextTuple ?_)
    refine wpAny_bind (wpAny_functionCode_hit hcode ((C.keeps fun b o e => Heap.get?_push_of_some _ e).code (Heap.get?_push_of_some _ hP) ht) hf ?_)
    refine wpAny_bind (wpAny_builtinsFor (hg.push _) hbm hne0 (Heap.get?_push_of_some _ hbo) hcls hdict hdata ?_)
    refine wpAny_bind (wpAny_nsGet (hg.push _) ?_)
    have hsz : ∀ oT : Obj, s.heap.objs.size ≤ (s.heap.push oT).objs.size := fun oT => by rw [Heap.size_push]; omega
    exact wpAny_bind (wpAny_pure (wpAny_newObj_type (h _ _ s.toks (fun b o e => Heap.get?_push_of_some _ e) (hsz _)) (by size_fits)))
end
section
variable {X : Cx} {pins : List (Addr × Obj)} {σ : L2.St} {H : Hp} {s : Shared}
/-- the lambda is made, its defaults' tuple at dv -/
theorem lam_tail {T : List (Addr × Str)} {c P : Addr} {params : Arguments} {body : Expr} {scope : Scope} {pos : Pos} {fl : Nat} {dv : Value} {E : Value → Shared → Prop} {Q : Value → Shared → Prop} (I : Inv X pins σ H s) (TB : TabB X.base X.mg c P) (hcode : X.env.code = .ref c)
    (hm : (P, X.env.qual ++ "<lambda>") ∈ T) (hu : ∀ p ∈ T, p.1 = P → p.2 = X.env.qual ++ "<lambda>") (hT : Tabs T H) (hfree : ∀ y ∈ scope.names, y.2 = .free → ∃ c, X.env.cells.lookup y.1 = some c)
    (h : ∀ (f c' : Addr) (pm ctv : Value) (H1 : Hp) (s' : Shared), Inv X pins σ H1 s' → ExtN H H1 → Tabs T H1 → (∀ b o, H b = none → s.heap.get? b = some o → H1 b = none ∧ s'.heap.get? b = some o) →
      s'.heap.get? f = some (lamOb (X.env.qual ++ "<lambda>") params body scope (cloFrom X.env.cells scope.names []) pm c' ctv dv) → FpOk X pins H1 f → H1 c' = some (CodeO c' (X.env.qual ++ "<lambda>")) → Q (.ref f) s') :
    wpAny (model X.prog X.w) X.A (makeTail "<lambda>" (X.env.qual ++ "<lambda>") params (.expr body) scope X.env dv .none none pos fl) Q E s := by
  obtain ⟨ps, hP, ht, ha⟩ := hT _ hm
  have bP : s.heap.BuiltinsAt X.mg P := TB.bm.keeps I.bk
  have hP' : s.heap.get? P = some { cls := .none, data := .fields ps } := I.hok P _ hP
  cases hc : codeAmong pos ps.toList with
  | none =>
    refine lam_tailNew (mg := X.mg) (c := c) (P := P) (ps := ps) (closure_ok hfree) I.ok.glob (I.mod.glob.keeps I.bk) hcode (TB.code.keeps I.bk) hP' ht hc TB.gP bP fun c' ctv h' tk hx hge hlt hrec htb => ?_
    obtain ⟨c2, oc, vs, t, e2, hoc, hd, hv⟩ := hrec
    cases e2
    have hsz : s.heap.objs.size ≤ h'.objs.size := Nat.le_trans hge (Nat.le_of_lt hlt)
    have nC : H c' = none := I.hok.fresh hge
    have I1 := inv_table (t' := tk) (more := #[rawInt pos.line, rawInt pos.col, .ref c']) (h' := h'.push (lamOb (X.env.qual ++ "<lambda>") params body scope (cloFrom X.env.cells scope.names []) ((X.mg "__name__").getD .none) c' ctv dv)) I hP
      (fun b o hb e => Heap.get?_push_of_some _ (hx b o hb e)) (Heap.get?_push_of_some _ htb) hge ⟨oc, vs, t, Heap.get?_push_of_some _ hoc, hd, hv⟩
    have hE : ExtN H (upd (upd H P (.tbl (ps ++ #[rawInt pos.line, rawInt pos.col, .ref c']))) c' (CodeO c' (X.env.qual ++ "<lambda>"))) := fun b o e n => by
      rw [upd_ne (ne_of_none e nC), upd_ne (fun z => n ps (Option.some.inj (e.symm.trans (by rw [z]; exact hP))))]
      exact e
    have eL : (ps ++ #[rawInt pos.line, rawInt pos.col, .ref c']).toList = ps.toList ++ [rawInt pos.line, rawInt pos.col, .ref c'] := by simp
    have nP : ∀ b, H b = none → b ≠ P := fun b e z => by rw [z, hP] at e; cases e
    have nF : (upd (upd H P (.tbl (ps ++ #[rawInt pos.line, rawInt pos.col, .ref c']))) c' (CodeO c' (X.env.qual ++ "<lambda>"))) h'.objs.size = none := by
      have n1 : h'.objs.size ≠ c' := Nat.ne_of_gt hlt
      have n2 : h'.objs.size ≠ P := Nat.ne_of_gt (Nat.lt_of_lt_of_le (Heap.lt_size hP') hsz)
      rw [upd_ne n1, upd_ne n2]
      exact I.hok.fresh hsz
    have fF := I.fpOk hsz (I.hok.fresh hsz)
    refine h h'.objs.size c' ((X.mg "__name__").getD .none) ctv _ _ I1 hE (fun p hp => ?_) (fun b o e1 e2 => ⟨?_, Heap.get?_push_of_some _ (hx b o (nP b e1) e2)⟩) (Heap.get?_push_size _ rfl) ⟨nF, fF.2⟩ upd_same
    · by_cases hb : p.1 = P
      · rw [hu p hp hb, hb]
        refine ⟨_, by rw [upd_ne (ne_of_none hP nC), upd_same], by rw [eL]; exact PySem.TriplesOk_snoc _ _ _ _ ht, fun p' cv hcv => ?_⟩
        rw [eL] at hcv
        rcases among_app _ ht hcv with z | z
        · obtain ⟨c0, e1, e2⟩ := ha p' cv z
          exact ⟨c0, e1, hE _ _ e2 codeO_ne⟩
        · exact ⟨c', z, upd_same⟩
      · obtain ⟨ps', a1, a2, a3⟩ := hT p hp
        refine ⟨ps', by rw [upd_ne (ne_of_none a1 nC), upd_ne hb]; exact a1, a2, fun p' cv hcv => ?_⟩
        obtain ⟨c0, e1, e2⟩ := a3 p' cv hcv
        exact ⟨c0, e1, hE _ _ e2 codeO_ne⟩
    · rw [upd_ne (Nat.ne_of_lt (Nat.lt_of_lt_of_le (Heap.lt_size e2) hge)), upd_ne (nP b e1)]
      exact e1
  | some cv =>
    obtain ⟨c', e, hco⟩ := ha pos cv hc
    subst e
    refine lam_tailHit (mg := X.mg) (c := c) (P := P) (ps := ps) (closure_ok hfree) I.ok.glob (I.mod.glob.keeps I.bk) hcode (TB.code.keeps I.bk) hP' ht hc bP fun ctv h' tk hx hsz => ?_
    have I1 : Inv X pins σ H { s with heap := h'.push (lamOb (X.env.qual ++ "<lambda>") params body scope (cloFrom X.env.cells scope.names []) ((X.mg "__name__").getD .none) c' ctv dv), toks := tk } := I.kept fun b o e => Heap.get?_push_of_some _ (hx b o e)
    exact h h'.objs.size c' ((X.mg "__name__").getD .none) ctv H _ I1 (ExtN.refl H) hT (fun b o e1 e2 => ⟨e1, Heap.get?_push_of_some _ (hx b o e2)⟩) (Heap.get?_push_size _ rfl) (I.fpOk hsz (I.hok.fresh hsz)) hco
/-- what stands behind dv: no defaults, or a tuple of one -/
def DvAt (h : Heap) (H : Hp) (X : Cx) (pins : List (Addr × Obj)) (dv : Value) (bs : List (Str × Value)) (params : Arguments) : Prop :=
  (dv = .none ∧ ∀ (q : Str) (body : Expr) (scope : Scope) (cl : List (Str × Addr)) (pm cv ct : Value), bindArgs (lamFd q params body scope cl pm cv ct .none) ⟨[], []⟩ = pure bs) ∨
  ∃ (T : Addr) (o : Obj) (u : Value) (n : Nat), dv = .ref T ∧ FpOk X pins H T ∧ h.get? T = some o ∧ o.data = .seq #[u] n ∧
    ∀ (q : Str) (body : Expr) (scope : Scope) (cl : List (Str × Addr)) (pm cv ct : Value), ∃ k, bindArgs (lamFd q params body scope cl pm cv ct (.ref T)) ⟨[], []⟩ = seqItems? (.ref T) >>= k ∧ k (some #[u]) = pure bs
theorem bind_dv {h : Heap} {dv : Value} {bs : List (Str × Value)} {params : Arguments} {q : Str} {body : Expr} {scope : Scope} {cl : List (Str × Addr)} {pm cv ct : Value} {sZ : Shared} {M : Model} {A : Around} {E : Value → Shared → Prop} {Q : List (Str × Value) → Shared → Prop}
    (D : DvAt h H X pins dv bs params) (hk : ∀ T o, dv = .ref T → h.get? T = some o → sZ.heap.get? T = some o) (q' : Q bs sZ) : wpAny M A (bindArgs (lamFd q params body scope cl pm cv ct dv) ⟨[], []⟩) Q E sZ := by
  rcases D with ⟨rfl, e⟩ | ⟨T, o, u, n, rfl, _, hT, hd, e⟩
  · rw [e]
    exact wpAny_pure q'
  · obtain ⟨k, e1, e2⟩ := e q body scope cl pm cv ct
    rw [e1]
    refine wpAny_bind (wpAny_seqItems (hk T o rfl hT) hd ?_)
    rw [e2]
    exact wpAny_pure q'
end
/-! ### the lambda's names, its body's context -/
structure LamN (N : List Str) (sc scope : Scope) (bs : List Str) : Prop where
  kind : scope.kind = .function
  co : scope.isCoroutine = false
  gen : scope.isGenerator = false
  own : ∀ y ∈ scope.names, y.2 ≠ .cell ∧ (y.2 = .local → y.1 ∉ N)
  free : ∀ y ∈ scope.names, y.2 = .free → sc.names.lookup y.1 = some .cell ∨ sc.names.lookup y.1 = some .free
  par : ∀ y ∈ bs, scope.names.lookup y = some .local
def lamNB (N : List Str) (sc scope : Scope) (bs : List Str) : Bool :=
  decide (scope.kind = .function) && !scope.isCoroutine && !scope.isGenerator && (scope.names.all fun y => !decide (y.2 = .cell) && (!decide (y.2 = .local) || decide (y.1 ∉ N)) && (!decide (y.2 = .free) || decide (sc.names.lookup y.1 = some .cell) || decide (sc.names.lookup y.1 = some .free))) &&
    bs.all fun y => decide (scope.names.lookup y = some .local)
theorem lamN_by {N : List Str} {sc scope : Scope} {bs : List Str} (h : lamNB N sc scope bs = true) : LamN N sc scope bs := by
  unfold lamNB at h
  simp only [Bool.and_eq_true, Bool.or_eq_true, Bool.not_eq_true', decide_eq_true_eq, decide_eq_false_iff_not, List.all_eq_true] at h
  obtain ⟨⟨⟨⟨h1, h2⟩, h3⟩, h4⟩, h5⟩ := h
  refine ⟨h1, h2, h3, fun y hy => ⟨(h4 y hy).1.1, fun e => ?_⟩, fun y hy e => ?_, h5⟩
  · rcases (h4 y hy).1.2 with z | z
    · exact absurd e z
    · exact z
  · rcases (h4 y hy).2 with (z | z) | z
    · exact absurd e z
    · exact .inl z
    · exact .inr z
theorem LamN.has {X : Cx} {N : List Str} {scope : Scope} {bs : List Str} (L : LamN N X.env.scope scope bs) (ok : X.Ok) : ∀ y ∈ scope.names, y.2 = .free → ∃ c, X.env.cells.lookup y.1 = some c := fun y hy e => by
  rcases L.free y hy e with k | k
  · exact ok.has _ (.inl k)
  · exact ok.has _ (.inr k)
def lamCxN (X : Cx) (A : Around) (outer : List Env) (s : Shared) (H : Hp) (E : XK) (scope : Scope) (f c' : Addr) : Cx where
  prog := X.prog
  w := X.w
  K := X.K
  mg := X.mg
  base := X.base
  A := A.deeper (lamEnv X scope s.heap.objs.size f c')
  N := X.N
  s_0 := s
  H_0 := H
  env := lamEnv X scope s.heap.objs.size f c'
  outer := outer
  stack := lamEnv X scope s.heap.objs.size f c' :: outer
  ex := []
  fn := fun _ => false
  calm := true
  pn := []
  xe := fun e s' => wpAny (model X.prog X.w) (A.deeper (lamEnv X scope s.heap.objs.size f c')) (leaving (lamEnv X scope s.heap.objs.size f c') e) (fun _ s'' => L2N.CX X.prog X.w outer H s E e s'') (fun e' s'' => L2N.CX X.prog X.w outer H s E e' s'') s'
section
variable {X : Cx} {pins : List (Addr × Obj)} {σ : L2.St} {H HZ : Hp} {s s1 : Shared}
theorem lam_startN {A : Around} {outer : List Env} {E : XK} {scope : Scope} {bs : List Str} {f c' : Addr} {h₁ : Heap} {tk : Nat} {m : Str → Option Value} (I : Inv X pins σ H s) (L : LamN X.N X.env.scope scope bs) (e0 : Env0 X.prog X.w X.K X.mg X.base A outer s1 HZ) (hd : A.handled = none)
    (un : Un (frs X.stack) [] H HZ s.heap s1.heap) (hns : h₁.Ns s1.heap.objs.size m) (kp : ∀ b o, s1.heap.get? b = some o → h₁.get? b = some o) :
    Inv (lamCxN X A outer s1 HZ E scope f c') [] σ HZ { s1 with heap := h₁, toks := tk } := by
  have hfree := L.has I.ok
  have cm : ∀ {y c}, (cloFrom X.env.cells scope.names []).lookup y = some c → X.env.cells.lookup y = some c := fun {y c} e => by
    rcases cloFrom_mem (PySem.mem_of_lookup e) with hm | ⟨h1, h2⟩
    · cases hm
    · obtain ⟨c1, hc⟩ := hfree _ h1 rfl
      have hc : X.env.cells.lookup y = some c1 := hc
      have e2 : c = c1 := by
        rw [h2, hc] <;> rfl
      rw [e2]
      exact hc
  have look : ∀ {y}, scope.names.lookup y = some .free → ∃ c, (cloFrom X.env.cells scope.names []).lookup y = some c := fun {y} hl => by
    have hy : (y, NameKind.free) ∈ scope.names := PySem.mem_of_lookup hl
    exact mem_lookup (cloFrom_has (cells := X.env.cells) (acc := []) hy)
  have cellK : ∀ {c : Addr} {v : Option Value}, H c = none → s.heap.IsCell c v → h₁.IsCell c v := fun {c v} n ⟨o, ho, hd⟩ => by
    obtain ⟨sl, q⟩ := un.any ho n (by simp)
    exact ⟨_, kp _ _ q, hd⟩
  have noA : ∀ b : Addr, b ∉ (lamCxN X A outer s1 HZ E scope f c').ex := fun b z => absurd (show b ∈ ([] : List Addr) from z) (by simp)
  refine ⟨⟨e0.mod, L.kind, rfl, rfl, Nat.le_refl _, fun y z c e1 e2 => I.ok.inj y z c (cm e1) (cm e2), fun y hy => ?_, fun y c z _ => ?_, fun _ => hd, Around.frames_deeper e0.frames, .inr ⟨rfl, rfl⟩, fun b z => absurd z (noA b), e0.bs, e0.bsz, fun b _ _ => noA b,
      fun b z => absurd z (noA b), e0.funs, e0.frf⟩,
    rfl, e0.bare, Un.kept kp, ⟨_, hns, fun i y v e1 e2 e3 => ?_⟩, fun y c e => ?_, e0.hok.fresh (Nat.le_refl _), fun y c e => ?_, fun q hq => absurd (show q ∈ ([] : List (Addr × Obj)) ++ [] from hq) (by simp), e0.hok.kept kp, I.len⟩
  · have hy : scope.names.lookup y = some .cell ∨ scope.names.lookup y = some .free := hy
    rcases hy with hy | hy
    · exact absurd rfl (L.own _ (PySem.mem_of_lookup hy)).1
    · exact look hy
  · have z : false = true := z
    cases z
  · have e3 : Vis scope y := e3
    rcases e3 with k | k | k
    · exact absurd (List.mem_of_getElem? (show X.N[i]? = some y from e1)) ((L.own _ (PySem.mem_of_lookup k)).2 rfl)
    · exact absurd rfl (L.own _ (PySem.mem_of_lookup k)).1
    · obtain ⟨m, hn, hl⟩ := I.loc
      have hvis : Vis X.env.scope y := (L.free _ (PySem.mem_of_lookup k) rfl).elim (fun k => .inr (.inl k)) (fun k => .inr (.inr k))
      obtain ⟨w', r, q⟩ := hl i y v e1 e2 hvis
      obtain ⟨c2, h2⟩ := look k
      refine ⟨w', r, .inr ⟨.inr k, c2, h2, ?_⟩⟩
      have c1 := cm h2
      rcases q with ⟨k', _⟩ | ⟨_, c3, e', z⟩
      · have k' : X.env.scope.names.lookup y = some .local := k'
        rcases L.free _ (PySem.mem_of_lookup k) rfl with k2 | k2 <;> rw [show X.env.scope.names.lookup y = _ from k2] at k' <;> cases k'
      · rw [c1] at e'
        cases e'
        exact cellK (I.freeC y _ c1) z
  · obtain ⟨w', z⟩ := I.cell y c (cm e)
    exact ⟨w', cellK (I.freeC y c (cm e)) z⟩
  · obtain ⟨v, o, ho, hd⟩ := I.cell y c (cm e)
    exact un.free c o ho (I.freeC y c (cm e)) (by simp)
/-- work(), in the def that got the lambda -/
theorem pe_actN {CXg : CXT} {Eg : XK} {Ng : List Str} {qg : Str} {sg : Scope} {g f c' : Addr} {cdg pm ctv dv : Value} {bs : List (Str × Value)} {params : Arguments} {body : Expr} {scope : Scope} {k i : Nat} {a : Str} {pn : List (Addr × Obj)} {xe : Value → Shared → Prop} {W : WX} {tb : XK → TE} {p1 p2 : Pos}
    (I : Inv X pins σ H s) (L : LamN X.N X.env.scope scope (bs.map (·.1))) (hf : s.heap.get? f = some (lamOb (X.env.qual ++ "<lambda>") params body scope (cloFrom X.env.cells scope.names []) pm c' ctv dv)) (hfn : H f = none) (hfr : f ∉ frs X.stack)
    (D : DvAt s.heap H X pins dv bs params) (hDr : ∀ T, dv = .ref T → T ∉ frs X.stack)
    (tk : L2N.Takes ((cxOf CXg X.prog X.w X.K X.mg X.base Ng qg sg g cdg X.A X.stack s H Eg).tr pn xe) W) (hr : Room (k + 1) (X.A.deeper (envOfC qg sg s.heap.objs.size g cdg)))
    (hbody : ∀ (A : Around) (outer : List Env) (s : Shared) (H : Hp) (E : XK), Room k (A.deeper (lamEnv X scope s.heap.objs.size f c')) → PE (lamCxN X A outer s H E scope f c') body (tb E))
    (hN : Ng[i]? = some a) (hv : Vis sg a) (hd : (a == ("__debug__" : Str)) = false := by decide) (hcd : (a == ("__classdict__" : Str)) = false := by decide) :
    PE ((cxOf CXg X.prog X.w X.K X.mg X.base Ng qg sg g cdg X.A X.stack s H Eg).tr pn xe) (.Call (.Name a p1) [] [] p2)
      (fun σZ HZ Q => σZ[i]? = some (some (.ref f)) ∧ HZ c' = some (CodeO c' (X.env.qual ++ "<lambda>")) ∧ tb (WE W σZ) σ HZ Q) := by
  refine ⟨fun pinsZ sZ σZ HZ Q IZ h => ?_⟩
  obtain ⟨hs, hc, ht⟩ := h
  refine wpAny_Call_Name_kw (thn ((pe_var (pos := p1) (i := i) hN hv hd hcd).run pinsZ sZ σZ HZ (fun v H1 => v = .ref f ∧ H1 = HZ) IZ ⟨.ref f, hs, rfl, rfl⟩) fun u s1 ⟨v, H1, I1, r1, q1⟩ => ?_)
  obtain ⟨ev, eH⟩ := q1
  subst ev
  rw [eH] at I1
  obtain rfl : u = Value.ref f := r1
  have of1 : s1.heap.get? f = some (lamOb (X.env.qual ++ "<lambda>") params body scope (cloFrom X.env.cells scope.names []) pm c' ctv dv) := I1.base.keep f _ hf hfn hfr (fun z => nomatch (show f ∈ ([] : List Addr) from z))
  have od1 : ∀ T o, dv = .ref T → s.heap.get? T = some o → s1.heap.get? T = some o := fun T o e1 e2 => by
    have hTn : H T = none := by
      rcases D with ⟨e, _⟩ | ⟨T', o', u', n', e, fT, _⟩
      · rw [e] at e1; cases e1
      · rw [e] at e1; cases e1; exact fT.1
    exact I1.base.keep T _ e2 hTn (hDr T e1) (fun z => nomatch (show T ∈ ([] : List Addr) from z))
  refine PySem.W.callWith_F0 ⟨_, _, _, _, of1⟩ ?_
  have un : Un (frs X.stack) [] H HZ s.heap s1.heap := I1.base
  obtain ⟨⟨oc, vs, t, hoc, hdc, hvc⟩, _, _⟩ := I1.hok c' _ hc
  have rc : codeAny (model X.prog X.w) (X.A.deeper (envOfC qg sg s.heap.objs.size g cdg)) (.call (.ref f) ⟨[], []⟩) (CR (L2N.CX X.prog X.w) (envOfC qg sg s.heap.objs.size g cdg :: X.stack) X.prog X.w HZ s1 Q (WE W σZ)) s1 := by
    refine PySem.W.kla_callFunE hr.depth of1 rfl L.co L.gen rfl ⟨c', oc, vs, t, rfl, hoc, hdc, hvc⟩ ?_
    refine bind_dv D od1 (wpAny_newFunctionEnv (fun y hy => (L.own y hy).1) (fun y hy => L.par y.1 (List.mem_map_of_mem hy)) (fun h₁ hns hsb => ⟨I1.nolimit.fresh _ hsb, ?_⟩) L.kind)
    show codeAny _ _ (.expr body (lamEnv X scope s1.heap.objs.size f c')) _ _
    have kp : ∀ b o, s1.heap.get? b = some o → h₁.get? b = some o := fun b o e => hsb.extBut b o (Nat.ne_of_lt (Heap.lt_size e)) (Heap.get?_push_of_some _ e)
    have J : Inv (lamCxN X (X.A.deeper (envOfC qg sg s.heap.objs.size g cdg)) (envOfC qg sg s.heap.objs.size g cdg :: X.stack) s1 HZ (WE W σZ) scope f c') [] σ HZ { s1 with heap := h₁, toks := s1.toks + bs.length } :=
      lam_startN I L I1.env0 hr.hd un hns kp
    refine PySem.W.kla_codeExpr (wpAny_mono ((hbody _ _ s1 HZ (WE W σZ) (hr.deeper _)).run [] _ _ HZ Q J ht) (fun v s' hq => ?_) fun e s' hq => hq)
    obtain ⟨w', H', J', rv, q⟩ := hq
    exact ⟨w', H', J'.os, J'.bare, J'.base, J'.hok, rv, q⟩
  refine wpAny_call (codeAny_mono rc fun r s' hq => ?_)
  cases r with
  | error e => exact L2N.passAt tk σZ pinsZ HZ s1 e s' I1 hq
  | ok fl =>
    cases fl with
    | ret u => exact I1.after hq
    | next => exact False.elim hq
    | brk => exact False.elim hq
    | cont => exact False.elim hq
end
/-! ### a def called with a lambda, a text, a value -/
/-- the lambda's defaults: none, or one number -/
def DefV (X : Cx) (params : Arguments) (names : List Str) : Prop :=
  (defaultsOf params X.env = ([], []) ∧ names = [] ∧ ∀ (q : Str) (body : Expr) (scope : Scope) (cl : List (Str × Addr)) (pm cv ct : Value), bindArgs (lamFd q params body scope cl pm cv ct .none) ⟨[], []⟩ = pure []) ∨
  ∃ (n : Int) (j : Nat) (p : Pos) (y : Str), defaultsOf params X.env = ([eval (.Constant (.int n) j p) X.env], []) ∧ names = [y] ∧
    ∀ (u : Value) (T : Addr) (q : Str) (body : Expr) (scope : Scope) (cl : List (Str × Addr)) (pm cv ct : Value), ∃ k, bindArgs (lamFd q params body scope cl pm cv ct (.ref T)) ⟨[], []⟩ = seqItems? (.ref T) >>= k ∧ k (some #[u]) = pure [(y, u)]
section
variable {X : Cx} {pins : List (Addr × Obj)} {σ : L2.St} {H : Hp} {s : Shared}
theorem lam_makeN {T : List (Addr × Str)} {c P : Addr} {params : Arguments} {body : Expr} {scope : Scope} {pos : Pos} {names : List Str} {Q : Value → Shared → Prop} (I : Inv X pins σ H s) (TB : TabB X.base X.mg c P) (hcode : X.env.code = .ref c)
    (hm : (P, X.env.qual ++ "<lambda>") ∈ T) (hu : ∀ p ∈ T, p.1 = P → p.2 = X.env.qual ++ "<lambda>") (hT : Tabs T H) (hfree : ∀ y ∈ scope.names, y.2 = .free → ∃ c, X.env.cells.lookup y.1 = some c) (hdv : DefV X params names)
    (h : ∀ (f c' : Addr) (pm ctv dv : Value) (bs : List (Str × Value)) (H1 : Hp) (s' : Shared), Inv X pins σ H1 s' → ExtN H H1 → Tabs T H1 →
      s'.heap.get? f = some (lamOb (X.env.qual ++ "<lambda>") params body scope (cloFrom X.env.cells scope.names []) pm c' ctv dv) → FpOk X pins H1 f → H1 c' = some (CodeO c' (X.env.qual ++ "<lambda>")) → bs.map (·.1) = names → DvAt s'.heap H1 X pins dv bs params → Q (.ref f) s') :
    wpAny (model X.prog X.w) X.A (eval (.Lambda params body scope pos) X.env) Q X.xe s := by
  rcases hdv with ⟨hdef, rfl, hb⟩ | ⟨n, j, p, y, hdef, rfl, hb⟩
  · refine PySem.W.kla_eval hdef ?_
    rw [makeFunction_eq]
    simp only [List.zip_nil_right, List.filterMap_nil, List.isEmpty_nil, if_true, pure_bind]
    exact lam_tail I TB hcode hm hu hT hfree fun f c' pm ctv H1 s' I1 eN T1 _ hf hF hco => h f c' pm ctv .none [] H1 s' I1 eN T1 hf hF hco rfl (.inl ⟨rfl, hb⟩)
  · rw [arm_eval_Lambda, hdef]
    show wpAny _ _ (do let dv ← evalAll [eval (.Constant (.int n) j p) X.env]; let kdv ← holding dv (evalAllOpt []); makeFunction "<lambda>" (X.env.qual ++ "<lambda>") params (.expr body) scope X.env dv kdv [] pos pos.line) Q X.xe s
    refine wpAny_bind ?_
    show wpAny _ _ (do let v ← eval (.Constant (.int n) j p) X.env; return v :: (← holding [v] (evalAll []))) _ _ _
    refine wpAny_bind (thn ((pe_int (X := X) (i := n)).run pins s σ H (fun v H1 => v = .int n ∧ H1 = H) I ⟨rfl, rfl⟩) fun u s1 ⟨v, H1, I1, r1, ev, eH⟩ => ?_)
    subst ev
    rw [eH] at I1
    refine wpAny_bind (wpAny_holding (wpAny_pure (wpAny_pure ?_)))
    refine wpAny_bind (wpAny_holding (wpAny_pure ?_))
    rw [makeFunction_eq]
    simp only [List.zip_nil_right, List.filterMap_nil, List.isEmpty_nil, List.isEmpty_cons, Bool.false_eq_true, if_false, if_true, pure_bind]
    refine wpAny_bind (wpAny_newTextTuple ?_)
    have I2 : Inv X pins σ H { s1 with heap := s1.heap.push { cls := .type "tuple", data := .seq [u].toArray } } := I1.kept (t' := s1.toks) fun b o e => Heap.get?_push_of_some _ e
    have hTn : H s1.heap.objs.size = none := I1.hok.fresh (Nat.le_refl _)
    have fT := I1.fpOk (Nat.le_refl _) hTn
    exact lam_tail I2 TB hcode hm hu hT hfree fun f c' pm ctv H1 s' I1' eN T1 keepD hf hF hco => by
      obtain ⟨k1, k2⟩ := keepD s1.heap.objs.size _ hTn (Heap.get?_push_size _ rfl)
      exact h f c' pm ctv (.ref s1.heap.objs.size) [(y, u)] H1 s' I1' eN T1 hf hF hco rfl (.inr ⟨s1.heap.objs.size, _, u, _, rfl, ⟨k1, fT.2⟩, k2, rfl, fun q body scope cl pm cv ct => hb u _ q body scope cl pm cv ct⟩)
end
def tRefN (T : List (Addr × Str)) (t : XK → TE) (ta : TA) (GG : (XK → Hp → VK → Prop) → List Nat → V → Hp → VK → Prop) : TE := fun σ H Q =>
  Tabs T H ∧ ∀ H1, ExtN H H1 → Tabs T H1 → ta σ H1 fun vs H2 => ∃ l v, vs = [.str (tx l), v] ∧ Ex H1 H2 ∧ GG (fun E' H' Q' => t E' σ H' Q') l v H2 Q
section
variable {X : Cx}
theorem pe_refN {T : List (Addr × Str)} {GG : (XK → Hp → VK → Prop) → List Nat → V → Hp → VK → Prop} {x a : Str} {ps : List Str} {g c P : Addr} {k : Nat} {pg : Arguments} {bg : List Stmt} {sg : Scope} {dV kV doc pm cdv ct oc : Value} {an od : Option Addr} {osl : Array (Option Value)} {Ng : List Str} {names : List Str}
    {params : Arguments} {body : Expr} {scope : Scope} {t : XK → TE} {ta : TA} {e1 e2 : Expr} {p lpos pos : Pos} (hg : Gl X x) (hm : X.mg x = some (.ref g)) (hk : PySem.W.keepIn X.K (.ref g) = true)
    (lk : X.K.lookup g = some ⟨oc, od, .func (PySem.W.fnOf x x pg bg sg dV kV doc pm an cdv ct), osl⟩) (hcg : PySem.W.codeIn X.K cdv x = true) (hb : L2.Binds X.K (PySem.W.fnOf x x pg bg sg dV kV doc pm an cdv ct) ps []) (hps : ps.length = 3) (Sg : FnScope Ng ps sg) (hNg : Ng[0]? = some a) (hva : Vis sg a)
    (hG : ∀ (f c' : Addr) (s : Shared) (H : Hp) (Q : VK) (tl : XK → Hp → VK → Prop) (l : List Nat) (v : V), Room (k + 1) (X.A.deeper (envOfC x sg s.heap.objs.size g cdv)) →
      (∀ (W : WX) (pn : List (Addr × Obj)) (xe : Value → Shared → Prop) (p1 p2 : Pos), L2N.Takes ((cxOf CX0 X.prog X.w X.K X.mg X.base Ng x sg g cdv X.A X.stack s H E0).tr pn xe) W →
        PE ((cxOf CX0 X.prog X.w X.K X.mg X.base Ng x sg g cdv X.A X.stack s H E0).tr pn xe) (.Call (.Name a p1) [] [] p2) (fun σZ HZ Q => σZ[0]? = some (some (.ref f)) ∧ HZ c' = some (CodeO c' (X.env.qual ++ "<lambda>")) ∧ tl (WE W σZ) HZ Q)) →
      H c' = some (CodeO c' (X.env.qual ++ "<lambda>")) → GG tl l v H Q →
      ∃ t, PSs (cxOf CX0 X.prog X.w X.K X.mg X.base Ng x sg g cdv X.A X.stack s H E0) bg t ∧ t { nx := fun _ H' => Q .non H', rt := Q } (L2.start Ng [.ref f, .str (tx l), v]) H)
    (TB : TabB X.base X.mg c P) (hcode : X.env.code = .ref c) (hmT : (P, X.env.qual ++ "<lambda>") ∈ T) (hu : ∀ p ∈ T, p.1 = P → p.2 = X.env.qual ++ "<lambda>") (hr : Room (k + 2) X.A) (L : LamN X.N X.env.scope scope names) (hdv : DefV X params names)
    (hbody : ∀ (A : Around) (outer : List Env) (s : Shared) (H : Hp) (E : XK) (f c' : Addr), Room k (A.deeper (lamEnv X scope s.heap.objs.size f c')) → PE (lamCxN X A outer s H E scope f c') body (t E)) (ha : PA X [e1, e2] ta)
    (hdb : (x == ("__debug__" : Str)) = false := by decide) (hd : (a == ("__debug__" : Str)) = false := by decide) (hcd : (a == ("__classdict__" : Str)) = false := by decide)
    (hpl : (backTo pos (starEach [e1, e2] X.env)).any (·.1) = false := by rfl) :
    PE X (.Call (.Name x p) [.Lambda params body scope lpos, e1, e2] [] pos) (tRefN T t ta GG) := by
  refine ⟨fun pins s σ H Q I h => ?_⟩
  obtain ⟨hT, h⟩ := h
  refine wpAny_Call_Name_kw (ld_glob I hg hm ?_ hdb)
  refine PySem.W.callWith_K (h₀ := X.base) I.ok.mod.kin hk ?_ (by rfl) hpl
  show wpAny _ _ (spliced ((false, eval (.Lambda params body scope lpos) X.env) :: backTo pos (starEach [e1, e2] X.env))) _ _ s
  refine Calls.spliced_cons (lam_makeN I TB hcode hmT hu hT (L.has I.ok) hdv fun f c' pm' ctv dv bs H1 s' I1 eN T1 hf hF hco hbs D => ?_)
  obtain ⟨fp, hfm, hTm, hfp, hob⟩ : ∃ fp : List Addr, f ∈ fp ∧ (∀ T', dv = .ref T' → T' ∈ fp) ∧ (∀ b ∈ fp, FpOk X pins H1 b) ∧ ∀ b ∈ fp, ∃ o, s'.heap.get? b = some o ∧ ∀ v, o.data ≠ .cell v := by
    rcases D with ⟨e, _⟩ | ⟨T', o, u, n, e, fT, hT', hd', _⟩
    · refine ⟨[f], List.mem_singleton.mpr rfl, ?_, fun b hb => ?_, fun b hb => ?_⟩
      · intro T2 e'; rw [e] at e'; cases e'
      · rw [List.mem_singleton.mp hb]; exact hF
      · rw [List.mem_singleton.mp hb]; exact ⟨_, hf, fun v z => by cases z⟩
    · refine ⟨[f, T'], List.mem_cons_self, ?_, fun b hb => ?_, fun b hb => ?_⟩
      · intro T2 e'; rw [e] at e'; cases e'; exact List.mem_cons_of_mem _ List.mem_cons_self
      · rcases List.mem_cons.mp hb with z | z
        · rw [z]; exact hF
        · rw [List.mem_singleton.mp z]; exact fT
      · rcases List.mem_cons.mp hb with z | z
        · rw [z]; exact ⟨_, hf, fun v z => by cases z⟩
        · rw [List.mem_singleton.mp z]; exact ⟨_, hT', fun v z => by rw [hd'] at z; cases z⟩
  refine thn (ha.run pos (pins ++ pinsAt fp s'.heap) s' σ H1 _ (I1.pinned hfp hob) (h H1 eN T1)) fun us s2 ⟨vs, H2, I2, r2, l, v, ev, eE, gg⟩ => ?_
  subst ev
  refine ⟨I2.kIn, ?_⟩
  have I3 : Inv X pins σ H2 s2 := I2.unpinned
  have pinAt : ∀ b o, b ∈ fp → s'.heap.get? b = some o → s2.heap.get? b = some o ∧ H2 b = none ∧ b ∉ frs X.stack := fun b o hb e => by
    have P1 := I2.pin (b, o) (List.mem_append_right _ (List.mem_append_right _ (mem_pinsAt hb e)))
    exact ⟨P1.1, P1.2.1, fun hm => (List.mem_cons.mp (I3.stkSub b hm)).elim P1.2.2.1 P1.2.2.2.1⟩
  obtain ⟨hf2, hfn2, hfr2⟩ := pinAt f _ hfm hf
  have D2 : DvAt s2.heap H2 X pins dv bs params := by
    rcases D with ⟨e, z⟩ | ⟨T', o, u, n, e, fT, hT', hd', z⟩
    · exact .inl ⟨e, z⟩
    · obtain ⟨g1, g2, _⟩ := pinAt T' o (hTm T' e) hT'
      exact .inr ⟨T', o, u, n, e, ⟨g2, fT.2⟩, g1, hd', z⟩
  have hDr : ∀ T', dv = .ref T' → T' ∉ frs X.stack := fun T' e => by
    obtain ⟨o, ho, _⟩ := hob T' (hTm T' e)
    exact (pinAt T' o (hTm T' e) ho).2.2
  have L2 : LamN X.N X.env.scope scope (bs.map (·.1)) := by rw [hbs]; exact L
  have rv : Vals (V.ref f :: [V.str (tx l), v]) (Value.ref f :: us) := .cons rfl r2
  have hlen : (Value.ref f :: us).length = ps.length := by rw [← rv.length, hps]; rfl
  have bb := hb s2 (Value.ref f :: us) I3.kIn (by rw [List.append_nil]; exact hlen)
  rw [List.append_nil] at bb
  have rc : codeAny (model X.prog X.w) X.A (.call (.ref g) ⟨Value.ref f :: us, []⟩) (CR CX0 X.stack X.prog X.w H2 s2 Q E0) s2 := by
    refine run_ofS (N := Ng) (ps := ps) (us := Value.ref f :: us) (vs := V.ref f :: [V.str (tx l), v]) lk hcg Sg hr I3.env0 bb rv (by rw [hps]; rfl) fun hr' => ?_
    exact hG f c' s2 H2 Q (fun E' H' Q' => t E' σ H' Q') l v hr' (fun W pn xe p1 p2 tk => pe_actN (i := 0) I3 L2 hf2 hfn2 hfr2 D2 hDr tk hr' (fun A outer s H E hr2 => hbody A outer s H E f c' hr2) hNg hva hd hcd) (eE _ _ hco) gg
  show wpAny _ _ (call (.ref g) (Value.ref f :: us)) _ _ _
  refine wpAny_call (codeAny_mono rc fun r s3 hq => ?_)
  cases r with
  | error e => exact (show False from hq).elim
  | ok fl =>
    cases fl with
    | ret u => exact I3.after hq
    | next => exact False.elim hq
    | brk => exact False.elim hq
    | cont => exact False.elim hq
end
end Sr
/-! functions as values: tracked by the heap, kept in lists, handed out of the def that made them, called later -/
namespace Sr
open PySem PySem.Spec PyProof.Rows L2 SrX LamX
/-- the object at c is just o -/
def ObjO (c : Addr) (o : Obj) : HO := .ext fun h => h.get? c = some o
def LamO (f : Addr) (qual : Str) (params : Arguments) (body : Expr) (scope : Scope) (cl : List (Str × Addr)) (c' : Addr) (dv : Value) : HO := .ext fun h => ∃ pm ctv, h.get? f = some (lamOb qual params body scope cl pm c' ctv dv)
def TupO (T : Addr) (u : Value) : HO := .ext fun h => ∃ o n, h.get? T = some o ∧ o.data = .seq #[u] n
section
variable {P : Program} {w : World} {H : Hp} {h : Heap} {a : Addr}
theorem objO_ok {o : Obj} (e : h.get? a = some o) : ObjOk P w H h a (ObjO a o) := ⟨e, ⟨_, e⟩, fun h1 h2 e st => st _ e⟩
theorem lamO_ok {qual : Str} {params : Arguments} {body : Expr} {scope : Scope} {cl : List (Str × Addr)} {c' : Addr} {dv pm ctv : Value} (e : h.get? a = some (lamOb qual params body scope cl pm c' ctv dv)) :
    ObjOk P w H h a (LamO a qual params body scope cl c' dv) := ⟨⟨pm, ctv, e⟩, ⟨_, e⟩, fun h1 h2 ⟨pm, ctv, e⟩ st => ⟨pm, ctv, st _ e⟩⟩
theorem tupO_ok {o : Obj} {u : Value} {n : Nat} (e : h.get? a = some o) (hd : o.data = .seq #[u] n) : ObjOk P w H h a (TupO a u) := ⟨⟨o, n, e, hd⟩, ⟨_, e⟩, fun h1 h2 ⟨o, n, e, hd⟩ st => ⟨o, n, st _ e, hd⟩⟩
end
theorem objO_nt {c : Addr} {o : Obj} (ps : Array Value) : ObjO c o ≠ .tbl ps := fun z => by unfold ObjO at z; cases z
theorem objO_ntup {c : Addr} {o : Obj} (ps : List V) : ObjO c o ≠ .tup ps := fun z => by unfold ObjO at z; cases z
theorem objO_nfrz {c : Addr} {o ob : Obj} {u : HO} : ObjO c o ≠ .frz ob u := fun z => by unfold ObjO at z; cases z
theorem objO_nlst {c : Addr} {o : Obj} (ps : List V) : ObjO c o ≠ .lst ps := fun z => by unfold ObjO at z; cases z
theorem objO_nown {c a : Addr} {o : Obj} : ObjO c o ≠ .own a := fun z => by unfold ObjO at z; cases z
theorem lamO_nt {f : Addr} {qual : Str} {params : Arguments} {body : Expr} {scope : Scope} {cl : List (Str × Addr)} {c' : Addr} {dv : Value} (ps : Array Value) : LamO f qual params body scope cl c' dv ≠ .tbl ps := fun z => by unfold LamO at z; cases z
theorem tupO_nt {T : Addr} {u : Value} (ps : Array Value) : TupO T u ≠ .tbl ps := fun z => by unfold TupO at z; cases z
section
variable {X : Cx} {pins : List (Addr × Obj)} {σ : L2.St} {H : Hp} {s : Shared}
/-- an object that stands there untracked is tracked from now on -/
theorem Inv_track {f : Addr} {o : HO} (I : Inv X pins σ H s) (F : FpOk X pins H f) (new : ObjOk X.prog X.w (upd H f o) s.heap f o) : Inv X pins σ (upd H f o) s := by
  obtain ⟨f0, f1, f2, f3, f4, f5⟩ := F
  have sm : ∀ b u, H b = some u → upd H f o b = some u := fun b u e => by rw [upd_ne (ne_of_none e f0)]; exact e
  refine ⟨I.ok, I.os, I.bare, ⟨I.base.keep, I.base.slot, fun b ob e n hx => ?_, I.base.there, fun b xs e => sm _ _ (I.base.tups b xs e), fun b ob u e => sm _ _ (I.base.frzs b ob u e), fun b ps e => ?_⟩, I.loc, I.cell, ?_, fun x c e => ?_, fun p hp => ?_, fun b u e => ?_, I.len⟩
  · have hb : b ≠ f := fun z => by
      rcases f3 with z2 | z2
      · exact hx (by rw [z]; exact z2)
      · exact Nat.lt_irrefl _ (Nat.lt_of_lt_of_le (Heap.lt_size e) (by rw [z]; exact z2))
    rw [upd_ne hb]
    exact I.base.free b ob e n hx
  · obtain ⟨more, q⟩ := I.base.tbls b ps e
    exact ⟨more, sm _ _ q⟩
  · rw [upd_ne (Ne.symm f1)]; exact I.free
  · rw [upd_ne (f4 x c e)]; exact I.freeC x c e
  · obtain ⟨h1, h2, h3⟩ := I.pin p hp
    exact ⟨h1, by rw [upd_ne (f5 p hp)]; exact h2, h3⟩
  · by_cases hb : b = f
    · rw [hb, upd_same] at e
      cases e
      rw [hb]
      exact new
    · rw [upd_ne hb] at e
      exact (I.hok b u e).stay (fun c v _ q => q) (fun c q => sm _ _ q) fun c xs q => sm _ _ q
end
/-- the lambda's defaults, tracked, and how they are bound -/
def DvO (H : Hp) (dv : Value) (params : Arguments) (names : List Str) : Prop := ∃ bs : List (Str × Value), bs.map (·.1) = names ∧
  ((dv = .none ∧ ∀ (q : Str) (body : Expr) (scope : Scope) (cl : List (Str × Addr)) (pm cv ct : Value), bindArgs (lamFd q params body scope cl pm cv ct .none) ⟨[], []⟩ = pure bs) ∨
  ∃ (T : Addr) (u : Value), dv = .ref T ∧ H T = some (TupO T u) ∧ ∀ (q : Str) (body : Expr) (scope : Scope) (cl : List (Str × Addr)) (pm cv ct : Value), ∃ k, bindArgs (lamFd q params body scope cl pm cv ct (.ref T)) ⟨[], []⟩ = seqItems? (.ref T) >>= k ∧ k (some #[u]) = pure bs)
theorem DvO.ext {H H1 : Hp} {dv : Value} {params : Arguments} {names : List Str} (h : DvO H dv params names) (e : ExtN H H1) : DvO H1 dv params names := by
  obtain ⟨bs, h1, h2⟩ := h
  rcases h2 with h2 | ⟨T, u, a1, a2, a3⟩
  · exact ⟨bs, h1, .inl h2⟩
  · exact ⟨bs, h1, .inr ⟨T, u, a1, e _ _ a2 tupO_nt, a3⟩⟩
theorem bind_dvo {H : Hp} {dv : Value} {params : Arguments} {names : List Str} {q : Str} {body : Expr} {scope : Scope} {cl : List (Str × Addr)} {pm cv ct : Value} {sZ : Shared} {Pg : Program} {w : World} {M : Model} {A : Around} {E : Value → Shared → Prop} {Q : List (Str × Value) → Shared → Prop}
    (D : DvO H dv params names) (ok : HOk Pg w H sZ.heap) (q' : ∀ bs : List (Str × Value), bs.map (·.1) = names → Q bs sZ) : wpAny M A (bindArgs (lamFd q params body scope cl pm cv ct dv) ⟨[], []⟩) Q E sZ := by
  obtain ⟨bs, hbs, D⟩ := D
  rcases D with ⟨rfl, e⟩ | ⟨T, u, rfl, hT, e⟩
  · rw [e]
    exact wpAny_pure (q' bs hbs)
  · obtain ⟨⟨o, n, hTo, hd⟩, _, _⟩ := ok T _ hT
    obtain ⟨k, e1, e2⟩ := e q body scope cl pm cv ct
    rw [e1]
    refine wpAny_bind (wpAny_seqItems hTo hd ?_)
    rw [e2]
    exact wpAny_pure (q' bs hbs)
def tLam (T : List (Addr × Str)) (qual : Str) (params : Arguments) (body : Expr) (scope : Scope) (cl : List (Str × Addr)) (names : List Str) : TE := fun _ H Q =>
  Tabs T H ∧ ∀ (f c' : Addr) (dv : Value) (H1 : Hp), ExtN H H1 → Tabs T H1 → H1 f = some (LamO f qual params body scope cl c' dv) → H1 c' = some (CodeO c' qual) → DvO H1 dv params names → Q (.ref f) H1
section
variable {X : Cx}
theorem pe_lam {T : List (Addr × Str)} {c P : Addr} {params : Arguments} {body : Expr} {scope : Scope} {pos : Pos} {names : List Str} (TB : TabB X.base X.mg c P) (hcode : X.env.code = .ref c) (hmT : (P, X.env.qual ++ "<lambda>") ∈ T) (hu : ∀ p ∈ T, p.1 = P → p.2 = X.env.qual ++ "<lambda>")
    (L : LamN X.N X.env.scope scope names) (hdv : DefV X params names) : PE X (.Lambda params body scope pos) (tLam T (X.env.qual ++ "<lambda>") params body scope (cloFrom X.env.cells scope.names []) names) := by
  refine ⟨fun pins s σ H Q I h => ?_⟩
  obtain ⟨hT, h⟩ := h
  refine lam_makeN I TB hcode hmT hu hT (L.has I.ok) hdv fun f c' pm ctv dv bs H1 s' I1 eN T1 hf hF hco hbs D => ?_
  rcases D with ⟨e, hb⟩ | ⟨T', o, u, n, e, fT, hT', hd', hb⟩
  · have I2 := Inv_track I1 hF (lamO_ok (P := X.prog) (w := X.w) (H := upd H1 f (LamO f (X.env.qual ++ "<lambda>") params body scope (cloFrom X.env.cells scope.names []) c' dv)) hf)
    have e2 := ex_new (u := LamO f (X.env.qual ++ "<lambda>") params body scope (cloFrom X.env.cells scope.names []) c' dv) hF.1
    exact ⟨.ref f, _, I2, rfl, h f c' dv _ (eN.trans (ExtN.of e2)) (Tabs.ext T1 e2) upd_same (e2 _ _ hco) ⟨bs, hbs, .inl ⟨e, hb⟩⟩⟩
  · have I2 := Inv_track I1 fT (tupO_ok (P := X.prog) (w := X.w) (H := upd H1 T' (TupO T' u)) hT' hd')
    have e2 := ex_new (u := TupO T' u) fT.1
    have nfT : f ≠ T' := fun z => by
      rw [z, hT'] at hf
      cases hf
      cases hd'
    have hF2 : FpOk X pins (upd H1 T' (TupO T' u)) f := ⟨by rw [upd_ne nfT]; exact hF.1, hF.2⟩
    have I3 := Inv_track I2 hF2 (lamO_ok (P := X.prog) (w := X.w) (H := upd (upd H1 T' (TupO T' u)) f (LamO f (X.env.qual ++ "<lambda>") params body scope (cloFrom X.env.cells scope.names []) c' dv)) hf)
    have e3 := ex_new (u := LamO f (X.env.qual ++ "<lambda>") params body scope (cloFrom X.env.cells scope.names []) c' dv) hF2.1
    have e23 := e2.trans e3
    exact ⟨.ref f, _, I3, rfl, h f c' dv _ (eN.trans (ExtN.of e23)) (Tabs.ext T1 e23) upd_same (e23 _ _ hco) ⟨bs, hbs, .inr ⟨T', u, e, e3 _ _ upd_same, hb⟩⟩⟩
end
/-! ### cells taken out of what is tracked, and put back -/
def rmL (H : Hp) (cs : List Addr) : Hp := fun b => if b ∈ cs then none else H b
def adL (H H' : Hp) (cs : List Addr) : Hp := fun b => if b ∈ cs then H b else H' b
theorem rmL_in {H : Hp} {cs : List Addr} {b : Addr} (h : b ∈ cs) : rmL H cs b = none := by unfold rmL; rw [if_pos h]
theorem rmL_out {H : Hp} {cs : List Addr} {b : Addr} (h : b ∉ cs) : rmL H cs b = H b := by unfold rmL; rw [if_neg h]
theorem adL_in {H H' : Hp} {cs : List Addr} {b : Addr} (h : b ∈ cs) : adL H H' cs b = H b := by unfold adL; rw [if_pos h]
theorem adL_out {H H' : Hp} {cs : List Addr} {b : Addr} (h : b ∉ cs) : adL H H' cs b = H' b := by unfold adL; rw [if_neg h]
theorem rmL_of {H : Hp} {cs : List Addr} {b : Addr} {u : HO} (h : rmL H cs b = some u) : b ∉ cs ∧ H b = some u := by
  by_cases hb : b ∈ cs
  · rw [rmL_in hb] at h; cases h
  · rw [rmL_out hb] at h; exact ⟨hb, h⟩
theorem ex_rmL {H : Hp} {cs : List Addr} : Ex (rmL H cs) H := fun b u e => (rmL_of e).2
/-- the cells at cs are tracked -/
def Cels (H : Hp) (cs : List Addr) : Prop := ∀ c ∈ cs, ∃ o v, H c = some (ObjO c o) ∧ o.data = .cell v
theorem Cels.not {H : Hp} {cs : List Addr} {b : Addr} {u : HO} (h : Cels H cs) (e : H b = some u) (n : ∀ c o, u ≠ ObjO c o) : b ∉ cs := fun hb => by
  obtain ⟨o, v, q, _⟩ := h b hb
  rw [e] at q
  exact n _ _ (Option.some.inj q)
theorem rmL_at {H : Hp} {cs : List Addr} {b : Addr} {u : HO} (h : Cels H cs) (e : H b = some u) (n : ∀ c o, u ≠ ObjO c o) : rmL H cs b = some u := by
  rw [rmL_out (h.not e n)]; exact e
theorem hok_rmL {Pg : Program} {w : World} {H : Hp} {h : Heap} {cs : List Addr} (C : Cels H cs) (ok : HOk Pg w H h) : HOk Pg w (rmL H cs) h := fun b u e =>
  (ok b u (rmL_of e).2).stay (fun _ _ _ q => q) (fun c q => rmL_at C q fun _ _ z => objO_nown z.symm) fun c xs q => rmL_at C q fun _ _ z => objO_ntup _ z.symm
theorem un_adL {fs : List Addr} {H H' : Hp} {h h' : Heap} {cs : List Addr} (C : Cels H cs) (u : Un fs [] (rmL H cs) H' h h') : Un fs [] H (adL H H' cs) h h' := by
  have nn : ∀ b, H b = none → b ∉ cs := fun b e hb => by
    obtain ⟨o, v, q, _⟩ := C b hb
    rw [e] at q; cases q
  refine ⟨fun b o e n hb hx => u.keep b o e (by rw [rmL_out (nn b n)]; exact n) hb hx, fun b o e n hb hx => u.slot b o e (by rw [rmL_out (nn b n)]; exact n) hb hx, fun b o e n hx => ?_, u.there, fun b xs e => ?_, fun b o x e => ?_, fun b ps e => ?_⟩
  · rw [adL_out (nn b n)]
    exact u.free b o e (by rw [rmL_out (nn b n)]; exact n) hx
  · have hb := C.not e fun _ _ z => objO_ntup _ z.symm
    rw [adL_out hb]
    exact u.tups b xs (by rw [rmL_out hb]; exact e)
  · have hb := C.not e fun _ _ z => objO_nfrz z.symm
    rw [adL_out hb]
    exact u.frzs b o x (by rw [rmL_out hb]; exact e)
  · have hb := C.not e fun _ _ z => objO_nt _ z.symm
    rw [adL_out hb]
    exact u.tbls b ps (by rw [rmL_out hb]; exact e)
/-- put back: each cell's object is what it was -/
theorem hok_adL {Pg : Program} {w : World} {H H' : Hp} {h h' : Heap} {cs : List Addr} (C : Cels H cs) (ok : HOk Pg w H h) (ok' : HOk Pg w H' h') (n : ∀ c ∈ cs, H' c = none) (k : ∀ c ∈ cs, ∀ o, h.get? c = some o → h'.get? c = some o) : HOk Pg w (adL H H' cs) h' := fun b u e => by
  by_cases hb : b ∈ cs
  · rw [adL_in hb] at e
    obtain ⟨o, v, q, _⟩ := C b hb
    rw [e] at q
    cases q
    obtain ⟨q2, _, _⟩ := ok b _ e
    exact objO_ok (k b hb o q2)
  · rw [adL_out hb] at e
    have nc : ∀ c x, H' c = some x → c ∉ cs := fun c x q hc => by rw [n c hc] at q; cases q
    exact (ok' b u e).stay (fun _ _ _ q => q) (fun c q => by rw [adL_out (nc _ _ q)]; exact q) fun c xs q => by rw [adL_out (nc _ _ q)]; exact q
theorem cx_adL {Pg : Program} {w : World} {outer : List Env} {H : Hp} {s : Shared} {cs : List Addr} {E E' : XK} {e : Value} {s' : Shared} (C : Cels H cs) (ok : HOk Pg w H s.heap) (fr : ∀ c ∈ cs, c ∉ frs outer) (hE : ∀ cls d H', (∀ c ∈ cs, H' c = none) → E' cls d H' → E cls d (adL H H' cs))
    (h : L2N.CX Pg w outer (rmL H cs) s E' e s') : L2N.CX Pg w outer H s E e s' := by
  obtain ⟨a, B, H', cls, d, rfl, fl, hok, ub, na, os, ag, q⟩ := h
  have nn : ∀ b, H b = none → b ∉ cs := fun b e hb => by
    obtain ⟨o, v, q, _⟩ := C b hb
    rw [e] at q; cases q
  have at_ : ∀ c ∈ cs, ∃ o, s.heap.get? c = some o := fun c hc => by
    obtain ⟨o, v, q, _⟩ := C c hc
    obtain ⟨z, _, _⟩ := ok c _ q
    exact ⟨o, z⟩
  have hn : ∀ c ∈ cs, H' c = none := fun c hc => by
    obtain ⟨o, z⟩ := at_ c hc
    exact ub.free c o z (rmL_in hc)
  have kc : ∀ c ∈ cs, ∀ o, s.heap.get? c = some o → B.get? c = some o := fun c hc o z => ub.keep c o z (rmL_in hc) (fr c hc)
  refine ⟨a, B, adL H H' cs, cls, d, rfl, fl, hok_adL C ok hok hn kc, ⟨fun b o e n hb => ub.keep b o e (by rw [rmL_out (nn b n)]; exact n) hb, ub.slot, fun b o e n => ?_, ub.there, fun b xs e => ?_, fun b o x e => ?_, fun b ps e => ?_⟩, ?_, os, ag, hE _ _ _ hn q⟩
  · rw [adL_out (nn b n)]
    exact ub.free b o e (by rw [rmL_out (nn b n)]; exact n)
  · have hb := C.not e fun _ _ z => objO_ntup _ z.symm
    rw [adL_out hb]
    exact ub.tups b xs (by rw [rmL_out hb]; exact e)
  · have hb := C.not e fun _ _ z => objO_nfrz z.symm
    rw [adL_out hb]
    exact ub.frzs b o x (by rw [rmL_out hb]; exact e)
  · have hb := C.not e fun _ _ z => objO_nt _ z.symm
    rw [adL_out hb]
    exact ub.tbls b ps (by rw [rmL_out hb]; exact e)
  · have ha : a ∉ cs := fun hc => by
      obtain ⟨o, z⟩ := at_ a hc
      have z2 := kc a hc o z
      have z3 := fl.2.1
      rw [z2] at z3; cases z3
    rw [adL_out ha]
    exact na
/-! ### the call of a tracked function -/
/-- the names of a lambda, without the maker's -/
structure LamS (N : List Str) (scope : Scope) (bs : List Str) : Prop where
  kind : scope.kind = .function
  co : scope.isCoroutine = false
  gen : scope.isGenerator = false
  own : ∀ y ∈ scope.names, y.2 ≠ .cell ∧ (y.2 = .local → y.1 ∉ N)
  par : ∀ y ∈ bs, scope.names.lookup y = some .local
theorem LamN.s {N : List Str} {sc scope : Scope} {bs : List Str} (L : LamN N sc scope bs) : LamS N scope bs := ⟨L.kind, L.co, L.gen, L.own, L.par⟩
/-- the closure's cells, tracked, and what is in them -/
structure ClosT (H : Hp) (cl : List (Str × Addr)) (N : List Str) (σ : L2.St) (scope : Scope) : Prop where
  inj : ∀ x y c, cl.lookup x = some c → cl.lookup y = some c → x = y
  has : ∀ y, scope.names.lookup y = some .free → ∃ c, cl.lookup y = some c
  cel : Cels H (cl.map (·.2))
  val : ∀ (i : Nat) (y : Str) (v : V), N[i]? = some y → σ[i]? = some (some v) → scope.names.lookup y = some .free → ∃ c o u, cl.lookup y = some c ∧ H c = some (ObjO c o) ∧ o.data = .cell (some u) ∧ RelV v u
  len : σ.length = N.length
theorem ClosT.ext {H H1 : Hp} {cl : List (Str × Addr)} {N : List Str} {σ : L2.St} {scope : Scope} (h : ClosT H cl N σ scope) (e : ExtN H H1) : ClosT H1 cl N σ scope :=
  ⟨h.inj, h.has, fun c hc => by
    obtain ⟨o, v, q, r⟩ := h.cel c hc
    exact ⟨o, v, e _ _ q objO_nt, r⟩, fun i y v e1 e2 e3 => by
    obtain ⟨c, o, u, a1, a2, a3⟩ := h.val i y v e1 e2 e3
    exact ⟨c, o, u, a1, e _ _ a2 objO_nt, a3⟩, h.len⟩
theorem lookup_mem2 {cl : List (Str × Addr)} {y : Str} {c : Addr} (h : cl.lookup y = some c) : c ∈ cl.map (·.2) := List.mem_map.mpr ⟨(y, c), PySem.mem_of_lookup h, rfl⟩
/-- the context of a tracked lambda's body -/
def lamCxC (P : Program) (w : World) (K : PySem.W.Frag) (mg : Str → Option Value) (base : Heap) (N : List Str) (qual : Str) (cl : List (Str × Addr)) (A : Around) (outer : List Env) (s : Shared) (H : Hp) (E : XK) (scope : Scope) (f c' : Addr) : Cx where
  prog := P
  w := w
  K := K
  mg := mg
  base := base
  A := A.deeper (PySem.W.envX qual scope s.heap.objs.size f (.ref c') cl)
  N := N
  s_0 := s
  H_0 := H
  env := PySem.W.envX qual scope s.heap.objs.size f (.ref c') cl
  outer := outer
  stack := PySem.W.envX qual scope s.heap.objs.size f (.ref c') cl :: outer
  ex := []
  fn := fun _ => false
  calm := true
  pn := []
  xe := fun e s' => wpAny (model P w) (A.deeper (PySem.W.envX qual scope s.heap.objs.size f (.ref c') cl)) (leaving (PySem.W.envX qual scope s.heap.objs.size f (.ref c') cl) e) (fun _ s'' => L2N.CX P w outer H s E e s'') (fun e' s'' => L2N.CX P w outer H s E e' s'') s'
section
variable {P : Program} {w : World} {K : PySem.W.Frag} {mg : Str → Option Value} {base : Heap} {N : List Str} {qual : Str} {cl : List (Str × Addr)} {σ : L2.St} {HZ : Hp} {s1 : Shared}
theorem lam_startC {A : Around} {outer : List Env} {E : XK} {scope : Scope} {bs : List Str} {f c' : Addr} {h₁ : Heap} {tk : Nat} {m : Str → Option Value} (C : ClosT HZ cl N σ scope) (L : LamS N scope bs) (e0 : Env0 P w K mg base A outer s1 HZ) (hd : A.handled = none)
    (hns : h₁.Ns s1.heap.objs.size m) (kp : ∀ b o, s1.heap.get? b = some o → h₁.get? b = some o) :
    Inv (lamCxC P w K mg base N qual cl A outer s1 (rmL HZ (cl.map (·.2))) E scope f c') [] σ (rmL HZ (cl.map (·.2))) { s1 with heap := h₁, toks := tk } := by
  have noA : ∀ b : Addr, b ∉ (lamCxC P w K mg base N qual cl A outer s1 (rmL HZ (cl.map (·.2))) E scope f c').ex := fun b z => absurd (show b ∈ ([] : List Addr) from z) (by simp)
  have nr : ∀ b, HZ b = none → rmL HZ (cl.map (·.2)) b = none := fun b e => by
    by_cases hb : b ∈ cl.map (·.2)
    · exact rmL_in hb
    · rw [rmL_out hb]; exact e
  have hok := hok_rmL C.cel e0.hok
  have cellK : ∀ {c : Addr} {o : Obj} {v : Option Value}, HZ c = some (ObjO c o) → o.data = .cell v → h₁.IsCell c v := fun {c o v} q r => by
    obtain ⟨z, _, _⟩ := e0.hok c _ q
    exact ⟨o, kp _ _ z, r⟩
  refine ⟨⟨e0.mod, L.kind, rfl, rfl, Nat.le_refl _, fun y z c e1 e2 => C.inj y z c e1 e2, fun y hy => ?_, fun y c z _ => ?_, fun _ => hd, Around.frames_deeper e0.frames, .inr ⟨rfl, rfl⟩, fun b z => absurd z (noA b), fun b o e => ⟨(e0.bs b o e).1, nr b (e0.bs b o e).2⟩, e0.bsz, fun b _ _ => noA b,
      fun b z => absurd z (noA b), e0.funs, fun b hb => nr b (e0.frf b hb)⟩,
    rfl, e0.bare, Un.kept kp, ⟨_, hns, fun i y v e1 e2 e3 => ?_⟩, fun y c e => ?_, nr _ (e0.hok.fresh (Nat.le_refl _)), fun y c e => ?_, fun q hq => absurd (show q ∈ ([] : List (Addr × Obj)) ++ [] from hq) (by simp), hok.kept kp, C.len⟩
  · have hy : scope.names.lookup y = some .cell ∨ scope.names.lookup y = some .free := hy
    rcases hy with hy | hy
    · exact absurd rfl (L.own _ (PySem.mem_of_lookup hy)).1
    · exact C.has y hy
  · have z : false = true := z
    cases z
  · have e3 : Vis scope y := e3
    rcases e3 with k | k | k
    · exact absurd (List.mem_of_getElem? (show N[i]? = some y from e1)) ((L.own _ (PySem.mem_of_lookup k)).2 rfl)
    · exact absurd rfl (L.own _ (PySem.mem_of_lookup k)).1
    · obtain ⟨c, o, u, a1, a2, a3, a4⟩ := C.val i y v e1 e2 k
      exact ⟨u, a4, .inr ⟨.inr k, c, a1, cellK a2 a3⟩⟩
  · have e : cl.lookup y = some c := e
    obtain ⟨o, v, q, r⟩ := C.cel c (lookup_mem2 e)
    exact ⟨v, cellK q r⟩
  · have e : cl.lookup y = some c := e
    exact rmL_in (lookup_mem2 e)
end
def tAct (cl : List (Str × Addr)) (i : Nat) (f : Addr) (qual : Str) (params : Arguments) (body : Expr) (scope : Scope) (c' : Addr) (dv : Value) (names N : List Str) (σL : L2.St) (W : WX) (tb : XK → TE) : TE := fun σZ HZ Q =>
  σZ[i]? = some (some (.ref f)) ∧ HZ c' = some (CodeO c' qual) ∧ HZ f = some (LamO f qual params body scope cl c' dv) ∧ DvO HZ dv params names ∧ ClosT HZ cl N σL scope ∧
    tb (fun cls d H' => (∀ c ∈ cl.map (·.2), H' c = none) → WE W σZ cls d (adL HZ H' (cl.map (·.2)))) σL (rmL HZ (cl.map (·.2))) (fun v H' => (∀ c ∈ cl.map (·.2), H' c = none) → Q v (adL HZ H' (cl.map (·.2))))
section
variable {P : Program} {w : World} {K : PySem.W.Frag} {mg : Str → Option Value} {base : Heap} {N : List Str} {qual : Str} {cl : List (Str × Addr)} {σL : L2.St}
theorem pe_actC {A : Around} {outer : List Env} {s : Shared} {H : Hp} {CXg : CXT} {Eg : XK} {Ng : List Str} {qg : Str} {sg : Scope} {g f c' : Addr} {cdg dv : Value} {names : List Str} {params : Arguments} {body : Expr} {scope : Scope} {k i : Nat} {a : Str} {pn : List (Addr × Obj)} {xe : Value → Shared → Prop} {W : WX} {tb : XK → TE} {p1 p2 : Pos}
    (L : LamS N scope names) (tk : L2N.Takes ((cxOf CXg P w K mg base Ng qg sg g cdg A outer s H Eg).tr pn xe) W) (hr : Room (k + 1) (A.deeper (envOfC qg sg s.heap.objs.size g cdg)))
    (hbody : ∀ (A : Around) (outer : List Env) (s : Shared) (H : Hp) (E : XK) (f c' : Addr) (cl : List (Str × Addr)), Room k (A.deeper (PySem.W.envX qual scope s.heap.objs.size f (.ref c') cl)) → PE (lamCxC P w K mg base N qual cl A outer s H E scope f c') body (tb E))
    (hN : Ng[i]? = some a) (hv : Vis sg a) (hd : (a == ("__debug__" : Str)) = false := by decide) (hcd : (a == ("__classdict__" : Str)) = false := by decide) :
    PE ((cxOf CXg P w K mg base Ng qg sg g cdg A outer s H Eg).tr pn xe) (.Call (.Name a p1) [] [] p2) (tAct cl i f qual params body scope c' dv names N σL W tb) := by
  refine ⟨fun pinsZ sZ σZ HZ Q IZ h => ?_⟩
  obtain ⟨hs, hc, hf, hdv, C, ht⟩ := h
  refine wpAny_Call_Name_kw (thn ((pe_var (pos := p1) (i := i) hN hv hd hcd).run pinsZ sZ σZ HZ (fun v H1 => v = .ref f ∧ H1 = HZ) IZ ⟨.ref f, hs, rfl, rfl⟩) fun u s1 ⟨v, H1, I1, r1, q1⟩ => ?_)
  obtain ⟨ev, eH⟩ := q1
  subst ev
  rw [eH] at I1
  obtain rfl : u = Value.ref f := r1
  obtain ⟨⟨pm, ctv, of1⟩, _, _⟩ := I1.hok f _ hf
  refine PySem.W.callWith_F0 ⟨_, _, _, _, of1⟩ ?_
  obtain ⟨⟨oc, vs, t, hoc, hdc, hvc⟩, _, _⟩ := I1.hok c' _ hc
  have fr : ∀ c ∈ cl.map (·.2), c ∉ frs (envOfC qg sg s.heap.objs.size g cdg :: outer) := fun c hc hm => by
    obtain ⟨o, v, q, _⟩ := C.cel c hc
    have z := I1.stkFree c hm
    rw [q] at z; cases z
  have rc : codeAny (model P w) (A.deeper (envOfC qg sg s.heap.objs.size g cdg)) (.call (.ref f) ⟨[], []⟩) (CR (L2N.CX P w) (envOfC qg sg s.heap.objs.size g cdg :: outer) P w HZ s1 Q (WE W σZ)) s1 := by
    refine PySem.W.kla_callFunE hr.depth of1 rfl L.co L.gen rfl ⟨c', oc, vs, t, rfl, hoc, hdc, hvc⟩ ?_
    refine bind_dvo hdv I1.hok fun bs hbs => (wpAny_newFunctionEnv (fun y hy => (L.own y hy).1) (fun y hy => L.par y.1 (by rw [← hbs]; exact List.mem_map_of_mem hy)) (fun h₁ hns hsb => ⟨I1.nolimit.fresh _ hsb, ?_⟩) L.kind)
    show codeAny _ _ (.expr body (PySem.W.envX qual scope s1.heap.objs.size f (.ref c') cl)) _ _
    have kp : ∀ b o, s1.heap.get? b = some o → h₁.get? b = some o := fun b o e => hsb.extBut b o (Nat.ne_of_lt (Heap.lt_size e)) (Heap.get?_push_of_some _ e)
    have e0 : Env0 P w K mg base (A.deeper (envOfC qg sg s.heap.objs.size g cdg)) (envOfC qg sg s.heap.objs.size g cdg :: outer) s1 HZ := I1.env0
    have J : Inv (lamCxC P w K mg base N qual cl (A.deeper (envOfC qg sg s.heap.objs.size g cdg)) (envOfC qg sg s.heap.objs.size g cdg :: outer) s1 (rmL HZ (cl.map (·.2))) (fun cls d H' => (∀ c ∈ cl.map (·.2), H' c = none) → WE W σZ cls d (adL HZ H' (cl.map (·.2)))) scope f c') [] σL (rmL HZ (cl.map (·.2))) { s1 with heap := h₁, toks := s1.toks + bs.length } :=
      lam_startC C L e0 hr.hd hns kp
    refine PySem.W.kla_codeExpr (wpAny_mono ((hbody _ _ _ _ _ f c' cl (hr.deeper _)).run [] _ _ _ _ J ht) (fun v s' hq => ?_) fun e s' hq => ?_)
    · obtain ⟨w', H', J', rv, q⟩ := hq
      have un : Un (frs (envOfC qg sg s.heap.objs.size g cdg :: outer)) [] (rmL HZ (cl.map (·.2))) H' s1.heap s'.heap := J'.base
      have at_ : ∀ c ∈ cl.map (·.2), ∃ o, s1.heap.get? c = some o := fun c hc => by
        obtain ⟨o, v, q, _⟩ := C.cel c hc
        obtain ⟨z, _, _⟩ := I1.hok c _ q
        exact ⟨o, z⟩
      have hn : ∀ c ∈ cl.map (·.2), H' c = none := fun c hc => by
        obtain ⟨o, z⟩ := at_ c hc
        exact un.free c o z (rmL_in hc) (by simp)
      exact ⟨w', adL HZ H' (cl.map (·.2)), J'.os, J'.bare, un_adL C.cel un, hok_adL C.cel I1.hok J'.hok hn fun c hc o z => un.keep c o z (rmL_in hc) (fr c hc) (by simp), rv, q hn⟩
    · exact wpAny_mono hq (fun _ s'' h => cx_adL C.cel I1.hok fr (fun cls d H' n q => q n) h) fun _ s'' h => cx_adL C.cel I1.hok fr (fun cls d H' n q => q n) h
  refine wpAny_call (codeAny_mono rc fun r s' hq => ?_)
  cases r with
  | error e => exact L2N.passAt tk σZ pinsZ HZ s1 e s' I1 hq
  | ok fl =>
    cases fl with
    | ret u => exact I1.after hq
    | next => exact False.elim hq
    | brk => exact False.elim hq
    | cont => exact False.elim hq
end
/-! ### what is known of a function: what its call does -/
def FnHas (P : Program) (w : World) (K : PySem.W.Frag) (mg : Str → Option Value) (base : Heap) (k : Nat) (f : Addr) (sp : Hp → VK → XK → Prop) (H : Hp) : Prop :=
  ∃ (qual : Str) (params : Arguments) (body : Expr) (scope : Scope) (cl : List (Str × Addr)) (c' : Addr) (dv : Value) (names N : List Str) (σL : L2.St) (tb : XK → TE), LamS N scope names ∧ H c' = some (CodeO c' qual) ∧ H f = some (LamO f qual params body scope cl c' dv) ∧ DvO H dv params names ∧ ClosT H cl N σL scope ∧
    (∀ (A : Around) (outer : List Env) (s : Shared) (H : Hp) (E : XK) (f c' : Addr) (cl : List (Str × Addr)), Room k (A.deeper (PySem.W.envX qual scope s.heap.objs.size f (.ref c') cl)) → PE (lamCxC P w K mg base N qual cl A outer s H E scope f c') body (tb E)) ∧ ∀ H Q E, sp H Q E → tb E σL H Q
section
variable {P : Program} {w : World} {K : PySem.W.Frag} {mg : Str → Option Value} {base : Heap} {k : Nat} {f : Addr} {sp : Hp → VK → XK → Prop} {H H1 : Hp}
theorem FnHas.ext (h : FnHas P w K mg base k f sp H) (e : ExtN H H1) : FnHas P w K mg base k f sp H1 := by
  obtain ⟨qual, params, body, scope, cl, c', dv, names, N, σL, tb, h1, h2, h3, h4, h5, h6, h7⟩ := h
  exact ⟨qual, params, body, scope, cl, c', dv, names, N, σL, tb, h1, e _ _ h2 codeO_ne, e _ _ h3 lamO_nt, h4.ext e, h5.ext e, h6, h7⟩
theorem FnHas.ne_lst (h : FnHas P w K mg base k f sp H) {b : Addr} {xs : List V} (e : H b = some (.lst xs)) : f ≠ b := by
  obtain ⟨qual, params, body, scope, cl, c', dv, names, N, σL, tb, h1, h2, h3, h4, h5, h6, h7⟩ := h
  intro z
  rw [z, e] at h3
  unfold LamO at h3
  cases h3
/-- the call within a def whose slot 0 holds the function: it is raised what Rs says -/
theorem FnHas.act {Cond : Hp → Prop} {Rs : Hp → XK → Prop} {A : Around} {outer : List Env} {s : Shared} {CXg : CXT} {Eg : XK} {Ng : List Str} {qg : Str} {sg : Scope} {g : Addr} {cdg : Value} {a : Str} (h : FnHas P w K mg base k f (fun H _ E => Cond H ∧ Rs H E) H) (hC : ∀ cs, Cels H cs → Cond (rmL H cs))
    (hR : ∀ cs E, Cels H cs → Rs H E → Rs (rmL H cs) (fun cls d H' => (∀ c ∈ cs, H' c = none) → E cls d (adL H H' cs)))
    (hr : Room (k + 1) (A.deeper (envOfC qg sg s.heap.objs.size g cdg))) (hN : Ng[0]? = some a) (hv : Vis sg a) (hd : (a == ("__debug__" : Str)) = false := by decide) (hcd : (a == ("__classdict__" : Str)) = false := by decide) :
    ∃ (c' : Addr) (co : HO) (tl : XK → Hp → VK → Prop), H c' = some co ∧ (∀ (W : WX) (pn : List (Addr × Obj)) (xe : Value → Shared → Prop) (p1 p2 : Pos), L2N.Takes ((cxOf CXg P w K mg base Ng qg sg g cdg A outer s H Eg).tr pn xe) W →
      PE ((cxOf CXg P w K mg base Ng qg sg g cdg A outer s H Eg).tr pn xe) (.Call (.Name a p1) [] [] p2) (fun σZ HZ Q => σZ[0]? = some (some (.ref f)) ∧ HZ c' = some co ∧ tl (WE W σZ) HZ Q)) ∧ ∀ E' Q', Rs H E' → tl E' H Q' := by
  obtain ⟨qual, params, body, scope, cl, c', dv, names, N, σL, tb, h1, h2, h3, h4, h5, h6, h7⟩ := h
  refine ⟨c', _, fun E' HZ Q => HZ f = some (LamO f qual params body scope cl c' dv) ∧ DvO HZ dv params names ∧ ClosT HZ cl N σL scope ∧
    tb (fun cls d H' => (∀ c ∈ cl.map (·.2), H' c = none) → E' cls d (adL HZ H' (cl.map (·.2)))) σL (rmL HZ (cl.map (·.2))) (fun v H' => (∀ c ∈ cl.map (·.2), H' c = none) → Q v (adL HZ H' (cl.map (·.2)))), h2, fun W pn xe p1 p2 tk => ?_, fun E' Q' q => ?_⟩
  · exact pe_actC (dv := dv) (params := params) h1 tk hr h6 hN hv hd hcd
  · exact ⟨h3, h4, h5, h7 _ _ _ ⟨hC _ h5.cel, hR _ _ h5.cel q⟩⟩
end
theorem cels_none {H : Hp} {cs : List Addr} {b : Addr} (C : Cels H cs) (h : H b = none) : b ∉ cs := fun hb => by
  obtain ⟨o, v, q, _⟩ := C b hb
  rw [h] at q; cases q
/-! ### a def that hands out lambdas: its cells are tracked behind it -/
abbrev noEnds : Ends := { nx := fun _ _ => False, rt := fun _ _ => False }
structure PSR (X : Cx) (ss : List Stmt) (t : (V → L2.St → Hp → Prop) → TS) : Prop where
  run : ∀ (pins : List (Addr × Obj)) (s : Shared) (σ : L2.St) (H : Hp) (R : V → L2.St → Hp → Prop), Inv X pins σ H s → t R noEnds σ H → wpAny (model X.prog X.w) X.A (execs ss X.env) (fun f s' => ∃ u v σ' H', f = .ret u ∧ Inv X pins σ' H' s' ∧ RelV v u ∧ R v σ' H') X.xe s
def tRR (te : TE) (R : V → L2.St → Hp → Prop) : TS := fun _ σ H => te σ H fun v H' => R v σ H'
section
variable {X : Cx} {st : Stmt} {ss : List Stmt} {e : Expr} {te : TE} {t1 : TS} {pos : Pos} {t2 : (V → L2.St → Hp → Prop) → TS}
theorem psr_ret (he : PE X e te) : PSR X [.Return (some e) pos] (tRR te) := by
  refine ⟨fun pins s σ H R I h => ?_⟩
  refine wpAny_execs_cons ?_
  exact wpAny_Return_some (thn (he.run pins s σ H _ I h) fun v s1 ⟨x, H1, I1, r1, q1⟩ => ⟨v, x, σ, H1, rfl, I1, r1, q1⟩)
theorem psr_cons (h1 : PS X st t1) (h2 : PSR X ss t2) : PSR X (st :: ss) (fun R => tSeq t1 (t2 R)) := by
  refine ⟨fun pins s σ H R I h => ?_⟩
  refine wpAny_execs_cons (thn (h1.run pins s σ H _ I h) fun f s1 q => ?_)
  cases f with
  | next =>
    obtain ⟨σ', H', I', q⟩ := q
    exact h2.run pins s1 σ' H' R I' q
  | ret v => obtain ⟨_, _, _, _, _, q⟩ := q; exact q.elim
  | brk => obtain ⟨_, _, _, q⟩ := q; exact q.elim
  | cont => obtain ⟨_, _, _, q⟩ := q; exact q.elim
end
theorem go_rr {o : Option Addr} {F : Hp} {σ : L2.St} {D : Ends} {te : TE} {R : V → L2.St → Hp → Prop} (h : Wp o (te σ) F fun v F1 => ∀ H, Wd o F1 H → R v σ H) : Go o (tRR te R) D σ F := fun H w => h H w _ fun v H1 F1 w1 k => k H1 w1
/-! ### by what is known -/
theorem tabs_rm {T : List (Addr × Str)} {H1 : Hp} {d : Addr} (t : Tabs T H1) (hd : Dc H1 d) : Tabs T (rm H1 d) := fun p hp => by
  obtain ⟨ns, hns, _⟩ := hd
  obtain ⟨ps, a1, a2, a3⟩ := t p hp
  refine ⟨ps, by rw [rm_ne (fun z => by rw [z, hns] at a1; cases a1)]; exact a1, a2, fun pos cv h => ?_⟩
  obtain ⟨c, e1, e2⟩ := a3 pos cv h
  refine ⟨c, e1, ?_⟩
  rw [rm_ne (fun z => by
    rw [z, hns] at e2
    have z2 := Option.some.inj e2
    unfold CodeO at z2
    cases z2)]
  exact e2
/-- all but the tables, the lists stay -/
def ExtL (H H' : Hp) : Prop := ∀ b o, H b = some o → (∀ ps, o ≠ .tbl ps) → (∀ xs, o ≠ .lst xs) → H' b = some o
theorem ExtL.of {H H' : Hp} (e : ExtN H H') : ExtL H H' := fun b o h n _ => e b o h n
theorem ExtL.up {H H' : Hp} {p : Addr} {xs : List V} {u : HO} (e : Ex H H') (h : H' p = some (.lst xs)) : ExtL H (upd H' p u) := fun b o q n n2 => by
  have q2 := e _ _ q
  rw [upd_ne (fun z => by rw [z, h] at q2; exact n2 xs (Option.some.inj q2).symm)]
  exact q2
theorem ExtL.trans {H H1 H2 : Hp} (a : ExtL H H1) (b : ExtL H1 H2) : ExtL H H2 := fun c o h n m => b c o (a c o h n m) n m
theorem ExtL.upl {H H' : Hp} {p : Addr} {xs : List V} {u : HO} (e : ExtL H H') (h : H' p = some (.lst xs)) : ExtL H (upd H' p u) := e.trans (ExtL.up (exr H') h)
theorem tupO_nl {T : Addr} {u : Value} (xs : List V) : TupO T u ≠ .lst xs := fun z => by unfold TupO at z; cases z
theorem lamO_nl {f : Addr} {qual : Str} {params : Arguments} {body : Expr} {scope : Scope} {cl : List (Str × Addr)} {c' : Addr} {dv : Value} (xs : List V) : LamO f qual params body scope cl c' dv ≠ .lst xs := fun z => by unfold LamO at z; cases z
theorem codeO_nl {c : Addr} {q : Str} (xs : List V) : CodeO c q ≠ .lst xs := fun z => by unfold CodeO at z; cases z
theorem DvO.extL {H H1 : Hp} {dv : Value} {params : Arguments} {names : List Str} (h : DvO H dv params names) (e : ExtL H H1) : DvO H1 dv params names := by
  obtain ⟨bs, h1, h2⟩ := h
  rcases h2 with h2 | ⟨T, u, a1, a2, a3⟩
  · exact ⟨bs, h1, .inl h2⟩
  · exact ⟨bs, h1, .inr ⟨T, u, a1, e _ _ a2 tupO_nt tupO_nl, a3⟩⟩
theorem ClosT.extL {H H1 : Hp} {cl : List (Str × Addr)} {N : List Str} {σ : L2.St} {scope : Scope} (h : ClosT H cl N σ scope) (e : ExtL H H1) : ClosT H1 cl N σ scope :=
  ⟨h.inj, h.has, fun c hc => by
    obtain ⟨o, v, q, r⟩ := h.cel c hc
    exact ⟨o, v, e _ _ q objO_nt objO_nlst, r⟩, fun i y v e1 e2 e3 => by
    obtain ⟨c, o, u, a1, a2, a3⟩ := h.val i y v e1 e2 e3
    exact ⟨c, o, u, a1, e _ _ a2 objO_nt objO_nlst, a3⟩, h.len⟩
theorem FnHas.extL {P : Program} {w : World} {K : PySem.W.Frag} {mg : Str → Option Value} {base : Heap} {k : Nat} {f : Addr} {sp : Hp → VK → XK → Prop} {H H1 : Hp} (h : FnHas P w K mg base k f sp H) (e : ExtL H H1) : FnHas P w K mg base k f sp H1 := by
  obtain ⟨qual, params, body, scope, cl, c', dv, names, N, σL, tb, h1, h2, h3, h4, h5, h6, h7⟩ := h
  exact ⟨qual, params, body, scope, cl, c', dv, names, N, σL, tb, h1, e _ _ h2 codeO_ne codeO_nl, e _ _ h3 lamO_nt lamO_nl, h4.extL e, h5.extL e, h6, h7⟩
/-- a lambda of a def that runs yet: its cells are the def's -/
def FnPre (P : Program) (w : World) (K : PySem.W.Frag) (mg : Str → Option Value) (base : Heap) (k : Nat) (cells : List (Str × Addr)) (N : List Str) (sc : Scope) (σL : L2.St) (f : Addr) (sp : Hp → VK → XK → Prop) (F : Hp) : Prop :=
  ∃ (qual : Str) (params : Arguments) (body : Expr) (scope : Scope) (c' : Addr) (dv : Value) (names : List Str) (tb : XK → TE), LamN N sc scope names ∧ F c' = some (CodeO c' qual) ∧ F f = some (LamO f qual params body scope (cloFrom cells scope.names []) c' dv) ∧ DvO F dv params names ∧
    (∀ (A : Around) (outer : List Env) (s : Shared) (H : Hp) (E : XK) (f c' : Addr) (cl : List (Str × Addr)), Room k (A.deeper (PySem.W.envX qual scope s.heap.objs.size f (.ref c') cl)) → PE (lamCxC P w K mg base N qual cl A outer s H E scope f c') body (tb E)) ∧ ∀ H Q E, sp H Q E → tb E σL H Q
theorem FnPre.extL {P : Program} {w : World} {K : PySem.W.Frag} {mg : Str → Option Value} {base : Heap} {k : Nat} {cells : List (Str × Addr)} {N : List Str} {sc : Scope} {σL : L2.St} {f : Addr} {sp : Hp → VK → XK → Prop} {H H1 : Hp} (h : FnPre P w K mg base k cells N sc σL f sp H) (e : ExtL H H1) : FnPre P w K mg base k cells N sc σL f sp H1 := by
  obtain ⟨qual, params, body, scope, c', dv, names, tb, h1, h2, h3, h4, h6, h7⟩ := h
  exact ⟨qual, params, body, scope, c', dv, names, tb, h1, e _ _ h2 codeO_ne codeO_nl, e _ _ h3 lamO_nt lamO_nl, h4.extL e, h6, h7⟩
theorem wp_lam {o : Option Addr} {F : Hp} {σ : L2.St} {Pq : V → Hp → Prop} {T : List (Addr × Str)} {qual : Str} {params : Arguments} {body : Expr} {scope : Scope} {cl : List (Str × Addr)} {names : List Str} (hT : Tabs T F)
    (h : ∀ (f c' : Addr) (dv : Value) (F1 : Hp), ExtN F F1 → Tabs T F1 → F1 f = some (LamO f qual params body scope cl c' dv) → F1 c' = some (CodeO c' qual) → DvO F1 dv params names → Pq (.ref f) F1) : Wp o (tLam T qual params body scope cl names σ) F Pq := fun H w Q k => by
  refine ⟨Tabs.ext hT w.ex, fun f c' dv H1 eN T1 hf hc hd => ?_⟩
  cases o with
  | none => exact k _ H1 H1 (Wd.bare (exr _)) (h f c' dv H1 ((ExtN.of w.ex).trans eN) T1 hf hc hd)
  | some d =>
    obtain ⟨fd, hdc⟩ := w.dc d rfl
    have hd1 : Dc H1 d := by
      obtain ⟨ns, e, r⟩ := hdc
      exact ⟨ns, eN _ _ e (fun ps z => by cases z), r⟩
    have hns := hd1
    obtain ⟨ns, hns, _⟩ := hns
    have nd : ∀ {b : Addr} {u : HO}, H1 b = some u → (∀ xs, u ≠ .lst xs) → rm H1 d b = some u := fun {b u} e n => by
      rw [rm_ne (fun z => by rw [z, hns] at e; exact n _ (Option.some.inj e).symm)]
      exact e
    have w1 : Wd (some d) (rm H1 d) H1 := Wd.dice hd1
    refine k _ H1 (rm H1 d) w1 (h f c' dv (rm H1 d) (fun b u e n => ?_) (tabs_rm T1 hd1) (nd hf lamO_nl) (nd hc codeO_nl) (hd.extL fun b u e _ n => nd e n))
    rw [rm_ne (ne_of_none e fd)]
    exact eN _ _ (w.ex _ _ e) n
/-- behind the def its cells are tracked -/
structure Lift (cells : List (Str × Addr)) (N : List Str) (σ : L2.St) (scope : Scope) (H' H2 : Hp) : Prop where
  ex : Ex H' H2
  inj : ∀ x y c, cells.lookup x = some c → cells.lookup y = some c → x = y
  has : ∀ y, scope.names.lookup y = some .cell → ∃ c, cells.lookup y = some c
  nofree : ∀ y, scope.names.lookup y ≠ some .free
  cel : ∀ y c, cells.lookup y = some c → ∃ o v, H2 c = some (ObjO c o) ∧ o.data = .cell v
  val : ∀ (i : Nat) (y : Str) (v : V), N[i]? = some y → σ[i]? = some (some v) → scope.names.lookup y = some .cell → ∃ c o u, cells.lookup y = some c ∧ H2 c = some (ObjO c o) ∧ o.data = .cell (some u) ∧ RelV v u
  len : σ.length = N.length
theorem clos_of {cells : List (Str × Addr)} {N : List Str} {σ σL : L2.St} {scope sL : Scope} {names : List Str} {H' H2 : Hp} (L : Lift cells N σ scope H' H2) (hw : ∀ (i : Nat) (v : V), σL[i]? = some (some v) → σ[i]? = some (some v)) (hl : σL.length = N.length) (S : LamN N scope sL names) : ClosT H2 (cloFrom cells sL.names []) N σL sL := by
  have ce : ∀ y, (y, NameKind.free) ∈ sL.names → scope.names.lookup y = some .cell := fun y hy => (S.free _ hy rfl).elim id fun z => absurd z (L.nofree _)
  have cm : ∀ {y c}, (y, c) ∈ cloFrom cells sL.names [] → (y, NameKind.free) ∈ sL.names ∧ cells.lookup y = some c := fun {y c} hm => by
    rcases cloFrom_mem hm with hm | ⟨h1, h2⟩
    · cases hm
    · obtain ⟨c1, hc⟩ := L.has y (ce y h1)
      rw [hc] at h2
      have h2 : c = c1 := h2
      rw [h2]
      exact ⟨h1, hc⟩
  refine ⟨fun x y c e1 e2 => L.inj x y c (cm (PySem.mem_of_lookup e1)).2 (cm (PySem.mem_of_lookup e2)).2, fun y hy => mem_lookup (cloFrom_has (cells := cells) (acc := []) (PySem.mem_of_lookup hy)), fun c hc => ?_, fun i y v e1 e2 e3 => ?_, hl⟩
  · obtain ⟨p, hp, rfl⟩ := List.mem_map.mp hc
    obtain ⟨y, c⟩ := p
    exact L.cel y c (cm hp).2
  · have hy := PySem.mem_of_lookup e3
    obtain ⟨c, o, u, a1, a2⟩ := L.val i y v e1 (hw i v e2) (ce y hy)
    obtain ⟨c2, h2⟩ := mem_lookup (cloFrom_has (cells := cells) (acc := []) hy)
    have h3 := (cm (PySem.mem_of_lookup h2)).2
    rw [a1] at h3
    cases h3
    exact ⟨c, o, u, h2, a2⟩
theorem FnPre.has {P : Program} {w : World} {K : PySem.W.Frag} {mg : Str → Option Value} {base : Heap} {k : Nat} {cells : List (Str × Addr)} {N : List Str} {sc : Scope} {σ σL : L2.St} {f : Addr} {sp : Hp → VK → XK → Prop} {H' H2 : Hp} (h : FnPre P w K mg base k cells N sc σL f sp H') (L : Lift cells N σ sc H' H2)
    (hw : ∀ (i : Nat) (v : V), σL[i]? = some (some v) → σ[i]? = some (some v)) (hl : σL.length = N.length) : FnHas P w K mg base k f sp H2 := by
  obtain ⟨qual, params, body, scope, c', dv, names, tb, h1, h2, h3, h4, h6, h7⟩ := h
  exact ⟨qual, params, body, scope, _, c', dv, names, N, σL, tb, h1.s, L.ex _ _ h2, L.ex _ _ h3, h4.ext (ExtN.of L.ex), clos_of L hw hl h1, h6, h7⟩
theorem fn_ofC {CX : CXT} {P : Program} {w : World} {K : PySem.W.Frag} {mg : Str → Option Value} {base : Heap} {k : Nat} {f : Addr} {name qual : Str} {params : Arguments} {body : List Stmt} {scope : Scope} {dV kV doc pm cdv ct oc : Value} {an od : Option Addr}
    {osl : Array (Option Value)} {N ps : List Str} {sp : Sp} (lk : K.lookup f = some ⟨oc, od, .func (PySem.W.fnOf name qual params body scope dV kV doc pm an cdv ct), osl⟩) (hcd : PySem.W.codeIn K cdv qual = true) (S : FnScope N ps scope)
    (len : ∀ vs H Q E, sp vs H Q E → vs.length = ps.length)
    (hbody : ∀ (A : Around) (outer : List Env) (s : Shared) (H : Hp) (vs : List V) (Q : VK) (E : XK), Room k (A.deeper (envOfC qual scope s.heap.objs.size f cdv)) → sp vs H Q E →
      ∃ t, PSR (cxOf CX P w K mg base N qual scope f cdv A outer s H E) body t ∧ t (fun v σ' H' => ∀ H2, Lift (envOfC qual scope s.heap.objs.size f cdv).cells N σ' scope H' H2 → Q v H2) noEnds (start N vs) H) :
    FnOk P w K mg base CX (k + 1) f (PySem.W.fnOf name qual params body scope dV kV doc pm an cdv ct) ps sp := by
  refine ⟨len, fun A outer s H args us vs Q E hr e0 hb r hsp => ?_⟩
  have hl := len _ _ _ _ hsp
  have KX : K.In s.heap := e0.mod.kin.keeps fun b o e => (e0.bs b o e).1
  have lim : s.heap.NoLimit := e0.mod.nolimit.keeps fun b o e => (e0.bs b o e).1
  have hkind : ∀ y ∈ ps.zip us, scope.names.lookup y.1 = some .local ∨ (scope.names.lookup y.1 = some .cell ∧ ((cellsFrom (s.heap.objs.size + 1) scope.names []).lookup y.1).isSome = true) := fun ⟨n, v⟩ hy => by
    rcases S.par n (List.of_mem_zip hy).1 with q | q
    · exact .inl q
    · exact .inr ⟨q, PySem.W.cellsFrom_some _ _ _ (.inl q)⟩
  refine codeAny_call_function hr.depth (KX _ _ lk) rfl S.co S.gen rfl (PySem.W.codeRec_of KX hcd) (hb _ _ _ _ ?_)
  refine wpAny_newFunctionEnv_cells S.kind hkind fun env he s1 x => ?_
  subst he
  refine ⟨lim.keeps x.toInCall.keep, codeAny_func ?_⟩
  obtain ⟨t, ht, hq⟩ := hbody A outer s H vs Q E (hr.deeper _) hsp
  have I : Inv (cxOf CX P w K mg base N qual scope f cdv A outer s H E) [] (start N vs) H s1 := inv_start S hr.hd e0 hl r x
  refine wpAny_mono (ht.run [] s1 (start N vs) H _ I hq) (fun fl s' hs => ?_) fun e s' hs => hs
  obtain ⟨u, v, σ', H', rfl, J, rv, q⟩ := hs
  show CE outer P w H s Q u s'
  generalize hcs : (envOfC qual scope s.heap.objs.size f cdv).cells = cells at q
  have jc : ∀ y c, cells.lookup y = some c → ∃ v, s'.heap.IsCell c v := fun y c e => J.cell y c (by show (envOfC qual scope s.heap.objs.size f cdv).cells.lookup y = _; rw [hcs]; exact e)
  have jf : ∀ y c, cells.lookup y = some c → H' c = none := fun y c e => J.freeC y c (by show (envOfC qual scope s.heap.objs.size f cdv).cells.lookup y = _; rw [hcs]; exact e)
  have jb : ∀ y c, cells.lookup y = some c → s.heap.objs.size ≤ c := fun y c e => J.ok.cab y c rfl (by show (envOfC qual scope s.heap.objs.size f cdv).cells.lookup y = _; rw [hcs]; exact e)
  have ji : ∀ x y c, cells.lookup x = some c → cells.lookup y = some c → x = y := fun x y c e1 e2 => J.ok.inj x y c (by show (envOfC qual scope s.heap.objs.size f cdv).cells.lookup x = _; rw [hcs]; exact e1) (by show (envOfC qual scope s.heap.objs.size f cdv).cells.lookup y = _; rw [hcs]; exact e2)
  have jh : ∀ y, scope.names.lookup y = some .cell → ∃ c, cells.lookup y = some c := fun y e => by
    obtain ⟨c, z⟩ := J.ok.has y (.inl e)
    exact ⟨c, by rw [← hcs]; exact z⟩
  obtain ⟨H2, hin, hout⟩ : ∃ H2 : Hp, (∀ y c, cells.lookup y = some c → ∃ o v, s'.heap.get? c = some o ∧ H2 c = some (ObjO c o) ∧ o.data = .cell v) ∧ ∀ b, (¬ ∃ y, cells.lookup y = some b) → H2 b = H' b := by
    classical
    refine ⟨fun b => if ∃ y, cells.lookup y = some b then (s'.heap.get? b).map (ObjO b) else H' b, fun y c e => ?_, fun b hb => if_neg hb⟩
    obtain ⟨v, o, ho, hd⟩ := jc y c e
    refine ⟨o, v, ho, ?_, hd⟩
    show (if ∃ y, cells.lookup y = some c then (s'.heap.get? c).map (ObjO c) else H' c) = _
    rw [if_pos ⟨y, e⟩, ho]
    rfl
  have nc : ∀ b x, H' b = some x → ¬ ∃ y, cells.lookup y = some b := fun b x e ⟨y, z⟩ => by
    rw [jf y b z] at e
    cases e
  have exH : Ex H' H2 := fun b x e => by rw [hout b (nc b x e)]; exact e
  refine ⟨v, H2, J.os, J.bare, ?_, ?_, rv, q H2 ⟨exH, ji, jh, fun y e => S.nofree _ (PySem.mem_of_lookup e) rfl, fun y c e => ?_, fun i y v e1 e2 e3 => ?_, J.len⟩⟩
  · have un : Un (frs outer) [] H H' s.heap s'.heap := J.base
    refine ⟨un.keep, un.slot, fun b o e n hx => ?_, un.there, fun b xs e => exH _ _ (un.tups b xs e), fun b o x e => exH _ _ (un.frzs b o x e), fun b pz e => ?_⟩
    · rw [hout b fun ⟨y, z⟩ => Nat.lt_irrefl _ (Nat.lt_of_lt_of_le (Heap.lt_size e) (jb y b z))]
      exact un.free b o e n hx
    · obtain ⟨more, z⟩ := un.tbls b pz e
      exact ⟨more, exH _ _ z⟩
  · intro b x e
    by_cases hb : ∃ y, cells.lookup y = some b
    · obtain ⟨y, z⟩ := hb
      obtain ⟨o, v, a1, a2, _⟩ := hin y b z
      rw [a2] at e
      cases e
      exact objO_ok a1
    · rw [hout b hb] at e
      exact (J.hok b x e).stay (fun _ _ _ q => q) (fun c q => exH _ _ q) fun c xs q => exH _ _ q
  · obtain ⟨o, v, _, a2, a3⟩ := hin y c e
    exact ⟨o, v, a2, a3⟩
  · obtain ⟨m, hn, hl2⟩ := J.loc
    obtain ⟨u, r, q⟩ := hl2 i y v e1 e2 (.inr (.inl e3))
    rcases q with ⟨k, _⟩ | ⟨_, c, a1, a2⟩
    · have k : scope.names.lookup y = some .local := k
      rw [e3] at k
      cases k
    · have a1 : cells.lookup y = some c := by rw [← hcs]; exact a1
      obtain ⟨o, v', b1, b2, b3⟩ := hin y c a1
      obtain ⟨o2, c1, c2⟩ := a2
      have c1 : s'.heap.get? c = some o2 := c1
      rw [b1] at c1
      cases c1
      exact ⟨c, o, u, a1, b2, c2, r⟩
/-! ### the lambdas in a def's text -/
def eLam1 : Expr → List (Arguments × Expr × Scope)
  | .Lambda p b s _ => [(p, b, s)]
  | _ => []
def eLam2 : Expr → List (Arguments × Expr × Scope)
  | .List es _ => es.flatMap eLam1
  | .Call _ es _ _ => es.flatMap eLam1
  | e => eLam1 e
def eLam3 : Expr → List (Arguments × Expr × Scope)
  | .BinOp l _ r _ => eLam2 l ++ eLam2 r
  | e => eLam2 e
def stLam : Stmt → List (Arguments × Expr × Scope)
  | .Assign _ e _ => eLam3 e
  | .Expr e _ => eLam3 e
  | _ => []
def lamAt (st : Stmt) (j : Nat) : Arguments × Expr × Scope := ((L2.defBody st).flatMap stLam).getD j (L2.defArgs st, .Name "" ⟨0, 0, 0, 0⟩, L2.defScope st)
abbrev lamPs (st : Stmt) (j : Nat) : Arguments := (lamAt st j).1
abbrev lamBd (st : Stmt) (j : Nat) : Expr := (lamAt st j).2.1
abbrev lamSc (st : Stmt) (j : Nat) : Scope := (lamAt st j).2.2
/-! ### a list of functions, filled one by one -/
theorem tabs_upl {T : List (Addr × Str)} {H1 : Hp} {d : Addr} {xs : List V} {u : HO} (t : Tabs T H1) (hns : H1 d = some (.lst xs)) : Tabs T (upd H1 d u) := fun p hp => by
  obtain ⟨ps, a1, a2, a3⟩ := t p hp
  refine ⟨ps, by rw [upd_ne (fun z => by rw [z, hns] at a1; cases a1)]; exact a1, a2, fun pos cv h => ?_⟩
  obtain ⟨c, e1, e2⟩ := a3 pos cv h
  refine ⟨c, e1, ?_⟩
  rw [upd_ne (fun z => by
    rw [z, hns] at e2
    have z2 := Option.some.inj e2
    unfold CodeO at z2
    cases z2)]
  exact e2
theorem extN_up {H F : Hp} {p : Addr} {u : HO} (e : ExtN H F) (h : ∀ o, H p = some o → ∃ ps, o = .tbl ps) : ExtN H (upd F p u) := fun b o q n => by
  rw [upd_ne (fun z => by
    rw [z] at q
    obtain ⟨ps, e⟩ := h o q
    exact n ps e)]
  exact e b o q n
theorem new_of {H F : Hp} {p : Addr} (e : ExtN H F) (h : F p = none) : ∀ o, H p = some o → ∃ ps, o = .tbl ps := fun o q => by
  cases o with
  | tbl ps => exact ⟨ps, rfl⟩
  | _ =>
    have := e _ _ q (fun ps z => by cases z)
    rw [h] at this
    cases this
structure Wk (T : List (Addr × Str)) (pre : Addr → Hp → Prop) (H : Hp) (p : Addr) (fs : List Addr) (F : Hp) : Prop where
  at_ : F p = some (.lst (fs.map V.ref))
  pr : ∀ f ∈ fs, pre f F
  tb : Tabs T F
  ex : ExtN H F
theorem Wk.step {T : List (Addr × Str)} {pre : Addr → Hp → Prop} {H G F : Hp} {p f : Addr} {fs : List Addr} (hpre : ∀ f F F1, ExtL F F1 → pre f F → pre f F1) (hp : ∀ o, H p = some o → ∃ ps, o = .tbl ps) (W : Wk T pre H p fs G) (e : ExtN G F) (t : Tabs T F) (h : pre f F) : Wk T pre H p (fs ++ [f]) (upd F p (.lst (fs.map V.ref ++ [.ref f]))) := by
  have hF : F p = some (.lst (fs.map V.ref)) := e _ _ W.at_ fun ps z => by cases z
  refine ⟨by rw [upd_same, List.map_append]; rfl, fun g hg => ?_, tabs_upl t hF, extN_up (W.ex.trans e) hp⟩
  rcases List.mem_append.mp hg with h1 | h1
  · exact hpre _ _ _ ((ExtL.of e).upl hF) (W.pr g h1)
  · rw [List.mem_singleton.mp h1]
    exact hpre _ _ _ (ExtL.up (exr F) hF) h
theorem Wk.one {T : List (Addr × Str)} {pre : Addr → Hp → Prop} {H F F1 : Hp} {p f : Addr} (hpre : ∀ f F F1, ExtL F F1 → pre f F → pre f F1) (e : ExtN H F) (t : Tabs T F) (h : pre f F) (e1 : Ex F F1) (h1 : F1 p = some (.lst [.ref f])) : Wk T pre H p [f] F1 :=
  ⟨h1, fun g hg => by rw [List.mem_singleton.mp hg]; exact hpre _ _ _ (ExtL.of (ExtN.of e1)) h, Tabs.ext t e1, e.trans (ExtN.of e1)⟩
end Sr
local macro_rules | `(tactic| wtm_at "dec") => `(tactic| first
  | exact decide_eq_true (by omega)
  | exact decide_eq_false (by omega)
  | (simp only [Bool.not_eq_true', Bool.not_eq_false', Bool.not_true, Bool.not_false, decide_eq_true_eq, decide_eq_false_iff_not]; omega)
  | (simp; done)
  | (simp; omega))
local macro_rules | `(tactic| wtm_at "sz") => `(tactic| first
  | omega
  | (simp only [List.length_append, List.length_cons, List.length_nil, List.length_map, List.length_take, List.length_drop, List.length_singleton]; omega)
  | (show _ ≤ _; decide)
  | decide)
local macro_rules | `(tactic| wtm_at "fr") => `(tactic| first
  | assumption
  | (refine Sr.fr_in (q := _) (u := _) ?_; assumption)
  | (refine L2.Same.free ?_ ?_ <;> assumption))
local macro_rules | `(tactic| wtm_at "ne") => `(tactic| first
  | assumption
  | (exact Sr.fr_ne (by assumption))
  | (exact (Sr.fr_ne (by assumption)).symm)
  | (exact L2.ne_of_none (by assumption) (by wtm_at "fr"))
  | (exact (L2.ne_of_none (by assumption) (by wtm_at "fr")).symm))
local macro_rules | `(tactic| wtm_at "at") => `(tactic| first
  | assumption
  | ((with_reducible exact L2.upd_same))
  | ((with_reducible apply Sr.at_ne); wtm_at "at"; wtm_at "fr")
  | ((with_reducible refine' Eq.trans (L2.upd_ne ?_) ?_); wtm_at "ne"; wtm_at "at")
  | ((with_reducible exact (by assumption : L2.Same _ _) _ _ (by assumption))))
local macro_rules | `(tactic| wtm_at "kn") => `(tactic| first
  | assumption
  | ((with_reducible apply L2.SqL.of); wtm_at "at")
  | ((with_reducible apply L2.SqT.of); wtm_at "at")
  | ((with_reducible refine' Sr.ex_t (Sr.ex_new ?_) ?_); wtm_at "fr"; wtm_at "kn")
  | ((with_reducible refine' Sr.ex_l (Sr.ex_new ?_) ?_); wtm_at "fr"; wtm_at "kn")
  | ((with_reducible refine' Sr.ex_t (by assumption) ?_); wtm_at "kn")
  | ((with_reducible refine' Sr.ex_l (by assumption) ?_); wtm_at "kn"))
local macro_rules | `(tactic| wtm_at "s") => `(tactic| first
  | ((with_reducible refine Sr.go_set ?_))
  | ((with_reducible refine Sr.go_ret ?_))
  | ((with_reducible refine Sr.go_if ?_))
  | ((with_reducible refine Sr.go_drop ?_))
  | ((with_reducible refine Sr.go_asg ?_))
  | ((with_reducible apply Sr.wp_var); exact rfl)
  | ((with_reducible refine Sr.wp_c ?_))
  | ((with_reducible refine Sr.wp_op ?_))
  | ((with_reducible refine Sr.wp_un ?_))
  | ((with_reducible refine Sr.wp_chain ?_))
  | ((with_reducible refine Sr.wp_ifE ?_))
  | ((with_reducible refine Sr.wp_andV ?_))
  | ((with_reducible refine Sr.wp_orV ?_))
  | ((with_reducible refine Sr.wp_notV ?_))
  | ((with_reducible refine Sr.wp_test ?_))
  | ((with_reducible refine Sr.wp_B ?_))
  | ((with_reducible refine Sr.wp_and ?_))
  | ((with_reducible refine Sr.wp_or ?_))
  | ((with_reducible refine Sr.wp_not ?_))
  | ((with_reducible refine Sr.wp_yes ?_))
  | ((with_reducible refine Sr.wp_nil ?_))
  | ((with_reducible refine Sr.wp_cons ?_))
  | ((with_reducible refine Sr.wp_tup ?_))
  | ((with_reducible refine Sr.wp_lst ?_))
  | ((with_reducible refine Sr.wp_call ?_))
  | ((with_reducible refine Sr.wp_cb ?_))
  | ((with_reducible refine Sr.wp_sl ?_))
  | ((with_reducible refine Sr.wp_noPart ?_))
  | ((with_reducible refine Sr.wp_part ?_))
  | ((with_reducible refine Sr.wp_addI ?_))
  | ((with_reducible refine Sr.wp_addS ?_ ?_); wtm_at "sz")
  | ((with_reducible refine Sr.wp_i0 ?_))
  | ((with_reducible refine Sr.wp_isNs ?_))
  | ((with_reducible refine Sr.wp_notNs ?_))
  | ((with_reducible refine Sr.go_ifB ?_))
  | ((with_reducible refine Sr.wp_u ?_))
  | ((with_reducible refine Sr.wp_eqI ?_))
  | ((with_reducible refine Sr.wp_neI ?_))
  | ((with_reducible refine Sr.wp_eqS ?_))
  | ((with_reducible refine Sr.wp_neS ?_))
  | ((with_reducible refine Sr.wp_inS ?_))
  | ((with_reducible refine Sr.wp_niS ?_))
  | ((with_reducible refine Sr.wp_lenS ?_ ?_); wtm_at "sz")
  | ((with_reducible apply Sr.wp_lenL); wtm_at "kn")
  | ((with_reducible apply Sr.wp_lenT); wtm_at "kn")
  | ((with_reducible apply Sr.wp_ixT); wtm_at "kn"; exact rfl)
  | ((with_reducible refine Sr.wp_slS ?_ ?_); wtm_at "sz")
  | ((with_reducible refine Sr.wp_gName ?_))
  | ((with_reducible apply Sr.wp_gTup); wtm_at "kn"; exact rfl)
  | ((with_reducible refine Sr.wp_gCons ?_))
  | ((with_reducible refine Sr.wp_gNil ?_))
  | ((with_reducible refine ⟨_, (rfl : @Eq L2.V _ _), ?_⟩))
  | ((with_reducible refine Sr.go_back ?_)))
local macro_rules | `(tactic| wtm_at "r") => `(tactic| repeat wtm_at "s")
local macro_rules | `(tactic| wtm_at "gz") => `(tactic| (
  intro p hp
  generalize hG : L2.upd _ p _ = F
  have h := (Sr.gz_l hG hp).2
  have e := (Sr.gz_l hG hp).1
  clear hG
  revert h e
  revert F
  revert hp
  revert p))
namespace Sr
open PySem PySem.Spec PyProof.Rows L2 SrX
/-! ### sets, tapes -/
abbrev il (cs : List Int) : List V := cs.map V.int
/-- two sets of signs stand at s -/
abbrev SetsAt (K : PySem.W.Frag) (H : Hp) (s : Addr) (A B : List Nat) : Prop := SqT K H s [.str (tx A), .str (tx B)]
structure Good (A B : List Nat) : Prop where
  n1 : 1 ≤ A.length
  n10 : A.length ≤ 10
  eq : B.length = A.length
  ndA : A.Nodup
  ndB : B.Nodup
def CodesOk (n : Nat) (cs : List Int) : Prop := ∀ c ∈ cs, 0 ≤ c ∧ c < (n : Int) + 2
def StOk (st : Int) : Prop := st = 0 ∨ st = 1
/-- the row of a state -/
def rowS (A B : List Nat) (st : Int) : List Nat := if st = 0 then A else B
def sgn (A B : List Nat) (st c : Int) : Nat := (rowS A B st).getD c.toNat 0
def gst (A B : List Nat) (x : List Nat × Int) (c : Int) : List Nat × Int := if c < (A.length : Int) then (x.1 ++ [sgn A B x.2 c], x.2) else (x.1, c - (A.length : Int))
/-- what a tape reads as, the state behind it -/
def gon (A B : List Nat) (cs : List Int) (st : Int) : List Nat × Int := cs.foldl (gst A B) ([], st)
theorem take_more {α : Type} {l : List α} {i : Nat} {x : α} (h : l[i]? = some x) : l.take (i + 1) = l.take i ++ [x] := by
  rw [List.take_add_one, h]; rfl
theorem gon_take {A B : List Nat} {cs : List Int} {st : Int} {i : Nat} {c : Int} (h : cs[i]? = some c) : gon A B (cs.take (i + 1)) st = gst A B (gon A B (cs.take i) st) c := by
  unfold gon
  rw [take_more h, List.foldl_append]
  rfl
theorem gst_len {A B : List Nat} (x : List Nat × Int) (c : Int) : (gst A B x c).1.length ≤ x.1.length + 1 := by
  unfold gst
  split
  · simp
  · simp
theorem gon_len (A B : List Nat) (st : Int) (cs : List Int) : (gon A B cs st).1.length ≤ cs.length := by
  have key : ∀ (cs : List Int) (x : List Nat × Int), (cs.foldl (gst A B) x).1.length ≤ x.1.length + cs.length := by
    intro cs
    induction cs with
    | nil => intro x; exact Nat.le_refl _
    | cons c r ih =>
      intro x
      have h1 := ih (gst A B x c)
      have h2 := gst_len (A := A) (B := B) x c
      rw [List.foldl_cons, List.length_cons]
      omega
  have h := key cs ([], st)
  simpa [gon] using h
theorem gst_st {A B : List Nat} {x : List Nat × Int} {c : Int} (hx : StOk x.2) (hc : 0 ≤ c ∧ c < (A.length : Int) + 2) : StOk (gst A B x c).2 := by
  unfold gst
  split
  · exact hx
  · show c - (A.length : Int) = 0 ∨ c - (A.length : Int) = 1
    omega
theorem gon_st {A B : List Nat} {cs : List Int} {st : Int} (hs : StOk st) (hc : CodesOk A.length cs) : StOk (gon A B cs st).2 := by
  have key : ∀ (cs : List Int) (x : List Nat × Int), StOk x.2 → CodesOk A.length cs → StOk (cs.foldl (gst A B) x).2 := by
    intro cs
    induction cs with
    | nil => intro x h _; exact h
    | cons c r ih =>
      intro x h hc
      exact ih _ (gst_st h (hc c List.mem_cons_self)) fun d hd => hc d (List.mem_cons_of_mem _ hd)
  exact key cs ([], st) hs hc
theorem CodesOk.take {n : Nat} {cs : List Int} (h : CodesOk n cs) (i : Nat) : CodesOk n (cs.take i) := fun c hc => h c (List.mem_of_mem_take hc)
theorem CodesOk.drop {n : Nat} {cs : List Int} (h : CodesOk n cs) (i : Nat) : CodesOk n (cs.drop i) := fun c hc => h c (List.mem_of_mem_drop hc)
theorem CodesOk.app {n : Nat} {cs ds : List Int} (h : CodesOk n cs) (h2 : CodesOk n ds) : CodesOk n (cs ++ ds) := fun c hc => (List.mem_append.mp hc).elim (h c) (h2 c)
theorem row_len {A B : List Nat} (h : B.length = A.length) (st : Int) : (rowS A B st).length = A.length := by
  unfold rowS
  split
  · rfl
  · exact h
theorem at_row {A B : List Nat} {st : Int} (h : StOk st) : atI [V.str (tx A), V.str (tx B)] st = some (.str (tx (rowS A B st))) := by
  rcases h with h | h
  · subst h; exact atI_nat (j := 0) rfl
  · subst h; exact atI_nat (j := 1) rfl
theorem at_sgn {A B : List Nat} {st c : Int} (h : B.length = A.length) (h0 : 0 ≤ c) (h1 : c < (A.length : Int)) : atI (rowS A B st) c = some (sgn A B st c) := by
  have hl : c.toNat < (rowS A B st).length := by rw [row_len h]; omega
  refine atNat h0 ?_
  unfold sgn
  rw [List.getElem?_eq_getElem hl, List.getD_eq_getElem?_getD, List.getElem?_eq_getElem hl]
  rfl
theorem il_at {cs : List Int} {i : Nat} {y : V} (h : (il cs)[i]? = some y) : ∃ c, cs[i]? = some c ∧ y = .int c ∧ c ∈ cs := by
  rw [List.getElem?_map] at h
  cases e : cs[i]? with
  | none => rw [e] at h; cases h
  | some c =>
    rw [e] at h
    exact ⟨c, rfl, (Option.some.inj h).symm, List.mem_of_getElem? e⟩
def topS (i : Nat) : Stmt := PySem.Challenge.pw_shiftrow_k01_sets_refused.main.body.getD i (.Pass ⟨0, 0, 0, 0⟩)
section
variable {P : Program} {w : World} {K : PySem.W.Frag} {mg : Str → Option Value} {base : Heap}
abbrev s_gone : Stmt := topS 15
abbrev n_gone : List Str := ["sets", "tape", "state", "many", "found", "code"]
theorem sc_gone : FnScope n_gone ["sets", "tape", "state"] (defScope s_gone) := ⟨rfl, rfl, rfl, by decide +kernel, rfl, by decide +kernel, by decide +kernel⟩

def sp_gone (K : PySem.W.Frag) : Sp := fun vs H Q _ => ∃ (s t : Addr) (A B : List Nat) (cs : List Int) (st : Int), vs = [.ref s, .ref t, .int st] ∧ SetsAt K H s A B ∧ SqL K H t (il cs) ∧ B.length = A.length ∧ A.length ≤ 10 ∧ CodesOk A.length cs ∧ cs.length ≤ 1000 ∧ StOk st ∧
  RetN (.tup [.str (tx (gon A B cs st).1), .int (gon A B cs st).2]) H Q
theorem pm_gone (D : DefAt K mg "gone" s_gone) (B : Bl mg) : Pm P w K mg base CX0 1 "gone" ["sets", "tape", "state"] (sp_gone K) := by
  obtain ⟨f, fd, F, hm⟩ := D
  refine ⟨f, fd, ?_, hm, F.kp, F.binds fun _ _ _ _ _ _ us hl => match us, hl with | [_, _, _], _ => rfl⟩
  refine F.ok sc_gone (fun vs H Q E h => ?_) (fun cdv A outer s H vs Q E hr h => ?_)
  · obtain ⟨_, _, _, _, _, _, rfl, _⟩ := h
    rfl
  · obtain ⟨s, t, A', B', cs, st, rfl, hS, hT, eL, nL, hc, cl, hst, k⟩ := h
    refine ⟨_, (pss_cons (ps_set (i := 3) sc_gone.nd rfl (Or.inl rfl) (pe_callB (lenK K rfl) (by rfl) B.len PySem.boot_len (pa_cons (pe_ix (ixK K rfl) (pv 0) pe_int (fun _ _ => rfl)) pa_nil)))
 (pss_cons (ps_set (i := 4) sc_gone.nd rfl (Or.inl rfl) (pe_strT (l := []) (by decide +kernel)))
 (pss_cons (ps_for PassesOwn.never rfl (piL K rfl (pv 1)) (pg_name (i := 5) sc_gone.nd rfl (Or.inl rfl))
 (pss_cons (ps_if (pt_cmpR op_lt (pv 5) (pv 3) (nomark _))
 (pss_cons (ps_set (i := 4) sc_gone.nd rfl (Or.inl rfl) (pe_op op_addP (pv 4) (pe_ix (ixK K rfl) (pe_ix (ixK K rfl) (pv 0) (pv 2) (fun _ _ => rfl)) (pv 5) (fun _ _ => rfl))))
 pss_nil)
 (pss_cons (ps_set (i := 2) sc_gone.nd rfl (Or.inl rfl) (pe_op op_sub (pv 5) (pv 3)))
 pss_nil))
 pss_nil))
 (pss_cons (ps_ret (pe_tup (pa_cons (pv 4) (pa_cons (pv 2) pa_nil))))
 pss_nil)))), ?_⟩
    refine go_st (σ := [some (.ref s), some (.ref t), some (.int st), none, none, none]) rfl ?_
    wtm_at "r"
    refine go_forL (fun i σ F => ∃ y, σ = [some (.ref s), some (.ref t), some (.int (gon A' B' (cs.take i) st).2), some (.int (A'.length : Nat)), some (.str (tx (gon A' B' (cs.take i) st).1)), y] ∧ Ex H F) ?_
    wtm_at "r"
    refine ⟨t, il cs, rfl, hT, ⟨none, rfl, exr H⟩, fun i σ F hi ⟨_, _, e⟩ => ex_l e hT, ?_, ?_⟩
    · rintro i y σ F hy ⟨y0, rfl, e⟩
      obtain ⟨c, hcy, rfl, hmem⟩ := il_at hy
      have hcc := hc c hmem
      have hs2 := gon_st hst (hc.take i) (B := B')
      have hS2 := ex_t e hS
      have hl := gon_len A' B' st (cs.take i)
      have hl2 : (cs.take i).length ≤ cs.length := List.length_take_le' _ _
      have step := gon_take (A := A') (B := B') (st := st) hcy
      wtm_at "r"
      refine ⟨fun hlt => ?_, fun hlt => ?_⟩
      · have hlt := of_decide_eq_true hlt
        wtm_at "r"
        refine wp_ixT hS2 (at_row hs2) ?_
        wtm_at "r"
        refine wp_ixS (by rw [row_len eL]; omega) (at_sgn eL hcc.1 hlt) ?_
        refine wp_addS (j := [sgn A' B' (gon A' B' (cs.take i) st).2 c]) (by wtm_at "sz") ?_
        wtm_at "r"
        refine go_turn rfl ⟨some (.int c), ?_, e⟩
        rw [step]
        unfold gst
        rw [if_pos hlt]
        rfl
      · have hlt := of_decide_eq_false hlt
        wtm_at "r"
        refine go_turn rfl ⟨some (.int c), ?_, e⟩
        rw [step]
        unfold gst
        rw [if_neg hlt]
        rfl
    · rintro σ F ⟨y0, rfl, e⟩
      rw [List.length_map, List.take_length]
      wtm_at "r"
      refine ⟨(by show 2 ≤ 100000; decide), fun p hp => k.out (e.trans (ex_new hp)) (e.free hp) upd_same⟩

abbrev s_need_sets : Stmt := topS 10
abbrev n_need_sets : List Str := ["sets", "one", "other"]
theorem sc_need_sets : FnScope n_need_sets ["sets"] (defScope s_need_sets) := ⟨rfl, rfl, rfl, by decide +kernel, rfl, by decide +kernel, by decide +kernel⟩

def sp_need_sets (K : PySem.W.Frag) : Sp := fun vs H Q _ => ∃ (s : Addr) (A B : List Nat), vs = [.ref s] ∧ SetsAt K H s A B ∧ Good A B ∧ RetV .non H Q
theorem pm_need_sets (D : DefAt K mg "need_sets" s_need_sets) (B : Bl mg) (c_MOST_SIGNS : ∃ t, mg "MOST_SIGNS" = some (.int 10 t)) : Pm P w K mg base CX0 1 "need_sets" ["sets"] (sp_need_sets K) := by
  obtain ⟨f, fd, F, hm⟩ := D
  refine ⟨f, fd, ?_, hm, F.kp, F.binds fun _ _ _ _ _ _ us hl => match us, hl with | [_], _ => rfl⟩
  refine F.ok sc_need_sets (fun vs H Q E h => ?_) (fun cdv A outer s H vs Q E hr h => ?_)
  · obtain ⟨_, _, _, rfl, _⟩ := h
    rfl
  · obtain ⟨s, A', B', rfl, hS, g, k⟩ := h
    obtain ⟨n1, n10, eL, ndA, ndB⟩ := g
    have eA := (dd_full A').mpr ndA
    have eB := (dd_full B').mpr ndB
    refine ⟨_, (pss_cons (ps_asg (pv 0) (pgT K rfl (n := 2) rfl (pgs_cons (pg_name (i := 1) sc_need_sets.nd rfl (Or.inl rfl)) (pgs_cons (pg_name (i := 2) sc_need_sets.nd rfl (Or.inl rfl)) pgs_nil))))
 (pss_cons (ps_if (pt_not (pt_chain op_le op_le pe_int (pe_callB (lenK K rfl) (by rfl) B.len PySem.boot_len (pa_cons (pv 1) pa_nil)) (pe_cst c_MOST_SIGNS)))
 (pss_cons ps_never
 pss_nil)
 pss_nil)
 (pss_cons (ps_if (pt_cmpR (neK K rfl hr.units) (pe_lenSg rfl B.len B.set (pv 1)) (pe_callB (lenK K rfl) (by rfl) B.len PySem.boot_len (pa_cons (pv 1) pa_nil)) (nomark _))
 (pss_cons ps_never
 pss_nil)
 pss_nil)
 (pss_cons (ps_if (PW.pt (pw_or (pt_cmpR (neK K rfl hr.units) (pe_callB (lenK K rfl) (by rfl) B.len PySem.boot_len (pa_cons (pv 2) pa_nil)) (pe_callB (lenK K rfl) (by rfl) B.len PySem.boot_len (pa_cons (pv 1) pa_nil)) (nomark _)) (pw_or1 (pt_cmpR (neK K rfl hr.units) (pe_lenSg rfl B.len B.set (pv 2)) (pe_callB (lenK K rfl) (by rfl) B.len PySem.boot_len (pa_cons (pv 2) pa_nil)) (nomark _)))))
 (pss_cons ps_never
 pss_nil)
 pss_nil)
 pss_nil)))), ?_⟩
    refine go_st (σ := [some (.ref s), none, none]) rfl ?_
    wtm_at "r"
    refine bT (by wtm_at "dec") ?_
    wtm_at "r"
    refine bF (by wtm_at "dec") ?_
    wtm_at "r"
    refine wp_lenSg ?_
    wtm_at "r"
    refine ⟨by omega, ?_⟩
    wtm_at "r"
    refine bF (by wtm_at "dec") ?_
    wtm_at "r"
    refine bF (by wtm_at "dec") ?_
    wtm_at "r"
    refine wp_lenSg ?_
    wtm_at "r"
    refine ⟨by omega, ?_⟩
    wtm_at "r"
    refine bF (by wtm_at "dec") ?_
    wtm_at "r"
    exact k.out (exr H)
abbrev s_need_tape : Stmt := topS 11
abbrev n_need_tape : List Str := ["sets", "tape", "at", "code"]
theorem sc_need_tape : FnScope n_need_tape ["sets", "tape"] (defScope s_need_tape) := ⟨rfl, rfl, rfl, by decide +kernel, rfl, by decide +kernel, by decide +kernel⟩

def sp_need_tape (K : PySem.W.Frag) : Sp := fun vs H Q _ => ∃ (s t : Addr) (A B : List Nat) (cs : List Int), vs = [.ref s, .ref t] ∧ SetsAt K H s A B ∧ SqL K H t (il cs) ∧ A.length ≤ 10 ∧ CodesOk A.length cs ∧ cs.length ≤ 200 ∧ RetV .non H Q
theorem pm_need_tape (D : DefAt K mg "need_tape" s_need_tape) (B : Bl mg) (c_MOST_CODES : ∃ t, mg "MOST_CODES" = some (.int 200 t)) : Pm P w K mg base CX0 1 "need_tape" ["sets", "tape"] (sp_need_tape K) := by
  obtain ⟨f, fd, F, hm⟩ := D
  refine ⟨f, fd, ?_, hm, F.kp, F.binds fun _ _ _ _ _ _ us hl => match us, hl with | [_, _], _ => rfl⟩
  refine F.ok sc_need_tape (fun vs H Q E h => ?_) (fun cdv A outer s H vs Q E hr h => ?_)
  · obtain ⟨_, _, _, _, _, rfl, _⟩ := h
    rfl
  · obtain ⟨s, t, A', B', cs, rfl, hS, hT, nL, hc, cl, k⟩ := h
    refine ⟨_, (pss_cons (ps_for PassesOwn.never rfl (piE K rfl B.enumerate (pa_cons (pv 1) pa_nil)) (pgT K rfl (n := 2) rfl (pgs_cons (pg_name (i := 2) sc_need_tape.nd rfl (Or.inl rfl)) (pgs_cons (pg_name (i := 3) sc_need_tape.nd rfl (Or.inl rfl)) pgs_nil)))
 (pss_cons (ps_if (PW.pt (pw_or (pt_cmpR op_ge (pv 2) (pe_cst c_MOST_CODES) (nomark _)) (pw_or1 (pt_not (pt_chain op_le op_lt pe_int (pv 3) (pe_op op_addP (pe_callB (lenK K rfl) (by rfl) B.len PySem.boot_len (pa_cons (pe_ix (ixK K rfl) (pv 0) pe_int (fun _ _ => rfl)) pa_nil)) pe_int))))))
 (pss_cons ps_never
 pss_nil)
 pss_nil)
 pss_nil))
 pss_nil), ?_⟩
    refine go_st (σ := [some (.ref s), some (.ref t), none, none]) rfl ?_
    refine go_forE (fun i σ F => ∃ x y, σ = [some (.ref s), some (.ref t), x, y] ∧ Ex H F) ?_
    wtm_at "r"
    refine ⟨t, il cs, rfl, hT, ⟨none, none, rfl, exr H⟩, fun i σ F hi ⟨_, _, _, e⟩ => ex_l e hT, ?_, ?_⟩
    · rintro i y σ F p hy hp ⟨x0, y0, rfl, e⟩
      obtain ⟨c, hcy, rfl, hmem⟩ := il_at hy
      have hcc := hc c hmem
      have hi : i < cs.length := (List.getElem?_eq_some_iff.mp hcy).1
      have hS2 := ex_t (e.trans (ex_new (u := .tup [.int (i : Nat), .int c]) hp)) hS
      wtm_at "r"
      refine bF (by wtm_at "dec") ?_
      wtm_at "r"
      refine bT (by wtm_at "dec") ?_
      wtm_at "r"
      refine bF (by wtm_at "dec") ?_
      wtm_at "r"
      exact go_turn rfl ⟨_, _, rfl, e.trans (ex_new hp)⟩
    · rintro σ F ⟨_, _, rfl, e⟩
      exact k.out e
abbrev s_need_state : Stmt := topS 12
abbrev n_need_state : List Str := ["state"]
theorem sc_need_state : FnScope n_need_state ["state"] (defScope s_need_state) := ⟨rfl, rfl, rfl, by decide +kernel, rfl, by decide +kernel, by decide +kernel⟩

def sp_need_state (K : PySem.W.Frag) : Sp := fun vs H Q _ => ∃ (st : Int), vs = [.int st] ∧ StOk st ∧ RetV .non H Q
theorem pm_need_state (D : DefAt K mg "need_state" s_need_state) : Pm P w K mg base CX0 1 "need_state" ["state"] (sp_need_state K) := by
  obtain ⟨f, fd, F, hm⟩ := D
  refine ⟨f, fd, ?_, hm, F.kp, F.binds fun _ _ _ _ _ _ us hl => match us, hl with | [_], _ => rfl⟩
  refine F.ok sc_need_state (fun vs H Q E h => ?_) (fun cdv A outer s H vs Q E hr h => ?_)
  · obtain ⟨_, rfl, _⟩ := h
    rfl
  · obtain ⟨st, rfl, hst, k⟩ := h
    refine ⟨_, (pss_cons (ps_if (pt_cmpR (niK K rfl) (pv 0) (pe_tup (pa_cons pe_int (pa_cons pe_int pa_nil))) (by rfl))
 (pss_cons ps_never
 pss_nil)
 pss_nil)
 pss_nil), ?_⟩
    refine go_st (σ := [some (.int st)]) rfl ?_
    wtm_at "r"
    refine ⟨(by show 2 ≤ 100000; decide), fun p hp => ?_⟩
    refine wp_niT (SqT.of upd_same) rfl rfl ?_
    wtm_at "r"
    refine bF ?_ ?_
    · rcases hst with h | h <;> subst h <;> rfl
    wtm_at "r"
    exact k.out (ex_new hp)
abbrev s_need_all : Stmt := topS 13
abbrev n_need_all : List Str := ["sets", "tape", "state"]
theorem sc_need_all : FnScope n_need_all ["sets", "tape", "state"] (defScope s_need_all) := ⟨rfl, rfl, rfl, by decide +kernel, rfl, by decide +kernel, by decide +kernel⟩

def sp_need_all (K : PySem.W.Frag) : Sp := fun vs H Q _ => ∃ (s t : Addr) (A B : List Nat) (cs : List Int) (st : Int), vs = [.ref s, .ref t, .int st] ∧ SetsAt K H s A B ∧ SqL K H t (il cs) ∧ Good A B ∧ CodesOk A.length cs ∧ cs.length ≤ 200 ∧ StOk st ∧ RetV .non H Q
theorem wp_need_sets {o : Option Addr} {F : Hp} {Pq : V → Hp → Prop} {s : Addr} {A B : List Nat} {E : XK} (hS : SetsAt K F s A B) (g : Good A B) (q : Pq .non F) : Wp o (fun H Q => sp_need_sets K ([.ref s] ++ []) H Q E) F Pq :=
  fun H w Q k => ⟨s, A, B, rfl, w.t hS, g, RetV.use w q k⟩
theorem wp_need_tape {o : Option Addr} {F : Hp} {Pq : V → Hp → Prop} {s t : Addr} {A B : List Nat} {cs : List Int} {E : XK} (hS : SetsAt K F s A B) (hT : SqL K F t (il cs)) (g : A.length ≤ 10) (hc : CodesOk A.length cs) (cl : cs.length ≤ 200) (q : Pq .non F) :
    Wp o (fun H Q => sp_need_tape K ([.ref s, .ref t] ++ []) H Q E) F Pq := fun H w Q k => ⟨s, t, A, B, cs, rfl, w.t hS, w.l hT, g, hc, cl, RetV.use w q k⟩
theorem wp_need_state {o : Option Addr} {F : Hp} {Pq : V → Hp → Prop} {st : Int} {E : XK} (h : StOk st) (q : Pq .non F) : Wp o (fun H Q => sp_need_state K ([.int st] ++ []) H Q E) F Pq :=
  fun H w Q k => ⟨st, rfl, h, RetV.use w q k⟩
theorem wp_need_all {o : Option Addr} {F : Hp} {Pq : V → Hp → Prop} {s t : Addr} {A B : List Nat} {cs : List Int} {st : Int} {E : XK} (hS : SetsAt K F s A B) (hT : SqL K F t (il cs)) (g : Good A B) (hc : CodesOk A.length cs) (cl : cs.length ≤ 200) (h : StOk st) (q : Pq .non F) :
    Wp o (fun H Q => sp_need_all K ([.ref s, .ref t, .int st] ++ []) H Q E) F Pq := fun H w Q k => ⟨s, t, A, B, cs, st, rfl, w.t hS, w.l hT, g, hc, cl, h, RetV.use w q k⟩
theorem wp_gone {o : Option Addr} {F : Hp} {Pq : V → Hp → Prop} {s t : Addr} {A B : List Nat} {cs : List Int} {st : Int} {E : XK} (hS : SetsAt K F s A B) (hT : SqL K F t (il cs)) (eL : B.length = A.length) (nL : A.length ≤ 10) (hc : CodesOk A.length cs) (cl : cs.length ≤ 1000) (h : StOk st)
    (q : ∀ p, F p = none → Pq (.ref p) (upd F p (.tup [.str (tx (gon A B cs st).1), .int (gon A B cs st).2]))) :
    Wp o (fun H Q => sp_gone K ([.ref s, .ref t, .int st] ++ []) H Q E) F Pq := fun H w Q k => ⟨s, t, A, B, cs, st, rfl, w.t hS, w.l hT, eL, nL, hc, cl, h, RetN.use w q k⟩
theorem pm_need_all (D : DefAt K mg "need_all" s_need_all) (g_need_sets : Pm P w K mg base CX0 1 "need_sets" ["sets"] (sp_need_sets K)) (g_need_tape : Pm P w K mg base CX0 1 "need_tape" ["sets", "tape"] (sp_need_tape K))
    (g_need_state : Pm P w K mg base CX0 1 "need_state" ["state"] (sp_need_state K)) : Pm P w K mg base CX0 2 "need_all" ["sets", "tape", "state"] (sp_need_all K) := by
  obtain ⟨f, fd, F, hm⟩ := D
  refine ⟨f, fd, ?_, hm, F.kp, F.binds fun _ _ _ _ _ _ us hl => match us, hl with | [_, _, _], _ => rfl⟩
  refine F.ok sc_need_all (fun vs H Q E h => ?_) (fun cdv A outer s H vs Q E hr h => ?_)
  · obtain ⟨_, _, _, _, _, _, rfl, _⟩ := h
    rfl
  · obtain ⟨s, t, A', B', cs, st, rfl, hS, hT, g, hc, cl, hst, k⟩ := h
    refine ⟨_, (pss_cons (ps_expr (pe_pm g_need_sets (hr.mono (by decide)) pass0 (pa_cons (pv 0) pa_nil)))
 (pss_cons (ps_expr (pe_pm g_need_tape (hr.mono (by decide)) pass0 (pa_cons (pv 0) (pa_cons (pv 1) pa_nil))))
 (pss_cons (ps_expr (pe_pm g_need_state (hr.mono (by decide)) pass0 (pa_cons (pv 2) pa_nil)))
 pss_nil))), ?_⟩
    refine go_st (σ := [some (.ref s), some (.ref t), some (.int st)]) rfl ?_
    wtm_at "r"
    refine wp_need_sets hS g ?_
    wtm_at "r"
    refine wp_need_tape hS hT g.n10 hc cl ?_
    wtm_at "r"
    refine wp_need_state hst ?_
    wtm_at "r"
    exact k.out (exr H)
abbrev s_read : Stmt := topS 16
abbrev n_read : List Str := ["sets", "tape", "state"]
theorem sc_read : FnScope n_read ["sets", "tape", "state"] (defScope s_read) := ⟨rfl, rfl, rfl, by decide +kernel, rfl, by decide +kernel, by decide +kernel⟩

def sp_read (K : PySem.W.Frag) : Sp := fun vs H Q _ => ∃ (s t : Addr) (A B : List Nat) (cs : List Int) (st : Int), vs = [.ref s, .ref t, .int st] ∧ SetsAt K H s A B ∧ SqL K H t (il cs) ∧ Good A B ∧ CodesOk A.length cs ∧ cs.length ≤ 200 ∧ StOk st ∧
  RetN (.tup [.str (tx (gon A B cs st).1), .int (gon A B cs st).2]) H Q
theorem wp_read {o : Option Addr} {F : Hp} {Pq : V → Hp → Prop} {s t : Addr} {A B : List Nat} {cs : List Int} {st : Int} {E : XK} (hS : SetsAt K F s A B) (hT : SqL K F t (il cs)) (g : Good A B) (hc : CodesOk A.length cs) (cl : cs.length ≤ 200) (h : StOk st)
    (q : ∀ p, F p = none → Pq (.ref p) (upd F p (.tup [.str (tx (gon A B cs st).1), .int (gon A B cs st).2]))) :
    Wp o (fun H Q => sp_read K ([.ref s, .ref t, .int st] ++ []) H Q E) F Pq := fun H w Q k => ⟨s, t, A, B, cs, st, rfl, w.t hS, w.l hT, g, hc, cl, h, RetN.use w q k⟩
theorem pm_read (D : DefAt K mg "read" s_read) (g_need_all : Pm P w K mg base CX0 2 "need_all" ["sets", "tape", "state"] (sp_need_all K)) (g_gone : Pm P w K mg base CX0 1 "gone" ["sets", "tape", "state"] (sp_gone K)) :
    Pm P w K mg base CX0 3 "read" ["sets", "tape", "state"] (sp_read K) := by
  obtain ⟨f, fd, F, hm⟩ := D
  refine ⟨f, fd, ?_, hm, F.kp, F.binds fun _ _ _ _ _ _ us hl => match us, hl with | [_, _, _], _ => rfl⟩
  refine F.ok sc_read (fun vs H Q E h => ?_) (fun cdv A outer s H vs Q E hr h => ?_)
  · obtain ⟨_, _, _, _, _, _, rfl, _⟩ := h
    rfl
  · obtain ⟨s, t, A', B', cs, st, rfl, hS, hT, g, hc, cl, hst, k⟩ := h
    refine ⟨_, (pss_cons (ps_expr (pe_pm g_need_all (hr.mono (by decide)) pass0 (pa_cons (pv 0) (pa_cons (pv 1) (pa_cons (pv 2) pa_nil)))))
 (pss_cons (ps_ret (pe_pm g_gone (hr.mono (by decide)) pass0 (pa_cons (pv 0) (pa_cons (pv 1) (pa_cons (pv 2) pa_nil)))))
 pss_nil)), ?_⟩
    refine go_st (σ := [some (.ref s), some (.ref t), some (.int st)]) rfl ?_
    wtm_at "r"
    refine wp_need_all hS hT g hc cl hst ?_
    wtm_at "r"
    refine wp_gone hS hT g.eq g.n10 hc (by omega) hst fun p hp => ?_
    exact k.out (ex_new hp) hp upd_same
end
section
variable {P : Program} {w : World} {K : PySem.W.Frag} {mg : Str → Option Value} {base : Heap}
abbrev s_q_dice : Stmt := topS 40
abbrev n_q_dice : List Str := ["_law_script", "_law_k", "_law_found", "_law_cell"]
theorem sc_q_dice : FnScope n_q_dice ["_law_script", "_law_k"] (defScope s_q_dice) := ⟨rfl, rfl, rfl, by decide +kernel, rfl, by decide +kernel, by decide +kernel⟩

def sp_dice (K : PySem.W.Frag) : Sp := fun vs H Q _ => ∃ (a : Addr) (k : Int) (ns : List Int), vs = [.ref a, .int k] ∧ SqL K H a (il ns) ∧ ns.length ≤ 63 ∧ ∀ p H1, H p = none → Ex H H1 → Dc H1 p → Q (.ref p) H1
theorem il_take (ms : List Int) (c : Int) : il ms ++ [V.int c] = il (ms ++ [c]) := by simp
theorem pm_dice (D : DefAt K mg "_law_dice" s_q_dice) (B : Bl mg) : Pm P w K mg base CX0 1 "_law_dice" ["_law_script", "_law_k"] (sp_dice K) := by
  obtain ⟨f, fd, F, hm⟩ := D
  refine ⟨f, fd, ?_, hm, F.kp, F.binds fun _ _ _ _ _ _ us hl => match us, hl with | [_, _], _ => rfl⟩
  refine F.ok sc_q_dice (fun vs H Q E h => ?_) (fun cdv A outer s H vs Q E hr h => ?_)
  · obtain ⟨_, _, _, rfl, _⟩ := h
    rfl
  · obtain ⟨a, k0, ns, rfl, hA, hl, k⟩ := h
    refine ⟨_, (pss_cons (ps_set (i := 2) sc_q_dice.nd rfl (Or.inl rfl) (pv 1))
 (pss_cons (ps_for PassesOwn.never rfl (piL K rfl (pv 0)) (pg_name (i := 3) sc_q_dice.nd rfl (Or.inl rfl))
 (pss_cons (ps_set (i := 2) sc_q_dice.nd rfl (Or.inl rfl) (pe_op op_modN (pe_op op_addP (pe_op op_mulP (pv 2) pe_int) (pe_callB call_abs (by rfl) B.abs (by decide +kernel) (pa_cons (pv 3) pa_nil))) pe_int))
 pss_nil))
 (pss_cons (ps_ret (pe_op op_addP (pe_lst (pa_cons (pv 2) (pa_cons pe_int pa_nil))) (pe_lc (own := [("_law_cell", 3)]) (g := gName 3) rfl sc_q_dice.nd (piL K rfl (pv 0)) (blkOk_by (N := n_q_dice) (sc := defScope s_q_dice) (by decide +kernel)) (fun _ _ _ _ _ => pg_name (i := 3) sc_q_dice.nd rfl (Or.inl rfl)) (fun _ _ _ _ _ => (pts_one (pt_cmpR op_ge (pv 3) (pe_op op_pow pe_int pe_int) (nomark _)))) (fun _ _ _ _ _ => (pv 3)))))
 pss_nil))), ?_⟩
    refine go_st (σ := [some (.ref a), some (.int k0), none, none]) rfl ?_
    wtm_at "r"
    refine go_forL (fun i σ F => ∃ (x : Int) (y : Option V), σ = [some (.ref a), some (.int k0), some (.int x), y] ∧ Ex H F) ?_
    wtm_at "r"
    refine ⟨a, il ns, rfl, hA, ⟨k0, none, rfl, exr H⟩, fun i σ F hi ⟨_, _, _, e⟩ => ex_l e hA, ?_, ?_⟩
    · rintro i y σ F hy ⟨x, y0, rfl, e⟩
      obtain ⟨c, hcy, rfl, hmem⟩ := il_at hy
      wtm_at "r"
      refine wp_mulI (.inr ⟨by decide, by decide⟩) ?_
      wtm_at "r"
      refine wp_abs ?_
      wtm_at "r"
      refine wp_i (by decide) ?_
      wtm_at "r"
      exact go_turn rfl ⟨_, _, rfl, e⟩
    · rintro σ F ⟨x, y0, rfl, e⟩
      wtm_at "r"
      refine ⟨(by show 2 ≤ 100000; decide), fun p hp => ?_⟩
      refine wp_lcL (fun _ => rfl) ?_
      wtm_at "r"
      refine ⟨a, il ns, rfl, ex_l (e.trans (ex_new hp)) hA, fun Dl hD => ?_⟩
      have npd := fr_ne hD
      refine ⟨fun i acc F2 => ∃ ms : List Int, acc = il ms ∧ ms.length ≤ i ∧ Ex H F2 ∧ F2 p = some (.lst [.int x, .int 0]), ⟨[], rfl, Nat.le_refl _, (e.trans (ex_new hp)).trans (ex_new hD), by wtm_at "at"⟩, fun i acc F2 ⟨_, _, _, e2, _⟩ => ex_l e2 hA, ?_, ?_⟩
      · rintro i y acc F2 hy q2 ⟨ms, rfl, hms, e2, hp2⟩
        obtain ⟨c, hcy, rfl, hmem⟩ := il_at hy
        have hi : i < ns.length := (List.getElem?_eq_some_iff.mp hcy).1
        show Wp _ _ _ _
        wtm_at "r"
        refine wp_i ⟨by decide, by decide, by decide⟩ ?_
        wtm_at "r"
        refine ⟨fun _ => ?_, fun _ => ⟨q2, ms, rfl, by omega, e2, hp2⟩⟩
        wtm_at "r"
        have hDH : H Dl = none := (e.trans (ex_new hp)).free hD
        refine ⟨q2, by rw [List.length_map]; omega, ms ++ [c], il_take ms c, by rw [List.length_append, List.length_singleton]; omega, ex_mut e2 hDH, ?_⟩
        rw [upd_ne npd.symm]
        exact hp2
      · rintro acc F2 q2 ⟨ms, rfl, hms, e2, hp2⟩
        rw [List.length_map] at hms
        refine wp_addL hp2 q2 (by rw [List.length_map]; show 2 + _ ≤ _; omega) fun r hr2 => ?_
        intro H3 w3
        refine k r H3 (e2.free hr2) (e2.trans ((ex_new hr2).trans w3.ex)) ⟨x :: 0 :: ms, ?_, ?_, ?_⟩
        · exact w3.ex _ _ upd_same
        · simp
        · simp only [List.length_cons]; omega
abbrev s_q_off : Stmt := topS 41
abbrev n_q_off : List Str := ["_law_d", "_law_most", "_law_found"]
theorem sc_q_off : FnScope n_q_off ["_law_d", "_law_most"] (defScope s_q_off) := ⟨rfl, rfl, rfl, by decide +kernel, rfl, by decide +kernel, by decide +kernel⟩

def sp_off : Sp := fun vs H Q _ => ∃ (d : Addr) (m : Int), vs = [.ref d, .int m] ∧ 0 < m ∧ m < 1000000 ∧ Dc H d ∧ ∀ (r : Nat) (H1 : Hp), (r : Int) < m → Ex (rm H d) H1 → Dc H1 d → Q (.int (r : Int)) H1
theorem wp_off {d : Addr} {F : Hp} {Pq : V → Hp → Prop} {m : Int} {E : XK} (h0 : 0 < m) (h1 : m < 1000000) (q : ∀ r : Nat, (r : Int) < m → Pq (.int (r : Int)) F) : Wp (some d) (fun H Q => sp_off ([.ref d, .int m] ++ []) H Q E) F Pq := fun H w Q k =>
  ⟨d, m, rfl, h0, h1, (w.dc d rfl).2, fun r H1 hr e hu => k _ _ F ⟨(ex_to_rm w.ex (w.dc d rfl).1).trans e, fun b z => by cases z; exact ⟨(w.dc d rfl).1, hu⟩⟩ (q r hr)⟩
theorem fmod_nat {x m : Int} (h : 0 < m) : ∃ r : Nat, Int.fmod x m = (r : Int) ∧ (r : Int) < m := by
  refine ⟨(x % m).toNat, ?_, ?_⟩
  · rw [Int.fmod_eq_emod_of_nonneg _ (by omega)]
    have := Int.emod_nonneg x (show m ≠ 0 by omega)
    omega
  · have h1 := Int.emod_lt_of_pos x h
    have h2 := Int.emod_nonneg x (show m ≠ 0 by omega)
    omega
theorem pm_off (D : DefAt K mg "_law_off" s_q_off) (B : Bl mg) : Pm P w K mg base CX0 1 "_law_off" ["_law_d", "_law_most"] sp_off := by
  obtain ⟨f, fd, F, hm⟩ := D
  refine ⟨f, fd, ?_, hm, F.kp, F.binds fun _ _ _ _ _ _ us hl => match us, hl with | [_, _], _ => rfl⟩
  refine F.ok sc_q_off (fun vs H Q E h => ?_) (fun cdv A outer s H vs Q E hr h => ?_)
  · obtain ⟨_, _, rfl, _⟩ := h
    rfl
  · obtain ⟨d, m, rfl, m0, m1, hd, k⟩ := h
    obtain ⟨ns, hd, l2, l70⟩ := hd
    obtain ⟨n0, n1, ns, rfl⟩ : ∃ n0 n1 r, ns = n0 :: n1 :: r := by
      match ns, l2 with
      | a :: b :: r, _ => exact ⟨a, b, r, rfl⟩
    refine ⟨_, (Evl.pss_cut (ps_if (PW.pt (pw_and (pt_cmpR (eqK K rfl hr.units) (pe_ix (ixK K rfl) (pv 0) pe_int (fun _ _ => rfl)) pe_int (nomark _)) (pw_and1 (pt_cmpR op_gt (pe_callB (lenK K rfl) (by rfl) B.len PySem.boot_len (pa_cons (pv 0) pa_nil)) pe_int (nomark _)))))
 (pss_cons (ps_asg (bmK K rfl PySem.F.plainAttrs_list PySem.F.slot_list_pop PySem.F.type_list_pop mt_popAt (pv 0) (pa_cons pe_int pa_nil)) (pg_sub (pv 0) pe_int set_list))
 pss_nil)
 pss_nil)
 (pss_cons (ps_if (pt_cmpR op_gt (pe_ix (ixK K rfl) (pv 0) pe_int (fun _ _ => rfl)) pe_int (nomark _))
 (pss_cons (ps_set (i := 2) sc_q_off.nd rfl (Or.inl rfl) (pe_op op_modN (pe_ix (ixK K rfl) (pv 0) pe_int (fun _ _ => rfl)) (pv 1)))
 (pss_cons (ps_asg (pe_op op_fdivN (pe_ix (ixK K rfl) (pv 0) pe_int (fun _ _ => rfl)) (pv 1)) (pg_sub (pv 0) pe_int set_list))
 (pss_cons (ps_ret (pv 2))
 pss_nil)))
 pss_nil)
 (pss_cons (ps_asg (pe_op op_modN (pe_op op_addP (pe_op op_mulP (pe_ix (ixK K rfl) (pv 0) pe_int (fun _ _ => rfl)) pe_int) pe_int) pe_int) (pg_sub (pv 0) pe_int set_list))
 (pss_cons (ps_ret (pe_op op_modN (pe_op op_fdivN (pe_ix (ixK K rfl) (pv 0) pe_int (fun _ _ => rfl)) pe_int) (pv 1)))
 pss_nil)))), ?_⟩
    refine go_st (σ := [some (.ref d), some (.int m), none]) rfl ?_
    refine go_cut (fun σ F => ∃ n0 n1 ns, σ = [some (.ref d), some (.int m), none] ∧ F = upd H d (.lst (il (n0 :: n1 :: ns))) ∧ ns.length ≤ 68) ?_ ?_
    · wtm_at "r"
      have fin : ∀ F1, F1 = H → Go none tNext { nx := Cl none fun σ F => ∃ n0 n1 ns, σ = [some (.ref d), some (.int m), none] ∧ F = upd H d (.lst (il (n0 :: n1 :: ns))) ∧ ns.length ≤ 68, rt := Q } [some (.ref d), some (.int m), none] F1 := by
        rintro F1 rfl
        refine go_turn rfl ⟨n0, n1, ns, rfl, ?_, by simp only [List.length_cons] at l70; omega⟩
        funext b
        by_cases e : b = d
        · subst e; rw [upd_same]; exact hd
        · rw [upd_ne e]
      refine wp_ixL (SqL.of hd) (atNat (by decide) rfl) ?_
      wtm_at "r"
      refine ⟨fun _ => ?_, fun _ => bF rfl (fin _ rfl)⟩
      wtm_at "r"
      refine ⟨fun h2 => ?_, fun _ => fin _ rfl⟩
      have h2 := of_decide_eq_true h2
      obtain ⟨n2, ns, rfl⟩ : ∃ n2 r, ns = n2 :: r := by
        match ns, h2 with
        | [], h2 => simp at h2
        | a :: r, _ => exact ⟨a, r, rfl⟩
      wtm_at "r"
      refine wp_bmL ?_
      wtm_at "r"
      refine ⟨d, _, rfl, SqL.of hd, ?_⟩
      wtm_at "r"
      refine wp_popAt (j := 2) (y := .int n2) hd (by simp only [List.length_map]; omega) rfl ?_
      refine wp_gSetL ?_
      wtm_at "r"
      refine ⟨d, _, 1, 1, rfl, rfl, upd_same, ?_, ?_⟩
      · exact ixN_nat (j := 1) (by simp)
      · refine go_turn rfl ⟨n0, n2, ns, rfl, ?_, by simp only [List.length_cons] at l70; omega⟩
        rw [upd_upd]
        rfl
    · rintro σ F ⟨n0, n1, ns, rfl, rfl, hl⟩
      have kk : ∀ (r : Nat) (a b : Int) (F1 : Hp), (r : Int) < m → F1 = upd H d (.lst (il (a :: b :: ns))) → ∀ H1, Wd none F1 H1 → Q (.int (r : Int)) H1 := by
        rintro r a b F1 hr rfl H1 w1
        refine k r H1 hr (fun c u e => ?_) ⟨a :: b :: ns, w1.ex _ _ upd_same, by simp, by simp only [List.length_cons]; omega⟩
        have nd : c ≠ d := fun z => by rw [z, rm_same] at e; cases e
        rw [rm_ne nd] at e
        refine w1.ex _ _ ?_
        rw [upd_ne nd]
        exact e
      obtain ⟨r1, e1, l1⟩ := fmod_nat (x := n1) m0
      wtm_at "r"
      refine wp_ixL (SqL.of upd_same) (atNat (by decide) rfl) ?_
      wtm_at "r"
      refine ⟨fun _ => ?_, fun _ => ?_⟩
      · wtm_at "r"
        refine wp_ixL (SqL.of upd_same) (atNat (by decide) rfl) ?_
        wtm_at "r"
        refine wp_i (by omega) ?_
        wtm_at "r"
        refine wp_ixL (SqL.of upd_same) (atNat (by decide) rfl) ?_
        wtm_at "r"
        refine wp_i ⟨by omega, by omega⟩ ?_
        refine wp_gSetL ?_
        wtm_at "r"
        refine ⟨d, _, 1, 1, rfl, rfl, upd_same, ixN_nat (j := 1) (by simp), ?_⟩
        wtm_at "r"
        rw [e1]
        exact kk r1 n0 (n1.fdiv m) _ l1 (by rw [upd_upd]; rfl)
      · wtm_at "r"
        refine wp_ixL (SqL.of upd_same) (atNat (by decide) rfl) ?_
        wtm_at "r"
        refine wp_mulI (.inr ⟨by decide, by decide⟩) ?_
        wtm_at "r"
        refine wp_i (by decide) ?_
        refine wp_gSetL ?_
        wtm_at "r"
        refine ⟨d, _, 0, 0, rfl, rfl, upd_same, ixN_nat (j := 0) (by simp), ?_⟩
        wtm_at "r"
        refine wp_ixL (SqL.of upd_same) (atNat (by decide) rfl) ?_
        wtm_at "r"
        refine wp_i ⟨by decide, by decide⟩ ?_
        wtm_at "r"
        refine wp_i (by omega) ?_
        obtain ⟨r2, e2, l2⟩ := fmod_nat (x := Int.fdiv (Int.fmod (n0 * 48271 + 11) 2147483647) 64) m0
        rw [e2]
        exact kk r2 (Int.fmod (n0 * 48271 + 11) 2147483647) n1 _ l2 (by rw [upd_upd]; rfl)
end
section
variable {P : Program} {w : World} {K : PySem.W.Frag} {mg : Str → Option Value} {base : Heap}
theorem map_erase {α β : Type} (f : α → β) : ∀ (l : List α) (i : Nat), (l.map f).eraseIdx i = (l.eraseIdx i).map f
  | [], _ => rfl
  | _ :: _, 0 => rfl
  | a :: r, i + 1 => by
    show f a :: (r.map f).eraseIdx i = f a :: (r.eraseIdx i).map f
    rw [map_erase f r i]
theorem perm_erase {α : Type} : ∀ {l : List α} {i : Nat} (h : i < l.length), (l[i] :: l.eraseIdx i).Perm l
  | a :: r, 0, _ => List.Perm.refl _
  | a :: r, i + 1, h => by
    have h2 : i < r.length := by simpa using h
    exact (List.Perm.swap a r[i] _).trans ((perm_erase h2).cons a)
abbrev s_q_mixed : Stmt := topS 43
abbrev n_q_mixed : List Str := ["_law_d", "_law_row", "_law_left", "_law_found"]
theorem sc_q_mixed : FnScope n_q_mixed ["_law_d", "_law_row"] (defScope s_q_mixed) := ⟨rfl, rfl, rfl, by decide +kernel, rfl, by decide +kernel, by decide +kernel⟩

def permOf (l : List Nat) (u : HO) : Prop := ∃ l1 : List Nat, l1.Perm l ∧ u = .lst (l1.map sg)
def sp_mixed (K : PySem.W.Frag) : Sp := fun vs H Q _ => ∃ (d r : Addr) (l : List Nat), vs = [.ref d, .ref r] ∧ Dc H d ∧ SqL K (rm H d) r (l.map sg) ∧ l.length ≤ 1000 ∧ (∀ c ∈ l, c < 128) ∧ RetND d (permOf l) H Q
theorem wp_mixed {d r : Addr} {F : Hp} {Pq : V → Hp → Prop} {l : List Nat} {E : XK} (h : SqL K F r (l.map sg)) (hl : l.length ≤ 1000) (hc : ∀ c ∈ l, c < 128) (q : ∀ (p : Addr) (l1 : List Nat), F p = none → l1.Perm l → Pq (.ref p) (upd F p (.lst (l1.map sg)))) :
    Wp (some d) (fun H Q => sp_mixed K ([.ref d, .ref r] ++ []) H Q E) F Pq := fun H w Q k =>
  ⟨d, r, l, rfl, (w.dc d rfl).2, ex_l (ex_to_rm w.ex (w.dc d rfl).1) h, hl, hc, RetND.use w (fun p u n ⟨l1, hp, e⟩ => by subst e; exact q p l1 n hp) k⟩
theorem pm_mixed (D : DefAt K mg "_law_mixed" s_q_mixed) (B : Bl mg) (g_q_off : Pm P w K mg base CX0 1 "_law_off" ["_law_d", "_law_most"] sp_off) : Pm P w K mg base CX0 2 "_law_mixed" ["_law_d", "_law_row"] (sp_mixed K) := by
  obtain ⟨f, fd, F, hm⟩ := D
  refine ⟨f, fd, ?_, hm, F.kp, F.binds fun _ _ _ _ _ _ us hl => match us, hl with | [_, _], _ => rfl⟩
  refine F.ok sc_q_mixed (fun vs H Q E h => ?_) (fun cdv A outer s H vs Q E hr h => ?_)
  · obtain ⟨_, _, _, rfl, _⟩ := h
    rfl
  · obtain ⟨d, r, l, rfl, hd, hR, hl, hc, k⟩ := h
    refine ⟨_, (pss_cons (ps_set (i := 2) sc_q_mixed.nd rfl (Or.inl rfl) (pe_callTy (listK K rfl rfl) (by rfl) B.list (by decide +kernel) (pa_cons (pv 1) pa_nil)))
 (pss_cons (ps_set (i := 3) sc_q_mixed.nd rfl (Or.inl rfl) (pe_lst pa_nil))
 (pss_cons (ps_while PassesOwn.never (pt_cmpR (neK K rfl hr.units) (pv 2) (pe_lst pa_nil) (nomark _))
 (pss_cons (ps_expr (bmK K rfl PySem.F.plainAttrs_list PySem.F.slot_list_append PySem.F.type_list_append mt_append (pv 3) (pa_cons (bmK K rfl PySem.F.plainAttrs_list PySem.F.slot_list_pop PySem.F.type_list_pop mt_popAt (pv 2) (pa_cons (pe_pm g_q_off (hr.mono (by decide)) pass0 (pa_cons (pv 0) (pa_cons (pe_callB (lenK K rfl) (by rfl) B.len PySem.boot_len (pa_cons (pv 2) pa_nil)) pa_nil))) pa_nil)) pa_nil)))
 pss_nil))
 (pss_cons (ps_ret (pv 3))
 pss_nil)))), ?_⟩
    refine go_stD (σ := [some (.ref d), some (.ref r), none, none]) hd rfl ?_
    wtm_at "r"
    refine wp_listL hR fun p hp => ?_
    wtm_at "r"
    refine ⟨Nat.zero_le _, fun q hq => ?_⟩
    wtm_at "r"
    have npq := fr_ne hq
    refine go_while (fun m σ F => ∃ la lf : List Nat, σ = [some (.ref d), some (.ref r), some (.ref p), some (.ref q)] ∧ Ex (rm H d) F ∧ F p = some (.lst (la.map sg)) ∧ F q = some (.lst (lf.map sg)) ∧ (la ++ lf).Perm l ∧ m = la.length)
      l.length ⟨l, [], rfl, (ex_new hp).trans (ex_new hq), by wtm_at "at", upd_same, by rw [List.append_nil], rfl⟩ ?_
    rintro m σ F ⟨la, lf, rfl, e, h1, h2, pe, rfl⟩
    have lsum : la.length + lf.length = l.length := by rw [← List.length_append]; exact pe.length_eq
    wtm_at "r"
    refine ⟨Nat.zero_le _, fun z hz => ?_⟩
    refine wp_neS0 (SqL.of (at_ne h1 hz)) (SqL.of upd_same) (fun c h => hc c (pe.mem_iff.mp (List.mem_append_left _ h))) ?_
    wtm_at "r"
    refine ⟨fun hne => ?_, fun heq => ?_⟩
    · have hne : la ≠ [] := by simpa using hne
      have hpos : 0 < la.length := List.length_pos_iff.mpr hne
      wtm_at "r"
      refine wp_bmL ?_
      wtm_at "r"
      refine ⟨q, _, rfl, SqL.of (at_ne h2 hz), ?_⟩
      wtm_at "r"
      refine wp_bmL ?_
      wtm_at "r"
      refine ⟨p, _, rfl, SqL.of (at_ne h1 hz), ?_⟩
      wtm_at "r"
      rw [List.length_map]
      refine wp_off (by omega) (by omega) fun i hi => ?_
      have hi : i < la.length := by omega
      wtm_at "r"
      refine wp_popAt (y := sg la[i]) (at_ne h1 hz) (by rw [List.length_map]; omega) (by rw [List.getElem?_map, List.getElem?_eq_getElem hi]; rfl) ?_
      wtm_at "r"
      refine wp_append (xs := lf.map sg) (by rw [upd_ne npq]; exact at_ne h2 hz) (by rw [List.length_map]; omega) ?_
      wtm_at "r"
      have rp : rm H d p = none := hp
      have rq : rm H d q = none := (ex_new hp).free hq
      refine go_turn rfl ⟨(la.eraseIdx i).length, by rw [List.length_eraseIdx, if_pos hi]; omega, la.eraseIdx i, lf ++ [la[i]], rfl, ex_mut (ex_mut (e.trans (ex_new hz)) rp) rq, ?_, ?_, ?_, rfl⟩
      · rw [upd_ne npq.symm, upd_same, map_erase]
      · rw [upd_same, List.map_append]; rfl
      · refine List.Perm.trans ?_ pe
        refine List.Perm.trans (List.perm_append_comm_assoc _ _ _) ?_
        refine List.Perm.trans (List.Perm.append_left lf ?_) List.perm_append_comm
        refine List.Perm.trans List.perm_append_comm ?_
        exact perm_erase hi
    · have heq : la = [] := by simpa using heq
      subst heq
      wtm_at "r"
      rw [List.nil_append] at pe
      refine RetND.out k (e.trans (ex_new hz)) ((ex_new hp).free hq) (u := .lst (lf.map sg)) (at_ne h2 hz) ⟨lf, pe, rfl⟩
end
section
variable {P : Program} {w : World} {K : PySem.W.Frag} {mg : Str → Option Value} {base : Heap}
theorem cutV_take (xs : List V) (n : Nat) : cutV xs none (some (n : Int)) = xs.take n := by
  unfold cutV
  rw [HT.sIx_nat, HT.sIx_none, List.drop_zero, Nat.sub_zero]
  by_cases h : n ≤ xs.length
  · rw [Nat.min_eq_left h]
  · rw [Nat.min_eq_right (by omega), List.take_length, List.take_of_length_le (by omega)]
theorem cutV_drop (xs : List V) (n : Nat) : cutV xs (some (n : Int)) none = xs.drop n := by
  unfold cutV
  rw [HT.sIx_nat, HT.sIx_none]
  by_cases h : n ≤ xs.length
  · rw [Nat.min_eq_left h, List.take_of_length_le (by rw [List.length_drop]; omega)]
  · rw [Nat.min_eq_right (by omega), List.drop_of_length_le (by omega), List.drop_of_length_le (by omega)]
    simp
theorem cutN_take (xs : List Nat) (n : Nat) : cutN xs none (some (n : Int)) = xs.take n := by
  unfold cutN
  rw [HT.sIx_nat, HT.sIx_none, List.drop_zero, Nat.sub_zero]
  by_cases h : n ≤ xs.length
  · rw [Nat.min_eq_left h]
  · rw [Nat.min_eq_right (by omega), List.take_length, List.take_of_length_le (by omega)]
theorem cutN_drop (xs : List Nat) (n : Nat) : cutN xs (some (n : Int)) none = xs.drop n := by
  unfold cutN
  rw [HT.sIx_nat, HT.sIx_none]
  by_cases h : n ≤ xs.length
  · rw [Nat.min_eq_left h, List.take_of_length_le (by rw [List.length_drop]; omega)]
  · rw [Nat.min_eq_right (by omega), List.drop_of_length_le (by omega), List.drop_of_length_le (by omega)]
    simp
theorem nd_sub_len : ∀ {l m : List Nat}, l.Nodup → (∀ x ∈ l, x ∈ m) → l.length ≤ m.length
  | [], _, _, _ => Nat.zero_le _
  | a :: r, m, h, hs => by
    obtain ⟨h1, h2⟩ := List.nodup_cons.mp h
    have hm : a ∈ m := hs a List.mem_cons_self
    have ih : r.length ≤ (m.erase a).length := nd_sub_len h2 fun x hx => by
      have ne : x ≠ a := fun e => h1 (e ▸ hx)
      exact (List.mem_erase_of_ne ne).mpr (hs x (List.mem_cons_of_mem _ hx))
    rw [List.length_erase_of_mem hm] at ih
    have : 0 < m.length := List.length_pos_of_mem hm
    simp only [List.length_cons]
    omega
theorem ex_out {l m : List Nat} (h : l.Nodup) (hl : m.length < l.length) : l.filter (fun x => !decide (x ∈ m)) ≠ [] := fun e => by
  have : l.length ≤ m.length := nd_sub_len h fun x hx => by
    by_cases hm : x ∈ m
    · exact hm
    · have : x ∈ l.filter (fun x => !decide (x ∈ m)) := List.mem_filter.mpr ⟨hx, by simp [hm]⟩
      rw [e] at this
      cases this
  omega
/-- 22 signs, each once -/
def Pool (l : List Nat) : Prop := l.length = 22 ∧ l.Nodup ∧ ∀ c ∈ l, c < 128
theorem snoc_nd {l : List Nat} {c : Nat} (h : l.Nodup) (n : c ∉ l) : (l ++ [c]).Nodup := L2.nd_snoc h n
def Asc (l : List Nat) : Prop := ∀ c ∈ l, c < 128
def every : List Nat := [32, 33, 35, 36, 38, 39, 40, 41, 42, 43, 44, 45, 46, 47, 48, 49, 50, 51, 52, 53, 54, 55, 56, 57, 58, 59, 60, 61, 62, 63, 64, 65, 66, 67, 68, 69, 70, 71, 72, 73, 74, 75, 76, 77, 78, 79, 80, 81, 82, 83, 84, 85, 86, 87, 88, 89, 90, 91, 93, 94, 95, 96, 97, 98, 99, 100, 101, 102, 103, 104, 105, 106, 107, 108, 109, 110, 111, 112, 113, 114, 115, 116, 117, 118, 119, 120, 121, 122, 123, 124, 125, 126]
def setsOf (u : HO) : Prop := ∃ A B : List Nat, Good A B ∧ Asc A ∧ Asc B ∧ u = .tup [.str (tx A), .str (tx B)]
abbrev s_q_sets : Stmt := topS 45
abbrev n_q_sets : List Str := ["_law_d", "_law_many", "_law_signs", "_law_every", "_law_turn", "_law_one", "_law_often", "_law_other", "_law_left", "_law_k", "_law_some", "_law_sign"]
theorem sc_q_sets : FnScope n_q_sets ["_law_d"] (defScope s_q_sets) := ⟨rfl, rfl, rfl, by decide +kernel, rfl, by decide +kernel, by decide +kernel⟩

def sp_sets (K : PySem.W.Frag) : Sp := fun vs H Q _ => ∃ (d : Addr), vs = [.ref d] ∧ Dc H d ∧ RetND d setsOf H Q
theorem wp_sets {d : Addr} {F : Hp} {Pq : V → Hp → Prop} {E : XK} (q : ∀ (p : Addr) (A B : List Nat), F p = none → Good A B → Asc A → Asc B → Pq (.ref p) (upd F p (.tup [.str (tx A), .str (tx B)]))) :
    Wp (some d) (fun H Q => sp_sets K ([.ref d] ++ []) H Q E) F Pq := fun H w Q k =>
  ⟨d, rfl, (w.dc d rfl).2, RetND.use w (fun p u n ⟨A, B, hg, ha, hb, e⟩ => by subst e; exact q p A B n hg ha hb) k⟩
theorem pm_sets (D : DefAt K mg "_law_sets" s_q_sets) (B : Bl mg) (g_q_off : Pm P w K mg base CX0 1 "_law_off" ["_law_d", "_law_most"] sp_off) (g_q_mixed : Pm P w K mg base CX0 2 "_law_mixed" ["_law_d", "_law_row"] (sp_mixed K)) :
    Pm P w K mg base CX0 3 "_law_sets" ["_law_d"] (sp_sets K) := by
  obtain ⟨f, fd, F, hm⟩ := D
  refine ⟨f, fd, ?_, hm, F.kp, F.binds fun _ _ _ _ _ _ us hl => match us, hl with | [_], _ => rfl⟩
  refine F.ok sc_q_sets (fun vs H Q E h => ?_) (fun cdv A outer s H vs Q E hr h => ?_)
  · obtain ⟨_, rfl, _⟩ := h
    rfl
  · obtain ⟨d, rfl, hd, k⟩ := h
    refine ⟨_, (pss_cons (ps_set (i := 1) sc_q_sets.nd rfl (Or.inl rfl) (pe_ix (ixK K rfl) (pe_lst (pa_cons pe_int (pa_cons pe_int (pa_cons pe_int (pa_cons (pe_op op_addP pe_int (pe_pm g_q_off (hr.mono (by decide)) pass0 (pa_cons (pv 0) (pa_cons pe_int pa_nil)))) pa_nil))))) (pe_pm g_q_off (hr.mono (by decide)) pass0 (pa_cons (pv 0) (pa_cons pe_int pa_nil))) (fun _ _ => rfl)))
 (pss_cons (ps_set (i := 2) sc_q_sets.nd rfl (Or.inl rfl) (pe_strT (l := [97, 98, 99, 100, 101, 102, 103, 104, 105, 106, 32, 48, 49, 50, 51, 52, 53, 54, 46, 44, 45, 120]) (by decide +kernel)))
 (Evl.pss_cut (ps_if (pt_cmpR (eqK K rfl hr.units) (pe_pm g_q_off (hr.mono (by decide)) pass0 (pa_cons (pv 0) (pa_cons pe_int pa_nil))) pe_int (nomark _))
 (pss_cons (ps_set (i := 3) sc_q_sets.nd rfl (Or.inl rfl) (pe_strT (l := [32, 33, 35, 36, 38, 39, 40, 41, 42, 43, 44, 45, 46, 47, 48, 49, 50, 51, 52, 53, 54, 55, 56, 57, 58, 59, 60, 61, 62, 63, 64, 65, 66, 67, 68, 69, 70, 71, 72, 73, 74, 75, 76, 77, 78, 79, 80, 81, 82, 83, 84, 85, 86, 87, 88, 89, 90, 91, 93, 94, 95, 96, 97, 98, 99, 100, 101, 102, 103, 104, 105, 106, 107, 108, 109, 110, 111, 112, 113, 114, 115, 116, 117, 118, 119, 120, 121, 122, 123, 124, 125, 126]) (by decide +kernel)))
 (pss_cons (ps_set (i := 2) sc_q_sets.nd rfl (Or.inl rfl) (peJoin K rfl (pe_strT (l := []) (by decide +kernel)) (pe_slice (slK K rfl) (pe_pm g_q_mixed (hr.mono (by decide)) pass0 (pa_cons (pv 0) (pa_cons (pe_callTy (listK K rfl rfl) (by rfl) B.list (by decide +kernel) (pa_cons (pv 3) pa_nil)) pa_nil))) po_none (po_some pe_int))))
 pss_nil))
 pss_nil)
 (pss_cons (ps_set (i := 4) sc_q_sets.nd rfl (Or.inl rfl) (pe_pm g_q_off (hr.mono (by decide)) pass0 (pa_cons (pv 0) (pa_cons pe_int pa_nil))))
 (pss_cons (ps_set (i := 2) sc_q_sets.nd rfl (Or.inl rfl) (pe_op op_addP (pe_slice (slK K rfl) (pv 2) (po_some (pv 4)) po_none) (pe_slice (slK K rfl) (pv 2) po_none (po_some (pv 4)))))
 (pss_cons (ps_set (i := 5) sc_q_sets.nd rfl (Or.inl rfl) (peJoin K rfl (pe_strT (l := []) (by decide +kernel)) (pe_slice (slK K rfl) (pe_pm g_q_mixed (hr.mono (by decide)) pass0 (pa_cons (pv 0) (pa_cons (pe_callTy (listK K rfl rfl) (by rfl) B.list (by decide +kernel) (pa_cons (pe_slice (slK K rfl) (pv 2) po_none (po_some (pe_op op_addP (pv 1) (pe_pm g_q_off (hr.mono (by decide)) pass0 (pa_cons (pv 0) (pa_cons pe_int pa_nil)))))) pa_nil)) pa_nil))) po_none (po_some (pv 1)))))
 (pss_cons (ps_set (i := 6) sc_q_sets.nd rfl (Or.inl rfl) (pe_op op_addP pe_int (pe_pm g_q_off (hr.mono (by decide)) pass0 (pa_cons (pv 0) (pa_cons pe_int pa_nil)))))
 (pss_cons (ps_set (i := 7) sc_q_sets.nd rfl (Or.inr rfl) (pe_strT (l := []) (by decide +kernel)))
 (pss_cons (ps_set (i := 8) sc_q_sets.nd rfl (Or.inl rfl) (pe_pm g_q_mixed (hr.mono (by decide)) pass0 (pa_cons (pv 0) (pa_cons (pe_callTy (listK K rfl rfl) (by rfl) B.list (by decide +kernel) (pa_cons (pv 2) pa_nil)) pa_nil))))
 (pss_cons (ps_for PassesOwn.never rfl (pi_range1 (by rfl) B.range (pa_cons (pv 1) pa_nil)) (pg_name (i := 9) sc_q_sets.nd rfl (Or.inl rfl))
 (Evl.pss_cut (ps_if (PW.pt (pw_and (pt_cmpR (eqK K rfl hr.units) (pe_pm g_q_off (hr.mono (by decide)) pass0 (pa_cons (pv 0) (pa_cons (pv 6) pa_nil))) pe_int (nomark _)) (pw_and1 (pt_cmpR (niK K rfl) (pe_ix (ixK K rfl) (pv 5) (pv 9) (fun _ _ => rfl)) (pv 7) (by rfl)))))
 (pss_cons (ps_set (i := 7) sc_q_sets.nd rfl (Or.inr rfl) (pe_op op_addP (pv 7) (pe_ix (ixK K rfl) (pv 5) (pv 9) (fun _ _ => rfl))))
 pss_nil)
 (pss_cons (ps_setLc (i := 10) (own := [("_law_sign", 11)]) (g := gName 11) rfl sc_q_sets.nd rfl rfl (sw_true rfl rfl rfl (by decide +kernel)) (piL K rfl (pv 8)) (blkOk_by (N := n_q_sets) (sc := defScope s_q_sets) (by decide +kernel)) (fun _ _ _ _ _ => pg_name (i := 11) sc_q_sets.nd rfl (Or.inl rfl)) (fun _ _ _ _ _ => (pts_one (pt_cmpR (niK K rfl) (pv 11) (pv 7) (by rfl)))) (fun _ _ _ _ _ => (pv 11)))
 (pss_cons (ps_set (i := 7) sc_q_sets.nd rfl (Or.inr rfl) (pe_op op_addP (pv 7) (pe_ix (ixK K rfl) (pv 10) pe_int (fun _ _ => rfl))))
 pss_nil)))
 pss_nil))
 (pss_cons (ps_ret (pe_tup (pa_cons (pv 5) (pa_cons (pv 7) pa_nil))))
 pss_nil))))))))))), ?_⟩
    refine go_stD (σ := [some (.ref d), none, none, none, none, none, none, none, none, none, none, none]) hd rfl ?_
    wtm_at "r"
    refine wp_off (by omega) (by omega) fun r0 hr0 => ?_
    wtm_at "r"
    refine ⟨(by show 4 ≤ 100000; decide), fun p0 hp0 => ?_⟩
    wtm_at "r"
    refine wp_off (by omega) (by omega) fun r1 hr1 => ?_
    obtain ⟨many, hmany, hm1, hm10⟩ : ∃ many : Nat, atI [V.int 3, V.int 4, V.int 6, V.int (1 + (r0 : Int))] (r1 : Int) = some (.int (many : Int)) ∧ 1 ≤ many ∧ many ≤ 10 := by
      match r1, hr1 with
      | 0, _ => exact ⟨3, atI_nat (j := 0) rfl, by decide, by decide⟩
      | 1, _ => exact ⟨4, atI_nat (j := 1) rfl, by decide, by decide⟩
      | 2, _ => exact ⟨6, atI_nat (j := 2) rfl, by decide, by decide⟩
      | 3, _ => exact ⟨1 + r0, by rw [atI_nat (j := 3) rfl]; simp, by omega, by omega⟩
      | n + 4, h => omega
    wtm_at "r"
    refine wp_ixL (SqL.of upd_same) hmany ?_
    wtm_at "r"
    have e0 : Ex (rm H d) (upd (rm H d) p0 (.lst [V.int 3, V.int 4, V.int 6, V.int (1 + (r0 : Int))])) := ex_new hp0
    refine go_cut (fun σ F => ∃ (sl : List Nat) (ev : Option V), σ = [some (.ref d), some (.int (many : Int)), some (.str (tx sl)), ev, none, none, none, none, none, none, none, none] ∧ Ex (rm H d) F ∧ Pool sl) ?_ ?_
    · wtm_at "r"
      refine wp_off (by omega) (by omega) fun r2 _ => ?_
      wtm_at "r"
      refine ⟨fun _ => ?_, fun _ => ?_⟩
      · wtm_at "r"
        refine wp_m1 ?_
        wtm_at "r"
        refine ⟨⟨_, rfl⟩, ?_⟩
        wtm_at "r"
        refine wp_listS (by decide) fun p1 hp1 => ?_
        wtm_at "r"
        refine wp_mixed (l := every) (SqL.of upd_same) (by decide) (by decide) fun p2 l1 hp2 pe => ?_
        wtm_at "r"
        refine wp_slL (SqL.of upd_same) fun p3 hp3 => ?_
        rw [show (22 : Int) = ((22 : Nat) : Int) from rfl, cutV_take, ← List.map_take]
        wtm_at "r"
        refine wp_joinSg (SqL.of upd_same) (by rw [List.length_take]; omega) ?_
        wtm_at "r"
        refine go_turn rfl ⟨l1.take 22, _, rfl, ((e0.trans (ex_new hp1)).trans (ex_new hp2)).trans (ex_new hp3), ?_, ?_, ?_⟩
        · rw [List.length_take, pe.length_eq]; rfl
        · exact (pe.nodup_iff.mpr (by decide : every.Nodup)).sublist (List.take_sublist _ _)
        · intro c hc
          exact (by decide : ∀ c ∈ every, c < 128) c (pe.mem_iff.mp (List.mem_of_mem_take hc))
      · exact go_turn rfl ⟨[97, 98, 99, 100, 101, 102, 103, 104, 105, 106, 32, 48, 49, 50, 51, 52, 53, 54, 46, 44, 45, 120], none, rfl, e0, rfl, by decide, by decide⟩
    · rintro σ F ⟨sl, ev, rfl, e, hl, hn, ha⟩
      wtm_at "r"
      refine wp_off (by omega) (by omega) fun tn htn => ?_
      wtm_at "r"
      rw [cutN_drop, cutN_take]
      refine wp_addS (by wtm_at "sz") ?_
      wtm_at "r"
      obtain ⟨sg2, hsg2⟩ : ∃ s2, s2 = sl.drop tn ++ sl.take tn := ⟨_, rfl⟩
      rw [← hsg2]
      have pr : sg2.Perm sl := by
        rw [hsg2]
        exact List.perm_append_comm.trans (by rw [List.take_append_drop])
      have hl2 : sg2.length = 22 := pr.length_eq.trans hl
      have hn2 : sg2.Nodup := pr.nodup_iff.mpr hn
      have ha2 : ∀ c ∈ sg2, c < 128 := fun c hc => ha c (pr.mem_iff.mp hc)
      refine wp_m1 ?_
      wtm_at "r"
      refine ⟨⟨_, rfl⟩, ?_⟩
      wtm_at "r"
      refine wp_off (by omega) (by omega) fun r3 h3 => ?_
      wtm_at "r"
      rw [show ((many : Int) + (r3 : Int)) = ((many + r3 : Nat) : Int) by omega, cutN_take]
      refine wp_listS (by rw [List.length_take]; omega) fun p1 hp1 => ?_
      wtm_at "r"
      refine wp_mixed (l := sg2.take (many + r3)) (SqL.of upd_same) (by rw [List.length_take]; omega) (fun c hc => ha2 c (List.mem_of_mem_take hc)) fun p2 l1 hp2 pe => ?_
      wtm_at "r"
      refine wp_slL (SqL.of upd_same) fun p3 hp3 => ?_
      rw [cutV_take, ← List.map_take]
      wtm_at "r"
      have hl1 : l1.length = many + r3 := by rw [pe.length_eq, List.length_take]; omega
      refine wp_joinSg (SqL.of upd_same) (by rw [List.length_take]; omega) ?_
      wtm_at "r"
      obtain ⟨one, hone⟩ : ∃ x, x = l1.take many := ⟨_, rfl⟩
      rw [← hone]
      have hlo : one.length = many := by rw [hone, List.length_take]; omega
      have hno : one.Nodup := by
        rw [hone]
        exact (pe.nodup_iff.mpr (hn2.sublist (List.take_sublist _ _))).sublist (List.take_sublist _ _)
      have hao : ∀ c ∈ one, c < 128 := fun c hc => by
        rw [hone] at hc
        exact ha2 c (List.mem_of_mem_take (pe.mem_iff.mp (List.mem_of_mem_take hc)))
      have e3 := ((e.trans (ex_new (u := .lst ((sg2.take (many + r3)).map sg)) hp1)).trans (ex_new (u := .lst (l1.map sg)) hp2)).trans (ex_new (u := .lst (one.map sg)) hp3)
      refine wp_off (by omega) (by omega) fun r4 h4 => ?_
      wtm_at "r"
      refine wp_listS (by omega) fun p4 hp4 => ?_
      wtm_at "r"
      refine wp_mixed (l := sg2) (SqL.of upd_same) (by omega) ha2 fun p5 left hp5 pl => ?_
      wtm_at "r"
      have hll : left.length = 22 := pl.length_eq.trans hl2
      have hnl : left.Nodup := pl.nodup_iff.mpr hn2
      have hal : ∀ c ∈ left, c < 128 := fun c hc => ha2 c (pl.mem_iff.mp hc)
      refine go_forR (fun i σ F => ∃ (ot : List Nat) (kk so : Option V) (tu ofn : V) (ev2 : Option V), σ = [some (.ref d), some (.int (many : Int)), some (.str (tx sg2)), ev2, some tu, some (.str (tx one)), some (.int (1 + (r4 : Int))), some (.str (tx ot)), some (.ref p5), kk, so, none] ∧
        Ex (rm H d) F ∧ F p5 = some (.lst (left.map sg)) ∧ ot.length = i ∧ ot.Nodup ∧ ∀ c ∈ ot, c < 128) ?_
      wtm_at "r"
      refine ⟨many, rfl, by omega, ⟨[], none, none, _, .non, _, rfl, (e3.trans (ex_new hp4)).trans (ex_new hp5), upd_same, rfl, List.nodup_nil, (fun c h => by cases h)⟩, ?_, ?_⟩
      · rintro i σ F hi ⟨ot, kk, so, tu, ofn, ev2, rfl, e4, h5, ho, hno2, hao2⟩
        have hi1 : i < one.length := by omega
        wtm_at "r"
        refine go_cut (fun σ F => ∃ (c : Nat) (so1 : Option V), c ∉ ot ∧ c < 128 ∧ σ = [some (.ref d), some (.int (many : Int)), some (.str (tx sg2)), ev2, some tu, some (.str (tx one)), some (.int (1 + (r4 : Int))), some (.str (tx (ot ++ [c]))), some (.ref p5), some (.int (i : Int)), so1, none] ∧
          Ex (rm H d) F ∧ F p5 = some (.lst (left.map sg))) ?_ ?_
        · refine go_ifB ?_
          refine wp_andS (fun F1 => F1 = F) ?_ ?_
          · wtm_at "r"
            refine wp_off (by omega) (by omega) fun r5 _ => ?_
            wtm_at "r"
            refine ⟨rfl, fun _ => ?_⟩
            wtm_at "r"
            refine wp_ixS (by omega) (atI_nat (List.getElem?_eq_getElem hi1)) ?_
            wtm_at "r"
            refine ⟨rfl, fun hin => ?_⟩
            have hin : one[i] ∉ ot := by simpa using hin
            wtm_at "r"
            refine wp_ixS (by omega) (atI_nat (List.getElem?_eq_getElem hi1)) ?_
            refine wp_addS (j := [one[i]]) (by wtm_at "sz") ?_
            wtm_at "r"
            exact go_turn rfl ⟨one[i], so, hin, hao _ (List.getElem_mem hi1), rfl, e4, h5⟩
          · rintro F1 rfl
            refine go_set ?_
            refine wp_lcL (fun _ => rfl) ?_
            wtm_at "r"
            refine ⟨p5, _, rfl, SqL.of h5, fun Dl hD => ?_⟩
            have npd := (ne_of_none h5 hD)
            refine ⟨fun j acc F2 => ∃ ms : List Nat, acc = ms.map sg ∧ ms = (left.take j).filter (fun x => !decide (x ∈ ot)) ∧ Ex (rm H d) F2 ∧ F2 p5 = some (.lst (left.map sg)), ⟨[], rfl, rfl, e4.trans (ex_new hD), at_ne h5 hD⟩, fun j acc F2 ⟨_, _, _, _, h6⟩ => SqL.of h6, ?_, ?_⟩
            · rintro j y acc F2 hy q2 ⟨ms, rfl, hms, e5, h6⟩
              rw [List.getElem?_map] at hy
              obtain ⟨c, hc, rfl⟩ : ∃ c, left[j]? = some c ∧ y = sg c := by
                cases hq : left[j]? with
                | none => rw [hq] at hy; cases hy
                | some c => rw [hq] at hy; exact ⟨c, rfl, (Option.some.inj hy).symm⟩
              have hmsl : ms.length ≤ 22 := by
                rw [hms]
                refine Nat.le_trans (List.length_filter_le _ _) ?_
                rw [List.length_take]
                omega
              have stp := take_more hc
              show Wp _ _ _ _
              wtm_at "r"
              refine ⟨fun hin => ?_, fun hin => ⟨q2, ms, rfl, ?_, e5, h6⟩⟩
              · wtm_at "r"
                have hDH : rm H d Dl = none := e4.free hD
                refine ⟨q2, by rw [List.length_map]; omega, ms ++ [c], by rw [List.map_append]; rfl, ?_, ex_mut e5 hDH, ?_⟩
                · rw [stp, List.filter_append, ← hms, List.filter_cons, if_pos hin]
                  rfl
                · rw [upd_ne npd]
                  exact h6
              · rw [stp, List.filter_append, ← hms, List.filter_cons, if_neg (by rw [hin]; decide), List.filter_nil, List.append_nil]
            · rintro acc F2 q2 ⟨ms, rfl, hms, e5, h6⟩
              rw [List.length_map, List.take_length] at hms
              have hne := ex_out (l := left) (m := ot) hnl (by omega)
              rw [← hms] at hne
              obtain ⟨c, r, hcr⟩ : ∃ c r, ms = c :: r := by
                cases ms with
                | nil => exact absurd rfl hne
                | cons c r => exact ⟨c, r, rfl⟩
              have hcm : c ∈ left ∧ c ∉ ot := by
                have hx : c ∈ ms := by rw [hcr]; exact List.mem_cons_self
                rw [hms] at hx
                obtain ⟨h1, h2⟩ := List.mem_filter.mp hx
                exact ⟨h1, by simpa using h2⟩
              subst hcr
              wtm_at "r"
              refine wp_ixL (SqL.of q2) (atI_nat (j := 0) rfl) ?_
              refine wp_addS (j := [c]) (by wtm_at "sz") ?_
              wtm_at "r"
              exact go_turn rfl ⟨c, _, hcm.2, hal c hcm.1, rfl, e5, h6⟩
        · rintro σ F ⟨c, so1, hc1, hc2, rfl, e5, h6⟩
          refine go_turn rfl ⟨ot ++ [c], _, so1, tu, ofn, ev2, rfl, e5, h6, by rw [List.length_append, List.length_singleton, ho], snoc_nd hno2 hc1, fun x hx => ?_⟩
          rcases List.mem_append.mp hx with h | h
          · exact hao2 x h
          · rw [List.mem_singleton.mp h]; exact hc2
      · rintro σ F ⟨ot, kk, so, tu, ofn, ev2, rfl, e4, h5, ho, hno2, hao2⟩
        wtm_at "r"
        refine ⟨(by show 2 ≤ 100000; decide), fun p hp => ?_⟩
        exact RetND.out k (e4.trans (ex_new hp)) (e4.free hp) upd_same ⟨one, ot, ⟨by omega, by omega, by omega, hno, hno2⟩, hao, hao2, rfl⟩
end
section
variable {P : Program} {w : World} {K : PySem.W.Frag} {mg : Str → Option Value} {base : Heap}
def flatD : PyData → Bool
  | .none => true
  | .bool _ => true
  | .int _ => true
  | .str _ => true
  | _ => false
/-- flat, or n deep -/
def DpN : Nat → PyData → Prop
  | 0, d => flatD d = true
  | n + 1, d => flatD d = true ∨ ∃ ds, (d = .list ds ∨ d = .tuple ds) ∧ ds.length ≤ 1000 ∧ ∀ e ∈ ds, DpN n e
theorem dpa_len {H : Hp} : ∀ {xs : List V} {ds : List PyData}, DpAll K H xs ds → xs.length = ds.length
  | _, _, .nil => rfl
  | _, _, .cons _ b => congrArg (· + 1) (dpa_len b)
theorem dpa_at {H : Hp} : ∀ {xs : List V} {ds : List PyData} {i : Nat} {d : PyData}, DpAll K H xs ds → ds[i]? = some d → ∃ x, xs[i]? = some x ∧ Dp K H x d
  | _, _, _, _, .nil, h => by simp at h
  | _, _, 0, _, .cons a _, h => by
    rw [List.getElem?_cons_zero] at h
    cases h
    exact ⟨_, rfl, a⟩
  | _, _, i + 1, _, .cons _ b, h => by
    obtain ⟨x, h1, h2⟩ := dpa_at (i := i) b (by simpa using h)
    exact ⟨x, by simpa using h1, h2⟩
abbrev s_q_alike : Stmt := topS 42
abbrev n_q_alike : List Str := ["_law_found", "_law_due", "_law_k"]
theorem sc_q_alike : FnScope n_q_alike ["_law_found", "_law_due"] (defScope s_q_alike) := ⟨rfl, rfl, rfl, by decide +kernel, rfl, by decide +kernel, by decide +kernel⟩

def spA (K : PySem.W.Frag) : Nat → Sp
  | 0 => fun _ _ _ _ => False
  | n + 1 => fun vs H Q _ => ∃ (x y : V) (d : PyData), vs = [x, y] ∧ Dp K H x d ∧ Dp K H y d ∧ DpN n d ∧ RetV (.bl true) H Q
theorem wp_alike {o : Option Addr} {F : Hp} {Pq : V → Hp → Prop} {x y : V} {d : PyData} {n : Nat} {E : XK} (hx : Dp K F x d) (hy : Dp K F y d) (hd : DpN n d) (q : Pq (.bl true) F) : Wp o (fun H Q => spA K (n + 1) ([x, y] ++ []) H Q E) F Pq :=
  fun H w Q k => ⟨x, y, d, rfl, Dp.up w.ex hx, Dp.up w.ex hy, hd, RetV.use w q k⟩
theorem pm_alike (D : DefAt K mg "_law_alike" s_q_alike) (B : Bl mg) : ∀ n, Pm P w K mg base CX0 n "_law_alike" ["_law_found", "_law_due"] (spA K n) := by
  obtain ⟨f, fd, F, hm⟩ := D
  have hb : Binds K fd ["_law_found", "_law_due"] [] := F.binds fun _ _ _ _ _ _ us hl => match us, hl with | [_, _], _ => rfl
  intro n
  induction n with
  | zero => exact ⟨f, fd, ⟨fun vs H Q E h => h.elim, fun A outer s H args us vs Q E _ _ _ _ h => h.elim⟩, hm, F.kp, hb⟩
  | succ n ih =>
    have g_q_alike := ih
    refine ⟨f, fd, ?_, hm, F.kp, hb⟩
    refine F.ok sc_q_alike (fun vs H Q E h => ?_) (fun cdv A outer s H vs Q E hr h => ?_)
    · obtain ⟨_, _, _, rfl, _⟩ := h
      rfl
    · obtain ⟨x, y, d, rfl, hx, hy, hd, k⟩ := h
      refine ⟨_, (pss_cons (ps_if (pt_cmpR op_isNs (pv 1) pe_non (nomark _))
 (pss_cons (ps_ret (pe_cmpR op_isNs (pv 0) pe_non (nomark _)))
 pss_nil)
 pss_nil)
 (pss_cons (ps_if (pt_val (pe_callB (isiK K rfl) (by rfl) B.isinstance (by decide +kernel) (pa_cons (pv 1) (pa_cons (pe_bltn (v := .ty "bool") (by rfl) B.bool_ (by decide +kernel) rfl) pa_nil))))
 (pss_cons (ps_ret (pe_and (pe_callB (isiK K rfl) (by rfl) B.isinstance (by decide +kernel) (pa_cons (pv 0) (pa_cons (pe_bltn (v := .ty "bool") (by rfl) B.bool_ (by decide +kernel) rfl) pa_nil))) (pe_one (pe_cmpR (eqK K rfl hr.units) (pv 0) (pv 1) (nomark _)))))
 pss_nil)
 pss_nil)
 (pss_cons (ps_if (pt_val (pe_callB (isiK K rfl) (by rfl) B.isinstance (by decide +kernel) (pa_cons (pv 1) (pa_cons (pe_bltn (v := .ty "int") (by rfl) B.int_ (by decide +kernel) rfl) pa_nil))))
 (pss_cons (ps_ret (pe_and (pe_callB (isiK K rfl) (by rfl) B.isinstance (by decide +kernel) (pa_cons (pv 0) (pa_cons (pe_bltn (v := .ty "int") (by rfl) B.int_ (by decide +kernel) rfl) pa_nil))) (pe_and (pe_not (pe_callB (isiK K rfl) (by rfl) B.isinstance (by decide +kernel) (pa_cons (pv 0) (pa_cons (pe_bltn (v := .ty "bool") (by rfl) B.bool_ (by decide +kernel) rfl) pa_nil)))) (pe_one (pe_cmpR (eqK K rfl hr.units) (pv 0) (pv 1) (nomark _))))))
 pss_nil)
 pss_nil)
 (pss_cons (ps_if (pt_val (pe_callB (isiK K rfl) (by rfl) B.isinstance (by decide +kernel) (pa_cons (pv 1) (pa_cons (pe_bltn (v := .ty "str") (by rfl) B.str_ (by decide +kernel) rfl) pa_nil))))
 (pss_cons (ps_ret (pe_and (pe_callB (isiK K rfl) (by rfl) B.isinstance (by decide +kernel) (pa_cons (pv 0) (pa_cons (pe_bltn (v := .ty "str") (by rfl) B.str_ (by decide +kernel) rfl) pa_nil))) (pe_one (pe_cmpR (eqK K rfl hr.units) (pv 0) (pv 1) (nomark _)))))
 pss_nil)
 pss_nil)
 (pss_cons (ps_if (PW.pt (pw_or (pt_cmpR (neK K rfl hr.units) (pe_callB (isiK K rfl) (by rfl) B.isinstance (by decide +kernel) (pa_cons (pv 1) (pa_cons (pe_bltn (v := .ty "tuple") (by rfl) B.tuple (by decide +kernel) rfl) pa_nil))) (pe_callB (isiK K rfl) (by rfl) B.isinstance (by decide +kernel) (pa_cons (pv 0) (pa_cons (pe_bltn (v := .ty "tuple") (by rfl) B.tuple (by decide +kernel) rfl) pa_nil))) (nomark _)) (pw_or1 (pt_cmpR (neK K rfl hr.units) (pe_callB (isiK K rfl) (by rfl) B.isinstance (by decide +kernel) (pa_cons (pv 1) (pa_cons (pe_bltn (v := .ty "list") (by rfl) B.list (by decide +kernel) rfl) pa_nil))) (pe_callB (isiK K rfl) (by rfl) B.isinstance (by decide +kernel) (pa_cons (pv 0) (pa_cons (pe_bltn (v := .ty "list") (by rfl) B.list (by decide +kernel) rfl) pa_nil))) (nomark _)))))
 (pss_cons (ps_ret pe_bl)
 pss_nil)
 pss_nil)
 (pss_cons (ps_if (pt_cmpR (neK K rfl hr.units) (pe_callB (lenK K rfl) (by rfl) B.len PySem.boot_len (pa_cons (pv 0) pa_nil)) (pe_callB (lenK K rfl) (by rfl) B.len PySem.boot_len (pa_cons (pv 1) pa_nil)) (nomark _))
 (pss_cons (ps_ret pe_bl)
 pss_nil)
 pss_nil)
 (pss_cons (ps_ret (pe_callB (allK K rfl rfl) (by rfl) B.all (by decide +kernel) (pa_cons (pe_lc (own := [("_law_k", 2)]) (g := gName 2) (tt := tYes) rfl sc_q_alike.nd (pi_range1 (by rfl) B.range (pa_cons (pe_callB (lenK K rfl) (by rfl) B.len PySem.boot_len (pa_cons (pv 1) pa_nil)) pa_nil)) (blkOk_by (N := n_q_alike) (sc := defScope s_q_alike) (by decide +kernel)) (fun _ _ _ _ _ => pg_name (i := 2) sc_q_alike.nd rfl (Or.inl rfl)) (fun _ _ _ _ _ => pts_nil) (fun _ _ _ _ _ => (pe_pm g_q_alike hr pass0 (pa_cons (pe_ix (ixK K rfl) (pv 0) (pv 2) (fun _ _ => rfl)) (pa_cons (pe_ix (ixK K rfl) (pv 1) (pv 2) (fun _ _ => rfl)) pa_nil))))) pa_nil)))
 pss_nil))))))), ?_⟩
      refine go_st (σ := [some (x), some (y), none]) rfl ?_
      have kinds : (∃ b, x = .bl b ∧ y = .bl b) ∨ (∃ i, x = .int i ∧ y = .int i) ∨ (∃ z, x = .str z ∧ y = .str z) ∨ (x = .non ∧ y = .non) ∨
          ∃ (T : String) (a b : Addr) (xs ys : List V) (ds : List PyData) (m : Nat), x = .ref a ∧ y = .ref b ∧ (T = "list" ∨ T = "tuple") ∧ TyP K H (.ref a) T ∧ TyP K H (.ref b) T ∧ (SqL K H a xs ∨ SqT K H a xs) ∧ (SqL K H b ys ∨ SqT K H b ys) ∧
            DpAll K H xs ds ∧ DpAll K H ys ds ∧ ds.length ≤ 1000 ∧ n = m + 1 ∧ ∀ e ∈ ds, DpN m e := by
        have nof : ∀ ds, (d = .list ds ∨ d = .tuple ds) → flatD d = false := fun ds h => by rcases h with h | h <;> subst h <;> rfl
        cases hx with
        | non => cases hy; exact .inr (.inr (.inr (.inl ⟨rfl, rfl⟩)))
        | bl b => cases hy; exact .inl ⟨b, rfl, rfl⟩
        | int i => cases hy; exact .inr (.inl ⟨i, rfl, rfl⟩)
        | str z => cases hy; exact .inr (.inr (.inl ⟨z, rfl, rfl⟩))
        | lst h1 h2 =>
          cases hy with
          | lst h3 h4 =>
            cases n with
            | zero => cases (show flatD _ = true from hd)
            | succ m =>
              rcases hd with hf | ⟨ds, hds, hl, hi⟩
              · cases hf
              · rcases hds with e | e
                · cases e
                  exact .inr (.inr (.inr (.inr ⟨"list", _, _, _, _, _, m, rfl, rfl, .inl rfl, .lst h1, .lst h3, .inl h1, .inl h3, h2, h4, hl, rfl, hi⟩)))
                · cases e
        | tup h1 h2 =>
          cases hy with
          | tup h3 h4 =>
            cases n with
            | zero => cases (show flatD _ = true from hd)
            | succ m =>
              rcases hd with hf | ⟨ds, hds, hl, hi⟩
              · cases hf
              · rcases hds with e | e
                · cases e
                · cases e
                  exact .inr (.inr (.inr (.inr ⟨"tuple", _, _, _, _, _, m, rfl, rfl, .inr rfl, .tup h1, .tup h3, .inr h1, .inr h3, h2, h4, hl, rfl, hi⟩)))
      wtm_at "r"
      rcases kinds with ⟨b, rfl, rfl⟩ | ⟨i, rfl, rfl⟩ | ⟨z, rfl, rfl⟩ | ⟨rfl, rfl⟩ | ⟨T, a, b, xs, ys, ds, m, rfl, rfl, hT, ta, tb, sa, sb, da, db, dl, rfl, di⟩
      · refine bF (by simp) ?_
        wtm_at "r"
        refine wp_isi (.bl b) (b := true) (by decide +kernel) ?_
        wtm_at "r"
        refine bT rfl ?_
        wtm_at "r"
        refine wp_isi (.bl b) (b := true) (by decide +kernel) ?_
        wtm_at "r"
        refine bT rfl ?_
        wtm_at "r"
        refine wp_eq0 rfl ?_
        rw [decide_eq_true rfl]
        exact k.out (exr H)
      · refine bF (by simp) ?_
        wtm_at "r"
        refine wp_isi (.int i) (b := false) (by decide +kernel) ?_
        wtm_at "r"
        refine bF rfl ?_
        wtm_at "r"
        refine wp_isi (.int i) (b := true) (by decide +kernel) ?_
        wtm_at "r"
        refine bT rfl ?_
        wtm_at "r"
        refine wp_isi (.int i) (b := true) (by decide +kernel) ?_
        wtm_at "r"
        refine bT rfl ?_
        wtm_at "r"
        refine wp_isi (.int i) (b := false) (by decide +kernel) ?_
        wtm_at "r"
        refine bT rfl ?_
        wtm_at "r"
        rw [decide_eq_true rfl]
        exact k.out (exr H)
      · refine bF (by simp) ?_
        wtm_at "r"
        refine wp_isi (.str z) (b := false) (by decide +kernel) ?_
        wtm_at "r"
        refine bF rfl ?_
        wtm_at "r"
        refine wp_isi (.str z) (b := false) (by decide +kernel) ?_
        wtm_at "r"
        refine bF rfl ?_
        wtm_at "r"
        refine wp_isi (.str z) (b := true) (by decide +kernel) ?_
        wtm_at "r"
        refine bT rfl ?_
        wtm_at "r"
        refine wp_isi (.str z) (b := true) (by decide +kernel) ?_
        wtm_at "r"
        refine bT rfl ?_
        wtm_at "r"
        refine wp_eq0 rfl ?_
        rw [decide_eq_true rfl]
        exact k.out (exr H)
      · refine bT (by simp) ?_
        wtm_at "r"
        rw [decide_eq_true rfl]
        exact k.out (exr H)
      · refine bF (by simp) ?_
        obtain ⟨bt, ht⟩ : ∃ bt, kitB T "tuple" = some bt := by
          rcases hT with rfl | rfl
          · exact ⟨false, by decide +kernel⟩
          · exact ⟨true, by decide +kernel⟩
        obtain ⟨bl, hl⟩ : ∃ bl, kitB T "list" = some bl := by
          rcases hT with rfl | rfl
          · exact ⟨true, by decide +kernel⟩
          · exact ⟨false, by decide +kernel⟩
        have la := dpa_len da
        have lb := dpa_len db
        wtm_at "r"
        refine wp_isi tb (b := false) (by rcases hT with rfl | rfl <;> decide +kernel) ?_
        wtm_at "r"
        refine bF rfl ?_
        wtm_at "r"
        refine wp_isi tb (b := false) (by rcases hT with rfl | rfl <;> decide +kernel) ?_
        wtm_at "r"
        refine bF rfl ?_
        wtm_at "r"
        refine wp_isi tb (b := false) (by rcases hT with rfl | rfl <;> decide +kernel) ?_
        wtm_at "r"
        refine bF rfl ?_
        wtm_at "r"
        refine wp_isi tb ht ?_
        wtm_at "r"
        refine wp_isi ta ht ?_
        wtm_at "r"
        refine wp_ne0 rfl ?_
        wtm_at "r"
        refine bF (by simp) ?_
        wtm_at "r"
        refine wp_isi tb hl ?_
        wtm_at "r"
        refine wp_isi ta hl ?_
        wtm_at "r"
        refine wp_ne0 rfl ?_
        wtm_at "r"
        refine bF (by simp) ?_
        wtm_at "r"
        refine wp_lenX sa ?_
        wtm_at "r"
        refine wp_lenX sb ?_
        wtm_at "r"
        refine bF (by rw [la, lb]; simp) ?_
        wtm_at "r"
        refine wp_lcR (fun _ => rfl) ?_
        wtm_at "r"
        refine wp_lenX sb ?_
        wtm_at "r"
        refine ⟨ys.length, rfl, by omega, fun Dl hD => ?_⟩
        refine ⟨fun i acc F => acc = (List.replicate i true).map V.bl ∧ Ex H F, ⟨rfl, ex_new hD⟩, ?_, ?_⟩
        · rintro i acc F hi q2 ⟨rfl, e⟩
          have hi2 : i < ds.length := by omega
          have hdi : ds[i]? = some ds[i] := List.getElem?_eq_getElem hi2
          obtain ⟨xa, hxa, dxa⟩ := dpa_at da hdi
          obtain ⟨xb, hxb, dxb⟩ := dpa_at db hdi
          show Wp _ _ _ _
          wtm_at "r"
          refine ⟨fun _ => ?_, fun z => (by cases z)⟩
          wtm_at "r"
          refine wp_ixX (sa.imp (ex_l e) (ex_t e)) (atI_nat hxa) ?_
          wtm_at "r"
          refine wp_ixX (sb.imp (ex_l e) (ex_t e)) (atI_nat hxb) ?_
          wtm_at "r"
          refine wp_alike (Dp.up e dxa) (Dp.up e dxb) (di _ (List.getElem_mem hi2)) ?_
          refine ⟨q2, by rw [List.length_map, List.length_replicate]; omega, ?_, ex_mut e hD⟩
          rw [List.replicate_succ', List.map_append]
          rfl
        · rintro acc F q2 ⟨rfl, e⟩
          wtm_at "r"
          refine wp_all (bs := List.replicate ys.length true) (SqL.of q2) ?_
          have ea : (List.replicate ys.length true).all id = true := by
            rw [List.all_eq_true]
            intro z hz
            exact (List.mem_replicate.mp hz).2
          rw [ea]
          exact k.out e
end
/-! ### exceptions of own classes: their making; what a raising def leaves -/
section
variable {P : Program} {w : World} {K : PySem.W.Frag} {mg : Str → Option Value} {base : Heap}
abbrev s_BadSets_init : Stmt := inClass (topS 2) 0
abbrev n_BadSets_init : List Str := ["self", "why"]
theorem sc_BadSets_init : FnScope n_BadSets_init ["self", "why"] (defScope s_BadSets_init) := ⟨rfl, rfl, rfl, by decide +kernel, rfl, by decide +kernel, by decide +kernel⟩

theorem rz_BadSets {C fI CT : Addr} {fd : FuncData} (F : Fun K "__init__" "BadSets.__init__" s_BadSets_init fI fd) (z_TapeError : TeC K mg "TapeError" CT) (O : OexC K C) (hm : mg "BadSets" = some (.ref C)) (iC : PySem.W.findIn K (.ref C) "__init__" = some (some (.ref fI)))
    (tI : PySem.W.typeIn K (.ref fI) = some (.type "function")) (no : PySem.W.findIn K (.ref C) "why" = some none) : Rz P w K mg base "BadSets" C "why" := by
  refine ⟨O, hm, fI, fd, iC, tI, ?_, F.binds fun _ _ _ _ _ _ us hl => match us, hl with | [_, _], _ => rfl⟩
  refine F.ok sc_BadSets_init (fun vs H Q E h => ?_) (fun cdv A outer s H vs Q E hr h => ?_)
  · obtain ⟨_, _, rfl, _⟩ := h
    rfl
  · obtain ⟨a, v, rfl, ha, k⟩ := h
    exact ⟨_, (pss_cons (ps_expr (pe_teinitK K rfl z_TapeError (pa_cons (pv 0) (pa_cons (pv 1) pa_nil))))
 (pss_cons (ps_ostK K rfl (pv 0) (pv 1))
 pss_nil)), .ref a, rfl, v, rfl, a, C, [v], rfl, by show 1 ≤ 1000; decide, O, ha, v, rfl, .ref a, rfl, a, C, rfl, O, no, .inl ⟨ha, fun dx n ne => k dx n ne⟩⟩
abbrev s_BadTape_init : Stmt := inClass (topS 3) 0
abbrev n_BadTape_init : List Str := ["self", "at"]
theorem sc_BadTape_init : FnScope n_BadTape_init ["self", "at"] (defScope s_BadTape_init) := ⟨rfl, rfl, rfl, by decide +kernel, rfl, by decide +kernel, by decide +kernel⟩

theorem rz_BadTape {C fI CT : Addr} {fd : FuncData} (F : Fun K "__init__" "BadTape.__init__" s_BadTape_init fI fd) (z_TapeError : TeC K mg "TapeError" CT) (O : OexC K C) (hm : mg "BadTape" = some (.ref C)) (iC : PySem.W.findIn K (.ref C) "__init__" = some (some (.ref fI)))
    (tI : PySem.W.typeIn K (.ref fI) = some (.type "function")) (no : PySem.W.findIn K (.ref C) "at" = some none) : Rz P w K mg base "BadTape" C "at" := by
  refine ⟨O, hm, fI, fd, iC, tI, ?_, F.binds fun _ _ _ _ _ _ us hl => match us, hl with | [_, _], _ => rfl⟩
  refine F.ok sc_BadTape_init (fun vs H Q E h => ?_) (fun cdv A outer s H vs Q E hr h => ?_)
  · obtain ⟨_, _, rfl, _⟩ := h
    rfl
  · obtain ⟨a, v, rfl, ha, k⟩ := h
    exact ⟨_, (pss_cons (ps_expr (pe_teinitK K rfl z_TapeError (pa_cons (pv 0) (pa_cons (pv 1) pa_nil))))
 (pss_cons (ps_ostK K rfl (pv 0) (pv 1))
 pss_nil)), .ref a, rfl, v, rfl, a, C, [v], rfl, by show 1 ≤ 1000; decide, O, ha, v, rfl, .ref a, rfl, a, C, rfl, O, no, .inl ⟨ha, fun dx n ne => k dx n ne⟩⟩
abbrev s_BadText_init : Stmt := inClass (topS 6) 0
abbrev n_BadText_init : List Str := ["self", "place"]
theorem sc_BadText_init : FnScope n_BadText_init ["self", "place"] (defScope s_BadText_init) := ⟨rfl, rfl, rfl, by decide +kernel, rfl, by decide +kernel, by decide +kernel⟩

theorem rz_BadText {C fI CT : Addr} {fd : FuncData} (F : Fun K "__init__" "BadText.__init__" s_BadText_init fI fd) (z_TapeError : TeC K mg "TapeError" CT) (O : OexC K C) (hm : mg "BadText" = some (.ref C)) (iC : PySem.W.findIn K (.ref C) "__init__" = some (some (.ref fI)))
    (tI : PySem.W.typeIn K (.ref fI) = some (.type "function")) (no : PySem.W.findIn K (.ref C) "place" = some none) : Rz P w K mg base "BadText" C "place" := by
  refine ⟨O, hm, fI, fd, iC, tI, ?_, F.binds fun _ _ _ _ _ _ us hl => match us, hl with | [_, _], _ => rfl⟩
  refine F.ok sc_BadText_init (fun vs H Q E h => ?_) (fun cdv A outer s H vs Q E hr h => ?_)
  · obtain ⟨_, _, rfl, _⟩ := h
    rfl
  · obtain ⟨a, v, rfl, ha, k⟩ := h
    exact ⟨_, (pss_cons (ps_expr (pe_teinitK K rfl z_TapeError (pa_cons (pv 0) (pa_cons (pv 1) pa_nil))))
 (pss_cons (ps_ostK K rfl (pv 0) (pv 1))
 pss_nil)), .ref a, rfl, v, rfl, a, C, [v], rfl, by show 1 ≤ 1000; decide, O, ha, v, rfl, .ref a, rfl, a, C, rfl, O, no, .inl ⟨ha, fun dx n ne => k dx n ne⟩⟩
end
/-- an exception of C with f = v in its own dict -/
def RetE (C : Addr) (f : Str) (v : V) (H : Hp) (E : XK) : Prop := ∀ d H2, H d = none → Ex H H2 → H2 d = some (.xd [(f, v)]) → E (.ref C) (some d) H2
section
variable {o : Option Addr} {F F1 H : Hp} {C : Addr} {f : Str} {v : V} {E : XK}
theorem RetE.out (k : RetE C f v H E) (e : Ex H F1) : ∀ H1, Wd o F1 H1 → ∀ d H2, H1 d = none → Ex H1 H2 → H2 d = some (.xd [(f, v)]) → E (.ref C) (some d) H2 := fun H1 w d H2 n e2 hx => k d H2 ((e.trans w.ex).free n) ((e.trans w.ex).trans e2) hx
theorem RetE.use (w : Wd o F H) (k : ∀ d H2, Wd o F H2 → H2 d = some (.xd [(f, v)]) → F d = none → (∀ b, o = some b → b ≠ d) → E (.ref C) (some d) H2) : RetE C f v H E := fun d H2 n e hx => k d H2 (w.up e) hx (w.fr n) (w.ned n)
end
/-! the first code that is none -/
def BadC (n i : Nat) (c : Int) : Prop := 200 ≤ i ∨ c < 0 ∨ (n : Int) + 2 ≤ c
def FirstB (n : Nat) (cs : List Int) : Option Nat → Prop
  | none => ∀ i c, cs[i]? = some c → ¬ BadC n i c
  | some i => (∃ c, cs[i]? = some c ∧ BadC n i c) ∧ ∀ j c, j < i → cs[j]? = some c → ¬ BadC n j c
theorem first_ex (n : Nat) (cs : List Int) : ∃ x, FirstB n cs x := by
  by_cases h : ∀ i c, cs[i]? = some c → ¬ BadC n i c
  · exact ⟨none, h⟩
  · have h : ∃ i, ∃ c, cs[i]? = some c ∧ BadC n i c := by
      refine Classical.byContradiction fun z => h fun i c hc hb => z ⟨i, c, hc, hb⟩
    have key : ∀ m i, i ≤ m → (∃ c, cs[i]? = some c ∧ BadC n i c) → ∃ x, FirstB n cs x := by
      intro m
      induction m with
      | zero =>
        intro i hi hb
        have : i = 0 := by omega
        subst this
        exact ⟨some 0, hb, fun j c hj => absurd hj (Nat.not_lt_zero _)⟩
      | succ m ih =>
        intro i hi hb
        by_cases h2 : ∃ j, j < i ∧ ∃ c, cs[j]? = some c ∧ BadC n j c
        · obtain ⟨j, hj, hb2⟩ := h2
          exact ih j (by omega) hb2
        · exact ⟨some i, hb, fun j c hj hc hb3 => h2 ⟨j, hj, c, hc, hb3⟩⟩
    obtain ⟨i, hb⟩ := h
    exact key i i (Nat.le_refl _) hb
theorem first_uq {n : Nat} {cs : List Int} {x : Option Nat} {i : Nat} {c : Int} (h : FirstB n cs x) (hc : cs[i]? = some c) (hb : BadC n i c) (hp : ∀ j d, j < i → cs[j]? = some d → ¬ BadC n j d) : x = some i := by
  cases x with
  | none => exact absurd hb (h i c hc)
  | some j =>
    obtain ⟨⟨d, hd, hb2⟩, h2⟩ := h
    by_cases h3 : j < i
    · exact absurd hb2 (hp j d h3 hd)
    · by_cases h4 : i < j
      · exact absurd hb (h2 i c h4 hc)
      · rw [show j = i by omega]
section
variable {P : Program} {w : World} {K : PySem.W.Frag} {mg : Str → Option Value} {base : Heap}
def sp_need_tapeX (K : PySem.W.Frag) (CA : Addr) : Sp := fun vs H Q E => ∃ (s t : Addr) (A B : List Nat) (cs : List Int) (x : Option Nat), vs = [.ref s, .ref t] ∧ SetsAt K H s A B ∧ SqL K H t (il cs) ∧ A.length ≤ 100 ∧ cs.length ≤ 1000 ∧ FirstB A.length cs x ∧
  (match x with | none => RetV .non H Q | some i => RetE CA "at" (.int (i : Nat)) H E)
theorem wp_need_tapeX {o : Option Addr} {F : Hp} {Pq : V → Hp → Prop} {CA s t : Addr} {A B : List Nat} {cs : List Int} {x : Option Nat} {E : XK} (hS : SetsAt K F s A B) (hT : SqL K F t (il cs)) (hA : A.length ≤ 100) (hl : cs.length ≤ 1000) (hx : FirstB A.length cs x)
    (q1 : x = none → Pq .non F) (q2 : ∀ i, x = some i → ∀ d H2, Wd o F H2 → H2 d = some (.xd [("at", .int (i : Nat))]) → F d = none → (∀ b, o = some b → b ≠ d) → E (.ref CA) (some d) H2) : Wp o (fun H Q => sp_need_tapeX K CA ([.ref s, .ref t] ++ []) H Q E) F Pq := fun H w Q k =>
  ⟨s, t, A, B, cs, x, rfl, w.t hS, w.l hT, hA, hl, hx, by
    cases x with
    | none => exact RetV.use w (q1 rfl) k
    | some i => exact RetE.use w (q2 i rfl)⟩
theorem pm_need_tapeX {CA : Addr} (D : DefAt K mg "need_tape" s_need_tape) (B : Bl mg) (c_MOST_CODES : ∃ t, mg "MOST_CODES" = some (.int 200 t)) (z_BadTape : Rz P w K mg base "BadTape" CA "at") : Pm P w K mg base (L2N.CX P w) 3 "need_tape" ["sets", "tape"] (sp_need_tapeX K CA) := by
  obtain ⟨f, fd, F, hm⟩ := D
  refine ⟨f, fd, ?_, hm, F.kp, F.binds fun _ _ _ _ _ _ us hl => match us, hl with | [_, _], _ => rfl⟩
  refine okXN F sc_need_tape (fun vs H Q E h => ?_) (fun cdv A outer s H vs Q E hr h => ?_)
  · obtain ⟨_, _, _, _, _, _, rfl, _⟩ := h
    rfl
  · obtain ⟨s, t, A', B', cs, x, rfl, hS, hT, hA, hl, hx, k⟩ := h
    refine ⟨_, (pss_cons (ps_for (passes_of rfl) rfl (piE K rfl B.enumerate (pa_cons (pv 1) pa_nil)) (pgT K rfl (n := 2) rfl (pgs_cons (pg_name (i := 2) sc_need_tape.nd rfl (Or.inl rfl)) (pgs_cons (pg_name (i := 3) sc_need_tape.nd rfl (Or.inl rfl)) pgs_nil)))
 (pss_cons (ps_if (PW.pt (pw_or (pt_cmpR op_ge (pv 2) (pe_cst c_MOST_CODES) (nomark _)) (pw_or1 (pt_not (pt_chain op_le op_lt pe_int (pv 3) (pe_op op_addP (pe_callB (lenK K rfl) (by rfl) B.len PySem.boot_len (pa_cons (pe_ix (ixK K rfl) (pv 0) pe_int (fun _ _ => rfl)) pa_nil)) pe_int))))))
 (pss_cons (ps_rz z_BadTape rfl (hr.mono (by decide)) (L2N.takes_of rfl rfl rfl rfl) (pa_cons (pv 2) pa_nil))
 pss_nil)
 pss_nil)
 pss_nil))
 pss_nil), ?_⟩
    refine go_st (σ := [some (.ref s), some (.ref t), none, none]) rfl ?_
    refine go_forE (fun i σ F => ∃ x y, σ = [some (.ref s), some (.ref t), x, y] ∧ Ex H F ∧ ∀ j c, j < i → cs[j]? = some c → ¬ BadC A'.length j c) ?_
    wtm_at "r"
    refine ⟨t, il cs, rfl, hT, ⟨none, none, rfl, exr H, fun j c hj => absurd hj (Nat.not_lt_zero _)⟩, fun i σ F hi ⟨_, _, _, e, _⟩ => ex_l e hT, ?_, ?_⟩
    · rintro i y σ F p hy hp ⟨x0, y0, rfl, e, hg⟩
      obtain ⟨c, hcy, rfl, hmem⟩ := il_at hy
      have hi : i < cs.length := (List.getElem?_eq_some_iff.mp hcy).1
      have ep : Ex H (upd F p (.tup [.int (i : Nat), .int c])) := e.trans (ex_new hp)
      have hS2 := ex_t ep hS
      have boom : BadC A'.length i c → ∀ H1, Wd none (upd F p (.tup [.int (i : Nat), .int c])) H1 → ∀ d H2, H1 d = none → Ex H1 H2 → H2 d = some (.xd [("at", .int (i : Nat))]) → E (.ref CA) (some d) H2 := fun hb => by
        have ex := first_uq hx hcy hb hg
        subst ex
        exact RetE.out k ep
      wtm_at "r"
      refine ⟨fun h1 => ?_, fun h1 => ?_⟩
      · have h1 := of_decide_eq_true h1
        refine bT rfl ?_
        refine go_rz ?_
        wtm_at "r"
        exact ⟨_, rfl, boom (.inl (by omega))⟩
      · have h1 := of_decide_eq_false h1
        wtm_at "r"
        refine ⟨fun h2 => ?_, fun h2 => ?_⟩
        · have h2 := of_decide_eq_true h2
          wtm_at "r"
          refine ⟨fun h3 => ?_, fun h3 => ?_⟩
          · have h3 : ¬ c < (A'.length : Int) + 2 := by simpa using h3
            refine go_rz ?_
            wtm_at "r"
            exact ⟨_, rfl, boom (.inr (.inr (by omega)))⟩
          · have h3 : c < (A'.length : Int) + 2 := by simpa using h3
            wtm_at "r"
            refine go_turn rfl ⟨_, _, rfl, ep, fun j c2 hj hc2 hb => ?_⟩
            by_cases hji : j < i
            · exact hg j c2 hji hc2 hb
            · have : j = i := by omega
              subst this
              rw [hcy] at hc2
              cases hc2
              rcases hb with hb | hb | hb <;> omega
        · have h2 := of_decide_eq_false h2
          wtm_at "r"
          refine bT rfl ?_
          refine go_rz ?_
          wtm_at "r"
          exact ⟨_, rfl, boom (.inr (.inl (by omega)))⟩
    · rintro σ F ⟨_, _, rfl, e, hg⟩
      have ex : x = none := by
        cases x with
        | none => rfl
        | some i =>
          obtain ⟨⟨c, hc, hb⟩, _⟩ := hx
          exact absurd hb (hg i c (by rw [List.length_map]; exact (List.getElem?_eq_some_iff.mp hc).1) hc)
      subst ex
      exact RetV.out k e
end
/-! ### sets that cannot be: refused ahead of all else -/
/-- what is refused of two texts: the first one, or the second -/
def wFirst : List Nat := [102, 105, 114, 115, 116]
def wSecond : List Nat := [115, 101, 99, 111, 110, 100]
def BadS (A B l : List Nat) : Prop := (l = wFirst ∧ (A.length = 0 ∨ 10 < A.length ∨ dd A ≠ A.length)) ∨ (l = wSecond ∧ 1 ≤ A.length ∧ A.length ≤ 10 ∧ dd A = A.length ∧ (B.length ≠ A.length ∨ dd B ≠ B.length))
section
variable {P : Program} {w : World} {K : PySem.W.Frag} {mg : Str → Option Value} {base : Heap}
def sp_badS (K : PySem.W.Frag) (CS : Addr) (n : Nat) : Sp := fun vs H Q E => ∃ (s : Addr) (A B l : List Nat) (r : List V), vs = .ref s :: r ∧ r.length = n ∧ SetsAt K H s A B ∧ A.length ≤ 100 ∧ B.length ≤ 100 ∧ BadS A B l ∧ RetE CS "why" (.str (tx l)) H E
theorem RetE.at {o : Option Addr} {F H H1 : Hp} {C : Addr} {f : Str} {v : V} {E : XK} (k : RetE C f v H E) (e : Ex H F) (w : Wd o F H1) : RetE C f v H1 E := fun d H2 n e2 hx => k d H2 ((e.trans w.ex).free n) ((e.trans w.ex).trans e2) hx
theorem wp_badS {o : Option Addr} {F H0 : Hp} {Pq : V → Hp → Prop} {CS s : Addr} {A B l : List Nat} {r : List V} {n : Nat} {E : XK} (hS : SetsAt K F s A B) (hr : r.length = n) (hA : A.length ≤ 100) (hB : B.length ≤ 100) (hb : BadS A B l) (k : RetE CS "why" (.str (tx l)) H0 E) (e : Ex H0 F) :
    Wp o (fun H Q => sp_badS K CS n ((.ref s :: r) ++ []) H Q E) F Pq := fun H w Q _ => ⟨s, A, B, l, r, List.append_nil _, hr, w.t hS, hA, hB, hb, k.at e w⟩
theorem pm_need_setsX {CS : Addr} (D : DefAt K mg "need_sets" s_need_sets) (B : Bl mg) (c_MOST_SIGNS : ∃ t, mg "MOST_SIGNS" = some (.int 10 t)) (z_BadSets : Rz P w K mg base "BadSets" CS "why") : Pm P w K mg base (L2N.CX P w) 3 "need_sets" ["sets"] (sp_badS K CS 0) := by
  obtain ⟨f, fd, F, hm⟩ := D
  refine ⟨f, fd, ?_, hm, F.kp, F.binds fun _ _ _ _ _ _ us hl => match us, hl with | [_], _ => rfl⟩
  refine okXN F sc_need_sets (fun vs H Q E h => ?_) (fun cdv A outer s H vs Q E hr h => ?_)
  · obtain ⟨_, _, _, _, _, rfl, h, _⟩ := h
    rw [List.length_cons, h]
    rfl
  · obtain ⟨s, A', B', l, r, rfl, hn, hS, hA, hB, hb, k⟩ := h
    have hr0 : r = [] := List.length_eq_zero_iff.mp hn
    subst hr0
    refine ⟨_, (pss_cons (ps_asg (pv 0) (pgT K rfl (n := 2) rfl (pgs_cons (pg_name (i := 1) sc_need_sets.nd rfl (Or.inl rfl)) (pgs_cons (pg_name (i := 2) sc_need_sets.nd rfl (Or.inl rfl)) pgs_nil))))
 (pss_cons (ps_if (pt_not (pt_chain op_le op_le pe_int (pe_callB (lenK K rfl) (by rfl) B.len PySem.boot_len (pa_cons (pv 1) pa_nil)) (pe_cst c_MOST_SIGNS)))
 (pss_cons (ps_rz z_BadSets rfl (hr.mono (by decide)) (L2N.takes_of rfl rfl rfl rfl) (pa_cons (pe_strT (l := [102, 105, 114, 115, 116]) (by decide +kernel)) pa_nil))
 pss_nil)
 pss_nil)
 (pss_cons (ps_if (pt_cmpR (neK K rfl hr.units) (pe_lenSg rfl B.len B.set (pv 1)) (pe_callB (lenK K rfl) (by rfl) B.len PySem.boot_len (pa_cons (pv 1) pa_nil)) (nomark _))
 (pss_cons (ps_rz z_BadSets rfl (hr.mono (by decide)) (L2N.takes_of rfl rfl rfl rfl) (pa_cons (pe_strT (l := [102, 105, 114, 115, 116]) (by decide +kernel)) pa_nil))
 pss_nil)
 pss_nil)
 (pss_cons (ps_if (PW.pt (pw_or (pt_cmpR (neK K rfl hr.units) (pe_callB (lenK K rfl) (by rfl) B.len PySem.boot_len (pa_cons (pv 2) pa_nil)) (pe_callB (lenK K rfl) (by rfl) B.len PySem.boot_len (pa_cons (pv 1) pa_nil)) (nomark _)) (pw_or1 (pt_cmpR (neK K rfl hr.units) (pe_lenSg rfl B.len B.set (pv 2)) (pe_callB (lenK K rfl) (by rfl) B.len PySem.boot_len (pa_cons (pv 2) pa_nil)) (nomark _)))))
 (pss_cons (ps_rz z_BadSets rfl (hr.mono (by decide)) (L2N.takes_of rfl rfl rfl rfl) (pa_cons (pe_strT (l := [115, 101, 99, 111, 110, 100]) (by decide +kernel)) pa_nil))
 pss_nil)
 pss_nil)
 pss_nil)))), ?_⟩
    refine go_st (σ := [some (.ref s), none, none]) rfl ?_
    have boom1 : l = wFirst → ∀ H1, Wd none H H1 → ∀ d H2, H1 d = none → Ex H1 H2 → H2 d = some (.xd [("why", .str (tx [102, 105, 114, 115, 116]))]) → E (.ref CS) (some d) H2 := fun el => by
      subst el
      exact RetE.out k (exr H)
    have boom2 : l = wSecond → ∀ H1, Wd none H H1 → ∀ d H2, H1 d = none → Ex H1 H2 → H2 d = some (.xd [("why", .str (tx [115, 101, 99, 111, 110, 100]))]) → E (.ref CS) (some d) H2 := fun el => by
      subst el
      exact RetE.out k (exr H)
    rcases hb with ⟨el, hb⟩ | ⟨el, h1, h2, h3, hb⟩
    · wtm_at "r"
      refine ⟨fun c1 => ?_, fun c1 => ?_⟩
      · have c1 := of_decide_eq_true c1
        wtm_at "r"
        refine ⟨fun c2 => ?_, fun c2 => ?_⟩
        · refine go_rz ?_
          wtm_at "r"
          exact ⟨_, rfl, boom1 el⟩
        · have c2 : A'.length ≤ 10 := by simp at c2; omega
          wtm_at "r"
          refine wp_lenSg ?_
          wtm_at "r"
          refine ⟨by omega, ?_⟩
          wtm_at "r"
          refine bT (by wtm_at "dec") ?_
          refine go_rz ?_
          wtm_at "r"
          exact ⟨_, rfl, boom1 el⟩
      · wtm_at "r"
        refine bT rfl ?_
        refine go_rz ?_
        wtm_at "r"
        exact ⟨_, rfl, boom1 el⟩
    · wtm_at "r"
      refine bT (by wtm_at "dec") ?_
      wtm_at "r"
      refine bF (by wtm_at "dec") ?_
      wtm_at "r"
      refine wp_lenSg ?_
      wtm_at "r"
      refine ⟨by omega, ?_⟩
      wtm_at "r"
      refine bF (by wtm_at "dec") ?_
      wtm_at "r"
      refine ⟨fun c1 => ?_, fun c1 => ?_⟩
      · refine bT rfl ?_
        refine go_rz ?_
        wtm_at "r"
        exact ⟨_, rfl, boom2 el⟩
      · have c1 : B'.length = A'.length := by simp at c1; omega
        wtm_at "r"
        refine wp_lenSg ?_
        wtm_at "r"
        refine ⟨by omega, ?_⟩
        wtm_at "r"
        refine bT (by wtm_at "dec") ?_
        refine go_rz ?_
        wtm_at "r"
        exact ⟨_, rfl, boom2 el⟩
theorem pm_need_allX {CS : Addr} (D : DefAt K mg "need_all" s_need_all) (B : Bl mg) (g_need_sets_x : Pm P w K mg base (L2N.CX P w) 3 "need_sets" ["sets"] (sp_badS K CS 0)) : Pm P w K mg base (L2N.CX P w) 4 "need_all" ["sets", "tape", "state"] (sp_badS K CS 2) := by
  obtain ⟨f, fd, F, hm⟩ := D
  refine ⟨f, fd, ?_, hm, F.kp, F.binds fun _ _ _ _ _ _ us hl => match us, hl with | [_, _, _], _ => rfl⟩
  refine okXN F sc_need_all (fun vs H Q E h => ?_) (fun cdv A outer s H vs Q E hr h => ?_)
  · obtain ⟨_, _, _, _, _, rfl, h, _⟩ := h
    rw [List.length_cons, h]
    rfl
  · obtain ⟨s, A', B', l, r, rfl, hn, hS, hA, hB, hb, k⟩ := h
    obtain ⟨x0, x1, rfl⟩ : ∃ x0 x1, r = [x0, x1] := match r, hn with | [x0, x1], _ => ⟨x0, x1, rfl⟩
    refine ⟨_, (pss_cons (ps_expr (pe_pm g_need_sets_x (hr.mono (by decide)) (L2N.passes_call (L2N.takes_of rfl rfl rfl rfl) (fun _ _ _ _ h => h)) (pa_cons (pv 0) pa_nil)))
 pss_never), ?_⟩
    refine go_st (σ := [some (.ref s), some (x0), some (x1)]) rfl ?_
    wtm_at "r"
    exact wp_badS hS rfl hA hB hb k (exr H)
theorem pm_readX {CS : Addr} (D : DefAt K mg "read" s_read) (B : Bl mg) (g_need_all_x : Pm P w K mg base (L2N.CX P w) 4 "need_all" ["sets", "tape", "state"] (sp_badS K CS 2)) : Pm P w K mg base (L2N.CX P w) 5 "read" ["sets", "tape", "state"] (sp_badS K CS 2) := by
  obtain ⟨f, fd, F, hm⟩ := D
  refine ⟨f, fd, ?_, hm, F.kp, F.binds fun _ _ _ _ _ _ us hl => match us, hl with | [_, _, _], _ => rfl⟩
  refine okXN F sc_read (fun vs H Q E h => ?_) (fun cdv A outer s H vs Q E hr h => ?_)
  · obtain ⟨_, _, _, _, _, rfl, h, _⟩ := h
    rw [List.length_cons, h]
    rfl
  · obtain ⟨s, A', B', l, r, rfl, hn, hS, hA, hB, hb, k⟩ := h
    obtain ⟨x0, x1, rfl⟩ : ∃ x0 x1, r = [x0, x1] := match r, hn with | [x0, x1], _ => ⟨x0, x1, rfl⟩
    refine ⟨_, (pss_cons (ps_expr (pe_pm g_need_all_x (hr.mono (by decide)) (L2N.passes_call (L2N.takes_of rfl rfl rfl rfl) (fun _ _ _ _ h => h)) (pa_cons (pv 0) (pa_cons (pv 1) (pa_cons (pv 2) pa_nil)))))
 pss_never), ?_⟩
    refine go_st (σ := [some (.ref s), some (x0), some (x1)]) rfl ?_
    wtm_at "r"
    exact wp_badS hS rfl hA hB hb k (exr H)
abbrev s_losses : Stmt := topS 22
abbrev n_losses : List Str := ["sets", "tape", "state", "at"]
theorem sc_losses : FnScope n_losses ["sets", "tape", "state"] (defScope s_losses) := ⟨rfl, rfl, rfl, by decide +kernel, rfl, by decide +kernel, by decide +kernel⟩

theorem pm_lossesX {CS : Addr} (D : DefAt K mg "losses" s_losses) (B : Bl mg) (g_need_all_x : Pm P w K mg base (L2N.CX P w) 4 "need_all" ["sets", "tape", "state"] (sp_badS K CS 2)) : Pm P w K mg base (L2N.CX P w) 5 "losses" ["sets", "tape", "state"] (sp_badS K CS 2) := by
  obtain ⟨f, fd, F, hm⟩ := D
  refine ⟨f, fd, ?_, hm, F.kp, F.binds fun _ _ _ _ _ _ us hl => match us, hl with | [_, _, _], _ => rfl⟩
  refine okXN F sc_losses (fun vs H Q E h => ?_) (fun cdv A outer s H vs Q E hr h => ?_)
  · obtain ⟨_, _, _, _, _, rfl, h, _⟩ := h
    rw [List.length_cons, h]
    rfl
  · obtain ⟨s, A', B', l, r, rfl, hn, hS, hA, hB, hb, k⟩ := h
    obtain ⟨x0, x1, rfl⟩ : ∃ x0 x1, r = [x0, x1] := match r, hn with | [x0, x1], _ => ⟨x0, x1, rfl⟩
    refine ⟨_, (pss_cons (ps_expr (pe_pm g_need_all_x (hr.mono (by decide)) (L2N.passes_call (L2N.takes_of rfl rfl rfl rfl) (fun _ _ _ _ h => h)) (pa_cons (pv 0) (pa_cons (pv 1) (pa_cons (pv 2) pa_nil)))))
 pss_never), ?_⟩
    refine go_st (σ := [some (.ref s), some (x0), some (x1), none]) rfl ?_
    wtm_at "r"
    exact wp_badS hS rfl hA hB hb k (exr H)
abbrev s_worst : Stmt := topS 23
abbrev n_worst : List Str := ["sets", "tape", "state", "found"]
theorem sc_worst : FnScope n_worst ["sets", "tape", "state"] (defScope s_worst) := ⟨rfl, rfl, rfl, by decide +kernel, rfl, by decide +kernel, by decide +kernel⟩

theorem pm_worstX {CS : Addr} (D : DefAt K mg "worst" s_worst) (B : Bl mg) (g_losses_x : Pm P w K mg base (L2N.CX P w) 5 "losses" ["sets", "tape", "state"] (sp_badS K CS 2)) : Pm P w K mg base (L2N.CX P w) 6 "worst" ["sets", "tape", "state"] (sp_badS K CS 2) := by
  obtain ⟨f, fd, F, hm⟩ := D
  refine ⟨f, fd, ?_, hm, F.kp, F.binds fun _ _ _ _ _ _ us hl => match us, hl with | [_, _, _], _ => rfl⟩
  refine okXN F sc_worst (fun vs H Q E h => ?_) (fun cdv A outer s H vs Q E hr h => ?_)
  · obtain ⟨_, _, _, _, _, rfl, h, _⟩ := h
    rw [List.length_cons, h]
    rfl
  · obtain ⟨s, A', B', l, r, rfl, hn, hS, hA, hB, hb, k⟩ := h
    obtain ⟨x0, x1, rfl⟩ : ∃ x0 x1, r = [x0, x1] := match r, hn with | [x0, x1], _ => ⟨x0, x1, rfl⟩
    refine ⟨_, (pss_cons (ps_set (i := 3) sc_worst.nd rfl (Or.inl rfl) (pe_pm g_losses_x (hr.mono (by decide)) (L2N.passes_call (L2N.takes_of rfl rfl rfl rfl) (fun _ _ _ _ h => h)) (pa_cons (pv 0) (pa_cons (pv 1) (pa_cons (pv 2) pa_nil)))))
 pss_never), ?_⟩
    refine go_st (σ := [some (.ref s), some (x0), some (x1), none]) rfl ?_
    wtm_at "r"
    exact wp_badS hS rfl hA hB hb k (exr H)
abbrev s_by_state : Stmt := topS 24
abbrev n_by_state : List Str := ["sets", "tape"]
theorem sc_by_state : FnScope n_by_state ["sets", "tape"] (defScope s_by_state) := ⟨rfl, rfl, rfl, by decide +kernel, rfl, by decide +kernel, by decide +kernel⟩

theorem pm_by_stateX {CS : Addr} (D : DefAt K mg "by_state" s_by_state) (B : Bl mg) (g_need_sets_x : Pm P w K mg base (L2N.CX P w) 3 "need_sets" ["sets"] (sp_badS K CS 0)) : Pm P w K mg base (L2N.CX P w) 4 "by_state" ["sets", "tape"] (sp_badS K CS 1) := by
  obtain ⟨f, fd, F, hm⟩ := D
  refine ⟨f, fd, ?_, hm, F.kp, F.binds fun _ _ _ _ _ _ us hl => match us, hl with | [_, _], _ => rfl⟩
  refine okXN F sc_by_state (fun vs H Q E h => ?_) (fun cdv A outer s H vs Q E hr h => ?_)
  · obtain ⟨_, _, _, _, _, rfl, h, _⟩ := h
    rw [List.length_cons, h]
    rfl
  · obtain ⟨s, A', B', l, r, rfl, hn, hS, hA, hB, hb, k⟩ := h
    obtain ⟨x0, rfl⟩ : ∃ x0, r = [x0] := match r, hn with | [x0], _ => ⟨x0, rfl⟩
    refine ⟨_, (pss_cons (ps_expr (pe_pm g_need_sets_x (hr.mono (by decide)) (L2N.passes_call (L2N.takes_of rfl rfl rfl rfl) (fun _ _ _ _ h => h)) (pa_cons (pv 0) pa_nil)))
 pss_never), ?_⟩
    refine go_st (σ := [some (.ref s), some (x0)]) rfl ?_
    wtm_at "r"
    exact wp_badS hS rfl hA hB hb k (exr H)
abbrev s_least : Stmt := topS 32
abbrev n_least : List Str := ["sets", "text", "state"]
theorem sc_least : FnScope n_least ["sets", "text", "state"] (defScope s_least) := ⟨rfl, rfl, rfl, by decide +kernel, rfl, by decide +kernel, by decide +kernel⟩

theorem pm_leastX {CS : Addr} (D : DefAt K mg "least" s_least) (B : Bl mg) (g_need_sets_x : Pm P w K mg base (L2N.CX P w) 3 "need_sets" ["sets"] (sp_badS K CS 0)) : Pm P w K mg base (L2N.CX P w) 4 "least" ["sets", "text", "state"] (sp_badS K CS 2) := by
  obtain ⟨f, fd, F, hm⟩ := D
  refine ⟨f, fd, ?_, hm, F.kp, F.binds fun _ _ _ _ _ _ us hl => match us, hl with | [_, _, _], _ => rfl⟩
  refine okXN F sc_least (fun vs H Q E h => ?_) (fun cdv A outer s H vs Q E hr h => ?_)
  · obtain ⟨_, _, _, _, _, rfl, h, _⟩ := h
    rw [List.length_cons, h]
    rfl
  · obtain ⟨s, A', B', l, r, rfl, hn, hS, hA, hB, hb, k⟩ := h
    obtain ⟨x0, x1, rfl⟩ : ∃ x0 x1, r = [x0, x1] := match r, hn with | [x0, x1], _ => ⟨x0, x1, rfl⟩
    refine ⟨_, (pss_cons (ps_expr (pe_pm g_need_sets_x (hr.mono (by decide)) (L2N.passes_call (L2N.takes_of rfl rfl rfl rfl) (fun _ _ _ _ h => h)) (pa_cons (pv 0) pa_nil)))
 pss_never), ?_⟩
    refine go_st (σ := [some (.ref s), some (x0), some (x1)]) rfl ?_
    wtm_at "r"
    exact wp_badS hS rfl hA hB hb k (exr H)
abbrev s_guarded : Stmt := topS 35
abbrev n_guarded : List Str := ["sets", "text", "state", "most"]
theorem sc_guarded : FnScope n_guarded ["sets", "text", "state", "most"] (defScope s_guarded) := ⟨rfl, rfl, rfl, by decide +kernel, rfl, by decide +kernel, by decide +kernel⟩

theorem pm_guardedX {CS : Addr} (D : DefAt K mg "guarded" s_guarded) (B : Bl mg) (g_need_sets_x : Pm P w K mg base (L2N.CX P w) 3 "need_sets" ["sets"] (sp_badS K CS 0)) : Pm P w K mg base (L2N.CX P w) 4 "guarded" ["sets", "text", "state", "most"] (sp_badS K CS 3) := by
  obtain ⟨f, fd, F, hm⟩ := D
  refine ⟨f, fd, ?_, hm, F.kp, F.binds fun _ _ _ _ _ _ us hl => match us, hl with | [_, _, _, _], _ => rfl⟩
  refine okXN F sc_guarded (fun vs H Q E h => ?_) (fun cdv A outer s H vs Q E hr h => ?_)
  · obtain ⟨_, _, _, _, _, rfl, h, _⟩ := h
    rw [List.length_cons, h]
    rfl
  · obtain ⟨s, A', B', l, r, rfl, hn, hS, hA, hB, hb, k⟩ := h
    obtain ⟨x0, x1, x2, rfl⟩ : ∃ x0 x1 x2, r = [x0, x1, x2] := match r, hn with | [x0, x1, x2], _ => ⟨x0, x1, x2, rfl⟩
    refine ⟨_, (pss_cons (ps_expr (pe_pm g_need_sets_x (hr.mono (by decide)) (L2N.passes_call (L2N.takes_of rfl rfl rfl rfl) (fun _ _ _ _ h => h)) (pa_cons (pv 0) pa_nil)))
 pss_never), ?_⟩
    refine go_st (σ := [some (.ref s), some (x0), some (x1), some (x2)]) rfl ?_
    wtm_at "r"
    exact wp_badS hS rfl hA hB hb k (exr H)
abbrev s_trimmed : Stmt := topS 36
abbrev n_trimmed : List Str := ["sets", "tape", "state", "many", "found", "here", "code"]
theorem sc_trimmed : FnScope n_trimmed ["sets", "tape", "state"] (defScope s_trimmed) := ⟨rfl, rfl, rfl, by decide +kernel, rfl, by decide +kernel, by decide +kernel⟩

theorem pm_trimmedX {CS : Addr} (D : DefAt K mg "trimmed" s_trimmed) (B : Bl mg) (g_need_all_x : Pm P w K mg base (L2N.CX P w) 4 "need_all" ["sets", "tape", "state"] (sp_badS K CS 2)) : Pm P w K mg base (L2N.CX P w) 5 "trimmed" ["sets", "tape", "state"] (sp_badS K CS 2) := by
  obtain ⟨f, fd, F, hm⟩ := D
  refine ⟨f, fd, ?_, hm, F.kp, F.binds fun _ _ _ _ _ _ us hl => match us, hl with | [_, _, _], _ => rfl⟩
  refine okXN F sc_trimmed (fun vs H Q E h => ?_) (fun cdv A outer s H vs Q E hr h => ?_)
  · obtain ⟨_, _, _, _, _, rfl, h, _⟩ := h
    rw [List.length_cons, h]
    rfl
  · obtain ⟨s, A', B', l, r, rfl, hn, hS, hA, hB, hb, k⟩ := h
    obtain ⟨x0, x1, rfl⟩ : ∃ x0 x1, r = [x0, x1] := match r, hn with | [x0, x1], _ => ⟨x0, x1, rfl⟩
    refine ⟨_, (pss_cons (ps_expr (pe_pm g_need_all_x (hr.mono (by decide)) (L2N.passes_call (L2N.takes_of rfl rfl rfl rfl) (fun _ _ _ _ h => h)) (pa_cons (pv 0) (pa_cons (pv 1) (pa_cons (pv 2) pa_nil)))))
 pss_never), ?_⟩
    refine go_st (σ := [some (.ref s), some (x0), some (x1), none, none, none, none]) rfl ?_
    wtm_at "r"
    exact wp_badS hS rfl hA hB hb k (exr H)
abbrev s_joined : Stmt := topS 37
abbrev n_joined : List Str := ["sets", "one", "other", "state"]
theorem sc_joined : FnScope n_joined ["sets", "one", "other"] (defScope s_joined) := ⟨rfl, rfl, rfl, by decide +kernel, rfl, by decide +kernel, by decide +kernel⟩

theorem pm_joinedX {CS : Addr} (D : DefAt K mg "joined" s_joined) (B : Bl mg) (g_need_sets_x : Pm P w K mg base (L2N.CX P w) 3 "need_sets" ["sets"] (sp_badS K CS 0)) : Pm P w K mg base (L2N.CX P w) 4 "joined" ["sets", "one", "other"] (sp_badS K CS 2) := by
  obtain ⟨f, fd, F, hm⟩ := D
  refine ⟨f, fd, ?_, hm, F.kp, F.binds fun _ _ _ _ _ _ us hl => match us, hl with | [_, _, _], _ => rfl⟩
  refine okXN F sc_joined (fun vs H Q E h => ?_) (fun cdv A outer s H vs Q E hr h => ?_)
  · obtain ⟨_, _, _, _, _, rfl, h, _⟩ := h
    rw [List.length_cons, h]
    rfl
  · obtain ⟨s, A', B', l, r, rfl, hn, hS, hA, hB, hb, k⟩ := h
    obtain ⟨x0, x1, rfl⟩ : ∃ x0 x1, r = [x0, x1] := match r, hn with | [x0, x1], _ => ⟨x0, x1, rfl⟩
    refine ⟨_, (pss_cons (ps_expr (pe_pm g_need_sets_x (hr.mono (by decide)) (L2N.passes_call (L2N.takes_of rfl rfl rfl rfl) (fun _ _ _ _ h => h)) (pa_cons (pv 0) pa_nil)))
 pss_never), ?_⟩
    refine go_st (σ := [some (.ref s), some (x0), some (x1), none]) rfl ?_
    wtm_at "r"
    exact wp_badS hS rfl hA hB hb k (exr H)
abbrev s_cut : Stmt := topS 38
abbrev n_cut : List Str := ["sets", "tape", "at", "state", "rest"]
theorem sc_cut : FnScope n_cut ["sets", "tape", "at"] (defScope s_cut) := ⟨rfl, rfl, rfl, by decide +kernel, rfl, by decide +kernel, by decide +kernel⟩

theorem pm_cutX {CS : Addr} (D : DefAt K mg "cut" s_cut) (B : Bl mg) (g_need_sets_x : Pm P w K mg base (L2N.CX P w) 3 "need_sets" ["sets"] (sp_badS K CS 0)) : Pm P w K mg base (L2N.CX P w) 4 "cut" ["sets", "tape", "at"] (sp_badS K CS 2) := by
  obtain ⟨f, fd, F, hm⟩ := D
  refine ⟨f, fd, ?_, hm, F.kp, F.binds fun _ _ _ _ _ _ us hl => match us, hl with | [_, _, _], _ => rfl⟩
  refine okXN F sc_cut (fun vs H Q E h => ?_) (fun cdv A outer s H vs Q E hr h => ?_)
  · obtain ⟨_, _, _, _, _, rfl, h, _⟩ := h
    rw [List.length_cons, h]
    rfl
  · obtain ⟨s, A', B', l, r, rfl, hn, hS, hA, hB, hb, k⟩ := h
    obtain ⟨x0, x1, rfl⟩ : ∃ x0 x1, r = [x0, x1] := match r, hn with | [x0, x1], _ => ⟨x0, x1, rfl⟩
    refine ⟨_, (pss_cons (ps_expr (pe_pm g_need_sets_x (hr.mono (by decide)) (L2N.passes_call (L2N.takes_of rfl rfl rfl rfl) (fun _ _ _ _ h => h)) (pa_cons (pv 0) pa_nil)))
 pss_never), ?_⟩
    refine go_st (σ := [some (.ref s), some (x0), some (x1), none, none]) rfl ?_
    wtm_at "r"
    exact wp_badS hS rfl hA hB hb k (exr H)
abbrev s_written : Stmt := topS 27
abbrev n_written : List Str := ["sets", "tape", "code"]
theorem sc_written : FnScope n_written ["sets", "tape"] (defScope s_written) := ⟨rfl, rfl, rfl, by decide +kernel, rfl, by decide +kernel, by decide +kernel⟩

theorem pm_writtenX {CS : Addr} (D : DefAt K mg "written" s_written) (B : Bl mg) (g_need_sets_x : Pm P w K mg base (L2N.CX P w) 3 "need_sets" ["sets"] (sp_badS K CS 0)) : Pm P w K mg base (L2N.CX P w) 4 "written" ["sets", "tape"] (sp_badS K CS 1) := by
  obtain ⟨f, fd, F, hm⟩ := D
  refine ⟨f, fd, ?_, hm, F.kp, F.binds fun _ _ _ _ _ _ us hl => match us, hl with | [_, _], _ => rfl⟩
  refine okXN F sc_written (fun vs H Q E h => ?_) (fun cdv A outer s H vs Q E hr h => ?_)
  · obtain ⟨_, _, _, _, _, rfl, h, _⟩ := h
    rw [List.length_cons, h]
    rfl
  · obtain ⟨s, A', B', l, r, rfl, hn, hS, hA, hB, hb, k⟩ := h
    obtain ⟨x0, rfl⟩ : ∃ x0, r = [x0] := match r, hn with | [x0], _ => ⟨x0, rfl⟩
    refine ⟨_, (pss_cons (ps_expr (pe_pm g_need_sets_x (hr.mono (by decide)) (L2N.passes_call (L2N.takes_of rfl rfl rfl rfl) (fun _ _ _ _ h => h)) (pa_cons (pv 0) pa_nil)))
 pss_never), ?_⟩
    refine go_st (σ := [some (.ref s), some (x0), none]) rfl ?_
    wtm_at "r"
    exact wp_badS hS rfl hA hB hb k (exr H)
abbrev s_read_tape : Stmt := topS 28
abbrev n_read_tape : List Str := ["sets", "text", "found", "words", "place", "word", "sign"]
theorem sc_read_tape : FnScope n_read_tape ["sets", "text"] (defScope s_read_tape) := ⟨rfl, rfl, rfl, by decide +kernel, rfl, by decide +kernel, by decide +kernel⟩

theorem pm_read_tapeX {CS : Addr} (D : DefAt K mg "read_tape" s_read_tape) (B : Bl mg) (g_need_sets_x : Pm P w K mg base (L2N.CX P w) 3 "need_sets" ["sets"] (sp_badS K CS 0)) : Pm P w K mg base (L2N.CX P w) 4 "read_tape" ["sets", "text"] (sp_badS K CS 1) := by
  obtain ⟨f, fd, F, hm⟩ := D
  refine ⟨f, fd, ?_, hm, F.kp, F.binds fun _ _ _ _ _ _ us hl => match us, hl with | [_, _], _ => rfl⟩
  refine okXN F sc_read_tape (fun vs H Q E h => ?_) (fun cdv A outer s H vs Q E hr h => ?_)
  · obtain ⟨_, _, _, _, _, rfl, h, _⟩ := h
    rw [List.length_cons, h]
    rfl
  · obtain ⟨s, A', B', l, r, rfl, hn, hS, hA, hB, hb, k⟩ := h
    obtain ⟨x0, rfl⟩ : ∃ x0, r = [x0] := match r, hn with | [x0], _ => ⟨x0, rfl⟩
    refine ⟨_, (pss_cons (ps_expr (pe_pm g_need_sets_x (hr.mono (by decide)) (L2N.passes_call (L2N.takes_of rfl rfl rfl rfl) (fun _ _ _ _ h => h)) (pa_cons (pv 0) pa_nil)))
 pss_never), ?_⟩
    refine go_st (σ := [some (.ref s), some (x0), none, none, none, none, none]) rfl ?_
    wtm_at "r"
    exact wp_badS hS rfl hA hB hb k (exr H)
end
/-! ### _law_works: lambdas handed out -/
section
open LamX
variable {P : Program} {w : World} {K : PySem.W.Frag} {mg : Str → Option Value} {base : Heap}
abbrev s_q_works : Stmt := topS 47
abbrev n_q_works : List Str := ["_law_sets_here", "_law_works_here"]
theorem sc_q_works : FnScope n_q_works ["_law_sets_here"] (defScope s_q_works) := ⟨rfl, rfl, rfl, by decide +kernel, rfl, by decide +kernel, by decide +kernel⟩

abbrev qW : Str := ("_law_works" ++ ".<locals>." : Str) ++ "<lambda>"
def spS1 (K : PySem.W.Frag) (CS s : Addr) (A B l : List Nat) : Hp → VK → XK → Prop := fun H _ E => (SetsAt K H s A B ∧ A.length ≤ 100 ∧ B.length ≤ 100 ∧ BadS A B l) ∧ RetE CS "why" (.str (tx l)) H E
def sp_works (P : Program) (w : World) (K : PySem.W.Frag) (mg : Str → Option Value) (base : Heap) (CS pW : Addr) : Sp := fun vs H Q _ => ∃ (s : Addr) (A B l : List Nat), vs = [.ref s] ∧ SetsAt K H s A B ∧ A.length ≤ 100 ∧ B.length ≤ 100 ∧ BadS A B l ∧ Tabs [(pW, qW)] H ∧
  ∀ (p : Addr) (fs : List Addr) (H1 : Hp), ExtN H H1 → H1 p = some (.lst (fs.map V.ref)) → fs.length = 11 → (∀ f ∈ fs, FnHas P w K mg base 6 f (spS1 K CS s A B l) H1) → Q (.ref p) H1
theorem ex_lN {K : PySem.W.Frag} {F F1 : Hp} {a : Addr} {xs : List V} (e : ExtN F F1) (h : SqT K F a xs) : SqT K F1 a xs := by
  rcases h with (h | ⟨o, h⟩) | h
  · exact .inl (.inl (e _ _ h fun ps z => by cases z))
  · exact .inl (.inr ⟨o, e _ _ h fun ps z => by cases z⟩)
  · exact .inr h
theorem lam_0 {CS s : Addr} {A' B' l : List Nat} (g_read_x : Pm P w K mg base (L2N.CX P w) 5 "read" ["sets", "tape", "state"] (sp_badS K CS 2)) {cells : List (Str × Addr)} {f c' : Addr} {dv : Value} {F : Hp} (hc : F c' = some (CodeO c' qW)) (hf : F f = some (LamO f qW (lamPs s_q_works 0) (lamBd s_q_works 0) (lamSc s_q_works 0) (cloFrom cells (lamSc s_q_works 0).names []) c' dv))
    (hd : DvO F dv (lamPs s_q_works 0) []) : FnPre P w K mg base 6 cells n_q_works (defScope s_q_works) [some (.ref s), none] f (spS1 K CS s A' B' l) F := by
  refine ⟨qW, _, _, _, c', dv, [], _, lamN_by (by decide +kernel), hc, hf, hd, fun A outer s H E f c' cl hr' => (pe_pm g_read_x (Room.mono hr' (by decide)) (L2N.passes_call (L2N.takes_of rfl rfl rfl rfl) (fun _ _ _ _ h => h)) (pa_cons (pv 0) (pa_cons (pe_lst (pa_cons pe_int pa_nil)) (pa_cons pe_int pa_nil)))), fun H Q E h => ?_⟩
  obtain ⟨⟨hS, hA, hB, hb⟩, k⟩ := h
  refine (show Wp none (fun H Q => _) H (fun _ _ => False) from ?_) H (Wd.bare (exr H)) Q fun _ _ _ _ z => z.elim
  wtm_at "r"
  refine ⟨(by show 1 ≤ 100000; decide), ?_⟩
  wtm_at "gz"
  intro pd hpd Fd qd ed
  wtm_at "r"
  exact wp_badS (ex_t (ed) hS) rfl hA hB hb k (ed)
theorem lam_1 {CS s : Addr} {A' B' l : List Nat} (g_losses_x : Pm P w K mg base (L2N.CX P w) 5 "losses" ["sets", "tape", "state"] (sp_badS K CS 2)) {cells : List (Str × Addr)} {f c' : Addr} {dv : Value} {F : Hp} (hc : F c' = some (CodeO c' qW)) (hf : F f = some (LamO f qW (lamPs s_q_works 1) (lamBd s_q_works 1) (lamSc s_q_works 1) (cloFrom cells (lamSc s_q_works 1).names []) c' dv))
    (hd : DvO F dv (lamPs s_q_works 1) []) : FnPre P w K mg base 6 cells n_q_works (defScope s_q_works) [some (.ref s), none] f (spS1 K CS s A' B' l) F := by
  refine ⟨qW, _, _, _, c', dv, [], _, lamN_by (by decide +kernel), hc, hf, hd, fun A outer s H E f c' cl hr' => (pe_pm g_losses_x (Room.mono hr' (by decide)) (L2N.passes_call (L2N.takes_of rfl rfl rfl rfl) (fun _ _ _ _ h => h)) (pa_cons (pv 0) (pa_cons (pe_lst (pa_cons pe_int pa_nil)) (pa_cons pe_int pa_nil)))), fun H Q E h => ?_⟩
  obtain ⟨⟨hS, hA, hB, hb⟩, k⟩ := h
  refine (show Wp none (fun H Q => _) H (fun _ _ => False) from ?_) H (Wd.bare (exr H)) Q fun _ _ _ _ z => z.elim
  wtm_at "r"
  refine ⟨(by show 1 ≤ 100000; decide), ?_⟩
  wtm_at "gz"
  intro pd hpd Fd qd ed
  wtm_at "r"
  exact wp_badS (ex_t (ed) hS) rfl hA hB hb k (ed)
theorem lam_2 {CS s : Addr} {A' B' l : List Nat} (g_worst_x : Pm P w K mg base (L2N.CX P w) 6 "worst" ["sets", "tape", "state"] (sp_badS K CS 2)) {cells : List (Str × Addr)} {f c' : Addr} {dv : Value} {F : Hp} (hc : F c' = some (CodeO c' qW)) (hf : F f = some (LamO f qW (lamPs s_q_works 2) (lamBd s_q_works 2) (lamSc s_q_works 2) (cloFrom cells (lamSc s_q_works 2).names []) c' dv))
    (hd : DvO F dv (lamPs s_q_works 2) []) : FnPre P w K mg base 6 cells n_q_works (defScope s_q_works) [some (.ref s), none] f (spS1 K CS s A' B' l) F := by
  refine ⟨qW, _, _, _, c', dv, [], _, lamN_by (by decide +kernel), hc, hf, hd, fun A outer s H E f c' cl hr' => (pe_pm g_worst_x (Room.mono hr' (by decide)) (L2N.passes_call (L2N.takes_of rfl rfl rfl rfl) (fun _ _ _ _ h => h)) (pa_cons (pv 0) (pa_cons (pe_lst (pa_cons pe_int pa_nil)) (pa_cons pe_int pa_nil)))), fun H Q E h => ?_⟩
  obtain ⟨⟨hS, hA, hB, hb⟩, k⟩ := h
  refine (show Wp none (fun H Q => _) H (fun _ _ => False) from ?_) H (Wd.bare (exr H)) Q fun _ _ _ _ z => z.elim
  wtm_at "r"
  refine ⟨(by show 1 ≤ 100000; decide), ?_⟩
  wtm_at "gz"
  intro pd hpd Fd qd ed
  wtm_at "r"
  exact wp_badS (ex_t (ed) hS) rfl hA hB hb k (ed)
theorem lam_3 {CS s : Addr} {A' B' l : List Nat} (g_by_state_x : Pm P w K mg base (L2N.CX P w) 4 "by_state" ["sets", "tape"] (sp_badS K CS 1)) {cells : List (Str × Addr)} {f c' : Addr} {dv : Value} {F : Hp} (hc : F c' = some (CodeO c' qW)) (hf : F f = some (LamO f qW (lamPs s_q_works 3) (lamBd s_q_works 3) (lamSc s_q_works 3) (cloFrom cells (lamSc s_q_works 3).names []) c' dv))
    (hd : DvO F dv (lamPs s_q_works 3) []) : FnPre P w K mg base 6 cells n_q_works (defScope s_q_works) [some (.ref s), none] f (spS1 K CS s A' B' l) F := by
  refine ⟨qW, _, _, _, c', dv, [], _, lamN_by (by decide +kernel), hc, hf, hd, fun A outer s H E f c' cl hr' => (pe_pm g_by_state_x (Room.mono hr' (by decide)) (L2N.passes_call (L2N.takes_of rfl rfl rfl rfl) (fun _ _ _ _ h => h)) (pa_cons (pv 0) (pa_cons (pe_lst (pa_cons pe_int pa_nil)) pa_nil))), fun H Q E h => ?_⟩
  obtain ⟨⟨hS, hA, hB, hb⟩, k⟩ := h
  refine (show Wp none (fun H Q => _) H (fun _ _ => False) from ?_) H (Wd.bare (exr H)) Q fun _ _ _ _ z => z.elim
  wtm_at "r"
  refine ⟨(by show 1 ≤ 100000; decide), ?_⟩
  wtm_at "gz"
  intro pd hpd Fd qd ed
  wtm_at "r"
  exact wp_badS (ex_t (ed) hS) rfl hA hB hb k (ed)
theorem lam_4 {CS s : Addr} {A' B' l : List Nat} (g_least_x : Pm P w K mg base (L2N.CX P w) 4 "least" ["sets", "text", "state"] (sp_badS K CS 2)) {cells : List (Str × Addr)} {f c' : Addr} {dv : Value} {F : Hp} (hc : F c' = some (CodeO c' qW)) (hf : F f = some (LamO f qW (lamPs s_q_works 4) (lamBd s_q_works 4) (lamSc s_q_works 4) (cloFrom cells (lamSc s_q_works 4).names []) c' dv))
    (hd : DvO F dv (lamPs s_q_works 4) []) : FnPre P w K mg base 6 cells n_q_works (defScope s_q_works) [some (.ref s), none] f (spS1 K CS s A' B' l) F := by
  refine ⟨qW, _, _, _, c', dv, [], _, lamN_by (by decide +kernel), hc, hf, hd, fun A outer s H E f c' cl hr' => (pe_pm g_least_x (Room.mono hr' (by decide)) (L2N.passes_call (L2N.takes_of rfl rfl rfl rfl) (fun _ _ _ _ h => h)) (pa_cons (pv 0) (pa_cons (pe_strT (l := [126]) (by decide +kernel)) (pa_cons pe_int pa_nil)))), fun H Q E h => ?_⟩
  obtain ⟨⟨hS, hA, hB, hb⟩, k⟩ := h
  refine (show Wp none (fun H Q => _) H (fun _ _ => False) from ?_) H (Wd.bare (exr H)) Q fun _ _ _ _ z => z.elim
  wtm_at "r"
  exact wp_badS (ex_t (exr _) hS) rfl hA hB hb k (exr _)
theorem lam_5 {CS s : Addr} {A' B' l : List Nat} (g_guarded_x : Pm P w K mg base (L2N.CX P w) 4 "guarded" ["sets", "text", "state", "most"] (sp_badS K CS 3)) {cells : List (Str × Addr)} {f c' : Addr} {dv : Value} {F : Hp} (hc : F c' = some (CodeO c' qW)) (hf : F f = some (LamO f qW (lamPs s_q_works 5) (lamBd s_q_works 5) (lamSc s_q_works 5) (cloFrom cells (lamSc s_q_works 5).names []) c' dv))
    (hd : DvO F dv (lamPs s_q_works 5) []) : FnPre P w K mg base 6 cells n_q_works (defScope s_q_works) [some (.ref s), none] f (spS1 K CS s A' B' l) F := by
  refine ⟨qW, _, _, _, c', dv, [], _, lamN_by (by decide +kernel), hc, hf, hd, fun A outer s H E f c' cl hr' => (pe_pm g_guarded_x (Room.mono hr' (by decide)) (L2N.passes_call (L2N.takes_of rfl rfl rfl rfl) (fun _ _ _ _ h => h)) (pa_cons (pv 0) (pa_cons (pe_strT (l := [126]) (by decide +kernel)) (pa_cons pe_int (pa_cons pe_int pa_nil))))), fun H Q E h => ?_⟩
  obtain ⟨⟨hS, hA, hB, hb⟩, k⟩ := h
  refine (show Wp none (fun H Q => _) H (fun _ _ => False) from ?_) H (Wd.bare (exr H)) Q fun _ _ _ _ z => z.elim
  wtm_at "r"
  exact wp_badS (ex_t (exr _) hS) rfl hA hB hb k (exr _)
theorem lam_6 {CS s : Addr} {A' B' l : List Nat} (g_trimmed_x : Pm P w K mg base (L2N.CX P w) 5 "trimmed" ["sets", "tape", "state"] (sp_badS K CS 2)) {cells : List (Str × Addr)} {f c' : Addr} {dv : Value} {F : Hp} (hc : F c' = some (CodeO c' qW)) (hf : F f = some (LamO f qW (lamPs s_q_works 6) (lamBd s_q_works 6) (lamSc s_q_works 6) (cloFrom cells (lamSc s_q_works 6).names []) c' dv))
    (hd : DvO F dv (lamPs s_q_works 6) []) : FnPre P w K mg base 6 cells n_q_works (defScope s_q_works) [some (.ref s), none] f (spS1 K CS s A' B' l) F := by
  refine ⟨qW, _, _, _, c', dv, [], _, lamN_by (by decide +kernel), hc, hf, hd, fun A outer s H E f c' cl hr' => (pe_pm g_trimmed_x (Room.mono hr' (by decide)) (L2N.passes_call (L2N.takes_of rfl rfl rfl rfl) (fun _ _ _ _ h => h)) (pa_cons (pv 0) (pa_cons (pe_lst (pa_cons pe_int pa_nil)) (pa_cons pe_int pa_nil)))), fun H Q E h => ?_⟩
  obtain ⟨⟨hS, hA, hB, hb⟩, k⟩ := h
  refine (show Wp none (fun H Q => _) H (fun _ _ => False) from ?_) H (Wd.bare (exr H)) Q fun _ _ _ _ z => z.elim
  wtm_at "r"
  refine ⟨(by show 1 ≤ 100000; decide), ?_⟩
  wtm_at "gz"
  intro pd hpd Fd qd ed
  wtm_at "r"
  exact wp_badS (ex_t (ed) hS) rfl hA hB hb k (ed)
theorem lam_7 {CS s : Addr} {A' B' l : List Nat} (g_joined_x : Pm P w K mg base (L2N.CX P w) 4 "joined" ["sets", "one", "other"] (sp_badS K CS 2)) {cells : List (Str × Addr)} {f c' : Addr} {dv : Value} {F : Hp} (hc : F c' = some (CodeO c' qW)) (hf : F f = some (LamO f qW (lamPs s_q_works 7) (lamBd s_q_works 7) (lamSc s_q_works 7) (cloFrom cells (lamSc s_q_works 7).names []) c' dv))
    (hd : DvO F dv (lamPs s_q_works 7) []) : FnPre P w K mg base 6 cells n_q_works (defScope s_q_works) [some (.ref s), none] f (spS1 K CS s A' B' l) F := by
  refine ⟨qW, _, _, _, c', dv, [], _, lamN_by (by decide +kernel), hc, hf, hd, fun A outer s H E f c' cl hr' => (pe_pm g_joined_x (Room.mono hr' (by decide)) (L2N.passes_call (L2N.takes_of rfl rfl rfl rfl) (fun _ _ _ _ h => h)) (pa_cons (pv 0) (pa_cons (pe_lst (pa_cons pe_int pa_nil)) (pa_cons (pe_lst (pa_cons pe_int pa_nil)) pa_nil)))), fun H Q E h => ?_⟩
  obtain ⟨⟨hS, hA, hB, hb⟩, k⟩ := h
  refine (show Wp none (fun H Q => _) H (fun _ _ => False) from ?_) H (Wd.bare (exr H)) Q fun _ _ _ _ z => z.elim
  wtm_at "r"
  refine ⟨(by show 1 ≤ 100000; decide), ?_⟩
  wtm_at "gz"
  intro pd hpd Fd qd ed
  wtm_at "r"
  refine ⟨(by show 1 ≤ 100000; decide), ?_⟩
  wtm_at "gz"
  intro pe hpe Fe qe ee
  wtm_at "r"
  exact wp_badS (ex_t (ed.trans ee) hS) rfl hA hB hb k (ed.trans ee)
theorem lam_8 {CS s : Addr} {A' B' l : List Nat} (g_cut_x : Pm P w K mg base (L2N.CX P w) 4 "cut" ["sets", "tape", "at"] (sp_badS K CS 2)) {cells : List (Str × Addr)} {f c' : Addr} {dv : Value} {F : Hp} (hc : F c' = some (CodeO c' qW)) (hf : F f = some (LamO f qW (lamPs s_q_works 8) (lamBd s_q_works 8) (lamSc s_q_works 8) (cloFrom cells (lamSc s_q_works 8).names []) c' dv))
    (hd : DvO F dv (lamPs s_q_works 8) []) : FnPre P w K mg base 6 cells n_q_works (defScope s_q_works) [some (.ref s), none] f (spS1 K CS s A' B' l) F := by
  refine ⟨qW, _, _, _, c', dv, [], _, lamN_by (by decide +kernel), hc, hf, hd, fun A outer s H E f c' cl hr' => (pe_pm g_cut_x (Room.mono hr' (by decide)) (L2N.passes_call (L2N.takes_of rfl rfl rfl rfl) (fun _ _ _ _ h => h)) (pa_cons (pv 0) (pa_cons (pe_lst (pa_cons pe_int pa_nil)) (pa_cons pe_int pa_nil)))), fun H Q E h => ?_⟩
  obtain ⟨⟨hS, hA, hB, hb⟩, k⟩ := h
  refine (show Wp none (fun H Q => _) H (fun _ _ => False) from ?_) H (Wd.bare (exr H)) Q fun _ _ _ _ z => z.elim
  wtm_at "r"
  refine ⟨(by show 1 ≤ 100000; decide), ?_⟩
  wtm_at "gz"
  intro pd hpd Fd qd ed
  wtm_at "r"
  exact wp_badS (ex_t (ed) hS) rfl hA hB hb k (ed)
theorem lam_9 {CS s : Addr} {A' B' l : List Nat} (g_written_x : Pm P w K mg base (L2N.CX P w) 4 "written" ["sets", "tape"] (sp_badS K CS 1)) {cells : List (Str × Addr)} {f c' : Addr} {dv : Value} {F : Hp} (hc : F c' = some (CodeO c' qW)) (hf : F f = some (LamO f qW (lamPs s_q_works 9) (lamBd s_q_works 9) (lamSc s_q_works 9) (cloFrom cells (lamSc s_q_works 9).names []) c' dv))
    (hd : DvO F dv (lamPs s_q_works 9) []) : FnPre P w K mg base 6 cells n_q_works (defScope s_q_works) [some (.ref s), none] f (spS1 K CS s A' B' l) F := by
  refine ⟨qW, _, _, _, c', dv, [], _, lamN_by (by decide +kernel), hc, hf, hd, fun A outer s H E f c' cl hr' => (pe_pm g_written_x (Room.mono hr' (by decide)) (L2N.passes_call (L2N.takes_of rfl rfl rfl rfl) (fun _ _ _ _ h => h)) (pa_cons (pv 0) (pa_cons (pe_lst (pa_cons pe_int pa_nil)) pa_nil))), fun H Q E h => ?_⟩
  obtain ⟨⟨hS, hA, hB, hb⟩, k⟩ := h
  refine (show Wp none (fun H Q => _) H (fun _ _ => False) from ?_) H (Wd.bare (exr H)) Q fun _ _ _ _ z => z.elim
  wtm_at "r"
  refine ⟨(by show 1 ≤ 100000; decide), ?_⟩
  wtm_at "gz"
  intro pd hpd Fd qd ed
  wtm_at "r"
  exact wp_badS (ex_t (ed) hS) rfl hA hB hb k (ed)
theorem lam_10 {CS s : Addr} {A' B' l : List Nat} (g_read_tape_x : Pm P w K mg base (L2N.CX P w) 4 "read_tape" ["sets", "text"] (sp_badS K CS 1)) {cells : List (Str × Addr)} {f c' : Addr} {dv : Value} {F : Hp} (hc : F c' = some (CodeO c' qW)) (hf : F f = some (LamO f qW (lamPs s_q_works 10) (lamBd s_q_works 10) (lamSc s_q_works 10) (cloFrom cells (lamSc s_q_works 10).names []) c' dv))
    (hd : DvO F dv (lamPs s_q_works 10) []) : FnPre P w K mg base 6 cells n_q_works (defScope s_q_works) [some (.ref s), none] f (spS1 K CS s A' B' l) F := by
  refine ⟨qW, _, _, _, c', dv, [], _, lamN_by (by decide +kernel), hc, hf, hd, fun A outer s H E f c' cl hr' => (pe_pm g_read_tape_x (Room.mono hr' (by decide)) (L2N.passes_call (L2N.takes_of rfl rfl rfl rfl) (fun _ _ _ _ h => h)) (pa_cons (pv 0) (pa_cons (pe_strT (l := [120]) (by decide +kernel)) pa_nil))), fun H Q E h => ?_⟩
  obtain ⟨⟨hS, hA, hB, hb⟩, k⟩ := h
  refine (show Wp none (fun H Q => _) H (fun _ _ => False) from ?_) H (Wd.bare (exr H)) Q fun _ _ _ _ z => z.elim
  wtm_at "r"
  exact wp_badS (ex_t (exr _) hS) rfl hA hB hb k (exr _)
theorem pm_works {CS cW pW gW : Addr} {fdW : FuncData} (FW : Fun K "_law_works" "_law_works" s_q_works gW fdW) (hmW : mg "_law_works" = some (.ref gW)) (hcW : fdW.code = .ref cW) (TB : TabB base mg cW pW) (B : Bl mg) (g_read_x : Pm P w K mg base (L2N.CX P w) 5 "read" ["sets", "tape", "state"] (sp_badS K CS 2)) (g_losses_x : Pm P w K mg base (L2N.CX P w) 5 "losses" ["sets", "tape", "state"] (sp_badS K CS 2)) (g_worst_x : Pm P w K mg base (L2N.CX P w) 6 "worst" ["sets", "tape", "state"] (sp_badS K CS 2)) (g_by_state_x : Pm P w K mg base (L2N.CX P w) 4 "by_state" ["sets", "tape"] (sp_badS K CS 1)) (g_least_x : Pm P w K mg base (L2N.CX P w) 4 "least" ["sets", "text", "state"] (sp_badS K CS 2)) (g_guarded_x : Pm P w K mg base (L2N.CX P w) 4 "guarded" ["sets", "text", "state", "most"] (sp_badS K CS 3)) (g_trimmed_x : Pm P w K mg base (L2N.CX P w) 5 "trimmed" ["sets", "tape", "state"] (sp_badS K CS 2)) (g_joined_x : Pm P w K mg base (L2N.CX P w) 4 "joined" ["sets", "one", "other"] (sp_badS K CS 2)) (g_cut_x : Pm P w K mg base (L2N.CX P w) 4 "cut" ["sets", "tape", "at"] (sp_badS K CS 2)) (g_written_x : Pm P w K mg base (L2N.CX P w) 4 "written" ["sets", "tape"] (sp_badS K CS 1)) (g_read_tape_x : Pm P w K mg base (L2N.CX P w) 4 "read_tape" ["sets", "text"] (sp_badS K CS 1)) : Pm P w K mg base CX0 1 "_law_works" ["_law_sets_here"] (sp_works P w K mg base CS pW) := by
  have hkW := FW.kp
  have hbW : Binds K fdW ["_law_sets_here"] [] := FW.binds fun _ _ _ _ _ _ us hl => match us, hl with | [_], _ => rfl
  obtain ⟨oc, od, kV, doc, pm, an, cd, ct, osl, rfl, lk, hcd⟩ := FW.ex
  have hcW : cd = .ref cW := hcW
  subst hcW
  refine ⟨gW, _, ?_, hmW, hkW, hbW⟩
  obtain ⟨TT, hTT⟩ : ∃ TT : List (Addr × Str), TT = [(pW, qW)] := ⟨_, rfl⟩
  have hmT : (pW, qW) ∈ TT := by rw [hTT]; exact List.mem_singleton.mpr rfl
  have huT : ∀ p ∈ TT, p.1 = pW → p.2 = qW := fun p hp _ => by rw [hTT] at hp; rw [List.mem_singleton.mp hp]
  refine fn_ofC lk hcd sc_q_works (fun vs H Q E h => ?_) (fun A outer s H vs Q E hr h => ?_)
  · obtain ⟨_, _, _, _, rfl, _⟩ := h
    rfl
  · obtain ⟨s, A', B', l, rfl, hS, hA, hB, hb, hT, k⟩ := h
    rw [← hTT] at hT
    refine ⟨_, (psr_cons (ps_set (i := 1) sc_q_works.nd rfl (Or.inl rfl) (pe_lst (pa_cons (pe_lam (T := TT) (names := []) TB rfl hmT huT (lamN_by (N := n_q_works) (sc := defScope s_q_works) (by decide +kernel)) (.inl ⟨rfl, rfl, fun q body scope cl pm cv ct => rfl⟩)) pa_nil)))
 (psr_cons (ps_expr (bmK K rfl PySem.F.plainAttrs_list PySem.F.slot_list_append PySem.F.type_list_append mt_append (pv 1) (pa_cons (pe_lam (T := TT) (names := []) TB rfl hmT huT (lamN_by (N := n_q_works) (sc := defScope s_q_works) (by decide +kernel)) (.inl ⟨rfl, rfl, fun q body scope cl pm cv ct => rfl⟩)) pa_nil)))
 (psr_cons (ps_expr (bmK K rfl PySem.F.plainAttrs_list PySem.F.slot_list_append PySem.F.type_list_append mt_append (pv 1) (pa_cons (pe_lam (T := TT) (names := []) TB rfl hmT huT (lamN_by (N := n_q_works) (sc := defScope s_q_works) (by decide +kernel)) (.inl ⟨rfl, rfl, fun q body scope cl pm cv ct => rfl⟩)) pa_nil)))
 (psr_cons (ps_expr (bmK K rfl PySem.F.plainAttrs_list PySem.F.slot_list_append PySem.F.type_list_append mt_append (pv 1) (pa_cons (pe_lam (T := TT) (names := []) TB rfl hmT huT (lamN_by (N := n_q_works) (sc := defScope s_q_works) (by decide +kernel)) (.inl ⟨rfl, rfl, fun q body scope cl pm cv ct => rfl⟩)) pa_nil)))
 (psr_cons (ps_expr (bmK K rfl PySem.F.plainAttrs_list PySem.F.slot_list_append PySem.F.type_list_append mt_append (pv 1) (pa_cons (pe_lam (T := TT) (names := []) TB rfl hmT huT (lamN_by (N := n_q_works) (sc := defScope s_q_works) (by decide +kernel)) (.inl ⟨rfl, rfl, fun q body scope cl pm cv ct => rfl⟩)) pa_nil)))
 (psr_cons (ps_expr (bmK K rfl PySem.F.plainAttrs_list PySem.F.slot_list_append PySem.F.type_list_append mt_append (pv 1) (pa_cons (pe_lam (T := TT) (names := []) TB rfl hmT huT (lamN_by (N := n_q_works) (sc := defScope s_q_works) (by decide +kernel)) (.inl ⟨rfl, rfl, fun q body scope cl pm cv ct => rfl⟩)) pa_nil)))
 (psr_cons (ps_expr (bmK K rfl PySem.F.plainAttrs_list PySem.F.slot_list_append PySem.F.type_list_append mt_append (pv 1) (pa_cons (pe_lam (T := TT) (names := []) TB rfl hmT huT (lamN_by (N := n_q_works) (sc := defScope s_q_works) (by decide +kernel)) (.inl ⟨rfl, rfl, fun q body scope cl pm cv ct => rfl⟩)) pa_nil)))
 (psr_cons (ps_expr (bmK K rfl PySem.F.plainAttrs_list PySem.F.slot_list_append PySem.F.type_list_append mt_append (pv 1) (pa_cons (pe_lam (T := TT) (names := []) TB rfl hmT huT (lamN_by (N := n_q_works) (sc := defScope s_q_works) (by decide +kernel)) (.inl ⟨rfl, rfl, fun q body scope cl pm cv ct => rfl⟩)) pa_nil)))
 (psr_cons (ps_expr (bmK K rfl PySem.F.plainAttrs_list PySem.F.slot_list_append PySem.F.type_list_append mt_append (pv 1) (pa_cons (pe_lam (T := TT) (names := []) TB rfl hmT huT (lamN_by (N := n_q_works) (sc := defScope s_q_works) (by decide +kernel)) (.inl ⟨rfl, rfl, fun q body scope cl pm cv ct => rfl⟩)) pa_nil)))
 (psr_cons (ps_expr (bmK K rfl PySem.F.plainAttrs_list PySem.F.slot_list_append PySem.F.type_list_append mt_append (pv 1) (pa_cons (pe_lam (T := TT) (names := []) TB rfl hmT huT (lamN_by (N := n_q_works) (sc := defScope s_q_works) (by decide +kernel)) (.inl ⟨rfl, rfl, fun q body scope cl pm cv ct => rfl⟩)) pa_nil)))
 (psr_cons (ps_expr (bmK K rfl PySem.F.plainAttrs_list PySem.F.slot_list_append PySem.F.type_list_append mt_append (pv 1) (pa_cons (pe_lam (T := TT) (names := []) TB rfl hmT huT (lamN_by (N := n_q_works) (sc := defScope s_q_works) (by decide +kernel)) (.inl ⟨rfl, rfl, fun q body scope cl pm cv ct => rfl⟩)) pa_nil)))
 (psr_ret (pv 1))))))))))))), ?_⟩
    refine go_st (σ := [some (.ref s), none]) rfl ?_
    generalize hcl : (envOfC "_law_works" (defScope s_q_works) _ gW (.ref cW)).cells = cells
    have hpre : ∀ f F F1, ExtL F F1 → FnPre P w K mg base 6 cells n_q_works (defScope s_q_works) [some (.ref s), none] f (spS1 K CS s A' B' l) F → FnPre P w K mg base 6 cells n_q_works (defScope s_q_works) [some (.ref s), none] f (spS1 K CS s A' B' l) F1 := fun f F F1 e h => h.extL e
    wtm_at "r"
    refine wp_lam hT fun f0 c0 dv0 F0 e0 T0 hf0 hc0 hd0 => ?_
    wtm_at "r"
    refine ⟨(by show 1 ≤ 100000; decide), ?_⟩
    wtm_at "gz"
    intro p hp G0 q0 g0
    have np := new_of e0 hp
    have W0 := Wk.one hpre e0 T0 (lam_0 (CS := CS) (s := s) (A' := A') (B' := B') (l := l) g_read_x hc0 (by rw [← hcl]; exact hf0) hd0) g0 q0
    wtm_at "r"
    refine wp_bmL ?_
    wtm_at "r"
    refine ⟨p, _, rfl, SqL.of W0.at_, ?_⟩
    wtm_at "r"
    refine wp_lam W0.tb fun f1 c1 dv1 F1 e1 T1 hf1 hc1 hd1 => ?_
    wtm_at "r"
    refine wp_append (e1 _ _ W0.at_ fun ps z => by cases z) (by show 1 < 100000; decide) ?_
    have W1 := W0.step hpre np e1 T1 (lam_1 (CS := CS) (s := s) (A' := A') (B' := B') (l := l) g_losses_x hc1 (by rw [← hcl]; exact hf1) hd1)
    revert W1
    generalize upd F1 p _ = G1
    intro W1
    wtm_at "r"
    refine wp_bmL ?_
    wtm_at "r"
    refine ⟨p, _, rfl, SqL.of W1.at_, ?_⟩
    wtm_at "r"
    refine wp_lam W1.tb fun f2 c2 dv2 F2 e2 T2 hf2 hc2 hd2 => ?_
    wtm_at "r"
    refine wp_append (e2 _ _ W1.at_ fun ps z => by cases z) (by show 2 < 100000; decide) ?_
    have W2 := W1.step hpre np e2 T2 (lam_2 (CS := CS) (s := s) (A' := A') (B' := B') (l := l) g_worst_x hc2 (by rw [← hcl]; exact hf2) hd2)
    revert W2
    generalize upd F2 p _ = G2
    intro W2
    wtm_at "r"
    refine wp_bmL ?_
    wtm_at "r"
    refine ⟨p, _, rfl, SqL.of W2.at_, ?_⟩
    wtm_at "r"
    refine wp_lam W2.tb fun f3 c3 dv3 F3 e3 T3 hf3 hc3 hd3 => ?_
    wtm_at "r"
    refine wp_append (e3 _ _ W2.at_ fun ps z => by cases z) (by show 3 < 100000; decide) ?_
    have W3 := W2.step hpre np e3 T3 (lam_3 (CS := CS) (s := s) (A' := A') (B' := B') (l := l) g_by_state_x hc3 (by rw [← hcl]; exact hf3) hd3)
    revert W3
    generalize upd F3 p _ = G3
    intro W3
    wtm_at "r"
    refine wp_bmL ?_
    wtm_at "r"
    refine ⟨p, _, rfl, SqL.of W3.at_, ?_⟩
    wtm_at "r"
    refine wp_lam W3.tb fun f4 c4 dv4 F4 e4 T4 hf4 hc4 hd4 => ?_
    wtm_at "r"
    refine wp_append (e4 _ _ W3.at_ fun ps z => by cases z) (by show 4 < 100000; decide) ?_
    have W4 := W3.step hpre np e4 T4 (lam_4 (CS := CS) (s := s) (A' := A') (B' := B') (l := l) g_least_x hc4 (by rw [← hcl]; exact hf4) hd4)
    revert W4
    generalize upd F4 p _ = G4
    intro W4
    wtm_at "r"
    refine wp_bmL ?_
    wtm_at "r"
    refine ⟨p, _, rfl, SqL.of W4.at_, ?_⟩
    wtm_at "r"
    refine wp_lam W4.tb fun f5 c5 dv5 F5 e5 T5 hf5 hc5 hd5 => ?_
    wtm_at "r"
    refine wp_append (e5 _ _ W4.at_ fun ps z => by cases z) (by show 5 < 100000; decide) ?_
    have W5 := W4.step hpre np e5 T5 (lam_5 (CS := CS) (s := s) (A' := A') (B' := B') (l := l) g_guarded_x hc5 (by rw [← hcl]; exact hf5) hd5)
    revert W5
    generalize upd F5 p _ = G5
    intro W5
    wtm_at "r"
    refine wp_bmL ?_
    wtm_at "r"
    refine ⟨p, _, rfl, SqL.of W5.at_, ?_⟩
    wtm_at "r"
    refine wp_lam W5.tb fun f6 c6 dv6 F6 e6 T6 hf6 hc6 hd6 => ?_
    wtm_at "r"
    refine wp_append (e6 _ _ W5.at_ fun ps z => by cases z) (by show 6 < 100000; decide) ?_
    have W6 := W5.step hpre np e6 T6 (lam_6 (CS := CS) (s := s) (A' := A') (B' := B') (l := l) g_trimmed_x hc6 (by rw [← hcl]; exact hf6) hd6)
    revert W6
    generalize upd F6 p _ = G6
    intro W6
    wtm_at "r"
    refine wp_bmL ?_
    wtm_at "r"
    refine ⟨p, _, rfl, SqL.of W6.at_, ?_⟩
    wtm_at "r"
    refine wp_lam W6.tb fun f7 c7 dv7 F7 e7 T7 hf7 hc7 hd7 => ?_
    wtm_at "r"
    refine wp_append (e7 _ _ W6.at_ fun ps z => by cases z) (by show 7 < 100000; decide) ?_
    have W7 := W6.step hpre np e7 T7 (lam_7 (CS := CS) (s := s) (A' := A') (B' := B') (l := l) g_joined_x hc7 (by rw [← hcl]; exact hf7) hd7)
    revert W7
    generalize upd F7 p _ = G7
    intro W7
    wtm_at "r"
    refine wp_bmL ?_
    wtm_at "r"
    refine ⟨p, _, rfl, SqL.of W7.at_, ?_⟩
    wtm_at "r"
    refine wp_lam W7.tb fun f8 c8 dv8 F8 e8 T8 hf8 hc8 hd8 => ?_
    wtm_at "r"
    refine wp_append (e8 _ _ W7.at_ fun ps z => by cases z) (by show 8 < 100000; decide) ?_
    have W8 := W7.step hpre np e8 T8 (lam_8 (CS := CS) (s := s) (A' := A') (B' := B') (l := l) g_cut_x hc8 (by rw [← hcl]; exact hf8) hd8)
    revert W8
    generalize upd F8 p _ = G8
    intro W8
    wtm_at "r"
    refine wp_bmL ?_
    wtm_at "r"
    refine ⟨p, _, rfl, SqL.of W8.at_, ?_⟩
    wtm_at "r"
    refine wp_lam W8.tb fun f9 c9 dv9 F9 e9 T9 hf9 hc9 hd9 => ?_
    wtm_at "r"
    refine wp_append (e9 _ _ W8.at_ fun ps z => by cases z) (by show 9 < 100000; decide) ?_
    have W9 := W8.step hpre np e9 T9 (lam_9 (CS := CS) (s := s) (A' := A') (B' := B') (l := l) g_written_x hc9 (by rw [← hcl]; exact hf9) hd9)
    revert W9
    generalize upd F9 p _ = G9
    intro W9
    wtm_at "r"
    refine wp_bmL ?_
    wtm_at "r"
    refine ⟨p, _, rfl, SqL.of W9.at_, ?_⟩
    wtm_at "r"
    refine wp_lam W9.tb fun f10 c10 dv10 F10 e10 T10 hf10 hc10 hd10 => ?_
    wtm_at "r"
    refine wp_append (e10 _ _ W9.at_ fun ps z => by cases z) (by show 10 < 100000; decide) ?_
    have W10 := W9.step hpre np e10 T10 (lam_10 (CS := CS) (s := s) (A' := A') (B' := B') (l := l) g_read_tape_x hc10 (by rw [← hcl]; exact hf10) hd10)
    revert W10
    generalize upd F10 p _ = G10
    intro W10
    wtm_at "r"
    refine go_rr ?_
    wtm_at "r"
    intro H1 w1 H2 L
    refine k p _ H2 ((W10.ex.trans (ExtN.of w1.ex)).trans (ExtN.of L.ex)) (L.ex _ _ (w1.ex _ _ W10.at_)) rfl fun f hf => ?_
    exact FnPre.has (hpre _ _ _ (ExtL.of (ExtN.of w1.ex)) (W10.pr f hf)) L (fun i v e => by
      match i, e with
      | 0, e => exact e
      | 1, e => cases e
      | _ + 2, e => cases e) rfl
end
/-! ### _law_refused: the suite in which an exception is handled -/
section
variable {P : Program} {w : World} {K : PySem.W.Frag} {mg : Str → Option Value} {base : Heap}
/-- _law_alike of two numbers or two texts, an exception being handled -/
def spAH : Sp := fun vs H Q _ => ∃ x : V, vs = [x, x] ∧ ((∃ i, x = .int i) ∨ ∃ z, x = .str z) ∧ RetV (.bl true) H Q
theorem alikeH (D : DefAt K mg "_law_alike" s_q_alike) (B : Bl mg) : PmH P w K mg base 1 "_law_alike" ["_law_found", "_law_due"] spAH := by
  obtain ⟨f, fd, F, hm⟩ := D
  refine ⟨f, fd, ?_, hm, F.kp, F.binds fun _ _ _ _ _ _ us hl => match us, hl with | [_, _], _ => rfl⟩
  refine okH F sc_q_alike (fun vs H Q E h => ?_) (fun cdv A outer s H vs Q E p hot hr h => ?_)
  · obtain ⟨_, rfl, _⟩ := h
    rfl
  · obtain ⟨x, rfl, hx, k⟩ := h
    refine ⟨_, (pss_cons (ps_if (pt_cmpR op_isNs (pv 1) pe_non (nomark _))
 (pss_cons (ps_ret (pe_cmpR op_isNs (pv 0) pe_non (nomark _)))
 pss_nil)
 pss_nil)
 (pss_cons (ps_if (pt_val (pe_callB (isiK K rfl) (by rfl) B.isinstance (by decide +kernel) (pa_cons (pv 1) (pa_cons (pe_bltn (v := .ty "bool") (by rfl) B.bool_ (by decide +kernel) rfl) pa_nil))))
 (pss_cons (ps_ret (pe_and (pe_callB (isiK K rfl) (by rfl) B.isinstance (by decide +kernel) (pa_cons (pv 0) (pa_cons (pe_bltn (v := .ty "bool") (by rfl) B.bool_ (by decide +kernel) rfl) pa_nil))) (pe_one (pe_cmpR (eqK K rfl hr.units) (pv 0) (pv 1) (nomark _)))))
 pss_nil)
 pss_nil)
 (pss_cons (ps_if (pt_val (pe_callB (isiK K rfl) (by rfl) B.isinstance (by decide +kernel) (pa_cons (pv 1) (pa_cons (pe_bltn (v := .ty "int") (by rfl) B.int_ (by decide +kernel) rfl) pa_nil))))
 (pss_cons (ps_ret (pe_and (pe_callB (isiK K rfl) (by rfl) B.isinstance (by decide +kernel) (pa_cons (pv 0) (pa_cons (pe_bltn (v := .ty "int") (by rfl) B.int_ (by decide +kernel) rfl) pa_nil))) (pe_and (pe_not (pe_callB (isiK K rfl) (by rfl) B.isinstance (by decide +kernel) (pa_cons (pv 0) (pa_cons (pe_bltn (v := .ty "bool") (by rfl) B.bool_ (by decide +kernel) rfl) pa_nil)))) (pe_one (pe_cmpR (eqK K rfl hr.units) (pv 0) (pv 1) (nomark _))))))
 pss_nil)
 pss_nil)
 (pss_cons (ps_if (pt_val (pe_callB (isiK K rfl) (by rfl) B.isinstance (by decide +kernel) (pa_cons (pv 1) (pa_cons (pe_bltn (v := .ty "str") (by rfl) B.str_ (by decide +kernel) rfl) pa_nil))))
 (pss_cons (ps_ret (pe_and (pe_callB (isiK K rfl) (by rfl) B.isinstance (by decide +kernel) (pa_cons (pv 0) (pa_cons (pe_bltn (v := .ty "str") (by rfl) B.str_ (by decide +kernel) rfl) pa_nil))) (pe_one (pe_cmpR (eqK K rfl hr.units) (pv 0) (pv 1) (nomark _)))))
 pss_nil)
 pss_nil)
 pss_never)))), ?_⟩
    refine go_st (σ := [some (x), some (x), none]) rfl ?_
    rcases hx with ⟨i, rfl⟩ | ⟨z, rfl⟩
    · wtm_at "r"
      refine bF (by simp) ?_
      wtm_at "r"
      refine wp_isi (.int i) (b := false) (by decide +kernel) ?_
      wtm_at "r"
      refine bF rfl ?_
      wtm_at "r"
      refine wp_isi (.int i) (b := true) (by decide +kernel) ?_
      wtm_at "r"
      refine bT rfl ?_
      wtm_at "r"
      refine wp_isi (.int i) (b := true) (by decide +kernel) ?_
      wtm_at "r"
      refine bT rfl ?_
      wtm_at "r"
      refine wp_isi (.int i) (b := false) (by decide +kernel) ?_
      wtm_at "r"
      refine bT rfl ?_
      wtm_at "r"
      rw [decide_eq_true rfl]
      exact k.out (exr H)
    · wtm_at "r"
      refine bF (by simp) ?_
      wtm_at "r"
      refine wp_isi (.str z) (b := false) (by decide +kernel) ?_
      wtm_at "r"
      refine bF rfl ?_
      wtm_at "r"
      refine wp_isi (.str z) (b := false) (by decide +kernel) ?_
      wtm_at "r"
      refine bF rfl ?_
      wtm_at "r"
      refine wp_isi (.str z) (b := true) (by decide +kernel) ?_
      wtm_at "r"
      refine bT rfl ?_
      wtm_at "r"
      refine wp_isi (.str z) (b := true) (by decide +kernel) ?_
      wtm_at "r"
      refine bT rfl ?_
      wtm_at "r"
      refine wp_eq0 rfl ?_
      rw [decide_eq_true rfl]
      exact k.out (exr H)
abbrev s_q_refused : Stmt := topS 44
abbrev n_q_refused : List Str := ["_law_work", "_law_word", "_law_value", "e", "_law_kinds", "_law_words", "_law_one"]
theorem sc_q_refused : FnScope n_q_refused ["_law_work", "_law_word", "_law_value"] (defScope s_q_refused) := ⟨rfl, rfl, rfl, by decide +kernel, rfl, by decide +kernel, by decide +kernel⟩

/-- the classes' names, and what isinstance says of C's instances -/
structure RefC (K : PySem.W.Frag) (mg : Str → Option Value) (CT CS CA CN CM CX C : Addr) (b0 b1 b2 b3 b4 : Bool) : Prop where
  mT : mg "TapeError" = some (.ref CT)
  mS : mg "BadSets" = some (.ref CS)
  mA : mg "BadTape" = some (.ref CA)
  mN : mg "NoSign" = some (.ref CN)
  mM : mg "BadNumber" = some (.ref CM)
  mX : mg "BadText" = some (.ref CX)
  nV : mg "ValueError" = none
  ex : PySem.W.exmOne K (.ref C) (.ref CT) = some true
  xc : XcC K C
  k0 : PySem.W.kitOne K (.ref C) (.ref CS) = some b0
  k1 : PySem.W.kitOne K (.ref C) (.ref CA) = some b1
  k2 : PySem.W.kitOne K (.ref C) (.ref CN) = some b2
  k3 : PySem.W.kitOne K (.ref C) (.ref CM) = some b3
  k4 : PySem.W.kitOne K (.ref C) (.ref CX) = some b4
  kV : PySem.W.kitOne K (.ref C) (.type "ValueError") = some true
theorem XcC.xf' {D : Addr} (h : XcC K D) : XfC K D := ⟨h.hg, h.hk, h.hs, h.hd⟩
theorem relT' {t : String} : ∀ u, RelV (.ty t) u → u = .type t := fun u h => h
theorem relR' {a : Addr} : ∀ u, RelV (.ref a) u → u = .ref a := fun u h => h
abbrev wordsR : List (List Nat) := [[115, 101, 116, 115], [116, 97, 112, 101], [115, 105, 103, 110], [110, 117, 109, 98, 101, 114], [116, 101, 120, 116]]
theorem dp_bools {F : Hp} : ∀ bs : List Bool, DpAll K F (bs.map V.bl) (bs.map PyData.bool)
  | [] => .nil
  | b :: r => .cons (.bl b) (dp_bools r)
theorem eqv_bools : ∀ bs : List Bool, PyData.eqvAll (bs.map PyData.bool) (bs.map PyData.bool) = true
  | [] => rfl
  | b :: r => by
    show ((b == b) && PyData.eqvAll (r.map PyData.bool) (r.map PyData.bool)) = true
    rw [eqv_bools r]
    simp
end
/-! ### _law_refused called with a tracked function: 'sets' -/
section
open LamX
variable {P : Program} {w : World} {K : PySem.W.Frag} {mg : Str → Option Value} {base : Heap}
theorem refused_why {CT CS CA CN CM CX : Addr} {b0 b1 b2 b3 b4 : Bool} (B : Bl mg) (M : RefC K mg CT CS CA CN CM CX CS b0 b1 b2 b3 b4) (no : PySem.W.findIn K (.ref CS) "why" = some none) (g_q_alike_h : PmH P w K mg base 1 "_law_alike" ["_law_found", "_law_due"] spAH)
    (hb : [b0, b1, b2, b3, b4] = wordsR.map fun z => decide ([115, 101, 116, 115] = z)) {f c' g : Addr} {co : HO} {cdg : Value} {A : Around} {outer : List Env} {s : Shared} {H : Hp} {E : XK} {Q : VK} {v : V} (hv : (∃ i, v = .int i) ∨ ∃ z, v = .str z) {tl : XK → Hp → VK → Prop} (hr : Room 1 (A.deeper (envOfC "_law_refused" (defScope s_q_refused) s.heap.objs.size g cdg)))
    (act : ∀ (W : WX) (pn : List (Addr × Obj)) (xe : Value → Shared → Prop) (p1 p2 : Pos), L2N.Takes ((cxOf CX0 P w K mg base n_q_refused "_law_refused" (defScope s_q_refused) g cdg A outer s H E).tr pn xe) W →
      PE ((cxOf CX0 P w K mg base n_q_refused "_law_refused" (defScope s_q_refused) g cdg A outer s H E).tr pn xe) (.Call (.Name "_law_work" p1) [] [] p2) (fun σZ HZ Q => σZ[0]? = some (some (.ref f)) ∧ HZ c' = some co ∧ tl (WE W σZ) HZ Q))
    (hc : H c' = some co) (htl : ∀ (E' : XK) (Q' : VK), RetE CS "why" v H E' → tl E' H Q') (kQ : RetV (.bl true) H Q) :
    ∃ t, PSs (cxOf CX0 P w K mg base n_q_refused "_law_refused" (defScope s_q_refused) g cdg A outer s H E) (defBody s_q_refused) t ∧ t { nx := fun _ H' => Q .non H', rt := Q } (start n_q_refused [.ref f, .str (tx [115, 101, 116, 115]), v]) H := by
  obtain ⟨m_TapeError, m_BadSets, m_BadTape, m_NoSign, m_BadNumber, m_BadText, n_ValueError, ex1, xc, k0, k1, k2, k3, k4, kV⟩ := M
  have x_BadSets : XfC K CS ∧ PySem.W.findIn K (.ref CS) "why" = some none := ⟨xc.xf', no⟩
  refine ⟨_, (pss_cons (L2N.ps_try_as (i := 3) rfl rfl sc_q_refused.nd rfl rfl ⟨rfl, by decide, .inl m_TapeError⟩ takes0N (fun W pn xe tk _ => (pss_cons (ps_expr (act W pn xe _ _ tk))
 pss_nil)) (fun a oe cls d pn hz hf => (pss_cons (ps_set (i := 4) sc_q_refused.nd rfl (Or.inl rfl) (pe_lst (pa_cons (pe_callB (isXK K rfl hz.zc hf) (by rfl) B.isinstance (by decide +kernel) (pa_cons (pv 3) (pa_cons (pe_clsG m_BadSets) pa_nil))) (pa_cons (pe_callB (isXK K rfl hz.zc hf) (by rfl) B.isinstance (by decide +kernel) (pa_cons (pv 3) (pa_cons (pe_clsG m_BadTape) pa_nil))) (pa_cons (pe_callB (isXK K rfl hz.zc hf) (by rfl) B.isinstance (by decide +kernel) (pa_cons (pv 3) (pa_cons (pe_clsG m_NoSign) pa_nil))) (pa_cons (pe_callB (isXK K rfl hz.zc hf) (by rfl) B.isinstance (by decide +kernel) (pa_cons (pv 3) (pa_cons (pe_clsG m_BadNumber) pa_nil))) pa_nil))))))
 (pss_cons (ps_expr (bmK K rfl PySem.F.plainAttrs_list PySem.F.slot_list_append PySem.F.type_list_append mt_append (pv 4) (pa_cons (pe_callB (isXK K rfl hz.zc hf) (by rfl) B.isinstance (by decide +kernel) (pa_cons (pv 3) (pa_cons (pe_clsG m_BadText) pa_nil))) pa_nil)))
 (pss_cons (ps_set (i := 5) sc_q_refused.nd rfl (Or.inl rfl) (pe_lst (pa_cons (pe_strT (l := [115, 101, 116, 115]) (by decide +kernel)) (pa_cons (pe_strT (l := [116, 97, 112, 101]) (by decide +kernel)) (pa_cons (pe_strT (l := [115, 105, 103, 110]) (by decide +kernel)) (pa_cons (pe_strT (l := [110, 117, 109, 98, 101, 114]) (by decide +kernel)) (pa_cons (pe_strT (l := [116, 101, 120, 116]) (by decide +kernel)) pa_nil)))))))
 (pss_cons (ps_if (PW.pt (pw_or (pt_not (pt_val (pe_callB (isXK K rfl hz.zc hf) (by rfl) B.isinstance (by decide +kernel) (pa_cons (pv 3) (pa_cons (pe_bltn (v := .ty "ValueError") (by rfl) n_ValueError (by decide +kernel) rfl) pa_nil))))) (pw_or1 (pt_cmpR (neK K rfl hr.units) (pv 4) (pe_lcH (own := [("_law_one", 6)]) (g := gName 6) (tt := tYes) K rfl (hot_suite hz hf) sc_q_refused.nd (pv 5) (blkOk_by (N := n_q_refused) (sc := defScope s_q_refused) (by decide +kernel)) (fun _ _ _ _ _ => pg_name (i := 6) sc_q_refused.nd rfl (Or.inl rfl)) (fun _ _ _ _ _ => pts_nil) (fun _ _ _ _ _ => (pe_cmpR (eqK K rfl hr.units) (pv 1) (pv 6) (nomark _)))) (nomark _)))))
 (pss_cons (ps_ret pe_bl)
 pss_nil)
 pss_nil)
 (pss_cons (ps_if (pt_cmpR (eqK K rfl hr.units) (pv 1) (pe_strT (l := [115, 101, 116, 115]) (by decide +kernel)) (nomark _))
 (pss_cons (ps_ret (pe_pmH g_q_alike_h ⟨hr.dp, hr.un⟩ (hot_suite hz hf) (pa_cons (pe_xfK K rfl x_BadSets.1 x_BadSets.2 hz.zc hf (pv 3)) (pa_cons (pv 2) pa_nil))))
 pss_nil)
 pss_nil)
 (pss_cons (ps_if (pt_cmpR (eqK K rfl hr.units) (pv 1) (pe_strT (l := [116, 101, 120, 116]) (by decide +kernel)) (nomark _)) pss_never pss_nil)
 (pss_cons ps_never
 pss_nil)))))))))
 (pss_cons (ps_ret pe_bl)
 pss_nil)), ?_⟩
  refine ⟨rfl, hc, htl _ _ fun d H' n' e' hx' => go_was (o := none) (F := H) (Wd.bare e') hx' n' (fun b z => nomatch z) ex1 fun a => ?_⟩
  show Go none _ _ _ _
  have hF : Ex H (upd H d (.xd [("why", v)])) := ex_new n'
  wtm_at "r"
  refine wp_isX rfl xc relR' k0 upd_same ?_
  wtm_at "r"
  refine wp_isX rfl xc relR' k1 upd_same ?_
  wtm_at "r"
  refine wp_isX rfl xc relR' k2 upd_same ?_
  wtm_at "r"
  refine wp_isX rfl xc relR' k3 upd_same ?_
  wtm_at "r"
  refine ⟨(by show 4 ≤ 100000; decide), ?_⟩
  obtain ⟨F0, hF0⟩ : ∃ F0, F0 = upd H d (.xd [("why", v)]) := ⟨_, rfl⟩
  have hd0 : F0 d = some (.xd [("why", v)]) := by rw [hF0]; exact upd_same
  rw [← hF0] at hF ⊢
  wtm_at "gz"
  intro p1 hp1 F1 q1 e1
  wtm_at "r"
  refine wp_bmL ?_
  wtm_at "r"
  refine ⟨p1, _, rfl, SqL.of q1, ?_⟩
  wtm_at "r"
  refine wp_isX rfl xc relR' k4 (e1 _ _ hd0) ?_
  wtm_at "r"
  refine wp_append q1 (by show 4 < 100000; decide) ?_
  have e2 : Ex F0 (upd F1 p1 (.lst ([.bl b0, .bl b1, .bl b2, .bl b3] ++ [.bl b4]))) := ex_mut e1 hp1
  have q2 : (upd F1 p1 (.lst ([.bl b0, .bl b1, .bl b2, .bl b3] ++ [.bl b4]))) p1 = some (.lst ([b0, b1, b2, b3, b4].map V.bl)) := upd_same
  revert e2 q2
  generalize upd F1 p1 (.lst ([.bl b0, .bl b1, .bl b2, .bl b3] ++ [.bl b4])) = F2
  intro e2 q2
  wtm_at "r"
  refine ⟨(by show 5 ≤ 100000; decide), ?_⟩
  wtm_at "gz"
  intro p3 hp3 F3 q3 e3
  have q3 : F3 p3 = some (.lst (wordsR.map fun z => V.str (tx z))) := q3
  wtm_at "r"
  refine wp_isX rfl xc relT' kV (e3 _ _ (e2 _ _ hd0)) ?_
  wtm_at "r"
  refine bF rfl ?_
  wtm_at "r"
  refine wp_lcL (fun _ => rfl) ?_
  wtm_at "r"
  refine ⟨p3, _, rfl, SqL.of q3, fun Dl hD => ?_⟩
  refine ⟨fun i acc F4 => acc = ((wordsR.take i).map fun z => V.bl (decide ([115, 101, 116, 115] = z))) ∧ Ex F3 F4, ⟨rfl, ex_new hD⟩, fun i acc F4 ⟨_, e4⟩ => SqL.of (e4 _ _ q3), ?_, ?_⟩
  · rintro i y acc F4 hy q4 ⟨rfl, e4⟩
    obtain ⟨z, hz, rfl⟩ : ∃ z, wordsR[i]? = some z ∧ y = .str (tx z) := by
      rw [List.getElem?_map] at hy
      cases q : wordsR[i]? with
      | none => rw [q] at hy; cases hy
      | some c => rw [q] at hy; exact ⟨c, rfl, (Option.some.inj hy).symm⟩
    show Wp _ _ _ _
    wtm_at "r"
    refine ⟨fun _ => ?_, fun z => (by cases z)⟩
    wtm_at "r"
    refine ⟨q4, ?_, ?_, ex_mut e4 hD⟩
    · have := List.length_take_le' i wordsR
      have h5 : wordsR.length = 5 := rfl
      rw [List.length_map]
      omega
    · rw [take_more hz, List.map_append]
      rfl
  · rintro acc F4 q4 ⟨rfl, e4⟩
    have q4 : F4 Dl = some (.lst ([b0, b1, b2, b3, b4].map V.bl)) := by
      rw [hb, List.map_map]
      exact q4
    refine wp_neD (d := .list ([b0, b1, b2, b3, b4].map PyData.bool)) (e := .list ([b0, b1, b2, b3, b4].map PyData.bool)) (.lst (SqL.of ((e3.trans e4) _ _ q2)) (dp_bools _)) (.lst (SqL.of q4) (dp_bools _)) (by rfl) (by rfl) ?_
    rw [show PyData.eqv (.list ([b0, b1, b2, b3, b4].map PyData.bool)) (.list ([b0, b1, b2, b3, b4].map PyData.bool)) = true from eqv_bools _]
    wtm_at "r"
    refine bF rfl ?_
    wtm_at "r"
    refine bT rfl ?_
    wtm_at "r"
    refine wp_callS ?_
    wtm_at "r"
    refine wp_xf (fs := [("why", v)]) (v := v) ?_
    wtm_at "r"
    refine ⟨rfl, rfl, e4 _ _ (e3 _ _ (e2 _ _ hd0)), rfl, ?_⟩
    wtm_at "r"
    intro H5 w5 Q5 k5
    refine ⟨v, rfl, hv, RetV.use w5 ?_ k5⟩
    exact kQ.out (hF.trans (e2.trans (e3.trans e4)))
theorem ok0 {x qual : Str} {st : Stmt} {f : Addr} {fd : FuncData} {N ps : List Str} {k : Nat} {sp : Sp} (F : Fun K x qual st f fd) (S : FnScope N ps (defScope st)) (len : ∀ vs H Q E, sp vs H Q E → vs.length = ps.length)
    (hbody : ∀ (cdv : Value) (A : Around) (outer : List Env) (s : Shared) (H : Hp) (vs : List V) (Q : VK) (E : XK), Room k (A.deeper (envOfC qual (defScope st) s.heap.objs.size f cdv)) → sp vs H Q E →
      ∃ t, PSs (cxOf CX0 P w K mg base N qual (defScope st) f cdv A outer s H E) (defBody st) t ∧ t { nx := fun _ H' => Q .non H', rt := Q } (start N vs) H) : FnOk P w K mg base CX0 (k + 1) f fd ps sp := by
  obtain ⟨oc, od, kV, doc, pm, an, cdv, ct, osl, rfl, lk, hcd⟩ := F.ex
  exact fn_of lk hcd S len fun A outer s H vs Q E hr hsp => hbody cdv A outer s H vs Q E hr hsp
theorem retE_rm {C : Addr} {f : Str} {v : V} {H : Hp} {cs : List Addr} {E : XK} (Ce : Cels H cs) (h : RetE C f v H E) : RetE C f v (rmL H cs) (fun cls d H' => (∀ c ∈ cs, H' c = none) → E cls d (adL H H' cs)) := fun d H2 n e hx hn => by
  have hd : d ∉ cs := fun hc => by
    have := hn d hc
    rw [hx] at this
    cases this
  rw [rmL_out hd] at n
  refine h d _ n (fun b u q => ?_) (by rw [adL_out hd]; exact hx)
  by_cases hb : b ∈ cs
  · rw [adL_in hb]; exact q
  · rw [adL_out hb]; exact e b u (by rw [rmL_out hb]; exact q)
theorem sqT_rm {a : Addr} {xs : List V} {H : Hp} {cs : List Addr} (Ce : Cels H cs) (h : SqT K H a xs) : SqT K (rmL H cs) a xs := by
  rcases h with (h | ⟨o, h⟩) | h
  · exact .inl (.inl (rmL_at Ce h fun _ _ z => objO_ntup _ z.symm))
  · exact .inl (.inr ⟨o, rmL_at Ce h fun _ _ z => objO_nfrz z.symm⟩)
  · exact .inr h
def sp_refS (P : Program) (w : World) (K : PySem.W.Frag) (mg : Str → Option Value) (base : Heap) (CS : Addr) : Sp := fun vs H Q _ => ∃ (f s : Addr) (A B l : List Nat), vs = [.ref f, .str (tx [115, 101, 116, 115]), .str (tx l)] ∧ SetsAt K H s A B ∧ A.length ≤ 100 ∧ B.length ≤ 100 ∧ BadS A B l ∧
  FnHas P w K mg base 6 f (spS1 K CS s A B l) H ∧ RetV (.bl true) H Q
theorem pm_refS {CT CS CA CN CM CX : Addr} (D : DefAt K mg "_law_refused" s_q_refused) (B : Bl mg) (M : RefC K mg CT CS CA CN CM CX CS true false false false false) (no : PySem.W.findIn K (.ref CS) "why" = some none) (g_q_alike_h : PmH P w K mg base 1 "_law_alike" ["_law_found", "_law_due"] spAH) :
    Pm P w K mg base CX0 8 "_law_refused" ["_law_work", "_law_word", "_law_value"] (sp_refS P w K mg base CS) := by
  obtain ⟨f, fd, F, hm⟩ := D
  refine ⟨f, fd, ?_, hm, F.kp, F.binds fun _ _ _ _ _ _ us hl => match us, hl with | [_, _, _], _ => rfl⟩
  refine ok0 F sc_q_refused (fun vs H Q E h => ?_) (fun cdv A outer s H vs Q E hr h => ?_)
  · obtain ⟨_, _, _, _, _, rfl, _⟩ := h
    rfl
  · obtain ⟨g, s0, A', B', l, rfl, hS, hA, hB, hb, hF, k⟩ := h
    obtain ⟨c', co, tl, h1, h2, h3⟩ := FnHas.act (CXg := CX0) (Eg := E) (Ng := n_q_refused) (a := "_law_work") hF (fun cs Ce => ⟨sqT_rm Ce hS, hA, hB, hb⟩) (fun cs E Ce => retE_rm Ce) hr rfl (Or.inl rfl)
    exact refused_why B M no g_q_alike_h rfl (.inr ⟨_, rfl⟩) (hr.mono (by decide)) h2 h1 h3 k
end
/-! ### _law_absent: signs that stand in no set -/
def candA : List Nat := [33, 63, 90, 61, 97, 98, 99, 100, 101, 102, 103, 104, 105, 106, 107, 108, 109, 110, 111, 112, 113, 114, 115, 116, 117, 118, 119, 120, 121, 122]
def farS (A B : List Nat) : List Nat := candA.filter fun c => !decide (c ∈ A ++ B)
theorem far_len {A B : List Nat} (hA : A.length ≤ 10) (hB : B.length ≤ 10) : 10 ≤ (farS A B).length := by
  have h : candA.length ≤ (farS A B ++ (A ++ B)).length := nd_sub_len (by decide) fun x hx => by
    by_cases hm : x ∈ A ++ B
    · exact List.mem_append.mpr (.inr hm)
    · refine List.mem_append.mpr (.inl (List.mem_filter.mpr ⟨hx, ?_⟩))
      rw [decide_eq_false hm]
      rfl
  have h2 : candA.length = 30 := rfl
  rw [List.length_append, List.length_append] at h
  omega
theorem far_not {A B : List Nat} {c : Nat} (h : c ∈ farS A B) : c ∉ A ∧ c ∉ B := by
  have h2 := (List.mem_filter.mp h).2
  have h3 : c ∉ A ++ B := fun hm => by
    rw [decide_eq_true hm] at h2
    cases h2
  exact ⟨fun z => h3 (List.mem_append.mpr (.inl z)), fun z => h3 (List.mem_append.mpr (.inr z))⟩
theorem far_nd (A B : List Nat) : (farS A B).Nodup := (by decide : candA.Nodup).sublist List.filter_sublist
theorem far_lt {A B : List Nat} {c : Nat} (h : c ∈ farS A B) : c < 128 := (by decide : ∀ c ∈ candA, c < 128) c (List.mem_filter.mp h).1
theorem filt_moreA {α : Type} {p : α → Bool} {l : List α} {i : Nat} {x : α} (h : l[i]? = some x) : (l.take (i + 1)).filter p = (l.take i).filter p ++ (if p x = true then [x] else []) := by
  rw [take_more h, List.filter_append]
  congr 1
  by_cases hp : p x = true
  · rw [if_pos hp]; simp [hp]
  · rw [if_neg hp]; simp [hp]
section
variable {P : Program} {w : World} {K : PySem.W.Frag} {mg : Str → Option Value} {base : Heap}
abbrev s_q_absent : Stmt := topS 46
abbrev n_q_absent : List Str := ["_law_sets_here", "_law_sign"]
theorem sc_q_absent : FnScope n_q_absent ["_law_sets_here"] (defScope s_q_absent) := ⟨rfl, rfl, rfl, by decide +kernel, rfl, by decide +kernel, by decide +kernel⟩

def sp_absent (K : PySem.W.Frag) : Sp := fun vs H Q _ => ∃ (s : Addr) (A B : List Nat), vs = [.ref s] ∧ SetsAt K H s A B ∧ A.length ≤ 10 ∧ B.length ≤ 10 ∧ RetN (.lst ((farS A B).map sg)) H Q
theorem wp_absent {o : Option Addr} {F : Hp} {Pq : V → Hp → Prop} {s : Addr} {A B : List Nat} {E : XK} (hS : SetsAt K F s A B) (hA : A.length ≤ 10) (hB : B.length ≤ 10) (q : ∀ p, F p = none → Pq (.ref p) (upd F p (.lst ((farS A B).map sg)))) :
    Wp o (fun H Q => sp_absent K ([.ref s] ++ []) H Q E) F Pq := fun H w Q k => ⟨s, A, B, rfl, w.t hS, hA, hB, RetN.use w q k⟩
theorem pm_absent (D : DefAt K mg "_law_absent" s_q_absent) (B : Bl mg) : Pm P w K mg base CX0 1 "_law_absent" ["_law_sets_here"] (sp_absent K) := by
  obtain ⟨f, fd, F, hm⟩ := D
  refine ⟨f, fd, ?_, hm, F.kp, F.binds fun _ _ _ _ _ _ us hl => match us, hl with | [_], _ => rfl⟩
  refine F.ok sc_q_absent (fun vs H Q E h => ?_) (fun cdv A outer s H vs Q E hr h => ?_)
  · obtain ⟨_, _, _, rfl, _⟩ := h
    rfl
  · obtain ⟨s, A', B', rfl, hS, hA, hB, k⟩ := h
    refine ⟨_, (pss_cons (ps_ret (pe_lc (own := [("_law_sign", 1)]) (g := gName 1) rfl sc_q_absent.nd (pi_str (pe_strT (l := [33, 63, 90, 61, 97, 98, 99, 100, 101, 102, 103, 104, 105, 106, 107, 108, 109, 110, 111, 112, 113, 114, 115, 116, 117, 118, 119, 120, 121, 122]) (by decide +kernel))) (blkOk_by (N := n_q_absent) (sc := defScope s_q_absent) (by decide +kernel)) (fun _ _ _ _ _ => pg_name (i := 1) sc_q_absent.nd rfl (Or.inl rfl)) (fun _ _ _ _ _ => (pts_one (pt_cmpR (niK K rfl) (pv 1) (pe_op op_addP (pe_ix (ixK K rfl) (pv 0) pe_int (fun _ _ => rfl)) (pe_ix (ixK K rfl) (pv 0) pe_int (fun _ _ => rfl))) (by rfl)))) (fun _ _ _ _ _ => (pv 1))))
 pss_nil), ?_⟩
    refine go_st (σ := [some (.ref s), none]) rfl ?_
    refine go_ret ?_
    refine wp_lcS (fun _ => rfl) ?_
    wtm_at "r"
    refine fun Dl hD => ⟨fun j acc F2 => acc = ((candA.take j).filter fun c => !decide (c ∈ A' ++ B')).map sg ∧ Ex H F2, ⟨rfl, ex_new hD⟩, ?_, ?_⟩
    · rintro j ch acc F2 hj hDF ⟨rfl, e⟩
      have hj : candA[j]? = some ch := hj
      have hSF := ex_t e hS
      show Wp _ _ _ _
      wtm_at "r"
      refine ⟨fun hc => ?_, fun hc => ?_⟩
      · wtm_at "r"
        refine ⟨hDF, ?_, ?_, ex_mut e hD⟩
        · have := List.length_filter_le (fun c => !decide (c ∈ A' ++ B')) (candA.take j)
          have := List.length_take_le' j candA
          have h3 : candA.length = 30 := rfl
          rw [List.length_map]
          omega
        · rw [filt_moreA hj, if_pos hc, List.map_append]
          rfl
      · exact ⟨hDF, by rw [filt_moreA hj, if_neg (by rw [hc]; decide), List.append_nil], e⟩
    · rintro acc F2 hDF ⟨rfl, e⟩
      have hDF : F2 Dl = some (.lst ((farS A' B').map sg)) := by
        rw [show farS A' B' = ((candA.take candA.length).filter fun c => !decide (c ∈ A' ++ B')) from by rw [List.take_length]; rfl]
        exact hDF
      exact k.out e hD hDF
end
section
variable {K : PySem.W.Frag} {F : Hp} {σ : L2.St} {D : Ends} {tz : TS}
/-- what the law is asked -/
def spLaw (K : PySem.W.Frag) : Sp := fun vs H Q _ => ∃ (a : Addr) (ns : List Int), vs = [.ref a] ∧ SqL K H a (il ns) ∧ ns.length ≤ 63 ∧ ∀ H1, Q (.bl true) H1
/-- the dice are made: from here on they stand apart -/
theorem go_dice {i : Nat} {E : XK} {a : Addr} {ns : List Int} (h0 : σ[0]? = some (some (.ref a))) (hA : SqL K F a (il ns)) (hl : ns.length ≤ 63) (k : ∀ d, F d = none → Go (some d) tz D (σ.set i (some (.ref d))) F) :
    Go none (tSeq (tAsg (tCall (sp_dice K) [] E (tCons (tVar 0) (tCons (tC (.int 0)) tNil))) (gName i)) tz) D σ F := fun H w =>
  ⟨.ref a, h0, a, 0, ns, rfl, w.l hA, hl, fun p H1 n e dc => k p (w.fr n) H1 ⟨w.ex.trans e, fun b z => by cases z; exact ⟨w.fr n, dc⟩⟩⟩
/-- data of what reading tells -/
theorem dp_pair {p : Addr} {l : List Nat} {st : Int} (h : F p = some (.tup [.str (tx l), .int st])) : Dp K F (.ref p) (.tuple [.str (tx l), .int st]) := .tup (SqT.of h) (.cons (.str _) (.cons (.int _) .nil))
theorem dn_pair (l : List Nat) (st : Int) : DpN 1 (.tuple [.str (tx l), .int st]) := .inr ⟨_, .inr rfl, by simp, fun e he => by
  simp only [List.mem_cons, List.not_mem_nil, or_false] at he
  rcases he with rfl | rfl <;> rfl⟩
end
/-! ### the end, with the tables of the law's code object and of _law_works' -/
def spLawT (K : PySem.W.Frag) (pL pW : Addr) : Sp := fun vs H Q _ => ∃ (a : Addr) (ns : List Int), vs = [.ref a] ∧ SqL K H a (il ns) ∧ ns.length ≤ 63 ∧ H pL = some (.tbl #[]) ∧ H pW = some (.tbl #[]) ∧ ∀ H1, Q (.bl true) H1
/-- no empty table among the written objects -/
def tabFree (K : PySem.W.Frag) : Bool := K.all fun p => !(match p.2.data with | .fields vs => vs.isEmpty | _ => false)
theorem mem_lookA {a : Addr} {u : Obj} : ∀ {l : List (Addr × Obj)}, l.lookup a = some u → (a, u) ∈ l
  | [], h => by cases h
  | (b, v) :: r, h => by
    rw [List.lookup_cons] at h
    cases e : (a == b) with
    | true =>
      rw [e] at h
      have e2 : a = b := beq_iff_eq.mp e
      cases h
      rw [e2]
      exact List.mem_cons_self
    | false =>
      rw [e] at h
      exact List.mem_cons_of_mem _ (mem_lookA h)
/-- where the written code object's table lies -/
def tabA (K : PySem.W.Frag) (cd : Value) : Option Addr := match cd with
  | .ref c => (match K.lookup c with
    | some ⟨_, _, .fields vs, _⟩ => (match vs[11]? with | some (Value.ref p) => some p | _ => none)
    | _ => none)
  | _ => none
def tabNe (K : PySem.W.Frag) (c1 c2 : Value) : Bool := match tabA K c1, tabA K c2 with
  | some a, some b => a != b
  | _, _ => false
theorem tabA_of {K : PySem.W.Frag} {h : Heap} {c P : Addr} {q : Str} {ps : Array Value} (X : K.In h) (e : PySem.W.codeIn K (.ref c) q = true) (t : h.TableAt c P ps) : tabA K (.ref c) = some P := by
  obtain ⟨⟨o, vs, h1, _, h3, h4⟩, _⟩ := t
  unfold PySem.W.codeIn at e
  unfold tabA
  simp only at e ⊢
  cases q1 : K.lookup c with
  | none => rw [q1] at e; simp at e
  | some u =>
    have h5 := X _ _ q1
    rw [h1] at h5
    cases h5
    obtain ⟨cl, dc, dt, sl⟩ := o
    have h3 : dt = .fields vs := h3
    subst h3
    simp only [h4]
theorem tabNe_of {K : PySem.W.Frag} {c1 c2 : Value} {a b : Addr} (h : tabNe K c1 c2 = true) (h1 : tabA K c1 = some a) (h2 : tabA K c2 = some b) : a ≠ b := fun z => by
  unfold tabNe at h
  rw [h1, h2, z] at h
  simp at h
open LamX in
theorem walk_ofTabW {l : PySem.W.OpenLaw} {n k : Nat} {q : Program} {loose : List Str} {XP : (Str → Option Value) → Heap → Prop} {YP : World → Heap → Prop} {d dW : DefRec} {K : Params → PySem.W.Frag} {x x0 x1 : Str}
    (hn : l.most = some n) (hn2 : n ≤ sizeLine) (hdf : d.params.defaults = []) (hr : Room k callerA) (hY : ∀ (w : World) (h : Heap), YP w h → (K w.params).In h) (hrec : (PyProof.Rows.recsOf q).find? (fun e => e.name == x0) = some d) (hrecW : (PyProof.Rows.recsOf q).find? (fun e => e.name == x1) = some dW) (hfree : ∀ w : World, tabFree (K w.params) = true)
    (F : ∀ (w : World) (mg : Str → Option Value) (fa fW : Addr) (h : Heap), (K w.params).In h → h.Ns mainGlobals mg → mg d.name = some (.ref fa) → mg dW.name = some (.ref fW) → ∃ fd fdW : FuncData, (∃ oc od osl, (K w.params).lookup fa = some ⟨oc, od, .func fd, osl⟩) ∧ (∃ oc od osl, (K w.params).lookup fW = some ⟨oc, od, .func fdW, osl⟩) ∧
      (∃ q, PySem.W.codeIn (K w.params) fd.code q = true) ∧ (∃ q, PySem.W.codeIn (K w.params) fdW.code q = true) ∧ (∀ (s : Shared) (u : Value), BindsTo s fd ⟨[u], []⟩ [(x, u)]) ∧ ∀ (c P cW PW : Addr), fd.code = .ref c → fdW.code = .ref cW → tabA (K w.params) (.ref c) = some P → tabA (K w.params) (.ref cW) = some PW →
      ∀ base : Heap, (K w.params).In base → base.Ns mainGlobals mg → TabB base mg c P → TabB base mg cW PW → FnOk l.prog w (K w.params) mg base CX0 k fa fd [x] (spLawT (K w.params) P PW)) (h63 : n ≤ 63) :
    PySem.W.WalkO q loose XP YP l.row.toRowW d [] (fun f vs => PySem.call f vs) := by
  refine Att.attach_callB hn hdf fun w s₀ s₁ mg mb fa o pm cd doc a vs ns G Y ho hd hcd hmg hobj hints hlen hbits hg => ?_
  have KX := hY w _ Y
  obtain ⟨a3, o3, fd3, c3, P3, u1, u2, u3, u4, u5, u6⟩ := G.T.tab dW (List.mem_of_find?_eq_some hrecW)
  obtain ⟨fd, fdW, ⟨oc, od, osl, lk⟩, ⟨ocW, odW, oslW, lkW⟩, ⟨q1, hc1⟩, ⟨q2, hc2⟩, hb, hF⟩ := F w mg fa a3 _ KX G.T.g hmg u1
  obtain ⟨a2, o2, fd2, c, P, t1, t2, t3, t4, t5, t6⟩ := G.T.tab d (List.mem_of_find?_eq_some hrec)
  rw [hmg] at t1
  cases t1
  have lk2 := KX _ _ lk
  rw [lk2] at t2
  cases t2
  cases t3
  have lk3 := KX _ _ lkW
  rw [lk3] at u2
  cases u2
  cases u3
  have nT : ∀ P, s₁.heap.get? P = some { cls := .none, data := .fields #[] } → (K w.params).lookup P = none := fun P hP => by
    cases e : (K w.params).lookup P with
    | none => rfl
    | some u =>
      have e1 := KX _ _ e
      rw [hP] at e1
      cases e1
      have := List.all_eq_true.mp (hfree w) _ (mem_lookA e)
      simp at this
  have mem : ∀ p ∈ [(c, P), (c3, P3)], p = (c, P) ∨ p = (c3, P3) := fun p hp => by simpa using hp
  refine law_callTs (cs := [(c, P), (c3, P3)]) (sp := spLawT (K w.params) P P3) (CX := CX0) KX G.T.g G.T.b G.T.builtins G.T.nolimit hg (fun p hp => ?_) (fun p hp => ?_) (fun p hp => ?_)
    G.T.bmain hobj hints (Nat.le_trans hlen hn2) hr (fun base h1 h2 h3 => hF c P c3 P3 t4 u4 (tabA_of KX (by rw [← t4]; exact hc1) t6) (tabA_of KX (by rw [← u4]; exact hc2) u6) base h1 h2 (h3 (c, P) List.mem_cons_self) (h3 (c3, P3) (List.mem_cons_of_mem _ List.mem_cons_self))) hb
    (fun H hH hS => ⟨a, ns, rfl, hS, Nat.le_trans hlen h63, hH (c, P) List.mem_cons_self, hH (c3, P3) (List.mem_cons_of_mem _ List.mem_cons_self), fun H1 => rfl⟩) fun H e s' h => h
  · rcases mem p hp with e | e <;> rw [e]
    · exact t6.2
    · exact u6.2
  · rcases mem p hp with e | e <;> rw [e]
    · exact nT _ t6.2
    · exact nT _ u6.2
  · rcases mem p hp with e | e <;> rw [e]
    · exact PySem.W.CodeHd.of t5 t6
    · exact PySem.W.CodeHd.of u5 u6
/-! ### the sets that are refused -/
theorem nnd_dd {l : List Nat} (h : ¬ l.Nodup) : dd l ≠ l.length := fun e => h ((dd_full l).mp e)
theorem dup_take {A : List Nat} (h : 1 ≤ A.length) : ¬ (A.take 9 ++ A.take 1).Nodup := by
  match A, h with
  | a :: r, _ =>
    intro z
    have z2 := (List.nodup_append.mp z).2.2 a (by simp) a (by simp)
    exact z2 rfl
theorem dup_take1 {B : List Nat} (h : 1 ≤ B.length) : ¬ (B.take 1 ++ B).Nodup := by
  match B, h with
  | a :: r, _ =>
    intro z
    have z2 := (List.nodup_append.mp z).2.2 a (by simp) a (by simp)
    exact z2 rfl
theorem cutN_len (l : List Nat) (a b : Option Int) : (cutN l a b).length ≤ l.length := by
  unfold cutN
  rw [List.length_take, List.length_drop]
  omega
theorem cutN_neg1 (l : List Nat) : (cutN l none (some (-1))).length = l.length - 1 := by
  unfold cutN
  rw [HT.sIx_none, List.length_take, List.length_drop, show HT.sIx l.length l.length (some (-1)) = ((-1 : Int) + (l.length : Int)).toNat from by unfold HT.sIx; exact if_pos (by decide)]
  omega
section
variable {A B : List Nat} {f0 f1 r : Nat}
theorem bs0 : BadS [] B wFirst := .inl ⟨rfl, .inl rfl⟩
theorem bs1 {l : List Nat} (h : 10 < l.length) : BadS l l wFirst := .inl ⟨rfl, .inr (.inl h)⟩
theorem bs2 (g : Good A B) : BadS (A.take 9 ++ A.take 1) B wFirst := .inl ⟨rfl, .inr (.inr (nnd_dd (dup_take g.n1)))⟩
theorem dd_app (g : Good A B) (h0 : f0 ∉ A) : dd (A ++ [f0]) = (A ++ [f0]).length := (dd_full _).mpr (snoc_nd g.ndA h0)
theorem bs3 (g : Good A B) (h0 : f0 ∉ A) : BadS (A ++ [f0]) B (if 9 < A.length then wFirst else wSecond) := by
  have hl : (A ++ [f0]).length = A.length + 1 := by simp
  have := g.n10
  by_cases h : 9 < A.length
  · rw [if_pos h]
    exact .inl ⟨rfl, .inr (.inl (by omega))⟩
  · rw [if_neg h]
    refine .inr ⟨rfl, by omega, by omega, dd_app g h0, .inl ?_⟩
    rw [g.eq]
    omega
theorem bs4 (g : Good A B) : BadS A (B.drop 1) wSecond := by
  refine .inr ⟨rfl, g.n1, g.n10, (dd_full A).mpr g.ndA, .inl ?_⟩
  rw [List.length_drop, g.eq]
  have := g.n1
  omega
theorem bs5 (g : Good A B) {l : List Nat} (h : l.length = B.length + 1) : BadS A l wSecond := by
  refine .inr ⟨rfl, g.n1, g.n10, (dd_full A).mpr g.ndA, .inl ?_⟩
  rw [h, g.eq]
  omega
theorem bs6 (g : Good A B) (h0 : f0 ∉ A) : BadS (A ++ [f0]) (B.take 1 ++ B) (if 9 < A.length then wFirst else wSecond) := by
  have hl : (A ++ [f0]).length = A.length + 1 := by simp
  have := g.n10
  by_cases h : 9 < A.length
  · rw [if_pos h]
    exact .inl ⟨rfl, .inr (.inl (by omega))⟩
  · rw [if_neg h]
    exact .inr ⟨rfl, by omega, by omega, dd_app g h0, .inr (nnd_dd (dup_take1 (by rw [g.eq]; exact g.n1)))⟩
end
theorem sh_pair {l : List Nat} (h : ∀ c ∈ l, c < 128) (st : Int) : SeqAt.shaped (.tuple [.str (tx l), .int st]) = true := by
  unfold SeqAt.shaped
  rw [Bool.and_eq_true, decide_eq_true_eq]
  constructor
  · show (PyData.strOk (tx l) && (true && true)) = true
    rw [Bool.and_true, Bool.and_true]
    unfold PyData.strOk
    show l.toArray.all _ = true
    rw [List.all_toArray, List.all_eq_true]
    intro c hc
    have := h c hc
    exact decide_eq_true (by omega)
  · show max 0 (max 0 0) + 1 ≤ 64
    decide
theorem eqv_pair (l : List Nat) (st : Int) : PyData.eqv (.tuple [.str (tx l), .int st]) (.tuple [.str (tx l), .int st]) = true := by
  show (((tx l) == (tx l)) && ((st == st) && true)) = true
  simp
/-- one of the cases: the pair at p, and what is refused of it -/
def CaseS (K : PySem.W.Frag) (F : Hp) (x y : V) : Prop := ∃ (p : Addr) (X Y l : List Nat), x = .ref p ∧ y = .str (tx l) ∧ SetsAt K F p X Y ∧ X.length ≤ 100 ∧ Y.length ≤ 100 ∧ BadS X Y l
theorem CaseS.ex {K : PySem.W.Frag} {F F1 : Hp} {x y : V} (h : CaseS K F x y) (e : Ex F F1) : CaseS K F1 x y := by
  obtain ⟨p, X, Y, l, h1, h2, h3, h4⟩ := h
  exact ⟨p, X, Y, l, h1, h2, ex_t e h3, h4⟩
section
open LamX
variable {P : Program} {w : World} {K : PySem.W.Frag} {mg : Str → Option Value} {base : Heap}
theorem wp_works {d : Addr} {F : Hp} {Pq : V → Hp → Prop} {CS pW s : Addr} {A B l : List Nat} {E : XK} (hS : SetsAt K F s A B) (hA : A.length ≤ 100) (hB : B.length ≤ 100) (hb : BadS A B l) (hT : Tabs [(pW, qW)] F)
    (q : ∀ (p : Addr) (fs : List Addr) (F1 : Hp), ExtN F F1 → F1 p = some (.lst (fs.map V.ref)) → fs.length = 11 → (∀ f ∈ fs, FnHas P w K mg base 6 f (spS1 K CS s A B l) F1) → Pq (.ref p) F1) :
    Wp (some d) (fun H Q => sp_works P w K mg base CS pW ([.ref s] ++ []) H Q E) F Pq := fun H w Q k => by
  refine ⟨s, A, B, l, rfl, w.t hS, hA, hB, hb, Tabs.ext hT w.ex, fun p fs H1 eN h1 hl hf => ?_⟩
  obtain ⟨fd, ns, hns, hdl⟩ := w.dc d rfl
  have hns1 := eN _ _ hns (fun ps z => by cases z)
  have nd : ∀ {b : Addr} {u : HO}, H1 b = some u → (∀ xs, u ≠ .lst xs) → rm H1 d b = some u := fun {b u} e n => by
    rw [rm_ne (fun z => by rw [z, hns1] at e; exact n _ (Option.some.inj e).symm)]
    exact e
  have hpd : p ≠ d := fun z => by
    rw [z, hns1] at h1
    have h1 := HO.lst.inj (Option.some.inj h1)
    match ns, fs, hdl, hl with
    | n :: _, f :: _, _, _ => cases h1
  refine k _ H1 (rm H1 d) (Wd.dice ⟨ns, hns1, hdl⟩) (q p fs (rm H1 d) (fun b u e n => ?_) (by rw [rm_ne hpd]; exact h1) hl fun f hm => (hf f hm).extL fun b u e _ n => nd e n)
  rw [rm_ne (ne_of_none e fd)]
  exact eN _ _ (w.ex _ _ e) n
theorem wp_refS {o : Option Addr} {F : Hp} {Pq : V → Hp → Prop} {CS f s : Addr} {A B l : List Nat} {E : XK} (hS : SetsAt K F s A B) (hA : A.length ≤ 100) (hB : B.length ≤ 100) (hb : BadS A B l) (hf : FnHas P w K mg base 6 f (spS1 K CS s A B l) F) (q : Pq (.bl true) F) :
    Wp o (fun H Q => sp_refS P w K mg base CS ([.ref f, .str (tx [115, 101, 116, 115]), .str (tx l)] ++ []) H Q E) F Pq := fun H w Q k => ⟨f, s, A, B, l, rfl, w.t hS, hA, hB, hb, hf.ext (ExtN.of w.ex), RetV.use w q k⟩
abbrev s_law : Stmt := topS 48
abbrev n_law : List Str := ["_law_script", "_law_d", "_law_sets_here", "_law_one", "_law_other", "_law_wide", "_law_far", "_law_some", "_law_due", "_law_k", "_law_work"]
theorem sc_law : FnScope n_law ["_law_script"] (defScope s_law) := ⟨rfl, rfl, rfl, by decide +kernel, rfl, by decide +kernel, by decide +kernel⟩

theorem ok_law {CS pL pW : Addr} {f : Addr} {fd : FuncData} (F : Fun K "law" "law" s_law f fd) (B : Bl mg) (g_q_dice : Pm P w K mg base CX0 1 "_law_dice" ["_law_script", "_law_k"] (sp_dice K)) (g_q_off : Pm P w K mg base CX0 1 "_law_off" ["_law_d", "_law_most"] sp_off)
    (g_q_sets : Pm P w K mg base CX0 3 "_law_sets" ["_law_d"] (sp_sets K)) (g_read : Pm P w K mg base CX0 3 "read" ["sets", "tape", "state"] (sp_read K)) (g_q_absent : Pm P w K mg base CX0 1 "_law_absent" ["_law_sets_here"] (sp_absent K))
    (g_q_works : Pm P w K mg base CX0 1 "_law_works" ["_law_sets_here"] (sp_works P w K mg base CS pW)) (g_q_refused : Pm P w K mg base CX0 8 "_law_refused" ["_law_work", "_law_word", "_law_value"] (sp_refS P w K mg base CS)) : FnOk P w K mg base CX0 10 f fd ["_law_script"] (spLawT K pL pW) := by
  refine F.ok sc_law (fun vs H Q E h => ?_) (fun cdv A outer s H vs Q E hr h => ?_)
  · obtain ⟨_, _, rfl, _⟩ := h
    rfl
  · obtain ⟨a, ns, rfl, hA, hl, hpL, hpW, k⟩ := h
    have hTab : Tabs [(pW, qW)] H := fun p hp => by
      rw [List.mem_singleton.mp hp]
      exact TabS.nil hpW
    refine ⟨_, (pss_cons (ps_set (i := 1) sc_law.nd rfl (Or.inl rfl) (pe_pm g_q_dice (hr.mono (by decide)) pass0 (pa_cons (pv 0) (pa_cons pe_int pa_nil))))
 (pss_cons (ps_set (i := 2) sc_law.nd rfl (Or.inl rfl) (pe_pm g_q_sets (hr.mono (by decide)) pass0 (pa_cons (pv 1) pa_nil)))
 (pss_cons (ps_asg (pv 2) (pgT K rfl (n := 2) rfl (pgs_cons (pg_name (i := 3) sc_law.nd rfl (Or.inl rfl)) (pgs_cons (pg_name (i := 4) sc_law.nd rfl (Or.inl rfl)) pgs_nil))))
 (pss_cons (ps_if (pt_cmpR (neK K rfl hr.units) (pe_pm g_read (hr.mono (by decide)) pass0 (pa_cons (pv 2) (pa_cons (pe_lst pa_nil) (pa_cons pe_int pa_nil)))) (pe_tup (pa_cons (pe_strT (l := []) (by decide +kernel)) (pa_cons pe_int pa_nil))) (nomark _))
 (pss_cons (ps_ret pe_bl)
 pss_nil)
 pss_nil)
 (pss_cons (ps_set (i := 5) sc_law.nd rfl (Or.inl rfl) (pe_slice (slK K rfl) (pe_strT (l := [97, 98, 99, 100, 101, 102, 103, 104, 105, 106, 107, 108, 109, 110, 111, 112]) (by decide +kernel)) po_none (po_some (pe_op op_addP pe_int (pe_pm g_q_off (hr.mono (by decide)) pass0 (pa_cons (pv 1) (pa_cons pe_int pa_nil)))))))
 (pss_cons (ps_set (i := 6) sc_law.nd rfl (Or.inl rfl) (pe_pm g_q_absent (hr.mono (by decide)) pass0 (pa_cons (pv 2) pa_nil)))
 (pss_cons (ps_set (i := 7) sc_law.nd rfl (Or.inl rfl) (pe_lst (pa_cons (pe_tup (pa_cons (pe_strT (l := []) (by decide +kernel)) (pa_cons (pv 4) pa_nil))) (pa_cons (pe_tup (pa_cons (pv 5) (pa_cons (pv 5) pa_nil))) (pa_cons (pe_tup (pa_cons (pe_op op_addP (pe_slice (slK K rfl) (pv 3) po_none (po_some pe_int)) (pe_slice (slK K rfl) (pv 3) po_none (po_some pe_int))) (pa_cons (pv 4) pa_nil))) (pa_cons (pe_tup (pa_cons (pe_op op_addP (pv 3) (pe_ix (ixK K rfl) (pv 6) pe_int (fun _ _ => rfl))) (pa_cons (pv 4) pa_nil))) (pa_cons (pe_tup (pa_cons (pv 3) (pa_cons (pe_slice (slK K rfl) (pv 4) (po_some pe_int) po_none) pa_nil))) pa_nil)))))))
 (pss_cons (ps_set (i := 7) sc_law.nd rfl (Or.inl rfl) (pe_op op_addP (pv 7) (pe_lst (pa_cons (pe_tup (pa_cons (pv 3) (pa_cons (pe_op op_addP (pe_op op_addP (pe_slice (slK K rfl) (pv 4) po_none (po_some (pe_un un_neg pe_int))) (pe_ix (ixK K rfl) (pv 6) pe_int (fun _ _ => rfl))) (pe_ix (ixK K rfl) (pv 6) pe_int (fun _ _ => rfl))) pa_nil))) (pa_cons (pe_tup (pa_cons (pe_op op_addP (pv 3) (pe_ix (ixK K rfl) (pv 6) pe_int (fun _ _ => rfl))) (pa_cons (pe_op op_addP (pe_slice (slK K rfl) (pv 4) po_none (po_some pe_int)) (pv 4)) pa_nil))) pa_nil)))))
 (pss_cons (ps_set (i := 8) sc_law.nd rfl (Or.inr rfl) (pe_lst (pa_cons (pe_strT (l := [102, 105, 114, 115, 116]) (by decide +kernel)) (pa_cons (pe_strT (l := [102, 105, 114, 115, 116]) (by decide +kernel)) (pa_cons (pe_strT (l := [102, 105, 114, 115, 116]) (by decide +kernel)) (pa_cons (pe_strT (l := [115, 101, 99, 111, 110, 100]) (by decide +kernel)) (pa_cons (pe_strT (l := [115, 101, 99, 111, 110, 100]) (by decide +kernel)) (pa_cons (pe_strT (l := [115, 101, 99, 111, 110, 100]) (by decide +kernel)) (pa_cons (pe_strT (l := [115, 101, 99, 111, 110, 100]) (by decide +kernel)) pa_nil)))))))))
 (Evl.pss_cut (ps_if (pt_cmpR op_gt (pe_callB (lenK K rfl) (by rfl) B.len PySem.boot_len (pa_cons (pv 3) pa_nil)) pe_int (nomark _))
 (pss_cons (ps_asg (pe_strT (l := [102, 105, 114, 115, 116]) (by decide +kernel)) (pg_sub (pv 8) pe_int set_list))
 (pss_cons (ps_asg (pe_strT (l := [102, 105, 114, 115, 116]) (by decide +kernel)) (pg_sub (pv 8) pe_int set_list))
 pss_nil))
 pss_nil)
 (pss_cons (ps_set (i := 9) sc_law.nd rfl (Or.inr rfl) (pe_pm g_q_off (hr.mono (by decide)) pass0 (pa_cons (pv 1) (pa_cons pe_int pa_nil))))
 (pss_cons (ps_ret (pe_cmpR (eqK K rfl hr.units) (pe_lc (own := [("_law_work", 10)]) (g := gName 10) rfl sc_law.nd (piL K rfl (pe_pm g_q_works (hr.mono (by decide)) pass0 (pa_cons (pe_ix (ixK K rfl) (pv 7) (pv 9) (fun _ _ => rfl)) pa_nil))) (blkOk_by (N := n_law) (sc := defScope s_law) (by decide +kernel)) (fun _ _ _ _ _ => pg_name (i := 10) sc_law.nd rfl (Or.inl rfl)) (fun _ _ _ _ _ => (pts_one (pt_not (pt_val (pe_pm g_q_refused (hr.mono (by decide)) pass0 (pa_cons (pv 10) (pa_cons (pe_strT (l := [115, 101, 116, 115]) (by decide +kernel)) (pa_cons (pe_ix (ixK K rfl) (pv 8) (pv 9) (fun _ _ => rfl)) pa_nil)))))))) (fun _ _ _ _ _ => (pv 10))) (pe_lst pa_nil) (nomark _)))
 pss_nil)))))))))))), ?_⟩
    refine go_st (σ := [some (.ref a), none, none, none, none, none, none, none, none, none, none]) rfl ?_
    refine go_dice rfl hA hl fun d hd0 => ?_
    wtm_at "r"
    refine wp_sets fun s A' B' hs g _ _ => ?_
    revert s
    wtm_at "gz"
    intro s hs F1 hs1 eF1
    have hS : SetsAt K F1 s A' B' := SqT.of hs1
    have n10 := g.n10
    have n1 := g.n1
    have nB := g.eq
    wtm_at "r"
    refine ⟨Nat.zero_le _, ?_⟩
    wtm_at "gz"
    intro p2 hp2 F2 q2 e2
    wtm_at "r"
    refine wp_read (cs := []) (ex_t e2 hS) (SqL.of q2) g (fun c hc => by cases hc) (Nat.zero_le _) (.inr rfl) ?_
    wtm_at "gz"
    intro p3 hp3 F3 q3 e3
    wtm_at "r"
    refine ⟨(by show 2 ≤ 100000; decide), ?_⟩
    wtm_at "gz"
    intro p4 hp4 F4 q4 e4
    have q3 : F3 p3 = some (.tup [.str (tx []), .int 1]) := q3
    refine wp_neD (dp_pair (e4 _ _ q3)) (dp_pair q4) (sh_pair (fun c h => by cases h) _) (sh_pair (fun c h => by cases h) _) ?_
    rw [eqv_pair]
    wtm_at "r"
    refine bF rfl ?_
    wtm_at "r"
    refine wp_off (by omega) (by omega) fun r5 hr5 => ?_
    wtm_at "r"
    rw [show (11 : Int) + (r5 : Int) = ((11 + r5 : Nat) : Int) by omega, cutN_take]
    obtain ⟨wd, hwd⟩ : ∃ wd, wd = List.take (11 + r5) [97, 98, 99, 100, 101, 102, 103, 104, 105, 106, 107, 108, 109, 110, 111, 112] := ⟨_, rfl⟩
    have hwl : wd.length = 11 + r5 := by
      rw [hwd, List.length_take]
      show min (11 + r5) 16 = 11 + r5
      omega
    rw [← hwd]
    wtm_at "r"
    refine wp_absent (ex_t (e2.trans (e3.trans e4)) hS) n10 (by omega) ?_
    wtm_at "gz"
    intro p5 hp5 F5 q5 e5
    have hfl := far_len (A := A') (B := B') n10 (by omega)
    obtain ⟨f0, f1, fr, hfar⟩ : ∃ f0 f1 fr, farS A' B' = f0 :: f1 :: fr := by
      match q : farS A' B', hfl with
      | a :: b :: r, _ => exact ⟨a, b, r, rfl⟩
    have h0 : f0 ∉ A' := (far_not (by rw [hfar]; exact List.mem_cons_self)).1
    rw [hfar] at q5
    have q5 : F5 p5 = some (.lst (sg f0 :: sg f1 :: fr.map sg)) := q5
    have eF5 : Ex F1 F5 := e2.trans (e3.trans (e4.trans e5))
    wtm_at "r"
    refine ⟨(by show 2 ≤ 100000; decide), ?_⟩
    wtm_at "gz"
    intro p6 hp6 F6 q6 e6
    wtm_at "r"
    refine ⟨(by show 2 ≤ 100000; decide), ?_⟩
    wtm_at "gz"
    intro p7 hp7 F7 q7 e7
    wtm_at "r"
    rw [show (9 : Int) = ((9 : Nat) : Int) from rfl, cutN_take, show (1 : Int) = ((1 : Nat) : Int) from rfl, cutN_take]
    refine wp_addS (by rw [List.length_take, List.length_take]; omega) ?_
    wtm_at "r"
    refine ⟨(by show 2 ≤ 100000; decide), ?_⟩
    wtm_at "gz"
    intro p8 hp8 F8 q8 e8
    have e68 : Ex F5 F8 := e6.trans (e7.trans e8)
    wtm_at "r"
    refine wp_ixL (SqL.of (e68 _ _ q5)) (atI_nat (j := 0) rfl) ?_
    refine wp_addS (j := [f0]) (by show _ + 1 ≤ _; omega) ?_
    wtm_at "r"
    refine ⟨(by show 2 ≤ 100000; decide), ?_⟩
    wtm_at "gz"
    intro p9 hp9 F9 q9 e9
    wtm_at "r"
    rw [show cutN B' (some ((1 : Nat) : Int)) none = B'.drop 1 from cutN_drop B' 1]
    refine ⟨(by show 2 ≤ 100000; decide), ?_⟩
    wtm_at "gz"
    intro p10 hp10 F10 q10 e10
    wtm_at "r"
    refine ⟨(by show 5 ≤ 100000; decide), ?_⟩
    wtm_at "gz"
    intro p11 hp11 F11 q11 e11
    have e5_11 : Ex F5 F11 := e68.trans (e9.trans (e10.trans e11))
    wtm_at "r"
    refine wp_ixL (SqL.of (e5_11 _ _ q5)) (atI_nat (j := 0) rfl) ?_
    have hc1 := cutN_len B' none (some (-1))
    refine wp_addS (j := [f0]) (by show (cutN B' none (some (-1))).length + 1 ≤ _; omega) ?_
    wtm_at "r"
    refine wp_ixL (SqL.of (e5_11 _ _ q5)) (atI_nat (j := 1) rfl) ?_
    refine wp_addS (j := [f1]) (by rw [List.length_append]; show (cutN B' none (some (-1))).length + 1 + 1 ≤ _; omega) ?_
    wtm_at "r"
    refine ⟨(by show 2 ≤ 100000; decide), ?_⟩
    wtm_at "gz"
    intro p12 hp12 F12 q12 e12
    have q12 : F12 p12 = some (.tup [.str (tx A'), .str (tx (cutN B' none (some (-1)) ++ [f0] ++ [f1]))]) := q12
    wtm_at "r"
    refine wp_ixL (SqL.of ((e5_11.trans e12) _ _ q5)) (atI_nat (j := 0) rfl) ?_
    refine wp_addS (j := [f0]) (by show _ + 1 ≤ _; omega) ?_
    wtm_at "r"
    rw [show cutN B' none (some ((1 : Nat) : Int)) = B'.take 1 from cutN_take B' 1]
    refine wp_addS (by rw [List.length_take]; omega) ?_
    wtm_at "r"
    refine ⟨(by show 2 ≤ 100000; decide), ?_⟩
    wtm_at "gz"
    intro p13 hp13 F13 q13 e13
    wtm_at "r"
    refine ⟨(by show 2 ≤ 100000; decide), ?_⟩
    wtm_at "gz"
    intro p14 hp14 F14 q14 e14
    refine wp_addL ((e12.trans (e13.trans e14)) _ _ q11) q14 (by show 5 + 2 ≤ 100000; decide) ?_
    wtm_at "gz"
    intro p15 hp15 F15 q15 e15
    wtm_at "r"
    refine ⟨(by show 7 ≤ 100000; decide), ?_⟩
    wtm_at "gz"
    intro p16 hp16 F16 q16 e16
    have eF16 : Ex F11 F15 := e12.trans (e13.trans (e14.trans e15))
    obtain ⟨w3, hw3⟩ : ∃ w3, w3 = if 9 < A'.length then wFirst else wSecond := ⟨_, rfl⟩
    refine go_cut (fun σ F17 => σ = [some (.ref a), some (.ref d), some (.ref s), some (.str (tx A')), some (.str (tx B')), some (.str (tx wd)), some (.ref p5), some (.ref p15), some (.ref p16), none, none] ∧ Ex F15 F17 ∧
      F17 p16 = some (.lst [.str (tx wFirst), .str (tx wFirst), .str (tx wFirst), .str (tx w3), .str (tx wSecond), .str (tx wSecond), .str (tx w3)])) ?_ ?_
    · wtm_at "r"
      refine ⟨fun h1 => ?_, fun h1 => ?_⟩
      · have h1 : 9 < A'.length := by have := of_decide_eq_true h1; omega
        rw [if_pos h1] at hw3
        wtm_at "r"
        refine wp_gSetL ?_
        wtm_at "r"
        refine ⟨p16, _, 3, 3, rfl, rfl, q16, rfl, ?_⟩
        wtm_at "r"
        refine wp_gSetL ?_
        wtm_at "r"
        refine ⟨p16, _, 6, 6, rfl, rfl, upd_same, rfl, ?_⟩
        refine go_turn rfl ⟨rfl, ex_mut (ex_mut e16 hp16) hp16, ?_⟩
        rw [upd_same, hw3]
        rfl
      · have h1 : ¬ 9 < A'.length := by have := of_decide_eq_false h1; omega
        rw [if_neg h1] at hw3
        refine go_turn rfl ⟨rfl, e16, ?_⟩
        rw [q16, hw3]
        rfl
    · rintro σ F17 ⟨rfl, e17, q17⟩
      have e15_17 : Ex F11 F17 := eF16.trans e17
      wtm_at "r"
      refine wp_off (by omega) (by omega) fun j hj => ?_
      have x11 : Ex F10 F17 := e11.trans e15_17
      have x10 : Ex F9 F17 := e10.trans x11
      have x9 : Ex F8 F17 := e9.trans x10
      have x8 : Ex F7 F17 := e8.trans x9
      have x7 : Ex F6 F17 := e7.trans x8
      have x13 : Ex F13 F17 := e14.trans (e15.trans e17)
      have hcase : ∃ x y, [V.ref p6, .ref p7, .ref p8, .ref p9, .ref p10, .ref p12, .ref p13][j]? = some x ∧ [V.str (tx wFirst), .str (tx wFirst), .str (tx wFirst), .str (tx w3), .str (tx wSecond), .str (tx wSecond), .str (tx w3)][j]? = some y ∧ CaseS K F17 x y := by
        match j, hj with
        | 0, _ => exact ⟨_, _, rfl, rfl, p6, [], B', wFirst, rfl, rfl, SqT.of (x7 _ _ q6), Nat.zero_le _, by omega, bs0⟩
        | 1, _ => exact ⟨_, _, rfl, rfl, p7, wd, wd, wFirst, rfl, rfl, SqT.of (x8 _ _ q7), by omega, by omega, bs1 (by omega)⟩
        | 2, _ => exact ⟨_, _, rfl, rfl, p8, _, B', wFirst, rfl, rfl, SqT.of (x9 _ _ q8), by rw [List.length_append, List.length_take, List.length_take]; omega, by omega, bs2 g⟩
        | 3, _ => exact ⟨_, _, rfl, rfl, p9, A' ++ [f0], B', w3, rfl, rfl, SqT.of (x10 _ _ q9), by rw [List.length_append]; show _ + 1 ≤ _; omega, by omega, by rw [hw3]; exact bs3 g h0⟩
        | 4, _ => exact ⟨_, _, rfl, rfl, p10, A', B'.drop 1, wSecond, rfl, rfl, SqT.of (x11 _ _ q10), by omega, by rw [List.length_drop]; omega, bs4 g⟩
        | 5, _ =>
          have hc2 := cutN_neg1 B'
          have hc3 : (cutN B' none (some (-1)) ++ [f0] ++ [f1]).length = B'.length + 1 := by
            rw [List.length_append, List.length_append, hc2]
            show B'.length - 1 + 1 + 1 = _
            omega
          exact ⟨_, _, rfl, rfl, p12, A', _, wSecond, rfl, rfl, SqT.of ((e13.trans x13) _ _ q12), by omega, by rw [hc3]; omega, bs5 g hc3⟩
        | 6, _ => exact ⟨_, _, rfl, rfl, p13, A' ++ [f0], B'.take 1 ++ B', w3, rfl, rfl, SqT.of (x13 _ _ q13), by rw [List.length_append]; show _ + 1 ≤ _; omega, by rw [List.length_append, List.length_take]; omega, by rw [hw3]; exact bs6 g h0⟩
        | n + 7, h => omega
      obtain ⟨_, _, hjx, hjy, pc, X, Y, l, rfl, rfl, hSc, hX, hY, hb⟩ := hcase
      have q15' : F17 p15 = some (.lst [V.ref p6, .ref p7, .ref p8, .ref p9, .ref p10, .ref p12, .ref p13]) := e17 _ _ q15
      have hTab17 : Tabs [(pW, qW)] F17 := Tabs.ext hTab (eF1.trans (eF5.trans (e6.trans x7)))
      wtm_at "r"
      refine wp_lcL (fun _ => rfl) ?_
      wtm_at "r"
      refine wp_ixL (SqL.of q15') (atI_nat (j := j) hjx) ?_
      wtm_at "r"
      refine wp_works hSc hX hY hb hTab17 fun pL fs F18 e18 q18 hfl hfs => ?_
      refine ⟨pL, _, rfl, SqL.of q18, fun Dl hD => ⟨fun i acc F19 => acc = [] ∧ Ex F18 F19, ⟨rfl, ex_new hD⟩, fun i acc F19 ⟨_, e⟩ => SqL.of (e _ _ q18), ?_, ?_⟩⟩
      · rintro i y acc F19 hy hDF ⟨rfl, e19⟩
        obtain ⟨f, hf, rfl⟩ : ∃ f, fs[i]? = some f ∧ y = .ref f := by
          rw [List.getElem?_map] at hy
          cases q : fs[i]? with
          | none => rw [q] at hy; cases hy
          | some c => rw [q] at hy; exact ⟨c, rfl, (Option.some.inj hy).symm⟩
        show Wp _ _ _ _
        wtm_at "r"
        refine wp_ixL (SqL.of (e19 _ _ (e18 _ _ q17 (by intro ps z; cases z)))) (atI_nat (j := j) hjy) ?_
        wtm_at "r"
        refine wp_refS (ex_t e19 (ex_lN e18 hSc)) hX hY hb ((hfs f (List.mem_of_getElem? hf)).ext (ExtN.of e19)) ?_
        wtm_at "r"
        exact ⟨fun z => (by cases z), fun _ => ⟨hDF, rfl, e19⟩⟩
      · rintro acc F19 hDF ⟨rfl, e19⟩
        wtm_at "r"
        refine ⟨Nat.zero_le _, ?_⟩
        wtm_at "gz"
        intro p20 hp20 F20 q20 e20
        refine wp_eqIL (xs := []) (ys := []) (SqL.of (e20 _ _ hDF)) (SqL.of q20) ?_
        intro H1 w1
        exact k H1
end
theorem all_mk {l : PySem.W.OpenLaw} {w : World} {K : PySem.W.Frag} {h : Heap} {mg : Str → Option Value} {fa f0 f1 f2 f3 f4 f5 f6 f7 f8 f9 f10 f11 f12 f13 f14 f15 f16 f17 f18 f19 f20 f21 f22 f23 f24 CT C_BadSets N_BadSets fxBadSets C_BadTape C_NoSign C_BadNumber C_BadText fW : Addr} (X : K.In h) (G : h.Ns mainGlobals mg) (hfa : mg "law" = some (.ref fa)) (hfW : mg "_law_works" = some (.ref fW))
    {od0 an0 od1 an1 od2 an2 od3 an3 od4 an4 od5 an5 od6 an6 od7 an7 od8 an8 od9 an9 od10 an10 od11 an11 od12 an12 od13 an13 od14 an14 od15 an15 od16 an16 od17 an17 od18 an18 od19 an19 od20 an20 od21 an21 od22 an22 od23 an23 od24 an24 odxBadSets anxBadSets : Option Addr} {sl0 sl1 sl2 sl3 sl4 sl5 sl6 sl7 sl8 sl9 sl10 sl11 sl12 sl13 sl14 sl15 sl16 sl17 sl18 sl19 sl20 sl21 sl22 sl23 sl24 slxBadSets : Array (Option Value)} {oc0 kV0 dc0 pm0 cd0 ct0 oc1 kV1 dc1 pm1 cd1 ct1 oc2 kV2 dc2 pm2 cd2 ct2 oc3 kV3 dc3 pm3 cd3 ct3 oc4 kV4 dc4 pm4 cd4 ct4 oc5 kV5 dc5 pm5 cd5 ct5 oc6 kV6 dc6 pm6 cd6 ct6 oc7 kV7 dc7 pm7 cd7 ct7 oc8 kV8 dc8 pm8 cd8 ct8 oc9 kV9 dc9 pm9 cd9 ct9 oc10 kV10 dc10 pm10 cd10 ct10 oc11 kV11 dc11 pm11 cd11 ct11 oc12 kV12 dc12 pm12 cd12 ct12 oc13 kV13 dc13 pm13 cd13 ct13 oc14 kV14 dc14 pm14 cd14 ct14 oc15 kV15 dc15 pm15 cd15 ct15 oc16 kV16 dc16 pm16 cd16 ct16 oc17 kV17 dc17 pm17 cd17 ct17 oc18 kV18 dc18 pm18 cd18 ct18 oc19 kV19 dc19 pm19 cd19 ct19 oc20 kV20 dc20 pm20 cd20 ct20 oc21 kV21 dc21 pm21 cd21 ct21 oc22 kV22 dc22 pm22 cd22 ct22 oc23 kV23 dc23 pm23 cd23 ct23 oc24 kV24 dc24 pm24 cd24 ct24 ocxBadSets kVxBadSets dcxBadSets pmxBadSets cdxBadSets ctxBadSets : Value} {t_MOST_SIGNS t_MOST_CODES t_FIGURES t_MOST_SPOILT : Tok} {nm_BadSets q_BadSets : Str} {bs_BadSets : List Value} {sn_BadSets : List Str} {sub_BadSets : List Value} {ab_BadSets : Bool} {col_BadSets : Option Bool} {dd_BadSets : Option Addr} {m0_BadSets m1_BadSets m2_BadSets m3_BadSets m5_BadSets : Option Value}
    (a0 : PySem.W.nsIn K mainGlobals "need_sets" = some (some (.ref f0))) (l0 : K.lookup f0 = some ⟨oc0, od0, .func (PySem.W.fnOf "need_sets" "need_sets" (defArgs s_need_sets) (defBody s_need_sets) (defScope s_need_sets) .none kV0 dc0 pm0 an0 cd0 ct0), sl0⟩) (c0 : PySem.W.codeIn K cd0 "need_sets" = true) (k0 : PySem.W.keepIn K (.ref f0) = true)
    (a1 : PySem.W.nsIn K mainGlobals "need_tape" = some (some (.ref f1))) (l1 : K.lookup f1 = some ⟨oc1, od1, .func (PySem.W.fnOf "need_tape" "need_tape" (defArgs s_need_tape) (defBody s_need_tape) (defScope s_need_tape) .none kV1 dc1 pm1 an1 cd1 ct1), sl1⟩) (c1 : PySem.W.codeIn K cd1 "need_tape" = true) (k1 : PySem.W.keepIn K (.ref f1) = true)
    (a2 : PySem.W.nsIn K mainGlobals "need_state" = some (some (.ref f2))) (l2 : K.lookup f2 = some ⟨oc2, od2, .func (PySem.W.fnOf "need_state" "need_state" (defArgs s_need_state) (defBody s_need_state) (defScope s_need_state) .none kV2 dc2 pm2 an2 cd2 ct2), sl2⟩) (c2 : PySem.W.codeIn K cd2 "need_state" = true) (k2 : PySem.W.keepIn K (.ref f2) = true)
    (a3 : PySem.W.nsIn K mainGlobals "need_all" = some (some (.ref f3))) (l3 : K.lookup f3 = some ⟨oc3, od3, .func (PySem.W.fnOf "need_all" "need_all" (defArgs s_need_all) (defBody s_need_all) (defScope s_need_all) .none kV3 dc3 pm3 an3 cd3 ct3), sl3⟩) (c3 : PySem.W.codeIn K cd3 "need_all" = true) (k3 : PySem.W.keepIn K (.ref f3) = true)
    (a4 : PySem.W.nsIn K mainGlobals "gone" = some (some (.ref f4))) (l4 : K.lookup f4 = some ⟨oc4, od4, .func (PySem.W.fnOf "gone" "gone" (defArgs s_gone) (defBody s_gone) (defScope s_gone) .none kV4 dc4 pm4 an4 cd4 ct4), sl4⟩) (c4 : PySem.W.codeIn K cd4 "gone" = true) (k4 : PySem.W.keepIn K (.ref f4) = true)
    (a5 : PySem.W.nsIn K mainGlobals "read" = some (some (.ref f5))) (l5 : K.lookup f5 = some ⟨oc5, od5, .func (PySem.W.fnOf "read" "read" (defArgs s_read) (defBody s_read) (defScope s_read) .none kV5 dc5 pm5 an5 cd5 ct5), sl5⟩) (c5 : PySem.W.codeIn K cd5 "read" = true) (k5 : PySem.W.keepIn K (.ref f5) = true)
    (a6 : PySem.W.nsIn K mainGlobals "losses" = some (some (.ref f6))) (l6 : K.lookup f6 = some ⟨oc6, od6, .func (PySem.W.fnOf "losses" "losses" (defArgs s_losses) (defBody s_losses) (defScope s_losses) .none kV6 dc6 pm6 an6 cd6 ct6), sl6⟩) (c6 : PySem.W.codeIn K cd6 "losses" = true) (k6 : PySem.W.keepIn K (.ref f6) = true)
    (a7 : PySem.W.nsIn K mainGlobals "worst" = some (some (.ref f7))) (l7 : K.lookup f7 = some ⟨oc7, od7, .func (PySem.W.fnOf "worst" "worst" (defArgs s_worst) (defBody s_worst) (defScope s_worst) .none kV7 dc7 pm7 an7 cd7 ct7), sl7⟩) (c7 : PySem.W.codeIn K cd7 "worst" = true) (k7 : PySem.W.keepIn K (.ref f7) = true)
    (a8 : PySem.W.nsIn K mainGlobals "by_state" = some (some (.ref f8))) (l8 : K.lookup f8 = some ⟨oc8, od8, .func (PySem.W.fnOf "by_state" "by_state" (defArgs s_by_state) (defBody s_by_state) (defScope s_by_state) .none kV8 dc8 pm8 an8 cd8 ct8), sl8⟩) (c8 : PySem.W.codeIn K cd8 "by_state" = true) (k8 : PySem.W.keepIn K (.ref f8) = true)
    (a9 : PySem.W.nsIn K mainGlobals "written" = some (some (.ref f9))) (l9 : K.lookup f9 = some ⟨oc9, od9, .func (PySem.W.fnOf "written" "written" (defArgs s_written) (defBody s_written) (defScope s_written) .none kV9 dc9 pm9 an9 cd9 ct9), sl9⟩) (c9 : PySem.W.codeIn K cd9 "written" = true) (k9 : PySem.W.keepIn K (.ref f9) = true)
    (a10 : PySem.W.nsIn K mainGlobals "read_tape" = some (some (.ref f10))) (l10 : K.lookup f10 = some ⟨oc10, od10, .func (PySem.W.fnOf "read_tape" "read_tape" (defArgs s_read_tape) (defBody s_read_tape) (defScope s_read_tape) .none kV10 dc10 pm10 an10 cd10 ct10), sl10⟩) (c10 : PySem.W.codeIn K cd10 "read_tape" = true) (k10 : PySem.W.keepIn K (.ref f10) = true)
    (a11 : PySem.W.nsIn K mainGlobals "least" = some (some (.ref f11))) (l11 : K.lookup f11 = some ⟨oc11, od11, .func (PySem.W.fnOf "least" "least" (defArgs s_least) (defBody s_least) (defScope s_least) .none kV11 dc11 pm11 an11 cd11 ct11), sl11⟩) (c11 : PySem.W.codeIn K cd11 "least" = true) (k11 : PySem.W.keepIn K (.ref f11) = true)
    (a12 : PySem.W.nsIn K mainGlobals "guarded" = some (some (.ref f12))) (l12 : K.lookup f12 = some ⟨oc12, od12, .func (PySem.W.fnOf "guarded" "guarded" (defArgs s_guarded) (defBody s_guarded) (defScope s_guarded) .none kV12 dc12 pm12 an12 cd12 ct12), sl12⟩) (c12 : PySem.W.codeIn K cd12 "guarded" = true) (k12 : PySem.W.keepIn K (.ref f12) = true)
    (a13 : PySem.W.nsIn K mainGlobals "trimmed" = some (some (.ref f13))) (l13 : K.lookup f13 = some ⟨oc13, od13, .func (PySem.W.fnOf "trimmed" "trimmed" (defArgs s_trimmed) (defBody s_trimmed) (defScope s_trimmed) .none kV13 dc13 pm13 an13 cd13 ct13), sl13⟩) (c13 : PySem.W.codeIn K cd13 "trimmed" = true) (k13 : PySem.W.keepIn K (.ref f13) = true)
    (a14 : PySem.W.nsIn K mainGlobals "joined" = some (some (.ref f14))) (l14 : K.lookup f14 = some ⟨oc14, od14, .func (PySem.W.fnOf "joined" "joined" (defArgs s_joined) (defBody s_joined) (defScope s_joined) .none kV14 dc14 pm14 an14 cd14 ct14), sl14⟩) (c14 : PySem.W.codeIn K cd14 "joined" = true) (k14 : PySem.W.keepIn K (.ref f14) = true)
    (a15 : PySem.W.nsIn K mainGlobals "cut" = some (some (.ref f15))) (l15 : K.lookup f15 = some ⟨oc15, od15, .func (PySem.W.fnOf "cut" "cut" (defArgs s_cut) (defBody s_cut) (defScope s_cut) .none kV15 dc15 pm15 an15 cd15 ct15), sl15⟩) (c15 : PySem.W.codeIn K cd15 "cut" = true) (k15 : PySem.W.keepIn K (.ref f15) = true)
    (a16 : PySem.W.nsIn K mainGlobals "_law_dice" = some (some (.ref f16))) (l16 : K.lookup f16 = some ⟨oc16, od16, .func (PySem.W.fnOf "_law_dice" "_law_dice" (defArgs s_q_dice) (defBody s_q_dice) (defScope s_q_dice) .none kV16 dc16 pm16 an16 cd16 ct16), sl16⟩) (c16 : PySem.W.codeIn K cd16 "_law_dice" = true) (k16 : PySem.W.keepIn K (.ref f16) = true)
    (a17 : PySem.W.nsIn K mainGlobals "_law_off" = some (some (.ref f17))) (l17 : K.lookup f17 = some ⟨oc17, od17, .func (PySem.W.fnOf "_law_off" "_law_off" (defArgs s_q_off) (defBody s_q_off) (defScope s_q_off) .none kV17 dc17 pm17 an17 cd17 ct17), sl17⟩) (c17 : PySem.W.codeIn K cd17 "_law_off" = true) (k17 : PySem.W.keepIn K (.ref f17) = true)
    (a18 : PySem.W.nsIn K mainGlobals "_law_alike" = some (some (.ref f18))) (l18 : K.lookup f18 = some ⟨oc18, od18, .func (PySem.W.fnOf "_law_alike" "_law_alike" (defArgs s_q_alike) (defBody s_q_alike) (defScope s_q_alike) .none kV18 dc18 pm18 an18 cd18 ct18), sl18⟩) (c18 : PySem.W.codeIn K cd18 "_law_alike" = true) (k18 : PySem.W.keepIn K (.ref f18) = true)
    (a19 : PySem.W.nsIn K mainGlobals "_law_mixed" = some (some (.ref f19))) (l19 : K.lookup f19 = some ⟨oc19, od19, .func (PySem.W.fnOf "_law_mixed" "_law_mixed" (defArgs s_q_mixed) (defBody s_q_mixed) (defScope s_q_mixed) .none kV19 dc19 pm19 an19 cd19 ct19), sl19⟩) (c19 : PySem.W.codeIn K cd19 "_law_mixed" = true) (k19 : PySem.W.keepIn K (.ref f19) = true)
    (a20 : PySem.W.nsIn K mainGlobals "_law_refused" = some (some (.ref f20))) (l20 : K.lookup f20 = some ⟨oc20, od20, .func (PySem.W.fnOf "_law_refused" "_law_refused" (defArgs s_q_refused) (defBody s_q_refused) (defScope s_q_refused) .none kV20 dc20 pm20 an20 cd20 ct20), sl20⟩) (c20 : PySem.W.codeIn K cd20 "_law_refused" = true) (k20 : PySem.W.keepIn K (.ref f20) = true)
    (a21 : PySem.W.nsIn K mainGlobals "_law_sets" = some (some (.ref f21))) (l21 : K.lookup f21 = some ⟨oc21, od21, .func (PySem.W.fnOf "_law_sets" "_law_sets" (defArgs s_q_sets) (defBody s_q_sets) (defScope s_q_sets) .none kV21 dc21 pm21 an21 cd21 ct21), sl21⟩) (c21 : PySem.W.codeIn K cd21 "_law_sets" = true) (k21 : PySem.W.keepIn K (.ref f21) = true)
    (a22 : PySem.W.nsIn K mainGlobals "_law_absent" = some (some (.ref f22))) (l22 : K.lookup f22 = some ⟨oc22, od22, .func (PySem.W.fnOf "_law_absent" "_law_absent" (defArgs s_q_absent) (defBody s_q_absent) (defScope s_q_absent) .none kV22 dc22 pm22 an22 cd22 ct22), sl22⟩) (c22 : PySem.W.codeIn K cd22 "_law_absent" = true) (k22 : PySem.W.keepIn K (.ref f22) = true)
    (a23 : PySem.W.nsIn K mainGlobals "_law_works" = some (some (.ref f23))) (l23 : K.lookup f23 = some ⟨oc23, od23, .func (PySem.W.fnOf "_law_works" "_law_works" (defArgs s_q_works) (defBody s_q_works) (defScope s_q_works) .none kV23 dc23 pm23 an23 cd23 ct23), sl23⟩) (c23 : PySem.W.codeIn K cd23 "_law_works" = true) (k23 : PySem.W.keepIn K (.ref f23) = true)
    (a24 : PySem.W.nsIn K mainGlobals "law" = some (some (.ref f24))) (l24 : K.lookup f24 = some ⟨oc24, od24, .func (PySem.W.fnOf "law" "law" (defArgs s_law) (defBody s_law) (defScope s_law) .none kV24 dc24 pm24 an24 cd24 ct24), sl24⟩) (c24 : PySem.W.codeIn K cd24 "law" = true) (k24 : PySem.W.keepIn K (.ref f24) = true)
    (v_MOST_SIGNS : PySem.W.nsIn K mainGlobals "MOST_SIGNS" = some (some (.int 10 t_MOST_SIGNS)))
    (v_MOST_CODES : PySem.W.nsIn K mainGlobals "MOST_CODES" = some (some (.int 200 t_MOST_CODES)))
    (v_FIGURES : PySem.W.nsIn K mainGlobals "FIGURES" = some (some (.str (tx [48, 49, 50, 51, 52, 53, 54, 55, 56, 57]) t_FIGURES)))
    (v_MOST_SPOILT : PySem.W.nsIn K mainGlobals "MOST_SPOILT" = some (some (.int 20 t_MOST_SPOILT)))
    (z_len : PySem.W.nsIn K mainGlobals "len" = some none)
    (z_list : PySem.W.nsIn K mainGlobals "list" = some none)
    (z_range : PySem.W.nsIn K mainGlobals "range" = some none)
    (z_abs : PySem.W.nsIn K mainGlobals "abs" = some none)
    (z_int_ : PySem.W.nsIn K mainGlobals "int" = some none)
    (z_bool_ : PySem.W.nsIn K mainGlobals "bool" = some none)
    (z_str_ : PySem.W.nsIn K mainGlobals "str" = some none)
    (z_isinstance : PySem.W.nsIn K mainGlobals "isinstance" = some none)
    (z_all : PySem.W.nsIn K mainGlobals "all" = some none)
    (z_enumerate : PySem.W.nsIn K mainGlobals "enumerate" = some none)
    (z_max : PySem.W.nsIn K mainGlobals "max" = some none)
    (z_min : PySem.W.nsIn K mainGlobals "min" = some none)
    (z_set : PySem.W.nsIn K mainGlobals "set" = some none)
    (z_sorted : PySem.W.nsIn K mainGlobals "sorted" = some none)
    (z_tuple : PySem.W.nsIn K mainGlobals "tuple" = some none)
    (aT : PySem.W.nsIn K mainGlobals "TapeError" = some (some (.ref CT)))
    (spT : PySem.W.specialIn K (.ref CT) "__getattribute__" = some (some (.builtin "type.__getattribute__"))) (rdT : PySem.W.readsIn K CT (.type "type") = true) (fcT : PySem.W.findCls K (.ref CT) (.type "type") "__init__" = some (.val (.builtin "ValueError.__init__")))
    (axBadSets : PySem.W.nsIn K mainGlobals "BadSets" = some (some (.ref C_BadSets)))
    (yxBadSets : K.lookup C_BadSets = some (excClassObj nm_BadSets q_BadSets C_BadSets N_BadSets bs_BadSets [.ref CT, .type "ValueError", .type "Exception", .type "BaseException", .type "object"] true sn_BadSets sub_BadSets ab_BadSets col_BadSets dd_BadSets m0_BadSets m1_BadSets m2_BadSets m3_BadSets m5_BadSets "ValueError.__new__"))
    (saxBadSets : PySem.W.findIn K (.ref C_BadSets) "__setattr__" = some (some (.builtin "object.__setattr__"))) (eCxBadSets : PySem.W.subIn K (.ref C_BadSets) (.type "BaseException") = some true) (tCxBadSets : PySem.W.typeIn K (.ref C_BadSets) = some (.type "type")) (kCxBadSets : PySem.W.keepIn K (.ref C_BadSets) = true)
    (ixBadSets : PySem.W.findIn K (.ref C_BadSets) "__init__" = some (some (.ref fxBadSets))) (txBadSets : PySem.W.typeIn K (.ref fxBadSets) = some (.type "function")) (noxBadSets : PySem.W.findIn K (.ref C_BadSets) "why" = some none)
    (lxBadSets : K.lookup fxBadSets = some ⟨ocxBadSets, odxBadSets, .func (PySem.W.fnOf "__init__" "BadSets.__init__" (defArgs s_BadSets_init) (defBody s_BadSets_init) (defScope s_BadSets_init) .none kVxBadSets dcxBadSets pmxBadSets anxBadSets cdxBadSets ctxBadSets), slxBadSets⟩) (cxBadSets : PySem.W.codeIn K cdxBadSets "BadSets.__init__" = true) (kxBadSets : PySem.W.keepIn K (.ref fxBadSets) = true)
    (nVE : PySem.W.nsIn K mainGlobals "ValueError" = some none) (sBT : PySem.W.subIn K (.ref CT) (.type "BaseException") = some true) (hdT : PySem.W.hasDictIn K CT = true) (tyT : PySem.W.typeIn K (.ref CT) = some (.type "type"))
    (oG : PySem.W.specialIn K (.builtin "object.__class__") "__get__" = some (some (.builtin "getset_descriptor.__get__"))) (oT : PySem.W.takesIn K (.builtin "object.__class__") = some true)
    (axBadTape : PySem.W.nsIn K mainGlobals "BadTape" = some (some (.ref C_BadTape)))
    (axNoSign : PySem.W.nsIn K mainGlobals "NoSign" = some (some (.ref C_NoSign)))
    (axBadNumber : PySem.W.nsIn K mainGlobals "BadNumber" = some (some (.ref C_BadNumber)))
    (axBadText : PySem.W.nsIn K mainGlobals "BadText" = some (some (.ref C_BadText)))
    (sTBadSets : PySem.W.subIn K (.ref C_BadSets) (.ref CT) = some true) (gaBadSets : PySem.W.findIn K (.ref C_BadSets) "__getattribute__" = some (some (.builtin "BaseException.__getattribute__"))) (ggBadSets : PySem.W.findIn K (.ref C_BadSets) "__getattr__" = some none) (hdBadSets : PySem.W.hasDictIn K C_BadSets = true) (clBadSets : PySem.W.findIn K (.ref C_BadSets) "__class__" = some (some (.builtin "object.__class__"))) (mrBadSets : PySem.W.mroIn K C_BadSets (.type "object") = some true)
    (kX0BadSets : PySem.W.kitOne K (.ref C_BadSets) (.ref C_BadSets) = some true)
    (kX1BadSets : PySem.W.kitOne K (.ref C_BadSets) (.ref C_BadTape) = some false)
    (kX2BadSets : PySem.W.kitOne K (.ref C_BadSets) (.ref C_NoSign) = some false)
    (kX3BadSets : PySem.W.kitOne K (.ref C_BadSets) (.ref C_BadNumber) = some false)
    (kX4BadSets : PySem.W.kitOne K (.ref C_BadSets) (.ref C_BadText) = some false)
    (kXVBadSets : PySem.W.kitOne K (.ref C_BadSets) (.type "ValueError") = some true)
    : ∃ fd fdW : FuncData, (∃ oc od osl, K.lookup fa = some ⟨oc, od, .func fd, osl⟩) ∧ (∃ oc od osl, K.lookup fW = some ⟨oc, od, .func fdW, osl⟩) ∧ (∃ q, PySem.W.codeIn K fd.code q = true) ∧ (∃ q, PySem.W.codeIn K fdW.code q = true) ∧ (∀ (s : Shared) (v : Value), BindsTo s fd ⟨[v], []⟩ [("_law_script", v)]) ∧ ∀ (c P cW PW : Addr), fd.code = .ref c → fdW.code = .ref cW → tabA K (.ref c) = some P → tabA K (.ref cW) = some PW → ∀ base : Heap, K.In base → base.Ns mainGlobals mg → LamX.TabB base mg c P → LamX.TabB base mg cW PW → FnOk l.prog w K mg base CX0 10 fa fd ["_law_script"] (spLawT K P PW) := by
  have D_need_sets : DefAt K mg "need_sets" s_need_sets := defAt_mk X G a0 l0 c0 k0
  have D_need_tape : DefAt K mg "need_tape" s_need_tape := defAt_mk X G a1 l1 c1 k1
  have D_need_state : DefAt K mg "need_state" s_need_state := defAt_mk X G a2 l2 c2 k2
  have D_need_all : DefAt K mg "need_all" s_need_all := defAt_mk X G a3 l3 c3 k3
  have D_gone : DefAt K mg "gone" s_gone := defAt_mk X G a4 l4 c4 k4
  have D_read : DefAt K mg "read" s_read := defAt_mk X G a5 l5 c5 k5
  have D_losses : DefAt K mg "losses" s_losses := defAt_mk X G a6 l6 c6 k6
  have D_worst : DefAt K mg "worst" s_worst := defAt_mk X G a7 l7 c7 k7
  have D_by_state : DefAt K mg "by_state" s_by_state := defAt_mk X G a8 l8 c8 k8
  have D_written : DefAt K mg "written" s_written := defAt_mk X G a9 l9 c9 k9
  have D_read_tape : DefAt K mg "read_tape" s_read_tape := defAt_mk X G a10 l10 c10 k10
  have D_least : DefAt K mg "least" s_least := defAt_mk X G a11 l11 c11 k11
  have D_guarded : DefAt K mg "guarded" s_guarded := defAt_mk X G a12 l12 c12 k12
  have D_trimmed : DefAt K mg "trimmed" s_trimmed := defAt_mk X G a13 l13 c13 k13
  have D_joined : DefAt K mg "joined" s_joined := defAt_mk X G a14 l14 c14 k14
  have D_cut : DefAt K mg "cut" s_cut := defAt_mk X G a15 l15 c15 k15
  have D_q_dice : DefAt K mg "_law_dice" s_q_dice := defAt_mk X G a16 l16 c16 k16
  have D_q_off : DefAt K mg "_law_off" s_q_off := defAt_mk X G a17 l17 c17 k17
  have D_q_alike : DefAt K mg "_law_alike" s_q_alike := defAt_mk X G a18 l18 c18 k18
  have D_q_mixed : DefAt K mg "_law_mixed" s_q_mixed := defAt_mk X G a19 l19 c19 k19
  have D_q_refused : DefAt K mg "_law_refused" s_q_refused := defAt_mk X G a20 l20 c20 k20
  have D_q_sets : DefAt K mg "_law_sets" s_q_sets := defAt_mk X G a21 l21 c21 k21
  have D_q_absent : DefAt K mg "_law_absent" s_q_absent := defAt_mk X G a22 l22 c22 k22
  have D_q_works : DefAt K mg "_law_works" s_q_works := defAt_mk X G a23 l23 c23 k23
  have c_MOST_SIGNS : ∃ t, mg "MOST_SIGNS" = some (.int 10 t) := ⟨t_MOST_SIGNS, PySem.W.mg_of X G v_MOST_SIGNS⟩
  have c_MOST_CODES : ∃ t, mg "MOST_CODES" = some (.int 200 t) := ⟨t_MOST_CODES, PySem.W.mg_of X G v_MOST_CODES⟩
  have c_FIGURES : ∃ t, mg "FIGURES" = some (.str (tx [48, 49, 50, 51, 52, 53, 54, 55, 56, 57]) t) := ⟨t_FIGURES, PySem.W.mg_of X G v_FIGURES⟩
  have c_MOST_SPOILT : ∃ t, mg "MOST_SPOILT" = some (.int 20 t) := ⟨t_MOST_SPOILT, PySem.W.mg_of X G v_MOST_SPOILT⟩
  have B : Bl mg := ⟨PySem.W.mg_none_of X G z_len, PySem.W.mg_none_of X G z_list, PySem.W.mg_none_of X G z_range, PySem.W.mg_none_of X G z_abs, PySem.W.mg_none_of X G z_int_, PySem.W.mg_none_of X G z_bool_, PySem.W.mg_none_of X G z_str_, PySem.W.mg_none_of X G z_isinstance, PySem.W.mg_none_of X G z_all, PySem.W.mg_none_of X G z_enumerate, PySem.W.mg_none_of X G z_max, PySem.W.mg_none_of X G z_min, PySem.W.mg_none_of X G z_set, PySem.W.mg_none_of X G z_sorted, PySem.W.mg_none_of X G z_tuple⟩
  have z_TapeError : TeC K mg "TapeError" CT := ⟨PySem.W.mg_of X G aT, spT, rdT, fcT⟩
  have e := hfa.symm.trans (PySem.W.mg_of X G a24)
  cases e
  have e := hfW.symm.trans (PySem.W.mg_of X G a23)
  cases e
  refine ⟨PySem.W.fnOf "law" "law" (defArgs s_law) (defBody s_law) (defScope s_law) .none kV24 dc24 pm24 an24 cd24 ct24, PySem.W.fnOf "_law_works" "_law_works" (defArgs s_q_works) (defBody s_q_works) (defScope s_q_works) .none kV23 dc23 pm23 an23 cd23 ct23, ⟨_, _, _, l24⟩, ⟨_, _, _, l23⟩, ⟨_, c24⟩, ⟨_, c23⟩, fun s v => .of_eq rfl, fun cL pL cW pW hcL hcW t1 t2 base _ _ TBL TBW => ?_⟩
  have hcL : cd24 = Value.ref cL := hcL
  subst hcL
  have FW := fun_mk (st := s_q_works) l23 c23 k23
  have hmW := PySem.W.mg_of X G a23
  have F_law := fun_mk (st := s_law) l24 c24 k24
  have F_BadSets := fun_mk (st := s_BadSets_init) lxBadSets cxBadSets kxBadSets
  have O_BadSets : OexC K C_BadSets := ⟨⟨_, _, _, _, _, _, _, _, _, _, _, _, _, _, _, yxBadSets, rfl⟩, saxBadSets, eCxBadSets, tCxBadSets, kCxBadSets⟩
  have z_BadSets : Rz l.prog w K mg base "BadSets" C_BadSets "why" := rz_BadSets F_BadSets z_TapeError O_BadSets (PySem.W.mg_of X G axBadSets) ixBadSets txBadSets noxBadSets
  have xc_BadSets : XcC K C_BadSets := ⟨gaBadSets, ggBadSets, eCxBadSets, hdBadSets, clBadSets, oG, oT, mrBadSets⟩
  have M_BadSets : RefC K mg CT C_BadSets C_BadTape C_NoSign C_BadNumber C_BadText C_BadSets _ _ _ _ _ := ⟨PySem.W.mg_of X G aT, PySem.W.mg_of X G axBadSets, PySem.W.mg_of X G axBadTape, PySem.W.mg_of X G axNoSign, PySem.W.mg_of X G axBadNumber, PySem.W.mg_of X G axBadText, PySem.W.mg_none_of X G nVE, PySem.W.exm_ref sBT hdT tyT sTBadSets, xc_BadSets, kX0BadSets, kX1BadSets, kX2BadSets, kX3BadSets, kX4BadSets, kXVBadSets⟩
  have g_q_alike_h := alikeH (P := l.prog) (w := w) (K := K) (mg := mg) (base := base) D_q_alike B
  have g_gone := pm_gone (P := l.prog) (w := w) (K := K) (mg := mg) (base := base) D_gone B
  have g_need_sets := pm_need_sets (P := l.prog) (w := w) (K := K) (mg := mg) (base := base) D_need_sets B c_MOST_SIGNS
  have g_need_tape := pm_need_tape (P := l.prog) (w := w) (K := K) (mg := mg) (base := base) D_need_tape B c_MOST_CODES
  have g_need_state := pm_need_state (P := l.prog) (w := w) (K := K) (mg := mg) (base := base) D_need_state
  have g_need_all := pm_need_all (P := l.prog) (w := w) (K := K) (mg := mg) (base := base) D_need_all g_need_sets g_need_tape g_need_state
  have g_read := pm_read (P := l.prog) (w := w) (K := K) (mg := mg) (base := base) D_read g_need_all g_gone
  have g_q_dice := pm_dice (P := l.prog) (w := w) (K := K) (mg := mg) (base := base) D_q_dice B
  have g_q_off := pm_off (P := l.prog) (w := w) (K := K) (mg := mg) (base := base) D_q_off B
  have g_q_mixed := pm_mixed (P := l.prog) (w := w) (K := K) (mg := mg) (base := base) D_q_mixed B g_q_off
  have g_q_sets := pm_sets (P := l.prog) (w := w) (K := K) (mg := mg) (base := base) D_q_sets B g_q_off g_q_mixed
  have g_need_sets_x := pm_need_setsX (P := l.prog) (w := w) (K := K) (mg := mg) (base := base) D_need_sets B c_MOST_SIGNS z_BadSets
  have g_need_all_x := pm_need_allX (P := l.prog) (w := w) (K := K) (mg := mg) (base := base) D_need_all B g_need_sets_x
  have g_read_x := pm_readX (P := l.prog) (w := w) (K := K) (mg := mg) (base := base) D_read B g_need_all_x
  have g_losses_x := pm_lossesX (P := l.prog) (w := w) (K := K) (mg := mg) (base := base) D_losses B g_need_all_x
  have g_worst_x := pm_worstX (P := l.prog) (w := w) (K := K) (mg := mg) (base := base) D_worst B g_losses_x
  have g_by_state_x := pm_by_stateX (P := l.prog) (w := w) (K := K) (mg := mg) (base := base) D_by_state B g_need_sets_x
  have g_least_x := pm_leastX (P := l.prog) (w := w) (K := K) (mg := mg) (base := base) D_least B g_need_sets_x
  have g_guarded_x := pm_guardedX (P := l.prog) (w := w) (K := K) (mg := mg) (base := base) D_guarded B g_need_sets_x
  have g_trimmed_x := pm_trimmedX (P := l.prog) (w := w) (K := K) (mg := mg) (base := base) D_trimmed B g_need_all_x
  have g_joined_x := pm_joinedX (P := l.prog) (w := w) (K := K) (mg := mg) (base := base) D_joined B g_need_sets_x
  have g_cut_x := pm_cutX (P := l.prog) (w := w) (K := K) (mg := mg) (base := base) D_cut B g_need_sets_x
  have g_written_x := pm_writtenX (P := l.prog) (w := w) (K := K) (mg := mg) (base := base) D_written B g_need_sets_x
  have g_read_tape_x := pm_read_tapeX (P := l.prog) (w := w) (K := K) (mg := mg) (base := base) D_read_tape B g_need_sets_x
  have g_q_absent := pm_absent (P := l.prog) (w := w) (K := K) (mg := mg) (base := base) D_q_absent B
  have g_q_works := pm_works (P := l.prog) (w := w) (K := K) (mg := mg) (base := base) FW hmW hcW TBW B g_read_x g_losses_x g_worst_x g_by_state_x g_least_x g_guarded_x g_trimmed_x g_joined_x g_cut_x g_written_x g_read_tape_x
  have g_q_refused := pm_refS (P := l.prog) (w := w) (K := K) (mg := mg) (base := base) D_q_refused B M_BadSets noxBadSets g_q_alike_h
  exact ok_law F_law B g_q_dice g_q_off g_q_sets g_read g_q_absent g_q_works g_q_refused
end Sr
open PySem PySem.W PyProof.Rows
set_option maxRecDepth 100000 in
set_option maxHeartbeats 0 in
theorem PySem.Challenge.cw_shiftrow_k01_sets_refused_holds : PySem.Challenge.rw_shiftrow_k01_sets_refused.Holds := by
  w_on; o_law; k_head; (case hw => w_witness2)
  k_fill
  refine Sr.walk_ofTabW (l := PySem.Challenge.rw_shiftrow_k01_sets_refused) (n := 63) (k := 10) (x := "_law_script") (x0 := "law") (x1 := "_law_works") rfl (by decide) rfl ⟨rfl, by decide, by decide⟩ (fun w h Y => PySem.W.km_in_of Y) rfl rfl (fun w => by first | rfl | kernel_rfl) ?F (by decide)
  case F =>
    intro w mg fa fW h KX G hmg hmW
    refine' Sr.all_mk KX G hmg hmW ?a0 ?l0 ?c0 ?k0 ?a1 ?l1 ?c1 ?k1 ?a2 ?l2 ?c2 ?k2 ?a3 ?l3 ?c3 ?k3 ?a4 ?l4 ?c4 ?k4 ?a5 ?l5 ?c5 ?k5 ?a6 ?l6 ?c6 ?k6 ?a7 ?l7 ?c7 ?k7 ?a8 ?l8 ?c8 ?k8 ?a9 ?l9 ?c9 ?k9 ?a10 ?l10 ?c10 ?k10 ?a11 ?l11 ?c11 ?k11 ?a12 ?l12 ?c12 ?k12 ?a13 ?l13 ?c13 ?k13 ?a14 ?l14 ?c14 ?k14 ?a15 ?l15 ?c15 ?k15 ?a16 ?l16 ?c16 ?k16 ?a17 ?l17 ?c17 ?k17 ?a18 ?l18 ?c18 ?k18 ?a19 ?l19 ?c19 ?k19 ?a20 ?l20 ?c20 ?k20 ?a21 ?l21 ?c21 ?k21 ?a22 ?l22 ?c22 ?k22 ?a23 ?l23 ?c23 ?k23 ?a24 ?l24 ?c24 ?k24 ?v_MOST_SIGNS ?v_MOST_CODES ?v_FIGURES ?v_MOST_SPOILT ?z_len ?z_list ?z_range ?z_abs ?z_int_ ?z_bool_ ?z_str_ ?z_isinstance ?z_all ?z_enumerate ?z_max ?z_min ?z_set ?z_sorted ?z_tuple ?aT ?spT ?rdT ?fcT ?axBadSets ?yxBadSets ?saxBadSets ?eCxBadSets ?tCxBadSets ?kCxBadSets ?ixBadSets ?txBadSets ?noxBadSets ?lxBadSets ?cxBadSets ?kxBadSets ?nVE ?sBT ?hdT ?tyT ?oG ?oT ?axBadTape ?axNoSign ?axBadNumber ?axBadText ?sTBadSets ?gaBadSets ?ggBadSets ?hdBadSets ?clBadSets ?mrBadSets ?kX0BadSets ?kX1BadSets ?kX2BadSets ?kX3BadSets ?kX4BadSets ?kXVBadSets
    (case a0 => k_is)
    (case l0 => k_is)
    (case c0 => k_is)
    (case k0 => k_is)
    (case a1 => k_is)
    (case l1 => k_is)
    (case c1 => k_is)
    (case k1 => k_is)
    (case a2 => k_is)
    (case l2 => k_is)
    (case c2 => k_is)
    (case k2 => k_is)
    (case a3 => k_is)
    (case l3 => k_is)
    (case c3 => k_is)
    (case k3 => k_is)
    (case a4 => k_is)
    (case l4 => k_is)
    (case c4 => k_is)
    (case k4 => k_is)
    (case a5 => k_is)
    (case l5 => k_is)
    (case c5 => k_is)
    (case k5 => k_is)
    (case a6 => k_is)
    (case l6 => k_is)
    (case c6 => k_is)
    (case k6 => k_is)
    (case a7 => k_is)
    (case l7 => k_is)
    (case c7 => k_is)
    (case k7 => k_is)
    (case a8 => k_is)
    (case l8 => k_is)
    (case c8 => k_is)
    (case k8 => k_is)
    (case a9 => k_is)
    (case l9 => k_is)
    (case c9 => k_is)
    (case k9 => k_is)
    (case a10 => k_is)
    (case l10 => k_is)
    (case c10 => k_is)
    (case k10 => k_is)
    (case a11 => k_is)
    (case l11 => k_is)
    (case c11 => k_is)
    (case k11 => k_is)
    (case a12 => k_is)
    (case l12 => k_is)
    (case c12 => k_is)
    (case k12 => k_is)
    (case a13 => k_is)
    (case l13 => k_is)
    (case c13 => k_is)
    (case k13 => k_is)
    (case a14 => k_is)
    (case l14 => k_is)
    (case c14 => k_is)
    (case k14 => k_is)
    (case a15 => k_is)
    (case l15 => k_is)
    (case c15 => k_is)
    (case k15 => k_is)
    (case a16 => k_is)
    (case l16 => k_is)
    (case c16 => k_is)
    (case k16 => k_is)
    (case a17 => k_is)
    (case l17 => k_is)
    (case c17 => k_is)
    (case k17 => k_is)
    (case a18 => k_is)
    (case l18 => k_is)
    (case c18 => k_is)
    (case k18 => k_is)
    (case a19 => k_is)
    (case l19 => k_is)
    (case c19 => k_is)
    (case k19 => k_is)
    (case a20 => k_is)
    (case l20 => k_is)
    (case c20 => k_is)
    (case k20 => k_is)
    (case a21 => k_is)
    (case l21 => k_is)
    (case c21 => k_is)
    (case k21 => k_is)
    (case a22 => k_is)
    (case l22 => k_is)
    (case c22 => k_is)
    (case k22 => k_is)
    (case a23 => k_is)
    (case l23 => k_is)
    (case c23 => k_is)
    (case k23 => k_is)
    (case a24 => k_is)
    (case l24 => k_is)
    (case c24 => k_is)
    (case k24 => k_is)
    (case v_MOST_SIGNS => k_is)
    (case v_MOST_CODES => k_is)
    (case v_FIGURES => k_is)
    (case v_MOST_SPOILT => k_is)
    (case z_len => k_is)
    (case z_list => k_is)
    (case z_range => k_is)
    (case z_abs => k_is)
    (case z_int_ => k_is)
    (case z_bool_ => k_is)
    (case z_str_ => k_is)
    (case z_isinstance => k_is)
    (case z_all => k_is)
    (case z_enumerate => k_is)
    (case z_max => k_is)
    (case z_min => k_is)
    (case z_set => k_is)
    (case z_sorted => k_is)
    (case z_tuple => k_is)
    (case aT => k_is)
    (case spT => k_is)
    (case rdT => k_is)
    (case fcT => k_is)
    (case axBadSets => k_is)
    (case yxBadSets => k_is)
    (case saxBadSets => k_is)
    (case eCxBadSets => k_is)
    (case tCxBadSets => k_is)
    (case kCxBadSets => k_is)
    (case ixBadSets => k_is)
    (case txBadSets => k_is)
    (case noxBadSets => k_is)
    (case lxBadSets => k_is)
    (case cxBadSets => k_is)
    (case kxBadSets => k_is)
    (case nVE => k_is)
    (case sBT => k_is)
    (case hdT => k_is)
    (case tyT => k_is)
    (case oG => k_is)
    (case oT => k_is)
    (case axBadTape => k_is)
    (case axNoSign => k_is)
    (case axBadNumber => k_is)
    (case axBadText => k_is)
    (case sTBadSets => k_is)
    (case gaBadSets => k_is)
    (case ggBadSets => k_is)
    (case hdBadSets => k_is)
    (case clBadSets => k_is)
    (case mrBadSets => k_is)
    (case kX0BadSets => kit_is)
    (case kX1BadSets => kit_is)
    (case kX2BadSets => kit_is)
    (case kX3BadSets => kit_is)
    (case kX4BadSets => kit_is)
    (case kXVBadSets => kit_is)
