import PyProof.Rows.All
import Wide.All
import OpenK.AllK
import Wide.FinOn
import HandS.ForMost
import HandS.Walk
import HandS.Strs
import HandS.Conv
import HandS.Evl
import HandS.IsInst
import HandS.Comp
import HandS.EndTab
import HandS.Exc
import HandS.ExcCtx
import HandS.ExcField
import HandS.ExcInit
import HandS.ExcIs
import HandS.ExcOwn
import HandS.HotCalls
import HandS.Lambda
import HandS.Replace
import KE.DataCmp
import KE.DataMinMax
import KE.KDictCopyH
import KE.KExcIs
import PyProof.Draws
import PyProof.EnumMake
import PyProof.StrBlock2
import PySem.Challenge.RW_shiftrow_k03_tapes_and_states_refused
set_option Elab.async false
set_option linter.all false
set_option maxRecDepth 100000
set_option maxHeartbeats 4000000
/-! own rules over the layer: list(text), len(set(text)) -/
namespace SrX
open PySem PySem.Spec PyProof.Rows L2

/-- the text of these signs -/
def tx (l : List Nat) : Str := ⟨l.toArray⟩
/-- one sign as a text -/
abbrev sg (c : Nat) : V := .str ⟨#[c]⟩
def sgs (z : Str) : List V := z.cps.toList.map sg

theorem call_list_sg {X : Cx} (hc : X.calm = true) : CallR X (.type "list") (fun xs H Q => ∃ z : Str, xs = [.str z] ∧ z.length ≤ sizeLine ∧ ∀ q, H q = none → Q (.ref q) (upd H q (.lst (sgs z)))) := by
  intro pins s σ H xs us Q I r h
  obtain ⟨z, rfl, hz, q⟩ := h
  obtain ⟨u, rfl, rx⟩ := vals1 r
  obtain ⟨t, rfl⟩ := rx
  have hzz : z.cps.size ≤ sizeLine := hz
  refine call_list_str (I.ok.hd hc) z t (fun h1 tk acc c1 hk e hi => ?_) hzz
  refine ⟨.ref s.heap.objs.size, upd H s.heap.objs.size (.lst (sgs z)), I.laid hk (Nat.le_refl _) ⟨?_, acc.toList, c1, ?_, ?_⟩, rfl, q _ (I.hok.fresh (Nat.le_refl _))⟩
  · unfold sgs; rw [List.length_map, Array.length_toList]; exact hzz
  · refine vals_of_at (by unfold sgs; rw [List.length_map, Array.length_toList, Array.length_toList]; exact hi.1.symm) fun j x w h3 h4 => ?_
    obtain ⟨c, t2, hc2, rfl⟩ := hi.2 j w (by rw [← Array.getElem?_toList]; exact h4)
    have e3 : (sgs z)[j]? = some (sg c) := by
      unfold sgs
      rw [List.getElem?_map, Array.getElem?_toList, hc2]; rfl
    rw [e3] at h3
    cases h3
    exact ⟨_, rfl⟩
  · rw [Array.toArray_toList]; exact e

/-! ### sets of a text's signs -/
def stS (a : List Str) (x : Str) : List Str := if a.any (· == x) then a else a ++ [x]
def fmS (val : Nat → Str) (i : Nat) : List Str := ((List.range i).map val).foldl stS []
theorem fmS_succ (val : Nat → Str) (i : Nat) : fmS val (i + 1) = stS (fmS val i) (val i) := by
  unfold fmS
  rw [List.range_succ, List.map_append, List.foldl_append]
  rfl
theorem stS_len (a : List Str) (x : Str) : (stS a x).length = if a.any (· == x) then a.length else a.length + 1 := by
  unfold stS
  split <;> simp
theorem fmS_le (val : Nat → Str) : ∀ i, (fmS val i).length ≤ i
  | 0 => Nat.le_refl _
  | i + 1 => by
    have ih := fmS_le val i
    rw [fmS_succ, stS_len]
    split <;> omega
theorem stS_any (a : List Str) (x k : Str) : (stS a x).any (· == k) = (a.any (· == k) || decide (k = x)) := by
  unfold stS
  by_cases h : a.any (· == x) = true
  · rw [if_pos h]
    by_cases e : k = x
    · subst e; rw [h]; simp
    · simp [e]
  · rw [if_neg h, List.any_append]
    by_cases e : k = x
    · subst e; simp
    · have hb : (x == k) = false := by simpa [beq_iff_eq] using (fun z : x = k => e z.symm)
      simp [hb, e]

section
variable {prog : Program} {w : World} {A : Around} {R : Result → Shared → Prop} {I : Addr} {fp wr : List Addr} {G : Array GenState → Array GenState → Prop} {n : Nat} {P : Nat → Value → Prop} {St : Nat → Shared → Prop}
theorem loopSg (W : WalksS prog w A.in1 I fp wr G n P St) (S : Addr) (hSf : S ∉ fp) (val : Nat → Str) (hn : n + 1 < scanBound) (hval : ∀ i v, P i v → ∃ t, v = .str (val i) t) :
    ∀ (k i : Nat) (s : Shared), n - i = k → i ≤ n → St i s → s.heap.SetOf (PySem.strKind prog w) S (fun q => (fmS val i).any (· == q)) (fmS val i).length →
      (∀ s1, Moved (S :: wr) G s s1 → s1.heap.SetOf (PySem.strKind prog w) S (fun q => (fmS val n).any (· == q)) (fmS val n).length → R (.ok (.ret .none)) s1) →
      codeAny (model prog w) A (.builtin "set.update.loop" ⟨[.ref S, .ref I], []⟩) R s := by
  have hSw : S ∉ wr := fun h => hSf (W.sub _ h)
  have hsub : ∀ b ∈ wr, b ∈ S :: wr := fun b hb => List.mem_cons_of_mem _ hb
  intro k
  induction k with
  | zero =>
    intro i s hk hi hst hS hR
    have hin : i = n := by omega
    subst hin
    refine codeAny_builtin PyProof.Rows.F.entry_set_update_loop ?_
    rw [Around.under_plainId PyProof.Rows.F.plain_set_update_loop _]
    show wpAny _ A.in1 (pyNext (.ref I) >>= _) _ _ s
    refine wpAny_bind (W.done s _ _ hst fun s1 hm => ?_)
    show wpAny _ A.in1 (ret Value.none) _ _ s1
    refine wpAny_pure (hR s1 (hm.mono hsub) ?_)
    obtain ⟨o, es, ep, t, ho, r⟩ := hS
    exact ⟨o, es, ep, t, hm.heap S _ hSw ho, r⟩
  | succ k ih =>
    intro i s hk hi hst hS hR
    have hlt : i < n := by omega
    refine codeAny_builtin PyProof.Rows.F.entry_set_update_loop ?_
    rw [Around.under_plainId PyProof.Rows.F.plain_set_update_loop _]
    show wpAny _ A.in1 (pyNext (.ref I) >>= _) _ _ s
    refine wpAny_bind (W.item i s _ _ hlt hst fun v s1 hP hst1 hm => ?_)
    obtain ⟨t, rfl⟩ := hval i v hP
    have hS1 : s1.heap.SetOf (PySem.strKind prog w) S (fun q => (fmS val i).any (· == q)) (fmS val i).length := by
      obtain ⟨o, es, ep, tb, ho, r⟩ := hS
      exact ⟨o, es, ep, tb, hm.heap S _ hSw ho, r⟩
    show wpAny _ A.in1 (holding [Value.str (val i) t] (setAdd S (.str (val i) t)) >>= _) _ _ s1
    refine wpAny_bind (wpAny_holding ?_)
    unfold setAdd
    refine wpAny_holding ?_
    refine wpAny_bind ((PySem.strKind prog w).pyHash (k := val i) (strKind_is _ _ _ _) ?_)
    have hroom : (fmS val i).length + 1 < scanBound := by have := fmS_le val i; omega
    refine wpAny_setAddHashed_of (knd := PySem.strKind prog w) (s := { s1 with toks := s1.toks + 1 }) (strKind_is _ _ _ _) rfl hS1 hroom fun h2 hsb hS2 => ?_
    have hSi : h2.SetOf (PySem.strKind prog w) S (fun q => (fmS val (i + 1)).any (· == q)) (fmS val (i + 1)).length :=
      SetOf_congr hS2 (fun q => by rw [fmS_succ, stS_any]) (by rw [fmS_succ, stS_len])
    refine wpAny_pure ⟨plainId_quiet PyProof.Rows.F.plain_set_update_loop _, ih (i + 1) _ (by omega) hlt (W.frame _ s1 _ _ hst1 (Nat.le_succ _) fun b hb o e => ?_) hSi fun s3 hm3 hS3 => ?_⟩
    · rw [hsb.2 b (fun z : b = S => hSf (by rw [← z]; exact hb))]; exact e
    · refine hR s3 (Moved.trans W.gtrans ((hm.mono hsub).then_heap (Nat.le_succ _) fun b o hb e => ?_) hm3) hS3
      rw [hsb.2 b (fun z : b = S => hb (by rw [z]; exact List.mem_cons_self))]; exact e
end

def valOf (x : Str) : Nat → Str := fun i => ⟨#[x.cps.getD i 0]⟩
section
variable {prog : Program} {w : World} {A : Around} {E : Value → Shared → Prop} {s : Shared}
theorem call_set_text {x : Str} {tk0 : Tok} {Q : Value → Shared → Prop} (hh : A.handled = none) (hb : x.cps.size + 1 < scanBound)
    (h : ∀ (h1 : Heap) (tk : Nat), h1.SetOf (PySem.strKind prog w) s.heap.objs.size (fun q => (fmS (valOf x) x.cps.size).any (· == q)) (fmS (valOf x) x.cps.size).length →
      (∀ b o, b < s.heap.objs.size → s.heap.get? b = some o → h1.get? b = some o) → Q (.ref s.heap.objs.size) { s with heap := h1, toks := tk }) :
    wpAny (model prog w) A (call (.type "set") [.str x tk0]) Q E s := by
  obtain ⟨c, tl, hmro⟩ := PySem.F.called_set.mro
  have hmade := PySem.F.called_set.made
  have hsub := PySem.F.called_set.sub
  refine wpAny_call (codeAny_of_tree ?_)
  show wpAny _ _ (callAny (.type "set") _) _ _ _
  refine wpAny_pure ⟨Code.quiet_builtin _ (by decide +kernel), codeAny_builtin PySem.F.entry_type_call ?_⟩
  rw [Around.under_plain (weight_type_call_type "set" [.str x tk0] []) rfl]
  have h1 := PySem.F.called_set.notType
  have h2 := PySem.F.called_set.canCreate
  have hct := PySem.F.typeCall_set_1 (.str x tk0)
  repeat (any_goals (first | assumption | wp_step))
  refine codeAny_mono (code_set_new_1 (.str x tk0) (E := E) (Q₁ := fun obj s2 => ∃ led : Bool, obj = .ref s.heap.objs.size ∧ s2 = { s with heap := s.heap.push { cls := .type "set", dict := none, data := .set #[] 0 (.fresh 0 0 led) } }) fun led => ⟨led, rfl, rfl⟩) fun r s2 hr => ?_
  cases r with
  | error e => exact hr
  | ok fl =>
    cases fl with
    | ret obj =>
      obtain ⟨led, rfl, rfl⟩ := hr
      have hS : (s.heap.push { cls := .type "set", dict := none, data := .set #[] 0 (.fresh 0 0 led) }).get? s.heap.objs.size = some { cls := .type "set", dict := none, data := .set #[] 0 (.fresh 0 0 led) } := Heap.get?_push_size _ rfl
      have hT : Shared.TypeIs { s with heap := s.heap.push { cls := .type "set", dict := none, data := .set #[] 0 (.fresh 0 0 led) } } (.ref s.heap.objs.size) "set" := ⟨_, hS, rfl⟩
      have hli := PySem.F.called_set.init.lookup
      have hbi := PySem.F.called_set.init.bind (.ref s.heap.objs.size)
      repeat (any_goals (first | assumption | wp_step))
      refine codeAny_mono (codeAny_call_builtin (R := wants (fun r s3 => r = .none ∧ ∃ h3 tk, s3 = { s with heap := h3, toks := tk } ∧
          h3.SetOf (PySem.strKind prog w) s.heap.objs.size (fun q => (fmS (valOf x) x.cps.size).any (· == q)) (fmS (valOf x) x.cps.size).length ∧
          (∀ b o, b < s.heap.objs.size → s.heap.get? b = some o → h3.get? b = some o)) E) PySem.F.called_set.init.plain PySem.F.entry_set_init (check_set_init_1 hT ?_)) fun r3 s3 hr3 => ?_
      · have hs1 := PySem.F.sub_str_set
        have hs2 := PySem.F.sub_str_frozenset
        have hne : (Value.type "str" == Value.type "dict") = false := by decide
        have hTx : Shared.TypeIs { s with heap := s.heap.push { cls := .type "set", dict := none, data := .set #[] 0 (.fresh 0 0 led) } } (.str x tk0) "str" := rfl
        unfold Builtin.«set.__init__» noKeywords Builtin.Frozenset.updateFrom
        generalize hPI : pyIter = PI
        wp_walk
        subst hPI
        refine wpAny_pyIter_str fun oI St W st0 => ?_
        refine wpAny_bind (wpAny_runValue ?_)
        have hh3 : A.in1.in1.in1.handled = none := by simp [hh]
        have hSf : s.heap.objs.size ∉ [(s.heap.push { cls := .type "set", dict := none, data := .set #[] 0 (.fresh 0 0 led) }).objs.size] := by
          rw [Heap.size_push]
          simp only [List.mem_cons, List.not_mem_nil, or_false]
          exact Nat.ne_of_lt (Nat.lt_succ_self _)
        have hval : ∀ (i : Nat) (v : Value), SignAt x i v → ∃ t, v = .str (valOf x i) t := fun i v ⟨c, u, hc, hv⟩ => ⟨u, by
          rw [hv]
          unfold valOf
          rw [Array.getD_eq_getD_getElem?, hc]
          rfl⟩
        refine loopSg ((W _ hh3).toS) s.heap.objs.size hSf (valOf x) hb hval (x.cps.size - 0) 0 _ (by omega) (Nat.zero_le _) st0 ?hS0 ?hR
        case hS0 =>
          have hget : ((s.heap.push { cls := .type "set", dict := none, data := .set #[] 0 (.fresh 0 0 led) }).push oI).get? s.heap.objs.size
              = some { cls := .type "set", dict := none, data := .set #[] 0 (.fresh 0 0 led) } := Heap.get?_push_of_some _ hS
          exact PyProof.Rows.SetOf_congr ((PyProof.Rows.setObjOf_fresh (knd := PySem.strKind prog w) led).setOf hget (by unfold scanBound; omega)) (fun _ => rfl) rfl
        case hR =>
          intro s4 hm hS4
          obtain ⟨h4, g4, d4, tk4, os4⟩ := s4
          have eg : g4 = s.gens := hm.gens
          have ed : d4 = s.drawn := hm.drawn
          have eo : os4 = s.os := hm.os
          subst eg; subst ed; subst eo
          show wpAny _ _ _ _ _ _
          refine wpAny_pure ?_
          show wpAny _ _ (ret Value.none) _ _ _
          refine wpAny_pure ⟨rfl, h4, tk4, rfl, hS4, fun b o hb e => ?_⟩
          have hb1 : b ≠ s.heap.objs.size := Nat.ne_of_lt hb
          have hb2 : b ≠ (s.heap.push { cls := .type "set", dict := none, data := .set #[] 0 (.fresh 0 0 led) }).objs.size := by
            rw [Heap.size_push]; exact Nat.ne_of_lt (Nat.lt_succ_of_lt hb)
          exact hm.heap b o (by simp only [List.mem_cons, List.mem_singleton, List.not_mem_nil, or_false, not_or]; exact ⟨hb1, hb2⟩) (Heap.get?_push_of_some _ (Heap.get?_push_of_some _ e))
      · cases r3 with
        | error e => exact hr3
        | ok fl3 =>
          cases fl3 with
          | ret r =>
            obtain ⟨rfl, h3, tk, rfl, hS3, hk3⟩ := hr3
            repeat (any_goals (first | assumption | wp_step))
            exact h _ _ hS3 hk3
          | _ => exact hr3.elim
    | _ => exact hr.elim
end

/-- how many signs of a text differ -/
def dd (l : List Nat) : Nat := (fmS (valOf (tx l)) l.length).length
def tLenSg (ta : TE) : TE := fun σ H Q => ta σ H fun x H1 => ∃ l : List Nat, x = .str (tx l) ∧ l.length ≤ 1000 ∧ Q (.int (dd l : Nat)) H1
theorem pe_lenSg {X : Cx} {a : Expr} {ta : TE} {p p2 q pos : Pos} (hc : X.calm = true) (hm : X.mg "len" = none) (hm2 : X.mg "set" = none) (ha : PE X a ta) (hg : Gl X "len" := by rfl) (hg2 : Gl X "set" := by rfl)
    (na : starEach [a] X.env = (false, eval a X.env) :: starEach [] X.env := by rfl) : PE X (.Call (.Name "len" p) [.Call (.Name "set" p2) [a] [] q] [] pos) (tLenSg ta) := by
  refine ⟨fun pins s σ H Q I h => ?_⟩
  refine Call_ (ld_blt I hg hm boot_len ?_)
  refine PyProof.Rows.callWith_builtin1 (PyProof.Rows.args_cons ?_ rfl) rfl rfl
  refine Call_ (ld_blt I hg2 hm2 boot_set ?_)
  refine PyProof.Rows.callWith_type1 (PyProof.Rows.args_cons (thn (ha.run pins s σ H _ I h) fun v s1 ⟨x, H1, I1, r1, q1⟩ => PyProof.Rows.args_nil ?_) na) na rfl
  obtain ⟨l, rfl, hl, q1⟩ := q1
  obtain ⟨t, rfl⟩ := r1
  have hz : (tx l).cps.size = l.length := by unfold tx; simp
  refine call_set_text (I1.ok.hd hc) (by rw [hz]; unfold scanBound; omega) fun h2 tk hS hk => ?_
  refine PyProof.Rows.args_nil ?_
  rw [hz] at hS
  obtain ⟨o, es, ep, t2, ho, hex, hd, r0, r2, r3, hf, hn⟩ := hS
  have I2 : Inv X pins σ H1 { s1 with heap := h2, toks := tk } := I1.kept fun b o e => hk b o (Heap.lt_size e) e
  have hle := fmS_le (valOf (tx l)) l.length
  refine call_len_set ho hex hd hf (by rw [hn]; omega) ⟨.int (dd l : Nat), H1, I2.tok _, ⟨_, by rw [hn]; rfl⟩, q1⟩

theorem any_of_mem {val : Nat → Str} : ∀ (i j : Nat), j < i → (fmS val i).any (· == val j) = true
  | 0, j, h => absurd h (Nat.not_lt_zero _)
  | i + 1, j, h => by
    rw [fmS_succ, stS_any]
    by_cases e : j = i
    · subst e; simp
    · rw [any_of_mem i j (by omega)]; rfl
theorem mem_of_any {val : Nat → Str} (k : Str) : ∀ (i : Nat), (fmS val i).any (· == k) = true → ∃ j, j < i ∧ k = val j
  | 0, h => by simp [fmS] at h
  | i + 1, h => by
    rw [fmS_succ, stS_any, Bool.or_eq_true] at h
    rcases h with h | h
    · obtain ⟨j, hj, e⟩ := mem_of_any k i h
      exact ⟨j, by omega, e⟩
    · exact ⟨i, by omega, of_decide_eq_true h⟩
theorem fmS_full {val : Nat → Str} : ∀ (i : Nat), (fmS val i).length = i ↔ ∀ a b, a < b → b < i → val a ≠ val b
  | 0 => ⟨fun _ a b h1 h2 => absurd h2 (Nat.not_lt_zero _), fun _ => rfl⟩
  | i + 1 => by
    have ih := fmS_full (val := val) i
    have le := fmS_le val i
    rw [fmS_succ, stS_len]
    constructor
    · intro h a b hab hb
      split at h
      · omega
      · rename_i hn
        have hfull : (fmS val i).length = i := by omega
        by_cases e : b = i
        · subst e
          intro z
          apply hn
          rw [← z]
          exact any_of_mem b a hab
        · exact ih.mp hfull a b hab (by omega)
    · intro h
      have hfull : (fmS val i).length = i := ih.mpr fun a b hab hb => h a b hab (by omega)
      split
      · rename_i hn
        obtain ⟨j, hj, e⟩ := mem_of_any (val i) i hn
        exact absurd e.symm (h j i hj (Nat.lt_succ_self _))
      · omega
theorem valOf_at {l : List Nat} {i : Nat} (hi : i < l.length) : valOf (tx l) i = ⟨#[l[i]]⟩ := by
  unfold valOf tx
  rw [Array.getD_eq_getD_getElem?, List.getElem?_toArray, List.getElem?_eq_getElem hi]
  rfl
theorem one_inj {a b : Nat} (h : (⟨#[a]⟩ : Str) = ⟨#[b]⟩) : a = b := by
  have h2 := congrArg (fun s : Str => s.cps.toList) h
  simpa using h2
theorem dd_full (l : List Nat) : dd l = l.length ↔ l.Nodup := by
  unfold dd
  rw [fmS_full]
  show _ ↔ List.Pairwise (· ≠ ·) l
  rw [List.pairwise_iff_getElem]
  constructor
  · intro h i j hi hj hij z
    refine h i j hij hj ?_
    rw [valOf_at hi, valOf_at hj, z]
  · intro h i j hij hj z
    have hi : i < l.length := by omega
    rw [valOf_at hi, valOf_at hj] at z
    exact h i j hi hj hij (one_inj z)
theorem dd_le (l : List Nat) : dd l ≤ l.length := fmS_le _ _
end SrX
/-! walking over what is known of the heap: F is known, the dice's list d apart -/
namespace Sr
open PySem PySem.Spec PyProof.Rows L2 SrX

abbrev Ex (H H1 : Hp) : Prop := L2.Same H H1
theorem exr (H : Hp) : Ex H H := Same.refl H
theorem ex_new {H : Hp} {p : Addr} {u : HO} (h : H p = none) : Ex H (upd H p u) := fun b o e => by
  rw [upd_ne (ne_of_none e h)]; exact e
theorem ex_mut {H H1 : Hp} {p : Addr} {u : HO} (e : Ex H H1) (h : H p = none) : Ex H (upd H1 p u) := fun b o q => by
  rw [upd_ne (ne_of_none q h)]; exact e b o q
theorem ex_upd {H H1 : Hp} {p : Addr} {u : HO} (e : Ex H H1) : Ex (upd H p u) (upd H1 p u) := fun b o q => by
  by_cases hb : b = p
  · subst hb; rw [upd_same] at q ⊢; exact q
  · rw [upd_ne hb] at q ⊢; exact e b o q
theorem ex_l {K : PySem.W.Frag} {H H1 : Hp} {a : Addr} {xs : List V} (e : Ex H H1) (h : SqL K H a xs) : SqL K H1 a xs := e.seq h
theorem ex_t {K : PySem.W.Frag} {H H1 : Hp} {a : Addr} {xs : List V} (e : Ex H H1) (h : SqT K H a xs) : SqT K H1 a xs := by
  rcases h with (h | ⟨o, h⟩) | h
  · exact .inl (.inl (e _ _ h))
  · exact .inl (.inr ⟨o, e _ _ h⟩)
  · exact .inr h
theorem sz {n : Nat} (h : n ≤ 100000) : n ≤ sizeLine := Nat.le_trans h (by decide)
theorem sz1 {n : Nat} (h : n < 100000) : n < sizeLine := Nat.lt_of_lt_of_le h (by decide)

/-- a list of dice stands at d -/
def Dc (H : Hp) (d : Addr) : Prop := ∃ ns : List Int, H d = some (.lst (ns.map V.int)) ∧ 2 ≤ ns.length ∧ ns.length ≤ 70
structure Wd (o : Option Addr) (F H : Hp) : Prop where
  ex : Ex F H
  dc : ∀ d, o = some d → F d = none ∧ Dc H d
theorem Dc.ex {H H1 : Hp} {d : Addr} (h : Dc H d) (e : Ex H H1) : Dc H1 d := by
  obtain ⟨ns, h1, h2⟩ := h
  exact ⟨ns, e _ _ h1, h2⟩
section
variable {o : Option Addr} {F F1 H H1 : Hp} {p : Addr} {u : HO}
theorem Wd.up (w : Wd o F H) (e : Ex H H1) : Wd o F H1 := ⟨w.ex.trans e, fun d h => ⟨(w.dc d h).1, (w.dc d h).2.ex e⟩⟩
theorem Wd.down (w : Wd o F H) (e : Ex F1 F) : Wd o F1 H := ⟨e.trans w.ex, fun d h => ⟨e.free (w.dc d h).1, (w.dc d h).2⟩⟩
theorem Wd.fr (w : Wd o F H) (n : H p = none) : F p = none := w.ex.free n
theorem Wd.ned (w : Wd o F H) (n : H p = none) : ∀ d, o = some d → d ≠ p := fun d h => by
  obtain ⟨ns, h1, _⟩ := (w.dc d h).2
  exact ne_of_none h1 n
theorem Wd.new (w : Wd o F H) (n : H p = none) (e : Ex H H1) (h : H1 p = some u) : Wd o (upd F p u) H1 := by
  refine ⟨fun b v q => ?_, fun d hd => ⟨?_, (w.dc d hd).2.ex e⟩⟩
  · by_cases hb : b = p
    · subst hb; rw [upd_same] at q; rw [← q]; exact h
    · rw [upd_ne hb] at q; exact e _ _ (w.ex _ _ q)
  · rw [upd_ne (w.ned n d hd)]; exact (w.dc d hd).1
theorem Wd.new1 (w : Wd o F H) (n : H p = none) : Wd o (upd F p u) (upd H p u) := w.new n (ex_new n) upd_same
theorem Wd.mut {v : HO} (w : Wd o F H) (h : F p = some v) : Wd o (upd F p u) (upd H p u) := by
  refine ⟨ex_upd w.ex, fun d hd => ?_⟩
  obtain ⟨f, ns, h1, h2⟩ := w.dc d hd
  have ne : d ≠ p := fun z => by rw [z, h] at f; cases f
  exact ⟨by rw [upd_ne ne]; exact f, ns, by rw [upd_ne ne]; exact h1, h2⟩
theorem Wd.l {K : PySem.W.Frag} {a : Addr} {xs : List V} (w : Wd o F H) (h : SqL K F a xs) : SqL K H a xs := ex_l w.ex h
theorem Wd.t {K : PySem.W.Frag} {a : Addr} {xs : List V} (w : Wd o F H) (h : SqT K F a xs) : SqT K H a xs := ex_t w.ex h
theorem Wd.bare (e : Ex F H) : Wd none F H := ⟨e, fun d h => by cases h⟩
end

def Wp {α : Type} (o : Option Addr) (k : Hp → (α → Hp → Prop) → Prop) (F : Hp) (P : α → Hp → Prop) : Prop :=
  ∀ H, Wd o F H → ∀ Q : α → Hp → Prop, (∀ v H1 F1, Wd o F1 H1 → P v F1 → Q v H1) → k H Q
def Go (o : Option Addr) (t : TS) (D : Ends) (σ : L2.St) (F : Hp) : Prop := ∀ H, Wd o F H → t D σ H
/-- what holds behind a turn -/
def Cl (o : Option Addr) (P : L2.St → Hp → Prop) : L2.St → Hp → Prop := fun σ H => ∃ F, Wd o F H ∧ P σ F

section
variable {o : Option Addr} {F : Hp} {σ : L2.St} {K : PySem.W.Frag} {α : Type}
theorem Wp.imp {k : Hp → (α → Hp → Prop) → Prop} {P P1 : α → Hp → Prop} (h : Wp o k F P1) (i : ∀ v F1, P1 v F1 → P v F1) : Wp o k F P := fun H w Q q => h H w Q fun v H1 F1 w1 p => q v H1 F1 w1 (i v F1 p)
theorem go_of {t : TS} {D : Ends} {H : Hp} (g : Go none t D σ H) : t D σ H := g H (Wd.bare (exr H))

theorem go_st {t : TS} {D : Ends} {H : Hp} {σ0 : L2.St} (e : σ0 = σ) (g : Go none t D σ H) : t D σ0 H := by subst e; exact go_of g

/-! ### expressions -/
variable {P : V → Hp → Prop} {ta tb tc te : TE} {x y z v : V} {r r2 : R2}
theorem wp_var {i : Nat} (h : σ[i]? = some (some v)) (q : P v F) : Wp o (tVar i σ) F P := fun H w Q k => ⟨v, h, k v H F w q⟩
theorem wp_c (q : P v F) : Wp o (tC v σ) F P := fun H w Q k => k v H F w q
theorem wp_op (h : Wp o (ta σ) F fun x F1 => Wp o (tb σ) F1 fun y F2 => Wp o (r x y) F2 P) : Wp o (tOp r ta tb σ) F P := fun H w Q k =>
  h H w _ fun x H1 F1 w1 h1 => h1 H1 w1 _ fun y H2 F2 w2 h2 => h2 H2 w2 Q k
theorem wp_un {r : V → Hp → VK → Prop} (h : Wp o (ta σ) F fun x F1 => Wp o (r x) F1 P) : Wp o (tUn r ta σ) F P := fun H w Q k =>
  h H w _ fun x H1 F1 w1 h1 => h1 H1 w1 Q k
theorem wp_chain (h : Wp o (ta σ) F fun x F1 => Wp o (tb σ) F1 fun y F2 => Wp o (r x y) F2 fun z F3 => ∃ k, z = .bl k ∧ (k = true → Wp o (tc σ) F3 fun w F4 => Wp o (r2 y w) F4 P) ∧ (k = false → P (.bl false) F3)) :
    Wp o (tChain r r2 ta tb tc σ) F P := fun H w Q k =>
  h H w _ fun x H1 F1 w1 h1 => h1 H1 w1 _ fun y H2 F2 w2 h2 => h2 H2 w2 _ fun z H3 F3 w3 ⟨b, e, ht, hf⟩ => ⟨b, e, by
    cases b with
    | true => rw [if_pos rfl]; exact ht rfl H3 w3 _ fun x4 H4 F4 w4 h4 => h4 H4 w4 Q k
    | false => rw [if_neg Bool.false_ne_true]; exact k _ H3 F3 w3 (hf rfl)⟩
theorem wp_ifE {tt : TT} (h : Wp o (tt σ) F fun b F1 => (b = true → Wp o (ta σ) F1 P) ∧ (b = false → Wp o (tb σ) F1 P)) : Wp o (tIf tt ta tb σ) F P := fun H w Q k =>
  h H w _ fun b H1 F1 w1 ⟨h1, h2⟩ => by
    cases b with
    | true => rw [if_pos rfl]; exact h1 rfl H1 w1 Q k
    | false => rw [if_neg Bool.false_ne_true]; exact h2 rfl H1 w1 Q k
theorem wp_andV (h : Wp o (ta σ) F fun x F1 => ∃ c, x = .bl c ∧ (c = true → Wp o (tb σ) F1 P) ∧ (c = false → P (.bl false) F1)) : Wp o (tAndV ta tb σ) F P := fun H w Q k =>
  h H w _ fun x H1 F1 w1 ⟨c, e, h1, h2⟩ => ⟨c, e, by
    cases c with
    | true => rw [if_pos rfl]; exact h1 rfl H1 w1 Q k
    | false => rw [if_neg Bool.false_ne_true]; exact k _ H1 F1 w1 (h2 rfl)⟩
theorem wp_orV (h : Wp o (ta σ) F fun x F1 => ∃ c, x = .bl c ∧ (c = true → P (.bl true) F1) ∧ (c = false → Wp o (tb σ) F1 P)) : Wp o (tOrV ta tb σ) F P := fun H w Q k =>
  h H w _ fun x H1 F1 w1 ⟨c, e, h1, h2⟩ => ⟨c, e, by
    cases c with
    | true => rw [if_pos rfl]; exact k _ H1 F1 w1 (h1 rfl)
    | false => rw [if_neg Bool.false_ne_true]; exact h2 rfl H1 w1 Q k⟩
theorem wp_notV (h : Wp o (ta σ) F fun x F1 => ∃ c, x = .bl c ∧ P (.bl (!c)) F1) : Wp o (tNotV ta σ) F P := fun H w Q k =>
  h H w _ fun x H1 F1 w1 ⟨c, e, h1⟩ => ⟨c, e, k _ H1 F1 w1 h1⟩
/-! tests -/
variable {T : Bool → Hp → Prop} {tt tu : TT}
theorem wp_test (h : Wp o (te σ) F fun x F1 => ∃ k, x = .bl k ∧ T k F1) : Wp o (tTest te σ) F T := fun H w Q k => h H w _ fun x H1 F1 w1 ⟨b, e, p⟩ => ⟨b, e, k b H1 F1 w1 p⟩
theorem wp_B (h : Wp o (te σ) F fun x F1 => ∃ k, x = .bl k ∧ T k F1) : Wp o (tB te σ) F T := fun H w Q k => h H w _ fun x H1 F1 w1 ⟨b, e, p⟩ => ⟨b, e, k b H1 F1 w1 p⟩
theorem wp_and (h : Wp o (tt σ) F fun b F1 => (b = true → Wp o (tu σ) F1 T) ∧ (b = false → T false F1)) : Wp o (tAnd tt tu σ) F T := fun H w Q k =>
  h H w _ fun b H1 F1 w1 ⟨h1, h2⟩ => by
    cases b with
    | true => rw [if_pos rfl]; exact h1 rfl H1 w1 Q k
    | false => rw [if_neg Bool.false_ne_true]; exact k _ H1 F1 w1 (h2 rfl)
theorem wp_or (h : Wp o (tt σ) F fun b F1 => (b = true → T true F1) ∧ (b = false → Wp o (tu σ) F1 T)) : Wp o (tOr tt tu σ) F T := fun H w Q k =>
  h H w _ fun b H1 F1 w1 ⟨h1, h2⟩ => by
    cases b with
    | true => rw [if_pos rfl]; exact k _ H1 F1 w1 (h1 rfl)
    | false => rw [if_neg Bool.false_ne_true]; exact h2 rfl H1 w1 Q k
/-- and, or: one way for both noes (yeses) -/
theorem wp_andS {X Y : Hp → Prop} (R : Hp → Prop) (h : Wp o (tt σ) F fun b F1 => R F1 ∧ (b = true → Wp o (tu σ) F1 fun c F2 => R F2 ∧ (c = true → X F2))) (e : ∀ F1, R F1 → Y F1) :
    Wp o (tAnd tt tu σ) F fun b F1 => (b = true → X F1) ∧ (b = false → Y F1) := fun H w Q k => h H w _ fun b H1 F1 w1 ⟨r, h1⟩ => by
  cases b with
  | true => rw [if_pos rfl]; exact h1 rfl H1 w1 Q fun c H2 F2 w2 ⟨r2, x⟩ => k c H2 F2 w2 ⟨x, fun _ => e F2 r2⟩
  | false => rw [if_neg Bool.false_ne_true]; exact k _ H1 F1 w1 ⟨fun z => (by cases z), fun _ => e F1 r⟩
theorem wp_orS {X Y : Hp → Prop} (R : Hp → Prop) (h : Wp o (tt σ) F fun b F1 => R F1 ∧ (b = false → Wp o (tu σ) F1 fun c F2 => R F2 ∧ (c = false → Y F2))) (e : ∀ F1, R F1 → X F1) :
    Wp o (tOr tt tu σ) F fun b F1 => (b = true → X F1) ∧ (b = false → Y F1) := fun H w Q k => h H w _ fun b H1 F1 w1 ⟨r, h1⟩ => by
  cases b with
  | true => rw [if_pos rfl]; exact k _ H1 F1 w1 ⟨fun _ => e F1 r, fun z => (by cases z)⟩
  | false => rw [if_neg Bool.false_ne_true]; exact h1 rfl H1 w1 Q fun c H2 F2 w2 ⟨r2, x⟩ => k c H2 F2 w2 ⟨fun _ => e F2 r2, x⟩
theorem wp_not (h : Wp o (tt σ) F fun b F1 => T (!b) F1) : Wp o (tNot tt σ) F T := fun H w Q k => h H w _ fun b H1 F1 w1 p => k _ H1 F1 w1 p
theorem wp_yes (q : T true F) : Wp o (tYes σ) F T := fun H w Q k => k _ H F w q
/-! arguments, displays, calls -/
variable {L : List V → Hp → Prop} {tl tr : TA}
theorem wp_nil (q : L [] F) : Wp o (tNil σ) F L := fun H w Q k => k _ H F w q
theorem wp_cons (h : Wp o (ta σ) F fun x F1 => Wp o (tr σ) F1 fun xs F2 => L (x :: xs) F2) : Wp o (tCons ta tr σ) F L := fun H w Q k =>
  h H w _ fun x H1 F1 w1 h1 => h1 H1 w1 _ fun xs H2 F2 w2 h2 => k _ H2 F2 w2 h2
theorem wp_tup (h : Wp o (tl σ) F fun vs F1 => vs.length ≤ 100000 ∧ ∀ p, F1 p = none → P (.ref p) (upd F1 p (.tup vs))) : Wp o (tTup tl σ) F P := fun H w Q k =>
  h H w _ fun vs H1 F1 w1 ⟨hl, h1⟩ => ⟨sz hl, fun p hp => k _ _ _ (w1.new1 hp) (h1 p (w1.fr hp))⟩
theorem wp_lst (h : Wp o (tl σ) F fun vs F1 => vs.length ≤ 100000 ∧ ∀ p, F1 p = none → P (.ref p) (upd F1 p (.lst vs))) : Wp o (tLst tl σ) F P := fun H w Q k =>
  h H w _ fun vs H1 F1 w1 ⟨hl, h1⟩ => ⟨sz hl, fun p hp => k _ _ _ (w1.new1 hp) (h1 p (w1.fr hp))⟩
theorem wp_call {sp : Sp} {dvs : List V} {E : XK} (h : Wp o (tl σ) F fun vs F1 => Wp o (fun H Q => sp (vs ++ dvs) H Q E) F1 P) : Wp o (tCall sp dvs E tl σ) F P := fun H w Q k =>
  h H w _ fun vs H1 F1 w1 h1 => h1 H1 w1 Q k
theorem wp_cb {r : List V → Hp → VK → Prop} (h : Wp o (tl σ) F fun vs F1 => Wp o (r vs) F1 P) : Wp o (tCB r tl σ) F P := fun H w Q k =>
  h H w _ fun vs H1 F1 w1 h1 => h1 H1 w1 Q k
/-- x.m(..), x a list -/
theorem wp_bmL {r : V → List V → Hp → VK → Prop} (h : Wp o (ta σ) F fun x F1 => ∃ a xs, x = .ref a ∧ SqL K F1 a xs ∧ Wp o (tl σ) F1 fun vs F2 => Wp o (r (.ref a) vs) F2 P) : Wp o (tBM K "list" r ta tl σ) F P := fun H w Q k =>
  h H w _ fun x H1 F1 w1 ⟨a, xs, e, hs, h1⟩ => by
    subst e
    exact ⟨.inl ⟨rfl, xs, w1.l hs⟩, h1 H1 w1 _ fun vs H2 F2 w2 h2 => h2 H2 w2 Q k⟩
theorem wp_bm0L {r : V → List V → Hp → VK → Prop} (h : Wp o (ta σ) F fun x F1 => ∃ a xs, x = .ref a ∧ SqL K F1 a xs ∧ Wp o (r (.ref a) []) F1 P) : Wp o (tBM0 K "list" r ta σ) F P := fun H w Q k =>
  h H w _ fun x H1 F1 w1 ⟨a, xs, e, hs, h1⟩ => by
    subst e
    exact ⟨.inl ⟨rfl, xs, w1.l hs⟩, h1 H1 w1 Q k⟩
theorem wp_m1 {r : V → List V → Hp → VK → Prop} (h : Wp o (ta σ) F fun x F1 => (∃ a, x = .str a) ∧ Wp o (tb σ) F1 fun y F2 => Wp o (r x [y]) F2 P) : Wp o (tM1 r ta tb σ) F P := fun H w Q k =>
  h H w _ fun x H1 F1 w1 ⟨e, h1⟩ => ⟨e, h1 H1 w1 _ fun y H2 F2 w2 h2 => h2 H2 w2 Q k⟩
theorem wp_bmS {r : V → List V → Hp → VK → Prop} (h : Wp o (ta σ) F fun x F1 => ∃ a, x = .str a ∧ Wp o (tl σ) F1 fun vs F2 => Wp o (r x vs) F2 P) : Wp o (tBM K "str" r ta tl σ) F P := fun H w Q k =>
  h H w _ fun x H1 F1 w1 ⟨a, e, h1⟩ => by
    subst e
    exact ⟨rfl, h1 H1 w1 _ fun vs H2 F2 w2 h2 => h2 H2 w2 Q k⟩
/-! slices -/
variable {O : Option Int → Hp → Prop}
theorem wp_noPart (q : O none F) : Wp o (tNoPart σ) F O := fun H w Q k => k _ H F w q
theorem wp_part (h : Wp o (te σ) F fun x F1 => ∃ i, x = .int i ∧ O (some i) F1) : Wp o (tPart te σ) F O := fun H w Q k => h H w _ fun x H1 F1 w1 ⟨i, e, p⟩ => ⟨i, e, k _ H1 F1 w1 p⟩
theorem wp_sl {r : V → Option Int → Option Int → Hp → VK → Prop} {ll lh : TO} (h : Wp o (te σ) F fun x F1 => Wp o (ll σ) F1 fun a F2 => Wp o (lh σ) F2 fun b F3 => Wp o (r x a b) F3 P) : Wp o (tSl r te ll lh σ) F P := fun H w Q k =>
  h H w _ fun x H1 F1 w1 h1 => h1 H1 w1 _ fun a H2 F2 w2 h2 => h2 H2 w2 _ fun b H3 F3 w3 h3 => h3 H3 w3 Q k

/-! ### operators by values -/
def rAddP : R2 := fun x y H Q => rI0 (fun i j => .int (i + j)) x y H Q ∨ (∃ i j, x = .str i ∧ y = .str j ∧ i.length + j.length ≤ sizeLine ∧ Q (.str (i ++ j)) H) ∨ rCat x y H Q
theorem op_addP {X : Cx} : OpR X (binaryOp .Add) rAddP := op_add.or (op_add_str.or op_cat)
theorem wp_addI {i j : Int} (q : P (.int (i + j)) F) : Wp o (rAddP (.int i) (.int j)) F P := fun H w Q k => .inl ⟨i, j, rfl, rfl, k _ H F w q⟩
theorem tx_app (a b : List Nat) : tx a ++ tx b = tx (a ++ b) := by
  show (⟨a.toArray ++ b.toArray⟩ : Str) = ⟨(a ++ b).toArray⟩
  simp
theorem tx_len (a : List Nat) : (tx a).length = a.length := by
  show a.toArray.size = a.length
  simp
theorem wp_addS {i j : List Nat} (h : i.length + j.length ≤ 100000) (q : P (.str (tx (i ++ j))) F) : Wp o (rAddP (.str (tx i)) (.str (tx j))) F P := fun H w Q k =>
  .inr (.inl ⟨tx i, tx j, rfl, rfl, by rw [tx_len, tx_len]; exact sz h, by rw [tx_app]; exact k _ H F w q⟩)
theorem wp_addL {a b : Addr} {xs ys : List V} (ha : F a = some (.lst xs)) (hb : F b = some (.lst ys)) (h : xs.length + ys.length ≤ 100000) (q : ∀ p, F p = none → P (.ref p) (upd F p (.lst (xs ++ ys)))) : Wp o (rAddP (.ref a) (.ref b)) F P := fun H w Q k =>
  .inr (.inr ⟨a, b, xs, ys, rfl, rfl, w.ex _ _ ha, w.ex _ _ hb, sz h, fun p hp => k _ _ _ (w.new1 hp) (q p (w.fr hp))⟩)
def rMulP : R2 := fun x y H Q => rI CMul (fun i j => .int (i * j)) x y H Q ∨ rRep x y H Q
theorem op_mulP {X : Cx} : OpR X (binaryOp .Mult) rMulP := op_mul.or op_rep
theorem wp_mulI {i j : Int} (h : CMul i j) (q : P (.int (i * j)) F) : Wp o (rMulP (.int i) (.int j)) F P := fun H w Q k => .inl ⟨i, j, rfl, rfl, h, k _ H F w q⟩
theorem wp_rep {a : Addr} {n : Nat} {xs : List V} (ha : F a = some (.lst xs)) (h : xs.length * n ≤ 100000) (hn : n ≤ 100000) (q : ∀ p, F p = none → P (.ref p) (upd F p (.lst (List.replicate n xs).flatten))) : Wp o (rMulP (.ref a) (.int (n : Int))) F P := fun H w Q k =>
  .inr ⟨a, n, xs, rfl, rfl, w.ex _ _ ha, by omega, by omega, by rw [Int.toNat_natCast]; exact sz h, fun p hp => by
    rw [Int.toNat_natCast]
    exact k _ _ _ (w.new1 hp) (q p (w.fr hp))⟩
abbrev rSub : R2 := rI0 fun i j => .int (i - j)
abbrev rLt : R2 := rI0 fun i j => .bl (decide (i < j))
abbrev rLe : R2 := rI0 fun i j => .bl (decide (i ≤ j))
theorem wp_i0 {g : Int → Int → V} {i j : Int} (q : P (g i j) F) : Wp o (rI0 g (.int i) (.int j)) F P := fun H w Q k => ⟨i, j, rfl, rfl, k _ H F w q⟩
theorem wp_i {C : Int → Int → Prop} {g : Int → Int → V} {i j : Int} (h : C i j) (q : P (g i j) F) : Wp o (rI C g (.int i) (.int j)) F P := fun H w Q k => ⟨i, j, rfl, rfl, h, k _ H F w q⟩
theorem wp_u {g : Int → V} {i : Int} (q : P (g i) F) : Wp o (rU g (.int i)) F P := fun H w Q k => ⟨i, rfl, k _ H F w q⟩
def rEqP (K : PySem.W.Frag) : R2 := fun x y H Q => rEq x y H Q ∨ rEqD K x y H Q
def rNeP (K : PySem.W.Frag) : R2 := fun x y H Q => rNe x y H Q ∨ rNeD K x y H Q
theorem op_eqP {X : Cx} (hu : X.A.units + 64 < cLine) : OpR X (compareOp .Eq) (rEqP X.K) := op_eq.or (op_eqD hu)
theorem op_neP {X : Cx} (hu : X.A.units + 64 < cLine) : OpR X (compareOp .NotEq) (rNeP X.K) := op_ne.or (op_neD hu)
theorem decI {i j : Int} : decide (V.int i = V.int j) = decide (i = j) := by simp
theorem decS {i j : List Nat} : decide (V.str (tx i) = V.str (tx j)) = decide (i = j) := by
  have h : (tx i = tx j) ↔ i = j := ⟨fun e => by
    have e2 := congrArg (fun s : Str => s.cps.toList) e
    simpa [tx] using e2, fun e => by rw [e]⟩
  simp [h]
theorem wp_eqI {i j : Int} (q : P (.bl (decide (i = j))) F) : Wp o (rEqP K (.int i) (.int j)) F P := fun H w Q k => .inl ⟨rfl, by rw [decI]; exact k _ H F w q⟩
theorem wp_neI {i j : Int} (q : P (.bl (!decide (i = j))) F) : Wp o (rNeP K (.int i) (.int j)) F P := fun H w Q k => .inl ⟨rfl, by rw [decI]; exact k _ H F w q⟩
theorem wp_eqS {i j : List Nat} (q : P (.bl (decide (i = j))) F) : Wp o (rEqP K (.str (tx i)) (.str (tx j))) F P := fun H w Q k => .inl ⟨rfl, by rw [decS]; exact k _ H F w q⟩
theorem wp_neS {i j : List Nat} (q : P (.bl (!decide (i = j))) F) : Wp o (rNeP K (.str (tx i)) (.str (tx j))) F P := fun H w Q k => .inl ⟨rfl, by rw [decS]; exact k _ H F w q⟩
theorem wp_isN {x : V} (q : P (.bl (decide (x = .non))) F) : Wp o (fun H Q => V.non = .non ∧ Q (.bl (decide (x = .non))) H) F P := fun H w Q k => ⟨rfl, k _ H F w q⟩
/-! data -/
mutual
theorem Dp.up {H H1 : Hp} (e : Ex H H1) : ∀ {v : V} {d : PyData}, Dp K H v d → Dp K H1 v d
  | _, _, .non => .non
  | _, _, .bl b => .bl b
  | _, _, .int i => .int i
  | _, _, .str x => .str x
  | _, _, .lst h a => .lst (ex_l e h) (DpAll.up e a)
  | _, _, .tup h a => .tup (ex_t e h) (DpAll.up e a)
theorem DpAll.up {H H1 : Hp} (e : Ex H H1) : ∀ {vs : List V} {ds : List PyData}, DpAll K H vs ds → DpAll K H1 vs ds
  | _, _, .nil => .nil
  | _, _, .cons a b => .cons (Dp.up e a) (DpAll.up e b)
end
theorem wp_eqD {d e : PyData} (h1 : Dp K F x d) (h2 : Dp K F y e) (s1 : SeqAt.shaped d = true) (s2 : SeqAt.shaped e = true) (q : P (.bl (PyData.eqv d e)) F) : Wp o (rEqP K x y) F P := fun H w Q k =>
  .inr ⟨d, e, Dp.up w.ex h1, Dp.up w.ex h2, s1, s2, k _ H F w q⟩
theorem wp_neD {d e : PyData} (h1 : Dp K F x d) (h2 : Dp K F y e) (s1 : SeqAt.shaped d = true) (s2 : SeqAt.shaped e = true) (q : P (.bl (!PyData.eqv d e)) F) : Wp o (rNeP K x y) F P := fun H w Q k =>
  .inr ⟨d, e, Dp.up w.ex h1, Dp.up w.ex h2, s1, s2, k _ H F w q⟩
def rInP (K : PySem.W.Frag) : R2 := fun x y H Q => (∃ (c : Nat) (z : Str), x = .str ⟨#[c]⟩ ∧ y = .str z ∧ Q (.bl (decide (c ∈ z.cps.toList))) H) ∨ rIn K false x y H Q
def rNiP (K : PySem.W.Frag) : R2 := fun x y H Q => (∃ (c : Nat) (z : Str), x = .str ⟨#[c]⟩ ∧ y = .str z ∧ Q (.bl (!decide (c ∈ z.cps.toList))) H) ∨ rIn K true x y H Q
theorem op_inP {X : Cx} : OpR X (compareOp .In) (rInP X.K) := op_in_sign.or op_in_seq
theorem op_niP {X : Cx} : OpR X (compareOp .NotIn) (rNiP X.K) := op_notIn_sign.or op_notIn_seq
theorem wp_inS {c : Nat} {l : List Nat} (q : P (.bl (decide (c ∈ l))) F) : Wp o (rInP K (sg c) (.str (tx l))) F P := fun H w Q k => .inl ⟨c, tx l, rfl, rfl, k _ H F w q⟩
theorem wp_niS {c : Nat} {l : List Nat} (q : P (.bl (!decide (c ∈ l))) F) : Wp o (rNiP K (sg c) (.str (tx l))) F P := fun H w Q k => .inl ⟨c, tx l, rfl, rfl, k _ H F w q⟩
theorem wp_niT {p : Addr} {xs : List V} (h : SqT K F p xs) (hx : flatV x = true) (ha : xs.all flatV = true) (q : P (.bl (!inV x xs)) F) : Wp o (rNiP K x (.ref p)) F P := fun H w Q k =>
  .inr ⟨p, xs, rfl, .inr (w.t h), hx, ha, k _ H F w q⟩
/-! subscripts -/
theorem wp_ixL {p : Addr} {xs : List V} {i : Int} (h : SqL K F p xs) (ha : atI xs i = some v) (q : P v F) : Wp o (rIx K (.ref p) (.int i)) F P := fun H w Q k => .inl ⟨p, xs, i, v, rfl, rfl, w.l h, ha, k _ H F w q⟩
theorem wp_ixT {p : Addr} {xs : List V} {i : Int} (h : SqT K F p xs) (ha : atI xs i = some v) (q : P v F) : Wp o (rIx K (.ref p) (.int i)) F P := fun H w Q k => .inr (.inl ⟨p, xs, i, v, rfl, rfl, w.t h, ha, k _ H F w q⟩)
theorem wp_ixS {l : List Nat} {i : Int} {c : Nat} (h : l.length ≤ 100000) (ha : atI l i = some c) (q : P (sg c) F) : Wp o (rIx K (.str (tx l)) (.int i)) F P := fun H w Q k =>
  .inr (.inr ⟨tx l, i, c, rfl, rfl, by rw [tx_len]; exact sz h, ha, k _ H F w q⟩)
def cutN (l : List Nat) (lo hi : Option Int) : List Nat := (l.drop (HT.sIx l.length 0 lo)).take (HT.sIx l.length l.length hi - HT.sIx l.length 0 lo)
def rSlP (K : PySem.W.Frag) : V → Option Int → Option Int → Hp → VK → Prop := fun x a b H Q => rSlL K x a b H Q ∨ rSlS x a b H Q
theorem sl_P {X : Cx} : SlR X (rSlP X.K) := sl_list.or sl_str
theorem wp_slL {p : Addr} {xs : List V} {a b : Option Int} (h : SqL K F p xs) (q : ∀ p, F p = none → P (.ref p) (upd F p (.lst (cutV xs a b)))) : Wp o (rSlP K (.ref p) a b) F P := fun H w Q k =>
  .inl ⟨p, xs, rfl, w.l h, fun p hp => k _ _ _ (w.new1 hp) (q p (w.fr hp))⟩
theorem wp_slS {l : List Nat} {a b : Option Int} (h : l.length ≤ 100000) (q : P (.str (tx (cutN l a b))) F) : Wp o (rSlP K (.str (tx l)) a b) F P := fun H w Q k =>
  .inr ⟨tx l, rfl, by rw [tx_len]; exact sz h, by
    have e : cutS (tx l) a b = tx (cutN l a b) := by
      unfold cutS cutN tx
      simp only [Str.length, List.size_toArray]
    rw [e]; exact k _ H F w q⟩
/-! built-ins -/
abbrev rLenV (K : PySem.W.Frag) : List V → Hp → VK → Prop := fun xs H Q => ∃ x n, xs = [x] ∧ LenV K x H n ∧ Q (.int n) H
theorem wp_lenL {p : Addr} {xs : List V} (h : SqL K F p xs) (q : P (.int (xs.length : Nat)) F) : Wp o (rLenV K [.ref p]) F P := fun H w Q k => ⟨_, xs.length, rfl, .inl ⟨xs, w.l h, rfl⟩, k _ H F w q⟩
theorem wp_lenT {p : Addr} {xs : List V} (h : SqT K F p xs) (q : P (.int (xs.length : Nat)) F) : Wp o (rLenV K [.ref p]) F P := fun H w Q k => ⟨_, xs.length, rfl, .inr ⟨xs, w.t h, rfl⟩, k _ H F w q⟩
theorem wp_lenS {l : List Nat} (h : l.length ≤ 100000) (q : P (.int (l.length : Nat)) F) : Wp o (rLenV K [.str (tx l)]) F P := fun H w Q k => ⟨_, l.length, rfl, ⟨by rw [tx_len]; exact sz h, (tx_len l).symm⟩, k _ H F w q⟩
def rListP (K : PySem.W.Frag) : List V → Hp → VK → Prop := fun xs H Q => (∃ p ys, xs = [.ref p] ∧ (SqL K H p ys ∨ SqT K H p ys) ∧ ∀ l, H l = none → Q (.ref l) (upd H l (.lst ys))) ∨
  (∃ z : Str, xs = [.str z] ∧ z.length ≤ sizeLine ∧ ∀ q, H q = none → Q (.ref q) (upd H q (.lst (sgs z))))
theorem call_listP {X : Cx} (hc : X.calm = true) : CallR X (.type "list") (rListP X.K) := call_list_of.or (call_list_sg hc)
theorem wp_listL {p : Addr} {xs : List V} (h : SqL K F p xs) (q : ∀ p, F p = none → P (.ref p) (upd F p (.lst xs))) : Wp o (rListP K [.ref p]) F P := fun H w Q k =>
  .inl ⟨p, xs, rfl, .inl (w.l h), fun p hp => k _ _ _ (w.new1 hp) (q p (w.fr hp))⟩
theorem wp_listS {l : List Nat} (h : l.length ≤ 100000) (q : ∀ p, F p = none → P (.ref p) (upd F p (.lst (l.map sg)))) : Wp o (rListP K [.str (tx l)]) F P := fun H w Q k =>
  .inr ⟨tx l, rfl, by rw [tx_len]; exact sz h, fun p hp => k _ _ _ (w.new1 hp) (q p (w.fr hp))⟩
theorem wp_lenSg (h : Wp o (ta σ) F fun x F1 => ∃ l : List Nat, x = .str (tx l) ∧ l.length ≤ 1000 ∧ P (.int (dd l : Nat)) F1) : Wp o (tLenSg ta σ) F P := fun H w Q k =>
  h H w _ fun x H1 F1 w1 ⟨l, e, hl, p⟩ => ⟨l, e, hl, k _ H1 F1 w1 p⟩
end

/-! ### what a def hands back -/
/-- a new object -/
def RetN (u : HO) (H : Hp) (Q : VK) : Prop := ∀ p H1, H p = none → Ex H H1 → H1 p = some u → Q (.ref p) H1
/-- a value -/
def RetV (v : V) (H : Hp) (Q : VK) : Prop := ∀ H1, Ex H H1 → Q v H1
section
variable {o : Option Addr} {F H : Hp} {P : V → Hp → Prop} {Q : VK} {u : HO} {v : V}
theorem RetN.use (w : Wd o F H) (q : ∀ p, F p = none → P (.ref p) (upd F p u)) (k : ∀ v H1 F1, Wd o F1 H1 → P v F1 → Q v H1) : RetN u H Q := fun p H1 n e h => k _ _ _ (w.new n e h) (q p (w.fr n))
theorem RetV.use (w : Wd o F H) (q : P v F) (k : ∀ v H1 F1, Wd o F1 H1 → P v F1 → Q v H1) : RetV v H Q := fun H1 e => k _ _ _ (w.up e) q
theorem RetN.out {p : Addr} {F1 : Hp} (k : RetN u H Q) (e : Ex H F1) (n : H p = none) (h : F1 p = some u) : ∀ H1, Wd o F1 H1 → Q (.ref p) H1 := fun H1 w => k p H1 n (e.trans w.ex) (w.ex _ _ h)
theorem RetV.out {F1 : Hp} (k : RetV v H Q) (e : Ex H F1) : ∀ H1, Wd o F1 H1 → Q v H1 := fun H1 w => k H1 (e.trans w.ex)
end

/-! ### statements -/
section
variable {o : Option Addr} {F : Hp} {σ : L2.St} {K : PySem.W.Frag} {D : Ends} {te ta tb : TE} {tt : TT} {tu tw tz : TS} {g : TG} {tl : TA}
theorem go_set {i : Nat} (h : Wp o (te σ) F fun v F1 => Go o tz D (σ.set i (some v)) F1) : Go o (tSeq (tAsg te (gName i)) tz) D σ F := fun H w => h H w _ fun v H1 F1 w1 k => k H1 w1
theorem go_asg (h : Wp o (te σ) F fun v F1 => Wp o (g v σ) F1 fun σ1 F2 => Go o tz D σ1 F2) : Go o (tSeq (tAsg te g) tz) D σ F := fun H w => h H w _ fun v H1 F1 w1 k => k H1 w1 _ fun σ1 H2 F2 w2 k2 => k2 H2 w2
theorem go_if (h : Wp o (tt σ) F fun b F1 => (b = true → Go o tu { D with nx := tz D } σ F1) ∧ (b = false → Go o tw { D with nx := tz D } σ F1)) : Go o (tSeq (tIfS tt tu tw) tz) D σ F := fun H w => h H w _ fun b H1 F1 w1 ⟨h1, h2⟩ => by
  cases b with
  | true => rw [if_pos rfl]; exact h1 rfl H1 w1
  | false => rw [if_neg Bool.false_ne_true]; exact h2 rfl H1 w1
theorem go_ret (h : Wp o (te σ) F fun v F1 => ∀ H, Wd o F1 H → D.rt v H) : Go o (tSeq (tRet te) tz) D σ F := fun H w => h H w _ fun v H1 F1 w1 k => k H1 w1
theorem go_drop (h : Wp o (te σ) F fun v F1 => Go o tz D σ F1) : Go o (tSeq (tDrop te) tz) D σ F := fun H w => h H w _ fun v H1 F1 w1 k => k H1 w1
theorem go_never (h : False) : Go o (tSeq tNever tz) D σ F := h.elim
theorem go_next (h : ∀ H, Wd o F H → D.nx σ H) : Go o tNext D σ F := h
/-- the end of a branch: on with what is behind the if -/
theorem go_back {D1 : Ends} (h : Go o tz D1 σ F) : Go o tNext { D with nx := tz D1 } σ F := h
/-- the end of a loop's turn -/
theorem go_turn {P : L2.St → Hp → Prop} (hD : D.nx = Cl o P) (h : P σ F) : Go o tNext D σ F := fun H w => by
  show D.nx σ H
  rw [hD]
  exact ⟨F, w, h⟩
theorem go_turnW {P : L2.St → Hp → Prop} (h : P σ F) : ∀ H, Wd o F H → Cl o P σ H := fun H w => ⟨F, w, h⟩
/-! targets -/
variable {P : L2.St → Hp → Prop} {v : V} {vs : List V} {gs : TGs}
theorem wp_gName {i : Nat} (q : P (σ.set i (some v)) F) : Wp o (gName i v σ) F P := fun H w Q k => k _ H F w q
theorem wp_gTup {n : Nat} {a : Addr} (h : SqT K F a vs) (hl : vs.length = n) (q : Wp o (gs vs σ) F P) : Wp o (gTup K n gs (.ref a) σ) F P := fun H w Q k => ⟨a, vs, rfl, w.t h, hl, q H w Q k⟩
theorem wp_gCons (h : Wp o (g v σ) F fun σ1 F1 => Wp o (gs vs σ1) F1 P) : Wp o (gCons g gs (v :: vs) σ) F P := fun H w Q k => ⟨v, vs, rfl, h H w _ fun σ1 H1 F1 w1 h1 => h1 H1 w1 Q k⟩
theorem wp_gNil (q : P σ F) : Wp o (gNil [] σ) F P := fun H w Q k => ⟨rfl, k _ H F w q⟩
theorem wp_gSetL (h : Wp o (ta σ) F fun x F1 => Wp o (tb σ) F1 fun y F2 => ∃ a xs i j, x = .ref a ∧ y = .int i ∧ F2 a = some (.lst xs) ∧ ixN xs.length i = some j ∧ P σ (upd F2 a (.lst (xs.set j v)))) : Wp o (gSub ta tb rSetL v σ) F P := fun H w Q k =>
  h H w _ fun x H1 F1 w1 h1 => h1 H1 w1 _ fun y H2 F2 w2 ⟨a, xs, i, j, e1, e2, hf, hj, p⟩ => ⟨a, xs, i, j, e1, e2, w2.ex _ _ hf, hj, k _ _ _ (w2.mut hf) p⟩
/-! list methods as statements -/
variable {R : V → Hp → Prop}
theorem wp_append {a : Addr} {xs : List V} {x : V} (h : F a = some (.lst xs)) (hz : xs.length < 100000) (q : R .non (upd F a (.lst (xs ++ [x])))) : Wp o (rAppend (.ref a) [x]) F R := fun H w Q k =>
  ⟨a, xs, x, rfl, rfl, w.ex _ _ h, sz1 hz, k _ _ _ (w.mut h) q⟩
theorem wp_clear {a : Addr} {xs : List V} (h : F a = some (.lst xs)) (q : R .non (upd F a (.lst []))) : Wp o (rClear (.ref a) []) F R := fun H w Q k =>
  ⟨a, xs, rfl, rfl, w.ex _ _ h, k _ _ _ (w.mut h) q⟩
/-! loops -/
/-- over a list -/
theorem go_forL (Iv : Nat → L2.St → Hp → Prop) (h : Wp o (te σ) F fun x F1 => ∃ a xs, x = .ref a ∧ SqL K F1 a xs ∧ Iv 0 σ F1 ∧ (∀ i σ1 F2, i ≤ xs.length → Iv i σ1 F2 → SqL K F2 a xs) ∧
    (∀ i y σ1 F2, xs[i]? = some y → Iv i σ1 F2 → Wp o (g y σ1) F2 fun σ2 F3 => Go o tu { D with nx := Cl o (Iv (i + 1)), ct := Cl o (Iv (i + 1)), bk := tz D } σ2 F3) ∧ (∀ σ1 F2, Iv xs.length σ1 F2 → Go o tz D σ1 F2)) :
    Go o (tSeq (tFor (iList K te) g tu) tz) D σ F := fun H w => h H w _ fun x H1 F1 w1 ⟨a, xs, e, hs, h0, hl, ht, hd⟩ => ⟨a, e, ⟨xs, w1.l hs⟩,
  for_list (D := { D with nx := tz D }) (fun i => Cl o (Iv i)) ⟨F1, w1, h0⟩ (fun i σ1 H2 hi ⟨F2, w2, p⟩ => w2.l (hl i σ1 F2 hi p)) (fun i y σ1 H2 hy ⟨F2, w2, p⟩ => ht i y σ1 F2 hy p H2 w2 _ fun σ2 H3 F3 w3 k => k H3 w3) fun σ1 H2 ⟨F2, w2, p⟩ => hd σ1 F2 p H2 w2⟩
/-- .. the invariant chosen when the list is known -/
theorem go_forLx (h : Wp o (te σ) F fun x F1 => ∃ a xs, x = .ref a ∧ SqL K F1 a xs ∧ ∃ Iv : Nat → L2.St → Hp → Prop, Iv 0 σ F1 ∧ (∀ i σ1 F2, i ≤ xs.length → Iv i σ1 F2 → SqL K F2 a xs) ∧
    (∀ i y σ1 F2, xs[i]? = some y → Iv i σ1 F2 → Wp o (g y σ1) F2 fun σ2 F3 => Go o tu { D with nx := Cl o (Iv (i + 1)), ct := Cl o (Iv (i + 1)), bk := tz D } σ2 F3) ∧ (∀ σ1 F2, Iv xs.length σ1 F2 → Go o tz D σ1 F2)) :
    Go o (tSeq (tFor (iList K te) g tu) tz) D σ F := fun H w => h H w _ fun x H1 F1 w1 ⟨a, xs, e, hs, Iv, h0, hl, ht, hd⟩ => ⟨a, e, ⟨xs, w1.l hs⟩,
  for_list (D := { D with nx := tz D }) (fun i => Cl o (Iv i)) ⟨F1, w1, h0⟩ (fun i σ1 H2 hi ⟨F2, w2, p⟩ => w2.l (hl i σ1 F2 hi p)) (fun i y σ1 H2 hy ⟨F2, w2, p⟩ => ht i y σ1 F2 hy p H2 w2 _ fun σ2 H3 F3 w3 k => k H3 w3) fun σ1 H2 ⟨F2, w2, p⟩ => hd σ1 F2 p H2 w2⟩
theorem go_forT (Iv : Nat → L2.St → Hp → Prop) (h : Wp o (te σ) F fun x F1 => ∃ a xs, x = .ref a ∧ SqT K F1 a xs ∧ Iv 0 σ F1 ∧ (∀ i σ1 F2, i ≤ xs.length → Iv i σ1 F2 → SqT K F2 a xs) ∧
    (∀ i y σ1 F2, xs[i]? = some y → Iv i σ1 F2 → Wp o (g y σ1) F2 fun σ2 F3 => Go o tu { D with nx := Cl o (Iv (i + 1)), ct := Cl o (Iv (i + 1)), bk := tz D } σ2 F3) ∧ (∀ σ1 F2, Iv xs.length σ1 F2 → Go o tz D σ1 F2)) :
    Go o (tSeq (tFor (iTup K te) g tu) tz) D σ F := fun H w => h H w _ fun x H1 F1 w1 ⟨a, xs, e, hs, h0, hl, ht, hd⟩ => ⟨a, e, ⟨xs, w1.t hs⟩,
  for_tup (D := { D with nx := tz D }) (fun i => Cl o (Iv i)) ⟨F1, w1, h0⟩ (fun i σ1 H2 hi ⟨F2, w2, p⟩ => w2.t (hl i σ1 F2 hi p)) (fun i y σ1 H2 hy ⟨F2, w2, p⟩ => ht i y σ1 F2 hy p H2 w2 _ fun σ2 H3 F3 w3 k => k H3 w3) fun σ1 H2 ⟨F2, w2, p⟩ => hd σ1 F2 p H2 w2⟩
/-- over range(n) -/
theorem go_forR {j : Nat} (Iv : Nat → L2.St → Hp → Prop) (h : Wp o (tl σ) F fun vs F1 => ∃ n : Nat, vs = [.int (n : Int)] ∧ n ≤ 1000000 ∧ Iv 0 σ F1 ∧
    (∀ i σ1 F2, i < n → Iv i σ1 F2 → Go o tu { D with nx := Cl o (Iv (i + 1)), ct := Cl o (Iv (i + 1)), bk := tz D } (σ1.set j (some (.int (i : Int)))) F2) ∧ (∀ σ1 F2, Iv n σ1 F2 → Go o tz D σ1 F2)) :
    Go o (tSeq (tFor (iRng1 tl) (gName j) tu) tz) D σ F := fun H w => h H w _ fun vs H1 F1 w1 ⟨n, e, hn, h0, ht, hd⟩ => ⟨(n : Int), e, by omega, by omega, by
  rw [Int.toNat_natCast]
  exact for_range (D := { D with nx := tz D }) (fun i => Cl o (Iv i)) ⟨F1, w1, h0⟩ (fun i σ1 H2 hi ⟨F2, w2, p⟩ => by
    have e0 : (0 : Int) + (i : Int) = (i : Int) := Int.zero_add _
    rw [e0]
    exact ht i σ1 F2 hi p H2 w2) fun σ1 H2 ⟨F2, w2, p⟩ => hd σ1 F2 p H2 w2⟩
/-- over enumerate(list) -/
theorem go_forE (Iv : Nat → L2.St → Hp → Prop) (h : Wp o (tl σ) F fun us F1 => ∃ a xs, us = [.ref a] ∧ SqL K F1 a xs ∧ Iv 0 σ F1 ∧ (∀ i σ1 F2, i ≤ xs.length → Iv i σ1 F2 → SqL K F2 a xs) ∧
    (∀ i y σ1 F2 p, xs[i]? = some y → F2 p = none → Iv i σ1 F2 → Wp o (g (.ref p) σ1) (upd F2 p (.tup [.int (i : Nat), y])) fun σ2 F3 => Go o tu { D with nx := Cl o (Iv (i + 1)), ct := Cl o (Iv (i + 1)), bk := tz D } σ2 F3) ∧ (∀ σ1 F2, Iv xs.length σ1 F2 → Go o tz D σ1 F2)) :
    Go o (tSeq (tFor (iEnum K tl) g tu) tz) D σ F := fun H w => h H w _ fun us H1 F1 w1 ⟨a, xs, e, hs, h0, hl, ht, hd⟩ => ⟨a, xs, e, w1.l hs,
  for_it (D := { D with nx := tz D }) walk_enum (fun i => Cl o (Iv i)) ⟨F1, w1, h0⟩ (fun i σ1 H2 hi ⟨F2, w2, p⟩ => w2.l (hl i σ1 F2 hi p)) (fun i v σ1 H2 H3 hi ⟨F2, w2, p⟩ hy => by
    obtain ⟨T, x, y, e1, e2, e3, e4, e5⟩ := hy
    cases e4
    subst e1; subst e3
    exact ht i y σ1 F2 T e5 (w2.fr e2) p _ (w2.new1 e2) _ fun σ2 H4 F4 w4 k => k H4 w4) fun σ1 H2 ⟨F2, w2, p⟩ => hd σ1 F2 p H2 w2⟩
theorem go_while (Iv : Nat → L2.St → Hp → Prop) (m : Nat) (h0 : Iv m σ F) (h : ∀ m σ1 F1, Iv m σ1 F1 → Wp o (tt σ1) F1 fun b F2 =>
    (b = true → Go o tu { D with nx := Cl o (fun σ2 F3 => ∃ m1, m1 < m ∧ Iv m1 σ2 F3), ct := Cl o (fun σ2 F3 => ∃ m1, m1 < m ∧ Iv m1 σ2 F3), bk := tz D } σ1 F2) ∧ (b = false → Go o tz D σ1 F2)) :
    Go o (tSeq (tWhile tt tu) tz) D σ F := fun H w => ⟨fun m => Cl o (Iv m), ⟨m, F, w, h0⟩, fun m σ1 H1 ⟨F1, w1, p⟩ => h m σ1 F1 p H1 w1 _ fun b H2 F2 w2 ⟨h1, h2⟩ => by
  cases b with
  | true =>
    rw [if_pos rfl]
    exact ⟨_, fun σ2 H3 ⟨F3, w3, m1, hm, q⟩ => ⟨m1, hm, F3, w3, q⟩, h1 rfl H2 w2⟩
  | false =>
    rw [if_neg Bool.false_ne_true]
    exact h2 rfl H2 w2⟩
end

/-! ### comprehensions -/
section
variable {o : Option Addr} {F : Hp} {σ : L2.St} {K : PySem.W.Frag} {P : V → Hp → Prop} {ts te : TE} {tt : TT} {tl : TA} {g : TG} {vs : List Nat}
/-- one turn: the list D so far, what is known -/
def LcT (o : Option Addr) (D : Addr) (acc : List V) (tt : TT) (te : TE) (σ : L2.St) (F : Hp) (N : List V → Hp → Prop) : Prop :=
  Wp o (tt σ) F fun b F1 => (b = true → Wp o (te σ) F1 fun y F2 => F2 D = some (.lst acc) ∧ acc.length < 100000 ∧ N (acc ++ [y]) (upd F2 D (.lst (acc ++ [y])))) ∧ (b = false → F1 D = some (.lst acc) ∧ N acc F1)
theorem lc_turn {D : Addr} {acc : List V} {N : List V → Hp → Prop} {Nx : Hp → Prop} {σ2 : L2.St} {H2 : Hp} {F2 : Hp} (w : Wd o F2 H2) (h : LcT o D acc tt te σ2 F2 N) (n : ∀ acc1 H F3, Wd o F3 H → F3 D = some (.lst acc1) → N acc1 F3 → Nx H) :
    tt σ2 H2 fun b H3 => if b = true then te σ2 H3 fun y H4 => ∃ acc, H4 D = some (.lst acc) ∧ acc.length < sizeLine ∧ Nx (upd H4 D (.lst (acc ++ [y]))) else Nx H3 := h H2 w _ fun b H3 F3 w3 ⟨h1, h2⟩ => by
  cases b with
  | true =>
    rw [if_pos rfl]
    exact h1 rfl H3 w3 _ fun y H4 F4 w4 ⟨hd, hz, hn⟩ => ⟨acc, w4.ex _ _ hd, sz1 hz, n _ _ _ (w4.mut hd) upd_same hn⟩
  | false =>
    rw [if_neg Bool.false_ne_true]
    exact n acc H3 F3 w3 (h2 rfl).1 (h2 rfl).2
theorem wp_lcL {j : Nat} (hw : ∀ x, wipe ((wipe σ vs).set j (some x)) vs = wipe σ vs)
    (h : Wp o (ts σ) F fun x F1 => ∃ a xs, x = .ref a ∧ SqL K F1 a xs ∧ ∀ D, F1 D = none → ∃ Iv : Nat → List V → Hp → Prop, Iv 0 [] (upd F1 D (.lst [])) ∧ (∀ i acc F2, Iv i acc F2 → SqL K F2 a xs) ∧
      (∀ i x acc F2, xs[i]? = some x → F2 D = some (.lst acc) → Iv i acc F2 → LcT o D acc tt te ((wipe σ vs).set j (some x)) F2 (Iv (i + 1))) ∧ (∀ acc F2, F2 D = some (.lst acc) → Iv xs.length acc F2 → P (.ref D) F2)) :
    Wp o (tLc (iList K ts) (gName j) tt te vs σ) F P := fun H w Q k => h H w _ fun x H1 F1 w1 ⟨a, xs, e, hs, hh⟩ => ⟨a, e, ⟨xs, w1.l hs⟩, fun D hD => by
  obtain ⟨Iv, h0, hl, ht, hd⟩ := hh D (w1.fr hD)
  refine lc_list (xs := xs) (fun i H2 => ∃ acc F2, Wd o F2 H2 ∧ F2 D = some (.lst acc) ∧ Iv i acc F2) ⟨[], _, w1.new1 hD, upd_same, h0⟩ (fun i H2 hi ⟨acc, F2, w2, _, p⟩ => w2.l (hl i acc F2 p)) (fun i y H2 hy ⟨acc, F2, w2, q2, p⟩ => ?_) fun H2 ⟨acc, F2, w2, q2, p⟩ => k _ _ _ w2 (hd acc F2 q2 p)
  refine ⟨hw y, ?_⟩
  exact lc_turn w2 (ht i y acc F2 hy q2 p) fun acc1 H3 F3 w3 q3 n => ⟨acc1, F3, w3, q3, n⟩⟩
theorem wp_lcT {j : Nat} (hw : ∀ x, wipe ((wipe σ vs).set j (some x)) vs = wipe σ vs)
    (h : Wp o (ts σ) F fun x F1 => ∃ a xs, x = .ref a ∧ SqT K F1 a xs ∧ ∀ D, F1 D = none → ∃ Iv : Nat → List V → Hp → Prop, Iv 0 [] (upd F1 D (.lst [])) ∧ (∀ i acc F2, Iv i acc F2 → SqT K F2 a xs) ∧
      (∀ i x acc F2, xs[i]? = some x → F2 D = some (.lst acc) → Iv i acc F2 → LcT o D acc tt te ((wipe σ vs).set j (some x)) F2 (Iv (i + 1))) ∧ (∀ acc F2, F2 D = some (.lst acc) → Iv xs.length acc F2 → P (.ref D) F2)) :
    Wp o (tLc (iTup K ts) (gName j) tt te vs σ) F P := fun H w Q k => h H w _ fun x H1 F1 w1 ⟨a, xs, e, hs, hh⟩ => ⟨a, e, ⟨xs, w1.t hs⟩, fun D hD => by
  obtain ⟨Iv, h0, hl, ht, hd⟩ := hh D (w1.fr hD)
  refine lc_tup (xs := xs) (fun i H2 => ∃ acc F2, Wd o F2 H2 ∧ F2 D = some (.lst acc) ∧ Iv i acc F2) ⟨[], _, w1.new1 hD, upd_same, h0⟩ (fun i H2 hi ⟨acc, F2, w2, _, p⟩ => w2.t (hl i acc F2 p)) (fun i y H2 hy ⟨acc, F2, w2, q2, p⟩ => ?_) fun H2 ⟨acc, F2, w2, q2, p⟩ => k _ _ _ w2 (hd acc F2 q2 p)
  refine ⟨hw y, ?_⟩
  exact lc_turn w2 (ht i y acc F2 hy q2 p) fun acc1 H3 F3 w3 q3 n => ⟨acc1, F3, w3, q3, n⟩⟩
theorem wp_lcR {j : Nat} (hw : ∀ x, wipe ((wipe σ vs).set j (some x)) vs = wipe σ vs)
    (h : Wp o (tl σ) F fun us F1 => ∃ n : Nat, us = [.int (n : Int)] ∧ n ≤ 1000000 ∧ ∀ D, F1 D = none → ∃ Iv : Nat → List V → Hp → Prop, Iv 0 [] (upd F1 D (.lst [])) ∧
      (∀ i acc F2, i < n → F2 D = some (.lst acc) → Iv i acc F2 → LcT o D acc tt te ((wipe σ vs).set j (some (.int (i : Int)))) F2 (Iv (i + 1))) ∧ (∀ acc F2, F2 D = some (.lst acc) → Iv n acc F2 → P (.ref D) F2)) :
    Wp o (tLc (iRng1 tl) (gName j) tt te vs σ) F P := fun H w Q k => h H w _ fun us H1 F1 w1 ⟨n, e, hn, hh⟩ => ⟨(n : Int), e, by omega, by omega, fun D hD => by
  obtain ⟨Iv, h0, ht, hd⟩ := hh D (w1.fr hD)
  rw [Int.toNat_natCast]
  refine lc_range (n := n) (fun i H2 => ∃ acc F2, Wd o F2 H2 ∧ F2 D = some (.lst acc) ∧ Iv i acc F2) ⟨[], _, w1.new1 hD, upd_same, h0⟩ (fun i H2 hi ⟨acc, F2, w2, q2, p⟩ => ?_) fun H2 ⟨acc, F2, w2, q2, p⟩ => k _ _ _ w2 (hd acc F2 q2 p)
  have e0 : (0 : Int) + (i : Int) = (i : Int) := Int.zero_add _
  rw [e0]
  refine ⟨hw _, ?_⟩
  exact lc_turn w2 (ht i acc F2 hi q2 p) fun acc1 H3 F3 w3 q3 n => ⟨acc1, F3, w3, q3, n⟩⟩
theorem wp_lcS {j : Nat} (hw : ∀ x, wipe ((wipe σ vs).set j (some x)) vs = wipe σ vs)
    (h : Wp o (ts σ) F fun x F1 => ∃ l : List Nat, x = .str (tx l) ∧ ∀ D, F1 D = none → ∃ Iv : Nat → List V → Hp → Prop, Iv 0 [] (upd F1 D (.lst [])) ∧
      (∀ i c acc F2, l[i]? = some c → F2 D = some (.lst acc) → Iv i acc F2 → LcT o D acc tt te ((wipe σ vs).set j (some (sg c))) F2 (Iv (i + 1))) ∧ (∀ acc F2, F2 D = some (.lst acc) → Iv l.length acc F2 → P (.ref D) F2)) :
    Wp o (tLc (iStr ts) (gName j) tt te vs σ) F P := fun H w Q k => h H w _ fun x H1 F1 w1 ⟨l, e, hh⟩ => ⟨tx l, e, fun D hD => by
  obtain ⟨Iv, h0, ht, hd⟩ := hh D (w1.fr hD)
  have ez : (tx l).cps.size = l.length := by simp [tx]
  refine lc_it (walk_str (z := tx l)) (fun i H2 => ∃ acc F2, Wd o F2 H2 ∧ F2 D = some (.lst acc) ∧ Iv i acc F2) ⟨[], _, w1.new1 hD, upd_same, h0⟩ (fun _ _ _ _ => trivial) (fun i y H2 H3 hi ⟨acc, F2, w2, q2, p⟩ hy => ?_) fun H2 ⟨acc, F2, w2, q2, p⟩ => k _ _ _ w2 (hd acc F2 q2 (by rw [← ez]; exact p))
  obtain ⟨e3, c, hc, ey⟩ := hy
  subst e3; subst ey
  refine ⟨hw _, ?_⟩
  have hc2 : l[i]? = some c := by simpa [tx] using hc
  exact lc_turn w2 (ht i c acc F2 hc2 q2 p) fun acc1 H3 F3 w3 q3 n => ⟨acc1, F3, w3, q3, n⟩⟩
end

/-! ### defs -/
/-- the def x stands as the statement st says -/
def DefAt (K : PySem.W.Frag) (mg : Str → Option Value) (x : Str) (st : Stmt) : Prop := ∃ f fd, Fun K x x st f fd ∧ mg x = some (.ref f)
/-- x keeps its promise, up to the level k -/
def Pm (P : Program) (w : World) (K : PySem.W.Frag) (mg : Str → Option Value) (base : Heap) (CX : CXT) (k : Nat) (x : Str) (ps : List Str) (sp : Sp) : Prop :=
  ∃ f fd, FnOk P w K mg base CX k f fd ps sp ∧ mg x = some (.ref f) ∧ PySem.W.keepIn K (.ref f) = true ∧ Binds K fd ps []
theorem defAt_mk {K : PySem.W.Frag} {h : Heap} {mg : Str → Option Value} {x : Str} {st : Stmt} {f : Addr} {oc : Value} {od an : Option Addr} {osl : Array (Option Value)} {kV doc pm cdv ct : Value} (X : K.In h) (G : h.Ns mainGlobals mg)
    (a : PySem.W.nsIn K mainGlobals x = some (some (.ref f))) (l : K.lookup f = some ⟨oc, od, .func (PySem.W.fnOf x x (defArgs st) (defBody st) (defScope st) .none kV doc pm an cdv ct), osl⟩)
    (c : PySem.W.codeIn K cdv x = true) (k : PySem.W.keepIn K (.ref f) = true) : DefAt K mg x st := ⟨f, _, fun_mk l c k, PySem.W.mg_of X G a⟩
section
variable {X : Cx}
theorem pe_pm {CX : CXT} {k : Nat} {x : Str} {ps : List Str} {sp : Sp} {E : XK} {e : Expr} {es : List Expr} {t : TA} {p pos : Pos} (G : Pm X.prog X.w X.K X.mg X.base CX k x ps sp) (hr : Room k X.A) (hx : Passes CX X E) (ha : PA X (e :: es) t) (hg : Gl X x := by rfl)
    (hd : (x == ("__debug__" : Str)) = false := by decide) (he : starEach (e :: es) X.env = (false, eval e X.env) :: starEach es X.env := by rfl) (hpl : (backTo pos (starEach es X.env)).any (·.1) = false := by rfl) :
    PE X (.Call (.Name x p) (e :: es) [] pos) (tCall sp [] E t) := by
  obtain ⟨f, fd, F, hm, hk, hb⟩ := G
  exact pe_call F hr hg hm hk hb .nil hx ha hd he hpl
/-- a module's number, a module's text -/
theorem pe_cst {x : Str} {i : Int} {pos : Pos} (h : ∃ t, X.mg x = some (.int i t)) (hg : Gl X x := by rfl) (hd : (x == ("__debug__" : Str)) = false := by decide) : PE X (.Name x pos) (tC (.int i)) := by
  obtain ⟨t, h⟩ := h
  exact pe_glob hg h ⟨t, rfl⟩ hd
theorem pe_cstS {x : Str} {l : List Nat} {pos : Pos} (h : ∃ t, X.mg x = some (.str (tx l) t)) (hg : Gl X x := by rfl) (hd : (x == ("__debug__" : Str)) = false := by decide) : PE X (.Name x pos) (tC (.str (tx l))) := by
  obtain ⟨t, h⟩ := h
  exact pe_glob hg h ⟨t, rfl⟩ hd
theorem pe_strT {x : Str} {j : Nat} {pos : Pos} {l : List Nat} (h : x = tx l) : PE X (.Constant (.str x) j pos) (tC (.str (tx l))) := by
  rw [h]; exact pe_str
end
/-- the built-ins' names are the built-ins' -/
structure Bl (mg : Str → Option Value) : Prop where
  len : mg "len" = none
  list : mg "list" = none
  range : mg "range" = none
  abs : mg "abs" = none
  int_ : mg "int" = none
  bool_ : mg "bool" = none
  str_ : mg "str" = none
  isinstance : mg "isinstance" = none
  all : mg "all" = none
  enumerate : mg "enumerate" = none
  max : mg "max" = none
  min : mg "min" = none
  set : mg "set" = none
  sorted : mg "sorted" = none
  tuple : mg "tuple" = none

/-! ### known answers -/
theorem bT {b : Bool} {X Y : Prop} (h : b = true) (x : X) : (b = true → X) ∧ (b = false → Y) := ⟨fun _ => x, fun z => by rw [h] at z; cases z⟩
theorem bF {b : Bool} {X Y : Prop} (h : b = false) (y : Y) : (b = true → X) ∧ (b = false → Y) := ⟨fun z => (by rw [h] at z; cases z), fun _ => y⟩
/-! ### known facts -/
theorem fr_in {F : Hp} {p q : Addr} {u : HO} (h : upd F q u p = none) : F p = none := by
  by_cases e : p = q
  · subst e; rw [upd_same] at h; cases h
  · rw [upd_ne e] at h; exact h
theorem fr_ne {F : Hp} {p q : Addr} {u : HO} (h : upd F q u p = none) : p ≠ q := fun e => by
  rw [e, upd_same] at h; cases h
theorem at_ne {F : Hp} {a p : Addr} {u v : HO} (h : F a = some u) (n : F p = none) : upd F p v a = some u := by
  rw [upd_ne (ne_of_none h n)]; exact h
theorem atNat {α : Type} {l : List α} {i : Int} {x : α} (h0 : 0 ≤ i) (h : l[i.toNat]? = some x) : atI l i = some x := by
  have e : i = ((i.toNat : Nat) : Int) := by omega
  rw [e]
  exact atI_nat h

/-! ### a cut behind a statement -/
section
variable {o : Option Addr} {F : Hp} {σ : L2.St} {D : Ends} {tu tw : TS} {tt : TT}
theorem go_cut (M : L2.St → Hp → Prop) (h : Go o tu { D with nx := Cl o M } σ F) (k : ∀ σ1 F1, M σ1 F1 → Go o tw D σ1 F1) : Go o (Evl.tCut tu tw) D σ F := fun H w => ⟨Cl o M, h H w, fun σ1 H1 ⟨F1, w1, m⟩ => k σ1 F1 m H1 w1⟩
theorem go_ifB (h : Wp o (tt σ) F fun b F1 => (b = true → Go o tu D σ F1) ∧ (b = false → Go o tw D σ F1)) : Go o (tIfS tt tu tw) D σ F := fun H w => h H w _ fun b H1 F1 w1 ⟨h1, h2⟩ => by
  cases b with
  | true => rw [if_pos rfl]; exact h1 rfl H1 w1
  | false => rw [if_neg Bool.false_ne_true]; exact h2 rfl H1 w1
end
/-! ### more operations by values -/
section
variable {o : Option Addr} {F : Hp} {σ : L2.St} {K : PySem.W.Frag} {P : V → Hp → Prop} {x y v : V}
def rIsN : R2 := fun x y H Q => y = .non ∧ Q (.bl (decide (x = .non))) H
def rNotN : R2 := fun x y H Q => y = .non ∧ Q (.bl (!decide (x = .non))) H
theorem op_isNs {X : Cx} : OpR X (compareOp .Is) rIsN := op_isN
theorem op_notNs {X : Cx} : OpR X (compareOp .IsNot) rNotN := op_notN
theorem wp_isNs (q : P (.bl (decide (x = .non))) F) : Wp o (rIsN x .non) F P := fun H w Q k => ⟨rfl, k _ H F w q⟩
theorem wp_notNs (q : P (.bl (!decide (x = .non))) F) : Wp o (rNotN x .non) F P := fun H w Q k => ⟨rfl, k _ H F w q⟩
theorem wp_eq0 (h : scal x y = true) (q : P (.bl (decide (x = y))) F) : Wp o (rEqP K x y) F P := fun H w Q k => .inl ⟨h, k _ H F w q⟩
theorem wp_ne0 (h : scal x y = true) (q : P (.bl (!decide (x = y))) F) : Wp o (rNeP K x y) F P := fun H w Q k => .inl ⟨h, k _ H F w q⟩
abbrev rAbs : List V → Hp → VK → Prop := fun xs H Q => ∃ i, xs = [V.int i] ∧ Q (.int (if i < 0 then -i else i)) H
theorem wp_abs {i : Int} (q : P (.int (if i < 0 then -i else i)) F) : Wp o (fun H Q => ∃ j, [V.int i] = [V.int j] ∧ Q (.int (if j < 0 then -j else j)) H) F P := fun H w Q k => ⟨i, rfl, k _ H F w q⟩
theorem ixN_nat {n j : Nat} (hj : j < n) : ixN n (j : Int) = some j := by
  unfold ixN
  rw [if_pos (by omega), if_pos (by omega)]
  simp
theorem wp_popAt {a : Addr} {xs : List V} {j : Nat} (h : F a = some (.lst xs)) (hz : xs.length ≤ 100000) (hj : xs[j]? = some y) (q : P y (upd F a (.lst (xs.eraseIdx j)))) : Wp o (rPopAt (.ref a) [.int (j : Int)]) F P := fun H w Q k => by
  have hl : j < xs.length := (List.getElem?_eq_some_iff.mp hj).1
  exact ⟨a, xs, j, j, y, rfl, rfl, w.ex _ _ h, by omega, by omega, (ixN_seq (ixN_nat hl)).1, hj, k _ _ _ (w.mut h) q⟩
def rIntP : List V → Hp → VK → Prop := fun xs H Q => ((∃ i, xs = [.int i] ∧ Q (.int i) H) ∨ ∃ k, xs = [.bl k] ∧ Q (.int (if k then 1 else 0)) H) ∨ (∃ a n, xs = [.str a] ∧ PySem.intText? a = some n ∧ a.length ≤ 640 ∧ Q (.int n) H)
theorem call_intP {X : Cx} : CallR X (.type "int") rIntP := call_int1.or call_int_str
theorem wp_intB {b : Bool} (q : P (.int (if b then 1 else 0)) F) : Wp o (rIntP [.bl b]) F P := fun H w Q k => .inl (.inr ⟨b, rfl, k _ H F w q⟩)
/-! isinstance -/
theorem tyX_l {H : Hp} {a : Addr} {xs : List V} (h : SqL K H a xs) : TyX K H (.ref a) (.type "list") := by
  rcases h with (h | ⟨ob, h⟩) | ⟨ob, its, n, h, hc, _⟩
  · exact .base (.lst h)
  · exact .base (.frz h)
  · exact .kList h hc
theorem tyX_t {H : Hp} {a : Addr} {xs : List V} (h : SqT K H a xs) : TyX K H (.ref a) (.type "tuple") := by
  rcases h with (h | ⟨ob, h⟩) | ⟨ob, its, n, h, hc, _⟩
  · exact .base (.tup h)
  · exact .fTuple h
  · exact .kTuple h hc
/-- the built-in type of a plain value -/
inductive TyP (K : PySem.W.Frag) (H : Hp) : V → String → Prop where
  | non : TyP K H .non "NoneType"
  | bl (b : Bool) : TyP K H (.bl b) "bool"
  | int (i : Int) : TyP K H (.int i) "int"
  | str (z : Str) : TyP K H (.str z) "str"
  | lst {a : Addr} {xs : List V} (h : SqL K H a xs) : TyP K H (.ref a) "list"
  | tup {a : Addr} {xs : List V} (h : SqT K H a xs) : TyP K H (.ref a) "tuple"
theorem TyP.ty {H : Hp} {t : String} (h : TyP K H x t) : TyX K H x (.type t) := by
  cases h with
  | non => exact .base .non
  | bl b => exact .base (.bl b)
  | int i => exact .base (.int i)
  | str z => exact .base (.str z)
  | lst h => exact tyX_l h
  | tup h => exact tyX_t h
theorem TyP.up {H H1 : Hp} {t : String} (e : Ex H H1) (h : TyP K H x t) : TyP K H1 x t := by
  cases h with
  | non => exact .non
  | bl b => exact .bl b
  | int i => exact .int i
  | str z => exact .str z
  | lst h => exact .lst (ex_l e h)
  | tup h => exact .tup (ex_t e h)
theorem wp_isi {t c : String} {b : Bool} (h : TyP K F x t) (hk : kitB t c = some b) (q : P (.bl b) F) : Wp o (rIsi K [x, .ty c]) F P := fun H w Q k =>
  ⟨x, .ty c, .type t, .type c, b, rfl, .ty c, (h.up w.ex).ty, kit_ty hk, k _ H F w q⟩
theorem wp_all {a : Addr} {bs : List Bool} (h : SqL K F a (bs.map V.bl)) (q : P (.bl (bs.all id)) F) : Wp o (rAll K [.ref a]) F P := fun H w Q k => ⟨a, bs, rfl, w.l h, k _ H F w q⟩
theorem wp_lenX {p : Addr} {xs : List V} (h : SqL K F p xs ∨ SqT K F p xs) (q : P (.int (xs.length : Nat)) F) : Wp o (rLenV K [.ref p]) F P := h.elim (fun h => wp_lenL h q) fun h => wp_lenT h q
theorem wp_ixX {p : Addr} {xs : List V} {i : Int} (h : SqL K F p xs ∨ SqT K F p xs) (ha : atI xs i = some v) (q : P v F) : Wp o (rIx K (.ref p) (.int i)) F P := h.elim (fun h => wp_ixL h ha q) fun h => wp_ixT h ha q
/-! join of signs -/
abbrev rJoin (K : PySem.W.Frag) : V → List V → Hp → VK → Prop := fun x xs H Q => ∃ a p, ∃ ys : List Str, x = .str a ∧ xs = [.ref p] ∧ (SqL K H p (ys.map V.str) ∨ SqT K H p (ys.map V.str)) ∧
  (ys.map (·.length)).sum + ys.length * a.length ≤ 16777216 ∧ Q (.str (Txt.join a ys)) H
theorem join_sg : ∀ l : List Nat, Str.join (tx []) (l.map fun c => (⟨#[c]⟩ : Str)) = tx l
  | [] => rfl
  | [c] => rfl
  | c :: d :: r => by
    have ih := join_sg (d :: r)
    show (⟨#[c]⟩ : Str) ++ tx [] ++ Str.join (tx []) ((d :: r).map fun c => (⟨#[c]⟩ : Str)) = tx (c :: d :: r)
    rw [ih]
    show tx [c] ++ tx [] ++ tx (d :: r) = _
    rw [tx_app, tx_app]
    rfl
theorem sum_ones : ∀ l : List Nat, ((l.map fun c => (⟨#[c]⟩ : Str)).map (·.length)).sum = l.length
  | [] => rfl
  | c :: r => by
    have ih := sum_ones r
    rw [List.map_cons, List.map_cons, List.sum_cons, ih, List.length_cons]
    show 1 + r.length = r.length + 1
    omega
theorem wp_joinSg {p : Addr} {l : List Nat} (h : SqL K F p (l.map sg)) (hl : l.length ≤ 100000) (q : P (.str (tx l)) F) : Wp o (rJoin K (.str (tx [])) [.ref p]) F P := fun H w Q k =>
  ⟨tx [], p, l.map fun c => ⟨#[c]⟩, rfl, rfl, .inl (by rw [List.map_map]; exact w.l h), by
    rw [sum_ones, List.length_map]
    show l.length + l.length * 0 ≤ _
    omega, by
    rw [show Txt.join (tx []) (l.map fun c => (⟨#[c]⟩ : Str)) = Str.join (tx []) (l.map fun c => (⟨#[c]⟩ : Str)) from PySem.StrLaws.glued_eq_join _ _, join_sg]
    exact k _ H F w q⟩
end
/-! ### dice -/
section
variable {o : Option Addr} {F H : Hp} {d : Addr}
/-- H without d -/
def rm (H : Hp) (d : Addr) : Hp := fun b => if b = d then none else H b
theorem rm_same : rm H d d = none := by unfold rm; rw [if_pos rfl]
theorem rm_ne {b : Addr} (h : b ≠ d) : rm H d b = H b := by unfold rm; rw [if_neg h]
theorem ex_rm : Ex (rm H d) H := fun b u e => by
  by_cases h : b = d
  · rw [h, rm_same] at e; cases e
  · rw [rm_ne h] at e; exact e
theorem ex_to_rm (e : Ex F H) (n : F d = none) : Ex F (rm H d) := fun b u q => by
  rw [rm_ne (ne_of_none q n)]
  exact e b u q
theorem Wd.dice (h : Dc H d) : Wd (some d) (rm H d) H := ⟨ex_rm, fun b e => by cases e; exact ⟨rm_same, h⟩⟩
end

/-! ### data: lists of ints, lists of signs -/
section
variable {o : Option Addr} {F : Hp} {K : PySem.W.Frag} {P : V → Hp → Prop}
theorem lay_all : ∀ {ds : List PyData}, (∀ d ∈ ds, d.canLay0 = true) → PyData.canLayAll0 ds = true
  | [], _ => rfl
  | d :: r, h => by
    show (d.canLay0 && PyData.canLayAll0 r) = true
    rw [h d List.mem_cons_self, lay_all fun e he => h e (List.mem_cons_of_mem _ he)]
    rfl
theorem depth_all {n : Nat} : ∀ {ds : List PyData}, (∀ d ∈ ds, d.depth ≤ n) → PyData.depthAll ds ≤ n
  | [], _ => Nat.zero_le _
  | d :: r, h => by
    show max d.depth (PyData.depthAll r) ≤ n
    exact Nat.max_le.mpr ⟨h d List.mem_cons_self, depth_all fun e he => h e (List.mem_cons_of_mem _ he)⟩
theorem shaped_list {ds : List PyData} (h1 : ∀ d ∈ ds, d.canLay0 = true) (h2 : ∀ d ∈ ds, d.depth ≤ 63) : SeqAt.shaped (.list ds) = true := by
  unfold SeqAt.shaped
  rw [Bool.and_eq_true, decide_eq_true_eq]
  refine ⟨lay_all h1, ?_⟩
  show PyData.depthAll ds + 1 ≤ 64
  have := depth_all h2
  omega
abbrev dI (cs : List Int) : List PyData := cs.map PyData.int
abbrev dSg (l : List Nat) : List PyData := l.map fun c => PyData.str ⟨#[c]⟩
theorem dpa_I : ∀ cs : List Int, DpAll K F (cs.map V.int) (dI cs)
  | [] => .nil
  | c :: r => .cons (.int c) (dpa_I r)
theorem dpa_S : ∀ l : List Nat, DpAll K F (l.map sg) (dSg l)
  | [] => .nil
  | c :: r => .cons (.str _) (dpa_S r)
theorem dp_I {a : Addr} {cs : List Int} (h : SqL K F a (cs.map V.int)) : Dp K F (.ref a) (.list (dI cs)) := .lst h (dpa_I cs)
theorem dp_S {a : Addr} {l : List Nat} (h : SqL K F a (l.map sg)) : Dp K F (.ref a) (.list (dSg l)) := .lst h (dpa_S l)
theorem sh_I (cs : List Int) : SeqAt.shaped (.list (dI cs)) = true := shaped_list (fun d hd => by
  obtain ⟨c, _, rfl⟩ := List.mem_map.mp hd; rfl) fun d hd => by
  obtain ⟨c, _, rfl⟩ := List.mem_map.mp hd; exact Nat.zero_le _
theorem sh_S {l : List Nat} (h : ∀ c ∈ l, c < 128) : SeqAt.shaped (.list (dSg l)) = true := shaped_list (fun d hd => by
  obtain ⟨c, hc, rfl⟩ := List.mem_map.mp hd
  have := h c hc
  simp [PyData.canLay0, PyData.strOk]
  omega) fun d hd => by
  obtain ⟨c, _, rfl⟩ := List.mem_map.mp hd; exact Nat.zero_le _
theorem eqvAll_I : ∀ cs ds : List Int, PyData.eqvAll (dI cs) (dI ds) = decide (cs = ds)
  | [], [] => rfl
  | [], _ :: _ => rfl
  | _ :: _, [] => rfl
  | c :: r, d :: t => by
    show ((c == d) && PyData.eqvAll (dI r) (dI t)) = decide (c :: r = d :: t)
    rw [eqvAll_I r t, Bool.beq_eq_decide_eq]
    by_cases h : c = d <;> by_cases h2 : r = t <;> simp [h, h2]
theorem eqv_I (cs ds : List Int) : PyData.eqv (.list (dI cs)) (.list (dI ds)) = decide (cs = ds) := eqvAll_I cs ds
theorem eqv_S0 (l : List Nat) : PyData.eqv (.list (dSg l)) (.list []) = decide (l = []) := by
  cases l with
  | nil => rfl
  | cons c r => rfl
theorem wp_neIL {a b : Addr} {xs ys : List Int} (ha : SqL K F a (xs.map V.int)) (hb : SqL K F b (ys.map V.int)) (q : P (.bl (!decide (xs = ys))) F) : Wp o (rNeP K (.ref a) (.ref b)) F P :=
  wp_neD (dp_I ha) (dp_I hb) (sh_I xs) (sh_I ys) (by rw [eqv_I]; exact q)
theorem wp_eqIL {a b : Addr} {xs ys : List Int} (ha : SqL K F a (xs.map V.int)) (hb : SqL K F b (ys.map V.int)) (q : P (.bl (decide (xs = ys))) F) : Wp o (rEqP K (.ref a) (.ref b)) F P :=
  wp_eqD (dp_I ha) (dp_I hb) (sh_I xs) (sh_I ys) (by rw [eqv_I]; exact q)
theorem wp_neS0 {a b : Addr} {l : List Nat} (ha : SqL K F a (l.map sg)) (hb : SqL K F b []) (h : ∀ c ∈ l, c < 128) (q : P (.bl (!decide (l = []))) F) : Wp o (rNeP K (.ref a) (.ref b)) F P :=
  wp_neD (dp_S ha) (.lst hb .nil) (sh_S h) rfl (by rw [eqv_S0]; exact q)
end
/-! ### what a def of dice hands back -/
section
variable {o : Option Addr} {F H : Hp} {d : Addr} {P : V → Hp → Prop} {Q : VK} {u : HO} {p : Addr} {H1 F1 : Hp}
theorem Wd.newD (w : Wd (some d) F H) (n : H p = none) (e : Ex (rm H d) H1) (hd : Dc H1 d) (h : H1 p = some u) : Wd (some d) (upd F p u) H1 := by
  have f := (w.dc d rfl).1
  have e2 : Ex F H1 := (ex_to_rm w.ex f).trans e
  refine ⟨fun b v q => ?_, fun b z => ?_⟩
  · by_cases hb : b = p
    · subst hb; rw [upd_same] at q; rw [← q]; exact h
    · rw [upd_ne hb] at q; exact e2 _ _ q
  · cases z
    rw [upd_ne (w.ned n d rfl)]
    exact ⟨f, hd⟩
/-- a new object of which something is told -/
def RetND (d : Addr) (Pu : HO → Prop) (H : Hp) (Q : VK) : Prop := ∀ p H1 u, H p = none → Ex (rm H d) H1 → Dc H1 d → H1 p = some u → Pu u → Q (.ref p) H1
theorem RetND.use {Pu : HO → Prop} (w : Wd (some d) F H) (q : ∀ p u, F p = none → Pu u → P (.ref p) (upd F p u)) (k : ∀ v H1 F1, Wd (some d) F1 H1 → P v F1 → Q v H1) : RetND d Pu H Q :=
  fun p H1 u n e hd h hu => k _ _ _ (w.newD n e hd h) (q p u (w.fr n) hu)
theorem RetND.out {Pu : HO → Prop} (k : RetND d Pu H Q) (e : Ex (rm H d) F1) (n : rm H d p = none) (h : F1 p = some u) (hu : Pu u) : ∀ H1, Wd (some d) F1 H1 → Q (.ref p) H1 := fun H1 w => by
  obtain ⟨f, hd⟩ := w.dc d rfl
  have nd : p ≠ d := ne_of_none h f
  rw [rm_ne nd] at n
  exact k p H1 u n (e.trans w.ex) hd (w.ex _ _ h) hu
theorem go_stD {t : TS} {D : Ends} {σ0 σ : L2.St} (hd : Dc H d) (e : σ0 = σ) (g : Go (some d) t D σ (rm H d)) : t D σ0 H := by
  subst e
  exact g H (Wd.dice hd)
end

/-! ### the rules with the written part by name -/
section
variable {X : Cx} (K : PySem.W.Frag) (hK : X.K = K)
include hK
theorem ixK : IxR X (rIx K) := hK ▸ ix_seq
theorem eqK (hu : X.A.units + 64 < cLine) : OpR X (compareOp .Eq) (rEqP K) := hK ▸ op_eqP hu
theorem neK (hu : X.A.units + 64 < cLine) : OpR X (compareOp .NotEq) (rNeP K) := hK ▸ op_neP hu
theorem inK : OpR X (compareOp .In) (rInP K) := hK ▸ op_inP
theorem niK : OpR X (compareOp .NotIn) (rNiP K) := hK ▸ op_niP
theorem slK : SlR X (rSlP K) := hK ▸ sl_P
theorem lenK : CallR X (.builtin "len") (rLenV K) := hK ▸ call_len
theorem listK (hc : X.calm = true) : CallR X (.type "list") (rListP K) := hK ▸ call_listP hc
theorem isiK : CallR X (.builtin "isinstance") (rIsi K) := hK ▸ call_isi
theorem allK (hc : X.calm = true) : CallR X (.builtin "all") (rAll K) := hK ▸ cr_all hc
theorem maxK (hc : X.calm = true) : CallR X (.builtin "max") (rMax K) := hK ▸ cr_max hc
theorem sortedK : CallR X (.builtin "sorted") (rSorted K) := hK ▸ cr_sorted
theorem joinK : MtR X "str.join" (rJoin K) := hK ▸ mt_join
theorem indexK : MtR X "list.index" (rIndex K) := hK ▸ mt_index
theorem piL {tg l : Expr} {tl : TE} (h : PE X l tl) : PI X tg l (iList K tl) := hK ▸ pi_list h
theorem piT {tg l : Expr} {tl : TE} (h : PE X l tl) : PI X tg l (iTup K tl) := hK ▸ pi_tup h
theorem piE {e : Expr} {ta : TA} {p pos tpos : Pos} {elts : List Expr} {kk : Nat} (hm : X.mg "enumerate" = none) (ha : PA X [e] ta) (hg : Gl X "enumerate" := by rfl) (hs : starEach [e] X.env = [(false, eval e X.env)] := by rfl) :
    PI X (.Tuple elts kk tpos) (.Call (.Name "enumerate" p) [e] [] pos) (iEnum K ta) := hK ▸ pi_enum hg hm ha hs
theorem pgT {es : List Expr} {k : Nat} {pos : Pos} {t : TGs} {n : Nat} (hc : X.calm = true) (h : PGs X es t) (hn : (assignEach es X.env).length = n := by rfl) (hst : (assignEach es X.env).findIdx? (·.1) = none := by rfl) : PG X (.Tuple es k pos) (gTup K n t) := hK ▸ pg_tup hc h hn hst
variable {o e : Expr} {es : List Expr} {to : TE} {t : TA} {name : Str} {apos cpos : Pos} {T id : String} {r : V → List V → Hp → VK → Prop}
theorem bm0K (pa : PlainAttrs T) (slot : Slot T name id) (hty : typeOf (.builtin id) = pure (.type "method_descriptor")) (hm : MtR X id r) (ho : PE X o to)
    (hbase : attributeBase o name X.env (eval o X.env) = eval o X.env := by rfl) (hline : (apos.endLine == cpos.line) = true := by rfl) : PE X (.Call (.Attribute o name apos) [] [] cpos) (tBM0 K T r to) := hK ▸ pe_bm0 pa slot hty hm ho hbase hline
theorem bmK (pa : PlainAttrs T) (slot : Slot T name id) (hty : typeOf (.builtin id) = pure (.type "method_descriptor")) (hm : MtR X id r) (ho : PE X o to) (ha : PA X (e :: es) t)
    (hbase : attributeBase o name X.env (eval o X.env) = eval o X.env := by rfl)
    (hfew : ((backTo cpos (starEach (e :: es) X.env)).all (fun x => !x.1) && (backToKw cpos (keywordEach [] X.env)).all (fun x => x.1.isSome)
      && decide ((e :: es).length + ([] : List Keyword).length + (if ([] : List Keyword).isEmpty then 0 else 1) < 30)) = true := by rfl) (hline : (apos.endLine == cpos.line) = true := by rfl)
    (he : starEach (e :: es) X.env = (false, eval e X.env) :: starEach es X.env := by rfl) (hpl : (backTo cpos (starEach es X.env)).any (·.1) = false := by rfl) :
    PE X (.Call (.Attribute o name apos) (e :: es) [] cpos) (tBM K T r to t) := hK ▸ pe_bm pa slot hty hm ho ha hbase hfew hline he hpl
theorem peJoin {te : TE} (ho : PE X o to) (he : PE X e te) (hs : starEach [e] X.env = [(false, eval e X.env)] := by rfl) (hbase : attributeBase o "join" X.env (eval o X.env) = eval o X.env := by rfl) (hline : (apos.endLine == cpos.line) = true := by rfl) :
    PE X (.Call (.Attribute o "join" apos) [e] [] cpos) (tM1 (rJoin K) to te) := hK ▸ pe_join ho he hs hbase hline
end
theorem gz_l {F F1 : Hp} {p : Addr} {u : HO} (h : upd F p u = F1) (n : F p = none) : Ex F F1 ∧ F1 p = some u := by
  subst h
  exact ⟨ex_new n, upd_same⟩
end Sr
/-! enumerate(text); order of data; the least list -/
namespace Sr
open PySem PySem.Spec PyProof.Rows L2 SrX
/-- a text's signs with their places, in new pairs -/
def ItES (x : Str) : It := ⟨fun i _ => i < x.cps.size, fun i H v H' => ∃ T c, v = .ref T ∧ H T = none ∧ H' = upd H T (.tup [.int (i : Nat), .str ⟨#[c]⟩]) ∧ x.cps[i]? = some c, fun i _ => x.cps.size ≤ i⟩
theorem draws_str {P : Program} {w : World} {A : Around} (hh : A.handled = none) (it : Addr) (x : Str) (t : Tok) : Draws P w A it [it] x.cps.size (fun i v => ∃ c u, x.cps[i]? = some c ∧ v = .str ⟨#[c]⟩ u) (fun i h => h.IsStrIter it (strIterType x) x t i) := by
  have e : strIterType x = "str_ascii_iterator" ∨ strIterType x = "str_iterator" := by
    unfold strIterType
    split
    · exact .inl rfl
    · exact .inr rfl
  rcases e with e | e
  · rw [e]; exact Draws.strAscii hh it x t
  · rw [e]; exact Draws.strWide hh it x t
theorem turn_enumS {P : Program} {w : World} {K : PySem.W.Frag} {elts : List Expr} {kk : Nat} {tpos : Pos} (e it : Addr) (x : Str) (t : Tok) :
    Turn P w K (.Tuple elts kk tpos) (ItES x) [e, it] e (fun i h => (∃ old, IsEnum h e it ((i : Nat) : Int) old) ∧ h.IsStrIter it (strIterType x) x t i ∧ e ≠ it) where
  mem := by simp
  obj := fun i h st b hb => by
    obtain ⟨⟨old, he⟩, ⟨o, ho, hc, hd⟩, _⟩ := st
    have e' : b = e ∨ b = it := by simpa using hb
    rcases e' with z | z
    · rw [z]; exact ⟨_, he, fun v q => nomatch q⟩
    · rw [z]; exact ⟨o, ho, fun v q => by rw [hd] at q; cases q⟩
  keep := fun i h h' st k => by
    obtain ⟨⟨old, he⟩, ⟨o, ho, r⟩, hne⟩ := st
    exact ⟨⟨old, k e (by simp) _ he⟩, ⟨o, k it (by simp) o ho, r⟩, hne⟩
  item := by
    intro X hP hw hK hc i pins s σ H E I hf st hg
    subst hP hw hK
    obtain ⟨⟨old, he⟩, hit, hne⟩ := st
    have hel : e < s.heap.objs.size := Heap.lt_size he
    have hil : it < s.heap.objs.size := by obtain ⟨_, q, _⟩ := hit; exact Heap.lt_size q
    refine wpAny_pyNext_enum_itemD (fp := [it]) (draws_str (A := X.A.in1) (I.ok.hd hc) it x t) he hit hg hne (by simpa using hne) fun v h' tk hP ho hit' hT hsz hk => ?_
    obtain ⟨c, u, hc2, rfl⟩ := hP
    refine ⟨_, rfl, wpAny_letOwnedTupleGo_enum (s := { s with heap := h', toks := tk + 1 }) ho fun h'' he' sb => ?_⟩
    have hT2 : h''.get? s.heap.objs.size = some { cls := .type "tuple", data := .seq #[.int i tk, .str ⟨#[c]⟩ u] } := (sb.2 _ (Nat.ne_of_gt hel)).trans hT
    have new : ObjOk X.prog X.w (upd H s.heap.objs.size (.tup [.int (i : Nat), .str ⟨#[c]⟩])) h'' s.heap.objs.size (.tup [.int (i : Nat), .str ⟨#[c]⟩]) :=
      ⟨by show 2 ≤ sizeLine; decide, [.int i tk, .str ⟨#[c]⟩ u], .cons ⟨_, rfl⟩ (.cons ⟨_, rfl⟩ .nil), ⟨_, hT2, rfl, _, rfl⟩⟩
    have I1 : Inv X pins σ (upd H s.heap.objs.size (.tup [.int (i : Nat), .str ⟨#[c]⟩])) { s with heap := h'', toks := tk + 1 } :=
      I.turnedNew (ch := [e, it]) (fun b ob hb q => (sb.2 b (fun z => hb (by simp [z]))).trans (hk b ob (fun z => hb (by simp [z])) (fun z => hb (by simp [z])) q)) hf (Nat.le_refl _) new
    refine ⟨.ref s.heap.objs.size, _, I1, rfl, ⟨_, c, rfl, I.hok.fresh (Nat.le_refl _), rfl, hc2⟩, ⟨⟨.str ⟨#[c]⟩ u, ?_⟩, ?_, hne⟩, fun b hb => ?_⟩
    · have e1 : ((i + 1 : Nat) : Int) = (i : Int) + 1 := by omega
      rw [e1]; exact he'
    · obtain ⟨o, ho2, r⟩ := hit'
      exact ⟨o, (sb.2 it (Ne.symm hne)).trans ho2, r⟩
    · have hb' : b < s.heap.objs.size := by
        have e' : b = e ∨ b = it := by simpa using hb
        rcases e' with z | z
        · rw [z]; exact hel
        · rw [z]; exact hil
      rw [upd_ne (Nat.ne_of_lt hb')]
      exact (hf b hb).1
  done := by
    intro X hP hw hK hc i pins s σ H E I hf st hg
    subst hP hw hK
    obtain ⟨⟨old, he⟩, hit, hne⟩ := st
    obtain ⟨f0, f1, f2, f3, f4, f5⟩ := hf it (by simp)
    by_cases hi : i = x.cps.size
    · subst hi
      exact wpAny_pyNext_enum_endD (draws_str (A := X.A.in1) (I.ok.hd hc) it x t) he hit fun h' eb => ⟨rfl, I.turned (t' := s.toks) (fun b o hb q => eb b o hb q) f0 f1 f3 f4 f5⟩
    · have hlt : x.cps.size < i := Nat.lt_of_le_of_ne hg (Ne.symm hi)
      have D : Draws X.prog X.w X.A.in1 it [it] i (fun _ _ => False) (fun j h => j = i ∧ h.IsStrIter it (strIterType x) x t i) := {
        live := fun _ _ st => let ⟨_, o, ho, _⟩ := st; ⟨o, ho⟩
        frame := fun _ _ _ st hk => let ⟨e, o, ho, r⟩ := st; ⟨e, o, hk it (by simp) o ho, r⟩
        item := fun j s Q E hj st _ => absurd st.1 (Nat.ne_of_lt hj)
        done := fun s Q E st hE => by
          have hx : x.cps[i]? = none := Array.getElem?_eq_none (Nat.le_of_lt hlt)
          have e : strIterType x = "str_ascii_iterator" ∨ strIterType x = "str_iterator" := by
            unfold strIterType
            split
            · exact .inl rfl
            · exact .inr rfl
          obtain ⟨_, st⟩ := st
          rcases e with e | e
          · rw [e] at st; exact wpAny_nextOf_ascii_end (I.ok.hd hc) st hx hE
          · rw [e] at st; exact wpAny_nextOf_wide_end (I.ok.hd hc) st hx hE }
      exact wpAny_pyNext_enum_endD D he ⟨rfl, hit⟩ fun h' eb => ⟨rfl, I.turned (t' := s.toks) (fun b o hb q => eb b o hb q) f0 f1 f3 f4 f5⟩
  self := fun A i s Q E st h => let ⟨⟨_, he⟩, _⟩ := st; wpAny_pyIter_enum he h
def iEnumS (ta : TA) : TI := fun σ H R => ta σ H fun vs H1 => ∃ x, vs = [.str x] ∧ R (ItES x) H1
theorem pi_enumS {X : Cx} {e : Expr} {ta : TA} {p pos tpos : Pos} {elts : List Expr} {kk : Nat} (hm : X.mg "enumerate" = none) (ha : PA X [e] ta) (hg : Gl X "enumerate" := by rfl) (hs : starEach [e] X.env = [(false, eval e X.env)] := by rfl) :
    PI X (.Tuple elts kk tpos) (.Call (.Name "enumerate" p) [e] [] pos) (iEnumS ta) := by
  refine ⟨fun pins s σ H R I h => ?_⟩
  refine Call_ (ld_blt I hg hm boot_enumerate (PyProof.Rows.callWith_type1 (thn (ha.run pos pins s σ H _ I h) fun us s1 ⟨vs, H1, I1, r1, q1⟩ => ?_) hs rfl))
  obtain ⟨x, ex, q⟩ := q1
  subst ex
  cases r1 with
  | cons r rr =>
    cases rr
    obtain ⟨t, rfl⟩ := r
    refine call_enumerate_str fun h' he hit hsz hk => wpAny_pyIter_enum he ?_
    have I2 : Inv X pins σ H1 { s1 with heap := h' } := I1.kept (t' := s1.toks) hk
    refine ⟨s1.heap.objs.size + 1, [s1.heap.objs.size + 1, s1.heap.objs.size], _, _, H1, rfl, I2, turn_enumS (s1.heap.objs.size + 1) s1.heap.objs.size x t, ⟨⟨.none, he⟩, hit, Nat.succ_ne_self _⟩, fun b hb => ?_, q⟩
    have e' : b = s1.heap.objs.size + 1 ∨ b = s1.heap.objs.size := by simpa using hb
    have hle : s1.heap.objs.size ≤ b := by
      rcases e' with z | z
      · rw [z]; exact Nat.le_add_right _ _
      · rw [z]; exact Nat.le_refl _
    exact I1.fpOk hle (I1.hok.fresh hle)
theorem walk_enumS {x : Str} : Walk (ItES x) x.cps.size (fun _ => True) (YPair (fun i => some (.int (i : Nat))) (fun i => x.cps[i]?.map fun c => V.str ⟨#[c]⟩)) := by
  refine ⟨fun i _ hi _ => hi, fun _ _ => Nat.le_refl _, fun i H v H' _ _ y => ?_⟩
  obtain ⟨T, c, h1, h2, h3, h4⟩ := y
  exact ⟨T, .int (i : Nat), .str ⟨#[c]⟩, h1, h2, h3, rfl, by simp [h4]⟩
section
variable {o : Option Addr} {F : Hp} {σ : L2.St} {K : PySem.W.Frag} {D : Ends} {tu tz : TS} {g : TG} {tl : TA}
theorem go_forES (Iv : Nat → L2.St → Hp → Prop) (h : Wp o (tl σ) F fun us F1 => ∃ l : List Nat, us = [.str (tx l)] ∧ Iv 0 σ F1 ∧
    (∀ i c σ1 F2 p, l[i]? = some c → F2 p = none → Iv i σ1 F2 → Wp o (g (.ref p) σ1) (upd F2 p (.tup [.int (i : Nat), sg c])) fun σ2 F3 => Go o tu { D with nx := Cl o (Iv (i + 1)), ct := Cl o (Iv (i + 1)), bk := tz D } σ2 F3) ∧ (∀ σ1 F2, Iv l.length σ1 F2 → Go o tz D σ1 F2)) :
    Go o (tSeq (tFor (iEnumS tl) g tu) tz) D σ F := fun H w => h H w _ fun us H1 F1 w1 ⟨l, e, h0, ht, hd⟩ => ⟨tx l, e, by
  have ez : (tx l).cps.size = l.length := by simp [tx]
  refine for_it (D := { D with nx := tz D }) walk_enumS (fun i => Cl o (Iv i)) ⟨F1, w1, h0⟩ (fun _ _ _ _ _ => trivial) (fun i v σ1 H2 H3 hi ⟨F2, w2, p⟩ hy => ?_) (fun σ1 H2 ⟨F2, w2, p⟩ => hd σ1 F2 (by rw [← ez]; exact p) H2 w2)
  obtain ⟨T, x, y, e1, e2, e3, e4, e5⟩ := hy
  cases e4
  subst e1; subst e3
  obtain ⟨c, hc, rfl⟩ := Option.map_eq_some_iff.mp e5
  have hc2 : l[i]? = some c := by simpa [tx] using hc
  exact ht i c σ1 F2 T hc2 (w2.fr e2) p _ (w2.new1 e2) _ fun σ2 H4 F4 w4 k => k H4 w4⟩
end
/-! ### order of data -/
open PySem.W PySem.SeqAt in
def rLeD (K : PySem.W.Frag) : R2 := fun x y H Q => ∃ d e, Dp K H x d ∧ Dp K H y e ∧ alike d e = true ∧ d ≠ .none ∧ min d.depth e.depth ≤ 60 ∧ Q (.bl (!dataLt e d)) H
open PySem.W PySem.SeqAt in
def rLtD (K : PySem.W.Frag) : R2 := fun x y H Q => ∃ d e, Dp K H x d ∧ Dp K H y e ∧ alike d e = true ∧ d ≠ .none ∧ min d.depth e.depth ≤ 60 ∧ Q (.bl (dataLt d e)) H
section
variable {X : Cx} (K : PySem.W.Frag) (hK : X.K = K)
include hK
open PySem.W PySem.SeqAt in
theorem leDK (hu : X.A.units + 64 < cLine) : OpR X (compareOp .LtE) (rLeD K) := by
  subst hK
  intro pins s σ H x y v u Q I rx ry h
  obtain ⟨d, e, h1, h2, h3, h4, h5, q⟩ := h
  obtain ⟨as, r1⟩ := Dp.reads I d x v h1 rx
  obtain ⟨bs, r2⟩ := Dp.reads I e y u h2 ry
  exact le_data r1 r2 h3 h4 (by omega) ⟨.bl _, H, I, rfl, q⟩
open PySem.W PySem.SeqAt in
theorem ltDK (hu : X.A.units + 64 < cLine) : OpR X (compareOp .Lt) (rLtD K) := by
  subst hK
  intro pins s σ H x y v u Q I rx ry h
  obtain ⟨d, e, h1, h2, h3, h4, h5, q⟩ := h
  obtain ⟨as, r1⟩ := Dp.reads I d x v h1 rx
  obtain ⟨bs, r2⟩ := Dp.reads I e y u h2 ry
  exact lt_data r1 r2 h3 h4 (by omega) ⟨.bl _, H, I, rfl, q⟩
end
/-- lists of numbers: the lesser one -/
def llt : List Int → List Int → Bool
  | _, [] => false
  | [], _ :: _ => true
  | x :: xs, y :: ys => if x = y then llt xs ys else decide (x < y)
section
open PySem.W PySem.SeqAt
theorem alike_I : ∀ a b : List Int, alikeAll (dI a) (dI b) = true
  | [], [] => rfl
  | [], _ :: _ => rfl
  | _ :: _, [] => rfl
  | x :: xs, y :: ys => by
    show (alike (.int x) (.int y) && alikeAll (dI xs) (dI ys)) = true
    rw [alike_I xs ys]
    rfl
theorem toks_I : ∀ a b : List Int, PyProof.Rows.lexLt itemOrd (keyToksAll (dI a)) (keyToksAll (dI b)) = llt a b
  | [], [] => by rfl
  | [], y :: ys => by
    show PyProof.Rows.lexLt itemOrd (keyToksAll []) (keyToksAll (.int y :: dI ys)) = true
    rw [toks_all_cons]
    rfl
  | x :: xs, [] => by
    show PyProof.Rows.lexLt itemOrd (keyToksAll (.int x :: dI xs)) (keyToksAll []) = false
    rw [toks_all_cons]
    rfl
  | x :: xs, y :: ys => by
    show PyProof.Rows.lexLt itemOrd (keyToksAll (.int x :: dI xs)) (keyToksAll (.int y :: dI ys)) = if x = y then llt xs ys else decide (x < y)
    by_cases h : x = y
    · rw [if_pos h, dataLt_all_yes rfl (by subst h; simp [PyData.eqv])]
      exact toks_I xs ys
    · rw [if_neg h, dataLt_all_no rfl (by simp [PyData.eqv, h]), dataLt_int]
theorem lt_I (a b : List Int) : dataLt (.list (dI a)) (.list (dI b)) = llt a b := by
  rw [dataLt_list, toks_I]
/-- (the length, the list) of two lists -/
def lenLt (a b : List Int) : Bool := if a.length = b.length then llt a b else decide (a.length < b.length)
theorem lt_LI (a b : List Int) : dataLt (.tuple [.int a.length, .list (dI a)]) (.tuple [.int b.length, .list (dI b)]) = lenLt a b := by
  rw [dataLt_tuple]
  unfold lenLt
  by_cases h : a.length = b.length
  · rw [if_pos h, dataLt_all_yes rfl (by rw [h]; simp [PyData.eqv])]
    by_cases e : a = b
    · subst e
      rw [dataLt_all_yes (by show alikeAll (dI a) (dI a) = true; exact alike_I _ _) (by rw [eqv_I]; simp)]
      have : llt a a = false := by
        clear h
        induction a with
        | nil => rfl
        | cons x r ih => unfold llt; rw [if_pos rfl]; exact ih
      rw [this]
      rfl
    · rw [dataLt_all_no (by show alikeAll (dI a) (dI b) = true; exact alike_I _ _) (by rw [eqv_I]; simpa using e), lt_I]
  · rw [if_neg h, dataLt_all_no rfl (by simp [PyData.eqv]; omega), dataLt_int]
    by_cases h2 : a.length < b.length
    · rw [decide_eq_true h2, decide_eq_true (by omega)]
    · rw [decide_eq_false h2, decide_eq_false (by omega)]
end
/-! ### text.index(sign) -/
section
open PySem.StrLaws Builtin Builtin.Str
theorem occ_full (x y : Str) (hi : Nat) : ∀ (l : List Nat) (st : Array Nat × Nat), st.fst.size = 1 → (forIn (m := Id) l st (occBody x y hi 1)).run.fst = st.fst
  | [], _, _ => rfl
  | a :: l, st, h => by
    have hi : ¬ (((st.fst.size < 1 ∧ st.snd ≤ a) ∧ a + y.length ≤ hi) ∧ subAt x y a = true) := fun c => by omega
    simp only [List.forIn_cons, occBody, if_neg hi]
    exact occ_full x y _ l st h
theorem occ_first (x y : Str) (hi : Nat) {i : Nat} (h1 : i + y.length ≤ hi) (h2 : subAt x y i = true) : ∀ (m cur : Nat), cur ≤ i → i < cur + m → (∀ k, cur ≤ k → k < i → subAt x y k = false) →
    (forIn (m := Id) (List.range' cur m) ((#[] : Array Nat), 0) (occBody x y hi 1)).run.fst = #[i]
  | 0, cur, ha, hb, _ => by omega
  | m + 1, cur, ha, hb, hn => by
    rw [List.range'_succ]
    by_cases e : cur = i
    · subst e
      have hc : ((((#[] : Array Nat).size < 1 ∧ 0 ≤ cur) ∧ cur + y.length ≤ hi) ∧ subAt x y cur = true) := ⟨⟨⟨by simp, Nat.zero_le _⟩, h1⟩, h2⟩
      simp only [List.forIn_cons, occBody, if_pos hc]
      exact occ_full x y hi _ _ rfl
    · have hc : ¬ ((((#[] : Array Nat).size < 1 ∧ 0 ≤ cur) ∧ cur + y.length ≤ hi) ∧ subAt x y cur = true) := fun c => by
        rw [hn cur (Nat.le_refl _) (by omega)] at c
        cases c.2
      simp only [List.forIn_cons, occBody, if_neg hc]
      exact occ_first x y hi h1 h2 m (cur + 1) (by omega) (by omega) fun k hk1 hk2 => hn k (by omega) hk2
theorem occ_sg {l : List Nat} {c : Nat} (h : c ∈ l) : occurrences (tx l) ⟨#[c]⟩ 0 (tx l).length 1 = [l.idxOf c] := by
  have hl : l.idxOf c < l.length := List.idxOf_lt_length_iff.mpr h
  have hx : (tx l).cps.toList = l := by simp [tx]
  have a1 := (subAt_one (tx l) c (l.idxOf c)).mpr (by rw [hx, List.getElem?_eq_getElem hl, List.getElem_idxOf])
  rw [occ_eq]
  have e := occ_first (tx l) ⟨#[c]⟩ (tx l).length a1.1 a1.2 ((tx l).length + 1 - 0) 0 (Nat.zero_le _) (by rw [tx_len]; omega) fun k _ hk => by
    cases q : subAt (tx l) ⟨#[c]⟩ k with
    | false => rfl
    | true =>
      have hkl : k < l.length := by omega
      have a2 := (subAt_one (tx l) c k).mp ⟨by show k + 1 ≤ _; rw [tx_len]; omega, q⟩
      rw [hx] at a2
      have ek : l[k] = c := by
        rw [List.getElem?_eq_getElem hkl] at a2
        exact Option.some.inj a2
      have := List.not_of_lt_findIdx (p := fun x => x == c) (xs := l) (i := k) hk
      rw [ek] at this
      simp at this
  rw [e]
end
abbrev rIndexS : V → List V → Hp → VK → Prop := fun x xs H Q => ∃ a b i rest, x = .str a ∧ xs = [.str b] ∧ Builtin.Str.occurrences a b 0 a.length 1 = i :: rest ∧ Q (.int (i : Nat)) H
theorem mt_indexS {X : Cx} : MtR X "str.index" rIndexS := mt_sindex
theorem wp_indexS {o : Option Addr} {F : Hp} {P : V → Hp → Prop} {l : List Nat} {c : Nat} (h : c ∈ l) (q : P (.int (l.idxOf c : Nat)) F) : Wp o (rIndexS (.str (tx l)) [sg c]) F P := fun H w Q k => ⟨tx l, ⟨#[c]⟩, l.idxOf c, [], rfl, rfl, occ_sg h, k _ H F w q⟩
end Sr
/-! dicts whose keys are tuples of whole numbers and None -/
namespace Sr
open PySem PySem.Spec PyProof.Rows L2 SrX

abbrev LKey := List Leaf
def lV : Leaf → V
  | .none => .non
  | .num i => .int i
  | .text x => .str x
theorem lV_is {P : Program} {w : World} {k : Leaf} {u : Value} (r : RelV (lV k) u) : (leafKind P w).is k u = true := by
  cases k with
  | none =>
    have e : u = Value.none := r
    subst e
    rfl
  | num i =>
    obtain ⟨t, e⟩ := (show ∃ t, u = Value.int i t from r)
    subst e
    exact decide_eq_true rfl
  | text x =>
    obtain ⟨t, e⟩ := (show ∃ t, u = Value.str x t from r)
    subst e
    show (x == x) = true
    simp
theorem litems_are {P : Program} {w : World} : ∀ {ks : List Leaf} {us : List Value}, Vals (ks.map lV) us → ItemsAre (leafKind P w) ks us
  | [], _, r => by rw [List.map_nil] at r; cases r; exact .nil
  | k :: ks, _, r => by
    rw [List.map_cons] at r
    cases r with
    | cons h t => exact .cons (lV_is h) (litems_are t)
/-- the entries as they are told, and as they stand -/
abbrev LP : List (LKey × Addr × V) → List (LKey × Addr × Value) → Prop := Paired fun p q => p.1 = q.1 ∧ p.2.1 = q.2.1 ∧ RelV p.2.2 q.2.2
/-- a dict at d -/
def LD (P : Program) (w : World) (d : Addr) (xs : List (LKey × Addr × V)) : HO := .ext fun h => xs.length ≤ sizeLine ∧ (d == sysModules) = false ∧ ∃ ys, LP xs ys ∧
  ∃ o es ep, h.get? d = some o ∧ o.ExactDict ∧ o.data = .dict es ep ∧ es.toList = ys.map (entryOfKey (tupleKind (leafKind P w))) ∧ (ys.map (·.1)).Nodup
def LKeys (H : Hp) (xs : List (LKey × Addr × V)) : Prop := ∀ e ∈ xs, H e.2.1 = some (.tup (e.1.map lV))
def valX (xs : List (LKey × Addr × V)) (k : LKey) : Option V := (xs.find? fun e => decide (e.1 = k)).map (·.2.2)
def putX (xs : List (LKey × Addr × V)) (k : LKey) (b : Addr) (v : V) : List (LKey × Addr × V) := if (valX xs k).isSome then xs.map fun e => if e.1 = k then (e.1, e.2.1, v) else e else xs ++ [(k, b, v)]
theorem LP.val {xs : List (LKey × Addr × V)} {ys : List (LKey × Addr × Value)} (r : LP xs ys) (k : LKey) : RelO (valX xs k) ((atKey ys k).map (·.2)) := by
  induction r with
  | nil => exact True.intro
  | @cons p q ps qs h t ih =>
    obtain ⟨h1, _, h2⟩ := h
    by_cases e : p.1 = k
    · have e' : q.1 = k := h1.symm.trans e
      have b : atKey (q :: qs) k = some q.2 := by simp [atKey, List.find?_cons, e']
      have b2 : valX (p :: ps) k = some p.2.2 := by simp [valX, List.find?_cons, e]
      rw [b2, b]; exact h2
    · have e' : ¬ q.1 = k := fun z => e (h1.trans z)
      have b : atKey (q :: qs) k = atKey qs k := by simp [atKey, List.find?_cons, e']
      have b2 : valX (p :: ps) k = valX ps k := by simp [valX, List.find?_cons, e]
      rw [b2, b]; exact ih
theorem LP.repl {xs : List (LKey × Addr × V)} {ys : List (LKey × Addr × Value)} (r : LP xs ys) (k : LKey) {v : V} {u : Value} (rv : RelV v u) : LP (xs.map fun e => if e.1 = k then (e.1, e.2.1, v) else e) (ys.map (putAt k u)) := by
  induction r with
  | nil => exact .nil
  | @cons p q ps qs h t ih =>
    rw [List.map_cons, List.map_cons]
    refine .cons ?_ ih
    obtain ⟨h1, h2, h3⟩ := h
    unfold putAt
    by_cases e : p.1 = k
    · rw [if_pos e, if_pos (h1.symm.trans e)]; exact ⟨h1, h2, rv⟩
    · rw [if_neg e, if_neg (fun z => e (h1.trans z))]; exact ⟨h1, h2, h3⟩
theorem LP.put {xs : List (LKey × Addr × V)} {ys : List (LKey × Addr × Value)} (r : LP xs ys) (k : LKey) (b : Addr) {v : V} {u : Value} (rv : RelV v u) : LP (putX xs k b v) (storedH ys k b u) := by
  have e : (valX xs k).isSome = (atKey ys k).isSome := by
    have q := (r.val k).isSome_eq
    rw [Option.isSome_map] at q
    exact q
  unfold putX storedH
  rw [e]
  by_cases q : (atKey ys k).isSome = true
  · rw [if_pos q, if_pos q]; exact r.repl k rv
  · rw [if_neg q, if_neg q]; exact Paired.snoc r ⟨rfl, rfl, rv⟩
theorem LP.keys {H : Hp} {xs : List (LKey × Addr × V)} {ys : List (LKey × Addr × Value)} (r : LP xs ys) (h : LKeys H xs) : ∀ y ∈ ys, H y.2.1 = some (.tup (y.1.map lV)) := by
  induction r with
  | nil => intro y hy; exact nomatch hy
  | @cons p q ps qs hh t ih =>
    intro y hy
    rcases List.mem_cons.mp hy with e | hy
    · subst e
      obtain ⟨h1, h2, _⟩ := hh
      rw [← h1, ← h2]
      exact h p List.mem_cons_self
    · exact ih (fun e he => h e (List.mem_cons_of_mem _ he)) y hy
theorem putX_len (xs : List (LKey × Addr × V)) (k : LKey) (b : Addr) (v : V) : (putX xs k b v).length ≤ xs.length + 1 := by
  unfold putX
  split
  · rw [List.length_map]; omega
  · rw [List.length_append]; exact Nat.le_refl _
section
variable {P : Program} {w : World} {H : Hp} {h : Heap} {a b : Addr}
theorem lkey_of {ks : LKey} (ok : HOk P w H h) (e : H a = some (.tup (ks.map lV))) : (tupleKind (leafKind P w)).is h ks a := by
  obtain ⟨_, its, r, o, h1, h2, n, h3⟩ := (show ObjOk P w H h a (.tup (ks.map lV)) from ok a _ e)
  exact ⟨o, its.toArray, n, h1, h2, h3, by simpa using litems_are r⟩
theorem ld_of {xs : List (LKey × Addr × V)} (ok : HOk P w H h) (e : H a = some (LD P w a xs)) (hk : LKeys H xs) : xs.length ≤ sizeLine ∧ (a == sysModules) = false ∧ ∃ ys, LP xs ys ∧ h.DictOfH (tupleKind (leafKind P w)) a ys := by
  obtain ⟨⟨z, y, ys, r, o, es, ep, h1, h2, h3, h4, h5⟩, _, _⟩ := (show ObjOk P w H h a (LD P w a xs) from ok a _ e)
  exact ⟨z, y, ys, r, o, es, ep, h1, h2, h3, h4, fun x hx => lkey_of ok (r.keys hk x hx), h5⟩
theorem ld_ok {xs : List (LKey × Addr × V)} {ys : List (LKey × Addr × Value)} (z : xs.length ≤ sizeLine) (hd : (a == sysModules) = false) (r : LP xs ys)
    (dd : ∃ o es ep, h.get? a = some o ∧ o.ExactDict ∧ o.data = .dict es ep ∧ es.toList = ys.map (entryOfKey (tupleKind (leafKind P w))) ∧ (ys.map (·.1)).Nodup) : ObjOk P w H h a (LD P w a xs) := by
  obtain ⟨o, es, ep, h1, h2, h3, h4, h5⟩ := dd
  refine ⟨⟨z, hd, ys, r, o, es, ep, h1, h2, h3, h4, h5⟩, ⟨o, h1⟩, fun g1 g2 p k => ?_⟩
  obtain ⟨z, hd, ys, r, o, es, ep, h1, h2, h3, h4, h5⟩ := p
  exact ⟨z, hd, ys, r, o, es, ep, k o h1, h2, h3, h4, h5⟩
end
/-- what is asked for a look at the dict: it, its keys, the key asked for -/
def LGet (P : Program) (w : World) (H : Hp) (a : Addr) (y : V) (r : Option V) : Prop := ∃ xs k b, H a = some (LD P w a xs) ∧ LKeys H xs ∧ y = .ref b ∧ H b = some (.tup (k.map lV)) ∧ r = valX xs k
section
variable {X : Cx} {pins : List (Addr × Obj)} {σ : L2.St} {H : Hp} {s : Shared} {a : Addr} {y v : V} {u r : Value} {o : Option V} {A : Around} {E : Value → Shared → Prop}
theorem l_getItem {Q : Value → Shared → Prop} (hu : A.units + 1 < cLine) (I : Inv X pins σ H s) (g : LGet X.prog X.w H a y (some v)) (ry : RelV y u) (h : ∀ w' s', Inv X pins σ H s' → RelV v w' → Q w' s') : wpAny (model X.prog X.w) A (getItem (.ref a) u) Q E s := by
  obtain ⟨xs, k, b, e, hk, ey, eb, l⟩ := g
  subst ey
  cases (show u = Value.ref b from ry)
  obtain ⟨z, hd, ys, rel, dd⟩ := ld_of I.hok e hk
  obtain ⟨w', hw, rw'⟩ := RelO.some_of (v := v) (o := (atKey ys k).map (·.2)) (by rw [l]; exact rel.val k)
  obtain ⟨p, hp, hp2⟩ := Option.map_eq_some_iff.mp hw
  refine wpAny_getItem_heap (tupleKind_room_in1 hu) (lkey_of I.hok eb) dd hp ?_
  rw [hp2]
  exact h w' _ (I.tok _) rw'
theorem l_notIn {Q : Value → Shared → Prop} (hu : A.units + 1 < cLine) (I : Inv X pins σ H s) (g : LGet X.prog X.w H a y o) (ry : RelV y u) (h : ∀ s', Inv X pins σ H s' → Q (.bool (!o.isSome)) s') : wpAny (model X.prog X.w) A (compareOp .NotIn u (.ref a)) Q E s := by
  obtain ⟨xs, k, b, e, hk, ey, eb, l⟩ := g
  subst ey
  cases (show u = Value.ref b from ry)
  obtain ⟨z, hd, ys, rel, dd⟩ := ld_of I.hok e hk
  refine wpAny_notIn_heap (tupleKind_room_in1 hu) (lkey_of I.hok eb) hd dd ?_
  have q := (rel.val k).isSome_eq
  rw [Option.isSome_map] at q
  rw [← q, ← l]
  exact h _ (I.tok _)
/-- a[y] = v -/
def LPut (P : Program) (w : World) (H : Hp) (a : Addr) (y v : V) (H1 : Hp) : Prop := ∃ xs k b, H a = some (LD P w a xs) ∧ LKeys H xs ∧ y = .ref b ∧ H b = some (.tup (k.map lV)) ∧ xs.length < sizeLine ∧ H1 = upd H a (LD P w a (putX xs k b v))
theorem l_setItem {H1 : Hp} {Q : Unit → Shared → Prop} (hu : A.units + 1 < cLine) (I : Inv X pins σ H s) (g : LPut X.prog X.w H a y v H1) (ry : RelV y u) (rv : RelV v r) (h : ∀ s', Inv X pins σ H1 s' → Q () s') : wpAny (model X.prog X.w) A (setItem (.ref a) u r) Q E s := by
  obtain ⟨xs, k, b, e, hk, ey, eb, l, eH⟩ := g
  subst ey eH
  cases (show u = Value.ref b from ry)
  obtain ⟨z, hd, ys, rel, dd⟩ := ld_of I.hok e hk
  have hz : ys.length ≤ sizeLine := by rw [← Paired.length rel]; exact z
  have hl : (putX xs k b v).length ≤ sizeLine := by have := putX_len xs k b v; omega
  refine wpAny_setItem_heap (hsz := hz) (tupleKind_room_in1 hu) (lkey_of I.hok eb) dd fun h' dd' hs => h _ ?_
  obtain ⟨q, es, ep, hq, h2, h3, h4, _, h5⟩ := dd'
  exact d_write I (by rw [e]; exact True.intro) hs ⟨q, hq⟩ (ld_ok hl hd (rel.put k b rv) ⟨q, es, ep, hq, h2, h3, h4, h5⟩)
theorem lget_ty (I : Inv X pins σ H s) (g : LGet X.prog X.w H a y o) : s.TypeIs (.ref a) "dict" := by
  obtain ⟨xs, k, b, e, hk, _⟩ := g
  obtain ⟨_, _, ys, _, dd⟩ := ld_of I.hok e hk
  exact dd.typeIs
end
def tLGet (P : Program) (w : World) (td ty : TE) : TE := fun σ H Q => td σ H fun x H1 => ty σ H1 fun y H2 => ∃ a v, x = .ref a ∧ LGet P w H2 a y (some v) ∧ Q v H2
def tLNotIn (P : Program) (w : World) (ty td : TE) : TE := fun σ H Q => ty σ H fun y H1 => td σ H1 fun x H2 => ∃ a o, x = .ref a ∧ LGet P w H2 a y o ∧ Q (.bl (!o.isSome)) H2
def sLPut (P : Program) (w : World) (td ty tv : TE) : TS := fun D σ H => tv σ H fun v H1 => td σ H1 fun x H2 => ty σ H2 fun y H3 => ∃ a H4, x = .ref a ∧ LPut P w H3 a y v H4 ∧ D.nx σ H4
def tLNew (P : Program) (w : World) : TE := fun _ H Q => ∀ p, H p = none → Q (.ref p) (upd H p (LD P w p []))
section
variable {X : Cx} {o i e value : Expr} {pos pos' tpos : Pos} {td ty tv : TE} {P : Program} {w : World}
theorem pe_lget (hp : X.prog = P) (hw : X.w = w) (hu : X.A.units + 1 < cLine) (ho : PE X o td) (hi : PE X i ty) (hs : NoSl i) : PE X (.Subscript o i pos) (tLGet P w td ty) := by
  subst hp hw
  refine ⟨fun pins s σ H Q I h => ?_⟩
  refine subD_of PySem.F.slot_dict_getitem.lookup hs (thn (ho.run pins s σ H _ I h) fun u s1 ⟨x, H1, I1, rx, q1⟩ => thn (hi.run pins s1 σ H1 _ I1 q1) fun iv s2 ⟨y, H2, I2, ry, a, v, ex, g, q2⟩ => ?_)
  subst ex
  obtain rfl : u = Value.ref a := rx
  exact ⟨lget_ty I2 g, l_getItem hu I2 g ry fun w' s3 I3 rw' => ⟨v, H2, I3, rw', q2⟩⟩
theorem pc_lnotin (hp : X.prog = P) (hw : X.w = w) (hu : X.A.units + 1 < cLine) (hi : PE X i ty) (ho : PE X o td) : PC X .NotIn i o (tLNotIn P w ty td) := by
  subst hp hw
  refine ⟨fun pins s σ H Q I h => ?_⟩
  refine thn (hi.run pins s σ H _ I h) fun iv s1 ⟨y, H1, I1, ry, q1⟩ => thn (ho.run pins s1 σ H1 _ I1 q1) fun u s2 ⟨x, H2, I2, rx, a, ov, ex, g, q2⟩ => ?_
  subst ex
  obtain rfl : u = Value.ref a := rx
  exact l_notIn hu I2 g ry fun s3 I3 => ⟨.bl (!ov.isSome), H2, I3, rfl, q2⟩
theorem ps_lput (hp : X.prog = P) (hw : X.w = w) (hu : X.A.units + 1 < cLine) (ho : PE X o td) (hi : PE X i ty) (hv : PE X value tv) (hs : swapsWith value (some (.Subscript o i pos')) pos.line X.env = pure false) :
    PS X (.Assign [.Subscript o i pos'] value pos) (sLPut P w td ty tv) := by
  subst hp hw
  refine ⟨fun pins s σ H D I h => ?_⟩
  refine wpAny_Assign_Subscript (thn (hv.run pins s σ H _ I h) fun r s1 ⟨v, H1, I1, rv, q1⟩ => thn (ho.run pins s1 σ H1 _ I1 q1) fun u s2 ⟨x, H2, I2, rx, q2⟩ => thn (hi.run pins s2 σ H2 _ I2 q2) fun iv s3 ⟨y, H3, I3, ry, a, H4, ex, g, q3⟩ => ?_) hs
  subst ex
  obtain rfl : u = Value.ref a := rx
  exact l_setItem hu I3 g ry rv fun s4 I4 => ⟨σ, H4, I4, q3⟩
theorem pe_lnew (hp : X.prog = P) (hw : X.w = w) : PE X (.Dict [] [] pos) (tLNew P w) := by
  subst hp hw
  exact ⟨fun pins s σ H Q I h => wpAny_Dict_empty ⟨.ref s.heap.objs.size, _, I.laid (a := s.heap.objs.size) (o := LD X.prog X.w s.heap.objs.size []) (t' := s.toks) (fun _ _ q => Heap.get?_push_of_some _ q) (Nat.le_refl _)
    (ld_ok (Nat.zero_le _) (beq_eq_false_iff_ne.mpr (Ne.symm (Nat.ne_of_lt I.big))) .nil ⟨_, #[], 0, Heap.get?_push_size _ rfl, ⟨rfl, rfl, rfl⟩, rfl, rfl, List.nodup_nil⟩), rfl, h _ (I.hok.fresh (Nat.le_refl _))⟩⟩
end
end Sr
/-! methods, fields, the dict: promises and ways -/
namespace Sr
open PySem PySem.Spec PyProof.Rows L2 SrX
theorem u1 {A : Around} (h : A.units + 64 < cLine) : A.units + 1 < cLine := by omega
/-- the def of a class's method -/
def DefAtM (K : PySem.W.Frag) (C : Addr) (m q : Str) (st : Stmt) : Prop := ∃ f fd, Fun K m q st f fd ∧ Meth K C m f
def MPm (P : Program) (w : World) (K : PySem.W.Frag) (mg : Str → Option Value) (base : Heap) (CX : CXT) (k : Nat) (C : Addr) (m : Str) (ps : List Str) (sp : Sp) : Prop :=
  ∃ f fd, FnOk P w K mg base CX k f fd ps sp ∧ Meth K C m f ∧ Binds K fd ps []
def Made (P : Program) (w : World) (K : PySem.W.Frag) (mg : Str → Option Value) (base : Heap) (CX : CXT) (k : Nat) (C : Addr) (x : Str) (ps : List Str) (sp : Sp) : Prop :=
  ∃ f fd, FnOk P w K mg base CX k f fd ps sp ∧ Mk K C f ∧ Binds K fd ps [] ∧ mg x = some (.ref C)
theorem defAtM_mk {K : PySem.W.Frag} {C : Addr} {m q : Str} {st : Stmt} {f : Addr} {oc : Value} {od an : Option Addr} {osl : Array (Option Value)} {kV doc pm cdv ct : Value}
    (a : PySem.W.findIn K (.ref C) m = some (some (.ref f))) (i : PySem.W.isFn K (.ref f) = true) (l : K.lookup f = some ⟨oc, od, .func (PySem.W.fnOf m q (defArgs st) (defBody st) (defScope st) .none kV doc pm an cdv ct), osl⟩)
    (c : PySem.W.codeIn K cdv q = true) (k : PySem.W.keepIn K (.ref f) = true) : DefAtM K C m q st := ⟨f, _, fun_mk l c k, ⟨a, i, k⟩⟩
section
variable {X : Cx} {CX : CXT} {k : Nat} {C : Addr} {m x : Str} {ps : List Str} {sp : Sp} {E : XK} {o e : Expr} {es : List Expr} {ta : TE} {t : TA} {apos pos p : Pos}
theorem pe_mpm {pl : Sem Bool} (c : Cls X.K C) (G : MPm X.prog X.w X.K X.mg X.base CX k C m ps sp) (hr : Room k X.A) (hx : Passes CX X E) (he : PE X o ta) (ha : PA X (e :: es) t)
    (hst : starEach (e :: es) X.env = (false, eval e X.env) :: starEach es X.env := by rfl) (hpl : (backTo pos (starEach es X.env)).any (·.1) = false := by rfl)
    (ht : eval (.Call (.Attribute o m apos) (e :: es) [] pos) X.env = (do
      let ov ← eval o X.env
      standAt apos.atName
      let (f, first) ← holding [ov] (getMethod ov m pl)
      callWith pos f first (backTo pos (starEach (e :: es) X.env)) (backToKw pos (keywordEach [] X.env))) := by rfl) :
    PE X (.Call (.Attribute o m apos) (e :: es) [] pos) (tMeth C m sp [] E ta t) := by
  obtain ⟨f, fd, F, hm, hb⟩ := G
  exact pe_meth he c hm F hr hb .nil hx ha hst hpl ht
theorem pe_mk (G : Made X.prog X.w X.K X.mg X.base CX k C x ps sp) (hr : Room (k + 1) X.A) (hx : Passes CX X E) (ha : PA X (e :: es) t) (hg : Gl X x := by rfl)
    (hdb : (x == ("__debug__" : Str)) = false := by decide) (he : starEach (e :: es) X.env = (false, eval e X.env) :: starEach es X.env := by rfl) (hpl : (backTo pos (starEach es X.env)).any (·.1) = false := by rfl) :
    PE X (.Call (.Name x p) (e :: es) [] pos) (tMake C sp [] E t) := by
  obtain ⟨f, fd, F, M, hb, hm⟩ := G
  exact pe_make M F hr hg hm hb .nil hx ha hdb he hpl
end
section
variable {X : Cx} (K : PySem.W.Frag) (hK : X.K = K) {e value : Expr} {f : Str} {pos pos' : Pos} {ta tv : TE}
include hK
theorem pe_fldK (he : PE X e ta) (hb : attributeBase e f X.env (eval e X.env) = eval e X.env) : PE X (.Attribute e f pos) (tFld K ta f) := hK ▸ pe_fld he hb
theorem ps_fldK (ha : PE X e ta) (hv : PE X value tv) (hs : swapsWith value (some (.Attribute e f pos')) pos.line X.env = pure false) : PS X (.Assign [.Attribute e f pos'] value pos) (sFld K ta tv f) := hK ▸ ps_fld ha hv hs
end
section
variable {o : Option Addr} {F : Hp} {σ : L2.St} {K : PySem.W.Frag} {P : V → Hp → Prop} {D : Ends} {ta tb td ty tv : TE} {tl : TA} {tz : TS} {C : Addr} {Pg : Program} {w : World}
theorem wp_fld {f : Str} (h : Wp o (ta σ) F fun x F1 => ∃ a C dx fs v, x = .ref a ∧ F1 a = some (.ins C dx fs) ∧ Cls K C ∧ NoAttr K C f ∧ fs.lookup f = some v ∧ P v F1) : Wp o (tFld K ta f σ) F P := fun H w Q k =>
  h H w _ fun x H1 F1 w1 ⟨a, C, dx, fs, v, e, h1, c, n, l, p⟩ => ⟨a, C, dx, fs, v, e, w1.ex _ _ h1, c, n, l, k v H1 F1 w1 p⟩
theorem go_sfld {f : Str} (h : Wp o (tv σ) F fun y F1 => Wp o (ta σ) F1 fun x F2 => ∃ a C dx fs, x = .ref a ∧ F2 a = some (.ins C dx fs) ∧ Cls K C ∧ NoAttr K C f ∧ fs.length < 1000 ∧ Go o tz D σ (upd F2 a (.ins C dx (putF f y fs)))) : Go o (tSeq (sFld K ta tv f) tz) D σ F := fun H w =>
  h H w _ fun y H1 F1 w1 h1 => h1 H1 w1 _ fun x H2 F2 w2 ⟨a, C, dx, fs, e, h2, c, n, l, g⟩ => ⟨a, C, dx, fs, e, w2.ex _ _ h2, c, n, l, g _ (w2.mut h2)⟩
theorem wp_meth {m : Str} {sp : Sp} {dvs : List V} {E : XK} (h : Wp o (ta σ) F fun x F1 => ∃ a dx fs, x = .ref a ∧ F1 a = some (.ins C dx fs) ∧ fs.lookup m = none ∧ Wp o (tl σ) F1 fun vs F2 => Wp o (fun H Q => sp (.ref a :: (vs ++ dvs)) H Q E) F2 P) : Wp o (tMeth C m sp dvs E ta tl σ) F P := fun H w Q k =>
  h H w _ fun x H1 F1 w1 ⟨a, dx, fs, e, h1, l, h2⟩ => by
    subst e
    exact ⟨a, dx, fs, rfl, w1.ex _ _ h1, l, h2 H1 w1 _ fun vs H2 F2 w2 h3 => h3 H2 w2 Q k⟩
theorem wp_make {sp : Sp} {dvs : List V} {E : XK} (h : Wp o (tl σ) F fun vs F1 => ∀ x dx, F1 x = none → F1 dx = none → dx ≠ x → Wp o (fun H Q => sp (.ref x :: (vs ++ dvs)) H Q E) (upd (upd F1 dx (.own x)) x (.ins C dx [])) fun v F2 => v = .non ∧ P (.ref x) F2) :
    Wp o (tMake C sp dvs E tl σ) F P := fun H w Q k => h H w _ fun vs H1 F1 w1 h1 x dx nx ndx ne => by
  have w2 : Wd o (upd (upd F1 dx (.own x)) x (.ins C dx [])) (upd (upd H1 dx (.own x)) x (.ins C dx [])) := (w1.new1 ndx).new1 (by rw [upd_ne (Ne.symm ne)]; exact nx)
  exact h1 x dx (w1.fr nx) (w1.fr ndx) ne _ w2 _ fun v H2 F2 w3 ⟨e, p⟩ => ⟨e, k _ H2 F2 w3 p⟩
theorem LKeys.up {H H1 : Hp} {xs : List (LKey × Addr × V)} (e : Ex H H1) (h : LKeys H xs) : LKeys H1 xs := fun x hx => e _ _ (h x hx)
theorem wp_lget (h : Wp o (td σ) F fun x F1 => Wp o (ty σ) F1 fun y F2 => ∃ a v, x = .ref a ∧ LGet Pg w F2 a y (some v) ∧ P v F2) : Wp o (tLGet Pg w td ty σ) F P := fun H wd Q k =>
  h H wd _ fun x H1 F1 w1 h1 => h1 H1 w1 _ fun y H2 F2 w2 ⟨a, v, e, ⟨xs, kk, b, g1, g2, g3, g4, g5⟩, p⟩ => ⟨a, v, e, ⟨xs, kk, b, w2.ex _ _ g1, g2.up w2.ex, g3, w2.ex _ _ g4, g5⟩, k v H2 F2 w2 p⟩
theorem wp_lnotin (h : Wp o (ty σ) F fun y F1 => Wp o (td σ) F1 fun x F2 => ∃ a r, x = .ref a ∧ LGet Pg w F2 a y r ∧ P (.bl (!r.isSome)) F2) : Wp o (tLNotIn Pg w ty td σ) F P := fun H wd Q k =>
  h H wd _ fun y H1 F1 w1 h1 => h1 H1 w1 _ fun x H2 F2 w2 ⟨a, r, e, ⟨xs, kk, b, g1, g2, g3, g4, g5⟩, p⟩ => ⟨a, r, e, ⟨xs, kk, b, w2.ex _ _ g1, g2.up w2.ex, g3, w2.ex _ _ g4, g5⟩, k _ H2 F2 w2 p⟩
theorem go_lput (h : Wp o (tv σ) F fun v F1 => Wp o (td σ) F1 fun x F2 => Wp o (ty σ) F2 fun y F3 => ∃ a xs kk b, x = .ref a ∧ F3 a = some (LD Pg w a xs) ∧ LKeys F3 xs ∧ y = .ref b ∧ F3 b = some (.tup (kk.map lV)) ∧ xs.length < 100000 ∧ Go o tz D σ (upd F3 a (LD Pg w a (putX xs kk b v)))) :
    Go o (tSeq (sLPut Pg w td ty tv) tz) D σ F := fun H wd =>
  h H wd _ fun v H1 F1 w1 h1 => h1 H1 w1 _ fun x H2 F2 w2 h2 => h2 H2 w2 _ fun y H3 F3 w3 ⟨a, xs, kk, b, e1, g1, g2, e2, g3, l, g⟩ => ⟨a, _, e1, ⟨xs, kk, b, w3.ex _ _ g1, g2.up w3.ex, e2, w3.ex _ _ g3, sz1 l, rfl⟩, g _ (w3.mut g1)⟩
theorem wp_lnew (q : ∀ p, F p = none → P (.ref p) (upd F p (LD Pg w p []))) : Wp o (tLNew Pg w σ) F P := fun H wd Q k p hp => k _ _ _ (wd.new1 hp) (q p (wd.fr hp))
end
end Sr
/-! exceptions of own classes over an own base: made, raised, caught, asked -/
namespace Sr
open PySem PySem.Spec PyProof.Rows L2 SrX
/-- the base class, asked for its __init__ by name -/
structure TeC (K : PySem.W.Frag) (mg : Str → Option Value) (x : Str) (CT : Addr) : Prop where
  m : mg x = some (.ref CT)
  sp : PySem.W.specialIn K (.ref CT) "__getattribute__" = some (some (.builtin "type.__getattribute__"))
  rd : PySem.W.readsIn K CT (.type "type") = true
  fc : PySem.W.findCls K (.ref CT) (.type "type") "__init__" = some (.val (.builtin "ValueError.__init__"))
section
variable {X : Cx} {CT : Addr} {x : Str} {e : Expr} {es : List Expr} {ta : TA} {p1 p2 pos : Pos}
theorem pe_teinit {pl : Sem Bool} (T : TeC X.K X.mg x CT) (ha : PA X (e :: es) ta) (hg : Gl X x := by rfl) (hd : (x == ("__debug__" : Str)) = false := by decide)
    (hc : eval (.Call (.Attribute (.Name x p1) "__init__" p2) (e :: es) [] pos) X.env = (do
      let ov ← eval (.Name x p1) X.env
      standAt p2.atName
      let (f, first) ← holding [ov] (getMethod ov "__init__" pl)
      callWith pos f first (backTo pos (starEach (e :: es) X.env)) (backToKw pos (keywordEach [] X.env))) := by rfl)
    (he : starEach (e :: es) X.env = (false, eval e X.env) :: starEach es X.env := by rfl) (hpl : (backTo pos (starEach es X.env)).any (·.1) = false := by rfl) :
    PE X (.Call (.Attribute (.Name x p1) "__init__" p2) (e :: es) [] pos) (tVeI X.K ta) := by
  refine ⟨fun pins s σ H Q I h => ?_⟩
  refine PySem.W.methodCall_KW (ld_glob I hg T.m ?_ hd) hc
  refine PySem.W.method_cls I.kIn T.sp ?_
  refine PySem.W.cls_value I.kIn T.rd T.fc (by decide +kernel) ?_
  show wpAny _ _ (callWith pos (Value.builtin "ValueError.__init__") [] (backTo pos (starEach (e :: es) X.env)) []) _ _ _
  refine PyProof.Rows.callWith_method1 (thn (ha.run pos pins _ σ H _ (I.tok _) h) fun us s1 ⟨vs, H1, I1, r1, a, C, ws, ev, hl, T, ea, q⟩ => ?_) he hpl
  subst ev
  cases r1 with
  | @cons _ u0 _ ur ra rw' =>
    obtain rfl : u0 = Value.ref a := ra
    have hlen : ur.length ≤ sizeLine := by
      rw [← Paired.length rw', sizeLine_eq]
      omega
    exact oinit_ok T I1 ea hlen fun s' J => ⟨.non, H1, J, rfl, q⟩
/-- the end of C(e, ..), its context none -/
theorem mk_endN {pins : List (Addr × Obj)} {σ : L2.St} {H1 H2 : Hp} {Q : XK} {hp hp2 h2 : Heap} {g1 g2 : Array GenState} {d1 d2 : Drawn} {t1 t2 : Nat} {os1 os2 : OsState} {a C d : Addr} {fs : List (Str × V)} (T : Raises X (.ref C)) (I1 : L2.Inv X pins σ H1 ⟨hp, g1, d1, t1, os1⟩)
    (ha : hp.objs.size ≤ a) (k : ∀ b o, hp.get? b = some o → hp2.get? b = some o) (un : Un (frs X.stack) [] (upd H1 a (exo a C none)) H2 hp2 h2) (hok : HOk X.prog X.w H2 h2) (ho : os2 = os1) (hb : AllBare g2)
    (ea : H2 a = some (exo a C (some d))) (ed : H2 d = some (exd d fs)) (hd1 : H1 d = none) (q : Q (.ref C) (some d) (upd (del H2 a) d (.xd fs))) : L2N.MkP X pins σ Q (.ref a) ⟨h2, g2, d2, t2, os2⟩ := by
  obtain ⟨t0, G, J, kG, ge, hoe, na⟩ := mk_end0 (d2 := d2) (t2 := t2) I1 ha k un hok ho hb ea ed hd1
  exact ⟨a, _, _, ⟨G, g2, d2, t2, os2⟩, _, .ref C, some d, rfl, J, kG, ge, hoe, ⟨rfl, rfl, fun vs e => by cases e; rfl⟩, rfl, rfl, na, rfl, hb, T, q⟩
theorem pmk_oexN {CX : CXT} {C fI : Addr} {k : Nat} {fd : FuncData} {ps : List Str} {sp : Sp} {ds : List Value} {dvs : List V} {p : Pos} (T : OexC X.K C) (iC : PySem.W.findIn X.K (.ref C) "__init__" = some (some (.ref fI))) (tI : PySem.W.typeIn X.K (.ref fI) = some (.type "function"))
    (F1 : FnOk X.prog X.w X.K X.mg X.base CX k fI fd ps sp) (hr : Room (k + 1) X.A) (hb : Binds X.K fd ps ds) (hd : Vals dvs ds) (hx : Passes CX X (fun _ _ _ => False)) (hg : Gl X x) (hm : X.mg x = some (.ref C)) (ha : PA X (e :: es) ta)
    (hdb : (x == ("__debug__" : Str)) = false := by decide) (he : starEach (e :: es) X.env = (false, eval e X.env) :: starEach es X.env := by rfl) (hpl : (backTo pos (starEach es X.env)).any (·.1) = false := by rfl) :
    L2N.PMk X (.Call (.Name x p) (e :: es) [] pos) (tMkO C sp dvs ta) := by
  intro pins s σ H Q I h
  obtain ⟨nm, q, N, bs, bm, sn, sub, ab, col, dd, k0, k1, k2, k3, k5, hC, hbm⟩ := T.cls
  refine wpAny_Call_Name_kw (ld_glob I hg hm ?_ hdb)
  refine PySem.W.callWith_K (h₀ := X.base) I.ok.mod.kin T.kC (thn (ha.run pos pins s σ H _ I h) fun us s1 ⟨vs, H1, I1, r1, hz, q1⟩ => ⟨I1.kIn, ?_⟩) he hpl
  show wpAny _ _ (call (.ref C) us) _ _ _
  obtain ⟨hp, g, dr, tk, os⟩ := s1
  have hsz : hp.objs.size ≤ hp.objs.size + 1 := Nat.le_succ _
  have hn : H1 (hp.objs.size + 1) = none := I1.hok.fresh hsz
  have hq := q1 (hp.objs.size + 1) hn
  have kk : ∀ b o, hp.get? b = some o → ((hp.push (PySem.W.kdv_tup us)).push (PySem.HandSPX.excO C hp.objs.size)).get? b = some o := fun b o e => Heap.get?_push_of_some _ (Heap.get?_push_of_some _ e)
  have hget : ((hp.push (PySem.W.kdv_tup us)).push (PySem.HandSPX.excO C hp.objs.size)).get? (hp.objs.size + 1) = some (PySem.HandSPX.excO C hp.objs.size) := by heap_get
  have I2 : L2.Inv X pins σ (upd H1 (hp.objs.size + 1) (exo (hp.objs.size + 1) C none)) ⟨(hp.push (PySem.W.kdv_tup us)).push (PySem.HandSPX.excO C hp.objs.size), g, dr, tk, os⟩ :=
    I1.laid (t' := tk) (a := hp.objs.size + 1) (o := exo (hp.objs.size + 1) C none) (h' := (hp.push (PySem.W.kdv_tup us)).push (PySem.HandSPX.excO C hp.objs.size)) kk hsz (exo_ok hget)
  have r2 : Vals (V.ref (hp.objs.size + 1) :: (vs ++ dvs)) (Value.ref (hp.objs.size + 1) :: (us ++ ds)) := .cons rfl (r1.append hd)
  have hl : (Value.ref (hp.objs.size + 1) :: us ++ ds).length = ps.length := by
    have e := r2.length
    rw [F1.len _ _ _ _ hq] at e
    exact e.symm
  have hus : us.length ≤ sizeLine := by
    rw [← Paired.length r1, sizeLine_eq]
    omega
  refine wpAny_call (PySem.HandSPX.call_own F.excBase_ValueError (fun Y => PySem.HandSPX.refsVE_contains Y bm hbm) (I1.kIn _ _ hC) (PySem.W.looks_findIn I1.kIn iC) (fun self => PySem.W.bind_fn I1.kIn self tI) hus
    (codeAny_mono (F1.run _ X.stack _ _ ⟨Value.ref (hp.objs.size + 1) :: us, []⟩ (Value.ref (hp.objs.size + 1) :: (us ++ ds)) _ _ (fun _ _ _ => False) (hr.make C us []) (I2.env0.make C us []) (hb _ (Value.ref (hp.objs.size + 1) :: us) I2.kIn hl) r2 hq) fun r s' hq' => ?_))
  cases r with
  | error er => exact hx pins σ _ _ er s' I2 hq'
  | ok fl =>
    cases fl with
    | ret u =>
      obtain ⟨v, H2, os2, bare2, un2, hok2, rv, ev, d, fs, ea, ed, hd1, q2⟩ := hq'
      subst ev
      obtain ⟨h2, g2, d2, t2, os'⟩ := s'
      exact ⟨rv, mk_endN (raises_own T.exC T.tyC) I1 hsz kk un2 hok2 os2 bare2 ea ed hd1 q2⟩
    | next => exact False.elim hq'
    | brk => exact False.elim hq'
    | cont => exact False.elim hq'
end
/-! ### promises of defs that may raise -/
section
variable {P : Program} {w : World} {K : PySem.W.Frag} {mg : Str → Option Value} {base : Heap}
theorem okXN {x qual : Str} {st : Stmt} {f : Addr} {fd : FuncData} {N ps : List Str} {k : Nat} {sp : Sp} (F : Fun K x qual st f fd) (S : FnScope N ps (defScope st)) (len : ∀ vs H Q E, sp vs H Q E → vs.length = ps.length)
    (hbody : ∀ (cdv : Value) (A : Around) (outer : List Env) (s : Shared) (H : Hp) (vs : List V) (Q : VK) (E : XK), Room k (A.deeper (envOfC qual (defScope st) s.heap.objs.size f cdv)) → sp vs H Q E →
      ∃ t, PSs (cxOf (L2N.CX P w) P w K mg base N qual (defScope st) f cdv A outer s H E) (defBody st) t ∧ t { nx := fun _ H' => Q .non H', rt := Q } (start N vs) H) : FnOk P w K mg base (L2N.CX P w) (k + 1) f fd ps sp := by
  obtain ⟨oc, od, kV, doc, pm, an, cdv, ct, osl, rfl, lk, hcd⟩ := F.ex
  exact fn_of lk hcd S len fun A outer s H vs Q E hr hsp => hbody cdv A outer s H vs Q E hr hsp
theorem passLN {X : Cx} : Passes (L2N.CX X.prog X.w) X E0 := fun _ _ _ _ _ _ _ h => by
  obtain ⟨_, _, _, _, _, _, _, _, _, _, _, _, z⟩ := h
  exact z.elim
theorem takes0N {X : Cx} : L2N.Takes X (fun _ _ _ _ => False) := fun _ _ x => by
  obtain ⟨_, _, _, _, _, _, _, _, _, _, _, _, _, _, _, _, z⟩ := x
  exact z.elim
end
/-! ### C(v): raised -/
/-- what C's __init__ does -/
def spI (C : Addr) (f : Str) : Sp := fun vs H Q _ => ∃ (a : Addr) (v : V), vs = [.ref a, v] ∧ H a = some (exo a C none) ∧ ∀ d, H d = none → d ≠ a → Q .non (upd (upd H d (exd d [(f, v)])) a (exo a C (some d)))
/-- the class x at C, its field f -/
def Rz (P : Program) (w : World) (K : PySem.W.Frag) (mg : Str → Option Value) (base : Heap) (x : Str) (C : Addr) (f : Str) : Prop :=
  OexC K C ∧ mg x = some (.ref C) ∧ ∃ fI fd, PySem.W.findIn K (.ref C) "__init__" = some (some (.ref fI)) ∧ PySem.W.typeIn K (.ref fI) = some (.type "function") ∧ FnOk P w K mg base CX0 1 fI fd ["self", f] (spI C f) ∧ Binds K fd ["self", f] []
def tRz (C : Addr) (f : Str) (W : WX) (ta : TA) : TS := fun _ σ H => tMkO C (spI C f) [] ta σ H fun cls d H' => W cls d σ H'
theorem ps_rz {X : Cx} {W : WX} {x f : Str} {C : Addr} {e : Expr} {ta : TA} {p pos pos' : Pos} (G : Rz X.prog X.w X.K X.mg X.base x C f) (hc : X.calm = true) (hr : Room 2 X.A) (tk : L2N.Takes X W) (ha : PA X [e] ta) (hg : Gl X x := by rfl)
    (hdb : (x == ("__debug__" : Str)) = false := by decide) (he : starEach [e] X.env = (false, eval e X.env) :: starEach [] X.env := by rfl) (hpl : (backTo pos (starEach [] X.env)).any (·.1) = false := by rfl) :
    PS X (.Raise (some (.Call (.Name x p) [e] [] pos)) none pos') (tRz C f W ta) := by
  obtain ⟨T, hm, fI, fd, iC, tI, F1, hb⟩ := G
  exact L2N.ps_raise (pos := pos') hc tk (pmk_oexN (p := p) (pos := pos) (e := e) (es := []) (ds := []) (dvs := []) T iC tI F1 hr hb .nil pass0 hg hm ha hdb he hpl)
theorem ex_xd {H1 : Hp} {a d : Addr} {u0 u1 u2 u3 : HO} (ha : H1 a = none) (hd : H1 d = none) : Ex H1 (upd (del (upd (upd (upd H1 a u0) d u1) a u2) a) d u3) := fun b o e => by
  have nb : b ≠ a := ne_of_none e ha
  have nd : b ≠ d := ne_of_none e hd
  rw [upd_ne nd, del_ne nb, upd_ne nb, upd_ne nd, upd_ne nb]
  exact e
theorem go_rz {o : Option Addr} {F : Hp} {σ : L2.St} {D : Ends} {C : Addr} {f : Str} {W : WX} {ta : TA} {tz : TS} (h : Wp o (ta σ) F fun vs F1 => ∃ v, vs = [v] ∧ ∀ H, Wd o F1 H → ∀ d H2, H d = none → Ex H H2 → H2 d = some (.xd [(f, v)]) → W (.ref C) (some d) σ H2) :
    Go o (tSeq (tRz C f W ta) tz) D σ F := fun H w => h H w _ fun vs H1 F1 w1 ⟨v, e, k⟩ => by
  subst e
  refine ⟨by show 1 ≤ 1000; decide, fun a ha => ⟨a, v, rfl, upd_same, fun d hd hda => ⟨rfl, d, [(f, v)], upd_same, ?_, ?_, ?_⟩⟩⟩
  · rw [upd_ne hda, upd_same]
  · rw [upd_ne hda] at hd
    exact hd
  · rw [upd_ne hda] at hd
    exact k H1 w1 d _ hd (ex_xd ha hd) upd_same
/-! ### isinstance of the caught one, its own dict there or not -/
/-- what the class says -/
structure XcC (K : PySem.W.Frag) (D : Addr) : Prop where
  hg : PySem.W.findIn K (.ref D) "__getattribute__" = some (some (.builtin "BaseException.__getattribute__"))
  hk : PySem.W.findIn K (.ref D) "__getattr__" = some none
  hs : PySem.W.subIn K (.ref D) (.type "BaseException") = some true
  hd : PySem.W.hasDictIn K D = true
  ha : PySem.W.findIn K (.ref D) "__class__" = some (some (.builtin "object.__class__"))
  hn : PySem.W.specialIn K (.builtin "object.__class__") "__get__" = some (some (.builtin "getset_descriptor.__get__"))
  ht : PySem.W.takesIn K (.builtin "object.__class__") = some true
  hm : PySem.W.mroIn K D (.type "object") = some true
def rIsX (K : PySem.W.Frag) (a : Addr) (cls : Value) (d : Option Addr) : List V → Hp → VK → Prop := fun xs H Q => ∃ (D : Addr) (c : V) (cv : Value) (b : Bool), cls = .ref D ∧ XcC K D ∧ xs = [.ref a, c] ∧ (∀ u, RelV c u → u = cv) ∧ PySem.W.kitOne K (.ref D) cv = some b ∧ (∀ dd, d = some dd → ∃ fs, H dd = some (.xd fs)) ∧ Q (.bl b) H
theorem call_isX {X : Cx} {a : Addr} {cls : Value} {d : Option Addr} {oe : Obj} {pn : List (Addr × Obj)} (hz : Zc cls d oe) (hf : ∃ vs, oe.data = .fields vs) : CallR (X.suite a ((a, oe) :: pn)) (.builtin "isinstance") (rIsX X.K a cls d) := by
  intro pins s σ H xs us Q I r h
  obtain ⟨D, c, cv, b, ed, C, rfl, hcv, e, hdd, q⟩ := h
  subst ed
  cases r with
  | cons rx rr =>
    cases rr with
    | cons rt rr =>
      cases rr
      cases rx
      have ec := hcv _ rt
      subst ec
      obtain ⟨hget, _⟩ := I.pin (a, oe) (List.mem_append.mpr (.inl List.mem_cons_self))
      obtain ⟨vs, hv⟩ := hf
      obtain ⟨od, J⟩ : ∃ od, PySem.W.InstAt s.heap a oe D od := by
        cases d with
        | none => exact ⟨none, hget, hz.1, by unfold PySem.W.notCls; rw [hv] <;> rfl, by rw [hz.2]; exact trivial⟩
        | some dd =>
          obtain ⟨fs, ea⟩ := hdd dd rfl
          have hx : ObjOk X.prog X.w H s.heap dd (.xd fs) := I.hok dd _ ea
          obtain ⟨mA, hns, hr⟩ := hx
          obtain ⟨od, ho, hl⟩ := lookIn_ns hns
          exact ⟨some od, hget, hz.1, by unfold PySem.W.notCls; rw [hv] <;> rfl, by rw [hz.2]; exact ho⟩
      have hcl : (PySem.W.clsIn X.K D).isSome = true := by
        have := C.hd
        unfold PySem.W.hasDictIn at this
        cases q : PySem.W.clsIn X.K D with
        | none => rw [q] at this; cases this
        | some _ => rfl
      exact PySem.W.kia_one (PySem.W.kitx_exc hcl C.hg C.hk C.hs C.ha C.hn C.ht C.hm) I.kIn J e (fun z => nomatch z) fun tk => ⟨.bl b, H, I.kept (t' := tk) fun _ _ z => z, rfl, q⟩
/-! ### the rules with the written part by name -/
section
variable {X : Cx} (K : PySem.W.Frag) (hK : X.K = K)
include hK
theorem pe_teinitK {CT : Addr} {x : Str} {e : Expr} {es : List Expr} {ta : TA} {p1 p2 pos : Pos} {pl : Sem Bool} (T : TeC K X.mg x CT) (ha : PA X (e :: es) ta) (hg : Gl X x := by rfl) (hd : (x == ("__debug__" : Str)) = false := by decide)
    (hc : eval (.Call (.Attribute (.Name x p1) "__init__" p2) (e :: es) [] pos) X.env = (do
      let ov ← eval (.Name x p1) X.env
      standAt p2.atName
      let (f, first) ← holding [ov] (getMethod ov "__init__" pl)
      callWith pos f first (backTo pos (starEach (e :: es) X.env)) (backToKw pos (keywordEach [] X.env))) := by rfl)
    (he : starEach (e :: es) X.env = (false, eval e X.env) :: starEach es X.env := by rfl) (hpl : (backTo pos (starEach es X.env)).any (·.1) = false := by rfl) :
    PE X (.Call (.Attribute (.Name x p1) "__init__" p2) (e :: es) [] pos) (tVeI K ta) := by
  subst hK
  exact pe_teinit T ha hg hd hc he hpl
theorem ps_ostK {o e : Expr} {to te : TE} {f : Str} {p' pos : Pos} (ho : PE X o to) (he : PE X e te) (hs : swapsWith e (some (.Attribute o f p')) pos.line X.env = pure false := by rfl) : PS X (.Assign [.Attribute o f p'] e pos) (tOst K f to te) := by
  subst hK
  exact ps_ost ho he hs
theorem isXK {a : Addr} {cls : Value} {d : Option Addr} {oe : Obj} {pn : List (Addr × Obj)} (hz : Zc cls d oe) (hf : ∃ vs, oe.data = .fields vs) : CallR (X.suite a ((a, oe) :: pn)) (.builtin "isinstance") (rIsX K a cls d) := by
  subst hK
  exact call_isX hz hf
theorem pe_xfK {a C : Addr} {oe : Obj} {cls : Value} {d : Option Addr} {pn : List (Addr × Obj)} {e : Expr} {te : TE} {pos : Pos} {n : Str} (T : XfC K C) (hno : PySem.W.findIn K (.ref C) n = some none)
    (hz : Zc cls d oe) (hf : ∃ vs, oe.data = .fields vs) (he : PE (X.suite a ((a, oe) :: pn)) e te) (hb : attributeBase e n X.env (eval e X.env) = eval e X.env := by rfl) :
    PE (X.suite a ((a, oe) :: pn)) (.Attribute e n pos) (tXf a cls d C n te) := by
  subst hK
  exact pe_xf T hno hz hf he hb
end
section
variable {X : Cx}
theorem pe_clsG {x : Str} {C : Addr} {pos : Pos} (h : X.mg x = some (.ref C)) (hg : Gl X x := by rfl) (hd : (x == ("__debug__" : Str)) = false := by decide) : PE X (.Name x pos) (tC (.ref C)) := pe_glob hg h rfl hd
theorem pe_pmS {k : Nat} {x : Str} {ps : List Str} {sp : Sp} {W : WX} {e : Expr} {es : List Expr} {t : TA} {p pos : Pos} (G : Pm X.prog X.w X.K X.mg X.base (L2N.CX X.prog X.w) k x ps sp) (hr : Room k X.A) (tk : L2N.Takes X W) (ha : PA X (e :: es) t) (hg : Gl X x := by rfl)
    (hd : (x == ("__debug__" : Str)) = false := by decide) (he : starEach (e :: es) X.env = (false, eval e X.env) :: starEach es X.env := by rfl) (hpl : (backTo pos (starEach es X.env)).any (·.1) = false := by rfl) :
    PE X (.Call (.Name x p) (e :: es) [] pos) (tCallS sp (WE W) t) := by
  obtain ⟨f, fd, F, hm, hk, hb⟩ := G
  exact pe_callS F hr hg hm hk hb (L2N.passAt tk) ha hd he hpl
end
section
variable {o : Option Addr} {F : Hp} {σ : L2.St} {D : Ends} {K : PySem.W.Frag} {P : V → Hp → Prop} {te : TE} {tz : TS} {ta : TA}
theorem wp_callS {sp : Sp} {E : L2.St → XK} (h : Wp o (ta σ) F fun vs F1 => Wp o (fun H Q => sp vs H Q (E σ)) F1 P) : Wp o (tCallS sp E ta σ) F P := fun H w Q k =>
  h H w _ fun vs H1 F1 w1 h1 => h1 H1 w1 Q k
theorem go_try {c : Value} {i : Nat} {ts : Addr → Value → Option Addr → TS} {tb : WX → TS} {Wout : WX} (h : Go o (tb (wAs K c i ts Wout { D with nx := tz D })) { D with nx := tz D } σ F) :
    Go o (tSeq (fun D σ H => tb (wAs K c i ts Wout D) D σ H) tz) D σ F := h
/-- the caught one: into the suite -/
theorem go_was {c : Value} {i : Nat} {ts : Addr → Value → Option Addr → TS} {Wout : WX} {D1 : Ends} {cls : Value} {d : Addr} {f : Str} {v : V} {H2 : Hp} (w : Wd o F H2) (hx : H2 d = some (.xd [(f, v)])) (n : F d = none) (no : ∀ b, o = some b → b ≠ d) (e : PySem.W.exmOne K cls c = some true)
    (h : ∀ a, Go o (ts a cls (some d)) { nx := fun σ' H' => D1.nx (σ'.set i none) H', rt := D1.rt, bk := fun σ' H' => D1.bk (σ'.set i none) H', ct := fun σ' H' => D1.ct (σ'.set i none) H' } (σ.set i (some (.ref a))) (upd F d (.xd [(f, v)]))) :
    wAs K c i ts Wout D1 cls (some d) σ H2 := ⟨true, e, fun _ a ha => h a H2 ⟨fun b u q => by
      by_cases hb : b = d
      · subst hb; rw [upd_same] at q; rw [← q]; exact hx
      · rw [upd_ne hb] at q; exact w.ex _ _ q, fun b hb => ⟨by rw [upd_ne (no b hb)]; exact (w.dc b hb).1, (w.dc b hb).2⟩⟩, fun z => nomatch z⟩
theorem wp_isX {a D : Addr} {cls : Value} {dd : Addr} {fs : List (Str × V)} {c : V} {cv : Value} {b : Bool} (e : cls = .ref D) (C : XcC K D) (hcv : ∀ u, RelV c u → u = cv) (hk : PySem.W.kitOne K (.ref D) cv = some b) (hx : F dd = some (.xd fs)) (q : P (.bl b) F) :
    Wp o (rIsX K a cls (some dd) [.ref a, c]) F P := fun H w Q k => ⟨D, c, cv, b, e, C, rfl, hcv, hk, fun z hz => by cases hz; exact ⟨fs, w.ex _ _ hx⟩, k _ H F w q⟩
theorem wp_xf {a C : Addr} {cls : Value} {dd : Addr} {f : Str} {fs : List (Str × V)} {v : V} (h : Wp o (te σ) F fun x F1 => x = .ref a ∧ cls = .ref C ∧ F1 dd = some (.xd fs) ∧ fs.lookup f = some v ∧ P v F1) : Wp o (tXf a cls (some dd) C f te σ) F P := fun H w Q k =>
  h H w _ fun x H1 F1 w1 ⟨e1, e2, hx, hl, q⟩ => ⟨e1, e2, dd, fs, v, rfl, w1.ex _ _ hx, hl, k _ H1 F1 w1 q⟩
theorem wp_teI {a C : Addr} {ws : List V} (h : Wp o (ta σ) F fun vs F1 => vs = .ref a :: ws ∧ ws.length ≤ 1000 ∧ OexC K C ∧ F1 a = some (exo a C none) ∧ P .non F1) : Wp o (tVeI K ta σ) F P := fun H w Q k =>
  h H w _ fun vs H1 F1 w1 ⟨e, hl, T, hx, q⟩ => ⟨a, C, ws, e, hl, T, w1.ex _ _ hx, k _ H1 F1 w1 q⟩
theorem go_ost {f : Str} {to : TE} {a C : Addr} (h : Wp o (te σ) F fun y F1 => Wp o (to σ) F1 fun x F2 => x = .ref a ∧ OexC K C ∧ PySem.W.findIn K (.ref C) f = some none ∧ ∀ H, Wd o F2 H → H a = some (exo a C none) ∧ ∀ dx, H dx = none → dx ≠ a → tz D σ (upd (upd H dx (exd dx [(f, y)])) a (exo a C (some dx)))) :
    Go o (tSeq (tOst K f to te) tz) D σ F := fun H w => h H w _ fun y H1 F1 w1 h1 => h1 H1 w1 _ fun x H2 F2 w2 ⟨e, T, hno, k⟩ => ⟨a, C, e, T, hno, .inl (k H2 w2)⟩
end
end Sr
/-! a text once or not at all -/
namespace Sr
open PySem PySem.Spec PyProof.Rows L2 SrX
def rMulS : R2 := fun x y H Q => ∃ (i : Str) (n : Int), x = .str i ∧ y = .int n ∧ (n = 0 ∨ n = 1) ∧ Q (.str (if n = 1 then i else tx [])) H
theorem op_mulS {X : Cx} : OpR X (binaryOp .Mult) rMulS := by
  intro pins s σ H x y v u Q I rx ry h
  obtain ⟨i, n, rfl, rfl, hn, q⟩ := h
  obtain ⟨t, rfl⟩ := rx
  obtain ⟨t', rfl⟩ := ry
  refine PySem.SB.mul (n := n) ?_ fun t2 k => ?_
  · rcases hn with rfl | rfl
    · exact ⟨by decide, fun z => absurd (by decide) z, fun z => absurd (by decide) z⟩
    · exact ⟨by decide, fun _ z => by simp at z, fun _ z => by simp at z⟩
  · refine ⟨.str (if n = 1 then i else tx []), H, I.tok _, ⟨t2, ?_⟩, q⟩
    rcases hn with rfl | rfl
    · rfl
    · show Value.str (if (1 : Int) < 1 then Str.empty else if ((1 : Int) == 1 || i.length == 0) = true then i else _) t2 = _
      rw [if_neg (by decide), if_pos (by simp)]
      rfl
theorem wp_mulS {o : Option Addr} {F : Hp} {Pq : V → Hp → Prop} {l : List Nat} {n : Int} (h : n = 0 ∨ n = 1) (q : Pq (.str (tx (if n = 1 then l else []))) F) : Wp o (rMulS (.str (tx l)) (.int n)) F Pq := fun H w Q k =>
  ⟨tx l, n, rfl, rfl, h, by
    have e : (if n = 1 then tx l else tx []) = tx (if n = 1 then l else []) := by split <;> rfl
    rw [e]
    exact k _ H F w q⟩
end Sr
/-! a comprehension over a list while an exception is handled -/
namespace Sr
open PySem PySem.Spec PyProof.Rows L2 SrX HotX
section
variable {prog : Program} {w : World} {A : Around} {E : Value → Shared → Prop} {s : Shared}
theorem pyNext_list_end_hot {it l x1 : Addr} {i : Nat} {items} {Q : Option Value → Shared → Prop} (hot : HotAt A x1 s.heap) (hne : x1 ≠ it)
    (hit : s.heap.IsListIter it l i) (hl : s.heap.IsList l items) (hx : items[i]? = none)
    (hQ : ∀ h', (∀ b o, b ≠ it → s.heap.get? b = some o → h'.get? b = some o) → Q none { s with heap := h' }) : wpAny (model prog w) A (pyNext (.ref it)) Q E s := by
  obtain ⟨o, ho, hc, hd⟩ := id hit
  obtain ⟨ol, hol, _, nl, hdl⟩ := hl
  obtain ⟨hh, o1, vs1, h1, d1, c1⟩ := hot
  unfold pyNext
  refine wpAny_bind (wpAny_attempt (wpAny_callSpecial?_slot (name := Str.ofString "__next__") hit.typeIs slot_listiter_next
    (wpAny_call_entry slot_listiter_next hit.typeIs entry_listiter_next ?_ (args_listiter_next _))))
  show wpAny _ _ (field (.ref it) 0 >>= _) _ _ s
  refine wpAny_bind (wpAny_field ho hd (x := .ref l) rfl ?_)
  show wpAny _ _ (if (Value.ref l == Value.none) = true then _ else _) _ _ s
  rw [if_neg (show ¬ ((Value.ref l == Value.none) = true) from Bool.false_ne_true)]
  show wpAny _ _ (field (.ref it) 1 >>= _) _ _ s
  refine wpAny_bind (wpAny_field ho hd (x := .int i 0) rfl ?_)
  show wpAny _ _ (seqItems? (.ref l) >>= _) _ _ s
  refine wpAny_bind (wpAny_seqItems hol hdl ?_)
  simp only [Int.toNat_natCast, hx]
  refine wpAny_bind (wpAny_rule (wpAny_bind (wpAny_setField ho hd (by simp) ?_)))
  show wpAny _ _ (newExc (.type "StopIteration") [] >>= _) _ _ _
  refine wpAny_bind ?_
  simp only [newExc, newTuple]
  refine wpAny_bind (wpAny_newObj_type ?_ (by size_fits))
  refine wpAny_bind (m := firstArgMember _ _) (wpAny_of_eq (a := Value.none) (by first | rfl | (simp only [firstArgMember]; rfl)) ?_)
  refine wpAny_newObj_type ?_ (by size_fits)
  have hk : ∀ b u, b ≠ it → s.heap.get? b = some u → (s.heap.update it (Obj.mapFields (·.setIfInBounds 0 .none))).get? b = some u := fun b u n e => by
    rw [Heap.get?_update_other _ _ (Ne.symm n)]
    exact e
  refine raiseNew_hot ⟨hh, o1, vs1, Heap.get?_push_of_some _ (Heap.get?_push_of_some _ (hk _ _ hne h1)), d1, c1⟩ (Nat.ne_of_lt (Heap.lt_size (Heap.get?_push_of_some _ (hk _ _ hne h1)))) (Heap.get?_push_size _ rfl) rfl (by first | (simp; done) | (simp; omega) | (simp only [Array.size_append]; simp; omega)) ?_
  refine wpAny_bind (wpAny_isInstance (T := "StopIteration") (b := true) ⟨_, Heap.get?_update_self _ (Heap.get?_push_size _ rfl) rfl, rfl⟩ isSubtype_stop ?_)
  refine wpAny_pure (hQ _ fun b o n e => ?_)
  rw [Heap.get?_update_other _ _ (Nat.ne_of_gt (Heap.lt_size (Heap.get?_push_of_some _ (hk _ _ n e))))]
  exact Heap.get?_push_of_some _ (Heap.get?_push_of_some _ (hk _ _ n e))
end
/-! ### the list's turns, one exception being handled -/
open L2H in
/-- what a turn keeps and gives, the handled exception at x1 out of the way -/
structure TurnQ (P : Program) (w : World) (K : PySem.W.Frag) (tg : Expr) (J : It) (fp : List Addr) (it : Addr) (tn : Nat → Heap → Prop) : Prop where
  obj : ∀ i h, tn i h → ∀ b ∈ fp, ∃ o, h.get? b = some o ∧ ∀ v, o.data ≠ .cell v
  keep : ∀ i h h', tn i h → (∀ b ∈ fp, ∀ o, h.get? b = some o → h'.get? b = some o) → tn i h'
  item : ∀ (X : Cx), X.prog = P → X.w = w → X.K = K → ∀ (i : Nat) (pins : List (Addr × Obj)) (s : Shared) (σ : L2.St) (H : Hp) (E : Value → Shared → Prop), Inv X pins σ H s → (∀ b ∈ fp, FpOk X pins H b) → tn i s.heap → J.go i H →
    wpAny (model P w) X.A (pyNext (.ref it)) (fun r s1 => ∃ u, r = some u ∧
      wpAny (model P w) X.A (letOwnedTupleGo tg (.ref it) u) (fun _ s2 => ∃ x H', Inv X pins σ H' s2 ∧ RelV x u ∧ J.yld i H x H' ∧ tn (i + 1) s2.heap ∧ ∀ b ∈ fp, H' b = none) E s1) E s
  done : ∀ (X : Cx), X.prog = P → X.w = w → X.K = K → ∀ (i : Nat) (pins : List (Addr × Obj)) (s : Shared) (σ : L2.St) (H : Hp) (E : Value → Shared → Prop), (∃ x1, HotAt X.A x1 s.heap ∧ x1 ∉ fp) → Inv X pins σ H s → (∀ b ∈ fp, FpOk X pins H b) → tn i s.heap → J.stop i H →
    wpAny (model P w) X.A (pyNext (.ref it)) (fun r s1 => r = none ∧ Inv X pins σ H s1) E s
  self : ∀ (A : Around) (i : Nat) (s : Shared) (Q : Value → Shared → Prop) (E : Value → Shared → Prop), tn i s.heap → Q (.ref it) s → wpAny (model P w) A (pyIter (.ref it)) Q E s
theorem turn_listQ {P : Program} {w : World} {K : PySem.W.Frag} {tg : Expr} (a it : Addr) : TurnQ P w K tg (Itl K a) [it] it (fun i h => h.IsListIter it a i) where
  obj := fun i h st b hb => by
    have e : b = it := by simpa using hb
    subst e
    obtain ⟨o, e, c, d⟩ := st
    exact ⟨o, e, fun v z => by rw [d] at z; cases z⟩
  keep := fun i h h' st k => st.at fun o e => k it (by simp) o e
  item := by
    intro X hP hw hK i pins s σ H E I hf st hg
    subst hP hw hK
    obtain ⟨xs, x, hq, hx⟩ := hg
    obtain ⟨its, rv, p, hz⟩ := I.list hq
    obtain ⟨u, hu, ru⟩ := rv.get hx
    obtain ⟨f0, f1, f2, f3, f4, f5⟩ := hf it (by simp)
    refine wpAny_pyNext_list_item st p.isList (x := u) (by simpa using hu) fun h' st' sb => ?_
    have I1 : Inv X pins σ H { s with heap := h' } := I.turned (t' := s.toks) (fun b o hb e => (sb.2 b hb).trans e) f0 f1 f3 f4 f5
    obtain ⟨o, e, c, d⟩ := id st'
    exact ⟨u, rfl, L2.go_of (s := { s with heap := h' }) e c d (by decide) ⟨x, H, I1, ru, ⟨rfl, fun ys hy => by rw [I.list_inj hy hq]; exact hx⟩, st', fun b hb => (hf b hb).1⟩⟩
  done := by
    intro X hP hw hK i pins s σ H E hot I hf st hg
    subst hP hw hK
    obtain ⟨xs, hq, hx⟩ := hg
    obtain ⟨its, rv, p, hz⟩ := I.list hq
    obtain ⟨f0, f1, f2, f3, f4, f5⟩ := hf it (by simp)
    obtain ⟨x1, hot, hne⟩ := hot
    have hl := rv.length
    exact pyNext_list_end_hot hot (by simpa using hne) st p.isList (by simp; omega) fun h' eb => ⟨rfl, I.turned (t' := s.toks) (fun b o hb e => eb b o hb e) f0 f1 f3 f4 f5⟩
  self := fun _ _ _ _ _ st h => wpAny_pyIter_listiter st h
section
variable {X : Cx}
theorem lc_coreH {pins : List (Addr × Obj)} {s : Shared} {σ : L2.St} {H : Hp} {Q : VK} {elt tg iter : Expr} {ifs : List Expr} {scope : Scope} {own : List (Str × Nat)} {pos pos' : Pos} {tl : TE} {g : TG} {tt : TT} {te : TE} {use : Option (Value → Sem Unit)} {Qf : Value → Shared → Prop}
    (hc : L2H.HotC X) (hN : X.N.Nodup) (I : Inv X pins σ H s) (hi : PE X iter tl) (ok : BlkOk X.N X.env.scope scope own)
    (hg : ∀ (s : Shared) (H : Hp) (C : Addr) (cl : List (Str × Addr)) (fp : List Addr), PG (X.blk s H scope (compEnvC scope cl C X.env) fp) tg g) (ht : ∀ (s : Shared) (H : Hp) (C : Addr) (cl : List (Str × Addr)) (fp : List Addr), PTs (X.blk s H scope (compEnvC scope cl C X.env) fp) ifs tt)
    (he : ∀ (s : Shared) (H : Hp) (C : Addr) (cl : List (Str × Addr)) (fp : List Addr), PE (X.blk s H scope (compEnvC scope cl C X.env) fp) elt te) (hs : ∀ x, foldedSetIterable iter X.env x = pure x)
    (h : tLc (iList X.K tl) g tt te (own.map (·.2)) σ H Q)
    (hRR : ∀ D C s' m H', Inv X pins σ H' s' → Q (.ref D) H' → s'.heap.Ns C m → FpOk X pins H' C → compPost (model X.prog X.w) X.A X.xe use Qf (.ref D) C (.ok .next) s') :
    wpAny (model X.prog X.w) X.A (comprehension (.ListComp elt [⟨tg, iter, ifs, 0⟩] scope pos) scope X.env pos' (newList []) false (eval iter X.env) use) Qf X.xe s := by
  have hfree : ∀ y ∈ scope.names, y.2 = .free → ∃ c, X.env.cells.lookup y.1 = some c := fun y hy e => by
    rcases ok.free y hy e with k | k
    · exact I.ok.has _ (.inl k)
    · exact I.ok.has _ (.inr k)
  refine wpAny_comprehension_free (use := use) rfl hs (closure_ok hfree) ok.kind (fun y hy e => by rw [ok.uniq y hy, e])
    (thn (hi.run pins s σ H _ I h) fun xv s1 ⟨x, H1, I1, r1, q1⟩ => ?_)
  obtain ⟨a, ex, ⟨xs, hq⟩, q⟩ := q1
  subst ex
  cases r1
  obtain ⟨its, rv, pL, hz⟩ := I1.list hq
  refine wpAny_pyIter_list pL.isList ?_
  generalize hs2 : ({ s1 with heap := s1.heap.push _ } : Shared) = s2
  have I2 : Inv X pins σ H1 s2 := by
    rw [← hs2]
    exact I1.kept (t' := s1.toks) fun b o e => Heap.get?_push_of_some _ e
  generalize hit : s1.heap.objs.size = it
  have st2 : s2.heap.IsListIter it a 0 := by
    rw [← hs2, ← hit]
    exact ⟨_, Heap.get?_push_size _ rfl, rfl, rfl⟩
  have fIt : FpOk X pins H1 it := by
    rw [← hit]
    exact I1.fpOk (Nat.le_refl _) (I1.hok.fresh (Nat.le_refl _))
  have f2 : ∀ b ∈ [it], FpOk X pins H1 b := fun b hb => by
    have e : b = it := by simpa using hb
    subst e
    exact fIt
  generalize hfp : [it] = fp at f2
  have T : TurnQ X.prog X.w X.K tg (Itl X.K a) fp it (fun i h => h.IsListIter it a i) := by
    rw [← hfp]
    exact turn_listQ a it
  generalize htn : (fun (i : Nat) (h : Heap) => h.IsListIter it a i) = tn at T
  have st2 : tn 0 s2.heap := by rw [← htn]; exact st2
  refine wpAny_newObj_type (newEnv_comp ?_) (by show 0 ≤ sizeLine; decide)
  generalize hD : s2.heap.objs.size = D
  have hDn : H1 D = none := I2.hok.fresh (Nat.le_of_eq hD)
  obtain ⟨W, ⟨m0, w0⟩, turn⟩ := q D hDn
  generalize hs3 : ({ s2 with heap := s2.heap.push { cls := .type "list", data := .seq ([] : List Value).toArray } } : Shared) = s3
  have I3 : Inv X pins σ (upd H1 D (.lst [])) s3 := by
    rw [← hs3]
    refine I2.laid (t' := s2.toks) (fun b o e => Heap.get?_push_of_some _ e) (Nat.le_of_eq hD) ⟨Nat.zero_le _, [], 0, .nil, ?_⟩
    rw [← hD]
    exact Heap.get?_push_size _ rfl
  have h3 : s3.heap = s2.heap.push { cls := .type "list", data := .seq ([] : List Value).toArray } := by rw [← hs3]
  have sz : ∀ b ∈ fp, b < s2.heap.objs.size := fun b hb => by
    obtain ⟨o, e, _⟩ := T.obj _ _ st2 b hb
    exact Heap.lt_size e
  have f3 : ∀ b ∈ fp, FpOk X pins (upd H1 D (.lst [])) b ∧ b < s3.heap.objs.size := fun b hb => by
    have hlt := sz b hb
    refine ⟨⟨?_, (f2 b hb).2⟩, by rw [h3, Heap.size_push]; exact Nat.lt_succ_of_lt hlt⟩
    rw [upd_ne (by rw [← hD]; exact Nat.ne_of_lt hlt)]
    exact (f2 b hb).1
  have st3 : tn 0 s3.heap := T.keep _ _ _ st2 fun b _ o e => by rw [h3]; exact Heap.get?_push_of_some _ e
  have I4 := block_start I3 ok hN f3
  have pg := hg s3 (upd H1 D (.lst [])) s3.heap.objs.size (cellsFrom (s3.heap.objs.size + 1) scope.names (cloFrom X.env.cells scope.names [])) fp
  have pt := ht s3 (upd H1 D (.lst [])) s3.heap.objs.size (cellsFrom (s3.heap.objs.size + 1) scope.names (cloFrom X.env.cells scope.names [])) fp
  have pe := he s3 (upd H1 D (.lst [])) s3.heap.objs.size (cellsFrom (s3.heap.objs.size + 1) scope.names (cloFrom X.env.cells scope.names [])) fp
  show codeAny _ _ (.compStart (.ListComp elt [⟨tg, iter, ifs, 0⟩] scope pos) 0 (.ref it) (.ref D) (compEnvC scope (cellsFrom (s3.heap.objs.size + 1) scope.names (cloFrom X.env.cells scope.names [])) s3.heap.objs.size X.env)) (compPost (model X.prog X.w) X.A X.xe use Qf (.ref D) s3.heap.objs.size) { s3 with heap := pushCells (s3.heap.push { cls := .type "dict", data := .dict #[] }) scope.names }
  have nfp : ∀ b ∈ fp, (upd H1 D (.lst [])) b = none := fun b hb => (f3 b hb).1.1
  generalize hce : compEnvC scope (cellsFrom (s3.heap.objs.size + 1) scope.names (cloFrom X.env.cells scope.names [])) s3.heap.objs.size X.env = ce at I4 pg pt pe ⊢
  have cL : ce.locals = s3.heap.objs.size := by subst hce; rfl
  generalize hH3 : upd H1 D (.lst []) = H3 at I3 I4 pg pt pe w0 nfp f3
  generalize hs4 : ({ s3 with heap := pushCells (s3.heap.push { cls := .type "dict", data := .dict #[] }) scope.names } : Shared) = s4 at I4 ⊢
  have st4 : tn 0 s4.heap := T.keep _ _ _ st3 fun b _ o e => by rw [← hs4]; exact pushCells_keeps _ _ _ _ (Heap.get?_push_of_some _ e)
  have stat : ∀ {σ' : L2.St} {H' : Hp} {s' : Shared}, Inv (X.blk s3 H3 scope ce fp) [] σ' H' s' → (∀ b ∈ fp, H' b = none) → ∀ b ∈ fp, FpOk (X.blk s3 H3 scope ce fp) [] H' b := fun {σ' H' s'} I' hn b hb =>
    ⟨hn b hb, (I'.ok.exf b hb).1, I'.ok.exfs b hb, .inl hb, fun x c e => (I'.ok.exf b hb).2 x c e, fun p hp => absurd (show p ∈ ([] : List (Addr × Obj)) ++ [] from hp) (by simp)⟩
  have back : ∀ {σ' : L2.St} {H' : Hp} {s' : Shared}, Inv (X.blk s3 H3 scope ce fp) [] σ' H' s' → Inv X pins σ H' s' := fun {σ' H' s'} I' =>
    I3.call' (ch := fp) I'.os I'.base I'.hok I'.bare fun b hb => ⟨(f3 b hb).1.2.2.2.1, (f3 b hb).1.2.1, (f3 b hb).1.2.2.2.2.1, (f3 b hb).1.2.2.2.2.2⟩
  have loop : codeAny (model X.prog X.w) X.A (.compLoop (.ListComp elt [⟨tg, iter, ifs, 0⟩] scope pos) 0 (.ref it) (.ref D) ce) (compPost (model X.prog X.w) X.A X.xe use Qf (.ref D) s3.heap.objs.size) s4 := by
    refine compLoop_any (fun n s' => ∃ i H', Inv (X.blk s3 H3 scope ce fp) [] (wipe σ (own.map (·.2))) H' s' ∧ tn i s'.heap ∧ (∀ b ∈ fp, H' b = none) ∧ W i n H') ?_ m0 ⟨0, H3, I4, st4, nfp, w0⟩
    rintro n s5 ⟨i, H5, I5, st5, n5, w5⟩
    rcases turn i n H5 w5 with ⟨stop, qq⟩ | ⟨go, Nx, hNx, step⟩
    · have hot : ∃ x1, HotAt X.A x1 s5.heap ∧ x1 ∉ fp := by
        obtain ⟨p, ⟨hh, v1, e1, c1⟩, hp⟩ := hc
        refine ⟨p.1, ⟨hh, p.2, v1, ((back I5).pin p (List.mem_append_left _ hp)).1, e1, c1⟩, fun hm => ?_⟩
        exact (f3 p.1 hm).1.2.2.2.2.2 p (List.mem_append_left _ hp) rfl
      have td := T.done (X.blk s3 H3 scope ce fp) rfl rfl rfl i [] s5 _ H5 (fun _ _ => False) hot I5 (stat I5 n5) st5 stop
      refine thnF td fun r s6 ⟨hr, I6⟩ => ?_
      subst hr
      have I7 : Inv X pins σ H5 s6 := back I6
      have nC : H5 s3.heap.objs.size = none := by
        have z : H5 ce.locals = none := I6.free
        rw [cL] at z
        exact z
      obtain ⟨m, hn, _⟩ := I6.loc
      have hn : s6.heap.Ns ce.locals m := hn
      rw [cL] at hn
      exact hRR D s3.heap.objs.size s6 m H5 I7 qq hn (I3.fpOk (Nat.le_refl _) nC)
    · have ti := T.item (X.blk s3 H3 scope ce fp) rfl rfl rfl i [] s5 _ H5 (fun _ _ => False) I5 (stat I5 n5) st5 go
      refine thnF ti fun r s6 ⟨u, hr, h6⟩ => ?_
      subst hr
      refine thnF h6 fun _ s7 ⟨x, H7, I7, r7, y7, st7, n7⟩ => ?_
      have I7' := I7.pinned (stat I7 n7) (T.obj _ _ st7)
      refine thnF (pg.run _ s7 _ H7 x u _ I7' r7 (step x H7 y7)) fun _ s8 ⟨σ8, H8, I8, hw8, q8⟩ => ?_
      refine thnF (pt.run _ s8 σ8 H8 _ I8 q8) fun b s9 ⟨H9, I9, q9⟩ => ?_
      have fin : ∀ {s' : Shared} {H' : Hp}, Inv (X.blk s3 H3 scope ce fp) ([] ++ pinsAt fp s7.heap) σ8 H' s' → Nx H' → ∃ m, m < n ∧ ∃ i H', Inv (X.blk s3 H3 scope ce fp) [] (wipe σ (own.map (·.2))) H' s' ∧ tn i s'.heap ∧ (∀ b ∈ fp, H' b = none) ∧ W i m H' := fun {s' H'} I' nx => by
        obtain ⟨m', hm, w'⟩ := hNx H' nx
        have pin' : ∀ b ∈ fp, ∀ o, s7.heap.get? b = some o → s'.heap.get? b = some o ∧ H' b = none := fun b hb o e =>
          let z := I'.pin (b, o) (List.mem_append_right _ (List.mem_append_right _ (mem_pinsAt hb e)))
          ⟨z.1, z.2.1⟩
        have hl : (wipe σ (own.map (·.2))).length = σ8.length := by rw [← hw8, wipe_length]
        refine ⟨m', hm, i + 1, H', (I'.unpinned (pins := [])).weak hl (fun j v e => ?_), T.keep _ _ _ st7 fun b hb o e => (pin' b hb o e).1, fun b hb => ?_, w'⟩
        · rw [← hw8] at e
          exact (wipe_some e).1
        · obtain ⟨o, e, _⟩ := T.obj _ _ st7 b hb
          exact (pin' b hb o e).2
      cases b with
      | false =>
        simp only [Bool.false_eq_true, if_false] at q9 ⊢
        exact fin I9 q9
      | true =>
        simp only [if_true] at q9 ⊢
        refine thnF (pe.run _ s9 σ8 H9 _ I9 q9) fun z s10 ⟨yv, H10, I10, r10, acc, hD10, hz10, nx⟩ => ?_
        exact app_ok (X := X.blk s3 H3 scope ce fp) I10 hD10 hz10 r10 fun s11 I11 => fin I11 nx
  exact codeAny_compStart_list loop (T.self X.A 0 _ _ _ st4 loop)
/-- [elt for target in iter if ..], an exception being handled -/
theorem pe_lcH {elt tg iter : Expr} {ifs : List Expr} {scope : Scope} {own : List (Str × Nat)} {pos : Pos} {tl : TE} {g : TG} {tt : TT} {te : TE} (K : PySem.W.Frag) (hK : X.K = K) (hc : L2H.HotC X) (hN : X.N.Nodup) (hi : PE X iter tl) (ok : BlkOk X.N X.env.scope scope own)
    (hg : ∀ (s : Shared) (H : Hp) (C : Addr) (cl : List (Str × Addr)) (fp : List Addr), PG (X.blk s H scope (compEnvC scope cl C X.env) fp) tg g) (ht : ∀ (s : Shared) (H : Hp) (C : Addr) (cl : List (Str × Addr)) (fp : List Addr), PTs (X.blk s H scope (compEnvC scope cl C X.env) fp) ifs tt)
    (he : ∀ (s : Shared) (H : Hp) (C : Addr) (cl : List (Str × Addr)) (fp : List Addr), PE (X.blk s H scope (compEnvC scope cl C X.env) fp) elt te) (hs : ∀ x, foldedSetIterable iter X.env x = pure x := by intro _; rfl) :
    PE X (.ListComp elt [⟨tg, iter, ifs, 0⟩] scope pos) (tLc (iList K tl) g tt te (own.map (·.2))) := by
  subst hK
  refine ⟨fun pins s σ H Q I h => ?_⟩
  rw [eval_ListComp]
  refine lc_coreH hc hN I hi ok hg ht he hs h fun D C s' m H' I' q hn f => ⟨m, hn, fun h'' sb => ?_⟩
  obtain ⟨f0, f1, f2, f3, f4, f5⟩ := f
  exact ⟨.ref D, H', I'.turned (t' := s'.toks) (fun b o hb e => (sb.2 b hb).trans e) f0 f1 f3 f4 f5, rfl, q⟩
end
/-! ### defs called within the suite -/
theorem hot_suite {X : Cx} {a : Addr} {oe : Obj} {cls : Value} {d : Option Addr} {pn : List (Addr × Obj)} (hz : L2N.Zn cls d oe) (hf : ∃ vs, oe.data = .fields vs) : L2H.HotC (X.suite a ((a, oe) :: pn)) :=
  ⟨(a, oe), ⟨rfl, by obtain ⟨vs, hd⟩ := hf; exact ⟨vs, hd, hz.2.2 vs hd⟩⟩, List.mem_cons_self⟩
section
variable {P : Program} {w : World} {K : PySem.W.Frag} {mg : Str → Option Value} {base : Heap}
theorem okH {CX : CXT} {x qual : Str} {st : Stmt} {f : Addr} {fd : FuncData} {N ps : List Str} {k : Nat} {sp : Sp} (F : Fun K x qual st f fd) (S : FnScope N ps (defScope st)) (len : ∀ vs H Q E, sp vs H Q E → vs.length = ps.length)
    (hbody : ∀ (cdv : Value) (A : Around) (outer : List Env) (s : Shared) (H : Hp) (vs : List V) (Q : VK) (E : XK) (p : Addr × Obj), L2H.Hot1 A p → L2H.RoomH k (A.deeper (envOfC qual (defScope st) s.heap.objs.size f cdv)) → sp vs H Q E →
      ∃ t, PSs (L2H.cxH CX P w K mg base N qual (defScope st) f cdv A outer s H E p) (defBody st) t ∧ t { nx := fun _ H' => Q .non H', rt := Q } (start N vs) H) : L2H.FnH P w K mg base CX (k + 1) f fd ps sp := by
  obtain ⟨oc, od, kV, doc, pm, an, cdv, ct, osl, rfl, lk, hcd⟩ := F.ex
  exact L2H.fn_ofH lk hcd S len fun A outer s H vs Q E p hot hr hsp => hbody cdv A outer s H vs Q E p hot hr hsp
/-- x keeps its promise while an exception is handled -/
def PmH (P : Program) (w : World) (K : PySem.W.Frag) (mg : Str → Option Value) (base : Heap) (k : Nat) (x : Str) (ps : List Str) (sp : Sp) : Prop :=
  ∃ f fd, L2H.FnH P w K mg base CX0 k f fd ps sp ∧ mg x = some (.ref f) ∧ PySem.W.keepIn K (.ref f) = true ∧ Binds K fd ps []
end
theorem pe_pmH {X : Cx} {k : Nat} {x : Str} {ps : List Str} {sp : Sp} {e : Expr} {es : List Expr} {t : TA} {p pos : Pos} (G : PmH X.prog X.w X.K X.mg X.base k x ps sp) (hr : L2H.RoomH k X.A) (hc : L2H.HotC X) (ha : PA X (e :: es) t) (hg : Gl X x := by rfl)
    (hd : (x == ("__debug__" : Str)) = false := by decide) (he : starEach (e :: es) X.env = (false, eval e X.env) :: starEach es X.env := by rfl) (hpl : (backTo pos (starEach es X.env)).any (·.1) = false := by rfl) :
    PE X (.Call (.Name x p) (e :: es) [] pos) (tCallS sp (fun _ => E0) t) := by
  obtain ⟨f, fd, F, hm, hk, hb⟩ := G
  exact L2H.pe_callH (CX := CX0) F hr hc hg hm hk hb (fun _ _ _ _ _ _ _ h => h.elim) ha hd he hpl
end Sr
namespace L2H
open PySem
theorem RoomH.units {k : Nat} {A : Around} (r : RoomH k A) : A.units + 64 < cLine := by have := r.un; omega
end L2H
/-! a lambda, with or without a default, handed to a def; its exceptions' context is None -/
namespace Sr
open PySem PySem.Spec PyProof.Rows L2 SrX LamX
abbrev lamFd (qual : Str) (params : Arguments) (body : Expr) (scope : Scope) (cl : List (Str × Addr)) (pm cdv ct dv : Value) : FuncData := { PySem.W.kla_fn "<lambda>" qual params body scope cl pm cdv ct with defaults := dv }
abbrev lamOb (qual : Str) (params : Arguments) (body : Expr) (scope : Scope) (cl : List (Str × Addr)) (pm : Value) (c' : Addr) (ctv dv : Value) : Obj := { cls := .type "function", data := .func (lamFd qual params body scope cl pm (.ref c') ctv dv) }
section
variable {M : Model} {A : Around} {E : Value → Shared → Prop} {s : Shared} {qual : Str} {params : Arguments} {body : Expr} {scope : Scope} {env : Env} {c P : Addr} {ps : Array Value} {pos : Pos} {firstLine : Nat} {mg : Str → Option Value}
  {clos : List (Str × Addr)} {Q : Value → Shared → Prop} {dv : Value}
theorem lam_tailNew (hcl : closureFor scope env = pure clos) (hge0 : env.globals = mainGlobals) (hg : s.heap.Ns mainGlobals mg) (hcode : env.code = .ref c) (C : PySem.W.CodeHd s.heap c P) (hP : s.heap.get? P = some { cls := .none, data := .fields ps }) (ht : TriplesOk ps.toList)
    (hnf : codeAmong pos ps.toList = none) (hgP : mainGlobals ≠ P) (hb : s.heap.BuiltinsAt mg P)
    (h : ∀ c' ctv h' tk, Heap.ExtBut P s.heap h' → s.heap.objs.size ≤ c' → c' < h'.objs.size → h'.CodeRec (.ref c') qual → h'.get? P = some { cls := .none, data := .fields (ps ++ #[rawInt pos.line, rawInt pos.col, .ref c']) } →
      Q (.ref h'.objs.size) { s with heap := h'.push (lamOb qual params body scope clos ((mg "__name__").getD .none) c' ctv dv), toks := tk }) :
    wpAny M A (makeTail "<lambda>" qual params (.expr body) scope env dv .none none pos firstLine) Q E s := by
  obtain ⟨bm, ob, hbm, hne0, _, hneP, hbo, hcls, hdict, hdata⟩ := hb
  unfold makeTail
  rw [hcl, hge0]
  refine wpAny_bind (wpAny_pure ?_)
  cases clos with
  | nil =>
    simp only [List.isEmpty_nil, if_true]
    refine wpAny_bind (wpAny_pure ?_)
    refine wpAny_bind (wpAny_functionCodeX hcode (C.code hP ht) (C.tab hP) hnf fun c' h' tk hx hge hlt _ hrec htb _ => ?_)
    have hg' := hg.extBut hx hgP
    refine wpAny_bind (wpAny_builtinsFor hg' hbm hne0 (hx _ _ hneP hbo) hcls hdict hdata ?_)
    refine wpAny_bind (wpAny_nsGet hg' ?_)
    exact wpAny_bind (wpAny_pure (wpAny_newObj_type (h c' .none h' tk hx hge hlt hrec htb.2) (by size_fits)))
  | cons q r =>
    simp only [List.isEmpty_cons, Bool.false_eq_true, if_false]
    refine wpAny_bind (wpAny_newTextTuple ?_)
    refine wpAny_bind (wpAny_functionCodeX hcode ((C.keeps fun b o e => Heap.get?_push_of_some _ e).code (Heap.get?_push_of_some _ hP) ht) ((C.keeps fun b o e => Heap.get?_push_of_some _ e).tab (Heap.get?_push_of_some _ hP)) hnf fun c' h' tk hx hge hlt _ hrec htb _ => ?_)
    have hg' := (hg.push _).extBut hx hgP
    have hx' : Heap.ExtBut P s.heap h' := fun b o hb' e => hx b o hb' (Heap.get?_push_of_some _ e)
    have hge' : s.heap.objs.size ≤ c' := Nat.le_trans (by rw [Heap.size_push]; omega) hge
    refine wpAny_bind (wpAny_builtinsFor hg' hbm hne0 (hx' _ _ hneP hbo) hcls hdict hdata ?_)
    refine wpAny_bind (wpAny_nsGet hg' ?_)
    exact wpAny_bind (wpAny_pure (wpAny_newObj_type (h c' _ h' tk hx' hge' hlt hrec htb.2) (by size_fits)))
theorem lam_tailHit {cv : Value} (hcl : closureFor scope env = pure clos) (hge0 : env.globals = mainGlobals) (hg : s.heap.Ns mainGlobals mg) (hcode : env.code = .ref c) (C : PySem.W.CodeHd s.heap c P) (hP : s.heap.get? P = some { cls := .none, data := .fields ps }) (ht : TriplesOk ps.toList)
    (hf : codeAmong pos ps.toList = some cv) (hb : s.heap.BuiltinsAt mg P)
    (h : ∀ (ctv : Value) (h' : Heap) (tk : Tok), (∀ b o, s.heap.get? b = some o → h'.get? b = some o) → s.heap.objs.size ≤ h'.objs.size →
      Q (.ref h'.objs.size) { s with heap := h'.push { cls := .type "function", data := .func (lamFd qual params body scope clos ((mg "__name__").getD .none) cv ctv dv) }, toks := tk }) :
    wpAny M A (makeTail "<lambda>" qual params (.expr body) scope env dv .none none pos firstLine) Q E s := by
  obtain ⟨bm, ob, hbm, hne0, _, hneP, hbo, hcls, hdict, hdata⟩ := hb
  unfold makeTail
  rw [hcl, hge0]
  refine wpAny_bind (wpAny_pure ?_)
  cases clos with
  | nil =>
    simp only [List.isEmpty_nil, if_true]
    refine wpAny_bind (wpAny_pure ?_)
    refine wpAny_bind (wpAny_functionCode_hit hcode (C.code hP ht) hf ?_)
    refine wpAny_bind (wpAny_builtinsFor hg hbm hne0 hbo hcls hdict hdata ?_)
    refine wpAny_bind (wpAny_nsGet hg ?_)
    exact wpAny_bind (wpAny_pure (wpAny_newObj_type (h .none s.heap s.toks (fun _ _ e => e) (Nat.le_refl _)) (by size_fits)))
  | cons q r =>
    simp only [List.isEmpty_cons, Bool.false_eq_true, if_false]
    refine wpAny_bind (wpAny_newTextTuple ?_)
    refine wpAny_bind (wpAny_functionCode_hit hcode ((C.keeps fun b o e => Heap.get?_push_of_some _ e).code (Heap.get?_push_of_some _ hP) ht) hf ?_)
    refine wpAny_bind (wpAny_builtinsFor (hg.push _) hbm hne0 (Heap.get?_push_of_some _ hbo) hcls hdict hdata ?_)
    refine wpAny_bind (wpAny_nsGet (hg.push _) ?_)
    have hsz : ∀ oT : Obj, s.heap.objs.size ≤ (s.heap.push oT).objs.size := fun oT => by rw [Heap.size_push]; omega
    exact wpAny_bind (wpAny_pure (wpAny_newObj_type (h _ _ s.toks (fun b o e => Heap.get?_push_of_some _ e) (hsz _)) (by size_fits)))
end
section
variable {X : Cx} {pins : List (Addr × Obj)} {σ : L2.St} {H : Hp} {s : Shared}
/-- the lambda is made, its defaults' tuple at dv -/
theorem lam_tail {T : List (Addr × Str)} {c P : Addr} {params : Arguments} {body : Expr} {scope : Scope} {pos : Pos} {fl : Nat} {dv : Value} {E : Value → Shared → Prop} {Q : Value → Shared → Prop} (I : Inv X pins σ H s) (TB : TabB X.base X.mg c P) (hcode : X.env.code = .ref c)
    (hm : (P, X.env.qual ++ "<lambda>") ∈ T) (hu : ∀ p ∈ T, p.1 = P → p.2 = X.env.qual ++ "<lambda>") (hT : Tabs T H) (hfree : ∀ y ∈ scope.names, y.2 = .free → ∃ c, X.env.cells.lookup y.1 = some c)
    (h : ∀ (f c' : Addr) (pm ctv : Value) (H1 : Hp) (s' : Shared), Inv X pins σ H1 s' → ExtN H H1 → Tabs T H1 → (∀ b o, H b = none → s.heap.get? b = some o → H1 b = none ∧ s'.heap.get? b = some o) →
      s'.heap.get? f = some (lamOb (X.env.qual ++ "<lambda>") params body scope (cloFrom X.env.cells scope.names []) pm c' ctv dv) → FpOk X pins H1 f → H1 c' = some (CodeO c' (X.env.qual ++ "<lambda>")) → Q (.ref f) s') :
    wpAny (model X.prog X.w) X.A (makeTail "<lambda>" (X.env.qual ++ "<lambda>") params (.expr body) scope X.env dv .none none pos fl) Q E s := by
  obtain ⟨ps, hP, ht, ha⟩ := hT _ hm
  have bP : s.heap.BuiltinsAt X.mg P := TB.bm.keeps I.bk
  have hP' : s.heap.get? P = some { cls := .none, data := .fields ps } := I.hok P _ hP
  cases hc : codeAmong pos ps.toList with
  | none =>
    refine lam_tailNew (mg := X.mg) (c := c) (P := P) (ps := ps) (closure_ok hfree) I.ok.glob (I.mod.glob.keeps I.bk) hcode (TB.code.keeps I.bk) hP' ht hc TB.gP bP fun c' ctv h' tk hx hge hlt hrec htb => ?_
    obtain ⟨c2, oc, vs, t, e2, hoc, hd, hv⟩ := hrec
    cases e2
    have hsz : s.heap.objs.size ≤ h'.objs.size := Nat.le_trans hge (Nat.le_of_lt hlt)
    have nC : H c' = none := I.hok.fresh hge
    have I1 := inv_table (t' := tk) (more := #[rawInt pos.line, rawInt pos.col, .ref c']) (h' := h'.push (lamOb (X.env.qual ++ "<lambda>") params body scope (cloFrom X.env.cells scope.names []) ((X.mg "__name__").getD .none) c' ctv dv)) I hP
      (fun b o hb e => Heap.get?_push_of_some _ (hx b o hb e)) (Heap.get?_push_of_some _ htb) hge ⟨oc, vs, t, Heap.get?_push_of_some _ hoc, hd, hv⟩
    have hE : ExtN H (upd (upd H P (.tbl (ps ++ #[rawInt pos.line, rawInt pos.col, .ref c']))) c' (CodeO c' (X.env.qual ++ "<lambda>"))) := fun b o e n => by
      rw [upd_ne (ne_of_none e nC), upd_ne (fun z => n ps (Option.some.inj (e.symm.trans (by rw [z]; exact hP))))]
      exact e
    have eL : (ps ++ #[rawInt pos.line, rawInt pos.col, .ref c']).toList = ps.toList ++ [rawInt pos.line, rawInt pos.col, .ref c'] := by simp
    have nP : ∀ b, H b = none → b ≠ P := fun b e z => by rw [z, hP] at e; cases e
    have nF : (upd (upd H P (.tbl (ps ++ #[rawInt pos.line, rawInt pos.col, .ref c']))) c' (CodeO c' (X.env.qual ++ "<lambda>"))) h'.objs.size = none := by
      have n1 : h'.objs.size ≠ c' := Nat.ne_of_gt hlt
      have n2 : h'.objs.size ≠ P := Nat.ne_of_gt (Nat.lt_of_lt_of_le (Heap.lt_size hP') hsz)
      rw [upd_ne n1, upd_ne n2]
      exact I.hok.fresh hsz
    have fF := I.fpOk hsz (I.hok.fresh hsz)
    refine h h'.objs.size c' ((X.mg "__name__").getD .none) ctv _ _ I1 hE (fun p hp => ?_) (fun b o e1 e2 => ⟨?_, Heap.get?_push_of_some _ (hx b o (nP b e1) e2)⟩) (Heap.get?_push_size _ rfl) ⟨nF, fF.2⟩ upd_same
    · by_cases hb : p.1 = P
      · rw [hu p hp hb, hb]
        refine ⟨_, by rw [upd_ne (ne_of_none hP nC), upd_same], by rw [eL]; exact PySem.TriplesOk_snoc _ _ _ _ ht, fun p' cv hcv => ?_⟩
        rw [eL] at hcv
        rcases among_app _ ht hcv with z | z
        · obtain ⟨c0, e1, e2⟩ := ha p' cv z
          exact ⟨c0, e1, hE _ _ e2 codeO_ne⟩
        · exact ⟨c', z, upd_same⟩
      · obtain ⟨ps', a1, a2, a3⟩ := hT p hp
        refine ⟨ps', by rw [upd_ne (ne_of_none a1 nC), upd_ne hb]; exact a1, a2, fun p' cv hcv => ?_⟩
        obtain ⟨c0, e1, e2⟩ := a3 p' cv hcv
        exact ⟨c0, e1, hE _ _ e2 codeO_ne⟩
    · rw [upd_ne (Nat.ne_of_lt (Nat.lt_of_lt_of_le (Heap.lt_size e2) hge)), upd_ne (nP b e1)]
      exact e1
  | some cv =>
    obtain ⟨c', e, hco⟩ := ha pos cv hc
    subst e
    refine lam_tailHit (mg := X.mg) (c := c) (P := P) (ps := ps) (closure_ok hfree) I.ok.glob (I.mod.glob.keeps I.bk) hcode (TB.code.keeps I.bk) hP' ht hc bP fun ctv h' tk hx hsz => ?_
    have I1 : Inv X pins σ H { s with heap := h'.push (lamOb (X.env.qual ++ "<lambda>") params body scope (cloFrom X.env.cells scope.names []) ((X.mg "__name__").getD .none) c' ctv dv), toks := tk } := I.kept fun b o e => Heap.get?_push_of_some _ (hx b o e)
    exact h h'.objs.size c' ((X.mg "__name__").getD .none) ctv H _ I1 (ExtN.refl H) hT (fun b o e1 e2 => ⟨e1, Heap.get?_push_of_some _ (hx b o e2)⟩) (Heap.get?_push_size _ rfl) (I.fpOk hsz (I.hok.fresh hsz)) hco
/-- what stands behind dv: no defaults, or a tuple of one -/
def DvAt (h : Heap) (H : Hp) (X : Cx) (pins : List (Addr × Obj)) (dv : Value) (bs : List (Str × Value)) (params : Arguments) : Prop :=
  (dv = .none ∧ ∀ (q : Str) (body : Expr) (scope : Scope) (cl : List (Str × Addr)) (pm cv ct : Value), bindArgs (lamFd q params body scope cl pm cv ct .none) ⟨[], []⟩ = pure bs) ∨
  ∃ (T : Addr) (o : Obj) (u : Value) (n : Nat), dv = .ref T ∧ FpOk X pins H T ∧ h.get? T = some o ∧ o.data = .seq #[u] n ∧
    ∀ (q : Str) (body : Expr) (scope : Scope) (cl : List (Str × Addr)) (pm cv ct : Value), ∃ k, bindArgs (lamFd q params body scope cl pm cv ct (.ref T)) ⟨[], []⟩ = seqItems? (.ref T) >>= k ∧ k (some #[u]) = pure bs
theorem bind_dv {h : Heap} {dv : Value} {bs : List (Str × Value)} {params : Arguments} {q : Str} {body : Expr} {scope : Scope} {cl : List (Str × Addr)} {pm cv ct : Value} {sZ : Shared} {M : Model} {A : Around} {E : Value → Shared → Prop} {Q : List (Str × Value) → Shared → Prop}
    (D : DvAt h H X pins dv bs params) (hk : ∀ T o, dv = .ref T → h.get? T = some o → sZ.heap.get? T = some o) (q' : Q bs sZ) : wpAny M A (bindArgs (lamFd q params body scope cl pm cv ct dv) ⟨[], []⟩) Q E sZ := by
  rcases D with ⟨rfl, e⟩ | ⟨T, o, u, n, rfl, _, hT, hd, e⟩
  · rw [e]
    exact wpAny_pure q'
  · obtain ⟨k, e1, e2⟩ := e q body scope cl pm cv ct
    rw [e1]
    refine wpAny_bind (wpAny_seqItems (hk T o rfl hT) hd ?_)
    rw [e2]
    exact wpAny_pure q'
end
/-! ### the lambda's names, its body's context -/
structure LamN (N : List Str) (sc scope : Scope) (bs : List Str) : Prop where
  kind : scope.kind = .function
  co : scope.isCoroutine = false
  gen : scope.isGenerator = false
  own : ∀ y ∈ scope.names, y.2 ≠ .cell ∧ (y.2 = .local → y.1 ∉ N)
  free : ∀ y ∈ scope.names, y.2 = .free → sc.names.lookup y.1 = some .cell ∨ sc.names.lookup y.1 = some .free
  par : ∀ y ∈ bs, scope.names.lookup y = some .local
def lamNB (N : List Str) (sc scope : Scope) (bs : List Str) : Bool :=
  decide (scope.kind = .function) && !scope.isCoroutine && !scope.isGenerator && (scope.names.all fun y => !decide (y.2 = .cell) && (!decide (y.2 = .local) || decide (y.1 ∉ N)) && (!decide (y.2 = .free) || decide (sc.names.lookup y.1 = some .cell) || decide (sc.names.lookup y.1 = some .free))) &&
    bs.all fun y => decide (scope.names.lookup y = some .local)
theorem lamN_by {N : List Str} {sc scope : Scope} {bs : List Str} (h : lamNB N sc scope bs = true) : LamN N sc scope bs := by
  unfold lamNB at h
  simp only [Bool.and_eq_true, Bool.or_eq_true, Bool.not_eq_true', decide_eq_true_eq, decide_eq_false_iff_not, List.all_eq_true] at h
  obtain ⟨⟨⟨⟨h1, h2⟩, h3⟩, h4⟩, h5⟩ := h
  refine ⟨h1, h2, h3, fun y hy => ⟨(h4 y hy).1.1, fun e => ?_⟩, fun y hy e => ?_, h5⟩
  · rcases (h4 y hy).1.2 with z | z
    · exact absurd e z
    · exact z
  · rcases (h4 y hy).2 with (z | z) | z
    · exact absurd e z
    · exact .inl z
    · exact .inr z
theorem LamN.has {X : Cx} {N : List Str} {scope : Scope} {bs : List Str} (L : LamN N X.env.scope scope bs) (ok : X.Ok) : ∀ y ∈ scope.names, y.2 = .free → ∃ c, X.env.cells.lookup y.1 = some c := fun y hy e => by
  rcases L.free y hy e with k | k
  · exact ok.has _ (.inl k)
  · exact ok.has _ (.inr k)
def lamCxN (X : Cx) (A : Around) (outer : List Env) (s : Shared) (H : Hp) (E : XK) (scope : Scope) (f c' : Addr) : Cx where
  prog := X.prog
  w := X.w
  K := X.K
  mg := X.mg
  base := X.base
  A := A.deeper (lamEnv X scope s.heap.objs.size f c')
  N := X.N
  s_0 := s
  H_0 := H
  env := lamEnv X scope s.heap.objs.size f c'
  outer := outer
  stack := lamEnv X scope s.heap.objs.size f c' :: outer
  ex := []
  fn := fun _ => false
  calm := true
  pn := []
  xe := fun e s' => wpAny (model X.prog X.w) (A.deeper (lamEnv X scope s.heap.objs.size f c')) (leaving (lamEnv X scope s.heap.objs.size f c') e) (fun _ s'' => L2N.CX X.prog X.w outer H s E e s'') (fun e' s'' => L2N.CX X.prog X.w outer H s E e' s'') s'
section
variable {X : Cx} {pins : List (Addr × Obj)} {σ : L2.St} {H HZ : Hp} {s s1 : Shared}
theorem lam_startN {A : Around} {outer : List Env} {E : XK} {scope : Scope} {bs : List Str} {f c' : Addr} {h₁ : Heap} {tk : Nat} {m : Str → Option Value} (I : Inv X pins σ H s) (L : LamN X.N X.env.scope scope bs) (e0 : Env0 X.prog X.w X.K X.mg X.base A outer s1 HZ) (hd : A.handled = none)
    (un : Un (frs X.stack) [] H HZ s.heap s1.heap) (hns : h₁.Ns s1.heap.objs.size m) (kp : ∀ b o, s1.heap.get? b = some o → h₁.get? b = some o) :
    Inv (lamCxN X A outer s1 HZ E scope f c') [] σ HZ { s1 with heap := h₁, toks := tk } := by
  have hfree := L.has I.ok
  have cm : ∀ {y c}, (cloFrom X.env.cells scope.names []).lookup y = some c → X.env.cells.lookup y = some c := fun {y c} e => by
    rcases cloFrom_mem (PySem.mem_of_lookup e) with hm | ⟨h1, h2⟩
    · cases hm
    · obtain ⟨c1, hc⟩ := hfree _ h1 rfl
      have hc : X.env.cells.lookup y = some c1 := hc
      have e2 : c = c1 := by
        rw [h2, hc] <;> rfl
      rw [e2]
      exact hc
  have look : ∀ {y}, scope.names.lookup y = some .free → ∃ c, (cloFrom X.env.cells scope.names []).lookup y = some c := fun {y} hl => by
    have hy : (y, NameKind.free) ∈ scope.names := PySem.mem_of_lookup hl
    exact mem_lookup (cloFrom_has (cells := X.env.cells) (acc := []) hy)
  have cellK : ∀ {c : Addr} {v : Option Value}, H c = none → s.heap.IsCell c v → h₁.IsCell c v := fun {c v} n ⟨o, ho, hd⟩ => by
    obtain ⟨sl, q⟩ := un.any ho n (by simp)
    exact ⟨_, kp _ _ q, hd⟩
  have noA : ∀ b : Addr, b ∉ (lamCxN X A outer s1 HZ E scope f c').ex := fun b z => absurd (show b ∈ ([] : List Addr) from z) (by simp)
  refine ⟨⟨e0.mod, L.kind, rfl, rfl, Nat.le_refl _, fun y z c e1 e2 => I.ok.inj y z c (cm e1) (cm e2), fun y hy => ?_, fun y c z _ => ?_, fun _ => hd, Around.frames_deeper e0.frames, .inr ⟨rfl, rfl⟩, fun b z => absurd z (noA b), e0.bs, e0.bsz, fun b _ _ => noA b,
      fun b z => absurd z (noA b), e0.funs, e0.frf⟩,
    rfl, e0.bare, Un.kept kp, ⟨_, hns, fun i y v e1 e2 e3 => ?_⟩, fun y c e => ?_, e0.hok.fresh (Nat.le_refl _), fun y c e => ?_, fun q hq => absurd (show q ∈ ([] : List (Addr × Obj)) ++ [] from hq) (by simp), e0.hok.kept kp, I.len⟩
  · have hy : scope.names.lookup y = some .cell ∨ scope.names.lookup y = some .free := hy
    rcases hy with hy | hy
    · exact absurd rfl (L.own _ (PySem.mem_of_lookup hy)).1
    · exact look hy
  · have z : false = true := z
    cases z
  · have e3 : Vis scope y := e3
    rcases e3 with k | k | k
    · exact absurd (List.mem_of_getElem? (show X.N[i]? = some y from e1)) ((L.own _ (PySem.mem_of_lookup k)).2 rfl)
    · exact absurd rfl (L.own _ (PySem.mem_of_lookup k)).1
    · obtain ⟨m, hn, hl⟩ := I.loc
      have hvis : Vis X.env.scope y := (L.free _ (PySem.mem_of_lookup k) rfl).elim (fun k => .inr (.inl k)) (fun k => .inr (.inr k))
      obtain ⟨w', r, q⟩ := hl i y v e1 e2 hvis
      obtain ⟨c2, h2⟩ := look k
      refine ⟨w', r, .inr ⟨.inr k, c2, h2, ?_⟩⟩
      have c1 := cm h2
      rcases q with ⟨k', _⟩ | ⟨_, c3, e', z⟩
      · have k' : X.env.scope.names.lookup y = some .local := k'
        rcases L.free _ (PySem.mem_of_lookup k) rfl with k2 | k2 <;> rw [show X.env.scope.names.lookup y = _ from k2] at k' <;> cases k'
      · rw [c1] at e'
        cases e'
        exact cellK (I.freeC y _ c1) z
  · obtain ⟨w', z⟩ := I.cell y c (cm e)
    exact ⟨w', cellK (I.freeC y c (cm e)) z⟩
  · obtain ⟨v, o, ho, hd⟩ := I.cell y c (cm e)
    exact un.free c o ho (I.freeC y c (cm e)) (by simp)
/-- work(), in the def that got the lambda -/
theorem pe_actN {CXg : CXT} {Eg : XK} {Ng : List Str} {qg : Str} {sg : Scope} {g f c' : Addr} {cdg pm ctv dv : Value} {bs : List (Str × Value)} {params : Arguments} {body : Expr} {scope : Scope} {k i : Nat} {a : Str} {pn : List (Addr × Obj)} {xe : Value → Shared → Prop} {W : WX} {tb : XK → TE} {p1 p2 : Pos}
    (I : Inv X pins σ H s) (L : LamN X.N X.env.scope scope (bs.map (·.1))) (hf : s.heap.get? f = some (lamOb (X.env.qual ++ "<lambda>") params body scope (cloFrom X.env.cells scope.names []) pm c' ctv dv)) (hfn : H f = none) (hfr : f ∉ frs X.stack)
    (D : DvAt s.heap H X pins dv bs params) (hDr : ∀ T, dv = .ref T → T ∉ frs X.stack)
    (tk : L2N.Takes ((cxOf CXg X.prog X.w X.K X.mg X.base Ng qg sg g cdg X.A X.stack s H Eg).tr pn xe) W) (hr : Room (k + 1) (X.A.deeper (envOfC qg sg s.heap.objs.size g cdg)))
    (hbody : ∀ (A : Around) (outer : List Env) (s : Shared) (H : Hp) (E : XK), Room k (A.deeper (lamEnv X scope s.heap.objs.size f c')) → PE (lamCxN X A outer s H E scope f c') body (tb E))
    (hN : Ng[i]? = some a) (hv : Vis sg a) (hd : (a == ("__debug__" : Str)) = false := by decide) (hcd : (a == ("__classdict__" : Str)) = false := by decide) :
    PE ((cxOf CXg X.prog X.w X.K X.mg X.base Ng qg sg g cdg X.A X.stack s H Eg).tr pn xe) (.Call (.Name a p1) [] [] p2)
      (fun σZ HZ Q => σZ[i]? = some (some (.ref f)) ∧ HZ c' = some (CodeO c' (X.env.qual ++ "<lambda>")) ∧ tb (WE W σZ) σ HZ Q) := by
  refine ⟨fun pinsZ sZ σZ HZ Q IZ h => ?_⟩
  obtain ⟨hs, hc, ht⟩ := h
  refine wpAny_Call_Name_kw (thn ((pe_var (pos := p1) (i := i) hN hv hd hcd).run pinsZ sZ σZ HZ (fun v H1 => v = .ref f ∧ H1 = HZ) IZ ⟨.ref f, hs, rfl, rfl⟩) fun u s1 ⟨v, H1, I1, r1, q1⟩ => ?_)
  obtain ⟨ev, eH⟩ := q1
  subst ev
  rw [eH] at I1
  obtain rfl : u = Value.ref f := r1
  have of1 : s1.heap.get? f = some (lamOb (X.env.qual ++ "<lambda>") params body scope (cloFrom X.env.cells scope.names []) pm c' ctv dv) := I1.base.keep f _ hf hfn hfr (fun z => nomatch (show f ∈ ([] : List Addr) from z))
  have od1 : ∀ T o, dv = .ref T → s.heap.get? T = some o → s1.heap.get? T = some o := fun T o e1 e2 => by
    have hTn : H T = none := by
      rcases D with ⟨e, _⟩ | ⟨T', o', u', n', e, fT, _⟩
      · rw [e] at e1; cases e1
      · rw [e] at e1; cases e1; exact fT.1
    exact I1.base.keep T _ e2 hTn (hDr T e1) (fun z => nomatch (show T ∈ ([] : List Addr) from z))
  refine PySem.W.callWith_F0 ⟨_, _, _, _, of1⟩ ?_
  have un : Un (frs X.stack) [] H HZ s.heap s1.heap := I1.base
  obtain ⟨⟨oc, vs, t, hoc, hdc, hvc⟩, _, _⟩ := I1.hok c' _ hc
  have rc : codeAny (model X.prog X.w) (X.A.deeper (envOfC qg sg s.heap.objs.size g cdg)) (.call (.ref f) ⟨[], []⟩) (CR (L2N.CX X.prog X.w) (envOfC qg sg s.heap.objs.size g cdg :: X.stack) X.prog X.w HZ s1 Q (WE W σZ)) s1 := by
    refine PySem.W.kla_callFunE hr.depth of1 rfl L.co L.gen rfl ⟨c', oc, vs, t, rfl, hoc, hdc, hvc⟩ ?_
    refine bind_dv D od1 (wpAny_newFunctionEnv (fun y hy => (L.own y hy).1) (fun y hy => L.par y.1 (List.mem_map_of_mem hy)) (fun h₁ hns hsb => ⟨I1.nolimit.fresh _ hsb, ?_⟩) L.kind)
    show codeAny _ _ (.expr body (lamEnv X scope s1.heap.objs.size f c')) _ _
    have kp : ∀ b o, s1.heap.get? b = some o → h₁.get? b = some o := fun b o e => hsb.extBut b o (Nat.ne_of_lt (Heap.lt_size e)) (Heap.get?_push_of_some _ e)
    have J : Inv (lamCxN X (X.A.deeper (envOfC qg sg s.heap.objs.size g cdg)) (envOfC qg sg s.heap.objs.size g cdg :: X.stack) s1 HZ (WE W σZ) scope f c') [] σ HZ { s1 with heap := h₁, toks := s1.toks + bs.length } :=
      lam_startN I L I1.env0 hr.hd un hns kp
    refine PySem.W.kla_codeExpr (wpAny_mono ((hbody _ _ s1 HZ (WE W σZ) (hr.deeper _)).run [] _ _ HZ Q J ht) (fun v s' hq => ?_) fun e s' hq => hq)
    obtain ⟨w', H', J', rv, q⟩ := hq
    exact ⟨w', H', J'.os, J'.bare, J'.base, J'.hok, rv, q⟩
  refine wpAny_call (codeAny_mono rc fun r s' hq => ?_)
  cases r with
  | error e => exact L2N.passAt tk σZ pinsZ HZ s1 e s' I1 hq
  | ok fl =>
    cases fl with
    | ret u => exact I1.after hq
    | next => exact False.elim hq
    | brk => exact False.elim hq
    | cont => exact False.elim hq
end
/-! ### a def called with a lambda, a text, a value -/
/-- the lambda's defaults: none, or one number -/
def DefV (X : Cx) (params : Arguments) (names : List Str) : Prop :=
  (defaultsOf params X.env = ([], []) ∧ names = [] ∧ ∀ (q : Str) (body : Expr) (scope : Scope) (cl : List (Str × Addr)) (pm cv ct : Value), bindArgs (lamFd q params body scope cl pm cv ct .none) ⟨[], []⟩ = pure []) ∨
  ∃ (n : Int) (j : Nat) (p : Pos) (y : Str), defaultsOf params X.env = ([eval (.Constant (.int n) j p) X.env], []) ∧ names = [y] ∧
    ∀ (u : Value) (T : Addr) (q : Str) (body : Expr) (scope : Scope) (cl : List (Str × Addr)) (pm cv ct : Value), ∃ k, bindArgs (lamFd q params body scope cl pm cv ct (.ref T)) ⟨[], []⟩ = seqItems? (.ref T) >>= k ∧ k (some #[u]) = pure [(y, u)]
section
variable {X : Cx} {pins : List (Addr × Obj)} {σ : L2.St} {H : Hp} {s : Shared}
theorem lam_makeN {T : List (Addr × Str)} {c P : Addr} {params : Arguments} {body : Expr} {scope : Scope} {pos : Pos} {names : List Str} {Q : Value → Shared → Prop} (I : Inv X pins σ H s) (TB : TabB X.base X.mg c P) (hcode : X.env.code = .ref c)
    (hm : (P, X.env.qual ++ "<lambda>") ∈ T) (hu : ∀ p ∈ T, p.1 = P → p.2 = X.env.qual ++ "<lambda>") (hT : Tabs T H) (hfree : ∀ y ∈ scope.names, y.2 = .free → ∃ c, X.env.cells.lookup y.1 = some c) (hdv : DefV X params names)
    (h : ∀ (f c' : Addr) (pm ctv dv : Value) (bs : List (Str × Value)) (H1 : Hp) (s' : Shared), Inv X pins σ H1 s' → ExtN H H1 → Tabs T H1 →
      s'.heap.get? f = some (lamOb (X.env.qual ++ "<lambda>") params body scope (cloFrom X.env.cells scope.names []) pm c' ctv dv) → FpOk X pins H1 f → H1 c' = some (CodeO c' (X.env.qual ++ "<lambda>")) → bs.map (·.1) = names → DvAt s'.heap H1 X pins dv bs params → Q (.ref f) s') :
    wpAny (model X.prog X.w) X.A (eval (.Lambda params body scope pos) X.env) Q X.xe s := by
  rcases hdv with ⟨hdef, rfl, hb⟩ | ⟨n, j, p, y, hdef, rfl, hb⟩
  · refine PySem.W.kla_eval hdef ?_
    rw [makeFunction_eq]
    simp only [List.zip_nil_right, List.filterMap_nil, List.isEmpty_nil, if_true, pure_bind]
    exact lam_tail I TB hcode hm hu hT hfree fun f c' pm ctv H1 s' I1 eN T1 _ hf hF hco => h f c' pm ctv .none [] H1 s' I1 eN T1 hf hF hco rfl (.inl ⟨rfl, hb⟩)
  · rw [arm_eval_Lambda, hdef]
    show wpAny _ _ (do let dv ← evalAll [eval (.Constant (.int n) j p) X.env]; let kdv ← holding dv (evalAllOpt []); makeFunction "<lambda>" (X.env.qual ++ "<lambda>") params (.expr body) scope X.env dv kdv [] pos pos.line) Q X.xe s
    refine wpAny_bind ?_
    show wpAny _ _ (do let v ← eval (.Constant (.int n) j p) X.env; return v :: (← holding [v] (evalAll []))) _ _ _
    refine wpAny_bind (thn ((pe_int (X := X) (i := n)).run pins s σ H (fun v H1 => v = .int n ∧ H1 = H) I ⟨rfl, rfl⟩) fun u s1 ⟨v, H1, I1, r1, ev, eH⟩ => ?_)
    subst ev
    rw [eH] at I1
    refine wpAny_bind (wpAny_holding (wpAny_pure (wpAny_pure ?_)))
    refine wpAny_bind (wpAny_holding (wpAny_pure ?_))
    rw [makeFunction_eq]
    simp only [List.zip_nil_right, List.filterMap_nil, List.isEmpty_nil, List.isEmpty_cons, Bool.false_eq_true, if_false, if_true, pure_bind]
    refine wpAny_bind (wpAny_newTextTuple ?_)
    have I2 : Inv X pins σ H { s1 with heap := s1.heap.push { cls := .type "tuple", data := .seq [u].toArray } } := I1.kept (t' := s1.toks) fun b o e => Heap.get?_push_of_some _ e
    have hTn : H s1.heap.objs.size = none := I1.hok.fresh (Nat.le_refl _)
    have fT := I1.fpOk (Nat.le_refl _) hTn
    exact lam_tail I2 TB hcode hm hu hT hfree fun f c' pm ctv H1 s' I1' eN T1 keepD hf hF hco => by
      obtain ⟨k1, k2⟩ := keepD s1.heap.objs.size _ hTn (Heap.get?_push_size _ rfl)
      exact h f c' pm ctv (.ref s1.heap.objs.size) [(y, u)] H1 s' I1' eN T1 hf hF hco rfl (.inr ⟨s1.heap.objs.size, _, u, _, rfl, ⟨k1, fT.2⟩, k2, rfl, fun q body scope cl pm cv ct => hb u _ q body scope cl pm cv ct⟩)
end
def tRefN (T : List (Addr × Str)) (t : XK → TE) (ta : TA) (GG : (XK → Hp → VK → Prop) → List Nat → V → Hp → VK → Prop) : TE := fun σ H Q =>
  Tabs T H ∧ ∀ H1, ExtN H H1 → Tabs T H1 → ta σ H1 fun vs H2 => ∃ l v, vs = [.str (tx l), v] ∧ Ex H1 H2 ∧ GG (fun E' H' Q' => t E' σ H' Q') l v H2 Q
section
variable {X : Cx}
theorem pe_refN {T : List (Addr × Str)} {GG : (XK → Hp → VK → Prop) → List Nat → V → Hp → VK → Prop} {x a : Str} {ps : List Str} {g c P : Addr} {k : Nat} {pg : Arguments} {bg : List Stmt} {sg : Scope} {dV kV doc pm cdv ct oc : Value} {an od : Option Addr} {osl : Array (Option Value)} {Ng : List Str} {names : List Str}
    {params : Arguments} {body : Expr} {scope : Scope} {t : XK → TE} {ta : TA} {e1 e2 : Expr} {p lpos pos : Pos} (hg : Gl X x) (hm : X.mg x = some (.ref g)) (hk : PySem.W.keepIn X.K (.ref g) = true)
    (lk : X.K.lookup g = some ⟨oc, od, .func (PySem.W.fnOf x x pg bg sg dV kV doc pm an cdv ct), osl⟩) (hcg : PySem.W.codeIn X.K cdv x = true) (hb : L2.Binds X.K (PySem.W.fnOf x x pg bg sg dV kV doc pm an cdv ct) ps []) (hps : ps.length = 3) (Sg : FnScope Ng ps sg) (hNg : Ng[0]? = some a) (hva : Vis sg a)
    (hG : ∀ (f c' : Addr) (s : Shared) (H : Hp) (Q : VK) (tl : XK → Hp → VK → Prop) (l : List Nat) (v : V), Room (k + 1) (X.A.deeper (envOfC x sg s.heap.objs.size g cdv)) →
      (∀ (W : WX) (pn : List (Addr × Obj)) (xe : Value → Shared → Prop) (p1 p2 : Pos), L2N.Takes ((cxOf CX0 X.prog X.w X.K X.mg X.base Ng x sg g cdv X.A X.stack s H E0).tr pn xe) W →
        PE ((cxOf CX0 X.prog X.w X.K X.mg X.base Ng x sg g cdv X.A X.stack s H E0).tr pn xe) (.Call (.Name a p1) [] [] p2) (fun σZ HZ Q => σZ[0]? = some (some (.ref f)) ∧ HZ c' = some (CodeO c' (X.env.qual ++ "<lambda>")) ∧ tl (WE W σZ) HZ Q)) →
      H c' = some (CodeO c' (X.env.qual ++ "<lambda>")) → GG tl l v H Q →
      ∃ t, PSs (cxOf CX0 X.prog X.w X.K X.mg X.base Ng x sg g cdv X.A X.stack s H E0) bg t ∧ t { nx := fun _ H' => Q .non H', rt := Q } (L2.start Ng [.ref f, .str (tx l), v]) H)
    (TB : TabB X.base X.mg c P) (hcode : X.env.code = .ref c) (hmT : (P, X.env.qual ++ "<lambda>") ∈ T) (hu : ∀ p ∈ T, p.1 = P → p.2 = X.env.qual ++ "<lambda>") (hr : Room (k + 2) X.A) (L : LamN X.N X.env.scope scope names) (hdv : DefV X params names)
    (hbody : ∀ (A : Around) (outer : List Env) (s : Shared) (H : Hp) (E : XK) (f c' : Addr), Room k (A.deeper (lamEnv X scope s.heap.objs.size f c')) → PE (lamCxN X A outer s H E scope f c') body (t E)) (ha : PA X [e1, e2] ta)
    (hdb : (x == ("__debug__" : Str)) = false := by decide) (hd : (a == ("__debug__" : Str)) = false := by decide) (hcd : (a == ("__classdict__" : Str)) = false := by decide)
    (hpl : (backTo pos (starEach [e1, e2] X.env)).any (·.1) = false := by rfl) :
    PE X (.Call (.Name x p) [.Lambda params body scope lpos, e1, e2] [] pos) (tRefN T t ta GG) := by
  refine ⟨fun pins s σ H Q I h => ?_⟩
  obtain ⟨hT, h⟩ := h
  refine wpAny_Call_Name_kw (ld_glob I hg hm ?_ hdb)
  refine PySem.W.callWith_K (h₀ := X.base) I.ok.mod.kin hk ?_ (by rfl) hpl
  show wpAny _ _ (spliced ((false, eval (.Lambda params body scope lpos) X.env) :: backTo pos (starEach [e1, e2] X.env))) _ _ s
  refine Calls.spliced_cons (lam_makeN I TB hcode hmT hu hT (L.has I.ok) hdv fun f c' pm' ctv dv bs H1 s' I1 eN T1 hf hF hco hbs D => ?_)
  obtain ⟨fp, hfm, hTm, hfp, hob⟩ : ∃ fp : List Addr, f ∈ fp ∧ (∀ T', dv = .ref T' → T' ∈ fp) ∧ (∀ b ∈ fp, FpOk X pins H1 b) ∧ ∀ b ∈ fp, ∃ o, s'.heap.get? b = some o ∧ ∀ v, o.data ≠ .cell v := by
    rcases D with ⟨e, _⟩ | ⟨T', o, u, n, e, fT, hT', hd', _⟩
    · refine ⟨[f], List.mem_singleton.mpr rfl, ?_, fun b hb => ?_, fun b hb => ?_⟩
      · intro T2 e'; rw [e] at e'; cases e'
      · rw [List.mem_singleton.mp hb]; exact hF
      · rw [List.mem_singleton.mp hb]; exact ⟨_, hf, fun v z => by cases z⟩
    · refine ⟨[f, T'], List.mem_cons_self, ?_, fun b hb => ?_, fun b hb => ?_⟩
      · intro T2 e'; rw [e] at e'; cases e'; exact List.mem_cons_of_mem _ List.mem_cons_self
      · rcases List.mem_cons.mp hb with z | z
        · rw [z]; exact hF
        · rw [List.mem_singleton.mp z]; exact fT
      · rcases List.mem_cons.mp hb with z | z
        · rw [z]; exact ⟨_, hf, fun v z => by cases z⟩
        · rw [List.mem_singleton.mp z]; exact ⟨_, hT', fun v z => by rw [hd'] at z; cases z⟩
  refine thn (ha.run pos (pins ++ pinsAt fp s'.heap) s' σ H1 _ (I1.pinned hfp hob) (h H1 eN T1)) fun us s2 ⟨vs, H2, I2, r2, l, v, ev, eE, gg⟩ => ?_
  subst ev
  refine ⟨I2.kIn, ?_⟩
  have I3 : Inv X pins σ H2 s2 := I2.unpinned
  have pinAt : ∀ b o, b ∈ fp → s'.heap.get? b = some o → s2.heap.get? b = some o ∧ H2 b = none ∧ b ∉ frs X.stack := fun b o hb e => by
    have P1 := I2.pin (b, o) (List.mem_append_right _ (List.mem_append_right _ (mem_pinsAt hb e)))
    exact ⟨P1.1, P1.2.1, fun hm => (List.mem_cons.mp (I3.stkSub b hm)).elim P1.2.2.1 P1.2.2.2.1⟩
  obtain ⟨hf2, hfn2, hfr2⟩ := pinAt f _ hfm hf
  have D2 : DvAt s2.heap H2 X pins dv bs params := by
    rcases D with ⟨e, z⟩ | ⟨T', o, u, n, e, fT, hT', hd', z⟩
    · exact .inl ⟨e, z⟩
    · obtain ⟨g1, g2, _⟩ := pinAt T' o (hTm T' e) hT'
      exact .inr ⟨T', o, u, n, e, ⟨g2, fT.2⟩, g1, hd', z⟩
  have hDr : ∀ T', dv = .ref T' → T' ∉ frs X.stack := fun T' e => by
    obtain ⟨o, ho, _⟩ := hob T' (hTm T' e)
    exact (pinAt T' o (hTm T' e) ho).2.2
  have L2 : LamN X.N X.env.scope scope (bs.map (·.1)) := by rw [hbs]; exact L
  have rv : Vals (V.ref f :: [V.str (tx l), v]) (Value.ref f :: us) := .cons rfl r2
  have hlen : (Value.ref f :: us).length = ps.length := by rw [← rv.length, hps]; rfl
  have bb := hb s2 (Value.ref f :: us) I3.kIn (by rw [List.append_nil]; exact hlen)
  rw [List.append_nil] at bb
  have rc : codeAny (model X.prog X.w) X.A (.call (.ref g) ⟨Value.ref f :: us, []⟩) (CR CX0 X.stack X.prog X.w H2 s2 Q E0) s2 := by
    refine run_ofS (N := Ng) (ps := ps) (us := Value.ref f :: us) (vs := V.ref f :: [V.str (tx l), v]) lk hcg Sg hr I3.env0 bb rv (by rw [hps]; rfl) fun hr' => ?_
    exact hG f c' s2 H2 Q (fun E' H' Q' => t E' σ H' Q') l v hr' (fun W pn xe p1 p2 tk => pe_actN (i := 0) I3 L2 hf2 hfn2 hfr2 D2 hDr tk hr' (fun A outer s H E hr2 => hbody A outer s H E f c' hr2) hNg hva hd hcd) (eE _ _ hco) gg
  show wpAny _ _ (call (.ref g) (Value.ref f :: us)) _ _ _
  refine wpAny_call (codeAny_mono rc fun r s3 hq => ?_)
  cases r with
  | error e => exact (show False from hq).elim
  | ok fl =>
    cases fl with
    | ret u => exact I3.after hq
    | next => exact False.elim hq
    | brk => exact False.elim hq
    | cont => exact False.elim hq
end
end Sr
/-! functions as values: tracked by the heap, kept in lists, handed out of the def that made them, called later -/
namespace Sr
open PySem PySem.Spec PyProof.Rows L2 SrX LamX
/-- the object at c is just o -/
def ObjO (c : Addr) (o : Obj) : HO := .ext fun h => h.get? c = some o
def LamO (f : Addr) (qual : Str) (params : Arguments) (body : Expr) (scope : Scope) (cl : List (Str × Addr)) (c' : Addr) (dv : Value) : HO := .ext fun h => ∃ pm ctv, h.get? f = some (lamOb qual params body scope cl pm c' ctv dv)
def TupO (T : Addr) (u : Value) : HO := .ext fun h => ∃ o n, h.get? T = some o ∧ o.data = .seq #[u] n
section
variable {P : Program} {w : World} {H : Hp} {h : Heap} {a : Addr}
theorem objO_ok {o : Obj} (e : h.get? a = some o) : ObjOk P w H h a (ObjO a o) := ⟨e, ⟨_, e⟩, fun h1 h2 e st => st _ e⟩
theorem lamO_ok {qual : Str} {params : Arguments} {body : Expr} {scope : Scope} {cl : List (Str × Addr)} {c' : Addr} {dv pm ctv : Value} (e : h.get? a = some (lamOb qual params body scope cl pm c' ctv dv)) :
    ObjOk P w H h a (LamO a qual params body scope cl c' dv) := ⟨⟨pm, ctv, e⟩, ⟨_, e⟩, fun h1 h2 ⟨pm, ctv, e⟩ st => ⟨pm, ctv, st _ e⟩⟩
theorem tupO_ok {o : Obj} {u : Value} {n : Nat} (e : h.get? a = some o) (hd : o.data = .seq #[u] n) : ObjOk P w H h a (TupO a u) := ⟨⟨o, n, e, hd⟩, ⟨_, e⟩, fun h1 h2 ⟨o, n, e, hd⟩ st => ⟨o, n, st _ e, hd⟩⟩
end
theorem objO_nt {c : Addr} {o : Obj} (ps : Array Value) : ObjO c o ≠ .tbl ps := fun z => by unfold ObjO at z; cases z
theorem objO_ntup {c : Addr} {o : Obj} (ps : List V) : ObjO c o ≠ .tup ps := fun z => by unfold ObjO at z; cases z
theorem objO_nfrz {c : Addr} {o ob : Obj} {u : HO} : ObjO c o ≠ .frz ob u := fun z => by unfold ObjO at z; cases z
theorem objO_nlst {c : Addr} {o : Obj} (ps : List V) : ObjO c o ≠ .lst ps := fun z => by unfold ObjO at z; cases z
theorem objO_nown {c a : Addr} {o : Obj} : ObjO c o ≠ .own a := fun z => by unfold ObjO at z; cases z
theorem lamO_nt {f : Addr} {qual : Str} {params : Arguments} {body : Expr} {scope : Scope} {cl : List (Str × Addr)} {c' : Addr} {dv : Value} (ps : Array Value) : LamO f qual params body scope cl c' dv ≠ .tbl ps := fun z => by unfold LamO at z; cases z
theorem tupO_nt {T : Addr} {u : Value} (ps : Array Value) : TupO T u ≠ .tbl ps := fun z => by unfold TupO at z; cases z
section
variable {X : Cx} {pins : List (Addr × Obj)} {σ : L2.St} {H : Hp} {s : Shared}
/-- an object that stands there untracked is tracked from now on -/
theorem Inv_track {f : Addr} {o : HO} (I : Inv X pins σ H s) (F : FpOk X pins H f) (new : ObjOk X.prog X.w (upd H f o) s.heap f o) : Inv X pins σ (upd H f o) s := by
  obtain ⟨f0, f1, f2, f3, f4, f5⟩ := F
  have sm : ∀ b u, H b = some u → upd H f o b = some u := fun b u e => by rw [upd_ne (ne_of_none e f0)]; exact e
  refine ⟨I.ok, I.os, I.bare, ⟨I.base.keep, I.base.slot, fun b ob e n hx => ?_, I.base.there, fun b xs e => sm _ _ (I.base.tups b xs e), fun b ob u e => sm _ _ (I.base.frzs b ob u e), fun b ps e => ?_⟩, I.loc, I.cell, ?_, fun x c e => ?_, fun p hp => ?_, fun b u e => ?_, I.len⟩
  · have hb : b ≠ f := fun z => by
      rcases f3 with z2 | z2
      · exact hx (by rw [z]; exact z2)
      · exact Nat.lt_irrefl _ (Nat.lt_of_lt_of_le (Heap.lt_size e) (by rw [z]; exact z2))
    rw [upd_ne hb]
    exact I.base.free b ob e n hx
  · obtain ⟨more, q⟩ := I.base.tbls b ps e
    exact ⟨more, sm _ _ q⟩
  · rw [upd_ne (Ne.symm f1)]; exact I.free
  · rw [upd_ne (f4 x c e)]; exact I.freeC x c e
  · obtain ⟨h1, h2, h3⟩ := I.pin p hp
    exact ⟨h1, by rw [upd_ne (f5 p hp)]; exact h2, h3⟩
  · by_cases hb : b = f
    · rw [hb, upd_same] at e
      cases e
      rw [hb]
      exact new
    · rw [upd_ne hb] at e
      exact (I.hok b u e).stay (fun c v _ q => q) (fun c q => sm _ _ q) fun c xs q => sm _ _ q
end
/-- the lambda's defaults, tracked, and how they are bound -/
def DvO (H : Hp) (dv : Value) (params : Arguments) (names : List Str) : Prop := ∃ bs : List (Str × Value), bs.map (·.1) = names ∧
  ((dv = .none ∧ ∀ (q : Str) (body : Expr) (scope : Scope) (cl : List (Str × Addr)) (pm cv ct : Value), bindArgs (lamFd q params body scope cl pm cv ct .none) ⟨[], []⟩ = pure bs) ∨
  ∃ (T : Addr) (u : Value), dv = .ref T ∧ H T = some (TupO T u) ∧ ∀ (q : Str) (body : Expr) (scope : Scope) (cl : List (Str × Addr)) (pm cv ct : Value), ∃ k, bindArgs (lamFd q params body scope cl pm cv ct (.ref T)) ⟨[], []⟩ = seqItems? (.ref T) >>= k ∧ k (some #[u]) = pure bs)
theorem DvO.ext {H H1 : Hp} {dv : Value} {params : Arguments} {names : List Str} (h : DvO H dv params names) (e : ExtN H H1) : DvO H1 dv params names := by
  obtain ⟨bs, h1, h2⟩ := h
  rcases h2 with h2 | ⟨T, u, a1, a2, a3⟩
  · exact ⟨bs, h1, .inl h2⟩
  · exact ⟨bs, h1, .inr ⟨T, u, a1, e _ _ a2 tupO_nt, a3⟩⟩
theorem bind_dvo {H : Hp} {dv : Value} {params : Arguments} {names : List Str} {q : Str} {body : Expr} {scope : Scope} {cl : List (Str × Addr)} {pm cv ct : Value} {sZ : Shared} {Pg : Program} {w : World} {M : Model} {A : Around} {E : Value → Shared → Prop} {Q : List (Str × Value) → Shared → Prop}
    (D : DvO H dv params names) (ok : HOk Pg w H sZ.heap) (q' : ∀ bs : List (Str × Value), bs.map (·.1) = names → Q bs sZ) : wpAny M A (bindArgs (lamFd q params body scope cl pm cv ct dv) ⟨[], []⟩) Q E sZ := by
  obtain ⟨bs, hbs, D⟩ := D
  rcases D with ⟨rfl, e⟩ | ⟨T, u, rfl, hT, e⟩
  · rw [e]
    exact wpAny_pure (q' bs hbs)
  · obtain ⟨⟨o, n, hTo, hd⟩, _, _⟩ := ok T _ hT
    obtain ⟨k, e1, e2⟩ := e q body scope cl pm cv ct
    rw [e1]
    refine wpAny_bind (wpAny_seqItems hTo hd ?_)
    rw [e2]
    exact wpAny_pure (q' bs hbs)
def tLam (T : List (Addr × Str)) (qual : Str) (params : Arguments) (body : Expr) (scope : Scope) (cl : List (Str × Addr)) (names : List Str) : TE := fun _ H Q =>
  Tabs T H ∧ ∀ (f c' : Addr) (dv : Value) (H1 : Hp), ExtN H H1 → Tabs T H1 → H1 f = some (LamO f qual params body scope cl c' dv) → H1 c' = some (CodeO c' qual) → DvO H1 dv params names → Q (.ref f) H1
section
variable {X : Cx}
theorem pe_lam {T : List (Addr × Str)} {c P : Addr} {params : Arguments} {body : Expr} {scope : Scope} {pos : Pos} {names : List Str} (TB : TabB X.base X.mg c P) (hcode : X.env.code = .ref c) (hmT : (P, X.env.qual ++ "<lambda>") ∈ T) (hu : ∀ p ∈ T, p.1 = P → p.2 = X.env.qual ++ "<lambda>")
    (L : LamN X.N X.env.scope scope names) (hdv : DefV X params names) : PE X (.Lambda params body scope pos) (tLam T (X.env.qual ++ "<lambda>") params body scope (cloFrom X.env.cells scope.names []) names) := by
  refine ⟨fun pins s σ H Q I h => ?_⟩
  obtain ⟨hT, h⟩ := h
  refine lam_makeN I TB hcode hmT hu hT (L.has I.ok) hdv fun f c' pm ctv dv bs H1 s' I1 eN T1 hf hF hco hbs D => ?_
  rcases D with ⟨e, hb⟩ | ⟨T', o, u, n, e, fT, hT', hd', hb⟩
  · have I2 := Inv_track I1 hF (lamO_ok (P := X.prog) (w := X.w) (H := upd H1 f (LamO f (X.env.qual ++ "<lambda>") params body scope (cloFrom X.env.cells scope.names []) c' dv)) hf)
    have e2 := ex_new (u := LamO f (X.env.qual ++ "<lambda>") params body scope (cloFrom X.env.cells scope.names []) c' dv) hF.1
    exact ⟨.ref f, _, I2, rfl, h f c' dv _ (eN.trans (ExtN.of e2)) (Tabs.ext T1 e2) upd_same (e2 _ _ hco) ⟨bs, hbs, .inl ⟨e, hb⟩⟩⟩
  · have I2 := Inv_track I1 fT (tupO_ok (P := X.prog) (w := X.w) (H := upd H1 T' (TupO T' u)) hT' hd')
    have e2 := ex_new (u := TupO T' u) fT.1
    have nfT : f ≠ T' := fun z => by
      rw [z, hT'] at hf
      cases hf
      cases hd'
    have hF2 : FpOk X pins (upd H1 T' (TupO T' u)) f := ⟨by rw [upd_ne nfT]; exact hF.1, hF.2⟩
    have I3 := Inv_track I2 hF2 (lamO_ok (P := X.prog) (w := X.w) (H := upd (upd H1 T' (TupO T' u)) f (LamO f (X.env.qual ++ "<lambda>") params body scope (cloFrom X.env.cells scope.names []) c' dv)) hf)
    have e3 := ex_new (u := LamO f (X.env.qual ++ "<lambda>") params body scope (cloFrom X.env.cells scope.names []) c' dv) hF2.1
    have e23 := e2.trans e3
    exact ⟨.ref f, _, I3, rfl, h f c' dv _ (eN.trans (ExtN.of e23)) (Tabs.ext T1 e23) upd_same (e23 _ _ hco) ⟨bs, hbs, .inr ⟨T', u, e, e3 _ _ upd_same, hb⟩⟩⟩
end
/-! ### cells taken out of what is tracked, and put back -/
def rmL (H : Hp) (cs : List Addr) : Hp := fun b => if b ∈ cs then none else H b
def adL (H H' : Hp) (cs : List Addr) : Hp := fun b => if b ∈ cs then H b else H' b
theorem rmL_in {H : Hp} {cs : List Addr} {b : Addr} (h : b ∈ cs) : rmL H cs b = none := by unfold rmL; rw [if_pos h]
theorem rmL_out {H : Hp} {cs : List Addr} {b : Addr} (h : b ∉ cs) : rmL H cs b = H b := by unfold rmL; rw [if_neg h]
theorem adL_in {H H' : Hp} {cs : List Addr} {b : Addr} (h : b ∈ cs) : adL H H' cs b = H b := by unfold adL; rw [if_pos h]
theorem adL_out {H H' : Hp} {cs : List Addr} {b : Addr} (h : b ∉ cs) : adL H H' cs b = H' b := by unfold adL; rw [if_neg h]
theorem rmL_of {H : Hp} {cs : List Addr} {b : Addr} {u : HO} (h : rmL H cs b = some u) : b ∉ cs ∧ H b = some u := by
  by_cases hb : b ∈ cs
  · rw [rmL_in hb] at h; cases h
  · rw [rmL_out hb] at h; exact ⟨hb, h⟩
theorem ex_rmL {H : Hp} {cs : List Addr} : Ex (rmL H cs) H := fun b u e => (rmL_of e).2
/-- the cells at cs are tracked -/
def Cels (H : Hp) (cs : List Addr) : Prop := ∀ c ∈ cs, ∃ o v, H c = some (ObjO c o) ∧ o.data = .cell v
theorem Cels.not {H : Hp} {cs : List Addr} {b : Addr} {u : HO} (h : Cels H cs) (e : H b = some u) (n : ∀ c o, u ≠ ObjO c o) : b ∉ cs := fun hb => by
  obtain ⟨o, v, q, _⟩ := h b hb
  rw [e] at q
  exact n _ _ (Option.some.inj q)
theorem rmL_at {H : Hp} {cs : List Addr} {b : Addr} {u : HO} (h : Cels H cs) (e : H b = some u) (n : ∀ c o, u ≠ ObjO c o) : rmL H cs b = some u := by
  rw [rmL_out (h.not e n)]; exact e
theorem hok_rmL {Pg : Program} {w : World} {H : Hp} {h : Heap} {cs : List Addr} (C : Cels H cs) (ok : HOk Pg w H h) : HOk Pg w (rmL H cs) h := fun b u e =>
  (ok b u (rmL_of e).2).stay (fun _ _ _ q => q) (fun c q => rmL_at C q fun _ _ z => objO_nown z.symm) fun c xs q => rmL_at C q fun _ _ z => objO_ntup _ z.symm
theorem un_adL {fs : List Addr} {H H' : Hp} {h h' : Heap} {cs : List Addr} (C : Cels H cs) (u : Un fs [] (rmL H cs) H' h h') : Un fs [] H (adL H H' cs) h h' := by
  have nn : ∀ b, H b = none → b ∉ cs := fun b e hb => by
    obtain ⟨o, v, q, _⟩ := C b hb
    rw [e] at q; cases q
  refine ⟨fun b o e n hb hx => u.keep b o e (by rw [rmL_out (nn b n)]; exact n) hb hx, fun b o e n hb hx => u.slot b o e (by rw [rmL_out (nn b n)]; exact n) hb hx, fun b o e n hx => ?_, u.there, fun b xs e => ?_, fun b o x e => ?_, fun b ps e => ?_⟩
  · rw [adL_out (nn b n)]
    exact u.free b o e (by rw [rmL_out (nn b n)]; exact n) hx
  · have hb := C.not e fun _ _ z => objO_ntup _ z.symm
    rw [adL_out hb]
    exact u.tups b xs (by rw [rmL_out hb]; exact e)
  · have hb := C.not e fun _ _ z => objO_nfrz z.symm
    rw [adL_out hb]
    exact u.frzs b o x (by rw [rmL_out hb]; exact e)
  · have hb := C.not e fun _ _ z => objO_nt _ z.symm
    rw [adL_out hb]
    exact u.tbls b ps (by rw [rmL_out hb]; exact e)
/-- put back: each cell's object is what it was -/
theorem hok_adL {Pg : Program} {w : World} {H H' : Hp} {h h' : Heap} {cs : List Addr} (C : Cels H cs) (ok : HOk Pg w H h) (ok' : HOk Pg w H' h') (n : ∀ c ∈ cs, H' c = none) (k : ∀ c ∈ cs, ∀ o, h.get? c = some o → h'.get? c = some o) : HOk Pg w (adL H H' cs) h' := fun b u e => by
  by_cases hb : b ∈ cs
  · rw [adL_in hb] at e
    obtain ⟨o, v, q, _⟩ := C b hb
    rw [e] at q
    cases q
    obtain ⟨q2, _, _⟩ := ok b _ e
    exact objO_ok (k b hb o q2)
  · rw [adL_out hb] at e
    have nc : ∀ c x, H' c = some x → c ∉ cs := fun c x q hc => by rw [n c hc] at q; cases q
    exact (ok' b u e).stay (fun _ _ _ q => q) (fun c q => by rw [adL_out (nc _ _ q)]; exact q) fun c xs q => by rw [adL_out (nc _ _ q)]; exact q
theorem cx_adL {Pg : Program} {w : World} {outer : List Env} {H : Hp} {s : Shared} {cs : List Addr} {E E' : XK} {e : Value} {s' : Shared} (C : Cels H cs) (ok : HOk Pg w H s.heap) (fr : ∀ c ∈ cs, c ∉ frs outer) (hE : ∀ cls d H', (∀ c ∈ cs, H' c = none) → E' cls d H' → E cls d (adL H H' cs))
    (h : L2N.CX Pg w outer (rmL H cs) s E' e s') : L2N.CX Pg w outer H s E e s' := by
  obtain ⟨a, B, H', cls, d, rfl, fl, hok, ub, na, os, ag, q⟩ := h
  have nn : ∀ b, H b = none → b ∉ cs := fun b e hb => by
    obtain ⟨o, v, q, _⟩ := C b hb
    rw [e] at q; cases q
  have at_ : ∀ c ∈ cs, ∃ o, s.heap.get? c = some o := fun c hc => by
    obtain ⟨o, v, q, _⟩ := C c hc
    obtain ⟨z, _, _⟩ := ok c _ q
    exact ⟨o, z⟩
  have hn : ∀ c ∈ cs, H' c = none := fun c hc => by
    obtain ⟨o, z⟩ := at_ c hc
    exact ub.free c o z (rmL_in hc)
  have kc : ∀ c ∈ cs, ∀ o, s.heap.get? c = some o → B.get? c = some o := fun c hc o z => ub.keep c o z (rmL_in hc) (fr c hc)
  refine ⟨a, B, adL H H' cs, cls, d, rfl, fl, hok_adL C ok hok hn kc, ⟨fun b o e n hb => ub.keep b o e (by rw [rmL_out (nn b n)]; exact n) hb, ub.slot, fun b o e n => ?_, ub.there, fun b xs e => ?_, fun b o x e => ?_, fun b ps e => ?_⟩, ?_, os, ag, hE _ _ _ hn q⟩
  · rw [adL_out (nn b n)]
    exact ub.free b o e (by rw [rmL_out (nn b n)]; exact n)
  · have hb := C.not e fun _ _ z => objO_ntup _ z.symm
    rw [adL_out hb]
    exact ub.tups b xs (by rw [rmL_out hb]; exact e)
  · have hb := C.not e fun _ _ z => objO_nfrz z.symm
    rw [adL_out hb]
    exact ub.frzs b o x (by rw [rmL_out hb]; exact e)
  · have hb := C.not e fun _ _ z => objO_nt _ z.symm
    rw [adL_out hb]
    exact ub.tbls b ps (by rw [rmL_out hb]; exact e)
  · have ha : a ∉ cs := fun hc => by
      obtain ⟨o, z⟩ := at_ a hc
      have z2 := kc a hc o z
      have z3 := fl.2.1
      rw [z2] at z3; cases z3
    rw [adL_out ha]
    exact na
/-! ### the call of a tracked function -/
/-- the names of a lambda, without the maker's -/
structure LamS (N : List Str) (scope : Scope) (bs : List Str) : Prop where
  kind : scope.kind = .function
  co : scope.isCoroutine = false
  gen : scope.isGenerator = false
  own : ∀ y ∈ scope.names, y.2 ≠ .cell ∧ (y.2 = .local → y.1 ∉ N)
  par : ∀ y ∈ bs, scope.names.lookup y = some .local
theorem LamN.s {N : List Str} {sc scope : Scope} {bs : List Str} (L : LamN N sc scope bs) : LamS N scope bs := ⟨L.kind, L.co, L.gen, L.own, L.par⟩
/-- the closure's cells, tracked, and what is in them -/
structure ClosT (H : Hp) (cl : List (Str × Addr)) (N : List Str) (σ : L2.St) (scope : Scope) : Prop where
  inj : ∀ x y c, cl.lookup x = some c → cl.lookup y = some c → x = y
  has : ∀ y, scope.names.lookup y = some .free → ∃ c, cl.lookup y = some c
  cel : Cels H (cl.map (·.2))
  val : ∀ (i : Nat) (y : Str) (v : V), N[i]? = some y → σ[i]? = some (some v) → scope.names.lookup y = some .free → ∃ c o u, cl.lookup y = some c ∧ H c = some (ObjO c o) ∧ o.data = .cell (some u) ∧ RelV v u
  len : σ.length = N.length
theorem ClosT.ext {H H1 : Hp} {cl : List (Str × Addr)} {N : List Str} {σ : L2.St} {scope : Scope} (h : ClosT H cl N σ scope) (e : ExtN H H1) : ClosT H1 cl N σ scope :=
  ⟨h.inj, h.has, fun c hc => by
    obtain ⟨o, v, q, r⟩ := h.cel c hc
    exact ⟨o, v, e _ _ q objO_nt, r⟩, fun i y v e1 e2 e3 => by
    obtain ⟨c, o, u, a1, a2, a3⟩ := h.val i y v e1 e2 e3
    exact ⟨c, o, u, a1, e _ _ a2 objO_nt, a3⟩, h.len⟩
theorem lookup_mem2 {cl : List (Str × Addr)} {y : Str} {c : Addr} (h : cl.lookup y = some c) : c ∈ cl.map (·.2) := List.mem_map.mpr ⟨(y, c), PySem.mem_of_lookup h, rfl⟩
/-- the context of a tracked lambda's body -/
def lamCxC (P : Program) (w : World) (K : PySem.W.Frag) (mg : Str → Option Value) (base : Heap) (N : List Str) (qual : Str) (cl : List (Str × Addr)) (A : Around) (outer : List Env) (s : Shared) (H : Hp) (E : XK) (scope : Scope) (f c' : Addr) : Cx where
  prog := P
  w := w
  K := K
  mg := mg
  base := base
  A := A.deeper (PySem.W.envX qual scope s.heap.objs.size f (.ref c') cl)
  N := N
  s_0 := s
  H_0 := H
  env := PySem.W.envX qual scope s.heap.objs.size f (.ref c') cl
  outer := outer
  stack := PySem.W.envX qual scope s.heap.objs.size f (.ref c') cl :: outer
  ex := []
  fn := fun _ => false
  calm := true
  pn := []
  xe := fun e s' => wpAny (model P w) (A.deeper (PySem.W.envX qual scope s.heap.objs.size f (.ref c') cl)) (leaving (PySem.W.envX qual scope s.heap.objs.size f (.ref c') cl) e) (fun _ s'' => L2N.CX P w outer H s E e s'') (fun e' s'' => L2N.CX P w outer H s E e' s'') s'
section
variable {P : Program} {w : World} {K : PySem.W.Frag} {mg : Str → Option Value} {base : Heap} {N : List Str} {qual : Str} {cl : List (Str × Addr)} {σ : L2.St} {HZ : Hp} {s1 : Shared}
theorem lam_startC {A : Around} {outer : List Env} {E : XK} {scope : Scope} {bs : List Str} {f c' : Addr} {h₁ : Heap} {tk : Nat} {m : Str → Option Value} (C : ClosT HZ cl N σ scope) (L : LamS N scope bs) (e0 : Env0 P w K mg base A outer s1 HZ) (hd : A.handled = none)
    (hns : h₁.Ns s1.heap.objs.size m) (kp : ∀ b o, s1.heap.get? b = some o → h₁.get? b = some o) :
    Inv (lamCxC P w K mg base N qual cl A outer s1 (rmL HZ (cl.map (·.2))) E scope f c') [] σ (rmL HZ (cl.map (·.2))) { s1 with heap := h₁, toks := tk } := by
  have noA : ∀ b : Addr, b ∉ (lamCxC P w K mg base N qual cl A outer s1 (rmL HZ (cl.map (·.2))) E scope f c').ex := fun b z => absurd (show b ∈ ([] : List Addr) from z) (by simp)
  have nr : ∀ b, HZ b = none → rmL HZ (cl.map (·.2)) b = none := fun b e => by
    by_cases hb : b ∈ cl.map (·.2)
    · exact rmL_in hb
    · rw [rmL_out hb]; exact e
  have hok := hok_rmL C.cel e0.hok
  have cellK : ∀ {c : Addr} {o : Obj} {v : Option Value}, HZ c = some (ObjO c o) → o.data = .cell v → h₁.IsCell c v := fun {c o v} q r => by
    obtain ⟨z, _, _⟩ := e0.hok c _ q
    exact ⟨o, kp _ _ z, r⟩
  refine ⟨⟨e0.mod, L.kind, rfl, rfl, Nat.le_refl _, fun y z c e1 e2 => C.inj y z c e1 e2, fun y hy => ?_, fun y c z _ => ?_, fun _ => hd, Around.frames_deeper e0.frames, .inr ⟨rfl, rfl⟩, fun b z => absurd z (noA b), fun b o e => ⟨(e0.bs b o e).1, nr b (e0.bs b o e).2⟩, e0.bsz, fun b _ _ => noA b,
      fun b z => absurd z (noA b), e0.funs, fun b hb => nr b (e0.frf b hb)⟩,
    rfl, e0.bare, Un.kept kp, ⟨_, hns, fun i y v e1 e2 e3 => ?_⟩, fun y c e => ?_, nr _ (e0.hok.fresh (Nat.le_refl _)), fun y c e => ?_, fun q hq => absurd (show q ∈ ([] : List (Addr × Obj)) ++ [] from hq) (by simp), hok.kept kp, C.len⟩
  · have hy : scope.names.lookup y = some .cell ∨ scope.names.lookup y = some .free := hy
    rcases hy with hy | hy
    · exact absurd rfl (L.own _ (PySem.mem_of_lookup hy)).1
    · exact C.has y hy
  · have z : false = true := z
    cases z
  · have e3 : Vis scope y := e3
    rcases e3 with k | k | k
    · exact absurd (List.mem_of_getElem? (show N[i]? = some y from e1)) ((L.own _ (PySem.mem_of_lookup k)).2 rfl)
    · exact absurd rfl (L.own _ (PySem.mem_of_lookup k)).1
    · obtain ⟨c, o, u, a1, a2, a3, a4⟩ := C.val i y v e1 e2 k
      exact ⟨u, a4, .inr ⟨.inr k, c, a1, cellK a2 a3⟩⟩
  · have e : cl.lookup y = some c := e
    obtain ⟨o, v, q, r⟩ := C.cel c (lookup_mem2 e)
    exact ⟨v, cellK q r⟩
  · have e : cl.lookup y = some c := e
    exact rmL_in (lookup_mem2 e)
end
def tAct (cl : List (Str × Addr)) (i : Nat) (f : Addr) (qual : Str) (params : Arguments) (body : Expr) (scope : Scope) (c' : Addr) (dv : Value) (names N : List Str) (σL : L2.St) (W : WX) (tb : XK → TE) : TE := fun σZ HZ Q =>
  σZ[i]? = some (some (.ref f)) ∧ HZ c' = some (CodeO c' qual) ∧ HZ f = some (LamO f qual params body scope cl c' dv) ∧ DvO HZ dv params names ∧ ClosT HZ cl N σL scope ∧
    tb (fun cls d H' => (∀ c ∈ cl.map (·.2), H' c = none) → WE W σZ cls d (adL HZ H' (cl.map (·.2)))) σL (rmL HZ (cl.map (·.2))) (fun v H' => (∀ c ∈ cl.map (·.2), H' c = none) → Q v (adL HZ H' (cl.map (·.2))))
section
variable {P : Program} {w : World} {K : PySem.W.Frag} {mg : Str → Option Value} {base : Heap} {N : List Str} {qual : Str} {cl : List (Str × Addr)} {σL : L2.St}
theorem pe_actC {A : Around} {outer : List Env} {s : Shared} {H : Hp} {CXg : CXT} {Eg : XK} {Ng : List Str} {qg : Str} {sg : Scope} {g f c' : Addr} {cdg dv : Value} {names : List Str} {params : Arguments} {body : Expr} {scope : Scope} {k i : Nat} {a : Str} {pn : List (Addr × Obj)} {xe : Value → Shared → Prop} {W : WX} {tb : XK → TE} {p1 p2 : Pos}
    (L : LamS N scope names) (tk : L2N.Takes ((cxOf CXg P w K mg base Ng qg sg g cdg A outer s H Eg).tr pn xe) W) (hr : Room (k + 1) (A.deeper (envOfC qg sg s.heap.objs.size g cdg)))
    (hbody : ∀ (A : Around) (outer : List Env) (s : Shared) (H : Hp) (E : XK) (f c' : Addr) (cl : List (Str × Addr)), Room k (A.deeper (PySem.W.envX qual scope s.heap.objs.size f (.ref c') cl)) → PE (lamCxC P w K mg base N qual cl A outer s H E scope f c') body (tb E))
    (hN : Ng[i]? = some a) (hv : Vis sg a) (hd : (a == ("__debug__" : Str)) = false := by decide) (hcd : (a == ("__classdict__" : Str)) = false := by decide) :
    PE ((cxOf CXg P w K mg base Ng qg sg g cdg A outer s H Eg).tr pn xe) (.Call (.Name a p1) [] [] p2) (tAct cl i f qual params body scope c' dv names N σL W tb) := by
  refine ⟨fun pinsZ sZ σZ HZ Q IZ h => ?_⟩
  obtain ⟨hs, hc, hf, hdv, C, ht⟩ := h
  refine wpAny_Call_Name_kw (thn ((pe_var (pos := p1) (i := i) hN hv hd hcd).run pinsZ sZ σZ HZ (fun v H1 => v = .ref f ∧ H1 = HZ) IZ ⟨.ref f, hs, rfl, rfl⟩) fun u s1 ⟨v, H1, I1, r1, q1⟩ => ?_)
  obtain ⟨ev, eH⟩ := q1
  subst ev
  rw [eH] at I1
  obtain rfl : u = Value.ref f := r1
  obtain ⟨⟨pm, ctv, of1⟩, _, _⟩ := I1.hok f _ hf
  refine PySem.W.callWith_F0 ⟨_, _, _, _, of1⟩ ?_
  obtain ⟨⟨oc, vs, t, hoc, hdc, hvc⟩, _, _⟩ := I1.hok c' _ hc
  have fr : ∀ c ∈ cl.map (·.2), c ∉ frs (envOfC qg sg s.heap.objs.size g cdg :: outer) := fun c hc hm => by
    obtain ⟨o, v, q, _⟩ := C.cel c hc
    have z := I1.stkFree c hm
    rw [q] at z; cases z
  have rc : codeAny (model P w) (A.deeper (envOfC qg sg s.heap.objs.size g cdg)) (.call (.ref f) ⟨[], []⟩) (CR (L2N.CX P w) (envOfC qg sg s.heap.objs.size g cdg :: outer) P w HZ s1 Q (WE W σZ)) s1 := by
    refine PySem.W.kla_callFunE hr.depth of1 rfl L.co L.gen rfl ⟨c', oc, vs, t, rfl, hoc, hdc, hvc⟩ ?_
    refine bind_dvo hdv I1.hok fun bs hbs => (wpAny_newFunctionEnv (fun y hy => (L.own y hy).1) (fun y hy => L.par y.1 (by rw [← hbs]; exact List.mem_map_of_mem hy)) (fun h₁ hns hsb => ⟨I1.nolimit.fresh _ hsb, ?_⟩) L.kind)
    show codeAny _ _ (.expr body (PySem.W.envX qual scope s1.heap.objs.size f (.ref c') cl)) _ _
    have kp : ∀ b o, s1.heap.get? b = some o → h₁.get? b = some o := fun b o e => hsb.extBut b o (Nat.ne_of_lt (Heap.lt_size e)) (Heap.get?_push_of_some _ e)
    have e0 : Env0 P w K mg base (A.deeper (envOfC qg sg s.heap.objs.size g cdg)) (envOfC qg sg s.heap.objs.size g cdg :: outer) s1 HZ := I1.env0
    have J : Inv (lamCxC P w K mg base N qual cl (A.deeper (envOfC qg sg s.heap.objs.size g cdg)) (envOfC qg sg s.heap.objs.size g cdg :: outer) s1 (rmL HZ (cl.map (·.2))) (fun cls d H' => (∀ c ∈ cl.map (·.2), H' c = none) → WE W σZ cls d (adL HZ H' (cl.map (·.2)))) scope f c') [] σL (rmL HZ (cl.map (·.2))) { s1 with heap := h₁, toks := s1.toks + bs.length } :=
      lam_startC C L e0 hr.hd hns kp
    refine PySem.W.kla_codeExpr (wpAny_mono ((hbody _ _ _ _ _ f c' cl (hr.deeper _)).run [] _ _ _ _ J ht) (fun v s' hq => ?_) fun e s' hq => ?_)
    · obtain ⟨w', H', J', rv, q⟩ := hq
      have un : Un (frs (envOfC qg sg s.heap.objs.size g cdg :: outer)) [] (rmL HZ (cl.map (·.2))) H' s1.heap s'.heap := J'.base
      have at_ : ∀ c ∈ cl.map (·.2), ∃ o, s1.heap.get? c = some o := fun c hc => by
        obtain ⟨o, v, q, _⟩ := C.cel c hc
        obtain ⟨z, _, _⟩ := I1.hok c _ q
        exact ⟨o, z⟩
      have hn : ∀ c ∈ cl.map (·.2), H' c = none := fun c hc => by
        obtain ⟨o, z⟩ := at_ c hc
        exact un.free c o z (rmL_in hc) (by simp)
      exact ⟨w', adL HZ H' (cl.map (·.2)), J'.os, J'.bare, un_adL C.cel un, hok_adL C.cel I1.hok J'.hok hn fun c hc o z => un.keep c o z (rmL_in hc) (fr c hc) (by simp), rv, q hn⟩
    · exact wpAny_mono hq (fun _ s'' h => cx_adL C.cel I1.hok fr (fun cls d H' n q => q n) h) fun _ s'' h => cx_adL C.cel I1.hok fr (fun cls d H' n q => q n) h
  refine wpAny_call (codeAny_mono rc fun r s' hq => ?_)
  cases r with
  | error e => exact L2N.passAt tk σZ pinsZ HZ s1 e s' I1 hq
  | ok fl =>
    cases fl with
    | ret u => exact I1.after hq
    | next => exact False.elim hq
    | brk => exact False.elim hq
    | cont => exact False.elim hq
end
/-! ### what is known of a function: what its call does -/
def FnHas (P : Program) (w : World) (K : PySem.W.Frag) (mg : Str → Option Value) (base : Heap) (k : Nat) (f : Addr) (sp : Hp → VK → XK → Prop) (H : Hp) : Prop :=
  ∃ (qual : Str) (params : Arguments) (body : Expr) (scope : Scope) (cl : List (Str × Addr)) (c' : Addr) (dv : Value) (names N : List Str) (σL : L2.St) (tb : XK → TE), LamS N scope names ∧ H c' = some (CodeO c' qual) ∧ H f = some (LamO f qual params body scope cl c' dv) ∧ DvO H dv params names ∧ ClosT H cl N σL scope ∧
    (∀ (A : Around) (outer : List Env) (s : Shared) (H : Hp) (E : XK) (f c' : Addr) (cl : List (Str × Addr)), Room k (A.deeper (PySem.W.envX qual scope s.heap.objs.size f (.ref c') cl)) → PE (lamCxC P w K mg base N qual cl A outer s H E scope f c') body (tb E)) ∧ ∀ H Q E, sp H Q E → tb E σL H Q
section
variable {P : Program} {w : World} {K : PySem.W.Frag} {mg : Str → Option Value} {base : Heap} {k : Nat} {f : Addr} {sp : Hp → VK → XK → Prop} {H H1 : Hp}
theorem FnHas.ext (h : FnHas P w K mg base k f sp H) (e : ExtN H H1) : FnHas P w K mg base k f sp H1 := by
  obtain ⟨qual, params, body, scope, cl, c', dv, names, N, σL, tb, h1, h2, h3, h4, h5, h6, h7⟩ := h
  exact ⟨qual, params, body, scope, cl, c', dv, names, N, σL, tb, h1, e _ _ h2 codeO_ne, e _ _ h3 lamO_nt, h4.ext e, h5.ext e, h6, h7⟩
theorem FnHas.ne_lst (h : FnHas P w K mg base k f sp H) {b : Addr} {xs : List V} (e : H b = some (.lst xs)) : f ≠ b := by
  obtain ⟨qual, params, body, scope, cl, c', dv, names, N, σL, tb, h1, h2, h3, h4, h5, h6, h7⟩ := h
  intro z
  rw [z, e] at h3
  unfold LamO at h3
  cases h3
/-- the call within a def whose slot 0 holds the function: it is raised what Rs says -/
theorem FnHas.act {Cond : Hp → Prop} {Rs : Hp → XK → Prop} {A : Around} {outer : List Env} {s : Shared} {CXg : CXT} {Eg : XK} {Ng : List Str} {qg : Str} {sg : Scope} {g : Addr} {cdg : Value} {a : Str} (h : FnHas P w K mg base k f (fun H _ E => Cond H ∧ Rs H E) H) (hC : ∀ cs, Cels H cs → Cond (rmL H cs))
    (hR : ∀ cs E, Cels H cs → Rs H E → Rs (rmL H cs) (fun cls d H' => (∀ c ∈ cs, H' c = none) → E cls d (adL H H' cs)))
    (hr : Room (k + 1) (A.deeper (envOfC qg sg s.heap.objs.size g cdg))) (hN : Ng[0]? = some a) (hv : Vis sg a) (hd : (a == ("__debug__" : Str)) = false := by decide) (hcd : (a == ("__classdict__" : Str)) = false := by decide) :
    ∃ (c' : Addr) (co : HO) (tl : XK → Hp → VK → Prop), H c' = some co ∧ (∀ (W : WX) (pn : List (Addr × Obj)) (xe : Value → Shared → Prop) (p1 p2 : Pos), L2N.Takes ((cxOf CXg P w K mg base Ng qg sg g cdg A outer s H Eg).tr pn xe) W →
      PE ((cxOf CXg P w K mg base Ng qg sg g cdg A outer s H Eg).tr pn xe) (.Call (.Name a p1) [] [] p2) (fun σZ HZ Q => σZ[0]? = some (some (.ref f)) ∧ HZ c' = some co ∧ tl (WE W σZ) HZ Q)) ∧ ∀ E' Q', Rs H E' → tl E' H Q' := by
  obtain ⟨qual, params, body, scope, cl, c', dv, names, N, σL, tb, h1, h2, h3, h4, h5, h6, h7⟩ := h
  refine ⟨c', _, fun E' HZ Q => HZ f = some (LamO f qual params body scope cl c' dv) ∧ DvO HZ dv params names ∧ ClosT HZ cl N σL scope ∧
    tb (fun cls d H' => (∀ c ∈ cl.map (·.2), H' c = none) → E' cls d (adL HZ H' (cl.map (·.2)))) σL (rmL HZ (cl.map (·.2))) (fun v H' => (∀ c ∈ cl.map (·.2), H' c = none) → Q v (adL HZ H' (cl.map (·.2)))), h2, fun W pn xe p1 p2 tk => ?_, fun E' Q' q => ?_⟩
  · exact pe_actC (dv := dv) (params := params) h1 tk hr h6 hN hv hd hcd
  · exact ⟨h3, h4, h5, h7 _ _ _ ⟨hC _ h5.cel, hR _ _ h5.cel q⟩⟩
end
theorem cels_none {H : Hp} {cs : List Addr} {b : Addr} (C : Cels H cs) (h : H b = none) : b ∉ cs := fun hb => by
  obtain ⟨o, v, q, _⟩ := C b hb
  rw [h] at q; cases q
/-! ### a def that hands out lambdas: its cells are tracked behind it -/
abbrev noEnds : Ends := { nx := fun _ _ => False, rt := fun _ _ => False }
structure PSR (X : Cx) (ss : List Stmt) (t : (V → L2.St → Hp → Prop) → TS) : Prop where
  run : ∀ (pins : List (Addr × Obj)) (s : Shared) (σ : L2.St) (H : Hp) (R : V → L2.St → Hp → Prop), Inv X pins σ H s → t R noEnds σ H → wpAny (model X.prog X.w) X.A (execs ss X.env) (fun f s' => ∃ u v σ' H', f = .ret u ∧ Inv X pins σ' H' s' ∧ RelV v u ∧ R v σ' H') X.xe s
def tRR (te : TE) (R : V → L2.St → Hp → Prop) : TS := fun _ σ H => te σ H fun v H' => R v σ H'
section
variable {X : Cx} {st : Stmt} {ss : List Stmt} {e : Expr} {te : TE} {t1 : TS} {pos : Pos} {t2 : (V → L2.St → Hp → Prop) → TS}
theorem psr_ret (he : PE X e te) : PSR X [.Return (some e) pos] (tRR te) := by
  refine ⟨fun pins s σ H R I h => ?_⟩
  refine wpAny_execs_cons ?_
  exact wpAny_Return_some (thn (he.run pins s σ H _ I h) fun v s1 ⟨x, H1, I1, r1, q1⟩ => ⟨v, x, σ, H1, rfl, I1, r1, q1⟩)
theorem psr_cons (h1 : PS X st t1) (h2 : PSR X ss t2) : PSR X (st :: ss) (fun R => tSeq t1 (t2 R)) := by
  refine ⟨fun pins s σ H R I h => ?_⟩
  refine wpAny_execs_cons (thn (h1.run pins s σ H _ I h) fun f s1 q => ?_)
  cases f with
  | next =>
    obtain ⟨σ', H', I', q⟩ := q
    exact h2.run pins s1 σ' H' R I' q
  | ret v => obtain ⟨_, _, _, _, _, q⟩ := q; exact q.elim
  | brk => obtain ⟨_, _, _, q⟩ := q; exact q.elim
  | cont => obtain ⟨_, _, _, q⟩ := q; exact q.elim
end
theorem go_rr {o : Option Addr} {F : Hp} {σ : L2.St} {D : Ends} {te : TE} {R : V → L2.St → Hp → Prop} (h : Wp o (te σ) F fun v F1 => ∀ H, Wd o F1 H → R v σ H) : Go o (tRR te R) D σ F := fun H w => h H w _ fun v H1 F1 w1 k => k H1 w1
/-! ### by what is known -/
theorem tabs_rm {T : List (Addr × Str)} {H1 : Hp} {d : Addr} (t : Tabs T H1) (hd : Dc H1 d) : Tabs T (rm H1 d) := fun p hp => by
  obtain ⟨ns, hns, _⟩ := hd
  obtain ⟨ps, a1, a2, a3⟩ := t p hp
  refine ⟨ps, by rw [rm_ne (fun z => by rw [z, hns] at a1; cases a1)]; exact a1, a2, fun pos cv h => ?_⟩
  obtain ⟨c, e1, e2⟩ := a3 pos cv h
  refine ⟨c, e1, ?_⟩
  rw [rm_ne (fun z => by
    rw [z, hns] at e2
    have z2 := Option.some.inj e2
    unfold CodeO at z2
    cases z2)]
  exact e2
/-- all but the tables, the lists stay -/
def ExtL (H H' : Hp) : Prop := ∀ b o, H b = some o → (∀ ps, o ≠ .tbl ps) → (∀ xs, o ≠ .lst xs) → H' b = some o
theorem ExtL.of {H H' : Hp} (e : ExtN H H') : ExtL H H' := fun b o h n _ => e b o h n
theorem ExtL.up {H H' : Hp} {p : Addr} {xs : List V} {u : HO} (e : Ex H H') (h : H' p = some (.lst xs)) : ExtL H (upd H' p u) := fun b o q n n2 => by
  have q2 := e _ _ q
  rw [upd_ne (fun z => by rw [z, h] at q2; exact n2 xs (Option.some.inj q2).symm)]
  exact q2
theorem ExtL.trans {H H1 H2 : Hp} (a : ExtL H H1) (b : ExtL H1 H2) : ExtL H H2 := fun c o h n m => b c o (a c o h n m) n m
theorem ExtL.upl {H H' : Hp} {p : Addr} {xs : List V} {u : HO} (e : ExtL H H') (h : H' p = some (.lst xs)) : ExtL H (upd H' p u) := e.trans (ExtL.up (exr H') h)
theorem tupO_nl {T : Addr} {u : Value} (xs : List V) : TupO T u ≠ .lst xs := fun z => by unfold TupO at z; cases z
theorem lamO_nl {f : Addr} {qual : Str} {params : Arguments} {body : Expr} {scope : Scope} {cl : List (Str × Addr)} {c' : Addr} {dv : Value} (xs : List V) : LamO f qual params body scope cl c' dv ≠ .lst xs := fun z => by unfold LamO at z; cases z
theorem codeO_nl {c : Addr} {q : Str} (xs : List V) : CodeO c q ≠ .lst xs := fun z => by unfold CodeO at z; cases z
theorem DvO.extL {H H1 : Hp} {dv : Value} {params : Arguments} {names : List Str} (h : DvO H dv params names) (e : ExtL H H1) : DvO H1 dv params names := by
  obtain ⟨bs, h1, h2⟩ := h
  rcases h2 with h2 | ⟨T, u, a1, a2, a3⟩
  · exact ⟨bs, h1, .inl h2⟩
  · exact ⟨bs, h1, .inr ⟨T, u, a1, e _ _ a2 tupO_nt tupO_nl, a3⟩⟩
theorem ClosT.extL {H H1 : Hp} {cl : List (Str × Addr)} {N : List Str} {σ : L2.St} {scope : Scope} (h : ClosT H cl N σ scope) (e : ExtL H H1) : ClosT H1 cl N σ scope :=
  ⟨h.inj, h.has, fun c hc => by
    obtain ⟨o, v, q, r⟩ := h.cel c hc
    exact ⟨o, v, e _ _ q objO_nt objO_nlst, r⟩, fun i y v e1 e2 e3 => by
    obtain ⟨c, o, u, a1, a2, a3⟩ := h.val i y v e1 e2 e3
    exact ⟨c, o, u, a1, e _ _ a2 objO_nt objO_nlst, a3⟩, h.len⟩
theorem FnHas.extL {P : Program} {w : World} {K : PySem.W.Frag} {mg : Str → Option Value} {base : Heap} {k : Nat} {f : Addr} {sp : Hp → VK → XK → Prop} {H H1 : Hp} (h : FnHas P w K mg base k f sp H) (e : ExtL H H1) : FnHas P w K mg base k f sp H1 := by
  obtain ⟨qual, params, body, scope, cl, c', dv, names, N, σL, tb, h1, h2, h3, h4, h5, h6, h7⟩ := h
  exact ⟨qual, params, body, scope, cl, c', dv, names, N, σL, tb, h1, e _ _ h2 codeO_ne codeO_nl, e _ _ h3 lamO_nt lamO_nl, h4.extL e, h5.extL e, h6, h7⟩
/-- a lambda of a def that runs yet: its cells are the def's -/
def FnPre (P : Program) (w : World) (K : PySem.W.Frag) (mg : Str → Option Value) (base : Heap) (k : Nat) (cells : List (Str × Addr)) (N : List Str) (sc : Scope) (σL : L2.St) (f : Addr) (sp : Hp → VK → XK → Prop) (F : Hp) : Prop :=
  ∃ (qual : Str) (params : Arguments) (body : Expr) (scope : Scope) (c' : Addr) (dv : Value) (names : List Str) (tb : XK → TE), LamN N sc scope names ∧ F c' = some (CodeO c' qual) ∧ F f = some (LamO f qual params body scope (cloFrom cells scope.names []) c' dv) ∧ DvO F dv params names ∧
    (∀ (A : Around) (outer : List Env) (s : Shared) (H : Hp) (E : XK) (f c' : Addr) (cl : List (Str × Addr)), Room k (A.deeper (PySem.W.envX qual scope s.heap.objs.size f (.ref c') cl)) → PE (lamCxC P w K mg base N qual cl A outer s H E scope f c') body (tb E)) ∧ ∀ H Q E, sp H Q E → tb E σL H Q
theorem FnPre.extL {P : Program} {w : World} {K : PySem.W.Frag} {mg : Str → Option Value} {base : Heap} {k : Nat} {cells : List (Str × Addr)} {N : List Str} {sc : Scope} {σL : L2.St} {f : Addr} {sp : Hp → VK → XK → Prop} {H H1 : Hp} (h : FnPre P w K mg base k cells N sc σL f sp H) (e : ExtL H H1) : FnPre P w K mg base k cells N sc σL f sp H1 := by
  obtain ⟨qual, params, body, scope, c', dv, names, tb, h1, h2, h3, h4, h6, h7⟩ := h
  exact ⟨qual, params, body, scope, c', dv, names, tb, h1, e _ _ h2 codeO_ne codeO_nl, e _ _ h3 lamO_nt lamO_nl, h4.extL e, h6, h7⟩
theorem wp_lam {o : Option Addr} {F : Hp} {σ : L2.St} {Pq : V → Hp → Prop} {T : List (Addr × Str)} {qual : Str} {params : Arguments} {body : Expr} {scope : Scope} {cl : List (Str × Addr)} {names : List Str} (hT : Tabs T F)
    (h : ∀ (f c' : Addr) (dv : Value) (F1 : Hp), ExtN F F1 → Tabs T F1 → F1 f = some (LamO f qual params body scope cl c' dv) → F1 c' = some (CodeO c' qual) → DvO F1 dv params names → Pq (.ref f) F1) : Wp o (tLam T qual params body scope cl names σ) F Pq := fun H w Q k => by
  refine ⟨Tabs.ext hT w.ex, fun f c' dv H1 eN T1 hf hc hd => ?_⟩
  cases o with
  | none => exact k _ H1 H1 (Wd.bare (exr _)) (h f c' dv H1 ((ExtN.of w.ex).trans eN) T1 hf hc hd)
  | some d =>
    obtain ⟨fd, hdc⟩ := w.dc d rfl
    have hd1 : Dc H1 d := by
      obtain ⟨ns, e, r⟩ := hdc
      exact ⟨ns, eN _ _ e (fun ps z => by cases z), r⟩
    have hns := hd1
    obtain ⟨ns, hns, _⟩ := hns
    have nd : ∀ {b : Addr} {u : HO}, H1 b = some u → (∀ xs, u ≠ .lst xs) → rm H1 d b = some u := fun {b u} e n => by
      rw [rm_ne (fun z => by rw [z, hns] at e; exact n _ (Option.some.inj e).symm)]
      exact e
    have w1 : Wd (some d) (rm H1 d) H1 := Wd.dice hd1
    refine k _ H1 (rm H1 d) w1 (h f c' dv (rm H1 d) (fun b u e n => ?_) (tabs_rm T1 hd1) (nd hf lamO_nl) (nd hc codeO_nl) (hd.extL fun b u e _ n => nd e n))
    rw [rm_ne (ne_of_none e fd)]
    exact eN _ _ (w.ex _ _ e) n
/-- behind the def its cells are tracked -/
structure Lift (cells : List (Str × Addr)) (N : List Str) (σ : L2.St) (scope : Scope) (H' H2 : Hp) : Prop where
  ex : Ex H' H2
  inj : ∀ x y c, cells.lookup x = some c → cells.lookup y = some c → x = y
  has : ∀ y, scope.names.lookup y = some .cell → ∃ c, cells.lookup y = some c
  nofree : ∀ y, scope.names.lookup y ≠ some .free
  cel : ∀ y c, cells.lookup y = some c → ∃ o v, H2 c = some (ObjO c o) ∧ o.data = .cell v
  val : ∀ (i : Nat) (y : Str) (v : V), N[i]? = some y → σ[i]? = some (some v) → scope.names.lookup y = some .cell → ∃ c o u, cells.lookup y = some c ∧ H2 c = some (ObjO c o) ∧ o.data = .cell (some u) ∧ RelV v u
  len : σ.length = N.length
theorem clos_of {cells : List (Str × Addr)} {N : List Str} {σ σL : L2.St} {scope sL : Scope} {names : List Str} {H' H2 : Hp} (L : Lift cells N σ scope H' H2) (hw : ∀ (i : Nat) (v : V), σL[i]? = some (some v) → σ[i]? = some (some v)) (hl : σL.length = N.length) (S : LamN N scope sL names) : ClosT H2 (cloFrom cells sL.names []) N σL sL := by
  have ce : ∀ y, (y, NameKind.free) ∈ sL.names → scope.names.lookup y = some .cell := fun y hy => (S.free _ hy rfl).elim id fun z => absurd z (L.nofree _)
  have cm : ∀ {y c}, (y, c) ∈ cloFrom cells sL.names [] → (y, NameKind.free) ∈ sL.names ∧ cells.lookup y = some c := fun {y c} hm => by
    rcases cloFrom_mem hm with hm | ⟨h1, h2⟩
    · cases hm
    · obtain ⟨c1, hc⟩ := L.has y (ce y h1)
      rw [hc] at h2
      have h2 : c = c1 := h2
      rw [h2]
      exact ⟨h1, hc⟩
  refine ⟨fun x y c e1 e2 => L.inj x y c (cm (PySem.mem_of_lookup e1)).2 (cm (PySem.mem_of_lookup e2)).2, fun y hy => mem_lookup (cloFrom_has (cells := cells) (acc := []) (PySem.mem_of_lookup hy)), fun c hc => ?_, fun i y v e1 e2 e3 => ?_, hl⟩
  · obtain ⟨p, hp, rfl⟩ := List.mem_map.mp hc
    obtain ⟨y, c⟩ := p
    exact L.cel y c (cm hp).2
  · have hy := PySem.mem_of_lookup e3
    obtain ⟨c, o, u, a1, a2⟩ := L.val i y v e1 (hw i v e2) (ce y hy)
    obtain ⟨c2, h2⟩ := mem_lookup (cloFrom_has (cells := cells) (acc := []) hy)
    have h3 := (cm (PySem.mem_of_lookup h2)).2
    rw [a1] at h3
    cases h3
    exact ⟨c, o, u, h2, a2⟩
theorem FnPre.has {P : Program} {w : World} {K : PySem.W.Frag} {mg : Str → Option Value} {base : Heap} {k : Nat} {cells : List (Str × Addr)} {N : List Str} {sc : Scope} {σ σL : L2.St} {f : Addr} {sp : Hp → VK → XK → Prop} {H' H2 : Hp} (h : FnPre P w K mg base k cells N sc σL f sp H') (L : Lift cells N σ sc H' H2)
    (hw : ∀ (i : Nat) (v : V), σL[i]? = some (some v) → σ[i]? = some (some v)) (hl : σL.length = N.length) : FnHas P w K mg base k f sp H2 := by
  obtain ⟨qual, params, body, scope, c', dv, names, tb, h1, h2, h3, h4, h6, h7⟩ := h
  exact ⟨qual, params, body, scope, _, c', dv, names, N, σL, tb, h1.s, L.ex _ _ h2, L.ex _ _ h3, h4.ext (ExtN.of L.ex), clos_of L hw hl h1, h6, h7⟩
theorem fn_ofC {CX : CXT} {P : Program} {w : World} {K : PySem.W.Frag} {mg : Str → Option Value} {base : Heap} {k : Nat} {f : Addr} {name qual : Str} {params : Arguments} {body : List Stmt} {scope : Scope} {dV kV doc pm cdv ct oc : Value} {an od : Option Addr}
    {osl : Array (Option Value)} {N ps : List Str} {sp : Sp} (lk : K.lookup f = some ⟨oc, od, .func (PySem.W.fnOf name qual params body scope dV kV doc pm an cdv ct), osl⟩) (hcd : PySem.W.codeIn K cdv qual = true) (S : FnScope N ps scope)
    (len : ∀ vs H Q E, sp vs H Q E → vs.length = ps.length)
    (hbody : ∀ (A : Around) (outer : List Env) (s : Shared) (H : Hp) (vs : List V) (Q : VK) (E : XK), Room k (A.deeper (envOfC qual scope s.heap.objs.size f cdv)) → sp vs H Q E →
      ∃ t, PSR (cxOf CX P w K mg base N qual scope f cdv A outer s H E) body t ∧ t (fun v σ' H' => ∀ H2, Lift (envOfC qual scope s.heap.objs.size f cdv).cells N σ' scope H' H2 → Q v H2) noEnds (start N vs) H) :
    FnOk P w K mg base CX (k + 1) f (PySem.W.fnOf name qual params body scope dV kV doc pm an cdv ct) ps sp := by
  refine ⟨len, fun A outer s H args us vs Q E hr e0 hb r hsp => ?_⟩
  have hl := len _ _ _ _ hsp
  have KX : K.In s.heap := e0.mod.kin.keeps fun b o e => (e0.bs b o e).1
  have lim : s.heap.NoLimit := e0.mod.nolimit.keeps fun b o e => (e0.bs b o e).1
  have hkind : ∀ y ∈ ps.zip us, scope.names.lookup y.1 = some .local ∨ (scope.names.lookup y.1 = some .cell ∧ ((cellsFrom (s.heap.objs.size + 1) scope.names []).lookup y.1).isSome = true) := fun ⟨n, v⟩ hy => by
    rcases S.par n (List.of_mem_zip hy).1 with q | q
    · exact .inl q
    · exact .inr ⟨q, PySem.W.cellsFrom_some _ _ _ (.inl q)⟩
  refine codeAny_call_function hr.depth (KX _ _ lk) rfl S.co S.gen rfl (PySem.W.codeRec_of KX hcd) (hb _ _ _ _ ?_)
  refine wpAny_newFunctionEnv_cells S.kind hkind fun env he s1 x => ?_
  subst he
  refine ⟨lim.keeps x.toInCall.keep, codeAny_func ?_⟩
  obtain ⟨t, ht, hq⟩ := hbody A outer s H vs Q E (hr.deeper _) hsp
  have I : Inv (cxOf CX P w K mg base N qual scope f cdv A outer s H E) [] (start N vs) H s1 := inv_start S hr.hd e0 hl r x
  refine wpAny_mono (ht.run [] s1 (start N vs) H _ I hq) (fun fl s' hs => ?_) fun e s' hs => hs
  obtain ⟨u, v, σ', H', rfl, J, rv, q⟩ := hs
  show CE outer P w H s Q u s'
  generalize hcs : (envOfC qual scope s.heap.objs.size f cdv).cells = cells at q
  have jc : ∀ y c, cells.lookup y = some c → ∃ v, s'.heap.IsCell c v := fun y c e => J.cell y c (by show (envOfC qual scope s.heap.objs.size f cdv).cells.lookup y = _; rw [hcs]; exact e)
  have jf : ∀ y c, cells.lookup y = some c → H' c = none := fun y c e => J.freeC y c (by show (envOfC qual scope s.heap.objs.size f cdv).cells.lookup y = _; rw [hcs]; exact e)
  have jb : ∀ y c, cells.lookup y = some c → s.heap.objs.size ≤ c := fun y c e => J.ok.cab y c rfl (by show (envOfC qual scope s.heap.objs.size f cdv).cells.lookup y = _; rw [hcs]; exact e)
  have ji : ∀ x y c, cells.lookup x = some c → cells.lookup y = some c → x = y := fun x y c e1 e2 => J.ok.inj x y c (by show (envOfC qual scope s.heap.objs.size f cdv).cells.lookup x = _; rw [hcs]; exact e1) (by show (envOfC qual scope s.heap.objs.size f cdv).cells.lookup y = _; rw [hcs]; exact e2)
  have jh : ∀ y, scope.names.lookup y = some .cell → ∃ c, cells.lookup y = some c := fun y e => by
    obtain ⟨c, z⟩ := J.ok.has y (.inl e)
    exact ⟨c, by rw [← hcs]; exact z⟩
  obtain ⟨H2, hin, hout⟩ : ∃ H2 : Hp, (∀ y c, cells.lookup y = some c → ∃ o v, s'.heap.get? c = some o ∧ H2 c = some (ObjO c o) ∧ o.data = .cell v) ∧ ∀ b, (¬ ∃ y, cells.lookup y = some b) → H2 b = H' b := by
    classical
    refine ⟨fun b => if ∃ y, cells.lookup y = some b then (s'.heap.get? b).map (ObjO b) else H' b, fun y c e => ?_, fun b hb => if_neg hb⟩
    obtain ⟨v, o, ho, hd⟩ := jc y c e
    refine ⟨o, v, ho, ?_, hd⟩
    show (if ∃ y, cells.lookup y = some c then (s'.heap.get? c).map (ObjO c) else H' c) = _
    rw [if_pos ⟨y, e⟩, ho]
    rfl
  have nc : ∀ b x, H' b = some x → ¬ ∃ y, cells.lookup y = some b := fun b x e ⟨y, z⟩ => by
    rw [jf y b z] at e
    cases e
  have exH : Ex H' H2 := fun b x e => by rw [hout b (nc b x e)]; exact e
  refine ⟨v, H2, J.os, J.bare, ?_, ?_, rv, q H2 ⟨exH, ji, jh, fun y e => S.nofree _ (PySem.mem_of_lookup e) rfl, fun y c e => ?_, fun i y v e1 e2 e3 => ?_, J.len⟩⟩
  · have un : Un (frs outer) [] H H' s.heap s'.heap := J.base
    refine ⟨un.keep, un.slot, fun b o e n hx => ?_, un.there, fun b xs e => exH _ _ (un.tups b xs e), fun b o x e => exH _ _ (un.frzs b o x e), fun b pz e => ?_⟩
    · rw [hout b fun ⟨y, z⟩ => Nat.lt_irrefl _ (Nat.lt_of_lt_of_le (Heap.lt_size e) (jb y b z))]
      exact un.free b o e n hx
    · obtain ⟨more, z⟩ := un.tbls b pz e
      exact ⟨more, exH _ _ z⟩
  · intro b x e
    by_cases hb : ∃ y, cells.lookup y = some b
    · obtain ⟨y, z⟩ := hb
      obtain ⟨o, v, a1, a2, _⟩ := hin y b z
      rw [a2] at e
      cases e
      exact objO_ok a1
    · rw [hout b hb] at e
      exact (J.hok b x e).stay (fun _ _ _ q => q) (fun c q => exH _ _ q) fun c xs q => exH _ _ q
  · obtain ⟨o, v, _, a2, a3⟩ := hin y c e
    exact ⟨o, v, a2, a3⟩
  · obtain ⟨m, hn, hl2⟩ := J.loc
    obtain ⟨u, r, q⟩ := hl2 i y v e1 e2 (.inr (.inl e3))
    rcases q with ⟨k, _⟩ | ⟨_, c, a1, a2⟩
    · have k : scope.names.lookup y = some .local := k
      rw [e3] at k
      cases k
    · have a1 : cells.lookup y = some c := by rw [← hcs]; exact a1
      obtain ⟨o, v', b1, b2, b3⟩ := hin y c a1
      obtain ⟨o2, c1, c2⟩ := a2
      have c1 : s'.heap.get? c = some o2 := c1
      rw [b1] at c1
      cases c1
      exact ⟨c, o, u, a1, b2, c2, r⟩
/-! ### the lambdas in a def's text -/
def eLam1 : Expr → List (Arguments × Expr × Scope)
  | .Lambda p b s _ => [(p, b, s)]
  | _ => []
def eLam2 : Expr → List (Arguments × Expr × Scope)
  | .List es _ => es.flatMap eLam1
  | .Call _ es _ _ => es.flatMap eLam1
  | e => eLam1 e
def eLam3 : Expr → List (Arguments × Expr × Scope)
  | .BinOp l _ r _ => eLam2 l ++ eLam2 r
  | e => eLam2 e
def stLam : Stmt → List (Arguments × Expr × Scope)
  | .Assign _ e _ => eLam3 e
  | .Expr e _ => eLam3 e
  | _ => []
def lamAt (st : Stmt) (j : Nat) : Arguments × Expr × Scope := ((L2.defBody st).flatMap stLam).getD j (L2.defArgs st, .Name "" ⟨0, 0, 0, 0⟩, L2.defScope st)
abbrev lamPs (st : Stmt) (j : Nat) : Arguments := (lamAt st j).1
abbrev lamBd (st : Stmt) (j : Nat) : Expr := (lamAt st j).2.1
abbrev lamSc (st : Stmt) (j : Nat) : Scope := (lamAt st j).2.2
/-! ### a list of functions, filled one by one -/
theorem tabs_upl {T : List (Addr × Str)} {H1 : Hp} {d : Addr} {xs : List V} {u : HO} (t : Tabs T H1) (hns : H1 d = some (.lst xs)) : Tabs T (upd H1 d u) := fun p hp => by
  obtain ⟨ps, a1, a2, a3⟩ := t p hp
  refine ⟨ps, by rw [upd_ne (fun z => by rw [z, hns] at a1; cases a1)]; exact a1, a2, fun pos cv h => ?_⟩
  obtain ⟨c, e1, e2⟩ := a3 pos cv h
  refine ⟨c, e1, ?_⟩
  rw [upd_ne (fun z => by
    rw [z, hns] at e2
    have z2 := Option.some.inj e2
    unfold CodeO at z2
    cases z2)]
  exact e2
theorem extN_up {H F : Hp} {p : Addr} {u : HO} (e : ExtN H F) (h : ∀ o, H p = some o → ∃ ps, o = .tbl ps) : ExtN H (upd F p u) := fun b o q n => by
  rw [upd_ne (fun z => by
    rw [z] at q
    obtain ⟨ps, e⟩ := h o q
    exact n ps e)]
  exact e b o q n
theorem new_of {H F : Hp} {p : Addr} (e : ExtN H F) (h : F p = none) : ∀ o, H p = some o → ∃ ps, o = .tbl ps := fun o q => by
  cases o with
  | tbl ps => exact ⟨ps, rfl⟩
  | _ =>
    have := e _ _ q (fun ps z => by cases z)
    rw [h] at this
    cases this
structure Wk (T : List (Addr × Str)) (pre : Addr → Hp → Prop) (H : Hp) (p : Addr) (fs : List Addr) (F : Hp) : Prop where
  at_ : F p = some (.lst (fs.map V.ref))
  pr : ∀ f ∈ fs, pre f F
  tb : Tabs T F
  ex : ExtN H F
theorem Wk.step {T : List (Addr × Str)} {pre : Addr → Hp → Prop} {H G F : Hp} {p f : Addr} {fs : List Addr} (hpre : ∀ f F F1, ExtL F F1 → pre f F → pre f F1) (hp : ∀ o, H p = some o → ∃ ps, o = .tbl ps) (W : Wk T pre H p fs G) (e : ExtN G F) (t : Tabs T F) (h : pre f F) : Wk T pre H p (fs ++ [f]) (upd F p (.lst (fs.map V.ref ++ [.ref f]))) := by
  have hF : F p = some (.lst (fs.map V.ref)) := e _ _ W.at_ fun ps z => by cases z
  refine ⟨by rw [upd_same, List.map_append]; rfl, fun g hg => ?_, tabs_upl t hF, extN_up (W.ex.trans e) hp⟩
  rcases List.mem_append.mp hg with h1 | h1
  · exact hpre _ _ _ ((ExtL.of e).upl hF) (W.pr g h1)
  · rw [List.mem_singleton.mp h1]
    exact hpre _ _ _ (ExtL.up (exr F) hF) h
theorem Wk.one {T : List (Addr × Str)} {pre : Addr → Hp → Prop} {H F F1 : Hp} {p f : Addr} (hpre : ∀ f F F1, ExtL F F1 → pre f F → pre f F1) (e : ExtN H F) (t : Tabs T F) (h : pre f F) (e1 : Ex F F1) (h1 : F1 p = some (.lst [.ref f])) : Wk T pre H p [f] F1 :=
  ⟨h1, fun g hg => by rw [List.mem_singleton.mp hg]; exact hpre _ _ _ (ExtL.of (ExtN.of e1)) h, Tabs.ext t e1, e.trans (ExtN.of e1)⟩
end Sr
/-! a comprehension whose tests call a def with a lambda of the def around: the cells are lent for the call -/
namespace Sr
open PySem PySem.Spec PyProof.Rows L2 SrX LamX
section
variable {X : Cx}
theorem lc_coreI {pins : List (Addr × Obj)} {s : Shared} {σ : L2.St} {H : Hp} {Q : VK} {elt tg iter : Expr} {ifs : List Expr} {scope : Scope} {own : List (Str × Nat)} {pos pos' : Pos} {wi : TI} {g : TG} {tt : L2.St → TT} {te : TE} {use : Option (Value → Sem Unit)} {Qf : Value → Shared → Prop}
    (hc : X.calm = true) (hN : X.N.Nodup) (I : Inv X pins σ H s) (hi : PI X tg iter wi) (ok : BlkOk X.N X.env.scope scope own)
    (hg : ∀ (s : Shared) (H : Hp) (C : Addr) (cl : List (Str × Addr)) (fp : List Addr), PG (X.blk s H scope (compEnvC scope cl C X.env) fp) tg g) (ht : ∀ (s : Shared) (H : Hp) (C : Addr) (cl : List (Str × Addr)) (fp : List Addr), Inv X pins σ H s → (∀ b ∈ fp, FpOk X pins H b) → PTs (X.blk s H scope (compEnvC scope cl C X.env) fp) ifs (tt σ))
    (he : ∀ (s : Shared) (H : Hp) (C : Addr) (cl : List (Str × Addr)) (fp : List Addr), PE (X.blk s H scope (compEnvC scope cl C X.env) fp) elt te) (hs : ∀ x, foldedSetIterable iter X.env x = pure x)
    (h : tLc wi g (tt σ) te (own.map (·.2)) σ H Q)
    (hRR : ∀ D C s' m H', Inv X pins σ H' s' → Q (.ref D) H' → s'.heap.Ns C m → FpOk X pins H' C → compPost (model X.prog X.w) X.A X.xe use Qf (.ref D) C (.ok .next) s') :
    wpAny (model X.prog X.w) X.A (comprehension (.ListComp elt [⟨tg, iter, ifs, 0⟩] scope pos) scope X.env pos' (newList []) false (eval iter X.env) use) Qf X.xe s := by
  have hfree : ∀ y ∈ scope.names, y.2 = .free → ∃ c, X.env.cells.lookup y.1 = some c := fun y hy e => by
    rcases ok.free y hy e with k | k
    · exact I.ok.has _ (.inl k)
    · exact I.ok.has _ (.inr k)
  refine wpAny_comprehension_free (use := use) rfl hs (closure_ok hfree) ok.kind (fun y hy e => by rw [ok.uniq y hy, e])
    (thn (hi.run pins s σ H _ I h) fun xv s1 hx => thn hx fun itv s2 h2 => ?_)
  obtain ⟨it, fp, tn, J, H1, e, I2, T, st2, f2, q⟩ := h2
  subst e
  refine wpAny_newObj_type (newEnv_comp ?_) (by show 0 ≤ sizeLine; decide)
  generalize hD : s2.heap.objs.size = D
  have hDn : H1 D = none := I2.hok.fresh (Nat.le_of_eq hD)
  obtain ⟨W, ⟨m0, w0⟩, turn⟩ := q D hDn
  generalize hs3 : ({ s2 with heap := s2.heap.push { cls := .type "list", data := .seq ([] : List Value).toArray } } : Shared) = s3
  have I3 : Inv X pins σ (upd H1 D (.lst [])) s3 := by
    rw [← hs3]
    refine I2.laid (t' := s2.toks) (fun b o e => Heap.get?_push_of_some _ e) (Nat.le_of_eq hD) ⟨Nat.zero_le _, [], 0, .nil, ?_⟩
    rw [← hD]
    exact Heap.get?_push_size _ rfl
  have h3 : s3.heap = s2.heap.push { cls := .type "list", data := .seq ([] : List Value).toArray } := by rw [← hs3]
  have sz : ∀ b ∈ fp, b < s2.heap.objs.size := fun b hb => by
    obtain ⟨o, e, _⟩ := T.obj _ _ st2 b hb
    exact Heap.lt_size e
  have f3 : ∀ b ∈ fp, FpOk X pins (upd H1 D (.lst [])) b ∧ b < s3.heap.objs.size := fun b hb => by
    have hlt := sz b hb
    refine ⟨⟨?_, (f2 b hb).2⟩, by rw [h3, Heap.size_push]; exact Nat.lt_succ_of_lt hlt⟩
    rw [upd_ne (by rw [← hD]; exact Nat.ne_of_lt hlt)]
    exact (f2 b hb).1
  have st3 : tn 0 s3.heap := T.keep _ _ _ st2 fun b _ o e => by rw [h3]; exact Heap.get?_push_of_some _ e
  have I4 := block_start I3 ok hN f3
  have pg := hg s3 (upd H1 D (.lst [])) s3.heap.objs.size (cellsFrom (s3.heap.objs.size + 1) scope.names (cloFrom X.env.cells scope.names [])) fp
  have pt := ht s3 (upd H1 D (.lst [])) s3.heap.objs.size (cellsFrom (s3.heap.objs.size + 1) scope.names (cloFrom X.env.cells scope.names [])) fp I3 fun b hb => (f3 b hb).1
  have pe := he s3 (upd H1 D (.lst [])) s3.heap.objs.size (cellsFrom (s3.heap.objs.size + 1) scope.names (cloFrom X.env.cells scope.names [])) fp
  show codeAny _ _ (.compStart (.ListComp elt [⟨tg, iter, ifs, 0⟩] scope pos) 0 (.ref it) (.ref D) (compEnvC scope (cellsFrom (s3.heap.objs.size + 1) scope.names (cloFrom X.env.cells scope.names [])) s3.heap.objs.size X.env)) (compPost (model X.prog X.w) X.A X.xe use Qf (.ref D) s3.heap.objs.size) { s3 with heap := pushCells (s3.heap.push { cls := .type "dict", data := .dict #[] }) scope.names }
  have nfp : ∀ b ∈ fp, (upd H1 D (.lst [])) b = none := fun b hb => (f3 b hb).1.1
  generalize hce : compEnvC scope (cellsFrom (s3.heap.objs.size + 1) scope.names (cloFrom X.env.cells scope.names [])) s3.heap.objs.size X.env = ce at I4 pg pt pe ⊢
  have cL : ce.locals = s3.heap.objs.size := by subst hce; rfl
  generalize hH3 : upd H1 D (.lst []) = H3 at I3 I4 pg pt pe w0 nfp f3
  generalize hs4 : ({ s3 with heap := pushCells (s3.heap.push { cls := .type "dict", data := .dict #[] }) scope.names } : Shared) = s4 at I4 ⊢
  have st4 : tn 0 s4.heap := T.keep _ _ _ st3 fun b _ o e => by rw [← hs4]; exact pushCells_keeps _ _ _ _ (Heap.get?_push_of_some _ e)
  have stat : ∀ {σ' : L2.St} {H' : Hp} {s' : Shared}, Inv (X.blk s3 H3 scope ce fp) [] σ' H' s' → (∀ b ∈ fp, H' b = none) → ∀ b ∈ fp, FpOk (X.blk s3 H3 scope ce fp) [] H' b := fun {σ' H' s'} I' hn b hb =>
    ⟨hn b hb, (I'.ok.exf b hb).1, I'.ok.exfs b hb, .inl hb, fun x c e => (I'.ok.exf b hb).2 x c e, fun p hp => absurd (show p ∈ ([] : List (Addr × Obj)) ++ [] from hp) (by simp)⟩
  have back : ∀ {σ' : L2.St} {H' : Hp} {s' : Shared}, Inv (X.blk s3 H3 scope ce fp) [] σ' H' s' → Inv X pins σ H' s' := fun {σ' H' s'} I' =>
    I3.call' (ch := fp) I'.os I'.base I'.hok I'.bare fun b hb => ⟨(f3 b hb).1.2.2.2.1, (f3 b hb).1.2.1, (f3 b hb).1.2.2.2.2.1, (f3 b hb).1.2.2.2.2.2⟩
  have loop : codeAny (model X.prog X.w) X.A (.compLoop (.ListComp elt [⟨tg, iter, ifs, 0⟩] scope pos) 0 (.ref it) (.ref D) ce) (compPost (model X.prog X.w) X.A X.xe use Qf (.ref D) s3.heap.objs.size) s4 := by
    refine compLoop_any (fun n s' => ∃ i H', Inv (X.blk s3 H3 scope ce fp) [] (wipe σ (own.map (·.2))) H' s' ∧ tn i s'.heap ∧ (∀ b ∈ fp, H' b = none) ∧ W i n H') ?_ m0 ⟨0, H3, I4, st4, nfp, w0⟩
    rintro n s5 ⟨i, H5, I5, st5, n5, w5⟩
    rcases turn i n H5 w5 with ⟨stop, qq⟩ | ⟨go, Nx, hNx, step⟩
    · have td := T.done (X.blk s3 H3 scope ce fp) rfl rfl rfl hc i [] s5 _ H5 (fun _ _ => False) I5 (stat I5 n5) st5 stop
      refine thnF td fun r s6 ⟨hr, I6⟩ => ?_
      subst hr
      have I7 : Inv X pins σ H5 s6 := back I6
      have nC : H5 s3.heap.objs.size = none := by
        have z : H5 ce.locals = none := I6.free
        rw [cL] at z
        exact z
      obtain ⟨m, hn, _⟩ := I6.loc
      have hn : s6.heap.Ns ce.locals m := hn
      rw [cL] at hn
      exact hRR D s3.heap.objs.size s6 m H5 I7 qq hn (I3.fpOk (Nat.le_refl _) nC)
    · have ti := T.item (X.blk s3 H3 scope ce fp) rfl rfl rfl hc i [] s5 _ H5 (fun _ _ => False) I5 (stat I5 n5) st5 go
      refine thnF ti fun r s6 ⟨u, hr, h6⟩ => ?_
      subst hr
      refine thnF h6 fun _ s7 ⟨x, H7, I7, r7, y7, st7, n7⟩ => ?_
      have I7' := I7.pinned (stat I7 n7) (T.obj _ _ st7)
      refine thnF (pg.run _ s7 _ H7 x u _ I7' r7 (step x H7 y7)) fun _ s8 ⟨σ8, H8, I8, hw8, q8⟩ => ?_
      refine thnF (pt.run _ s8 σ8 H8 _ I8 q8) fun b s9 ⟨H9, I9, q9⟩ => ?_
      have fin : ∀ {s' : Shared} {H' : Hp}, Inv (X.blk s3 H3 scope ce fp) ([] ++ pinsAt fp s7.heap) σ8 H' s' → Nx H' → ∃ m, m < n ∧ ∃ i H', Inv (X.blk s3 H3 scope ce fp) [] (wipe σ (own.map (·.2))) H' s' ∧ tn i s'.heap ∧ (∀ b ∈ fp, H' b = none) ∧ W i m H' := fun {s' H'} I' nx => by
        obtain ⟨m', hm, w'⟩ := hNx H' nx
        have pin' : ∀ b ∈ fp, ∀ o, s7.heap.get? b = some o → s'.heap.get? b = some o ∧ H' b = none := fun b hb o e =>
          let z := I'.pin (b, o) (List.mem_append_right _ (List.mem_append_right _ (mem_pinsAt hb e)))
          ⟨z.1, z.2.1⟩
        have hl : (wipe σ (own.map (·.2))).length = σ8.length := by rw [← hw8, wipe_length]
        refine ⟨m', hm, i + 1, H', (I'.unpinned (pins := [])).weak hl (fun j v e => ?_), T.keep _ _ _ st7 fun b hb o e => (pin' b hb o e).1, fun b hb => ?_, w'⟩
        · rw [← hw8] at e
          exact (wipe_some e).1
        · obtain ⟨o, e, _⟩ := T.obj _ _ st7 b hb
          exact (pin' b hb o e).2
      cases b with
      | false =>
        simp only [Bool.false_eq_true, if_false] at q9 ⊢
        exact fin I9 q9
      | true =>
        simp only [if_true] at q9 ⊢
        refine thnF (pe.run _ s9 σ8 H9 _ I9 q9) fun z s10 ⟨yv, H10, I10, r10, acc, hD10, hz10, nx⟩ => ?_
        exact app_ok (X := X.blk s3 H3 scope ce fp) I10 hD10 hz10 r10 fun s11 I11 => fin I11 nx
  exact codeAny_compStart_list loop (T.self X.A 0 _ _ _ st4 loop)
/-- [elt for target in iter if ..], the tests told what holds around -/
theorem pe_lcI {elt tg iter : Expr} {ifs : List Expr} {scope : Scope} {own : List (Str × Nat)} {pos : Pos} {wi : TI} {g : TG} {tt : L2.St → TT} {te : TE} (hc : X.calm = true) (hN : X.N.Nodup) (hi : PI X tg iter wi) (ok : BlkOk X.N X.env.scope scope own)
    (hg : ∀ (s : Shared) (H : Hp) (C : Addr) (cl : List (Str × Addr)) (fp : List Addr), PG (X.blk s H scope (compEnvC scope cl C X.env) fp) tg g)
    (ht : ∀ (pins : List (Addr × Obj)) (σ : L2.St) (s : Shared) (H : Hp) (C : Addr) (cl : List (Str × Addr)) (fp : List Addr), Inv X pins σ H s → (∀ b ∈ fp, FpOk X pins H b) → PTs (X.blk s H scope (compEnvC scope cl C X.env) fp) ifs (tt σ))
    (he : ∀ (s : Shared) (H : Hp) (C : Addr) (cl : List (Str × Addr)) (fp : List Addr), PE (X.blk s H scope (compEnvC scope cl C X.env) fp) elt te) (hs : ∀ x, foldedSetIterable iter X.env x = pure x := by intro _; rfl) :
    PE X (.ListComp elt [⟨tg, iter, ifs, 0⟩] scope pos) (fun σ H Q => tLc wi g (tt σ) te (own.map (·.2)) σ H Q) := by
  refine ⟨fun pins s σ H Q I h => ?_⟩
  rw [eval_ListComp]
  refine lc_coreI (tt := tt) hc hN I hi ok hg (fun s H C cl fp I hfp => ht pins σ s H C cl fp I hfp) he hs h fun D C s' m H' I' q hn f => ⟨m, hn, fun h'' sb => ?_⟩
  obtain ⟨f0, f1, f2, f3, f4, f5⟩ := f
  exact ⟨.ref D, H', I'.turned (t' := s'.toks) (fun b o hb e => (sb.2 b hb).trans e) f0 f1 f3 f4 f5, rfl, q⟩
end
/-- what the def is asked with the cells lent: it leaves them -/
def tLend (cells : List (Str × Addr)) (N : List Str) (σ0 : L2.St) (sc : Scope) (sp : Sp) (ta : TA) : TE := fun σ H Q => ta σ H fun vs H1 => ∀ H2, Lift cells N σ0 sc H1 H2 → (∀ c ∈ cells.map (·.2), H1 c = none) → (∀ b, b ∉ cells.map (·.2) → H2 b = H1 b) → Cels H2 (cells.map (·.2)) →
  sp vs H2 (fun v H' => (∀ c ∈ cells.map (·.2), H' c = H2 c) ∧ Q v (rmL H' (cells.map (·.2)))) E0
section
variable {X : Cx}
theorem pe_lend {pins0 : List (Addr × Obj)} {σ0 : L2.St} {s0 : Shared} {H0 : Hp} {scope : Scope} {cenv : Env} {fp : List Addr} {k : Nat} {x : Str} {ps : List Str} {sp : Sp} {e : Expr} {es : List Expr} {ta : TA} {p pos : Pos} (I0 : Inv X pins0 σ0 H0 s0) (hfp : ∀ b ∈ fp, FpOk X pins0 H0 b) (hfn : ∀ y, X.fn y = true) (nofree : ∀ y, X.env.scope.names.lookup y ≠ some .free)
    (hcl : ∀ p ∈ X.env.cells, X.env.cells.lookup p.1 = some p.2)
    (G : Pm X.prog X.w X.K X.mg X.base CX0 k x ps sp) (hr : Room k X.A) (ha : PA (X.blk s0 H0 scope cenv fp) (e :: es) ta) (hg : Gl (X.blk s0 H0 scope cenv fp) x := by rfl)
    (hd : (x == ("__debug__" : Str)) = false := by decide) (he : starEach (e :: es) (X.blk s0 H0 scope cenv fp).env = (false, eval e (X.blk s0 H0 scope cenv fp).env) :: starEach es (X.blk s0 H0 scope cenv fp).env := by rfl) (hpl : (backTo pos (starEach es (X.blk s0 H0 scope cenv fp).env)).any (·.1) = false := by rfl) :
    PE (X.blk s0 H0 scope cenv fp) (.Call (.Name x p) (e :: es) [] pos) (tLend X.env.cells X.N σ0 X.env.scope sp ta) := by
  obtain ⟨g, fd, F, hm, hk, hb⟩ := G
  refine ⟨fun pins s σ H Q I h => ?_⟩
  refine wpAny_Call_Name_kw (ld_glob I hg hm ?_ hd)
  refine PySem.W.callWith_K (h₀ := X.base) I.ok.mod.kin hk (thn (ha.run pos pins s σ H _ I h) fun us s1 ⟨vs, H1, I1, r1, q1⟩ => ⟨I1.kIn, ?_⟩) he hpl
  -- the cells: untracked, as they were
  have cmem : ∀ c ∈ X.env.cells.map (·.2), ∃ y, X.env.cells.lookup y = some c := fun c hc => by
    obtain ⟨p, hp, rfl⟩ := List.mem_map.mp hc
    exact ⟨p.1, hcl p hp⟩
  have cfs : ∀ y c, X.env.cells.lookup y = some c → c ∉ frs X.stack := fun y c e hm => by
    rcases List.mem_cons.mp (I0.stkSub c hm) with z | z
    · exact I0.cne y c e z
    · obtain ⟨_, o, ho, _⟩ := I0.ok.funs.mem z
      exact Nat.lt_irrefl _ (Nat.lt_of_lt_of_le (Heap.lt_size ho) (I0.ok.cab y c (hfn y) e))
  have cfp : ∀ y c, X.env.cells.lookup y = some c → c ∉ fp := fun y c e hm => (hfp c hm).2.2.2.2.1 y c e rfl
  have un0 : Un (frs X.stack) fp H0 H1 s0.heap s1.heap := I1.base
  have ckeep : ∀ y c o, X.env.cells.lookup y = some c → s0.heap.get? c = some o → s1.heap.get? c = some o := fun y c o e h => un0.keep c o h (I0.freeC y c e) (cfs y c e) (cfp y c e)
  have cfree : ∀ c ∈ X.env.cells.map (·.2), H1 c = none := fun c hc => by
    obtain ⟨y, e⟩ := cmem c hc
    obtain ⟨v, o, ho, _⟩ := I0.cell y c e
    exact un0.free c o ho (I0.freeC y c e) (cfp y c e)
  obtain ⟨H2, hin, hout⟩ : ∃ H2 : Hp, (∀ y c, X.env.cells.lookup y = some c → ∃ o v, s1.heap.get? c = some o ∧ s0.heap.get? c = some o ∧ H2 c = some (ObjO c o) ∧ o.data = .cell v) ∧ ∀ b, b ∉ X.env.cells.map (·.2) → H2 b = H1 b := by
    classical
    refine ⟨fun b => if b ∈ X.env.cells.map (·.2) then (s1.heap.get? b).map (ObjO b) else H1 b, fun y c e => ?_, fun b hb => if_neg hb⟩
    obtain ⟨v, o, ho, hd⟩ := I0.cell y c e
    refine ⟨o, v, ckeep y c o e ho, ho, ?_, hd⟩
    show (if c ∈ X.env.cells.map (·.2) then (s1.heap.get? c).map (ObjO c) else H1 c) = _
    rw [if_pos (lookup_mem2 e), ckeep y c o e ho]
    rfl
  have nm : ∀ b u, H1 b = some u → b ∉ X.env.cells.map (·.2) := fun b u e hc => by rw [cfree b hc] at e; cases e
  have exH : Ex H1 H2 := fun b u e => by rw [hout b (nm b u e)]; exact e
  have cel2 : Cels H2 (X.env.cells.map (·.2)) := fun c hc => by
    obtain ⟨y, e⟩ := cmem c hc
    obtain ⟨o, v, _, _, a2, a3⟩ := hin y c e
    exact ⟨o, v, a2, a3⟩
  have L : Lift X.env.cells X.N σ0 X.env.scope H1 H2 := by
    refine ⟨exH, I0.ok.inj, fun y e => I0.ok.has y (.inl e), nofree, fun y c e => ?_, fun i y v e1 e2 e3 => ?_, I0.len⟩
    · obtain ⟨o, v, _, _, a2, a3⟩ := hin y c e
      exact ⟨o, v, a2, a3⟩
    · obtain ⟨m, hn, hl2⟩ := I0.loc
      obtain ⟨u, r, q⟩ := hl2 i y v e1 e2 (.inr (.inl e3))
      rcases q with ⟨k, _⟩ | ⟨_, c, a1, o2, c1, c2⟩
      · have k : X.env.scope.names.lookup y = some .local := k
        rw [e3] at k
        cases k
      · obtain ⟨o, v', b1, b0, b2, b3⟩ := hin y c a1
        rw [b0] at c1
        cases c1
        exact ⟨c, _, u, a1, b2, c2, r⟩
  have hok2 : HOk X.prog X.w H2 s1.heap := fun b u e => by
    by_cases hb : b ∈ X.env.cells.map (·.2)
    · obtain ⟨y, z⟩ := cmem b hb
      obtain ⟨o, v, a1, _, a2, _⟩ := hin y b z
      rw [a2] at e
      cases e
      exact objO_ok a1
    · rw [hout b hb] at e
      exact (I1.hok b u e).stay (fun _ _ _ q => q) (fun c q => exH _ _ q) fun c xs q => exH _ _ q
  have e1 : Env0 X.prog X.w X.K X.mg X.base X.A X.stack s1 H1 := I1.env0
  have nb : ∀ b o, X.base.get? b = some o → b ∉ X.env.cells.map (·.2) := fun b o e hc => by
    obtain ⟨y, z⟩ := cmem b hc
    exact Nat.lt_irrefl _ (Nat.lt_of_lt_of_le (Heap.lt_size e) (Nat.le_trans I0.ok.bsz (I0.ok.cab y b (hfn y) z)))
  have e2 : Env0 X.prog X.w X.K X.mg X.base X.A X.stack s1 H2 := ⟨e1.frames, e1.mod, fun b o e => ⟨(e1.bs b o e).1, by rw [hout b (nb b o e)]; exact (e1.bs b o e).2⟩, e1.bsz, e1.funs, fun b hb => by
    rw [hout b fun hc => by
      obtain ⟨y, z⟩ := cmem b hc
      exact cfs y b z hb]
    exact e1.frf b hb, hok2, e1.bare⟩
  have hq := q1 H2 L cfree hout cel2
  have hl : us.length = ps.length := by
    rw [← r1.length]
    exact F.len _ _ _ _ hq
  have bb := hb s1 us I1.kIn (by rw [List.append_nil]; exact hl)
  rw [List.append_nil] at bb
  show wpAny (model X.prog X.w) X.A (call (.ref g) us) _ _ _
  refine wpAny_call (codeAny_mono (F.run X.A X.stack s1 H2 ⟨us, []⟩ us vs _ E0 hr e2 bb r1 hq) fun r s3 hq3 => ?_)
  cases r with
  | error er => exact (show False from hq3).elim
  | ok fl =>
    cases fl with
    | next => exact False.elim hq3
    | brk => exact False.elim hq3
    | cont => exact False.elim hq3
    | ret u =>
      obtain ⟨v, H3, os3, bare3, un3, hok3, rv, hc3, qv⟩ := hq3
      refine I1.after ⟨v, rmL H3 (X.env.cells.map (·.2)), os3, bare3, ?_, hok_rmL (fun c hc => by rw [hc3 c hc]; exact cel2 c hc) hok3, rv, qv⟩
      have up : ∀ b, H1 b = none → b ∉ X.env.cells.map (·.2) → H2 b = none := fun b n hb => by rw [hout b hb]; exact n
      refine ⟨fun b o e n hf hx => ?_, fun b o e n hf hx => ?_, fun b o e n hx => ?_, un3.there, fun b xs e => ?_, fun b o u e => ?_, fun b pz e => ?_⟩
      · by_cases hb : b ∈ X.env.cells.map (·.2)
        · obtain ⟨y, z⟩ := cmem b hb
          obtain ⟨o2, v2, a1, _, a2, _⟩ := hin y b z
          rw [e] at a1
          cases a1
          have h3 := hc3 b hb
          rw [a2] at h3
          obtain ⟨h4, _, _⟩ := hok3 b _ h3
          exact h4
        · exact un3.keep b o e (up b n hb) hf hx
      · have hb : b ∉ X.env.cells.map (·.2) := fun hc => by
          obtain ⟨y, z⟩ := cmem b hc
          exact cfs y b z hf
        exact un3.slot b o e (up b n hb) hf hx
      · by_cases hb : b ∈ X.env.cells.map (·.2)
        · exact rmL_in hb
        · rw [rmL_out hb]
          exact un3.free b o e (up b n hb) hx
      · rw [rmL_out (nm _ _ e)]
        exact un3.tups b xs (exH _ _ e)
      · rw [rmL_out (nm _ _ e)]
        exact un3.frzs b o u (exH _ _ e)
      · obtain ⟨more, z⟩ := un3.tbls b pz (exH _ _ e)
        exact ⟨more, by rw [rmL_out (nm _ _ e)]; exact z⟩
end
end Sr
local macro_rules | `(tactic| wtm_at "dec") => `(tactic| first
  | exact decide_eq_true (by omega)
  | exact decide_eq_false (by omega)
  | (simp only [Bool.not_eq_true', Bool.not_eq_false', Bool.not_true, Bool.not_false, decide_eq_true_eq, decide_eq_false_iff_not]; omega)
  | (simp; done)
  | (simp; omega))
local macro_rules | `(tactic| wtm_at "sz") => `(tactic| first
  | omega
  | (simp only [List.length_append, List.length_cons, List.length_nil, List.length_map, List.length_take, List.length_drop, List.length_singleton]; omega)
  | (show _ ≤ _; decide)
  | decide)
local macro_rules | `(tactic| wtm_at "fr") => `(tactic| first
  | assumption
  | (refine Sr.fr_in (q := _) (u := _) ?_; assumption)
  | (refine L2.Same.free ?_ ?_ <;> assumption))
local macro_rules | `(tactic| wtm_at "ne") => `(tactic| first
  | assumption
  | (exact Sr.fr_ne (by assumption))
  | (exact (Sr.fr_ne (by assumption)).symm)
  | (exact L2.ne_of_none (by assumption) (by wtm_at "fr"))
  | (exact (L2.ne_of_none (by assumption) (by wtm_at "fr")).symm))
local macro_rules | `(tactic| wtm_at "at") => `(tactic| first
  | assumption
  | ((with_reducible exact L2.upd_same))
  | ((with_reducible apply Sr.at_ne); wtm_at "at"; wtm_at "fr")
  | ((with_reducible refine' Eq.trans (L2.upd_ne ?_) ?_); wtm_at "ne"; wtm_at "at")
  | ((with_reducible exact (by assumption : L2.Same _ _) _ _ (by assumption))))
local macro_rules | `(tactic| wtm_at "kn") => `(tactic| first
  | assumption
  | ((with_reducible apply L2.SqL.of); wtm_at "at")
  | ((with_reducible apply L2.SqT.of); wtm_at "at")
  | ((with_reducible refine' Sr.ex_t (Sr.ex_new ?_) ?_); wtm_at "fr"; wtm_at "kn")
  | ((with_reducible refine' Sr.ex_l (Sr.ex_new ?_) ?_); wtm_at "fr"; wtm_at "kn")
  | ((with_reducible refine' Sr.ex_t (by assumption) ?_); wtm_at "kn")
  | ((with_reducible refine' Sr.ex_l (by assumption) ?_); wtm_at "kn"))
local macro_rules | `(tactic| wtm_at "s") => `(tactic| first
  | ((with_reducible refine Sr.go_set ?_))
  | ((with_reducible refine Sr.go_ret ?_))
  | ((with_reducible refine Sr.go_if ?_))
  | ((with_reducible refine Sr.go_drop ?_))
  | ((with_reducible refine Sr.go_asg ?_))
  | ((with_reducible apply Sr.wp_var); exact rfl)
  | ((with_reducible refine Sr.wp_c ?_))
  | ((with_reducible refine Sr.wp_op ?_))
  | ((with_reducible refine Sr.wp_un ?_))
  | ((with_reducible refine Sr.wp_chain ?_))
  | ((with_reducible refine Sr.wp_ifE ?_))
  | ((with_reducible refine Sr.wp_andV ?_))
  | ((with_reducible refine Sr.wp_orV ?_))
  | ((with_reducible refine Sr.wp_notV ?_))
  | ((with_reducible refine Sr.wp_test ?_))
  | ((with_reducible refine Sr.wp_B ?_))
  | ((with_reducible refine Sr.wp_and ?_))
  | ((with_reducible refine Sr.wp_or ?_))
  | ((with_reducible refine Sr.wp_not ?_))
  | ((with_reducible refine Sr.wp_yes ?_))
  | ((with_reducible refine Sr.wp_nil ?_))
  | ((with_reducible refine Sr.wp_cons ?_))
  | ((with_reducible refine Sr.wp_tup ?_))
  | ((with_reducible refine Sr.wp_lst ?_))
  | ((with_reducible refine Sr.wp_call ?_))
  | ((with_reducible refine Sr.wp_cb ?_))
  | ((with_reducible refine Sr.wp_sl ?_))
  | ((with_reducible refine Sr.wp_noPart ?_))
  | ((with_reducible refine Sr.wp_part ?_))
  | ((with_reducible refine Sr.wp_addI ?_))
  | ((with_reducible refine Sr.wp_addS ?_ ?_); wtm_at "sz")
  | ((with_reducible refine Sr.wp_i0 ?_))
  | ((with_reducible refine Sr.wp_isNs ?_))
  | ((with_reducible refine Sr.wp_notNs ?_))
  | ((with_reducible refine Sr.go_ifB ?_))
  | ((with_reducible refine Sr.wp_u ?_))
  | ((with_reducible refine Sr.wp_eqI ?_))
  | ((with_reducible refine Sr.wp_neI ?_))
  | ((with_reducible refine Sr.wp_eqS ?_))
  | ((with_reducible refine Sr.wp_neS ?_))
  | ((with_reducible refine Sr.wp_inS ?_))
  | ((with_reducible refine Sr.wp_niS ?_))
  | ((with_reducible refine Sr.wp_lenS ?_ ?_); wtm_at "sz")
  | ((with_reducible apply Sr.wp_lenL); wtm_at "kn")
  | ((with_reducible apply Sr.wp_lenT); wtm_at "kn")
  | ((with_reducible apply Sr.wp_ixT); wtm_at "kn"; exact rfl)
  | ((with_reducible refine Sr.wp_slS ?_ ?_); wtm_at "sz")
  | ((with_reducible refine Sr.wp_gName ?_))
  | ((with_reducible apply Sr.wp_gTup); wtm_at "kn"; exact rfl)
  | ((with_reducible refine Sr.wp_gCons ?_))
  | ((with_reducible refine Sr.wp_gNil ?_))
  | ((with_reducible refine ⟨_, (rfl : @Eq L2.V _ _), ?_⟩))
  | ((with_reducible refine Sr.go_back ?_)))
local macro_rules | `(tactic| wtm_at "r") => `(tactic| repeat wtm_at "s")
local macro_rules | `(tactic| wtm_at "gz") => `(tactic| (
  intro p hp
  generalize hG : L2.upd _ p _ = F
  have h := (Sr.gz_l hG hp).2
  have e := (Sr.gz_l hG hp).1
  clear hG
  revert h e
  revert F
  revert hp
  revert p))
namespace Sr
open PySem PySem.Spec PyProof.Rows L2 SrX
/-! ### sets, tapes -/
abbrev il (cs : List Int) : List V := cs.map V.int
/-- two sets of signs stand at s -/
abbrev SetsAt (K : PySem.W.Frag) (H : Hp) (s : Addr) (A B : List Nat) : Prop := SqT K H s [.str (tx A), .str (tx B)]
structure Good (A B : List Nat) : Prop where
  n1 : 1 ≤ A.length
  n10 : A.length ≤ 10
  eq : B.length = A.length
  ndA : A.Nodup
  ndB : B.Nodup
def CodesOk (n : Nat) (cs : List Int) : Prop := ∀ c ∈ cs, 0 ≤ c ∧ c < (n : Int) + 2
def StOk (st : Int) : Prop := st = 0 ∨ st = 1
/-- the row of a state -/
def rowS (A B : List Nat) (st : Int) : List Nat := if st = 0 then A else B
def sgn (A B : List Nat) (st c : Int) : Nat := (rowS A B st).getD c.toNat 0
def gst (A B : List Nat) (x : List Nat × Int) (c : Int) : List Nat × Int := if c < (A.length : Int) then (x.1 ++ [sgn A B x.2 c], x.2) else (x.1, c - (A.length : Int))
/-- what a tape reads as, the state behind it -/
def gon (A B : List Nat) (cs : List Int) (st : Int) : List Nat × Int := cs.foldl (gst A B) ([], st)
theorem take_more {α : Type} {l : List α} {i : Nat} {x : α} (h : l[i]? = some x) : l.take (i + 1) = l.take i ++ [x] := by
  rw [List.take_add_one, h]; rfl
theorem gon_take {A B : List Nat} {cs : List Int} {st : Int} {i : Nat} {c : Int} (h : cs[i]? = some c) : gon A B (cs.take (i + 1)) st = gst A B (gon A B (cs.take i) st) c := by
  unfold gon
  rw [take_more h, List.foldl_append]
  rfl
theorem gst_len {A B : List Nat} (x : List Nat × Int) (c : Int) : (gst A B x c).1.length ≤ x.1.length + 1 := by
  unfold gst
  split
  · simp
  · simp
theorem gon_len (A B : List Nat) (st : Int) (cs : List Int) : (gon A B cs st).1.length ≤ cs.length := by
  have key : ∀ (cs : List Int) (x : List Nat × Int), (cs.foldl (gst A B) x).1.length ≤ x.1.length + cs.length := by
    intro cs
    induction cs with
    | nil => intro x; exact Nat.le_refl _
    | cons c r ih =>
      intro x
      have h1 := ih (gst A B x c)
      have h2 := gst_len (A := A) (B := B) x c
      rw [List.foldl_cons, List.length_cons]
      omega
  have h := key cs ([], st)
  simpa [gon] using h
theorem gst_st {A B : List Nat} {x : List Nat × Int} {c : Int} (hx : StOk x.2) (hc : 0 ≤ c ∧ c < (A.length : Int) + 2) : StOk (gst A B x c).2 := by
  unfold gst
  split
  · exact hx
  · show c - (A.length : Int) = 0 ∨ c - (A.length : Int) = 1
    omega
theorem gon_st {A B : List Nat} {cs : List Int} {st : Int} (hs : StOk st) (hc : CodesOk A.length cs) : StOk (gon A B cs st).2 := by
  have key : ∀ (cs : List Int) (x : List Nat × Int), StOk x.2 → CodesOk A.length cs → StOk (cs.foldl (gst A B) x).2 := by
    intro cs
    induction cs with
    | nil => intro x h _; exact h
    | cons c r ih =>
      intro x h hc
      exact ih _ (gst_st h (hc c List.mem_cons_self)) fun d hd => hc d (List.mem_cons_of_mem _ hd)
  exact key cs ([], st) hs hc
theorem CodesOk.take {n : Nat} {cs : List Int} (h : CodesOk n cs) (i : Nat) : CodesOk n (cs.take i) := fun c hc => h c (List.mem_of_mem_take hc)
theorem CodesOk.drop {n : Nat} {cs : List Int} (h : CodesOk n cs) (i : Nat) : CodesOk n (cs.drop i) := fun c hc => h c (List.mem_of_mem_drop hc)
theorem CodesOk.app {n : Nat} {cs ds : List Int} (h : CodesOk n cs) (h2 : CodesOk n ds) : CodesOk n (cs ++ ds) := fun c hc => (List.mem_append.mp hc).elim (h c) (h2 c)
theorem row_len {A B : List Nat} (h : B.length = A.length) (st : Int) : (rowS A B st).length = A.length := by
  unfold rowS
  split
  · rfl
  · exact h
theorem at_row {A B : List Nat} {st : Int} (h : StOk st) : atI [V.str (tx A), V.str (tx B)] st = some (.str (tx (rowS A B st))) := by
  rcases h with h | h
  · subst h; exact atI_nat (j := 0) rfl
  · subst h; exact atI_nat (j := 1) rfl
theorem at_sgn {A B : List Nat} {st c : Int} (h : B.length = A.length) (h0 : 0 ≤ c) (h1 : c < (A.length : Int)) : atI (rowS A B st) c = some (sgn A B st c) := by
  have hl : c.toNat < (rowS A B st).length := by rw [row_len h]; omega
  refine atNat h0 ?_
  unfold sgn
  rw [List.getElem?_eq_getElem hl, List.getD_eq_getElem?_getD, List.getElem?_eq_getElem hl]
  rfl
theorem il_at {cs : List Int} {i : Nat} {y : V} (h : (il cs)[i]? = some y) : ∃ c, cs[i]? = some c ∧ y = .int c ∧ c ∈ cs := by
  rw [List.getElem?_map] at h
  cases e : cs[i]? with
  | none => rw [e] at h; cases h
  | some c =>
    rw [e] at h
    exact ⟨c, rfl, (Option.some.inj h).symm, List.mem_of_getElem? e⟩
def topS (i : Nat) : Stmt := PySem.Challenge.pw_shiftrow_k03_tapes_and_states_refused.main.body.getD i (.Pass ⟨0, 0, 0, 0⟩)
section
variable {P : Program} {w : World} {K : PySem.W.Frag} {mg : Str → Option Value} {base : Heap}
abbrev s_gone : Stmt := topS 15
abbrev n_gone : List Str := ["sets", "tape", "state", "many", "found", "code"]
theorem sc_gone : FnScope n_gone ["sets", "tape", "state"] (defScope s_gone) := ⟨rfl, rfl, rfl, by decide +kernel, rfl, by decide +kernel, by decide +kernel⟩

def sp_gone (K : PySem.W.Frag) : Sp := fun vs H Q _ => ∃ (s t : Addr) (A B : List Nat) (cs : List Int) (st : Int), vs = [.ref s, .ref t, .int st] ∧ SetsAt K H s A B ∧ SqL K H t (il cs) ∧ B.length = A.length ∧ A.length ≤ 10 ∧ CodesOk A.length cs ∧ cs.length ≤ 1000 ∧ StOk st ∧
  RetN (.tup [.str (tx (gon A B cs st).1), .int (gon A B cs st).2]) H Q
theorem pm_gone (D : DefAt K mg "gone" s_gone) (B : Bl mg) : Pm P w K mg base CX0 1 "gone" ["sets", "tape", "state"] (sp_gone K) := by
  obtain ⟨f, fd, F, hm⟩ := D
  refine ⟨f, fd, ?_, hm, F.kp, F.binds fun _ _ _ _ _ _ us hl => match us, hl with | [_, _, _], _ => rfl⟩
  refine F.ok sc_gone (fun vs H Q E h => ?_) (fun cdv A outer s H vs Q E hr h => ?_)
  · obtain ⟨_, _, _, _, _, _, rfl, _⟩ := h
    rfl
  · obtain ⟨s, t, A', B', cs, st, rfl, hS, hT, eL, nL, hc, cl, hst, k⟩ := h
    refine ⟨_, (pss_cons (ps_set (i := 3) sc_gone.nd rfl (Or.inl rfl) (pe_callB (lenK K rfl) (by rfl) B.len PySem.boot_len (pa_cons (pe_ix (ixK K rfl) (pv 0) pe_int (fun _ _ => rfl)) pa_nil)))
 (pss_cons (ps_set (i := 4) sc_gone.nd rfl (Or.inl rfl) (pe_strT (l := []) (by decide +kernel)))
 (pss_cons (ps_for PassesOwn.never rfl (piL K rfl (pv 1)) (pg_name (i := 5) sc_gone.nd rfl (Or.inl rfl))
 (pss_cons (ps_if (pt_cmpR op_lt (pv 5) (pv 3) (nomark _))
 (pss_cons (ps_set (i := 4) sc_gone.nd rfl (Or.inl rfl) (pe_op op_addP (pv 4) (pe_ix (ixK K rfl) (pe_ix (ixK K rfl) (pv 0) (pv 2) (fun _ _ => rfl)) (pv 5) (fun _ _ => rfl))))
 pss_nil)
 (pss_cons (ps_set (i := 2) sc_gone.nd rfl (Or.inl rfl) (pe_op op_sub (pv 5) (pv 3)))
 pss_nil))
 pss_nil))
 (pss_cons (ps_ret (pe_tup (pa_cons (pv 4) (pa_cons (pv 2) pa_nil))))
 pss_nil)))), ?_⟩
    refine go_st (σ := [some (.ref s), some (.ref t), some (.int st), none, none, none]) rfl ?_
    wtm_at "r"
    refine go_forL (fun i σ F => ∃ y, σ = [some (.ref s), some (.ref t), some (.int (gon A' B' (cs.take i) st).2), some (.int (A'.length : Nat)), some (.str (tx (gon A' B' (cs.take i) st).1)), y] ∧ Ex H F) ?_
    wtm_at "r"
    refine ⟨t, il cs, rfl, hT, ⟨none, rfl, exr H⟩, fun i σ F hi ⟨_, _, e⟩ => ex_l e hT, ?_, ?_⟩
    · rintro i y σ F hy ⟨y0, rfl, e⟩
      obtain ⟨c, hcy, rfl, hmem⟩ := il_at hy
      have hcc := hc c hmem
      have hs2 := gon_st hst (hc.take i) (B := B')
      have hS2 := ex_t e hS
      have hl := gon_len A' B' st (cs.take i)
      have hl2 : (cs.take i).length ≤ cs.length := List.length_take_le' _ _
      have step := gon_take (A := A') (B := B') (st := st) hcy
      wtm_at "r"
      refine ⟨fun hlt => ?_, fun hlt => ?_⟩
      · have hlt := of_decide_eq_true hlt
        wtm_at "r"
        refine wp_ixT hS2 (at_row hs2) ?_
        wtm_at "r"
        refine wp_ixS (by rw [row_len eL]; omega) (at_sgn eL hcc.1 hlt) ?_
        refine wp_addS (j := [sgn A' B' (gon A' B' (cs.take i) st).2 c]) (by wtm_at "sz") ?_
        wtm_at "r"
        refine go_turn rfl ⟨some (.int c), ?_, e⟩
        rw [step]
        unfold gst
        rw [if_pos hlt]
        rfl
      · have hlt := of_decide_eq_false hlt
        wtm_at "r"
        refine go_turn rfl ⟨some (.int c), ?_, e⟩
        rw [step]
        unfold gst
        rw [if_neg hlt]
        rfl
    · rintro σ F ⟨y0, rfl, e⟩
      rw [List.length_map, List.take_length]
      wtm_at "r"
      refine ⟨(by show 2 ≤ 100000; decide), fun p hp => k.out (e.trans (ex_new hp)) (e.free hp) upd_same⟩

abbrev s_need_sets : Stmt := topS 10
abbrev n_need_sets : List Str := ["sets", "one", "other"]
theorem sc_need_sets : FnScope n_need_sets ["sets"] (defScope s_need_sets) := ⟨rfl, rfl, rfl, by decide +kernel, rfl, by decide +kernel, by decide +kernel⟩

def sp_need_sets (K : PySem.W.Frag) : Sp := fun vs H Q _ => ∃ (s : Addr) (A B : List Nat), vs = [.ref s] ∧ SetsAt K H s A B ∧ Good A B ∧ RetV .non H Q
theorem pm_need_sets (D : DefAt K mg "need_sets" s_need_sets) (B : Bl mg) (c_MOST_SIGNS : ∃ t, mg "MOST_SIGNS" = some (.int 10 t)) : Pm P w K mg base CX0 1 "need_sets" ["sets"] (sp_need_sets K) := by
  obtain ⟨f, fd, F, hm⟩ := D
  refine ⟨f, fd, ?_, hm, F.kp, F.binds fun _ _ _ _ _ _ us hl => match us, hl with | [_], _ => rfl⟩
  refine F.ok sc_need_sets (fun vs H Q E h => ?_) (fun cdv A outer s H vs Q E hr h => ?_)
  · obtain ⟨_, _, _, rfl, _⟩ := h
    rfl
  · obtain ⟨s, A', B', rfl, hS, g, k⟩ := h
    obtain ⟨n1, n10, eL, ndA, ndB⟩ := g
    have eA := (dd_full A').mpr ndA
    have eB := (dd_full B').mpr ndB
    refine ⟨_, (pss_cons (ps_asg (pv 0) (pgT K rfl (n := 2) rfl (pgs_cons (pg_name (i := 1) sc_need_sets.nd rfl (Or.inl rfl)) (pgs_cons (pg_name (i := 2) sc_need_sets.nd rfl (Or.inl rfl)) pgs_nil))))
 (pss_cons (ps_if (pt_not (pt_chain op_le op_le pe_int (pe_callB (lenK K rfl) (by rfl) B.len PySem.boot_len (pa_cons (pv 1) pa_nil)) (pe_cst c_MOST_SIGNS)))
 (pss_cons ps_never
 pss_nil)
 pss_nil)
 (pss_cons (ps_if (pt_cmpR (neK K rfl hr.units) (pe_lenSg rfl B.len B.set (pv 1)) (pe_callB (lenK K rfl) (by rfl) B.len PySem.boot_len (pa_cons (pv 1) pa_nil)) (nomark _))
 (pss_cons ps_never
 pss_nil)
 pss_nil)
 (pss_cons (ps_if (PW.pt (pw_or (pt_cmpR (neK K rfl hr.units) (pe_callB (lenK K rfl) (by rfl) B.len PySem.boot_len (pa_cons (pv 2) pa_nil)) (pe_callB (lenK K rfl) (by rfl) B.len PySem.boot_len (pa_cons (pv 1) pa_nil)) (nomark _)) (pw_or1 (pt_cmpR (neK K rfl hr.units) (pe_lenSg rfl B.len B.set (pv 2)) (pe_callB (lenK K rfl) (by rfl) B.len PySem.boot_len (pa_cons (pv 2) pa_nil)) (nomark _)))))
 (pss_cons ps_never
 pss_nil)
 pss_nil)
 pss_nil)))), ?_⟩
    refine go_st (σ := [some (.ref s), none, none]) rfl ?_
    wtm_at "r"
    refine bT (by wtm_at "dec") ?_
    wtm_at "r"
    refine bF (by wtm_at "dec") ?_
    wtm_at "r"
    refine wp_lenSg ?_
    wtm_at "r"
    refine ⟨by omega, ?_⟩
    wtm_at "r"
    refine bF (by wtm_at "dec") ?_
    wtm_at "r"
    refine bF (by wtm_at "dec") ?_
    wtm_at "r"
    refine wp_lenSg ?_
    wtm_at "r"
    refine ⟨by omega, ?_⟩
    wtm_at "r"
    refine bF (by wtm_at "dec") ?_
    wtm_at "r"
    exact k.out (exr H)
abbrev s_need_tape : Stmt := topS 11
abbrev n_need_tape : List Str := ["sets", "tape", "at", "code"]
theorem sc_need_tape : FnScope n_need_tape ["sets", "tape"] (defScope s_need_tape) := ⟨rfl, rfl, rfl, by decide +kernel, rfl, by decide +kernel, by decide +kernel⟩

def sp_need_tape (K : PySem.W.Frag) : Sp := fun vs H Q _ => ∃ (s t : Addr) (A B : List Nat) (cs : List Int), vs = [.ref s, .ref t] ∧ SetsAt K H s A B ∧ SqL K H t (il cs) ∧ A.length ≤ 10 ∧ CodesOk A.length cs ∧ cs.length ≤ 200 ∧ RetV .non H Q
theorem pm_need_tape (D : DefAt K mg "need_tape" s_need_tape) (B : Bl mg) (c_MOST_CODES : ∃ t, mg "MOST_CODES" = some (.int 200 t)) : Pm P w K mg base CX0 1 "need_tape" ["sets", "tape"] (sp_need_tape K) := by
  obtain ⟨f, fd, F, hm⟩ := D
  refine ⟨f, fd, ?_, hm, F.kp, F.binds fun _ _ _ _ _ _ us hl => match us, hl with | [_, _], _ => rfl⟩
  refine F.ok sc_need_tape (fun vs H Q E h => ?_) (fun cdv A outer s H vs Q E hr h => ?_)
  · obtain ⟨_, _, _, _, _, rfl, _⟩ := h
    rfl
  · obtain ⟨s, t, A', B', cs, rfl, hS, hT, nL, hc, cl, k⟩ := h
    refine ⟨_, (pss_cons (ps_for PassesOwn.never rfl (piE K rfl B.enumerate (pa_cons (pv 1) pa_nil)) (pgT K rfl (n := 2) rfl (pgs_cons (pg_name (i := 2) sc_need_tape.nd rfl (Or.inl rfl)) (pgs_cons (pg_name (i := 3) sc_need_tape.nd rfl (Or.inl rfl)) pgs_nil)))
 (pss_cons (ps_if (PW.pt (pw_or (pt_cmpR op_ge (pv 2) (pe_cst c_MOST_CODES) (nomark _)) (pw_or1 (pt_not (pt_chain op_le op_lt pe_int (pv 3) (pe_op op_addP (pe_callB (lenK K rfl) (by rfl) B.len PySem.boot_len (pa_cons (pe_ix (ixK K rfl) (pv 0) pe_int (fun _ _ => rfl)) pa_nil)) pe_int))))))
 (pss_cons ps_never
 pss_nil)
 pss_nil)
 pss_nil))
 pss_nil), ?_⟩
    refine go_st (σ := [some (.ref s), some (.ref t), none, none]) rfl ?_
    refine go_forE (fun i σ F => ∃ x y, σ = [some (.ref s), some (.ref t), x, y] ∧ Ex H F) ?_
    wtm_at "r"
    refine ⟨t, il cs, rfl, hT, ⟨none, none, rfl, exr H⟩, fun i σ F hi ⟨_, _, _, e⟩ => ex_l e hT, ?_, ?_⟩
    · rintro i y σ F p hy hp ⟨x0, y0, rfl, e⟩
      obtain ⟨c, hcy, rfl, hmem⟩ := il_at hy
      have hcc := hc c hmem
      have hi : i < cs.length := (List.getElem?_eq_some_iff.mp hcy).1
      have hS2 := ex_t (e.trans (ex_new (u := .tup [.int (i : Nat), .int c]) hp)) hS
      wtm_at "r"
      refine bF (by wtm_at "dec") ?_
      wtm_at "r"
      refine bT (by wtm_at "dec") ?_
      wtm_at "r"
      refine bF (by wtm_at "dec") ?_
      wtm_at "r"
      exact go_turn rfl ⟨_, _, rfl, e.trans (ex_new hp)⟩
    · rintro σ F ⟨_, _, rfl, e⟩
      exact k.out e
abbrev s_need_state : Stmt := topS 12
abbrev n_need_state : List Str := ["state"]
theorem sc_need_state : FnScope n_need_state ["state"] (defScope s_need_state) := ⟨rfl, rfl, rfl, by decide +kernel, rfl, by decide +kernel, by decide +kernel⟩

def sp_need_state (K : PySem.W.Frag) : Sp := fun vs H Q _ => ∃ (st : Int), vs = [.int st] ∧ StOk st ∧ RetV .non H Q
theorem pm_need_state (D : DefAt K mg "need_state" s_need_state) : Pm P w K mg base CX0 1 "need_state" ["state"] (sp_need_state K) := by
  obtain ⟨f, fd, F, hm⟩ := D
  refine ⟨f, fd, ?_, hm, F.kp, F.binds fun _ _ _ _ _ _ us hl => match us, hl with | [_], _ => rfl⟩
  refine F.ok sc_need_state (fun vs H Q E h => ?_) (fun cdv A outer s H vs Q E hr h => ?_)
  · obtain ⟨_, rfl, _⟩ := h
    rfl
  · obtain ⟨st, rfl, hst, k⟩ := h
    refine ⟨_, (pss_cons (ps_if (pt_cmpR (niK K rfl) (pv 0) (pe_tup (pa_cons pe_int (pa_cons pe_int pa_nil))) (by rfl))
 (pss_cons ps_never
 pss_nil)
 pss_nil)
 pss_nil), ?_⟩
    refine go_st (σ := [some (.int st)]) rfl ?_
    wtm_at "r"
    refine ⟨(by show 2 ≤ 100000; decide), fun p hp => ?_⟩
    refine wp_niT (SqT.of upd_same) rfl rfl ?_
    wtm_at "r"
    refine bF ?_ ?_
    · rcases hst with h | h <;> subst h <;> rfl
    wtm_at "r"
    exact k.out (ex_new hp)
abbrev s_need_all : Stmt := topS 13
abbrev n_need_all : List Str := ["sets", "tape", "state"]
theorem sc_need_all : FnScope n_need_all ["sets", "tape", "state"] (defScope s_need_all) := ⟨rfl, rfl, rfl, by decide +kernel, rfl, by decide +kernel, by decide +kernel⟩

def sp_need_all (K : PySem.W.Frag) : Sp := fun vs H Q _ => ∃ (s t : Addr) (A B : List Nat) (cs : List Int) (st : Int), vs = [.ref s, .ref t, .int st] ∧ SetsAt K H s A B ∧ SqL K H t (il cs) ∧ Good A B ∧ CodesOk A.length cs ∧ cs.length ≤ 200 ∧ StOk st ∧ RetV .non H Q
theorem wp_need_sets {o : Option Addr} {F : Hp} {Pq : V → Hp → Prop} {s : Addr} {A B : List Nat} {E : XK} (hS : SetsAt K F s A B) (g : Good A B) (q : Pq .non F) : Wp o (fun H Q => sp_need_sets K ([.ref s] ++ []) H Q E) F Pq :=
  fun H w Q k => ⟨s, A, B, rfl, w.t hS, g, RetV.use w q k⟩
theorem wp_need_tape {o : Option Addr} {F : Hp} {Pq : V → Hp → Prop} {s t : Addr} {A B : List Nat} {cs : List Int} {E : XK} (hS : SetsAt K F s A B) (hT : SqL K F t (il cs)) (g : A.length ≤ 10) (hc : CodesOk A.length cs) (cl : cs.length ≤ 200) (q : Pq .non F) :
    Wp o (fun H Q => sp_need_tape K ([.ref s, .ref t] ++ []) H Q E) F Pq := fun H w Q k => ⟨s, t, A, B, cs, rfl, w.t hS, w.l hT, g, hc, cl, RetV.use w q k⟩
theorem wp_need_state {o : Option Addr} {F : Hp} {Pq : V → Hp → Prop} {st : Int} {E : XK} (h : StOk st) (q : Pq .non F) : Wp o (fun H Q => sp_need_state K ([.int st] ++ []) H Q E) F Pq :=
  fun H w Q k => ⟨st, rfl, h, RetV.use w q k⟩
theorem wp_need_all {o : Option Addr} {F : Hp} {Pq : V → Hp → Prop} {s t : Addr} {A B : List Nat} {cs : List Int} {st : Int} {E : XK} (hS : SetsAt K F s A B) (hT : SqL K F t (il cs)) (g : Good A B) (hc : CodesOk A.length cs) (cl : cs.length ≤ 200) (h : StOk st) (q : Pq .non F) :
    Wp o (fun H Q => sp_need_all K ([.ref s, .ref t, .int st] ++ []) H Q E) F Pq := fun H w Q k => ⟨s, t, A, B, cs, st, rfl, w.t hS, w.l hT, g, hc, cl, h, RetV.use w q k⟩
theorem wp_gone {o : Option Addr} {F : Hp} {Pq : V → Hp → Prop} {s t : Addr} {A B : List Nat} {cs : List Int} {st : Int} {E : XK} (hS : SetsAt K F s A B) (hT : SqL K F t (il cs)) (eL : B.length = A.length) (nL : A.length ≤ 10) (hc : CodesOk A.length cs) (cl : cs.length ≤ 1000) (h : StOk st)
    (q : ∀ p, F p = none → Pq (.ref p) (upd F p (.tup [.str (tx (gon A B cs st).1), .int (gon A B cs st).2]))) :
    Wp o (fun H Q => sp_gone K ([.ref s, .ref t, .int st] ++ []) H Q E) F Pq := fun H w Q k => ⟨s, t, A, B, cs, st, rfl, w.t hS, w.l hT, eL, nL, hc, cl, h, RetN.use w q k⟩
theorem pm_need_all (D : DefAt K mg "need_all" s_need_all) (g_need_sets : Pm P w K mg base CX0 1 "need_sets" ["sets"] (sp_need_sets K)) (g_need_tape : Pm P w K mg base CX0 1 "need_tape" ["sets", "tape"] (sp_need_tape K))
    (g_need_state : Pm P w K mg base CX0 1 "need_state" ["state"] (sp_need_state K)) : Pm P w K mg base CX0 2 "need_all" ["sets", "tape", "state"] (sp_need_all K) := by
  obtain ⟨f, fd, F, hm⟩ := D
  refine ⟨f, fd, ?_, hm, F.kp, F.binds fun _ _ _ _ _ _ us hl => match us, hl with | [_, _, _], _ => rfl⟩
  refine F.ok sc_need_all (fun vs H Q E h => ?_) (fun cdv A outer s H vs Q E hr h => ?_)
  · obtain ⟨_, _, _, _, _, _, rfl, _⟩ := h
    rfl
  · obtain ⟨s, t, A', B', cs, st, rfl, hS, hT, g, hc, cl, hst, k⟩ := h
    refine ⟨_, (pss_cons (ps_expr (pe_pm g_need_sets (hr.mono (by decide)) pass0 (pa_cons (pv 0) pa_nil)))
 (pss_cons (ps_expr (pe_pm g_need_tape (hr.mono (by decide)) pass0 (pa_cons (pv 0) (pa_cons (pv 1) pa_nil))))
 (pss_cons (ps_expr (pe_pm g_need_state (hr.mono (by decide)) pass0 (pa_cons (pv 2) pa_nil)))
 pss_nil))), ?_⟩
    refine go_st (σ := [some (.ref s), some (.ref t), some (.int st)]) rfl ?_
    wtm_at "r"
    refine wp_need_sets hS g ?_
    wtm_at "r"
    refine wp_need_tape hS hT g.n10 hc cl ?_
    wtm_at "r"
    refine wp_need_state hst ?_
    wtm_at "r"
    exact k.out (exr H)
abbrev s_read : Stmt := topS 16
abbrev n_read : List Str := ["sets", "tape", "state"]
theorem sc_read : FnScope n_read ["sets", "tape", "state"] (defScope s_read) := ⟨rfl, rfl, rfl, by decide +kernel, rfl, by decide +kernel, by decide +kernel⟩

def sp_read (K : PySem.W.Frag) : Sp := fun vs H Q _ => ∃ (s t : Addr) (A B : List Nat) (cs : List Int) (st : Int), vs = [.ref s, .ref t, .int st] ∧ SetsAt K H s A B ∧ SqL K H t (il cs) ∧ Good A B ∧ CodesOk A.length cs ∧ cs.length ≤ 200 ∧ StOk st ∧
  RetN (.tup [.str (tx (gon A B cs st).1), .int (gon A B cs st).2]) H Q
theorem wp_read {o : Option Addr} {F : Hp} {Pq : V → Hp → Prop} {s t : Addr} {A B : List Nat} {cs : List Int} {st : Int} {E : XK} (hS : SetsAt K F s A B) (hT : SqL K F t (il cs)) (g : Good A B) (hc : CodesOk A.length cs) (cl : cs.length ≤ 200) (h : StOk st)
    (q : ∀ p, F p = none → Pq (.ref p) (upd F p (.tup [.str (tx (gon A B cs st).1), .int (gon A B cs st).2]))) :
    Wp o (fun H Q => sp_read K ([.ref s, .ref t, .int st] ++ []) H Q E) F Pq := fun H w Q k => ⟨s, t, A, B, cs, st, rfl, w.t hS, w.l hT, g, hc, cl, h, RetN.use w q k⟩
theorem pm_read (D : DefAt K mg "read" s_read) (g_need_all : Pm P w K mg base CX0 2 "need_all" ["sets", "tape", "state"] (sp_need_all K)) (g_gone : Pm P w K mg base CX0 1 "gone" ["sets", "tape", "state"] (sp_gone K)) :
    Pm P w K mg base CX0 3 "read" ["sets", "tape", "state"] (sp_read K) := by
  obtain ⟨f, fd, F, hm⟩ := D
  refine ⟨f, fd, ?_, hm, F.kp, F.binds fun _ _ _ _ _ _ us hl => match us, hl with | [_, _, _], _ => rfl⟩
  refine F.ok sc_read (fun vs H Q E h => ?_) (fun cdv A outer s H vs Q E hr h => ?_)
  · obtain ⟨_, _, _, _, _, _, rfl, _⟩ := h
    rfl
  · obtain ⟨s, t, A', B', cs, st, rfl, hS, hT, g, hc, cl, hst, k⟩ := h
    refine ⟨_, (pss_cons (ps_expr (pe_pm g_need_all (hr.mono (by decide)) pass0 (pa_cons (pv 0) (pa_cons (pv 1) (pa_cons (pv 2) pa_nil)))))
 (pss_cons (ps_ret (pe_pm g_gone (hr.mono (by decide)) pass0 (pa_cons (pv 0) (pa_cons (pv 1) (pa_cons (pv 2) pa_nil)))))
 pss_nil)), ?_⟩
    refine go_st (σ := [some (.ref s), some (.ref t), some (.int st)]) rfl ?_
    wtm_at "r"
    refine wp_need_all hS hT g hc cl hst ?_
    wtm_at "r"
    refine wp_gone hS hT g.eq g.n10 hc (by omega) hst fun p hp => ?_
    exact k.out (ex_new hp) hp upd_same
end
section
variable {P : Program} {w : World} {K : PySem.W.Frag} {mg : Str → Option Value} {base : Heap}
abbrev s_q_dice : Stmt := topS 38
abbrev n_q_dice : List Str := ["_law_script", "_law_k", "_law_found", "_law_cell"]
theorem sc_q_dice : FnScope n_q_dice ["_law_script", "_law_k"] (defScope s_q_dice) := ⟨rfl, rfl, rfl, by decide +kernel, rfl, by decide +kernel, by decide +kernel⟩

def sp_dice (K : PySem.W.Frag) : Sp := fun vs H Q _ => ∃ (a : Addr) (k : Int) (ns : List Int), vs = [.ref a, .int k] ∧ SqL K H a (il ns) ∧ ns.length ≤ 63 ∧ ∀ p H1, H p = none → Ex H H1 → Dc H1 p → Q (.ref p) H1
theorem il_take (ms : List Int) (c : Int) : il ms ++ [V.int c] = il (ms ++ [c]) := by simp
theorem pm_dice (D : DefAt K mg "_law_dice" s_q_dice) (B : Bl mg) : Pm P w K mg base CX0 1 "_law_dice" ["_law_script", "_law_k"] (sp_dice K) := by
  obtain ⟨f, fd, F, hm⟩ := D
  refine ⟨f, fd, ?_, hm, F.kp, F.binds fun _ _ _ _ _ _ us hl => match us, hl with | [_, _], _ => rfl⟩
  refine F.ok sc_q_dice (fun vs H Q E h => ?_) (fun cdv A outer s H vs Q E hr h => ?_)
  · obtain ⟨_, _, _, rfl, _⟩ := h
    rfl
  · obtain ⟨a, k0, ns, rfl, hA, hl, k⟩ := h
    refine ⟨_, (pss_cons (ps_set (i := 2) sc_q_dice.nd rfl (Or.inl rfl) (pv 1))
 (pss_cons (ps_for PassesOwn.never rfl (piL K rfl (pv 0)) (pg_name (i := 3) sc_q_dice.nd rfl (Or.inl rfl))
 (pss_cons (ps_set (i := 2) sc_q_dice.nd rfl (Or.inl rfl) (pe_op op_modN (pe_op op_addP (pe_op op_mulP (pv 2) pe_int) (pe_callB call_abs (by rfl) B.abs (by decide +kernel) (pa_cons (pv 3) pa_nil))) pe_int))
 pss_nil))
 (pss_cons (ps_ret (pe_op op_addP (pe_lst (pa_cons (pv 2) (pa_cons pe_int pa_nil))) (pe_lc (own := [("_law_cell", 3)]) (g := gName 3) rfl sc_q_dice.nd (piL K rfl (pv 0)) (blkOk_by (N := n_q_dice) (sc := defScope s_q_dice) (by decide +kernel)) (fun _ _ _ _ _ => pg_name (i := 3) sc_q_dice.nd rfl (Or.inl rfl)) (fun _ _ _ _ _ => (pts_one (pt_cmpR op_ge (pv 3) (pe_op op_pow pe_int pe_int) (nomark _)))) (fun _ _ _ _ _ => (pv 3)))))
 pss_nil))), ?_⟩
    refine go_st (σ := [some (.ref a), some (.int k0), none, none]) rfl ?_
    wtm_at "r"
    refine go_forL (fun i σ F => ∃ (x : Int) (y : Option V), σ = [some (.ref a), some (.int k0), some (.int x), y] ∧ Ex H F) ?_
    wtm_at "r"
    refine ⟨a, il ns, rfl, hA, ⟨k0, none, rfl, exr H⟩, fun i σ F hi ⟨_, _, _, e⟩ => ex_l e hA, ?_, ?_⟩
    · rintro i y σ F hy ⟨x, y0, rfl, e⟩
      obtain ⟨c, hcy, rfl, hmem⟩ := il_at hy
      wtm_at "r"
      refine wp_mulI (.inr ⟨by decide, by decide⟩) ?_
      wtm_at "r"
      refine wp_abs ?_
      wtm_at "r"
      refine wp_i (by decide) ?_
      wtm_at "r"
      exact go_turn rfl ⟨_, _, rfl, e⟩
    · rintro σ F ⟨x, y0, rfl, e⟩
      wtm_at "r"
      refine ⟨(by show 2 ≤ 100000; decide), fun p hp => ?_⟩
      refine wp_lcL (fun _ => rfl) ?_
      wtm_at "r"
      refine ⟨a, il ns, rfl, ex_l (e.trans (ex_new hp)) hA, fun Dl hD => ?_⟩
      have npd := fr_ne hD
      refine ⟨fun i acc F2 => ∃ ms : List Int, acc = il ms ∧ ms.length ≤ i ∧ Ex H F2 ∧ F2 p = some (.lst [.int x, .int 0]), ⟨[], rfl, Nat.le_refl _, (e.trans (ex_new hp)).trans (ex_new hD), by wtm_at "at"⟩, fun i acc F2 ⟨_, _, _, e2, _⟩ => ex_l e2 hA, ?_, ?_⟩
      · rintro i y acc F2 hy q2 ⟨ms, rfl, hms, e2, hp2⟩
        obtain ⟨c, hcy, rfl, hmem⟩ := il_at hy
        have hi : i < ns.length := (List.getElem?_eq_some_iff.mp hcy).1
        show Wp _ _ _ _
        wtm_at "r"
        refine wp_i ⟨by decide, by decide, by decide⟩ ?_
        wtm_at "r"
        refine ⟨fun _ => ?_, fun _ => ⟨q2, ms, rfl, by omega, e2, hp2⟩⟩
        wtm_at "r"
        have hDH : H Dl = none := (e.trans (ex_new hp)).free hD
        refine ⟨q2, by rw [List.length_map]; omega, ms ++ [c], il_take ms c, by rw [List.length_append, List.length_singleton]; omega, ex_mut e2 hDH, ?_⟩
        rw [upd_ne npd.symm]
        exact hp2
      · rintro acc F2 q2 ⟨ms, rfl, hms, e2, hp2⟩
        rw [List.length_map] at hms
        refine wp_addL hp2 q2 (by rw [List.length_map]; show 2 + _ ≤ _; omega) fun r hr2 => ?_
        intro H3 w3
        refine k r H3 (e2.free hr2) (e2.trans ((ex_new hr2).trans w3.ex)) ⟨x :: 0 :: ms, ?_, ?_, ?_⟩
        · exact w3.ex _ _ upd_same
        · simp
        · simp only [List.length_cons]; omega
abbrev s_q_off : Stmt := topS 39
abbrev n_q_off : List Str := ["_law_d", "_law_most", "_law_found"]
theorem sc_q_off : FnScope n_q_off ["_law_d", "_law_most"] (defScope s_q_off) := ⟨rfl, rfl, rfl, by decide +kernel, rfl, by decide +kernel, by decide +kernel⟩

def sp_off : Sp := fun vs H Q _ => ∃ (d : Addr) (m : Int), vs = [.ref d, .int m] ∧ 0 < m ∧ m < 1000000 ∧ Dc H d ∧ ∀ (r : Nat) (H1 : Hp), (r : Int) < m → Ex (rm H d) H1 → Dc H1 d → Q (.int (r : Int)) H1
theorem wp_off {d : Addr} {F : Hp} {Pq : V → Hp → Prop} {m : Int} {E : XK} (h0 : 0 < m) (h1 : m < 1000000) (q : ∀ r : Nat, (r : Int) < m → Pq (.int (r : Int)) F) : Wp (some d) (fun H Q => sp_off ([.ref d, .int m] ++ []) H Q E) F Pq := fun H w Q k =>
  ⟨d, m, rfl, h0, h1, (w.dc d rfl).2, fun r H1 hr e hu => k _ _ F ⟨(ex_to_rm w.ex (w.dc d rfl).1).trans e, fun b z => by cases z; exact ⟨(w.dc d rfl).1, hu⟩⟩ (q r hr)⟩
theorem fmod_nat {x m : Int} (h : 0 < m) : ∃ r : Nat, Int.fmod x m = (r : Int) ∧ (r : Int) < m := by
  refine ⟨(x % m).toNat, ?_, ?_⟩
  · rw [Int.fmod_eq_emod_of_nonneg _ (by omega)]
    have := Int.emod_nonneg x (show m ≠ 0 by omega)
    omega
  · have h1 := Int.emod_lt_of_pos x h
    have h2 := Int.emod_nonneg x (show m ≠ 0 by omega)
    omega
theorem pm_off (D : DefAt K mg "_law_off" s_q_off) (B : Bl mg) : Pm P w K mg base CX0 1 "_law_off" ["_law_d", "_law_most"] sp_off := by
  obtain ⟨f, fd, F, hm⟩ := D
  refine ⟨f, fd, ?_, hm, F.kp, F.binds fun _ _ _ _ _ _ us hl => match us, hl with | [_, _], _ => rfl⟩
  refine F.ok sc_q_off (fun vs H Q E h => ?_) (fun cdv A outer s H vs Q E hr h => ?_)
  · obtain ⟨_, _, rfl, _⟩ := h
    rfl
  · obtain ⟨d, m, rfl, m0, m1, hd, k⟩ := h
    obtain ⟨ns, hd, l2, l70⟩ := hd
    obtain ⟨n0, n1, ns, rfl⟩ : ∃ n0 n1 r, ns = n0 :: n1 :: r := by
      match ns, l2 with
      | a :: b :: r, _ => exact ⟨a, b, r, rfl⟩
    refine ⟨_, (Evl.pss_cut (ps_if (PW.pt (pw_and (pt_cmpR (eqK K rfl hr.units) (pe_ix (ixK K rfl) (pv 0) pe_int (fun _ _ => rfl)) pe_int (nomark _)) (pw_and1 (pt_cmpR op_gt (pe_callB (lenK K rfl) (by rfl) B.len PySem.boot_len (pa_cons (pv 0) pa_nil)) pe_int (nomark _)))))
 (pss_cons (ps_asg (bmK K rfl PySem.F.plainAttrs_list PySem.F.slot_list_pop PySem.F.type_list_pop mt_popAt (pv 0) (pa_cons pe_int pa_nil)) (pg_sub (pv 0) pe_int set_list))
 pss_nil)
 pss_nil)
 (pss_cons (ps_if (pt_cmpR op_gt (pe_ix (ixK K rfl) (pv 0) pe_int (fun _ _ => rfl)) pe_int (nomark _))
 (pss_cons (ps_set (i := 2) sc_q_off.nd rfl (Or.inl rfl) (pe_op op_modN (pe_ix (ixK K rfl) (pv 0) pe_int (fun _ _ => rfl)) (pv 1)))
 (pss_cons (ps_asg (pe_op op_fdivN (pe_ix (ixK K rfl) (pv 0) pe_int (fun _ _ => rfl)) (pv 1)) (pg_sub (pv 0) pe_int set_list))
 (pss_cons (ps_ret (pv 2))
 pss_nil)))
 pss_nil)
 (pss_cons (ps_asg (pe_op op_modN (pe_op op_addP (pe_op op_mulP (pe_ix (ixK K rfl) (pv 0) pe_int (fun _ _ => rfl)) pe_int) pe_int) pe_int) (pg_sub (pv 0) pe_int set_list))
 (pss_cons (ps_ret (pe_op op_modN (pe_op op_fdivN (pe_ix (ixK K rfl) (pv 0) pe_int (fun _ _ => rfl)) pe_int) (pv 1)))
 pss_nil)))), ?_⟩
    refine go_st (σ := [some (.ref d), some (.int m), none]) rfl ?_
    refine go_cut (fun σ F => ∃ n0 n1 ns, σ = [some (.ref d), some (.int m), none] ∧ F = upd H d (.lst (il (n0 :: n1 :: ns))) ∧ ns.length ≤ 68) ?_ ?_
    · wtm_at "r"
      have fin : ∀ F1, F1 = H → Go none tNext { nx := Cl none fun σ F => ∃ n0 n1 ns, σ = [some (.ref d), some (.int m), none] ∧ F = upd H d (.lst (il (n0 :: n1 :: ns))) ∧ ns.length ≤ 68, rt := Q } [some (.ref d), some (.int m), none] F1 := by
        rintro F1 rfl
        refine go_turn rfl ⟨n0, n1, ns, rfl, ?_, by simp only [List.length_cons] at l70; omega⟩
        funext b
        by_cases e : b = d
        · subst e; rw [upd_same]; exact hd
        · rw [upd_ne e]
      refine wp_ixL (SqL.of hd) (atNat (by decide) rfl) ?_
      wtm_at "r"
      refine ⟨fun _ => ?_, fun _ => bF rfl (fin _ rfl)⟩
      wtm_at "r"
      refine ⟨fun h2 => ?_, fun _ => fin _ rfl⟩
      have h2 := of_decide_eq_true h2
      obtain ⟨n2, ns, rfl⟩ : ∃ n2 r, ns = n2 :: r := by
        match ns, h2 with
        | [], h2 => simp at h2
        | a :: r, _ => exact ⟨a, r, rfl⟩
      wtm_at "r"
      refine wp_bmL ?_
      wtm_at "r"
      refine ⟨d, _, rfl, SqL.of hd, ?_⟩
      wtm_at "r"
      refine wp_popAt (j := 2) (y := .int n2) hd (by simp only [List.length_map]; omega) rfl ?_
      refine wp_gSetL ?_
      wtm_at "r"
      refine ⟨d, _, 1, 1, rfl, rfl, upd_same, ?_, ?_⟩
      · exact ixN_nat (j := 1) (by simp)
      · refine go_turn rfl ⟨n0, n2, ns, rfl, ?_, by simp only [List.length_cons] at l70; omega⟩
        rw [upd_upd]
        rfl
    · rintro σ F ⟨n0, n1, ns, rfl, rfl, hl⟩
      have kk : ∀ (r : Nat) (a b : Int) (F1 : Hp), (r : Int) < m → F1 = upd H d (.lst (il (a :: b :: ns))) → ∀ H1, Wd none F1 H1 → Q (.int (r : Int)) H1 := by
        rintro r a b F1 hr rfl H1 w1
        refine k r H1 hr (fun c u e => ?_) ⟨a :: b :: ns, w1.ex _ _ upd_same, by simp, by simp only [List.length_cons]; omega⟩
        have nd : c ≠ d := fun z => by rw [z, rm_same] at e; cases e
        rw [rm_ne nd] at e
        refine w1.ex _ _ ?_
        rw [upd_ne nd]
        exact e
      obtain ⟨r1, e1, l1⟩ := fmod_nat (x := n1) m0
      wtm_at "r"
      refine wp_ixL (SqL.of upd_same) (atNat (by decide) rfl) ?_
      wtm_at "r"
      refine ⟨fun _ => ?_, fun _ => ?_⟩
      · wtm_at "r"
        refine wp_ixL (SqL.of upd_same) (atNat (by decide) rfl) ?_
        wtm_at "r"
        refine wp_i (by omega) ?_
        wtm_at "r"
        refine wp_ixL (SqL.of upd_same) (atNat (by decide) rfl) ?_
        wtm_at "r"
        refine wp_i ⟨by omega, by omega⟩ ?_
        refine wp_gSetL ?_
        wtm_at "r"
        refine ⟨d, _, 1, 1, rfl, rfl, upd_same, ixN_nat (j := 1) (by simp), ?_⟩
        wtm_at "r"
        rw [e1]
        exact kk r1 n0 (n1.fdiv m) _ l1 (by rw [upd_upd]; rfl)
      · wtm_at "r"
        refine wp_ixL (SqL.of upd_same) (atNat (by decide) rfl) ?_
        wtm_at "r"
        refine wp_mulI (.inr ⟨by decide, by decide⟩) ?_
        wtm_at "r"
        refine wp_i (by decide) ?_
        refine wp_gSetL ?_
        wtm_at "r"
        refine ⟨d, _, 0, 0, rfl, rfl, upd_same, ixN_nat (j := 0) (by simp), ?_⟩
        wtm_at "r"
        refine wp_ixL (SqL.of upd_same) (atNat (by decide) rfl) ?_
        wtm_at "r"
        refine wp_i ⟨by decide, by decide⟩ ?_
        wtm_at "r"
        refine wp_i (by omega) ?_
        obtain ⟨r2, e2, l2⟩ := fmod_nat (x := Int.fdiv (Int.fmod (n0 * 48271 + 11) 2147483647) 64) m0
        rw [e2]
        exact kk r2 (Int.fmod (n0 * 48271 + 11) 2147483647) n1 _ l2 (by rw [upd_upd]; rfl)
end
section
variable {P : Program} {w : World} {K : PySem.W.Frag} {mg : Str → Option Value} {base : Heap}
theorem map_erase {α β : Type} (f : α → β) : ∀ (l : List α) (i : Nat), (l.map f).eraseIdx i = (l.eraseIdx i).map f
  | [], _ => rfl
  | _ :: _, 0 => rfl
  | a :: r, i + 1 => by
    show f a :: (r.map f).eraseIdx i = f a :: (r.eraseIdx i).map f
    rw [map_erase f r i]
theorem perm_erase {α : Type} : ∀ {l : List α} {i : Nat} (h : i < l.length), (l[i] :: l.eraseIdx i).Perm l
  | a :: r, 0, _ => List.Perm.refl _
  | a :: r, i + 1, h => by
    have h2 : i < r.length := by simpa using h
    exact (List.Perm.swap a r[i] _).trans ((perm_erase h2).cons a)
abbrev s_q_mixed : Stmt := topS 41
abbrev n_q_mixed : List Str := ["_law_d", "_law_row", "_law_left", "_law_found"]
theorem sc_q_mixed : FnScope n_q_mixed ["_law_d", "_law_row"] (defScope s_q_mixed) := ⟨rfl, rfl, rfl, by decide +kernel, rfl, by decide +kernel, by decide +kernel⟩

def permOf (l : List Nat) (u : HO) : Prop := ∃ l1 : List Nat, l1.Perm l ∧ u = .lst (l1.map sg)
def sp_mixed (K : PySem.W.Frag) : Sp := fun vs H Q _ => ∃ (d r : Addr) (l : List Nat), vs = [.ref d, .ref r] ∧ Dc H d ∧ SqL K (rm H d) r (l.map sg) ∧ l.length ≤ 1000 ∧ (∀ c ∈ l, c < 128) ∧ RetND d (permOf l) H Q
theorem wp_mixed {d r : Addr} {F : Hp} {Pq : V → Hp → Prop} {l : List Nat} {E : XK} (h : SqL K F r (l.map sg)) (hl : l.length ≤ 1000) (hc : ∀ c ∈ l, c < 128) (q : ∀ (p : Addr) (l1 : List Nat), F p = none → l1.Perm l → Pq (.ref p) (upd F p (.lst (l1.map sg)))) :
    Wp (some d) (fun H Q => sp_mixed K ([.ref d, .ref r] ++ []) H Q E) F Pq := fun H w Q k =>
  ⟨d, r, l, rfl, (w.dc d rfl).2, ex_l (ex_to_rm w.ex (w.dc d rfl).1) h, hl, hc, RetND.use w (fun p u n ⟨l1, hp, e⟩ => by subst e; exact q p l1 n hp) k⟩
theorem pm_mixed (D : DefAt K mg "_law_mixed" s_q_mixed) (B : Bl mg) (g_q_off : Pm P w K mg base CX0 1 "_law_off" ["_law_d", "_law_most"] sp_off) : Pm P w K mg base CX0 2 "_law_mixed" ["_law_d", "_law_row"] (sp_mixed K) := by
  obtain ⟨f, fd, F, hm⟩ := D
  refine ⟨f, fd, ?_, hm, F.kp, F.binds fun _ _ _ _ _ _ us hl => match us, hl with | [_, _], _ => rfl⟩
  refine F.ok sc_q_mixed (fun vs H Q E h => ?_) (fun cdv A outer s H vs Q E hr h => ?_)
  · obtain ⟨_, _, _, rfl, _⟩ := h
    rfl
  · obtain ⟨d, r, l, rfl, hd, hR, hl, hc, k⟩ := h
    refine ⟨_, (pss_cons (ps_set (i := 2) sc_q_mixed.nd rfl (Or.inl rfl) (pe_callTy (listK K rfl rfl) (by rfl) B.list (by decide +kernel) (pa_cons (pv 1) pa_nil)))
 (pss_cons (ps_set (i := 3) sc_q_mixed.nd rfl (Or.inl rfl) (pe_lst pa_nil))
 (pss_cons (ps_while PassesOwn.never (pt_cmpR (neK K rfl hr.units) (pv 2) (pe_lst pa_nil) (nomark _))
 (pss_cons (ps_expr (bmK K rfl PySem.F.plainAttrs_list PySem.F.slot_list_append PySem.F.type_list_append mt_append (pv 3) (pa_cons (bmK K rfl PySem.F.plainAttrs_list PySem.F.slot_list_pop PySem.F.type_list_pop mt_popAt (pv 2) (pa_cons (pe_pm g_q_off (hr.mono (by decide)) pass0 (pa_cons (pv 0) (pa_cons (pe_callB (lenK K rfl) (by rfl) B.len PySem.boot_len (pa_cons (pv 2) pa_nil)) pa_nil))) pa_nil)) pa_nil)))
 pss_nil))
 (pss_cons (ps_ret (pv 3))
 pss_nil)))), ?_⟩
    refine go_stD (σ := [some (.ref d), some (.ref r), none, none]) hd rfl ?_
    wtm_at "r"
    refine wp_listL hR fun p hp => ?_
    wtm_at "r"
    refine ⟨Nat.zero_le _, fun q hq => ?_⟩
    wtm_at "r"
    have npq := fr_ne hq
    refine go_while (fun m σ F => ∃ la lf : List Nat, σ = [some (.ref d), some (.ref r), some (.ref p), some (.ref q)] ∧ Ex (rm H d) F ∧ F p = some (.lst (la.map sg)) ∧ F q = some (.lst (lf.map sg)) ∧ (la ++ lf).Perm l ∧ m = la.length)
      l.length ⟨l, [], rfl, (ex_new hp).trans (ex_new hq), by wtm_at "at", upd_same, by rw [List.append_nil], rfl⟩ ?_
    rintro m σ F ⟨la, lf, rfl, e, h1, h2, pe, rfl⟩
    have lsum : la.length + lf.length = l.length := by rw [← List.length_append]; exact pe.length_eq
    wtm_at "r"
    refine ⟨Nat.zero_le _, fun z hz => ?_⟩
    refine wp_neS0 (SqL.of (at_ne h1 hz)) (SqL.of upd_same) (fun c h => hc c (pe.mem_iff.mp (List.mem_append_left _ h))) ?_
    wtm_at "r"
    refine ⟨fun hne => ?_, fun heq => ?_⟩
    · have hne : la ≠ [] := by simpa using hne
      have hpos : 0 < la.length := List.length_pos_iff.mpr hne
      wtm_at "r"
      refine wp_bmL ?_
      wtm_at "r"
      refine ⟨q, _, rfl, SqL.of (at_ne h2 hz), ?_⟩
      wtm_at "r"
      refine wp_bmL ?_
      wtm_at "r"
      refine ⟨p, _, rfl, SqL.of (at_ne h1 hz), ?_⟩
      wtm_at "r"
      rw [List.length_map]
      refine wp_off (by omega) (by omega) fun i hi => ?_
      have hi : i < la.length := by omega
      wtm_at "r"
      refine wp_popAt (y := sg la[i]) (at_ne h1 hz) (by rw [List.length_map]; omega) (by rw [List.getElem?_map, List.getElem?_eq_getElem hi]; rfl) ?_
      wtm_at "r"
      refine wp_append (xs := lf.map sg) (by rw [upd_ne npq]; exact at_ne h2 hz) (by rw [List.length_map]; omega) ?_
      wtm_at "r"
      have rp : rm H d p = none := hp
      have rq : rm H d q = none := (ex_new hp).free hq
      refine go_turn rfl ⟨(la.eraseIdx i).length, by rw [List.length_eraseIdx, if_pos hi]; omega, la.eraseIdx i, lf ++ [la[i]], rfl, ex_mut (ex_mut (e.trans (ex_new hz)) rp) rq, ?_, ?_, ?_, rfl⟩
      · rw [upd_ne npq.symm, upd_same, map_erase]
      · rw [upd_same, List.map_append]; rfl
      · refine List.Perm.trans ?_ pe
        refine List.Perm.trans (List.perm_append_comm_assoc _ _ _) ?_
        refine List.Perm.trans (List.Perm.append_left lf ?_) List.perm_append_comm
        refine List.Perm.trans List.perm_append_comm ?_
        exact perm_erase hi
    · have heq : la = [] := by simpa using heq
      subst heq
      wtm_at "r"
      rw [List.nil_append] at pe
      refine RetND.out k (e.trans (ex_new hz)) ((ex_new hp).free hq) (u := .lst (lf.map sg)) (at_ne h2 hz) ⟨lf, pe, rfl⟩
abbrev s_q_tape : Stmt := topS 45
abbrev n_q_tape : List Str := ["_law_d", "_law_sets_here", "_law_most", "_law_often", "_law_found", "_law_k", "_law_code"]
theorem sc_q_tape : FnScope n_q_tape ["_law_d", "_law_sets_here", "_law_most"] (defScope s_q_tape) := ⟨rfl, rfl, rfl, by decide +kernel, rfl, by decide +kernel, by decide +kernel⟩

def tapeOf (n most : Nat) (u : HO) : Prop := ∃ cs : List Int, CodesOk n cs ∧ cs.length ≤ most ∧ u = .lst (il cs)
def sp_tape (K : PySem.W.Frag) : Sp := fun vs H Q _ => ∃ (d s : Addr) (A B : List Nat) (most : Nat), vs = [.ref d, .ref s, .int (most : Int)] ∧ Dc H d ∧ SetsAt K (rm H d) s A B ∧ 1 ≤ A.length ∧ A.length ≤ 10 ∧ most ≤ 1000 ∧ RetND d (tapeOf A.length most) H Q
theorem wp_tape {d s : Addr} {F : Hp} {Pq : V → Hp → Prop} {A B : List Nat} {most : Nat} {E : XK} (h : SetsAt K F s A B) (h1 : 1 ≤ A.length) (h2 : A.length ≤ 10) (hm : most ≤ 1000)
    (q : ∀ (p : Addr) (cs : List Int), F p = none → CodesOk A.length cs → cs.length ≤ most → Pq (.ref p) (upd F p (.lst (il cs)))) :
    Wp (some d) (fun H Q => sp_tape K ([.ref d, .ref s, .int (most : Int)] ++ []) H Q E) F Pq := fun H w Q k =>
  ⟨d, s, A, B, most, rfl, (w.dc d rfl).2, ex_t (ex_to_rm w.ex (w.dc d rfl).1) h, h1, h2, hm, RetND.use w (fun p u n ⟨cs, hc, hl, e⟩ => by subst e; exact q p cs n hc hl) k⟩
theorem pm_tape (D : DefAt K mg "_law_tape" s_q_tape) (B : Bl mg) (g_q_off : Pm P w K mg base CX0 1 "_law_off" ["_law_d", "_law_most"] sp_off) : Pm P w K mg base CX0 2 "_law_tape" ["_law_d", "_law_sets_here", "_law_most"] (sp_tape K) := by
  obtain ⟨f, fd, F, hm⟩ := D
  refine ⟨f, fd, ?_, hm, F.kp, F.binds fun _ _ _ _ _ _ us hl => match us, hl with | [_, _, _], _ => rfl⟩
  refine F.ok sc_q_tape (fun vs H Q E h => ?_) (fun cdv A outer s H vs Q E hr h => ?_)
  · obtain ⟨_, _, _, _, _, rfl, _⟩ := h
    rfl
  · obtain ⟨d, s, A', B', most, rfl, hd, hS, n1, n10, hm, k⟩ := h
    refine ⟨_, (pss_cons (ps_set (i := 3) sc_q_tape.nd rfl (Or.inl rfl) (pe_op op_addP pe_int (pe_pm g_q_off (hr.mono (by decide)) pass0 (pa_cons (pv 0) (pa_cons pe_int pa_nil)))))
 (pss_cons (ps_set (i := 4) sc_q_tape.nd rfl (Or.inl rfl) (pe_lst pa_nil))
 (pss_cons (ps_for PassesOwn.never rfl (pi_range1 (by rfl) B.range (pa_cons (pe_pm g_q_off (hr.mono (by decide)) pass0 (pa_cons (pv 0) (pa_cons (pe_op op_addP (pv 2) pe_int) pa_nil))) pa_nil)) (pg_name (i := 5) sc_q_tape.nd rfl (Or.inl rfl))
 (pss_cons (ps_set (i := 6) sc_q_tape.nd rfl (Or.inl rfl) (pe_pm g_q_off (hr.mono (by decide)) pass0 (pa_cons (pv 0) (pa_cons (pe_callB (lenK K rfl) (by rfl) B.len PySem.boot_len (pa_cons (pe_ix (ixK K rfl) (pv 1) pe_int (fun _ _ => rfl)) pa_nil)) pa_nil))))
 (Evl.pss_cut (ps_if (pt_cmpR (eqK K rfl hr.units) (pe_pm g_q_off (hr.mono (by decide)) pass0 (pa_cons (pv 0) (pa_cons (pv 3) pa_nil))) pe_int (nomark _))
 (pss_cons (ps_set (i := 6) sc_q_tape.nd rfl (Or.inl rfl) (pe_op op_addP (pe_callB (lenK K rfl) (by rfl) B.len PySem.boot_len (pa_cons (pe_ix (ixK K rfl) (pv 1) pe_int (fun _ _ => rfl)) pa_nil)) (pe_pm g_q_off (hr.mono (by decide)) pass0 (pa_cons (pv 0) (pa_cons pe_int pa_nil)))))
 pss_nil)
 pss_nil)
 (pss_cons (ps_expr (bmK K rfl PySem.F.plainAttrs_list PySem.F.slot_list_append PySem.F.type_list_append mt_append (pv 4) (pa_cons (pv 6) pa_nil)))
 pss_nil))))
 (pss_cons (ps_ret (pv 4))
 pss_nil)))), ?_⟩
    refine go_stD (σ := [some (.ref d), some (.ref s), some (.int (most : Int)), none, none, none, none]) hd rfl ?_
    wtm_at "r"
    refine wp_off (by omega) (by omega) fun r0 hr0 => ?_
    wtm_at "r"
    refine ⟨Nat.zero_le _, fun q hq => ?_⟩
    wtm_at "r"
    refine go_forR (fun i σ F => ∃ (cs : List Int) (x y : Option V), σ = [some (.ref d), some (.ref s), some (.int (most : Int)), some (.int (2 + (r0 : Int))), some (.ref q), x, y] ∧ Ex (rm H d) F ∧ F q = some (.lst (il cs)) ∧ CodesOk A'.length cs ∧ cs.length ≤ i) ?_
    wtm_at "r"
    refine wp_off (by omega) (by omega) fun n hn => ?_
    wtm_at "r"
    refine ⟨n, rfl, by omega, ⟨[], none, none, rfl, ex_new hq, upd_same, (fun c h => by cases h), Nat.le_refl _⟩, ?_, ?_⟩
    · rintro i σ F hi ⟨cs, x, y, rfl, e, hf, hc, hl⟩
      have hS2 := ex_t e hS
      wtm_at "r"
      refine wp_off (by omega) (by omega) fun c hc1 => ?_
      wtm_at "r"
      refine go_cut (fun σ F => ∃ c2 : Int, (0 ≤ c2 ∧ c2 < (A'.length : Int) + 2) ∧ σ = [some (.ref d), some (.ref s), some (.int (most : Int)), some (.int (2 + (r0 : Int))), some (.ref q), some (.int (i : Int)), some (.int c2)] ∧ Ex (rm H d) F ∧ F q = some (.lst (il cs))) ?_ ?_
      · wtm_at "r"
        refine wp_off (by omega) (by omega) fun r1 _ => ?_
        wtm_at "r"
        refine ⟨fun _ => ?_, fun _ => ?_⟩
        · wtm_at "r"
          refine wp_off (by omega) (by omega) fun r2 h2 => ?_
          wtm_at "r"
          exact go_turn rfl ⟨(A'.length : Int) + (r2 : Int), ⟨by omega, by omega⟩, rfl, e, hf⟩
        · exact go_turn rfl ⟨(c : Int), ⟨by omega, by omega⟩, rfl, e, hf⟩
      · rintro σ F ⟨c2, hc2, rfl, e, hf⟩
        wtm_at "r"
        refine wp_bmL ?_
        wtm_at "r"
        refine ⟨q, _, rfl, SqL.of hf, ?_⟩
        wtm_at "r"
        refine wp_append hf (by rw [List.length_map]; omega) ?_
        wtm_at "r"
        refine go_turn rfl ⟨cs ++ [c2], _, _, rfl, ex_mut e hq, ?_, hc.app fun z hz => ?_, by rw [List.length_append, List.length_singleton]; omega⟩
        · rw [upd_same, il_take]
        · rw [List.mem_singleton.mp hz]; exact hc2
    · rintro σ F ⟨cs, x, y, rfl, e, hf, hc, hl⟩
      wtm_at "r"
      exact RetND.out k e hq hf ⟨cs, hc, by omega, rfl⟩
end
section
variable {P : Program} {w : World} {K : PySem.W.Frag} {mg : Str → Option Value} {base : Heap}
theorem cutV_take (xs : List V) (n : Nat) : cutV xs none (some (n : Int)) = xs.take n := by
  unfold cutV
  rw [HT.sIx_nat, HT.sIx_none, List.drop_zero, Nat.sub_zero]
  by_cases h : n ≤ xs.length
  · rw [Nat.min_eq_left h]
  · rw [Nat.min_eq_right (by omega), List.take_length, List.take_of_length_le (by omega)]
theorem cutV_drop (xs : List V) (n : Nat) : cutV xs (some (n : Int)) none = xs.drop n := by
  unfold cutV
  rw [HT.sIx_nat, HT.sIx_none]
  by_cases h : n ≤ xs.length
  · rw [Nat.min_eq_left h, List.take_of_length_le (by rw [List.length_drop]; omega)]
  · rw [Nat.min_eq_right (by omega), List.drop_of_length_le (by omega), List.drop_of_length_le (by omega)]
    simp
theorem cutN_take (xs : List Nat) (n : Nat) : cutN xs none (some (n : Int)) = xs.take n := by
  unfold cutN
  rw [HT.sIx_nat, HT.sIx_none, List.drop_zero, Nat.sub_zero]
  by_cases h : n ≤ xs.length
  · rw [Nat.min_eq_left h]
  · rw [Nat.min_eq_right (by omega), List.take_length, List.take_of_length_le (by omega)]
theorem cutN_drop (xs : List Nat) (n : Nat) : cutN xs (some (n : Int)) none = xs.drop n := by
  unfold cutN
  rw [HT.sIx_nat, HT.sIx_none]
  by_cases h : n ≤ xs.length
  · rw [Nat.min_eq_left h, List.take_of_length_le (by rw [List.length_drop]; omega)]
  · rw [Nat.min_eq_right (by omega), List.drop_of_length_le (by omega), List.drop_of_length_le (by omega)]
    simp
theorem nd_sub_len : ∀ {l m : List Nat}, l.Nodup → (∀ x ∈ l, x ∈ m) → l.length ≤ m.length
  | [], _, _, _ => Nat.zero_le _
  | a :: r, m, h, hs => by
    obtain ⟨h1, h2⟩ := List.nodup_cons.mp h
    have hm : a ∈ m := hs a List.mem_cons_self
    have ih : r.length ≤ (m.erase a).length := nd_sub_len h2 fun x hx => by
      have ne : x ≠ a := fun e => h1 (e ▸ hx)
      exact (List.mem_erase_of_ne ne).mpr (hs x (List.mem_cons_of_mem _ hx))
    rw [List.length_erase_of_mem hm] at ih
    have : 0 < m.length := List.length_pos_of_mem hm
    simp only [List.length_cons]
    omega
theorem ex_out {l m : List Nat} (h : l.Nodup) (hl : m.length < l.length) : l.filter (fun x => !decide (x ∈ m)) ≠ [] := fun e => by
  have : l.length ≤ m.length := nd_sub_len h fun x hx => by
    by_cases hm : x ∈ m
    · exact hm
    · have : x ∈ l.filter (fun x => !decide (x ∈ m)) := List.mem_filter.mpr ⟨hx, by simp [hm]⟩
      rw [e] at this
      cases this
  omega
/-- 22 signs, each once -/
def Pool (l : List Nat) : Prop := l.length = 22 ∧ l.Nodup ∧ ∀ c ∈ l, c < 128
theorem snoc_nd {l : List Nat} {c : Nat} (h : l.Nodup) (n : c ∉ l) : (l ++ [c]).Nodup := L2.nd_snoc h n
def Asc (l : List Nat) : Prop := ∀ c ∈ l, c < 128
def every : List Nat := [32, 33, 35, 36, 38, 39, 40, 41, 42, 43, 44, 45, 46, 47, 48, 49, 50, 51, 52, 53, 54, 55, 56, 57, 58, 59, 60, 61, 62, 63, 64, 65, 66, 67, 68, 69, 70, 71, 72, 73, 74, 75, 76, 77, 78, 79, 80, 81, 82, 83, 84, 85, 86, 87, 88, 89, 90, 91, 93, 94, 95, 96, 97, 98, 99, 100, 101, 102, 103, 104, 105, 106, 107, 108, 109, 110, 111, 112, 113, 114, 115, 116, 117, 118, 119, 120, 121, 122, 123, 124, 125, 126]
def setsOf (u : HO) : Prop := ∃ A B : List Nat, Good A B ∧ Asc A ∧ Asc B ∧ u = .tup [.str (tx A), .str (tx B)]
abbrev s_q_sets : Stmt := topS 43
abbrev n_q_sets : List Str := ["_law_d", "_law_many", "_law_signs", "_law_every", "_law_turn", "_law_one", "_law_often", "_law_other", "_law_left", "_law_k", "_law_some", "_law_sign"]
theorem sc_q_sets : FnScope n_q_sets ["_law_d"] (defScope s_q_sets) := ⟨rfl, rfl, rfl, by decide +kernel, rfl, by decide +kernel, by decide +kernel⟩

def sp_sets (K : PySem.W.Frag) : Sp := fun vs H Q _ => ∃ (d : Addr), vs = [.ref d] ∧ Dc H d ∧ RetND d setsOf H Q
theorem wp_sets {d : Addr} {F : Hp} {Pq : V → Hp → Prop} {E : XK} (q : ∀ (p : Addr) (A B : List Nat), F p = none → Good A B → Asc A → Asc B → Pq (.ref p) (upd F p (.tup [.str (tx A), .str (tx B)]))) :
    Wp (some d) (fun H Q => sp_sets K ([.ref d] ++ []) H Q E) F Pq := fun H w Q k =>
  ⟨d, rfl, (w.dc d rfl).2, RetND.use w (fun p u n ⟨A, B, hg, ha, hb, e⟩ => by subst e; exact q p A B n hg ha hb) k⟩
theorem pm_sets (D : DefAt K mg "_law_sets" s_q_sets) (B : Bl mg) (g_q_off : Pm P w K mg base CX0 1 "_law_off" ["_law_d", "_law_most"] sp_off) (g_q_mixed : Pm P w K mg base CX0 2 "_law_mixed" ["_law_d", "_law_row"] (sp_mixed K)) :
    Pm P w K mg base CX0 3 "_law_sets" ["_law_d"] (sp_sets K) := by
  obtain ⟨f, fd, F, hm⟩ := D
  refine ⟨f, fd, ?_, hm, F.kp, F.binds fun _ _ _ _ _ _ us hl => match us, hl with | [_], _ => rfl⟩
  refine F.ok sc_q_sets (fun vs H Q E h => ?_) (fun cdv A outer s H vs Q E hr h => ?_)
  · obtain ⟨_, rfl, _⟩ := h
    rfl
  · obtain ⟨d, rfl, hd, k⟩ := h
    refine ⟨_, (pss_cons (ps_set (i := 1) sc_q_sets.nd rfl (Or.inl rfl) (pe_ix (ixK K rfl) (pe_lst (pa_cons pe_int (pa_cons pe_int (pa_cons pe_int (pa_cons (pe_op op_addP pe_int (pe_pm g_q_off (hr.mono (by decide)) pass0 (pa_cons (pv 0) (pa_cons pe_int pa_nil)))) pa_nil))))) (pe_pm g_q_off (hr.mono (by decide)) pass0 (pa_cons (pv 0) (pa_cons pe_int pa_nil))) (fun _ _ => rfl)))
 (pss_cons (ps_set (i := 2) sc_q_sets.nd rfl (Or.inl rfl) (pe_strT (l := [97, 98, 99, 100, 101, 102, 103, 104, 105, 106, 32, 48, 49, 50, 51, 52, 53, 54, 46, 44, 45, 120]) (by decide +kernel)))
 (Evl.pss_cut (ps_if (pt_cmpR (eqK K rfl hr.units) (pe_pm g_q_off (hr.mono (by decide)) pass0 (pa_cons (pv 0) (pa_cons pe_int pa_nil))) pe_int (nomark _))
 (pss_cons (ps_set (i := 3) sc_q_sets.nd rfl (Or.inl rfl) (pe_strT (l := [32, 33, 35, 36, 38, 39, 40, 41, 42, 43, 44, 45, 46, 47, 48, 49, 50, 51, 52, 53, 54, 55, 56, 57, 58, 59, 60, 61, 62, 63, 64, 65, 66, 67, 68, 69, 70, 71, 72, 73, 74, 75, 76, 77, 78, 79, 80, 81, 82, 83, 84, 85, 86, 87, 88, 89, 90, 91, 93, 94, 95, 96, 97, 98, 99, 100, 101, 102, 103, 104, 105, 106, 107, 108, 109, 110, 111, 112, 113, 114, 115, 116, 117, 118, 119, 120, 121, 122, 123, 124, 125, 126]) (by decide +kernel)))
 (pss_cons (ps_set (i := 2) sc_q_sets.nd rfl (Or.inl rfl) (peJoin K rfl (pe_strT (l := []) (by decide +kernel)) (pe_slice (slK K rfl) (pe_pm g_q_mixed (hr.mono (by decide)) pass0 (pa_cons (pv 0) (pa_cons (pe_callTy (listK K rfl rfl) (by rfl) B.list (by decide +kernel) (pa_cons (pv 3) pa_nil)) pa_nil))) po_none (po_some pe_int))))
 pss_nil))
 pss_nil)
 (pss_cons (ps_set (i := 4) sc_q_sets.nd rfl (Or.inl rfl) (pe_pm g_q_off (hr.mono (by decide)) pass0 (pa_cons (pv 0) (pa_cons pe_int pa_nil))))
 (pss_cons (ps_set (i := 2) sc_q_sets.nd rfl (Or.inl rfl) (pe_op op_addP (pe_slice (slK K rfl) (pv 2) (po_some (pv 4)) po_none) (pe_slice (slK K rfl) (pv 2) po_none (po_some (pv 4)))))
 (pss_cons (ps_set (i := 5) sc_q_sets.nd rfl (Or.inl rfl) (peJoin K rfl (pe_strT (l := []) (by decide +kernel)) (pe_slice (slK K rfl) (pe_pm g_q_mixed (hr.mono (by decide)) pass0 (pa_cons (pv 0) (pa_cons (pe_callTy (listK K rfl rfl) (by rfl) B.list (by decide +kernel) (pa_cons (pe_slice (slK K rfl) (pv 2) po_none (po_some (pe_op op_addP (pv 1) (pe_pm g_q_off (hr.mono (by decide)) pass0 (pa_cons (pv 0) (pa_cons pe_int pa_nil)))))) pa_nil)) pa_nil))) po_none (po_some (pv 1)))))
 (pss_cons (ps_set (i := 6) sc_q_sets.nd rfl (Or.inl rfl) (pe_op op_addP pe_int (pe_pm g_q_off (hr.mono (by decide)) pass0 (pa_cons (pv 0) (pa_cons pe_int pa_nil)))))
 (pss_cons (ps_set (i := 7) sc_q_sets.nd rfl (Or.inr rfl) (pe_strT (l := []) (by decide +kernel)))
 (pss_cons (ps_set (i := 8) sc_q_sets.nd rfl (Or.inl rfl) (pe_pm g_q_mixed (hr.mono (by decide)) pass0 (pa_cons (pv 0) (pa_cons (pe_callTy (listK K rfl rfl) (by rfl) B.list (by decide +kernel) (pa_cons (pv 2) pa_nil)) pa_nil))))
 (pss_cons (ps_for PassesOwn.never rfl (pi_range1 (by rfl) B.range (pa_cons (pv 1) pa_nil)) (pg_name (i := 9) sc_q_sets.nd rfl (Or.inl rfl))
 (Evl.pss_cut (ps_if (PW.pt (pw_and (pt_cmpR (eqK K rfl hr.units) (pe_pm g_q_off (hr.mono (by decide)) pass0 (pa_cons (pv 0) (pa_cons (pv 6) pa_nil))) pe_int (nomark _)) (pw_and1 (pt_cmpR (niK K rfl) (pe_ix (ixK K rfl) (pv 5) (pv 9) (fun _ _ => rfl)) (pv 7) (by rfl)))))
 (pss_cons (ps_set (i := 7) sc_q_sets.nd rfl (Or.inr rfl) (pe_op op_addP (pv 7) (pe_ix (ixK K rfl) (pv 5) (pv 9) (fun _ _ => rfl))))
 pss_nil)
 (pss_cons (ps_setLc (i := 10) (own := [("_law_sign", 11)]) (g := gName 11) rfl sc_q_sets.nd rfl rfl (sw_true rfl rfl rfl (by decide +kernel)) (piL K rfl (pv 8)) (blkOk_by (N := n_q_sets) (sc := defScope s_q_sets) (by decide +kernel)) (fun _ _ _ _ _ => pg_name (i := 11) sc_q_sets.nd rfl (Or.inl rfl)) (fun _ _ _ _ _ => (pts_one (pt_cmpR (niK K rfl) (pv 11) (pv 7) (by rfl)))) (fun _ _ _ _ _ => (pv 11)))
 (pss_cons (ps_set (i := 7) sc_q_sets.nd rfl (Or.inr rfl) (pe_op op_addP (pv 7) (pe_ix (ixK K rfl) (pv 10) pe_int (fun _ _ => rfl))))
 pss_nil)))
 pss_nil))
 (pss_cons (ps_ret (pe_tup (pa_cons (pv 5) (pa_cons (pv 7) pa_nil))))
 pss_nil))))))))))), ?_⟩
    refine go_stD (σ := [some (.ref d), none, none, none, none, none, none, none, none, none, none, none]) hd rfl ?_
    wtm_at "r"
    refine wp_off (by omega) (by omega) fun r0 hr0 => ?_
    wtm_at "r"
    refine ⟨(by show 4 ≤ 100000; decide), fun p0 hp0 => ?_⟩
    wtm_at "r"
    refine wp_off (by omega) (by omega) fun r1 hr1 => ?_
    obtain ⟨many, hmany, hm1, hm10⟩ : ∃ many : Nat, atI [V.int 3, V.int 4, V.int 6, V.int (1 + (r0 : Int))] (r1 : Int) = some (.int (many : Int)) ∧ 1 ≤ many ∧ many ≤ 10 := by
      match r1, hr1 with
      | 0, _ => exact ⟨3, atI_nat (j := 0) rfl, by decide, by decide⟩
      | 1, _ => exact ⟨4, atI_nat (j := 1) rfl, by decide, by decide⟩
      | 2, _ => exact ⟨6, atI_nat (j := 2) rfl, by decide, by decide⟩
      | 3, _ => exact ⟨1 + r0, by rw [atI_nat (j := 3) rfl]; simp, by omega, by omega⟩
      | n + 4, h => omega
    wtm_at "r"
    refine wp_ixL (SqL.of upd_same) hmany ?_
    wtm_at "r"
    have e0 : Ex (rm H d) (upd (rm H d) p0 (.lst [V.int 3, V.int 4, V.int 6, V.int (1 + (r0 : Int))])) := ex_new hp0
    refine go_cut (fun σ F => ∃ (sl : List Nat) (ev : Option V), σ = [some (.ref d), some (.int (many : Int)), some (.str (tx sl)), ev, none, none, none, none, none, none, none, none] ∧ Ex (rm H d) F ∧ Pool sl) ?_ ?_
    · wtm_at "r"
      refine wp_off (by omega) (by omega) fun r2 _ => ?_
      wtm_at "r"
      refine ⟨fun _ => ?_, fun _ => ?_⟩
      · wtm_at "r"
        refine wp_m1 ?_
        wtm_at "r"
        refine ⟨⟨_, rfl⟩, ?_⟩
        wtm_at "r"
        refine wp_listS (by decide) fun p1 hp1 => ?_
        wtm_at "r"
        refine wp_mixed (l := every) (SqL.of upd_same) (by decide) (by decide) fun p2 l1 hp2 pe => ?_
        wtm_at "r"
        refine wp_slL (SqL.of upd_same) fun p3 hp3 => ?_
        rw [show (22 : Int) = ((22 : Nat) : Int) from rfl, cutV_take, ← List.map_take]
        wtm_at "r"
        refine wp_joinSg (SqL.of upd_same) (by rw [List.length_take]; omega) ?_
        wtm_at "r"
        refine go_turn rfl ⟨l1.take 22, _, rfl, ((e0.trans (ex_new hp1)).trans (ex_new hp2)).trans (ex_new hp3), ?_, ?_, ?_⟩
        · rw [List.length_take, pe.length_eq]; rfl
        · exact (pe.nodup_iff.mpr (by decide : every.Nodup)).sublist (List.take_sublist _ _)
        · intro c hc
          exact (by decide : ∀ c ∈ every, c < 128) c (pe.mem_iff.mp (List.mem_of_mem_take hc))
      · exact go_turn rfl ⟨[97, 98, 99, 100, 101, 102, 103, 104, 105, 106, 32, 48, 49, 50, 51, 52, 53, 54, 46, 44, 45, 120], none, rfl, e0, rfl, by decide, by decide⟩
    · rintro σ F ⟨sl, ev, rfl, e, hl, hn, ha⟩
      wtm_at "r"
      refine wp_off (by omega) (by omega) fun tn htn => ?_
      wtm_at "r"
      rw [cutN_drop, cutN_take]
      refine wp_addS (by wtm_at "sz") ?_
      wtm_at "r"
      obtain ⟨sg2, hsg2⟩ : ∃ s2, s2 = sl.drop tn ++ sl.take tn := ⟨_, rfl⟩
      rw [← hsg2]
      have pr : sg2.Perm sl := by
        rw [hsg2]
        exact List.perm_append_comm.trans (by rw [List.take_append_drop])
      have hl2 : sg2.length = 22 := pr.length_eq.trans hl
      have hn2 : sg2.Nodup := pr.nodup_iff.mpr hn
      have ha2 : ∀ c ∈ sg2, c < 128 := fun c hc => ha c (pr.mem_iff.mp hc)
      refine wp_m1 ?_
      wtm_at "r"
      refine ⟨⟨_, rfl⟩, ?_⟩
      wtm_at "r"
      refine wp_off (by omega) (by omega) fun r3 h3 => ?_
      wtm_at "r"
      rw [show ((many : Int) + (r3 : Int)) = ((many + r3 : Nat) : Int) by omega, cutN_take]
      refine wp_listS (by rw [List.length_take]; omega) fun p1 hp1 => ?_
      wtm_at "r"
      refine wp_mixed (l := sg2.take (many + r3)) (SqL.of upd_same) (by rw [List.length_take]; omega) (fun c hc => ha2 c (List.mem_of_mem_take hc)) fun p2 l1 hp2 pe => ?_
      wtm_at "r"
      refine wp_slL (SqL.of upd_same) fun p3 hp3 => ?_
      rw [cutV_take, ← List.map_take]
      wtm_at "r"
      have hl1 : l1.length = many + r3 := by rw [pe.length_eq, List.length_take]; omega
      refine wp_joinSg (SqL.of upd_same) (by rw [List.length_take]; omega) ?_
      wtm_at "r"
      obtain ⟨one, hone⟩ : ∃ x, x = l1.take many := ⟨_, rfl⟩
      rw [← hone]
      have hlo : one.length = many := by rw [hone, List.length_take]; omega
      have hno : one.Nodup := by
        rw [hone]
        exact (pe.nodup_iff.mpr (hn2.sublist (List.take_sublist _ _))).sublist (List.take_sublist _ _)
      have hao : ∀ c ∈ one, c < 128 := fun c hc => by
        rw [hone] at hc
        exact ha2 c (List.mem_of_mem_take (pe.mem_iff.mp (List.mem_of_mem_take hc)))
      have e3 := ((e.trans (ex_new (u := .lst ((sg2.take (many + r3)).map sg)) hp1)).trans (ex_new (u := .lst (l1.map sg)) hp2)).trans (ex_new (u := .lst (one.map sg)) hp3)
      refine wp_off (by omega) (by omega) fun r4 h4 => ?_
      wtm_at "r"
      refine wp_listS (by omega) fun p4 hp4 => ?_
      wtm_at "r"
      refine wp_mixed (l := sg2) (SqL.of upd_same) (by omega) ha2 fun p5 left hp5 pl => ?_
      wtm_at "r"
      have hll : left.length = 22 := pl.length_eq.trans hl2
      have hnl : left.Nodup := pl.nodup_iff.mpr hn2
      have hal : ∀ c ∈ left, c < 128 := fun c hc => ha2 c (pl.mem_iff.mp hc)
      refine go_forR (fun i σ F => ∃ (ot : List Nat) (kk so : Option V) (tu ofn : V) (ev2 : Option V), σ = [some (.ref d), some (.int (many : Int)), some (.str (tx sg2)), ev2, some tu, some (.str (tx one)), some (.int (1 + (r4 : Int))), some (.str (tx ot)), some (.ref p5), kk, so, none] ∧
        Ex (rm H d) F ∧ F p5 = some (.lst (left.map sg)) ∧ ot.length = i ∧ ot.Nodup ∧ ∀ c ∈ ot, c < 128) ?_
      wtm_at "r"
      refine ⟨many, rfl, by omega, ⟨[], none, none, _, .non, _, rfl, (e3.trans (ex_new hp4)).trans (ex_new hp5), upd_same, rfl, List.nodup_nil, (fun c h => by cases h)⟩, ?_, ?_⟩
      · rintro i σ F hi ⟨ot, kk, so, tu, ofn, ev2, rfl, e4, h5, ho, hno2, hao2⟩
        have hi1 : i < one.length := by omega
        wtm_at "r"
        refine go_cut (fun σ F => ∃ (c : Nat) (so1 : Option V), c ∉ ot ∧ c < 128 ∧ σ = [some (.ref d), some (.int (many : Int)), some (.str (tx sg2)), ev2, some tu, some (.str (tx one)), some (.int (1 + (r4 : Int))), some (.str (tx (ot ++ [c]))), some (.ref p5), some (.int (i : Int)), so1, none] ∧
          Ex (rm H d) F ∧ F p5 = some (.lst (left.map sg))) ?_ ?_
        · refine go_ifB ?_
          refine wp_andS (fun F1 => F1 = F) ?_ ?_
          · wtm_at "r"
            refine wp_off (by omega) (by omega) fun r5 _ => ?_
            wtm_at "r"
            refine ⟨rfl, fun _ => ?_⟩
            wtm_at "r"
            refine wp_ixS (by omega) (atI_nat (List.getElem?_eq_getElem hi1)) ?_
            wtm_at "r"
            refine ⟨rfl, fun hin => ?_⟩
            have hin : one[i] ∉ ot := by simpa using hin
            wtm_at "r"
            refine wp_ixS (by omega) (atI_nat (List.getElem?_eq_getElem hi1)) ?_
            refine wp_addS (j := [one[i]]) (by wtm_at "sz") ?_
            wtm_at "r"
            exact go_turn rfl ⟨one[i], so, hin, hao _ (List.getElem_mem hi1), rfl, e4, h5⟩
          · rintro F1 rfl
            refine go_set ?_
            refine wp_lcL (fun _ => rfl) ?_
            wtm_at "r"
            refine ⟨p5, _, rfl, SqL.of h5, fun Dl hD => ?_⟩
            have npd := (ne_of_none h5 hD)
            refine ⟨fun j acc F2 => ∃ ms : List Nat, acc = ms.map sg ∧ ms = (left.take j).filter (fun x => !decide (x ∈ ot)) ∧ Ex (rm H d) F2 ∧ F2 p5 = some (.lst (left.map sg)), ⟨[], rfl, rfl, e4.trans (ex_new hD), at_ne h5 hD⟩, fun j acc F2 ⟨_, _, _, _, h6⟩ => SqL.of h6, ?_, ?_⟩
            · rintro j y acc F2 hy q2 ⟨ms, rfl, hms, e5, h6⟩
              rw [List.getElem?_map] at hy
              obtain ⟨c, hc, rfl⟩ : ∃ c, left[j]? = some c ∧ y = sg c := by
                cases hq : left[j]? with
                | none => rw [hq] at hy; cases hy
                | some c => rw [hq] at hy; exact ⟨c, rfl, (Option.some.inj hy).symm⟩
              have hmsl : ms.length ≤ 22 := by
                rw [hms]
                refine Nat.le_trans (List.length_filter_le _ _) ?_
                rw [List.length_take]
                omega
              have stp := take_more hc
              show Wp _ _ _ _
              wtm_at "r"
              refine ⟨fun hin => ?_, fun hin => ⟨q2, ms, rfl, ?_, e5, h6⟩⟩
              · wtm_at "r"
                have hDH : rm H d Dl = none := e4.free hD
                refine ⟨q2, by rw [List.length_map]; omega, ms ++ [c], by rw [List.map_append]; rfl, ?_, ex_mut e5 hDH, ?_⟩
                · rw [stp, List.filter_append, ← hms, List.filter_cons, if_pos hin]
                  rfl
                · rw [upd_ne npd]
                  exact h6
              · rw [stp, List.filter_append, ← hms, List.filter_cons, if_neg (by rw [hin]; decide), List.filter_nil, List.append_nil]
            · rintro acc F2 q2 ⟨ms, rfl, hms, e5, h6⟩
              rw [List.length_map, List.take_length] at hms
              have hne := ex_out (l := left) (m := ot) hnl (by omega)
              rw [← hms] at hne
              obtain ⟨c, r, hcr⟩ : ∃ c r, ms = c :: r := by
                cases ms with
                | nil => exact absurd rfl hne
                | cons c r => exact ⟨c, r, rfl⟩
              have hcm : c ∈ left ∧ c ∉ ot := by
                have hx : c ∈ ms := by rw [hcr]; exact List.mem_cons_self
                rw [hms] at hx
                obtain ⟨h1, h2⟩ := List.mem_filter.mp hx
                exact ⟨h1, by simpa using h2⟩
              subst hcr
              wtm_at "r"
              refine wp_ixL (SqL.of q2) (atI_nat (j := 0) rfl) ?_
              refine wp_addS (j := [c]) (by wtm_at "sz") ?_
              wtm_at "r"
              exact go_turn rfl ⟨c, _, hcm.2, hal c hcm.1, rfl, e5, h6⟩
        · rintro σ F ⟨c, so1, hc1, hc2, rfl, e5, h6⟩
          refine go_turn rfl ⟨ot ++ [c], _, so1, tu, ofn, ev2, rfl, e5, h6, by rw [List.length_append, List.length_singleton, ho], snoc_nd hno2 hc1, fun x hx => ?_⟩
          rcases List.mem_append.mp hx with h | h
          · exact hao2 x h
          · rw [List.mem_singleton.mp h]; exact hc2
      · rintro σ F ⟨ot, kk, so, tu, ofn, ev2, rfl, e4, h5, ho, hno2, hao2⟩
        wtm_at "r"
        refine ⟨(by show 2 ≤ 100000; decide), fun p hp => ?_⟩
        exact RetND.out k (e4.trans (ex_new hp)) (e4.free hp) upd_same ⟨one, ot, ⟨by omega, by omega, by omega, hno, hno2⟩, hao, hao2, rfl⟩
end
section
variable {P : Program} {w : World} {K : PySem.W.Frag} {mg : Str → Option Value} {base : Heap}
def flatD : PyData → Bool
  | .none => true
  | .bool _ => true
  | .int _ => true
  | .str _ => true
  | _ => false
/-- flat, or n deep -/
def DpN : Nat → PyData → Prop
  | 0, d => flatD d = true
  | n + 1, d => flatD d = true ∨ ∃ ds, (d = .list ds ∨ d = .tuple ds) ∧ ds.length ≤ 1000 ∧ ∀ e ∈ ds, DpN n e
theorem dpa_len {H : Hp} : ∀ {xs : List V} {ds : List PyData}, DpAll K H xs ds → xs.length = ds.length
  | _, _, .nil => rfl
  | _, _, .cons _ b => congrArg (· + 1) (dpa_len b)
theorem dpa_at {H : Hp} : ∀ {xs : List V} {ds : List PyData} {i : Nat} {d : PyData}, DpAll K H xs ds → ds[i]? = some d → ∃ x, xs[i]? = some x ∧ Dp K H x d
  | _, _, _, _, .nil, h => by simp at h
  | _, _, 0, _, .cons a _, h => by
    rw [List.getElem?_cons_zero] at h
    cases h
    exact ⟨_, rfl, a⟩
  | _, _, i + 1, _, .cons _ b, h => by
    obtain ⟨x, h1, h2⟩ := dpa_at (i := i) b (by simpa using h)
    exact ⟨x, by simpa using h1, h2⟩
abbrev s_q_alike : Stmt := topS 40
abbrev n_q_alike : List Str := ["_law_found", "_law_due", "_law_k"]
theorem sc_q_alike : FnScope n_q_alike ["_law_found", "_law_due"] (defScope s_q_alike) := ⟨rfl, rfl, rfl, by decide +kernel, rfl, by decide +kernel, by decide +kernel⟩

def spA (K : PySem.W.Frag) : Nat → Sp
  | 0 => fun _ _ _ _ => False
  | n + 1 => fun vs H Q _ => ∃ (x y : V) (d : PyData), vs = [x, y] ∧ Dp K H x d ∧ Dp K H y d ∧ DpN n d ∧ RetV (.bl true) H Q
theorem wp_alike {o : Option Addr} {F : Hp} {Pq : V → Hp → Prop} {x y : V} {d : PyData} {n : Nat} {E : XK} (hx : Dp K F x d) (hy : Dp K F y d) (hd : DpN n d) (q : Pq (.bl true) F) : Wp o (fun H Q => spA K (n + 1) ([x, y] ++ []) H Q E) F Pq :=
  fun H w Q k => ⟨x, y, d, rfl, Dp.up w.ex hx, Dp.up w.ex hy, hd, RetV.use w q k⟩
theorem pm_alike (D : DefAt K mg "_law_alike" s_q_alike) (B : Bl mg) : ∀ n, Pm P w K mg base CX0 n "_law_alike" ["_law_found", "_law_due"] (spA K n) := by
  obtain ⟨f, fd, F, hm⟩ := D
  have hb : Binds K fd ["_law_found", "_law_due"] [] := F.binds fun _ _ _ _ _ _ us hl => match us, hl with | [_, _], _ => rfl
  intro n
  induction n with
  | zero => exact ⟨f, fd, ⟨fun vs H Q E h => h.elim, fun A outer s H args us vs Q E _ _ _ _ h => h.elim⟩, hm, F.kp, hb⟩
  | succ n ih =>
    have g_q_alike := ih
    refine ⟨f, fd, ?_, hm, F.kp, hb⟩
    refine F.ok sc_q_alike (fun vs H Q E h => ?_) (fun cdv A outer s H vs Q E hr h => ?_)
    · obtain ⟨_, _, _, rfl, _⟩ := h
      rfl
    · obtain ⟨x, y, d, rfl, hx, hy, hd, k⟩ := h
      refine ⟨_, (pss_cons (ps_if (pt_cmpR op_isNs (pv 1) pe_non (nomark _))
 (pss_cons (ps_ret (pe_cmpR op_isNs (pv 0) pe_non (nomark _)))
 pss_nil)
 pss_nil)
 (pss_cons (ps_if (pt_val (pe_callB (isiK K rfl) (by rfl) B.isinstance (by decide +kernel) (pa_cons (pv 1) (pa_cons (pe_bltn (v := .ty "bool") (by rfl) B.bool_ (by decide +kernel) rfl) pa_nil))))
 (pss_cons (ps_ret (pe_and (pe_callB (isiK K rfl) (by rfl) B.isinstance (by decide +kernel) (pa_cons (pv 0) (pa_cons (pe_bltn (v := .ty "bool") (by rfl) B.bool_ (by decide +kernel) rfl) pa_nil))) (pe_one (pe_cmpR (eqK K rfl hr.units) (pv 0) (pv 1) (nomark _)))))
 pss_nil)
 pss_nil)
 (pss_cons (ps_if (pt_val (pe_callB (isiK K rfl) (by rfl) B.isinstance (by decide +kernel) (pa_cons (pv 1) (pa_cons (pe_bltn (v := .ty "int") (by rfl) B.int_ (by decide +kernel) rfl) pa_nil))))
 (pss_cons (ps_ret (pe_and (pe_callB (isiK K rfl) (by rfl) B.isinstance (by decide +kernel) (pa_cons (pv 0) (pa_cons (pe_bltn (v := .ty "int") (by rfl) B.int_ (by decide +kernel) rfl) pa_nil))) (pe_and (pe_not (pe_callB (isiK K rfl) (by rfl) B.isinstance (by decide +kernel) (pa_cons (pv 0) (pa_cons (pe_bltn (v := .ty "bool") (by rfl) B.bool_ (by decide +kernel) rfl) pa_nil)))) (pe_one (pe_cmpR (eqK K rfl hr.units) (pv 0) (pv 1) (nomark _))))))
 pss_nil)
 pss_nil)
 (pss_cons (ps_if (pt_val (pe_callB (isiK K rfl) (by rfl) B.isinstance (by decide +kernel) (pa_cons (pv 1) (pa_cons (pe_bltn (v := .ty "str") (by rfl) B.str_ (by decide +kernel) rfl) pa_nil))))
 (pss_cons (ps_ret (pe_and (pe_callB (isiK K rfl) (by rfl) B.isinstance (by decide +kernel) (pa_cons (pv 0) (pa_cons (pe_bltn (v := .ty "str") (by rfl) B.str_ (by decide +kernel) rfl) pa_nil))) (pe_one (pe_cmpR (eqK K rfl hr.units) (pv 0) (pv 1) (nomark _)))))
 pss_nil)
 pss_nil)
 (pss_cons (ps_if (PW.pt (pw_or (pt_cmpR (neK K rfl hr.units) (pe_callB (isiK K rfl) (by rfl) B.isinstance (by decide +kernel) (pa_cons (pv 1) (pa_cons (pe_bltn (v := .ty "tuple") (by rfl) B.tuple (by decide +kernel) rfl) pa_nil))) (pe_callB (isiK K rfl) (by rfl) B.isinstance (by decide +kernel) (pa_cons (pv 0) (pa_cons (pe_bltn (v := .ty "tuple") (by rfl) B.tuple (by decide +kernel) rfl) pa_nil))) (nomark _)) (pw_or1 (pt_cmpR (neK K rfl hr.units) (pe_callB (isiK K rfl) (by rfl) B.isinstance (by decide +kernel) (pa_cons (pv 1) (pa_cons (pe_bltn (v := .ty "list") (by rfl) B.list (by decide +kernel) rfl) pa_nil))) (pe_callB (isiK K rfl) (by rfl) B.isinstance (by decide +kernel) (pa_cons (pv 0) (pa_cons (pe_bltn (v := .ty "list") (by rfl) B.list (by decide +kernel) rfl) pa_nil))) (nomark _)))))
 (pss_cons (ps_ret pe_bl)
 pss_nil)
 pss_nil)
 (pss_cons (ps_if (pt_cmpR (neK K rfl hr.units) (pe_callB (lenK K rfl) (by rfl) B.len PySem.boot_len (pa_cons (pv 0) pa_nil)) (pe_callB (lenK K rfl) (by rfl) B.len PySem.boot_len (pa_cons (pv 1) pa_nil)) (nomark _))
 (pss_cons (ps_ret pe_bl)
 pss_nil)
 pss_nil)
 (pss_cons (ps_ret (pe_callB (allK K rfl rfl) (by rfl) B.all (by decide +kernel) (pa_cons (pe_lc (own := [("_law_k", 2)]) (g := gName 2) (tt := tYes) rfl sc_q_alike.nd (pi_range1 (by rfl) B.range (pa_cons (pe_callB (lenK K rfl) (by rfl) B.len PySem.boot_len (pa_cons (pv 1) pa_nil)) pa_nil)) (blkOk_by (N := n_q_alike) (sc := defScope s_q_alike) (by decide +kernel)) (fun _ _ _ _ _ => pg_name (i := 2) sc_q_alike.nd rfl (Or.inl rfl)) (fun _ _ _ _ _ => pts_nil) (fun _ _ _ _ _ => (pe_pm g_q_alike hr pass0 (pa_cons (pe_ix (ixK K rfl) (pv 0) (pv 2) (fun _ _ => rfl)) (pa_cons (pe_ix (ixK K rfl) (pv 1) (pv 2) (fun _ _ => rfl)) pa_nil))))) pa_nil)))
 pss_nil))))))), ?_⟩
      refine go_st (σ := [some (x), some (y), none]) rfl ?_
      have kinds : (∃ b, x = .bl b ∧ y = .bl b) ∨ (∃ i, x = .int i ∧ y = .int i) ∨ (∃ z, x = .str z ∧ y = .str z) ∨ (x = .non ∧ y = .non) ∨
          ∃ (T : String) (a b : Addr) (xs ys : List V) (ds : List PyData) (m : Nat), x = .ref a ∧ y = .ref b ∧ (T = "list" ∨ T = "tuple") ∧ TyP K H (.ref a) T ∧ TyP K H (.ref b) T ∧ (SqL K H a xs ∨ SqT K H a xs) ∧ (SqL K H b ys ∨ SqT K H b ys) ∧
            DpAll K H xs ds ∧ DpAll K H ys ds ∧ ds.length ≤ 1000 ∧ n = m + 1 ∧ ∀ e ∈ ds, DpN m e := by
        have nof : ∀ ds, (d = .list ds ∨ d = .tuple ds) → flatD d = false := fun ds h => by rcases h with h | h <;> subst h <;> rfl
        cases hx with
        | non => cases hy; exact .inr (.inr (.inr (.inl ⟨rfl, rfl⟩)))
        | bl b => cases hy; exact .inl ⟨b, rfl, rfl⟩
        | int i => cases hy; exact .inr (.inl ⟨i, rfl, rfl⟩)
        | str z => cases hy; exact .inr (.inr (.inl ⟨z, rfl, rfl⟩))
        | lst h1 h2 =>
          cases hy with
          | lst h3 h4 =>
            cases n with
            | zero => cases (show flatD _ = true from hd)
            | succ m =>
              rcases hd with hf | ⟨ds, hds, hl, hi⟩
              · cases hf
              · rcases hds with e | e
                · cases e
                  exact .inr (.inr (.inr (.inr ⟨"list", _, _, _, _, _, m, rfl, rfl, .inl rfl, .lst h1, .lst h3, .inl h1, .inl h3, h2, h4, hl, rfl, hi⟩)))
                · cases e
        | tup h1 h2 =>
          cases hy with
          | tup h3 h4 =>
            cases n with
            | zero => cases (show flatD _ = true from hd)
            | succ m =>
              rcases hd with hf | ⟨ds, hds, hl, hi⟩
              · cases hf
              · rcases hds with e | e
                · cases e
                · cases e
                  exact .inr (.inr (.inr (.inr ⟨"tuple", _, _, _, _, _, m, rfl, rfl, .inr rfl, .tup h1, .tup h3, .inr h1, .inr h3, h2, h4, hl, rfl, hi⟩)))
      wtm_at "r"
      rcases kinds with ⟨b, rfl, rfl⟩ | ⟨i, rfl, rfl⟩ | ⟨z, rfl, rfl⟩ | ⟨rfl, rfl⟩ | ⟨T, a, b, xs, ys, ds, m, rfl, rfl, hT, ta, tb, sa, sb, da, db, dl, rfl, di⟩
      · refine bF (by simp) ?_
        wtm_at "r"
        refine wp_isi (.bl b) (b := true) (by decide +kernel) ?_
        wtm_at "r"
        refine bT rfl ?_
        wtm_at "r"
        refine wp_isi (.bl b) (b := true) (by decide +kernel) ?_
        wtm_at "r"
        refine bT rfl ?_
        wtm_at "r"
        refine wp_eq0 rfl ?_
        rw [decide_eq_true rfl]
        exact k.out (exr H)
      · refine bF (by simp) ?_
        wtm_at "r"
        refine wp_isi (.int i) (b := false) (by decide +kernel) ?_
        wtm_at "r"
        refine bF rfl ?_
        wtm_at "r"
        refine wp_isi (.int i) (b := true) (by decide +kernel) ?_
        wtm_at "r"
        refine bT rfl ?_
        wtm_at "r"
        refine wp_isi (.int i) (b := true) (by decide +kernel) ?_
        wtm_at "r"
        refine bT rfl ?_
        wtm_at "r"
        refine wp_isi (.int i) (b := false) (by decide +kernel) ?_
        wtm_at "r"
        refine bT rfl ?_
        wtm_at "r"
        rw [decide_eq_true rfl]
        exact k.out (exr H)
      · refine bF (by simp) ?_
        wtm_at "r"
        refine wp_isi (.str z) (b := false) (by decide +kernel) ?_
        wtm_at "r"
        refine bF rfl ?_
        wtm_at "r"
        refine wp_isi (.str z) (b := false) (by decide +kernel) ?_
        wtm_at "r"
        refine bF rfl ?_
        wtm_at "r"
        refine wp_isi (.str z) (b := true) (by decide +kernel) ?_
        wtm_at "r"
        refine bT rfl ?_
        wtm_at "r"
        refine wp_isi (.str z) (b := true) (by decide +kernel) ?_
        wtm_at "r"
        refine bT rfl ?_
        wtm_at "r"
        refine wp_eq0 rfl ?_
        rw [decide_eq_true rfl]
        exact k.out (exr H)
      · refine bT (by simp) ?_
        wtm_at "r"
        rw [decide_eq_true rfl]
        exact k.out (exr H)
      · refine bF (by simp) ?_
        obtain ⟨bt, ht⟩ : ∃ bt, kitB T "tuple" = some bt := by
          rcases hT with rfl | rfl
          · exact ⟨false, by decide +kernel⟩
          · exact ⟨true, by decide +kernel⟩
        obtain ⟨bl, hl⟩ : ∃ bl, kitB T "list" = some bl := by
          rcases hT with rfl | rfl
          · exact ⟨true, by decide +kernel⟩
          · exact ⟨false, by decide +kernel⟩
        have la := dpa_len da
        have lb := dpa_len db
        wtm_at "r"
        refine wp_isi tb (b := false) (by rcases hT with rfl | rfl <;> decide +kernel) ?_
        wtm_at "r"
        refine bF rfl ?_
        wtm_at "r"
        refine wp_isi tb (b := false) (by rcases hT with rfl | rfl <;> decide +kernel) ?_
        wtm_at "r"
        refine bF rfl ?_
        wtm_at "r"
        refine wp_isi tb (b := false) (by rcases hT with rfl | rfl <;> decide +kernel) ?_
        wtm_at "r"
        refine bF rfl ?_
        wtm_at "r"
        refine wp_isi tb ht ?_
        wtm_at "r"
        refine wp_isi ta ht ?_
        wtm_at "r"
        refine wp_ne0 rfl ?_
        wtm_at "r"
        refine bF (by simp) ?_
        wtm_at "r"
        refine wp_isi tb hl ?_
        wtm_at "r"
        refine wp_isi ta hl ?_
        wtm_at "r"
        refine wp_ne0 rfl ?_
        wtm_at "r"
        refine bF (by simp) ?_
        wtm_at "r"
        refine wp_lenX sa ?_
        wtm_at "r"
        refine wp_lenX sb ?_
        wtm_at "r"
        refine bF (by rw [la, lb]; simp) ?_
        wtm_at "r"
        refine wp_lcR (fun _ => rfl) ?_
        wtm_at "r"
        refine wp_lenX sb ?_
        wtm_at "r"
        refine ⟨ys.length, rfl, by omega, fun Dl hD => ?_⟩
        refine ⟨fun i acc F => acc = (List.replicate i true).map V.bl ∧ Ex H F, ⟨rfl, ex_new hD⟩, ?_, ?_⟩
        · rintro i acc F hi q2 ⟨rfl, e⟩
          have hi2 : i < ds.length := by omega
          have hdi : ds[i]? = some ds[i] := List.getElem?_eq_getElem hi2
          obtain ⟨xa, hxa, dxa⟩ := dpa_at da hdi
          obtain ⟨xb, hxb, dxb⟩ := dpa_at db hdi
          show Wp _ _ _ _
          wtm_at "r"
          refine ⟨fun _ => ?_, fun z => (by cases z)⟩
          wtm_at "r"
          refine wp_ixX (sa.imp (ex_l e) (ex_t e)) (atI_nat hxa) ?_
          wtm_at "r"
          refine wp_ixX (sb.imp (ex_l e) (ex_t e)) (atI_nat hxb) ?_
          wtm_at "r"
          refine wp_alike (Dp.up e dxa) (Dp.up e dxb) (di _ (List.getElem_mem hi2)) ?_
          refine ⟨q2, by rw [List.length_map, List.length_replicate]; omega, ?_, ex_mut e hD⟩
          rw [List.replicate_succ', List.map_append]
          rfl
        · rintro acc F q2 ⟨rfl, e⟩
          wtm_at "r"
          refine wp_all (bs := List.replicate ys.length true) (SqL.of q2) ?_
          have ea : (List.replicate ys.length true).all id = true := by
            rw [List.all_eq_true]
            intro z hz
            exact (List.mem_replicate.mp hz).2
          rw [ea]
          exact k.out e
end
/-! ### reading by pieces -/
theorem fold_gst (A B : List Nat) : ∀ (cs : List Int) (pre : List Nat) (st : Int), cs.foldl (gst A B) (pre, st) = (pre ++ (gon A B cs st).1, (gon A B cs st).2)
  | [], pre, st => by simp [gon]
  | c :: r, pre, st => by
    unfold gon
    rw [List.foldl_cons, List.foldl_cons]
    by_cases h : c < (A.length : Int)
    · have e : ∀ q : List Nat, gst A B (q, st) c = (q ++ [sgn A B st c], st) := fun q => by unfold gst; rw [if_pos h]
      rw [e, e, fold_gst A B r, fold_gst A B r]
      simp
    · have e : ∀ q : List Nat, gst A B (q, st) c = (q, c - (A.length : Int)) := fun q => by unfold gst; rw [if_neg h]
      rw [e, e, fold_gst A B r, fold_gst A B r]
      simp
theorem gon_app (A B : List Nat) (x y : List Int) (st : Int) : gon A B (x ++ y) st = ((gon A B x st).1 ++ (gon A B y (gon A B x st).2).1, (gon A B y (gon A B x st).2).2) := by
  have h := fold_gst A B y (gon A B x st).1 (gon A B x st).2
  rw [← h]
  unfold gon
  rw [List.foldl_append]
theorem gon_nil (A B : List Nat) (st : Int) : gon A B [] st = ([], st) := rfl
theorem gon_sign {A B : List Nat} {c : Int} (h : c < (A.length : Int)) (r : List Int) (st : Int) : gon A B (c :: r) st = (sgn A B st c :: (gon A B r st).1, (gon A B r st).2) := by
  have e := gon_app A B [c] r st
  have e1 : gon A B [c] st = ([sgn A B st c], st) := by
    show gst A B ([], st) c = _
    unfold gst
    rw [if_pos h]
    rfl
  rw [e1] at e
  exact e
theorem gon_shift {A B : List Nat} {c : Int} (h : ¬ c < (A.length : Int)) (r : List Int) (st : Int) : gon A B (c :: r) st = gon A B r (c - (A.length : Int)) := by
  have e := gon_app A B [c] r st
  have e1 : gon A B [c] st = ([], c - (A.length : Int)) := by
    show gst A B ([], st) c = _
    unfold gst
    rw [if_neg h]
  rw [e1] at e
  simpa using e
theorem wp_slTake {K : PySem.W.Frag} {o : Option Addr} {F : Hp} {Pq : V → Hp → Prop} {p : Addr} {cs : List Int} {n : Nat} {z : Int} (h : SqL K F p (il cs)) (hz : z = (n : Int)) (q : ∀ p, F p = none → Pq (.ref p) (upd F p (.lst (il (cs.take n))))) : Wp o (rSlP K (.ref p) none (some z)) F Pq :=
  wp_slL h fun p hp => by rw [hz, cutV_take, ← List.map_take]; exact q p hp
theorem wp_slDrop {K : PySem.W.Frag} {o : Option Addr} {F : Hp} {Pq : V → Hp → Prop} {p : Addr} {cs : List Int} {n : Nat} {z : Int} (h : SqL K F p (il cs)) (hz : z = (n : Int)) (q : ∀ p, F p = none → Pq (.ref p) (upd F p (.lst (il (cs.drop n))))) : Wp o (rSlP K (.ref p) (some z) none) F Pq :=
  wp_slL h fun p hp => by rw [hz, cutV_drop, ← List.map_drop]; exact q p hp
/-! ### trimmed -/
def cmn (A B : List Nat) (c : Int) : Bool := decide (sgn A B 0 c = sgn A B 1 c)
/-- the same codes of signs, a shift just ahead of each that needs one -/
def trimR (A B : List Nat) : List Int → Int → Int → List Int
  | [], _, _ => []
  | c :: r, st, here => if c < (A.length : Int) then (if st ≠ here ∧ cmn A B c = false then ((A.length : Int) + st) :: c :: trimR A B r st st else c :: trimR A B r st here) else trimR A B r (c - (A.length : Int)) here
def tst (A B : List Nat) (x : List Int × Int × Int) (c : Int) : List Int × Int × Int :=
  if c < (A.length : Int) then (if x.2.1 ≠ x.2.2 ∧ cmn A B c = false then (x.1 ++ [(A.length : Int) + x.2.1] ++ [c], x.2.1, x.2.1) else (x.1 ++ [c], x.2.1, x.2.2)) else (x.1, c - (A.length : Int), x.2.2)
def tfo (A B : List Nat) (cs : List Int) (st : Int) : List Int × Int × Int := cs.foldl (tst A B) ([], st, st)
theorem tfo_take {A B : List Nat} {cs : List Int} {st : Int} {i : Nat} {c : Int} (h : cs[i]? = some c) : tfo A B (cs.take (i + 1)) st = tst A B (tfo A B (cs.take i) st) c := by
  unfold tfo
  rw [take_more h, List.foldl_append]
  rfl
theorem fold_tst (A B : List Nat) : ∀ (cs : List Int) (pre : List Int) (st here : Int), (cs.foldl (tst A B) (pre, st, here)).1 = pre ++ trimR A B cs st here
  | [], pre, st, here => by simp [trimR]
  | c :: r, pre, st, here => by
    rw [List.foldl_cons, show tst A B (pre, st, here) c = if c < (A.length : Int) then (if st ≠ here ∧ cmn A B c = false then (pre ++ [(A.length : Int) + st] ++ [c], st, st) else (pre ++ [c], st, here)) else (pre, c - (A.length : Int), here) from rfl]
    unfold trimR
    by_cases h : c < (A.length : Int)
    · rw [if_pos h, if_pos h]
      by_cases h2 : st ≠ here ∧ cmn A B c = false
      · rw [if_pos h2, if_pos h2, fold_tst A B r]
        simp
      · rw [if_neg h2, if_neg h2, fold_tst A B r]
        simp
    · rw [if_neg h, if_neg h, fold_tst A B r]
theorem tfo_trim (A B : List Nat) (cs : List Int) (st : Int) : (tfo A B cs st).1 = trimR A B cs st st := by
  have h := fold_tst A B cs [] st st
  simpa [tfo] using h
theorem tst_st {A B : List Nat} {x : List Int × Int × Int} {c : Int} (h1 : StOk x.2.1) (h2 : StOk x.2.2) (hc : 0 ≤ c ∧ c < (A.length : Int) + 2) : StOk (tst A B x c).2.1 ∧ StOk (tst A B x c).2.2 := by
  unfold tst
  split
  · split
    · exact ⟨h1, h1⟩
    · exact ⟨h1, h2⟩
  · refine ⟨?_, h2⟩
    show c - (A.length : Int) = 0 ∨ c - (A.length : Int) = 1
    omega
theorem tfo_st {A B : List Nat} {st : Int} (h : StOk st) {cs : List Int} (hc : CodesOk A.length cs) : StOk (tfo A B cs st).2.1 ∧ StOk (tfo A B cs st).2.2 := by
  have key : ∀ (cs : List Int) (x : List Int × Int × Int), StOk x.2.1 → StOk x.2.2 → CodesOk A.length cs → StOk (cs.foldl (tst A B) x).2.1 ∧ StOk (cs.foldl (tst A B) x).2.2 := by
    intro cs
    induction cs with
    | nil => intro x h1 h2 _; exact ⟨h1, h2⟩
    | cons c r ih =>
      intro x h1 h2 hc
      obtain ⟨h3, h4⟩ := tst_st h1 h2 (hc c List.mem_cons_self)
      exact ih _ h3 h4 fun d hd => hc d (List.mem_cons_of_mem _ hd)
  exact key cs _ h h hc
theorem trimR_len (A B : List Nat) : ∀ (cs : List Int) (st here : Int), (trimR A B cs st here).length ≤ cs.length + (if st = here then 0 else 1)
  | [], st, here => by simp [trimR]
  | c :: r, st, here => by
    unfold trimR
    by_cases h : c < (A.length : Int)
    · rw [if_pos h]
      by_cases h2 : st ≠ here ∧ cmn A B c = false
      · rw [if_pos h2, if_neg h2.1]
        have ih := trimR_len A B r st st
        rw [if_pos rfl] at ih
        simp only [List.length_cons]
        omega
      · rw [if_neg h2]
        have ih := trimR_len A B r st here
        simp only [List.length_cons]
        omega
    · rw [if_neg h]
      have ih := trimR_len A B r (c - (A.length : Int)) here
      rw [List.length_cons]
      split at ih <;> split <;> omega
theorem trim_len (A B : List Nat) (cs : List Int) (st : Int) : (trimR A B cs st st).length ≤ cs.length := by
  have h := trimR_len A B cs st st
  rw [if_pos rfl] at h
  exact h
theorem tfo_len (A B : List Nat) (cs : List Int) (st : Int) : (tfo A B cs st).1.length ≤ cs.length := by
  rw [tfo_trim]
  exact trim_len A B cs st
theorem trim_ok {A B : List Nat} : ∀ {cs : List Int} {st here : Int}, CodesOk A.length cs → StOk st → CodesOk A.length (trimR A B cs st here)
  | [], st, here, _, _ => by
    intro c hc
    cases hc
  | c :: r, st, here, hc, hs => by
    have h0 := hc c List.mem_cons_self
    have hr : CodesOk A.length r := fun d hd => hc d (List.mem_cons_of_mem _ hd)
    unfold trimR
    by_cases h : c < (A.length : Int)
    · rw [if_pos h]
      by_cases h2 : st ≠ here ∧ cmn A B c = false
      · rw [if_pos h2]
        have ih := trim_ok (A := A) (B := B) (st := st) (here := st) hr hs
        intro d hd
        unfold StOk at hs
        rcases List.mem_cons.mp hd with e | hd
        · omega
        · rcases List.mem_cons.mp hd with e | hd
          · omega
          · exact ih d hd
      · rw [if_neg h2]
        have ih := trim_ok (A := A) (B := B) (st := st) (here := here) hr hs
        intro d hd
        rcases List.mem_cons.mp hd with e | hd
        · omega
        · exact ih d hd
    · rw [if_neg h]
      exact trim_ok hr (by unfold StOk; omega)
/-- the same codes of signs -/
theorem trim_signs {A B : List Nat} : ∀ {cs : List Int} {st here : Int}, CodesOk A.length cs → StOk st → (trimR A B cs st here).filter (fun c => decide (c < (A.length : Int))) = cs.filter (fun c => decide (c < (A.length : Int)))
  | [], st, here, _, _ => rfl
  | c :: r, st, here, hc, hs => by
    have h0 := hc c List.mem_cons_self
    have hr : CodesOk A.length r := fun d hd => hc d (List.mem_cons_of_mem _ hd)
    unfold trimR
    by_cases h : c < (A.length : Int)
    · rw [if_pos h]
      by_cases h2 : st ≠ here ∧ cmn A B c = false
      · rw [if_pos h2, List.filter_cons, if_neg (by unfold StOk at hs; simp; omega), List.filter_cons, if_pos (decide_eq_true h), List.filter_cons, if_pos (decide_eq_true h), trim_signs hr hs]
      · rw [if_neg h2, List.filter_cons, if_pos (decide_eq_true h), List.filter_cons, if_pos (decide_eq_true h), trim_signs hr hs]
    · rw [if_neg h, trim_signs hr (by unfold StOk; omega), List.filter_cons (x := c), if_neg (by simpa using h)]
theorem sgn_cm {A B : List Nat} {c st here : Int} (hs : StOk st) (hh : StOk here) (h : ¬ (st ≠ here ∧ cmn A B c = false)) : sgn A B here c = sgn A B st c := by
  by_cases e : st = here
  · rw [e]
  · have e2 : cmn A B c = true := by
      cases h3 : cmn A B c with
      | true => rfl
      | false => exact absurd ⟨e, h3⟩ h
    have e3 : sgn A B 0 c = sgn A B 1 c := of_decide_eq_true e2
    rcases hs with rfl | rfl <;> rcases hh with rfl | rfl
    · rfl
    · exact e3.symm
    · exact e3
    · rfl
theorem sgn_nc {A B : List Nat} {c st here : Int} (hs : StOk st) (hh : StOk here) (h : st ≠ here ∧ cmn A B c = false) : sgn A B here c ≠ sgn A B st c := by
  obtain ⟨h1, h2⟩ := h
  have e3 : sgn A B 0 c ≠ sgn A B 1 c := of_decide_eq_false h2
  rcases hs with rfl | rfl <;> rcases hh with rfl | rfl
  · exact absurd rfl h1
  · exact e3.symm
  · exact e3
  · exact absurd rfl h1
/-- read alike -/
theorem trim_read {A B : List Nat} : ∀ {cs : List Int} {st here : Int}, CodesOk A.length cs → StOk st → StOk here → (gon A B (trimR A B cs st here) here).1 = (gon A B cs st).1
  | [], st, here, _, _, _ => rfl
  | c :: r, st, here, hc, hs, hh => by
    have h0 := hc c List.mem_cons_self
    have hr : CodesOk A.length r := fun d hd => hc d (List.mem_cons_of_mem _ hd)
    unfold trimR
    by_cases h : c < (A.length : Int)
    · rw [if_pos h, gon_sign h r st]
      by_cases h2 : st ≠ here ∧ cmn A B c = false
      · rw [if_pos h2, gon_shift (by unfold StOk at hs; omega), show (A.length : Int) + st - (A.length : Int) = st by omega, gon_sign h, trim_read hr hs hs]
      · rw [if_neg h2, gon_sign h, trim_read hr hs hh, sgn_cm hs hh h2]
    · rw [if_neg h, gon_shift h, trim_read hr (by unfold StOk; omega) hh]
/-- trimmed again it stays -/
theorem trim_again {A B : List Nat} : ∀ {cs : List Int} {st here : Int}, CodesOk A.length cs → StOk st → StOk here → trimR A B (trimR A B cs st here) here here = trimR A B cs st here
  | [], st, here, _, _, _ => rfl
  | c :: r, st, here, hc, hs, hh => by
    have h0 := hc c List.mem_cons_self
    have hr : CodesOk A.length r := fun d hd => hc d (List.mem_cons_of_mem _ hd)
    rw [show trimR A B (c :: r) st here = if c < (A.length : Int) then (if st ≠ here ∧ cmn A B c = false then ((A.length : Int) + st) :: c :: trimR A B r st st else c :: trimR A B r st here) else trimR A B r (c - (A.length : Int)) here from rfl]
    by_cases h : c < (A.length : Int)
    · rw [if_pos h]
      by_cases h2 : st ≠ here ∧ cmn A B c = false
      · rw [if_pos h2]
        have ih := trim_again (A := A) (B := B) (st := st) (here := st) hr hs hs
        rw [show ∀ z t, trimR A B (z :: t) here here = if z < (A.length : Int) then (if here ≠ here ∧ cmn A B z = false then ((A.length : Int) + here) :: z :: trimR A B t here here else z :: trimR A B t here here) else trimR A B t (z - (A.length : Int)) here from fun _ _ => rfl,
          if_neg (by unfold StOk at hs; omega), show (A.length : Int) + st - (A.length : Int) = st by omega,
          show ∀ z t, trimR A B (z :: t) st here = if z < (A.length : Int) then (if st ≠ here ∧ cmn A B z = false then ((A.length : Int) + st) :: z :: trimR A B t st st else z :: trimR A B t st here) else trimR A B t (z - (A.length : Int)) here from fun _ _ => rfl,
          if_pos h, if_pos h2, ih]
      · rw [if_neg h2]
        have ih := trim_again (A := A) (B := B) (st := st) (here := here) hr hs hh
        rw [show ∀ z t, trimR A B (z :: t) here here = if z < (A.length : Int) then (if here ≠ here ∧ cmn A B z = false then ((A.length : Int) + here) :: z :: trimR A B t here here else z :: trimR A B t here here) else trimR A B t (z - (A.length : Int)) here from fun _ _ => rfl,
          if_pos h, if_neg (fun z => z.1 rfl), ih]
    · rw [if_neg h]
      exact trim_again hr (by unfold StOk; omega) hh
/-- a tape without its i-th code -/
def cutAt (cs : List Int) (i : Nat) : List Int := cs.take i ++ cs.drop (i + 1)
/-- without any of its shifts it is read otherwise -/
theorem trim_needs {A B : List Nat} : ∀ {cs : List Int} {st here : Int} {i : Nat} {z : Int}, CodesOk A.length cs → StOk st → StOk here → (trimR A B cs st here)[i]? = some z → ¬ z < (A.length : Int) → (gon A B (cutAt (trimR A B cs st here) i) here).1 ≠ (gon A B (trimR A B cs st here) here).1
  | [], st, here, i, z, _, _, _, hi, _ => by simp [trimR] at hi
  | c :: r, st, here, i, z, hc, hs, hh, hi, hz => by
    have h0 := hc c List.mem_cons_self
    have hr : CodesOk A.length r := fun d hd => hc d (List.mem_cons_of_mem _ hd)
    revert hi
    rw [show trimR A B (c :: r) st here = if c < (A.length : Int) then (if st ≠ here ∧ cmn A B c = false then ((A.length : Int) + st) :: c :: trimR A B r st st else c :: trimR A B r st here) else trimR A B r (c - (A.length : Int)) here from rfl]
    by_cases h : c < (A.length : Int)
    · rw [if_pos h]
      have ns : ¬ (A.length : Int) + st < (A.length : Int) := by unfold StOk at hs; omega
      by_cases h2 : st ≠ here ∧ cmn A B c = false
      · rw [if_pos h2]
        intro hi
        match i, hi with
        | 0, hi =>
          rw [show cutAt (((A.length : Int) + st) :: c :: trimR A B r st st) 0 = c :: trimR A B r st st from rfl, gon_sign h, gon_shift ns, show (A.length : Int) + st - (A.length : Int) = st by omega, gon_sign h]
          intro e
          exact sgn_nc hs hh h2 (List.cons.inj e).1
        | 1, hi =>
          have hi : some c = some z := hi
          cases hi
          exact absurd h hz
        | j + 2, hi =>
          have ih := trim_needs (A := A) (B := B) (st := st) (here := st) (i := j) hr hs hs (by simpa using hi) hz
          rw [show cutAt (((A.length : Int) + st) :: c :: trimR A B r st st) (j + 2) = ((A.length : Int) + st) :: c :: cutAt (trimR A B r st st) j from rfl, gon_shift ns, gon_shift ns, show (A.length : Int) + st - (A.length : Int) = st by omega, gon_sign h, gon_sign h]
          intro e
          exact ih (List.cons.inj e).2
      · rw [if_neg h2]
        intro hi
        match i, hi with
        | 0, hi =>
          have hi : some c = some z := hi
          cases hi
          exact absurd h hz
        | j + 1, hi =>
          have ih := trim_needs (A := A) (B := B) (st := st) (here := here) (i := j) hr hs hh (by simpa using hi) hz
          rw [show cutAt (c :: trimR A B r st here) (j + 1) = c :: cutAt (trimR A B r st here) j from rfl, gon_sign h, gon_sign h]
          intro e
          exact ih (List.cons.inj e).2
    · rw [if_neg h]
      intro hi
      exact trim_needs hr (by unfold StOk; omega) hh hi hz
/-- the law's own going: codes with the wanted state, then the shifts -/
def ndL (n : Nat) : List Int → Int → List (Int × Int)
  | [], _ => []
  | c :: r, st => if c < (n : Int) then (c, st) :: ndL n r st else ndL n r (c - (n : Int))
def nst (n : Nat) (x : List (Int × Int) × Int) (c : Int) : List (Int × Int) × Int := if c < (n : Int) then (x.1 ++ [(c, x.2)], x.2) else (x.1, c - (n : Int))
def nfo (n : Nat) (cs : List Int) (st : Int) : List (Int × Int) × Int := cs.foldl (nst n) ([], st)
theorem nfo_take {n : Nat} {cs : List Int} {st : Int} {i : Nat} {c : Int} (h : cs[i]? = some c) : nfo n (cs.take (i + 1)) st = nst n (nfo n (cs.take i) st) c := by
  unfold nfo
  rw [take_more h, List.foldl_append]
  rfl
theorem fold_nst (n : Nat) : ∀ (cs : List Int) (pre : List (Int × Int)) (st : Int), (cs.foldl (nst n) (pre, st)).1 = pre ++ ndL n cs st
  | [], pre, st => by simp [ndL]
  | c :: r, pre, st => by
    rw [List.foldl_cons, show nst n (pre, st) c = if c < (n : Int) then (pre ++ [(c, st)], st) else (pre, c - (n : Int)) from rfl]
    unfold ndL
    by_cases h : c < (n : Int)
    · rw [if_pos h, if_pos h, fold_nst n r]
      simp
    · rw [if_neg h, if_neg h, fold_nst n r]
theorem nfo_nd (n : Nat) (cs : List Int) (st : Int) : (nfo n cs st).1 = ndL n cs st := by
  have h := fold_nst n cs [] st
  simpa [nfo] using h
def tr2 (A B : List Nat) : List (Int × Int) → Int → List Int
  | [], _ => []
  | c :: r, here => if c.2 ≠ here ∧ cmn A B c.1 = false then ((A.length : Int) + c.2) :: c.1 :: tr2 A B r c.2 else c.1 :: tr2 A B r here
def t2s (A B : List Nat) (x : List Int × Int) (c : Int × Int) : List Int × Int := if c.2 ≠ x.2 ∧ cmn A B c.1 = false then (x.1 ++ [(A.length : Int) + c.2] ++ [c.1], c.2) else (x.1 ++ [c.1], x.2)
def t2o (A B : List Nat) (cs : List (Int × Int)) (st : Int) : List Int × Int := cs.foldl (t2s A B) ([], st)
theorem t2o_take {A B : List Nat} {cs : List (Int × Int)} {st : Int} {i : Nat} {c : Int × Int} (h : cs[i]? = some c) : t2o A B (cs.take (i + 1)) st = t2s A B (t2o A B (cs.take i) st) c := by
  unfold t2o
  rw [take_more h, List.foldl_append]
  rfl
theorem fold_t2s (A B : List Nat) : ∀ (cs : List (Int × Int)) (pre : List Int) (st : Int), (cs.foldl (t2s A B) (pre, st)).1 = pre ++ tr2 A B cs st
  | [], pre, st => by simp [tr2]
  | c :: r, pre, st => by
    rw [List.foldl_cons, show t2s A B (pre, st) c = if c.2 ≠ st ∧ cmn A B c.1 = false then (pre ++ [(A.length : Int) + c.2] ++ [c.1], c.2) else (pre ++ [c.1], st) from rfl]
    unfold tr2
    by_cases h2 : c.2 ≠ st ∧ cmn A B c.1 = false
    · rw [if_pos h2, if_pos h2, fold_t2s A B r]
      simp
    · rw [if_neg h2, if_neg h2, fold_t2s A B r]
      simp
theorem tr2_nd (A B : List Nat) : ∀ (cs : List Int) (st here : Int), tr2 A B (ndL A.length cs st) here = trimR A B cs st here
  | [], _, _ => rfl
  | c :: r, st, here => by
    unfold ndL trimR
    by_cases h : c < (A.length : Int)
    · rw [if_pos h, if_pos h]
      unfold tr2
      by_cases h2 : st ≠ here ∧ cmn A B c = false
      · rw [if_pos h2, if_pos h2, tr2_nd A B r]
      · rw [if_neg h2, if_neg h2, tr2_nd A B r]
    · rw [if_neg h, if_neg h, tr2_nd A B r]
theorem t2o_trim (A B : List Nat) (cs : List Int) (st : Int) : (t2o A B (ndL A.length cs st) st).1 = trimR A B cs st st := by
  have h := fold_t2s A B (ndL A.length cs st) [] st
  rw [tr2_nd] at h
  simpa [t2o] using h
theorem nd_ok {n : Nat} : ∀ {cs : List Int} {st : Int}, CodesOk n cs → StOk st → (∀ c ∈ ndL n cs st, 0 ≤ c.1 ∧ c.1 < (n : Int) ∧ StOk c.2) ∧ (ndL n cs st).length ≤ cs.length
  | [], st, _, _ => ⟨fun c hc => (by cases hc), Nat.le_refl _⟩
  | c :: r, st, hc, hs => by
    have h0 := hc c List.mem_cons_self
    have hr : CodesOk n r := fun d hd => hc d (List.mem_cons_of_mem _ hd)
    unfold ndL
    by_cases h : c < (n : Int)
    · rw [if_pos h]
      obtain ⟨h1, h2⟩ := nd_ok (st := st) hr hs
      refine ⟨fun d hd => ?_, by simp only [List.length_cons]; omega⟩
      rcases List.mem_cons.mp hd with e | hd
      · subst e
        exact ⟨h0.1, h, hs⟩
      · exact h1 d hd
    · rw [if_neg h]
      obtain ⟨h1, h2⟩ := nd_ok (n := n) (st := c - (n : Int)) hr (by unfold StOk; omega)
      exact ⟨h1, by rw [List.length_cons]; omega⟩
theorem il_snoc (xs : List Int) (c : Int) : il xs ++ [V.int c] = il (xs ++ [c]) := by simp [il]
section
variable {P : Program} {w : World} {K : PySem.W.Frag} {mg : Str → Option Value} {base : Heap}
abbrev s_is_common : Stmt := topS 14
abbrev n_is_common : List Str := ["sets", "code"]
theorem sc_is_common : FnScope n_is_common ["sets", "code"] (defScope s_is_common) := ⟨rfl, rfl, rfl, by decide +kernel, rfl, by decide +kernel, by decide +kernel⟩

def sp_common (K : PySem.W.Frag) : Sp := fun vs H Q _ => ∃ (s : Addr) (A B : List Nat) (c : Int), vs = [.ref s, .int c] ∧ SetsAt K H s A B ∧ Good A B ∧ 0 ≤ c ∧ c < (A.length : Int) ∧ RetV (.bl (cmn A B c)) H Q
theorem wp_common {o : Option Addr} {F : Hp} {Pq : V → Hp → Prop} {s : Addr} {A B : List Nat} {c : Int} {E : XK} (hS : SetsAt K F s A B) (g : Good A B) (h0 : 0 ≤ c) (h1 : c < (A.length : Int)) (q : Pq (.bl (cmn A B c)) F) : Wp o (fun H Q => sp_common K ([.ref s, .int c] ++ []) H Q E) F Pq :=
  fun H w Q k => ⟨s, A, B, c, rfl, w.t hS, g, h0, h1, RetV.use w q k⟩
theorem pm_common (D : DefAt K mg "is_common" s_is_common) (B : Bl mg) : Pm P w K mg base CX0 1 "is_common" ["sets", "code"] (sp_common K) := by
  obtain ⟨f, fd, F, hm⟩ := D
  refine ⟨f, fd, ?_, hm, F.kp, F.binds fun _ _ _ _ _ _ us hl => match us, hl with | [_, _], _ => rfl⟩
  refine F.ok sc_is_common (fun vs H Q E h => ?_) (fun cdv A outer s H vs Q E hr h => ?_)
  · obtain ⟨_, _, _, _, rfl, _⟩ := h
    rfl
  · obtain ⟨s, A', B', c, rfl, hS, g, h0, h1, k⟩ := h
    have n10 := g.n10
    have a0 := at_sgn (A := A') (B := B') (st := 0) g.eq h0 h1
    have a1 := at_sgn (A := A') (B := B') (st := 1) g.eq h0 h1
    have ge := g.eq
    refine ⟨_, (pss_cons (ps_ret (pe_cmpR (eqK K rfl hr.units) (pe_ix (ixK K rfl) (pe_ix (ixK K rfl) (pv 0) pe_int (fun _ _ => rfl)) (pv 1) (fun _ _ => rfl)) (pe_ix (ixK K rfl) (pe_ix (ixK K rfl) (pv 0) pe_int (fun _ _ => rfl)) (pv 1) (fun _ _ => rfl)) (nomark _)))
 pss_nil), ?_⟩
    refine go_st (σ := [some (.ref s), some (.int c)]) rfl ?_
    wtm_at "r"
    refine wp_ixS (l := A') (by omega) a0 ?_
    wtm_at "r"
    refine wp_ixS (l := B') (by omega) a1 ?_
    refine wp_eqS (i := [sgn A' B' 0 c]) (j := [sgn A' B' 1 c]) ?_
    have e : decide ([sgn A' B' 0 c] = [sgn A' B' 1 c]) = cmn A' B' c := by
      unfold cmn
      simp
    rw [e]
    exact k.out (exr H)
abbrev s_trimmed : Stmt := topS 34
abbrev n_trimmed : List Str := ["sets", "tape", "state", "many", "found", "here", "code"]
theorem sc_trimmed : FnScope n_trimmed ["sets", "tape", "state"] (defScope s_trimmed) := ⟨rfl, rfl, rfl, by decide +kernel, rfl, by decide +kernel, by decide +kernel⟩

def sp_trimmed (K : PySem.W.Frag) : Sp := fun vs H Q _ => ∃ (s t : Addr) (A B : List Nat) (cs : List Int) (st : Int), vs = [.ref s, .ref t, .int st] ∧ SetsAt K H s A B ∧ SqL K H t (il cs) ∧ Good A B ∧ CodesOk A.length cs ∧ cs.length ≤ 200 ∧ StOk st ∧
  RetN (.lst (il (trimR A B cs st st))) H Q
theorem wp_trimmed {o : Option Addr} {F : Hp} {Pq : V → Hp → Prop} {s t : Addr} {A B : List Nat} {cs : List Int} {st : Int} {E : XK} (hS : SetsAt K F s A B) (hT : SqL K F t (il cs)) (g : Good A B) (hc : CodesOk A.length cs) (cl : cs.length ≤ 200) (h : StOk st)
    (q : ∀ p, F p = none → Pq (.ref p) (upd F p (.lst (il (trimR A B cs st st))))) : Wp o (fun H Q => sp_trimmed K ([.ref s, .ref t, .int st] ++ []) H Q E) F Pq := fun H w Q k => ⟨s, t, A, B, cs, st, rfl, w.t hS, w.l hT, g, hc, cl, h, RetN.use w q k⟩
theorem pm_trimmed (D : DefAt K mg "trimmed" s_trimmed) (B : Bl mg) (g_need_all : Pm P w K mg base CX0 2 "need_all" ["sets", "tape", "state"] (sp_need_all K)) (g_is_common : Pm P w K mg base CX0 1 "is_common" ["sets", "code"] (sp_common K)) :
    Pm P w K mg base CX0 3 "trimmed" ["sets", "tape", "state"] (sp_trimmed K) := by
  obtain ⟨f, fd, F, hm⟩ := D
  refine ⟨f, fd, ?_, hm, F.kp, F.binds fun _ _ _ _ _ _ us hl => match us, hl with | [_, _, _], _ => rfl⟩
  refine F.ok sc_trimmed (fun vs H Q E h => ?_) (fun cdv A outer s H vs Q E hr h => ?_)
  · obtain ⟨_, _, _, _, _, _, rfl, _⟩ := h
    rfl
  · obtain ⟨s, t, A', B', cs, st, rfl, hS, hT, g, hc, cl, hst, k⟩ := h
    have n10 := g.n10
    refine ⟨_, (pss_cons (ps_expr (pe_pm g_need_all (hr.mono (by decide)) pass0 (pa_cons (pv 0) (pa_cons (pv 1) (pa_cons (pv 2) pa_nil)))))
 (pss_cons (ps_set (i := 3) sc_trimmed.nd rfl (Or.inl rfl) (pe_callB (lenK K rfl) (by rfl) B.len PySem.boot_len (pa_cons (pe_ix (ixK K rfl) (pv 0) pe_int (fun _ _ => rfl)) pa_nil)))
 (pss_cons (ps_set (i := 4) sc_trimmed.nd rfl (Or.inl rfl) (pe_lst pa_nil))
 (pss_cons (ps_set (i := 5) sc_trimmed.nd rfl (Or.inl rfl) (pv 2))
 (pss_cons (ps_for PassesOwn.never rfl (piL K rfl (pv 1)) (pg_name (i := 6) sc_trimmed.nd rfl (Or.inl rfl))
 (pss_cons (ps_if (pt_cmpR op_ge (pv 6) (pv 3) (nomark _))
 (pss_cons (ps_set (i := 2) sc_trimmed.nd rfl (Or.inl rfl) (pe_op op_sub (pv 6) (pv 3)))
 pss_nil)
 (Evl.pss_cut (ps_if (PW.pt (pw_and (pt_cmpR (neK K rfl hr.units) (pv 2) (pv 5) (nomark _)) (pw_and1 (pt_not (pt_val (pe_pm g_is_common (hr.mono (by decide)) pass0 (pa_cons (pv 0) (pa_cons (pv 6) pa_nil))))))))
 (pss_cons (ps_expr (bmK K rfl PySem.F.plainAttrs_list PySem.F.slot_list_append PySem.F.type_list_append mt_append (pv 4) (pa_cons (pe_op op_addP (pv 3) (pv 2)) pa_nil)))
 (pss_cons (ps_set (i := 5) sc_trimmed.nd rfl (Or.inl rfl) (pv 2))
 pss_nil))
 pss_nil)
 (pss_cons (ps_expr (bmK K rfl PySem.F.plainAttrs_list PySem.F.slot_list_append PySem.F.type_list_append mt_append (pv 4) (pa_cons (pv 6) pa_nil)))
 pss_nil)))
 pss_nil))
 (pss_cons (ps_ret (pv 4))
 pss_nil)))))), ?_⟩
    refine go_st (σ := [some (.ref s), some (.ref t), some (.int st), none, none, none, none]) rfl ?_
    wtm_at "r"
    refine wp_need_all hS hT g hc cl hst ?_
    wtm_at "r"
    refine ⟨Nat.zero_le _, fun q hq => ?_⟩
    wtm_at "r"
    refine go_forL (fun i σ F => ∃ y, σ = [some (.ref s), some (.ref t), some (.int (tfo A' B' (cs.take i) st).2.1), some (.int (A'.length : Nat)), some (.ref q), some (.int (tfo A' B' (cs.take i) st).2.2), y] ∧ Ex H F ∧ F q = some (.lst (il (tfo A' B' (cs.take i) st).1))) ?_
    wtm_at "r"
    refine ⟨t, il cs, rfl, ex_l (ex_new hq) hT, ⟨none, rfl, ex_new hq, upd_same⟩, fun i σ F hi ⟨_, _, e, _⟩ => ex_l e hT, ?_, ?_⟩
    · rintro i y σ F hy ⟨y0, rfl, e, hF⟩
      obtain ⟨c, hcy, rfl, hmem⟩ := il_at hy
      have hcc := hc c hmem
      obtain ⟨o1, o2⟩ := tfo_st (A := A') (B := B') hst (hc.take i)
      have hl := tfo_len A' B' (cs.take i) st
      have hl2 : (cs.take i).length ≤ cs.length := List.length_take_le' _ _
      have step := tfo_take (A := A') (B := B') (st := st) hcy
      revert step o1 o2 hl hF
      generalize tfo A' B' (cs.take i) st = X
      obtain ⟨fo, st1, here⟩ := X
      intro hF o1 o2 hl step
      wtm_at "r"
      refine ⟨fun hge => ?_, fun hlt => ?_⟩
      · have hge : ¬ c < (A'.length : Int) := by have := of_decide_eq_true hge; omega
        wtm_at "r"
        refine go_turn rfl ⟨some (.int c), ?_, e, ?_⟩
        · rw [step]
          unfold tst
          rw [if_neg hge]
          rfl
        · rw [step]
          unfold tst
          rw [if_neg hge]
          exact hF
      · have hlt : c < (A'.length : Int) := by have := of_decide_eq_false hlt; omega
        have step : tfo A' B' (cs.take (i + 1)) st = if st1 ≠ here ∧ cmn A' B' c = false then (fo ++ [(A'.length : Int) + st1] ++ [c], st1, st1) else (fo ++ [c], st1, here) := by
          rw [step]
          unfold tst
          rw [if_pos hlt]
        wtm_at "r"
        refine go_cut (fun σ F1 => ∃ h2 fo2, tfo A' B' (cs.take (i + 1)) st = (fo2 ++ [c], st1, h2) ∧ fo2.length ≤ 401 ∧ σ = [some (.ref s), some (.ref t), some (.int st1), some (.int (A'.length : Nat)), some (.ref q), some (.int h2), some (.int c)] ∧ Ex H F1 ∧ F1 q = some (.lst (il fo2))) ?_ ?_
        · wtm_at "r"
          refine ⟨fun hne => ?_, fun heq => ?_⟩
          · have hne : st1 ≠ here := by simpa using hne
            wtm_at "r"
            refine wp_common (ex_t e hS) g hcc.1 hlt ?_
            wtm_at "r"
            refine ⟨fun hb => ?_, fun hb => ?_⟩
            · have hb : cmn A' B' c = false := by simpa using hb
              wtm_at "r"
              refine wp_bmL ?_
              wtm_at "r"
              refine ⟨q, _, rfl, SqL.of hF, ?_⟩
              wtm_at "r"
              refine wp_append hF (by rw [List.length_map]; show fo.length < _; have : fo.length ≤ _ := hl; omega) ?_
              wtm_at "r"
              refine go_turn rfl ⟨st1, fo ++ [(A'.length : Int) + st1], ?_, ?_, rfl, ex_mut e hq, ?_⟩
              · rw [step, if_pos ⟨hne, hb⟩]
              · have : fo.length ≤ _ := hl
                rw [List.length_append, List.length_singleton]
                omega
              · rw [upd_same]
                exact congrArg (fun z => some (HO.lst z)) (il_snoc fo _)
            · have hb : cmn A' B' c = true := by simpa using hb
              wtm_at "r"
              apply go_turn rfl
              refine ⟨here, fo, ?_, ?_, rfl, e, hF⟩
              · rw [step, if_neg fun z => by rw [hb] at z; cases z.2]
              · have : fo.length ≤ _ := hl
                omega
          · have heq : st1 = here := by simpa using heq
            refine bF rfl ?_
            refine go_turn rfl ⟨here, fo, ?_, ?_, rfl, e, hF⟩
            · rw [step, if_neg fun z => z.1 heq]
            · have : fo.length ≤ _ := hl
              omega
        · rintro σ F1 ⟨h2, fo2, es, el, rfl, e1, q1⟩
          wtm_at "r"
          refine wp_bmL ?_
          wtm_at "r"
          refine ⟨q, _, rfl, SqL.of q1, ?_⟩
          wtm_at "r"
          refine wp_append q1 (by rw [List.length_map]; omega) ?_
          wtm_at "r"
          refine go_turn rfl ⟨some (.int c), ?_, ex_mut e1 hq, ?_⟩
          · rw [es]
          · rw [es, upd_same]
            exact congrArg (fun z => some (HO.lst z)) (il_snoc fo2 _)
    · rintro σ F ⟨y0, rfl, e, hF⟩
      rw [List.length_map, List.take_length, tfo_trim] at hF
      wtm_at "r"
      exact k.out e hq hF
end
/-! ### what the writer computes -/
def codeOf (A B : List Nat) (st : Int) (t : Nat) : Option Int := if t ∈ rowS A B st then some (((rowS A B st).idxOf t : Nat) : Int) else none
def pickF : Option (List Int) → Option (List Int) → Bool
  | none, _ => true
  | some _, none => false
  | some a, some b => lenLt b a
/-- the shorter, the lesser of two as short -/
def shF (a b : Option (List Int)) : Option (List Int) := if pickF a b = true then b else a
def ahF (cs : List Int) (r : Option (List Int)) : Option (List Int) := r.map fun l => cs ++ l
def sgF (A B : List Nat) (most : Int) (t : Nat) (rest : Int → Option Int → Option (List Int)) (st : Int) (op : Option Int) : Option (List Int) :=
  match codeOf A B st t with
  | none => none
  | some c => match op with
    | none => ahF [c] (rest st none)
    | some k => if cmn A B c = true then ahF [c] (rest st (some k)) else if most < k + 1 then none else ahF [c] (rest st (some (k + 1)))
def reF (A B : List Nat) (most : Int) : List Nat → Int → Option Int → Option (List Int)
  | [], _, _ => some []
  | t :: r, st, op =>
    shF (let b := shF (sgF A B most t (reF A B most r) st op) (ahF [(A.length : Int) + 1 - st] (sgF A B most t (reF A B most r) (1 - st) (some 0)))
      if op = none then b else shF b (ahF [(A.length : Int) + st] (sgF A B most t (reF A B most r) st none)))
      (ahF [(A.length : Int) + 1 - st, (A.length : Int) + 1 - st] (sgF A B most t (reF A B most r) (1 - st) none))
def LenLe (m : Nat) (r : Option (List Int)) : Prop := ∀ l, r = some l → l.length ≤ m
theorem shF_le {m : Nat} {a b : Option (List Int)} (ha : LenLe m a) (hb : LenLe m b) : LenLe m (shF a b) := by
  unfold shF
  split
  · exact hb
  · exact ha
theorem ahF_le {m : Nat} {cs : List Int} {r : Option (List Int)} (h : LenLe m r) : LenLe (m + cs.length) (ahF cs r) := fun l e => by
  unfold ahF at e
  obtain ⟨x, h1, rfl⟩ := Option.map_eq_some_iff.mp e
  have := h x h1
  rw [List.length_append]
  omega
theorem LenLe.mono {m n : Nat} {r : Option (List Int)} (h : LenLe m r) (hn : m ≤ n) : LenLe n r := fun l e => Nat.le_trans (h l e) hn
theorem sgF_le {A B : List Nat} {most : Int} {t : Nat} {rest : Int → Option Int → Option (List Int)} {m : Nat} (h : ∀ st op, LenLe m (rest st op)) (st : Int) (op : Option Int) : LenLe (m + 1) (sgF A B most t rest st op) := by
  unfold sgF
  cases codeOf A B st t with
  | none => intro l e; cases e
  | some c =>
    cases op with
    | none => exact ahF_le (cs := [c]) (h _ _)
    | some k =>
      show LenLe _ (if _ then _ else _)
      split
      · exact ahF_le (cs := [c]) (h _ _)
      · split
        · intro l e; cases e
        · exact ahF_le (cs := [c]) (h _ _)
theorem reF_le (A B : List Nat) (most : Int) : ∀ (l : List Nat) (st : Int) (op : Option Int), LenLe (3 * l.length) (reF A B most l st op)
  | [], st, op => fun l e => by
    have e : some [] = some l := e
    cases e
    exact Nat.le_refl _
  | t :: r, st, op => by
    have ih := reF_le A B most r
    have s1 := fun st op => sgF_le (A := A) (B := B) (most := most) (t := t) ih st op
    unfold reF
    rw [List.length_cons]
    refine shF_le ?_ ((ahF_le (s1 _ _)).mono (by simp only [List.length_cons, List.length_nil]; omega))
    show LenLe _ (if op = none then _ else _)
    have b2 : LenLe (3 * (r.length + 1)) (shF (sgF A B most t (reF A B most r) st op) (ahF [(A.length : Int) + 1 - st] (sgF A B most t (reF A B most r) (1 - st) (some 0)))) := shF_le ((s1 _ _).mono (by omega)) ((ahF_le (s1 _ _)).mono (by simp only [List.length_cons, List.length_nil]; omega))
    split
    · exact b2
    · exact shF_le b2 ((ahF_le (s1 _ _)).mono (by simp only [List.length_cons, List.length_nil]; omega))
/-- the text's signs stand in some set -/
def InSets (A B : List Nat) (l : List Nat) : Prop := ∀ t ∈ l, t ∈ A ∨ t ∈ B
theorem codeOf_some {A B : List Nat} {st : Int} {t : Nat} (h : t ∈ rowS A B st) : codeOf A B st t = some (((rowS A B st).idxOf t : Nat) : Int) := by
  unfold codeOf
  rw [if_pos h]
theorem codeOf_lt {A B : List Nat} (hB : B.length = A.length) {st : Int} {t : Nat} {c : Int} (h : codeOf A B st t = some c) : 0 ≤ c ∧ c < (A.length : Int) ∧ sgn A B st c = t := by
  unfold codeOf at h
  split at h
  · rename_i hm
    cases h
    have h2 := List.idxOf_lt_length_iff.mpr hm
    have h3 := row_len (A := A) (B := B) hB st
    refine ⟨by omega, by omega, ?_⟩
    unfold sgn
    rw [Int.toNat_natCast, List.getD_eq_getElem?_getD, List.getElem?_eq_getElem h2, List.getElem_idxOf]
    rfl
  · cases h
theorem shF_some_r {a b : Option (List Int)} (h : b.isSome = true) : (shF a b).isSome = true := by
  unfold shF
  split
  · exact h
  · rename_i h2
    cases a with
    | none => exact absurd rfl h2
    | some x => rfl
theorem shF_some_l {a b : Option (List Int)} (h : a.isSome = true) : (shF a b).isSome = true := by
  unfold shF
  split
  · rename_i h2
    cases a with
    | none => cases h
    | some x =>
      cases b with
      | none => cases h2
      | some y => rfl
  · exact h
theorem ahF_some {cs : List Int} {r : Option (List Int)} (h : r.isSome = true) : (ahF cs r).isSome = true := by
  unfold ahF
  rw [Option.isSome_map]
  exact h
theorem reF_some {A B : List Nat} {most : Int} : ∀ {l : List Nat} {st : Int} {op : Option Int}, InSets A B l → StOk st → (reF A B most l st op).isSome = true
  | [], _, _, _, _ => rfl
  | t :: r, st, op, h, hs => by
    have ih : ∀ {st : Int} {op : Option Int}, StOk st → (reF A B most r st op).isSome = true := fun hs => reF_some (fun x hx => h x (List.mem_cons_of_mem _ hx)) hs
    have sg : ∀ st, StOk st → t ∈ rowS A B st → (sgF A B most t (reF A B most r) st none).isSome = true := fun st hs hm => by
      unfold sgF
      rw [codeOf_some hm]
      exact ahF_some (ih hs)
    unfold reF
    have hs2 : StOk (1 - st) := by unfold StOk at hs ⊢; omega
    have two : t ∈ rowS A B st ∨ t ∈ rowS A B (1 - st) := by
      rcases h t List.mem_cons_self with h | h
      · rcases hs with e | e
        · left; rw [e]; exact h
        · right; rw [e]; exact h
      · rcases hs with e | e
        · right; rw [e]; exact h
        · left; rw [e]; exact h
    rcases two with hm | hm
    · refine shF_some_l ?_
      show (if op = none then _ else _ : Option (List Int)).isSome = true
      by_cases e : op = none
      · rw [if_pos e]
        refine shF_some_l ?_
        rw [e]
        exact sg st hs hm
      · rw [if_neg e]
        exact shF_some_r (ahF_some (sg st hs hm))
    · exact shF_some_r (ahF_some (sg _ hs2 hm))
section
variable {P : Program} {w : World} {K : PySem.W.Frag} {mg : Str → Option Value} {base : Heap}
abbrev s_q_text : Stmt := topS 44
abbrev n_q_text : List Str := ["_law_d", "_law_sets_here", "_law_most", "_law_found", "_law_row", "_law_k"]
theorem sc_q_text : FnScope n_q_text ["_law_d", "_law_sets_here", "_law_most"] (defScope s_q_text) := ⟨rfl, rfl, rfl, by decide +kernel, rfl, by decide +kernel, by decide +kernel⟩

def sp_text (K : PySem.W.Frag) : Sp := fun vs H Q _ => ∃ (d s : Addr) (A B : List Nat) (most : Nat), vs = [.ref d, .ref s, .int (most : Int)] ∧ Dc H d ∧ SetsAt K (rm H d) s A B ∧ Good A B ∧ most ≤ 1000 ∧
  ∀ (T : List Nat) (H1 : Hp), InSets A B T → T.length ≤ most → Ex (rm H d) H1 → Dc H1 d → Q (.str (tx T)) H1
theorem wp_text {d s : Addr} {F : Hp} {Pq : V → Hp → Prop} {A B : List Nat} {most : Nat} {E : XK} (h : SetsAt K F s A B) (g : Good A B) (hm : most ≤ 1000) (q : ∀ T : List Nat, InSets A B T → T.length ≤ most → Pq (.str (tx T)) F) :
    Wp (some d) (fun H Q => sp_text K ([.ref d, .ref s, .int (most : Int)] ++ []) H Q E) F Pq := fun H w Q k =>
  ⟨d, s, A, B, most, rfl, (w.dc d rfl).2, ex_t (ex_to_rm w.ex (w.dc d rfl).1) h, g, hm, fun T H1 h1 h2 e hu => k _ _ F ⟨(ex_to_rm w.ex (w.dc d rfl).1).trans e, fun b z => by cases z; exact ⟨(w.dc d rfl).1, hu⟩⟩ (q T h1 h2)⟩
theorem row_in {A B : List Nat} {st : Int} {t : Nat} (h : t ∈ rowS A B st) : t ∈ A ∨ t ∈ B := by
  unfold rowS at h
  split at h
  · exact .inl h
  · exact .inr h
theorem pm_text (D : DefAt K mg "_law_text" s_q_text) (B : Bl mg) (g_q_off : Pm P w K mg base CX0 1 "_law_off" ["_law_d", "_law_most"] sp_off) : Pm P w K mg base CX0 2 "_law_text" ["_law_d", "_law_sets_here", "_law_most"] (sp_text K) := by
  obtain ⟨f, fd, F, hm⟩ := D
  refine ⟨f, fd, ?_, hm, F.kp, F.binds fun _ _ _ _ _ _ us hl => match us, hl with | [_, _, _], _ => rfl⟩
  refine F.ok sc_q_text (fun vs H Q E h => ?_) (fun cdv A outer s H vs Q E hr h => ?_)
  · obtain ⟨_, _, _, _, _, rfl, _⟩ := h
    rfl
  · obtain ⟨d, s, A', B', most, rfl, hd, hS, g, hm, k⟩ := h
    have n1 := g.n1
    have n10 := g.n10
    have ge := g.eq
    refine ⟨_, (pss_cons (ps_set (i := 3) sc_q_text.nd rfl (Or.inl rfl) (pe_strT (l := []) (by decide +kernel)))
 (pss_cons (ps_set (i := 4) sc_q_text.nd rfl (Or.inl rfl) (pe_ix (ixK K rfl) (pv 1) pe_int (fun _ _ => rfl)))
 (pss_cons (ps_for PassesOwn.never rfl (pi_range1 (by rfl) B.range (pa_cons (pe_pm g_q_off (hr.mono (by decide)) pass0 (pa_cons (pv 0) (pa_cons (pe_op op_addP (pv 2) pe_int) pa_nil))) pa_nil)) (pg_name (i := 5) sc_q_text.nd rfl (Or.inl rfl))
 (Evl.pss_cut (ps_if (pt_cmpR (eqK K rfl hr.units) (pe_pm g_q_off (hr.mono (by decide)) pass0 (pa_cons (pv 0) (pa_cons pe_int pa_nil))) pe_int (nomark _))
 (pss_cons (ps_set (i := 4) sc_q_text.nd rfl (Or.inl rfl) (pe_ix (ixK K rfl) (pv 1) (pe_pm g_q_off (hr.mono (by decide)) pass0 (pa_cons (pv 0) (pa_cons pe_int pa_nil))) (fun _ _ => rfl)))
 pss_nil)
 pss_nil)
 (pss_cons (ps_set (i := 3) sc_q_text.nd rfl (Or.inl rfl) (pe_op op_addP (pv 3) (pe_ix (ixK K rfl) (pv 4) (pe_pm g_q_off (hr.mono (by decide)) pass0 (pa_cons (pv 0) (pa_cons (pe_callB (lenK K rfl) (by rfl) B.len PySem.boot_len (pa_cons (pv 4) pa_nil)) pa_nil))) (fun _ _ => rfl))))
 pss_nil)))
 (pss_cons (ps_ret (pv 3))
 pss_nil)))), ?_⟩
    refine go_stD (σ := [some (.ref d), some (.ref s), some (.int (most : Int)), none, none, none]) hd rfl ?_
    wtm_at "r"
    refine go_forR (fun i σ F => ∃ (T : List Nat) (st : Int) (x : Option V), σ = [some (.ref d), some (.ref s), some (.int (most : Int)), some (.str (tx T)), some (.str (tx (rowS A' B' st))), x] ∧ Ex (rm H d) F ∧ InSets A' B' T ∧ T.length ≤ i) ?_
    wtm_at "r"
    refine wp_off (by omega) (by omega) fun n hn => ?_
    wtm_at "r"
    refine ⟨n, rfl, by omega, ⟨[], 0, none, rfl, exr _, (fun c h => by cases h), Nat.le_refl _⟩, ?_, ?_⟩
    · rintro i σ F hi ⟨T, st, x, rfl, e, hT, hl⟩
      have hS2 := ex_t e hS
      refine go_cut (fun σ F => ∃ st2 : Int, σ = [some (.ref d), some (.ref s), some (.int (most : Int)), some (.str (tx T)), some (.str (tx (rowS A' B' st2))), some (.int (i : Int))] ∧ Ex (rm H d) F) ?_ ?_
      · wtm_at "r"
        refine wp_off (by omega) (by omega) fun r1 _ => ?_
        wtm_at "r"
        refine ⟨fun _ => ?_, fun _ => ?_⟩
        · wtm_at "r"
          refine wp_off (by omega) (by omega) fun r2 h2 => ?_
          wtm_at "r"
          have h3 : StOk (r2 : Int) := by unfold StOk; omega
          refine wp_ixT hS2 (at_row h3) ?_
          wtm_at "r"
          exact go_turn rfl ⟨(r2 : Int), rfl, e⟩
        · exact go_turn rfl ⟨st, rfl, e⟩
      · rintro σ F ⟨st2, rfl, e⟩
        have rl := row_len (A := A') (B := B') g.eq st2
        wtm_at "r"
        refine wp_off (by omega) (by omega) fun c hc => ?_
        wtm_at "r"
        have hc2 : c < (rowS A' B' st2).length := by omega
        refine wp_ixS (by omega) (atI_nat (List.getElem?_eq_getElem hc2)) ?_
        refine wp_addS (j := [(rowS A' B' st2)[c]]) (by simp only [List.length_singleton]; omega) ?_
        wtm_at "r"
        refine go_turn rfl ⟨T ++ [(rowS A' B' st2)[c]], st2, _, rfl, e, fun t ht => ?_, by rw [List.length_append, List.length_singleton]; omega⟩
        rcases List.mem_append.mp ht with h | h
        · exact hT t h
        · rw [List.mem_singleton.mp h]
          exact row_in (List.getElem_mem hc2)
    · rintro σ F ⟨T, st, x, rfl, e, hT, hl⟩
      wtm_at "r"
      intro H1 w1
      exact k T H1 hT (by omega) (e.trans w1.ex) (w1.dc d rfl).2
end
/-- a result: a list, or None -/
def RsAt (H : Hp) (v : V) (r : Option (List Int)) : Prop := match r with
  | none => v = .non
  | some l => ∃ p, v = .ref p ∧ H p = some (.lst (il l))
/-- .. a list that H0 does not hold -/
def RsNew (H0 H : Hp) (v : V) (r : Option (List Int)) : Prop := match r with
  | none => v = .non
  | some l => ∃ p, v = .ref p ∧ H0 p = none ∧ H p = some (.lst (il l))
theorem RsNew.at {H0 H : Hp} {v : V} {r : Option (List Int)} (h : RsNew H0 H v r) : RsAt H v r := by
  cases r with
  | none => exact h
  | some l =>
    obtain ⟨p, e, _, h⟩ := h
    exact ⟨p, e, h⟩
theorem RsAt.up {H H1 : Hp} {v : V} {r : Option (List Int)} (e : Ex H H1) (h : RsAt H v r) : RsAt H1 v r := by
  cases r with
  | none => exact h
  | some l =>
    obtain ⟨p, e1, h⟩ := h
    exact ⟨p, e1, e _ _ h⟩
theorem RsNew.up {H0 H H1 : Hp} {v : V} {r : Option (List Int)} (e : Ex H H1) (h : RsNew H0 H v r) : RsNew H0 H1 v r := by
  cases r with
  | none => exact h
  | some l =>
    obtain ⟨p, e1, e2, h⟩ := h
    exact ⟨p, e1, e2, e _ _ h⟩
theorem RsNew.down {H0 H00 H : Hp} {v : V} {r : Option (List Int)} (e : Ex H00 H0) (h : RsNew H0 H v r) : RsNew H00 H v r := by
  cases r with
  | none => exact h
  | some l =>
    obtain ⟨p, e1, e2, h⟩ := h
    exact ⟨p, e1, e.free e2, h⟩
theorem RsNew.pick {H0 H : Hp} {x y : V} {a b : Option (List Int)} (hx : RsNew H0 H x a) (hy : RsNew H0 H y b) : RsNew H0 H (if pickF a b = true then y else x) (shF a b) := by
  unfold shF
  split
  · exact hy
  · exact hx
def cV : Option Int → V
  | none => .non
  | some c => .int c
section
variable {P : Program} {w : World} {K : PySem.W.Frag} {mg : Str → Option Value} {base : Heap}
abbrev s_shorter : Stmt := topS 29
abbrev n_shorter : List Str := ["one", "other"]
theorem sc_shorter : FnScope n_shorter ["one", "other"] (defScope s_shorter) := ⟨rfl, rfl, rfl, by decide +kernel, rfl, by decide +kernel, by decide +kernel⟩

def sp_shorter : Sp := fun vs H Q _ => ∃ (x y : V) (a b : Option (List Int)), vs = [x, y] ∧ RsAt H x a ∧ RsAt H y b ∧ RetV (if pickF a b = true then y else x) H Q
theorem wp_shorter {o : Option Addr} {F : Hp} {Pq : V → Hp → Prop} {x y : V} {a b : Option (List Int)} {E : XK} (hx : RsAt F x a) (hy : RsAt F y b) (q : Pq (if pickF a b = true then y else x) F) : Wp o (fun H Q => sp_shorter ([x, y] ++ []) H Q E) F Pq :=
  fun H w Q k => ⟨x, y, a, b, rfl, hx.up w.ex, hy.up w.ex, RetV.use w q k⟩
theorem wp_leD {o : Option Addr} {F : Hp} {Pq : V → Hp → Prop} {x y : Addr} {p q : Addr} {a b : List Int} (h1 : F x = some (.tup [.int a.length, .ref p])) (h2 : F p = some (.lst (il a))) (h3 : F y = some (.tup [.int b.length, .ref q])) (h4 : F q = some (.lst (il b)))
    (k : Pq (.bl (!lenLt b a)) F) : Wp o (rLeD K (.ref x) (.ref y)) F Pq := fun H w Q kk =>
  ⟨.tuple [.int a.length, .list (dI a)], .tuple [.int b.length, .list (dI b)], Dp.up w.ex (.tup (SqT.of h1) (.cons (.int _) (.cons (dp_I (SqL.of h2)) .nil))), Dp.up w.ex (.tup (SqT.of h3) (.cons (.int _) (.cons (dp_I (SqL.of h4)) .nil))),
    (by
      show (true && (PySem.W.alikeAll (dI a) (dI b) && true)) = true
      rw [alike_I]
      rfl), (fun z => by cases z), (by
      refine Nat.le_trans (Nat.min_le_left _ _) ?_
      show PyData.depthAll [.int a.length, .list (dI a)] + 1 ≤ 60
      have h0 : PyData.depthAll (dI a) ≤ 0 := depth_all fun d hd => by
        obtain ⟨c, _, rfl⟩ := List.mem_map.mp hd; exact Nat.le_refl _
      have : PyData.depthAll [.int a.length, .list (dI a)] ≤ 1 := depth_all fun d hd => by
        simp only [List.mem_cons, List.not_mem_nil, or_false] at hd
        rcases hd with rfl | rfl
        · exact Nat.zero_le _
        · show PyData.depthAll (dI a) + 1 ≤ 1
          omega
      omega), by rw [lt_LI]; exact kk _ H F w k⟩
theorem pm_shorter (D : DefAt K mg "shorter" s_shorter) (B : Bl mg) : Pm P w K mg base CX0 1 "shorter" ["one", "other"] sp_shorter := by
  obtain ⟨f, fd, F, hm⟩ := D
  refine ⟨f, fd, ?_, hm, F.kp, F.binds fun _ _ _ _ _ _ us hl => match us, hl with | [_, _], _ => rfl⟩
  refine F.ok sc_shorter (fun vs H Q E h => ?_) (fun cdv A outer s H vs Q E hr h => ?_)
  · obtain ⟨_, _, _, _, rfl, _⟩ := h
    rfl
  · obtain ⟨x, y, a, b, rfl, hx, hy, k⟩ := h
    refine ⟨_, (pss_cons (ps_if (PW.pt (pw_or (pt_cmpR op_isNs (pv 0) pe_non (nomark _)) (pw_or1 (pt_cmpR op_isNs (pv 1) pe_non (nomark _)))))
 (pss_cons (ps_ret (pe_ifExp (pt_cmpR op_isNs (pv 1) pe_non (nomark _)) (pv 0) (pv 1)))
 pss_nil)
 pss_nil)
 (pss_cons (ps_ret (pe_ifExp (pt_cmpR (leDK K rfl hr.units) (pe_tup (pa_cons (pe_callB (lenK K rfl) (by rfl) B.len PySem.boot_len (pa_cons (pv 0) pa_nil)) (pa_cons (pv 0) pa_nil))) (pe_tup (pa_cons (pe_callB (lenK K rfl) (by rfl) B.len PySem.boot_len (pa_cons (pv 1) pa_nil)) (pa_cons (pv 1) pa_nil))) (nomark _)) (pv 0) (pv 1)))
 pss_nil)), ?_⟩
    refine go_st (σ := [some (x), some (y)]) rfl ?_
    cases a with
    | none =>
      have hx : x = .non := hx
      subst hx
      wtm_at "r"
      refine bT rfl ?_
      wtm_at "r"
      refine bT rfl ?_
      wtm_at "r"
      refine ⟨fun h => ?_, fun h => ?_⟩
      · have h : y = .non := of_decide_eq_true h
        wtm_at "r"
        have k2 := k.out (o := none) (exr H)
        rw [h] at k2
        exact k2
      · wtm_at "r"
        exact k.out (exr H)
    | some l1 =>
      obtain ⟨p, rfl, hp⟩ := hx
      cases b with
      | none =>
        have hy : y = .non := hy
        subst hy
        wtm_at "r"
        refine bF rfl ?_
        wtm_at "r"
        refine bT rfl ?_
        wtm_at "r"
        refine bT rfl ?_
        wtm_at "r"
        exact k.out (exr H)
      | some l2 =>
        obtain ⟨q, rfl, hq⟩ := hy
        wtm_at "r"
        refine bF rfl ?_
        wtm_at "r"
        refine bF rfl ?_
        wtm_at "r"
        try (refine wp_lenL (SqL.of hp) ?_)
        wtm_at "r"
        refine ⟨(by show 2 ≤ 100000; decide), ?_⟩
        wtm_at "gz"
        intro t1 ht1 F1 q1 e1
        wtm_at "r"
        try (refine wp_lenL (SqL.of (e1 _ _ hq)) ?_)
        wtm_at "r"
        refine ⟨(by show 2 ≤ 100000; decide), ?_⟩
        wtm_at "gz"
        intro t2 ht2 F2 q2 e2
        rw [List.length_map] at q1 q2
        refine wp_leD (e2 _ _ q1) (e2 _ _ (e1 _ _ hp)) q2 (e2 _ _ (e1 _ _ hq)) ?_
        wtm_at "r"
        refine ⟨fun h => ?_, fun h => ?_⟩
        · wtm_at "r"
          have h : lenLt l2 l1 = false := by simpa using h
          have k2 := k.out (o := none) (e1.trans e2)
          rw [show pickF (some l1) (some l2) = lenLt l2 l1 from rfl, h] at k2
          exact k2
        · wtm_at "r"
          have h : lenLt l2 l1 = true := by simpa using h
          have k2 := k.out (o := none) (e1.trans e2)
          rw [show pickF (some l1) (some l2) = lenLt l2 l1 from rfl, h] at k2
          exact k2
abbrev s_codes_of : Stmt := topS 17
abbrev n_codes_of : List Str := ["sets", "sign", "row"]
theorem sc_codes_of : FnScope n_codes_of ["sets", "sign"] (defScope s_codes_of) := ⟨rfl, rfl, rfl, by decide +kernel, rfl, by decide +kernel, by decide +kernel⟩

def sp_codes_of (K : PySem.W.Frag) : Sp := fun vs H Q _ => ∃ (s : Addr) (A B : List Nat) (t : Nat), vs = [.ref s, sg t] ∧ SetsAt K H s A B ∧ A.length ≤ 100 ∧ B.length ≤ 100 ∧ RetN (.lst [cV (codeOf A B 0 t), cV (codeOf A B 1 t)]) H Q
theorem wp_codes_of {o : Option Addr} {F : Hp} {Pq : V → Hp → Prop} {s : Addr} {A B : List Nat} {t : Nat} {E : XK} (hS : SetsAt K F s A B) (n1 : A.length ≤ 100) (n2 : B.length ≤ 100) (q : ∀ p, F p = none → Pq (.ref p) (upd F p (.lst [cV (codeOf A B 0 t), cV (codeOf A B 1 t)]))) :
    Wp o (fun H Q => sp_codes_of K ([.ref s, sg t] ++ []) H Q E) F Pq := fun H w Q k => ⟨s, A, B, t, rfl, w.t hS, n1, n2, RetN.use w q k⟩
theorem pm_codes_of (D : DefAt K mg "codes_of" s_codes_of) (B : Bl mg) : Pm P w K mg base CX0 1 "codes_of" ["sets", "sign"] (sp_codes_of K) := by
  obtain ⟨f, fd, F, hm⟩ := D
  refine ⟨f, fd, ?_, hm, F.kp, F.binds fun _ _ _ _ _ _ us hl => match us, hl with | [_, _], _ => rfl⟩
  refine F.ok sc_codes_of (fun vs H Q E h => ?_) (fun cdv A outer s H vs Q E hr h => ?_)
  · obtain ⟨_, _, _, _, rfl, _⟩ := h
    rfl
  · obtain ⟨s, A', B', t, rfl, hS, n1, n2, k⟩ := h
    refine ⟨_, (pss_cons (ps_ret (pe_lc (own := [("row", 2)]) (g := gName 2) (tt := tYes) rfl sc_codes_of.nd (piT K rfl (pv 0)) (blkOk_by (N := n_codes_of) (sc := defScope s_codes_of) (by decide +kernel)) (fun _ _ _ _ _ => pg_name (i := 2) sc_codes_of.nd rfl (Or.inl rfl)) (fun _ _ _ _ _ => pts_nil) (fun _ _ _ _ _ => (pe_ifExp (pt_cmpR (inK K rfl) (pv 1) (pv 2) (by rfl)) (bmK K rfl PySem.F.plainAttrs_str PySem.F.slot_str_index PySem.F.type_str_index mt_indexS (pv 2) (pa_cons (pv 1) pa_nil)) pe_non))))
 pss_nil), ?_⟩
    refine go_st (σ := [some (.ref s), some (sg t), none]) rfl ?_
    wtm_at "r"
    refine wp_lcT (fun _ => rfl) ?_
    wtm_at "r"
    refine ⟨s, _, rfl, hS, fun Dl hD => ⟨fun i acc F => acc = [cV (codeOf A' B' 0 t), cV (codeOf A' B' 1 t)].take i ∧ Ex H F, ⟨rfl, ex_new hD⟩, fun i acc F ⟨_, e⟩ => ex_t e hS, ?_, ?_⟩⟩
    · rintro i x acc F hx q2 ⟨rfl, e⟩
      have hi : i < 2 := (List.getElem?_eq_some_iff.mp hx).1
      obtain ⟨l, st, rfl, hl, hrow, hn⟩ : ∃ (l : List Nat) (st : Int), x = .str (tx l) ∧ l.length ≤ 100 ∧ rowS A' B' st = l ∧ [cV (codeOf A' B' 0 t), cV (codeOf A' B' 1 t)].take (i + 1) = [cV (codeOf A' B' 0 t), cV (codeOf A' B' 1 t)].take i ++ [cV (codeOf A' B' st t)] := by
        match i, hi, hx with
        | 0, _, hx => cases hx; exact ⟨A', 0, rfl, n1, rfl, rfl⟩
        | 1, _, hx => cases hx; exact ⟨B', 1, rfl, n2, rfl, rfl⟩
      show Wp _ _ _ _
      wtm_at "r"
      refine ⟨fun _ => ?_, fun z => (by cases z)⟩
      wtm_at "r"
      have hlt : ([cV (codeOf A' B' 0 t), cV (codeOf A' B' 1 t)].take i).length < 100000 := by rw [List.length_take]; show min i 2 < _; omega
      refine ⟨fun hm => ?_, fun hm => ?_⟩
      · have hm : t ∈ l := of_decide_eq_true hm
        wtm_at "r"
        refine wp_bmS ?_
        wtm_at "r"
        refine wp_indexS hm ?_
        refine ⟨q2, hlt, ?_, ex_mut e hD⟩
        have ec : codeOf A' B' st t = some ((l.idxOf t : Nat) : Int) := by
          rw [codeOf_some (by rw [hrow]; exact hm), hrow]
        rw [hn, ec]
        rfl
      · have hm : t ∉ l := of_decide_eq_false hm
        wtm_at "r"
        refine ⟨q2, hlt, ?_, ex_mut e hD⟩
        have ec : codeOf A' B' st t = none := by
          unfold codeOf
          rw [if_neg (by rw [hrow]; exact hm)]
        rw [hn, ec]
        rfl
    · rintro acc F q2 ⟨rfl, e⟩
      exact k.out e hD q2
abbrev s_need_text : Stmt := topS 18
abbrev n_need_text : List Str := ["sets", "text", "at", "sign"]
theorem sc_need_text : FnScope n_need_text ["sets", "text"] (defScope s_need_text) := ⟨rfl, rfl, rfl, by decide +kernel, rfl, by decide +kernel, by decide +kernel⟩

def sp_need_text (K : PySem.W.Frag) : Sp := fun vs H Q _ => ∃ (s : Addr) (A B l : List Nat), vs = [.ref s, .str (tx l)] ∧ SetsAt K H s A B ∧ A.length ≤ 100 ∧ B.length ≤ 100 ∧ InSets A B l ∧ RetV .non H Q
theorem wp_need_text {o : Option Addr} {F : Hp} {Pq : V → Hp → Prop} {s : Addr} {A B l : List Nat} {E : XK} (hS : SetsAt K F s A B) (n1 : A.length ≤ 100) (n2 : B.length ≤ 100) (hl : InSets A B l) (q : Pq .non F) : Wp o (fun H Q => sp_need_text K ([.ref s, .str (tx l)] ++ []) H Q E) F Pq :=
  fun H w Q k => ⟨s, A, B, l, rfl, w.t hS, n1, n2, hl, RetV.use w q k⟩
theorem dp_cV {F : Hp} (c : Option Int) : Dp K F (cV c) (match c with | none => .none | some c => .int c) := by
  cases c with
  | none => exact .non
  | some c => exact .int c
theorem pm_need_text (D : DefAt K mg "need_text" s_need_text) (B : Bl mg) (g_codes_of : Pm P w K mg base CX0 1 "codes_of" ["sets", "sign"] (sp_codes_of K)) : Pm P w K mg base CX0 2 "need_text" ["sets", "text"] (sp_need_text K) := by
  obtain ⟨f, fd, F, hm⟩ := D
  refine ⟨f, fd, ?_, hm, F.kp, F.binds fun _ _ _ _ _ _ us hl => match us, hl with | [_, _], _ => rfl⟩
  refine F.ok sc_need_text (fun vs H Q E h => ?_) (fun cdv A outer s H vs Q E hr h => ?_)
  · obtain ⟨_, _, _, _, rfl, _⟩ := h
    rfl
  · obtain ⟨s, A', B', l, rfl, hS, n1, n2, hl, k⟩ := h
    refine ⟨_, (pss_cons (ps_for PassesOwn.never rfl (pi_enumS B.enumerate (pa_cons (pv 1) pa_nil)) (pgT K rfl (n := 2) rfl (pgs_cons (pg_name (i := 2) sc_need_text.nd rfl (Or.inl rfl)) (pgs_cons (pg_name (i := 3) sc_need_text.nd rfl (Or.inl rfl)) pgs_nil)))
 (pss_cons (ps_if (pt_cmpR (eqK K rfl hr.units) (pe_pm g_codes_of (hr.mono (by decide)) pass0 (pa_cons (pv 0) (pa_cons (pv 3) pa_nil))) (pe_lst (pa_cons pe_non (pa_cons pe_non pa_nil))) (nomark _))
 (pss_cons ps_never
 pss_nil)
 pss_nil)
 pss_nil))
 pss_nil), ?_⟩
    refine go_st (σ := [some (.ref s), some (.str (tx l)), none, none]) rfl ?_
    refine go_forES (fun i σ F => ∃ x y, σ = [some (.ref s), some (.str (tx l)), x, y] ∧ Ex H F) ?_
    wtm_at "r"
    refine ⟨l, rfl, ⟨_, _, rfl, exr H⟩, ?_, ?_⟩
    · rintro i c σ F p hc hp ⟨x, y, rfl, e⟩
      have hmem := List.mem_of_getElem? hc
      wtm_at "r"
      try (refine wp_gTup (SqT.of upd_same) rfl ?_)
      wtm_at "r"
      have e1 := e.trans (ex_new (u := .tup [.int (i : Nat), sg c]) hp)
      refine wp_codes_of (ex_t e1 hS) n1 n2 ?_
      wtm_at "gz"
      intro p1 hp1 F1 q1 e2
      wtm_at "r"
      refine ⟨(by show 2 ≤ 100000; decide), ?_⟩
      wtm_at "gz"
      intro p2 hp2 F2 q2 e3
      refine wp_eqD (.lst (SqL.of (e3 _ _ q1)) (.cons (dp_cV _) (.cons (dp_cV _) .nil))) (.lst (SqL.of q2) (.cons .non (.cons .non .nil))) ?_ rfl ?_
      · cases codeOf A' B' 0 c <;> cases codeOf A' B' 1 c <;> rfl
      · wtm_at "r"
        refine bF ?_ ?_
        · rcases hl c hmem with h | h
          · have e0 : codeOf A' B' 0 c = some _ := codeOf_some (A := A') (B := B') (st := 0) h
            rw [e0]
            rfl
          · have e0 : codeOf A' B' 1 c = some _ := codeOf_some (A := A') (B := B') (st := 1) h
            rw [e0]
            cases codeOf A' B' 0 c <;> rfl
        · wtm_at "r"
          exact go_turn rfl ⟨_, _, rfl, e1.trans (e2.trans e3)⟩
    · rintro σ F ⟨x, y, rfl, e⟩
      exact k.out e
end
/-! ### the writer -/
def fsW (s : Addr) (T : List Nat) (m : Int) (d : Addr) : List (Str × V) := putF "known" (.ref d) (putF "most" (.int m) (putF "text" (.str (tx T)) (putF "sets" (.ref s) [])))
theorem putF_len (f : Str) (v : V) : ∀ fs : List (Str × V), (putF f v fs).length ≤ fs.length + 1
  | [] => Nat.le_refl _
  | (g, x) :: r => by
    unfold putF
    split
    · simp
    · have := putF_len f v r
      simp only [List.length_cons]
      omega
theorem lk_sets (s : Addr) (T : List Nat) (m : Int) (d : Addr) : (fsW s T m d).lookup ("sets" : Str) = some (.ref s) := by
  unfold fsW
  rw [lookup_putF, if_neg (by decide +kernel), lookup_putF, if_neg (by decide +kernel), lookup_putF, if_neg (by decide +kernel), lookup_putF, if_pos rfl]
theorem lk_text (s : Addr) (T : List Nat) (m : Int) (d : Addr) : (fsW s T m d).lookup ("text" : Str) = some (.str (tx T)) := by
  unfold fsW
  rw [lookup_putF, if_neg (by decide +kernel), lookup_putF, if_neg (by decide +kernel), lookup_putF, if_pos rfl]
theorem lk_most (s : Addr) (T : List Nat) (m : Int) (d : Addr) : (fsW s T m d).lookup ("most" : Str) = some (.int m) := by
  unfold fsW
  rw [lookup_putF, if_neg (by decide +kernel), lookup_putF, if_pos rfl]
theorem lk_known (s : Addr) (T : List Nat) (m : Int) (d : Addr) : (fsW s T m d).lookup ("known" : Str) = some (.ref d) := by
  unfold fsW
  rw [lookup_putF, if_pos rfl]
theorem lk_no (s : Addr) (T : List Nat) (m : Int) (d : Addr) {x : Str} (h1 : ¬ x = "known") (h2 : ¬ x = "most") (h3 : ¬ x = "text") (h4 : ¬ x = "sets") : (fsW s T m d).lookup x = none := by
  unfold fsW
  rw [lookup_putF, if_neg h1, lookup_putF, if_neg h2, lookup_putF, if_neg h3, lookup_putF, if_neg h4]
  rfl
structure WTxt (K : PySem.W.Frag) (C : Addr) : Prop where
  cl : Cls K C
  n1 : NoAttr K C "sets"
  n2 : NoAttr K C "text"
  n3 : NoAttr K C "most"
  n4 : NoAttr K C "known"
def opL : Option Int → Leaf
  | none => .none
  | some k => .num k
def keyL (i : Nat) (st : Int) (op : Option Int) : LKey := [.num (i : Int), .num st, opL op]
theorem keyL_V (i : Nat) (st : Int) (op : Option Int) : (keyL i st op).map lV = [.int (i : Int), .int st, cV op] := by
  cases op <;> rfl
def OpOk (most : Int) : Option Int → Prop
  | none => True
  | some k => 0 ≤ k ∧ k ≤ most
theorem keyL_inj {i j : Nat} {st st2 : Int} {op op2 : Option Int} (h : keyL i st op = keyL j st2 op2) : i = j ∧ st = st2 ∧ op = op2 := by
  unfold keyL at h
  obtain ⟨h1, h2⟩ := List.cons.inj h
  obtain ⟨h3, h4⟩ := List.cons.inj h2
  obtain ⟨h5, _⟩ := List.cons.inj h4
  injection h1 with h1
  injection h3 with h3
  refine ⟨by omega, h3, ?_⟩
  cases op <;> cases op2
  · rfl
  · cases h5
  · cases h5
  · injection h5 with h5
    rw [h5]
/-- a key's number -/
def encL : LKey → Nat
  | [.num i, .num st, .none] => i.toNat * 1000 + st.toNat * 500
  | [.num i, .num st, .num k] => i.toNat * 1000 + st.toNat * 500 + k.toNat + 1
  | _ => 0
theorem encL_lt {i : Nat} {st most : Int} {op : Option Int} (hi : i ≤ 60) (hs : StOk st) (hm : most ≤ 100) (ho : OpOk most op) : encL (keyL i st op) < 70000 := by
  unfold StOk at hs
  cases op with
  | none =>
    show (i : Int).toNat * 1000 + st.toNat * 500 < _
    omega
  | some k =>
    obtain ⟨h1, h2⟩ := ho
    show (i : Int).toNat * 1000 + st.toNat * 500 + k.toNat + 1 < _
    omega
theorem encL_inj {i j : Nat} {st st2 most : Int} {op op2 : Option Int} (hs : StOk st) (hs2 : StOk st2) (hm : most ≤ 100) (ho : OpOk most op) (ho2 : OpOk most op2) (h : encL (keyL i st op) = encL (keyL j st2 op2)) : keyL i st op = keyL j st2 op2 := by
  unfold StOk at hs hs2
  cases op with
  | none =>
    cases op2 with
    | none =>
      have h : (i : Int).toNat * 1000 + st.toNat * 500 = (j : Int).toNat * 1000 + st2.toNat * 500 := h
      rw [show i = j by omega, show st = st2 by omega]
    | some k2 =>
      obtain ⟨h1, h2⟩ := ho2
      have h : (i : Int).toNat * 1000 + st.toNat * 500 = (j : Int).toNat * 1000 + st2.toNat * 500 + k2.toNat + 1 := h
      omega
  | some k =>
    obtain ⟨h1, h2⟩ := ho
    cases op2 with
    | none =>
      have h : (i : Int).toNat * 1000 + st.toNat * 500 + k.toNat + 1 = (j : Int).toNat * 1000 + st2.toNat * 500 := h
      omega
    | some k2 =>
      obtain ⟨h3, h4⟩ := ho2
      have h : (i : Int).toNat * 1000 + st.toNat * 500 + k.toNat + 1 = (j : Int).toNat * 1000 + st2.toNat * 500 + k2.toNat + 1 := h
      rw [show i = j by omega, show st = st2 by omega, show k = k2 by omega]
/-- what is known is right -/
structure Kn (A B : List Nat) (most : Int) (T : List Nat) (H0 H : Hp) (xs : List (LKey × Addr × V)) : Prop where
  keys : LKeys H xs
  nd : (xs.map fun e => encL e.1).Nodup
  ok : ∀ e ∈ xs, ∃ (i : Nat) (st : Int) (op : Option Int), e.1 = keyL i st op ∧ i ≤ T.length ∧ StOk st ∧ OpOk most op ∧ RsNew H0 H e.2.2 (reF A B most (T.drop i) st op)
theorem Kn.up {A B : List Nat} {most : Int} {T : List Nat} {H0 H H1 : Hp} {xs : List (LKey × Addr × V)} (e : Ex H H1) (h : Kn A B most T H0 H xs) : Kn A B most T H0 H1 xs := ⟨h.keys.up e, h.nd, fun x hx => by
  obtain ⟨i, st, op, h1, h2, h3, h4, h5⟩ := h.ok x hx
  exact ⟨i, st, op, h1, h2, h3, h4, h5.up e⟩⟩
theorem Kn.len {A B : List Nat} {most : Int} {T : List Nat} {H0 H : Hp} {xs : List (LKey × Addr × V)} (h : Kn A B most T H0 H xs) (hT : T.length ≤ 60) (hm : most ≤ 100) : xs.length ≤ 70000 := by
  have h1 : (xs.map fun e => encL e.1).length ≤ (List.range 70000).length := nd_sub_len h.nd fun n hn => by
    obtain ⟨e, he, rfl⟩ := List.mem_map.mp hn
    obtain ⟨i, st, op, h1, h2, h3, h4, _⟩ := h.ok e he
    rw [List.mem_range, h1]
    exact encL_lt (by omega) h3 hm h4
  rw [List.length_map, List.length_range] at h1
  exact h1
theorem ex_rm_rm {F H : Hp} {d : Addr} (e : Ex F H) : Ex (rm F d) (rm H d) := fun b u q => by
  by_cases h : b = d
  · rw [h, rm_same] at q; cases q
  · rw [rm_ne h] at q ⊢; exact e _ _ q
theorem ex_rm_ne {H H1 : Hp} {d b : Addr} {u : HO} (e : Ex (rm H d) H1) (h : H b = some u) (n : b ≠ d) : H1 b = some u := e _ _ (by rw [rm_ne n]; exact h)
/-- the writer at work: H0 is what stood before it -/
structure Wr (P : Program) (w : World) (K : PySem.W.Frag) (C : Addr) (A B : List Nat) (most : Int) (T : List Nat) (H0 : Hp) (me s d dx : Addr) (H : Hp) (xs : List (LKey × Addr × V)) : Prop where
  e : Ex H0 H
  nd : H0 d = none
  obj : H me = some (.ins C dx (fsW s T most d))
  sets : SetsAt K H s A B
  dict : H d = some (LD P w d xs)
  kn : Kn A B most T H0 H xs
section
variable {P : Program} {w : World} {K : PySem.W.Frag} {C : Addr} {A B : List Nat} {most : Int} {T : List Nat} {H0 H H1 : Hp} {me s d dx : Addr} {xs ys : List (LKey × Addr × V)}
theorem Wr.up (h : Wr P w K C A B most T H0 me s d dx H xs) (e : Ex H H1) : Wr P w K C A B most T H0 me s d dx H1 xs := ⟨h.e.trans e, h.nd, e _ _ h.obj, ex_t e h.sets, e _ _ h.dict, h.kn.up e⟩
theorem sqT_rm {x : Addr} {vs : List V} (h : SqT K H x vs) (n : ∃ u, H d = some u ∧ ∀ vs o, u ≠ .tup vs ∧ u ≠ .frz o (.tup vs)) : SqT K (rm H d) x vs := by
  obtain ⟨u, hu, ne⟩ := n
  rcases h with (h | ⟨ob, h⟩) | h
  · refine .inl (.inl ?_)
    rw [rm_ne fun z => by rw [z, hu] at h; exact (ne vs default).1 (Option.some.inj h)]
    exact h
  · refine .inl (.inr ⟨ob, ?_⟩)
    rw [rm_ne fun z => by rw [z, hu] at h; exact (ne vs ob).2 (Option.some.inj h)]
    exact h
  · exact .inr h
theorem Wr.next (h : Wr P w K C A B most T H0 me s d dx H xs) (e : Ex (rm H d) H1) (hd : H1 d = some (LD P w d ys)) (k : Kn A B most T H0 H1 ys) : Wr P w K C A B most T H0 me s d dx H1 ys := by
  refine ⟨(ex_to_rm h.e h.nd).trans e, h.nd, ex_rm_ne e h.obj fun z => ?_, ex_t e (sqT_rm h.sets ⟨_, h.dict, fun vs o => ⟨fun z => (by cases z), fun z => (by cases z)⟩⟩), hd, k⟩
  have := h.obj
  rw [z, h.dict] at this
  cases this
theorem RsNew.over {v : V} {r : Option (List Int)} {u : HO} (h : RsNew H0 H v r) (hd : H d = some u) (n : ∀ l, u ≠ .lst l) (e : Ex (rm H d) H1) : RsNew H0 H1 v r := by
  cases r with
  | none => exact h
  | some l =>
    obtain ⟨p, e1, e2, h3⟩ := h
    exact ⟨p, e1, e2, ex_rm_ne e h3 fun z => by rw [z, hd] at h3; exact n _ (Option.some.inj h3)⟩
end
/-- the parameters can be -/
structure Par (A B : List Nat) (most : Int) (T : List Nat) : Prop where
  g : Good A B
  hT : T.length ≤ 60
  m0 : 0 ≤ most
  m1 : most ≤ 100
def RetW (P : Program) (w : World) (A B : List Nat) (most : Int) (T : List Nat) (H0 : Hp) (d : Addr) (r : Option (List Int)) (H : Hp) (Q : VK) : Prop :=
  ∀ v H1 ys, Ex (rm H d) H1 → H1 d = some (LD P w d ys) → Kn A B most T H0 H1 ys → RsNew H0 H1 v r → Q v H1
def sp_rest (P : Program) (w : World) (K : PySem.W.Frag) (C : Addr) (n : Nat) : Sp := fun vs H Q _ => ∃ (A B : List Nat) (most : Int) (T : List Nat) (H0 : Hp) (me s d dx : Addr) (xs : List (LKey × Addr × V)) (i : Nat) (st : Int) (op : Option Int),
  vs = [.ref me, .int (i : Int), .int st, cV op] ∧ Wr P w K C A B most T H0 me s d dx H xs ∧ Par A B most T ∧ i ≤ T.length ∧ T.length ≤ i + n ∧ StOk st ∧ OpOk most op ∧ RetW P w A B most T H0 d (reF A B most (T.drop i) st op) H Q
def sp_signed (P : Program) (w : World) (K : PySem.W.Frag) (C : Addr) (n : Nat) : Sp := fun vs H Q _ => ∃ (A B : List Nat) (most : Int) (T : List Nat) (H0 : Hp) (me s d dx : Addr) (xs : List (LKey × Addr × V)) (i t : Nat) (st : Int) (op : Option Int),
  vs = [.ref me, .int (i : Int), .int st, cV op] ∧ Wr P w K C A B most T H0 me s d dx H xs ∧ Par A B most T ∧ T[i]? = some t ∧ T.length ≤ i + n ∧ StOk st ∧ OpOk most op ∧ RetW P w A B most T H0 d (sgF A B most t (reF A B most (T.drop (i + 1))) st op) H Q
section
variable {P : Program} {w : World} {K : PySem.W.Frag} {C : Addr} {A B : List Nat} {most : Int} {T : List Nat} {H0 F : Hp} {me s d dx : Addr} {xs : List (LKey × Addr × V)} {Pq : V → Hp → Prop} {i t n : Nat} {st : Int} {op : Option Int} {E : XK}
theorem RetW.use {r : Option (List Int)} {H : Hp} {Q : VK} (W : Wr P w K C A B most T H0 me s d dx F xs) (w0 : Wd none F H) (q : ∀ v F1 ys, Ex (rm F d) F1 → Wr P w K C A B most T H0 me s d dx F1 ys → RsNew H0 F1 v r → Pq v F1) (k : ∀ v H1 F1, Wd none F1 H1 → Pq v F1 → Q v H1) :
    RetW P w A B most T H0 d r H Q := fun v H1 ys e hd kn rs => k v H1 H1 (Wd.bare (exr _)) (q v H1 ys ((ex_rm_rm w0.ex).trans e) ((W.up w0.ex).next e hd kn) rs)
theorem RetW.out {r : Option (List Int)} {H F1 : Hp} {Q : VK} {v : V} {ys : List (LKey × Addr × V)} (k : RetW P w A B most T H0 d r H Q) (e : Ex (rm H d) F1) (W : Wr P w K C A B most T H0 me s d dx F1 ys) (rs : RsNew H0 F1 v r) : ∀ H1, Wd none F1 H1 → Q v H1 := fun H1 w1 =>
  k v H1 ys (e.trans w1.ex) (w1.ex _ _ W.dict) (W.kn.up w1.ex) (rs.up w1.ex)
theorem wp_rest (W : Wr P w K C A B most T H0 me s d dx F xs) (p : Par A B most T) (hi : i ≤ T.length) (hn : T.length ≤ i + n) (hs : StOk st) (ho : OpOk most op)
    (q : ∀ v F1 ys, Ex (rm F d) F1 → Wr P w K C A B most T H0 me s d dx F1 ys → RsNew H0 F1 v (reF A B most (T.drop i) st op) → Pq v F1) : Wp none (fun H Q => sp_rest P w K C n (.ref me :: ([.int (i : Int), .int st, cV op] ++ [])) H Q E) F Pq :=
  fun H w0 Q k => ⟨A, B, most, T, H0, me, s, d, dx, xs, i, st, op, rfl, W.up w0.ex, p, hi, hn, hs, ho, RetW.use W w0 q k⟩
theorem wp_signed (W : Wr P w K C A B most T H0 me s d dx F xs) (p : Par A B most T) (hi : T[i]? = some t) (hn : T.length ≤ i + n) (hs : StOk st) (ho : OpOk most op)
    (q : ∀ v F1 ys, Ex (rm F d) F1 → Wr P w K C A B most T H0 me s d dx F1 ys → RsNew H0 F1 v (sgF A B most t (reF A B most (T.drop (i + 1))) st op) → Pq v F1) : Wp none (fun H Q => sp_signed P w K C n (.ref me :: ([.int (i : Int), .int st, cV op] ++ [])) H Q E) F Pq :=
  fun H w0 Q k => ⟨A, B, most, T, H0, me, s, d, dx, xs, i, t, st, op, rfl, W.up w0.ex, p, hi, hn, hs, ho, RetW.use W w0 q k⟩
end
section
variable {P : Program} {w : World} {K : PySem.W.Frag} {mg : Str → Option Value} {base : Heap} {C : Addr}
abbrev s_Writer_ahead : Stmt := inClass (topS 31) 3
abbrev n_Writer_ahead : List Str := ["self", "codes", "rest"]
theorem sc_Writer_ahead : FnScope n_Writer_ahead ["self", "codes", "rest"] (defScope s_Writer_ahead) := ⟨rfl, rfl, rfl, by decide +kernel, rfl, by decide +kernel, by decide +kernel⟩

def sp_ahead : Sp := fun vs H Q _ => ∃ (me c : Addr) (y : V) (cs : List Int) (r : Option (List Int)), vs = [.ref me, .ref c, y] ∧ H c = some (.lst (il cs)) ∧ RsAt H y r ∧ LenLe 1000 r ∧ cs.length ≤ 10 ∧ ∀ v H1, Ex H H1 → RsNew H H1 v (ahF cs r) → Q v H1
theorem wp_ahead {F : Hp} {Pq : V → Hp → Prop} {me c : Addr} {y : V} {cs : List Int} {r : Option (List Int)} {E : XK} (hc : F c = some (.lst (il cs))) (hy : RsAt F y r) (hr : LenLe 1000 r) (hl : cs.length ≤ 10) (q : ∀ v F1, Ex F F1 → RsNew F F1 v (ahF cs r) → Pq v F1) :
    Wp none (fun H Q => sp_ahead (.ref me :: ([.ref c, y] ++ [])) H Q E) F Pq := fun H w Q k => ⟨me, c, y, cs, r, rfl, w.ex _ _ hc, hy.up w.ex, hr, hl, fun v H1 e rs => k v H1 H1 (Wd.bare (exr _)) (q v H1 (w.ex.trans e) (rs.down w.ex))⟩
theorem pm_ahead (D : DefAtM K C "ahead" "Writer.ahead" s_Writer_ahead) (B : Bl mg) : MPm P w K mg base CX0 1 C "ahead" ["self", "codes", "rest"] sp_ahead := by
  obtain ⟨f, fd, F, hm⟩ := D
  refine ⟨f, fd, ?_, hm, F.binds fun _ _ _ _ _ _ us hl => match us, hl with | [_, _, _], _ => rfl⟩
  refine F.ok sc_Writer_ahead (fun vs H Q E h => ?_) (fun cdv A outer s H vs Q E hr h => ?_)
  · obtain ⟨_, _, _, _, _, rfl, _⟩ := h
    rfl
  · obtain ⟨me, c, y, cs, r, rfl, hc, hy, hl, hcs, k⟩ := h
    refine ⟨_, (pss_cons (ps_ret (pe_ifExp (pt_cmpR op_isNs (pv 2) pe_non (nomark _)) pe_non (pe_op op_addP (pv 1) (pv 2))))
 pss_nil), ?_⟩
    refine go_st (σ := [some (.ref me), some (.ref c), some (y)]) rfl ?_
    cases r with
    | none =>
      have hy : y = .non := hy
      subst hy
      wtm_at "r"
      refine bT rfl ?_
      wtm_at "r"
      exact fun H1 w1 => k .non H1 w1.ex rfl
    | some l =>
      obtain ⟨p, rfl, hp⟩ := hy
      have := hl l rfl
      wtm_at "r"
      refine bF rfl ?_
      wtm_at "r"
      refine wp_addL hc hp (by rw [List.length_map, List.length_map]; omega) ?_
      wtm_at "gz"
      intro q hq F1 h1 e1
      rw [← List.map_append] at h1
      exact fun H1 w1 => k (.ref q) H1 (e1.trans w1.ex) ⟨q, rfl, hq, w1.ex _ _ h1⟩
abbrev s_Writer_init : Stmt := inClass (topS 31) 0
abbrev n_Writer_init : List Str := ["self", "sets", "text", "most"]
theorem sc_Writer_init : FnScope n_Writer_init ["self", "sets", "text", "most"] (defScope s_Writer_init) := ⟨rfl, rfl, rfl, by decide +kernel, rfl, by decide +kernel, by decide +kernel⟩

def sp_init (P : Program) (w : World) (C : Addr) : Sp := fun vs H Q _ => ∃ (me s dx : Addr) (T : List Nat) (m : Int), vs = [.ref me, .ref s, .str (tx T), .int m] ∧ H me = some (.ins C dx []) ∧
  ∀ d H1, H d = none → Ex (rm H me) H1 → H1 me = some (.ins C dx (fsW s T m d)) → H1 d = some (LD P w d []) → Q .non H1
theorem ok_init {f : Addr} {fd : FuncData} (F : Fun K "__init__" "Writer.__init__" s_Writer_init f fd) (T : WTxt K C) : FnOk P w K mg base CX0 1 f fd ["self", "sets", "text", "most"] (sp_init P w C) := by
  refine F.ok sc_Writer_init (fun vs H Q E h => ?_) (fun cdv A outer s H vs Q E hr h => ?_)
  · obtain ⟨_, _, _, _, _, rfl, _⟩ := h
    rfl
  · obtain ⟨me, st, dx, Tx, m, rfl, h0, k⟩ := h
    refine ⟨_, (pss_cons (ps_fldK K rfl (pv 0) (pv 1) rfl)
 (pss_cons (ps_fldK K rfl (pv 0) (pv 2) rfl)
 (pss_cons (ps_fldK K rfl (pv 0) (pv 3) rfl)
 (pss_cons (ps_fldK K rfl (pv 0) (pe_lnew (P := P) (w := w) rfl rfl) rfl)
 pss_nil)))), ?_⟩
    refine go_st (σ := [some (.ref me), some (.ref st), some (.str (tx Tx)), some (.int m)]) rfl ?_
    refine go_sfld ?_
    wtm_at "r"
    refine ⟨me, C, dx, _, rfl, h0, T.cl, T.n1, (by show 0 < 1000; decide), ?_⟩
    refine go_sfld ?_
    wtm_at "r"
    refine ⟨me, C, dx, _, rfl, upd_same, T.cl, T.n2, Nat.lt_of_le_of_lt (putF_len _ _ _) (by show 1 < 1000; decide), ?_⟩
    rw [upd_upd]
    refine go_sfld ?_
    wtm_at "r"
    have l2 := putF_len "text" (.str (tx Tx)) (putF "sets" (.ref st) [])
    have l1 := putF_len "sets" (.ref st) []
    have l3 := putF_len "most" (.int m) (putF "text" (.str (tx Tx)) (putF "sets" (.ref st) []))
    have l0 : ([] : List (Str × V)).length = 0 := rfl
    refine ⟨me, C, dx, _, rfl, upd_same, T.cl, T.n3, by omega, ?_⟩
    rw [upd_upd]
    refine go_sfld ?_
    refine wp_lnew fun d hd => ?_
    wtm_at "r"
    have nd : me ≠ d := (fr_ne hd).symm
    refine ⟨me, C, dx, _, rfl, at_ne upd_same hd, T.cl, T.n4, by omega, ?_⟩
    have hdH : H d = none := fr_in hd
    refine fun H1 w1 => k d H1 hdH (fun b u q => w1.ex _ _ ?_) (w1.ex _ _ upd_same) (w1.ex _ _ ?_)
    · have nb : b ≠ me := fun z => by rw [z, rm_same] at q; cases q
      rw [rm_ne nb] at q
      rw [upd_ne nb, upd_ne (ne_of_none q hdH), upd_ne nb]
      exact q
    · rw [upd_ne nd.symm, upd_same]
abbrev s_Writer_rest : Stmt := inClass (topS 31) 1
abbrev n_Writer_rest : List Str := ["self", "at", "state", "open_for", "key"]
theorem sc_Writer_rest : FnScope n_Writer_rest ["self", "at", "state", "open_for"] (defScope s_Writer_rest) := ⟨rfl, rfl, rfl, by decide +kernel, rfl, by decide +kernel, by decide +kernel⟩

abbrev s_Writer_found : Stmt := inClass (topS 31) 2
abbrev n_Writer_found : List Str := ["self", "at", "state", "open_for", "many", "same", "turn", "best"]
theorem sc_Writer_found : FnScope n_Writer_found ["self", "at", "state", "open_for"] (defScope s_Writer_found) := ⟨rfl, rfl, rfl, by decide +kernel, rfl, by decide +kernel, by decide +kernel⟩

abbrev s_Writer_signed : Stmt := inClass (topS 31) 4
abbrev n_Writer_signed : List Str := ["self", "at", "state", "open_for", "code"]
theorem sc_Writer_signed : FnScope n_Writer_signed ["self", "at", "state", "open_for"] (defScope s_Writer_signed) := ⟨rfl, rfl, rfl, by decide +kernel, rfl, by decide +kernel, by decide +kernel⟩

theorem valX_put (xs : List (LKey × Addr × V)) (k : LKey) (b : Addr) (v : V) : valX (putX xs k b v) k = some v := by
  unfold putX
  by_cases h : (valX xs k).isSome = true
  · rw [if_pos h]
    unfold valX at h ⊢
    induction xs with
    | nil => cases h
    | cons e r ih =>
      rw [List.map_cons]
      by_cases he : e.1 = k
      · rw [if_pos he, List.find?_cons, he]
        simp
      · rw [if_neg he, List.find?_cons]
        have hd : decide (e.1 = k) = false := decide_eq_false he
        rw [hd]
        refine ih ?_
        rw [List.find?_cons, hd] at h
        exact h
  · rw [if_neg h]
    unfold valX at h ⊢
    rw [List.find?_append]
    cases q : xs.find? (fun e => decide (e.1 = k)) with
    | some e => rw [q] at h; exact absurd rfl h
    | none => simp
theorem valX_mem {xs : List (LKey × Addr × V)} {k : LKey} {v : V} (h : valX xs k = some v) : ∃ e ∈ xs, e.1 = k ∧ e.2.2 = v := by
  unfold valX at h
  obtain ⟨e, h1, h2⟩ := Option.map_eq_some_iff.mp h
  exact ⟨e, List.mem_of_find?_eq_some h1, by have := List.find?_some h1; simpa using this, h2⟩
theorem valX_no {xs : List (LKey × Addr × V)} {k : LKey} (h : ¬ (valX xs k).isSome = true) : ∀ e ∈ xs, e.1 ≠ k := fun e he z => by
  unfold valX at h
  rw [Option.isSome_map] at h
  have : (xs.find? fun e => decide (e.1 = k)).isSome = true := List.find?_isSome.mpr ⟨e, he, decide_eq_true z⟩
  exact h this
section
variable {A B : List Nat} {most : Int} {T : List Nat} {H0 H H1 : Hp} {d : Addr} {xs : List (LKey × Addr × V)} {i : Nat} {st : Int} {op : Option Int} {v : V} {b : Addr}
theorem Kn.val (h : Kn A B most T H0 H xs) (hv : valX xs (keyL i st op) = some v) : RsNew H0 H v (reF A B most (T.drop i) st op) := by
  obtain ⟨e, he, h1, h2⟩ := valX_mem hv
  obtain ⟨i2, st2, op2, h3, _, _, _, h4⟩ := h.ok e he
  obtain ⟨rfl, rfl, rfl⟩ := keyL_inj (h1.symm.trans h3)
  rw [← h2]
  exact h4
theorem Kn.put (h : Kn A B most T H0 H xs) (hm : most ≤ 100) (hd : H d = some (LD P w d xs)) (hb : H b = some (.tup ((keyL i st op).map lV))) (hi : i ≤ T.length) (hs : StOk st) (ho : OpOk most op) (hv : RsNew H0 H v (reF A B most (T.drop i) st op)) :
    Kn A B most T H0 (upd H d (LD P w d (putX xs (keyL i st op) b v))) (putX xs (keyL i st op) b v) := by
  have nl : ∀ {p : Addr} {vs : List V}, H p = some (.tup vs) → p ≠ d := fun h z => by rw [z, hd] at h; cases h
  have nl2 : ∀ {p : Addr} {vs : List V}, H p = some (.lst vs) → p ≠ d := fun h z => by rw [z, hd] at h; cases h
  have rs : ∀ {v : V} {r : Option (List Int)}, RsNew H0 H v r → RsNew H0 (upd H d (LD P w d (putX xs (keyL i st op) b v))) v r := fun {v r} h => by
    cases r with
    | none => exact h
    | some l =>
      obtain ⟨p, e1, e2, h3⟩ := h
      exact ⟨p, e1, e2, by rw [upd_ne (nl2 h3)]; exact h3⟩
  have rs2 : ∀ {v2 : V} {r : Option (List Int)}, RsNew H0 H v2 r → RsNew H0 (upd H d (LD P w d (putX xs (keyL i st op) b v))) v2 r := fun {v2 r} h => by
    cases r with
    | none => exact h
    | some l =>
      obtain ⟨p, e1, e2, h3⟩ := h
      exact ⟨p, e1, e2, by rw [upd_ne (nl2 h3)]; exact h3⟩
  by_cases q : (valX xs (keyL i st op)).isSome = true
  · have e0 : putX xs (keyL i st op) b v = xs.map fun e => if e.1 = keyL i st op then (e.1, e.2.1, v) else e := by unfold putX; rw [if_pos q]
    refine ⟨fun e he => ?_, ?_, fun e he => ?_⟩
    · rw [e0] at he
      obtain ⟨e2, h2, rfl⟩ := List.mem_map.mp he
      have hk := h.keys e2 h2
      split
      · rw [upd_ne (nl hk)]; exact hk
      · rw [upd_ne (nl hk)]; exact hk
    · rw [e0, List.map_map]
      have : (fun e : LKey × Addr × V => encL e.1) ∘ (fun e => if e.1 = keyL i st op then (e.1, e.2.1, v) else e) = fun e => encL e.1 := by
        funext e
        show encL (if e.1 = keyL i st op then (e.1, e.2.1, v) else e).1 = encL e.1
        split <;> rfl
      rw [this]
      exact h.nd
    · rw [e0] at he
      obtain ⟨e2, h2, rfl⟩ := List.mem_map.mp he
      by_cases q2 : e2.1 = keyL i st op
      · rw [if_pos q2]
        exact ⟨i, st, op, q2, hi, hs, ho, rs2 hv⟩
      · rw [if_neg q2]
        obtain ⟨i2, st2, op2, g1, g2, g3, g4, g5⟩ := h.ok e2 h2
        exact ⟨i2, st2, op2, g1, g2, g3, g4, rs2 g5⟩
  · have e0 : putX xs (keyL i st op) b v = xs ++ [(keyL i st op, b, v)] := by unfold putX; rw [if_neg q]
    refine ⟨fun e he => ?_, ?_, fun e he => ?_⟩
    · rw [e0] at he
      rcases List.mem_append.mp he with h2 | h2
      · have hk := h.keys e h2
        rw [upd_ne (nl hk)]; exact hk
      · rw [List.mem_singleton.mp h2]
        show upd H d _ b = _
        rw [upd_ne (nl hb)]; exact hb
    · rw [e0, List.map_append]
      refine snoc_nd h.nd fun hm2 => ?_
      obtain ⟨e, he, he2⟩ := List.mem_map.mp hm2
      obtain ⟨i2, st2, op2, g1, g2, g3, g4, _⟩ := h.ok e he
      rw [g1] at he2
      exact valX_no q e he (g1.trans (encL_inj g3 hs hm g4 ho he2))
    · rw [e0] at he
      rcases List.mem_append.mp he with h2 | h2
      · obtain ⟨i2, st2, op2, g1, g2, g3, g4, g5⟩ := h.ok e h2
        exact ⟨i2, st2, op2, g1, g2, g3, g4, rs2 g5⟩
      · rw [List.mem_singleton.mp h2]
        exact ⟨i, st, op, rfl, hi, hs, ho, rs2 hv⟩
end
theorem ok_rest (D : DefAtM K C "rest" "Writer.rest" s_Writer_rest) (T : WTxt K C) (B : Bl mg) (n : Nat) (g_Writer_found : MPm P w K mg base CX0 (3 * n + 3) C "found" ["self", "at", "state", "open_for"] (sp_rest P w K C n)) :
    MPm P w K mg base CX0 (3 * n + 4) C "rest" ["self", "at", "state", "open_for"] (sp_rest P w K C n) := by
  obtain ⟨f, fd, F, hm⟩ := D
  refine ⟨f, fd, ?_, hm, F.binds fun _ _ _ _ _ _ us hl => match us, hl with | [_, _, _, _], _ => rfl⟩
  have TX := T
  have T := T.cl
  refine F.ok sc_Writer_rest (fun vs H Q E h => ?_) (fun cdv A outer s H vs Q E hr h => ?_)
  · obtain ⟨_, _, _, _, _, _, _, _, _, _, _, _, _, rfl, _⟩ := h
    rfl
  · obtain ⟨A', B', most, Tx, H0, me, se, d, dx, xs, i, st, op, rfl, W, p, hi, hn, hs, ho, k⟩ := h
    refine ⟨_, (pss_cons (ps_set (i := 4) sc_Writer_rest.nd rfl (Or.inl rfl) (pe_tup (pa_cons (pv 1) (pa_cons (pv 2) (pa_cons (pv 3) pa_nil)))))
 (Evl.pss_cut (ps_if (pt_cmp (pc_lnotin (P := P) (w := w) rfl rfl (u1 hr.units) (pv 4) (pe_fldK K rfl (pv 0) rfl)) rfl)
 (pss_cons (ps_lput (P := P) (w := w) rfl rfl (u1 hr.units) (pe_fldK K rfl (pv 0) rfl) (pv 4) (pe_mpm T g_Writer_found (hr.mono (by omega)) pass0 (pv 0) (pa_cons (pv 1) (pa_cons (pv 2) (pa_cons (pv 3) pa_nil)))) rfl)
 pss_nil)
 pss_nil)
 (pss_cons (ps_ret (pe_lget (P := P) (w := w) rfl rfl (u1 hr.units) (pe_fldK K rfl (pv 0) rfl) (pv 4) (fun _ _ => rfl)))
 pss_nil))), ?_⟩
    refine go_st (σ := [some (.ref me), some (.int (i : Int)), some (.int st), some (cV op), none]) rfl ?_
    wtm_at "r"
    refine ⟨(by show 3 ≤ 100000; decide), fun b hb => ?_⟩
    rw [← keyL_V]
    have W1 := W.up (ex_new (u := .tup ((keyL i st op).map lV)) hb)
    have hB : upd H b (.tup ((keyL i st op).map lV)) b = some (.tup ((keyL i st op).map lV)) := upd_same
    have e0 : Ex (rm H d) (upd H b (.tup ((keyL i st op).map lV))) := Same.trans ex_rm (ex_new hb)
    revert W1 hB e0
    generalize upd H b (.tup ((keyL i st op).map lV)) = F
    intro W1 hB e0
    have nbd : b ≠ d := fun z => by rw [z, W1.dict] at hB; cases hB
    wtm_at "r"
    refine go_cut (fun σ F1 => ∃ zs v, σ = [some (.ref me), some (.int (i : Int)), some (.int st), some (cV op), some (.ref b)] ∧ Ex (rm H d) F1 ∧ Wr P w K C A' B' most Tx H0 me se d dx F1 zs ∧ F1 b = some (.tup ((keyL i st op).map lV)) ∧ valX zs (keyL i st op) = some v) ?_ ?_
    · refine go_ifB ?_
      refine wp_B ?_
      refine wp_lnotin ?_
      wtm_at "r"
      refine wp_fld ?_
      wtm_at "r"
      refine ⟨me, C, dx, _, _, rfl, W1.obj, T, TX.n4, lk_known _ _ _ _, ?_⟩
      refine ⟨d, _, rfl, ⟨xs, keyL i st op, b, W1.dict, W1.kn.keys, rfl, hB, rfl⟩, _, rfl, ?_⟩
      refine ⟨fun hno => ?_, fun hyes => ?_⟩
      · refine go_lput ?_
        refine wp_meth ?_
        wtm_at "r"
        refine ⟨me, dx, _, rfl, W1.obj, lk_no _ _ _ _ (by decide +kernel) (by decide +kernel) (by decide +kernel) (by decide +kernel), ?_⟩
        wtm_at "r"
        refine wp_rest W1 p hi hn hs ho fun v F1 ys e1 W2 rs => ?_
        refine wp_fld ?_
        wtm_at "r"
        refine ⟨me, C, dx, _, _, rfl, W2.obj, T, TX.n4, lk_known _ _ _ _, ?_⟩
        wtm_at "r"
        have hB2 := ex_rm_ne e1 hB nbd
        have len := W2.kn.len p.hT p.m1
        refine ⟨d, ys, keyL i st op, b, rfl, W2.dict, W2.kn.keys, rfl, hB2, by omega, ?_⟩
        have kn3 := W2.kn.put p.m1 W2.dict hB2 hi hs ho rs
        have e2 : Ex (rm H d) (upd F1 d (LD P w d (putX ys (keyL i st op) b v))) := fun b2 u q => by
          have nb : b2 ≠ d := fun z => by rw [z, rm_same] at q; cases q
          rw [upd_ne nb]
          refine e1 _ _ ?_
          rw [rm_ne nb]
          exact e0 _ _ q
        have e3 : Ex (rm F1 d) (upd F1 d (LD P w d (putX ys (keyL i st op) b v))) := fun b2 u q => by
          have nb : b2 ≠ d := fun z => by rw [z, rm_same] at q; cases q
          rw [upd_ne nb]
          rw [rm_ne nb] at q
          exact q
        exact go_turn rfl ⟨_, v, rfl, e2, W2.next e3 upd_same kn3, by rw [upd_ne nbd]; exact hB2, valX_put _ _ _ _⟩
      · obtain ⟨v, hv⟩ : ∃ v, valX xs (keyL i st op) = some v := by
          cases q : valX xs (keyL i st op) with
          | none => rw [q] at hyes; cases hyes
          | some v => exact ⟨v, rfl⟩
        exact go_turn rfl ⟨xs, v, rfl, e0, W1, hB, hv⟩
    · rintro σ F1 ⟨zs, v, rfl, e1, W2, hB2, hv⟩
      refine go_ret ?_
      refine wp_lget ?_
      refine wp_fld ?_
      wtm_at "r"
      refine ⟨me, C, dx, _, _, rfl, W2.obj, T, TX.n4, lk_known _ _ _ _, ?_⟩
      wtm_at "r"
      refine ⟨d, v, rfl, ⟨zs, keyL i st op, b, W2.dict, W2.kn.keys, rfl, hB2, hv.symm⟩, ?_⟩
      exact k.out e1 W2 (W2.kn.val hv)
end
section
variable {P : Program} {w : World} {K : PySem.W.Frag} {mg : Str → Option Value} {base : Heap} {C : Addr}
theorem at_cV {c0 c1 : Option Int} {A B : List Nat} {st : Int} {t : Nat} (h : StOk st) : atI [cV (codeOf A B 0 t), cV (codeOf A B 1 t)] st = some (cV (codeOf A B st t)) := by
  rcases h with h | h
  · subst h; exact atI_nat (j := 0) rfl
  · subst h; exact atI_nat (j := 1) rfl
theorem sgF_no {A B : List Nat} {most : Int} {t : Nat} {R : Int → Option Int → Option (List Int)} {st : Int} {op : Option Int} (h : codeOf A B st t = none) : sgF A B most t R st op = none := by
  unfold sgF
  rw [h]
theorem sgF_none {A B : List Nat} {most : Int} {t : Nat} {st c : Int} (h : codeOf A B st t = some c) (R : Int → Option Int → Option (List Int)) : sgF A B most t R st none = ahF [c] (R st none) := by
  unfold sgF
  rw [h]
theorem sgF_some {A B : List Nat} {most : Int} {t : Nat} {st c : Int} (h : codeOf A B st t = some c) (R : Int → Option Int → Option (List Int)) (k : Int) : sgF A B most t R st (some k) = if cmn A B c = true then ahF [c] (R st (some k)) else if most < k + 1 then none else ahF [c] (R st (some (k + 1))) := by
  unfold sgF
  rw [h]
theorem exL {H F : Hp} {d : Addr} (x : Ex (rm H d) F) : Ex (rm H d) (rm F d) := fun b u q => by
  have nb : b ≠ d := fun z => by rw [z, rm_same] at q; cases q
  rw [rm_ne nb]
  exact x b u q
theorem ok_signed (D : DefAtM K C "signed" "Writer.signed" s_Writer_signed) (T : WTxt K C) (B : Bl mg) (n : Nat) (g_codes_of : Pm P w K mg base CX0 1 "codes_of" ["sets", "sign"] (sp_codes_of K)) (g_is_common : Pm P w K mg base CX0 1 "is_common" ["sets", "code"] (sp_common K))
    (g_Writer_ahead : MPm P w K mg base CX0 1 C "ahead" ["self", "codes", "rest"] sp_ahead) (g_Writer_rest : MPm P w K mg base CX0 (3 * n + 4) C "rest" ["self", "at", "state", "open_for"] (sp_rest P w K C n)) :
    MPm P w K mg base CX0 (3 * n + 5) C "signed" ["self", "at", "state", "open_for"] (sp_signed P w K C (n + 1)) := by
  obtain ⟨f, fd, F, hm⟩ := D
  refine ⟨f, fd, ?_, hm, F.binds fun _ _ _ _ _ _ us hl => match us, hl with | [_, _, _, _], _ => rfl⟩
  have TX := T
  have T := T.cl
  refine F.ok sc_Writer_signed (fun vs H Q E h => ?_) (fun cdv A outer s H vs Q E hr h => ?_)
  · obtain ⟨_, _, _, _, _, _, _, _, _, _, _, _, _, _, rfl, _⟩ := h
    rfl
  · obtain ⟨A', B', most, Tx, H0, me, se, d, dx, xs, i, t, st, op, rfl, W, p, ht, hn, hs, ho, k⟩ := h
    have n10 := p.g.n10
    have geq := p.g.eq
    have hTl := p.hT
    have hi : i < Tx.length := (List.getElem?_eq_some_iff.mp ht).1
    refine ⟨_, (pss_cons (ps_set (i := 4) sc_Writer_signed.nd rfl (Or.inl rfl) (pe_ix (ixK K rfl) (pe_pm g_codes_of (hr.mono (by omega)) pass0 (pa_cons (pe_fldK K rfl (pv 0) rfl) (pa_cons (pe_ix (ixK K rfl) (pe_fldK K rfl (pv 0) rfl) (pv 1) (fun _ _ => rfl)) pa_nil))) (pv 2) (fun _ _ => rfl)))
 (pss_cons (ps_if (pt_cmpR op_isNs (pv 4) pe_non (nomark _))
 (pss_cons (ps_ret pe_non)
 pss_nil)
 pss_nil)
 (Evl.pss_cut (ps_if (PW.pt (pw_and (pt_cmpR op_notNs (pv 3) pe_non (nomark _)) (pw_and1 (pt_not (pt_val (pe_pm g_is_common (hr.mono (by omega)) pass0 (pa_cons (pe_fldK K rfl (pv 0) rfl) (pa_cons (pv 4) pa_nil))))))))
 (pss_cons (ps_set (i := 3) sc_Writer_signed.nd rfl (Or.inl rfl) (pe_op op_addP (pv 3) pe_int))
 (pss_cons (ps_if (pt_cmpR op_gt (pv 3) (pe_fldK K rfl (pv 0) rfl) (nomark _))
 (pss_cons (ps_ret pe_non)
 pss_nil)
 pss_nil)
 pss_nil))
 pss_nil)
 (pss_cons (ps_ret (pe_mpm T g_Writer_ahead (hr.mono (by omega)) pass0 (pv 0) (pa_cons (pe_lst (pa_cons (pv 4) pa_nil)) (pa_cons (pe_mpm T g_Writer_rest (hr.mono (by omega)) pass0 (pv 0) (pa_cons (pe_op op_addP (pv 1) pe_int) (pa_cons (pv 2) (pa_cons (pv 3) pa_nil)))) pa_nil))))
 pss_nil)))), ?_⟩
    refine go_st (σ := [some (.ref me), some (.int (i : Int)), some (.int st), some (cV op), none]) rfl ?_
    wtm_at "r"
    refine wp_fld ?_
    wtm_at "r"
    refine ⟨me, C, dx, _, _, rfl, W.obj, T, TX.n1, lk_sets _ _ _ _, ?_⟩
    wtm_at "r"
    refine wp_fld ?_
    wtm_at "r"
    refine ⟨me, C, dx, _, _, rfl, W.obj, T, TX.n2, lk_text _ _ _ _, ?_⟩
    wtm_at "r"
    refine wp_ixS (by omega) (atI_nat ht) ?_
    wtm_at "r"
    refine wp_codes_of W.sets (by omega) (by omega) ?_
    wtm_at "gz"
    intro p1 hp1 F1 q1 e1
    have W1 := W.up e1
    have x1 : Ex (rm H d) F1 := Same.trans ex_rm e1
    wtm_at "r"
    refine wp_ixL (SqL.of q1) (at_cV (c0 := none) (c1 := none) hs) ?_
    wtm_at "r"
    cases hc : codeOf A' B' st t with
    | none =>
      refine bT rfl ?_
      wtm_at "r"
      refine k.out x1 W1 ?_
      rw [sgF_no hc]
      rfl
    | some c =>
      obtain ⟨c0, c1, _⟩ := codeOf_lt p.g.eq hc
      refine bF rfl ?_
      wtm_at "r"
      refine go_cut (fun σ F2 => ∃ op2, sgF A' B' most t (reF A' B' most (Tx.drop (i + 1))) st op = ahF [c] (reF A' B' most (Tx.drop (i + 1)) st op2) ∧ OpOk most op2 ∧ σ = [some (.ref me), some (.int (i : Int)), some (.int st), some (cV op2), some (.int c)] ∧ F2 = F1) ?_ ?_
      · cases op with
        | none =>
          wtm_at "r"
          refine bF rfl ?_
          refine bF rfl ?_
          exact go_turn rfl ⟨none, sgF_none hc _, trivial, rfl, rfl⟩
        | some kk =>
          have esg : sgF A' B' most t (reF A' B' most (Tx.drop (i + 1))) st (some kk) = (if cmn A' B' c = true then ahF [c] (reF A' B' most (Tx.drop (i + 1)) st (some kk)) else if most < kk + 1 then none else ahF [c] (reF A' B' most (Tx.drop (i + 1)) st (some (kk + 1)))) := sgF_some hc _ kk
          obtain ⟨k0, k1⟩ := ho
          wtm_at "r"
          refine bT rfl ?_
          wtm_at "r"
          refine wp_fld ?_
          wtm_at "r"
          refine ⟨me, C, dx, _, _, rfl, W1.obj, T, TX.n1, lk_sets _ _ _ _, ?_⟩
          wtm_at "r"
          refine wp_common W1.sets p.g c0 c1 ?_
          wtm_at "r"
          refine ⟨fun hb => ?_, fun hb => ?_⟩
          · have hb : cmn A' B' c = false := by simpa using hb
            rw [if_neg (by rw [hb]; decide)] at esg
            wtm_at "r"
            refine wp_addI (i := kk) (j := 1) ?_
            wtm_at "r"
            refine wp_fld ?_
            wtm_at "r"
            refine ⟨me, C, dx, _, _, rfl, W1.obj, T, TX.n3, lk_most _ _ _ _, ?_⟩
            wtm_at "r"
            refine ⟨fun hgt => ?_, fun hle => ?_⟩
            · have hgt := of_decide_eq_true hgt
              wtm_at "r"
              refine k.out x1 W1 ?_
              rw [esg, if_pos hgt]
              rfl
            · have hle := of_decide_eq_false hle
              rw [if_neg hle] at esg
              wtm_at "r"
              exact go_turn rfl ⟨some (kk + 1), esg, ⟨by omega, by omega⟩, rfl, rfl⟩
          · have hb : cmn A' B' c = true := by simpa using hb
            rw [if_pos hb] at esg
            exact go_turn rfl ⟨some kk, esg, ⟨k0, k1⟩, rfl, rfl⟩
      · rintro σ F2 ⟨op2, es2, ho2, rfl, rfl⟩
        wtm_at "r"
        refine wp_meth ?_
        wtm_at "r"
        refine ⟨me, dx, _, rfl, W1.obj, lk_no _ _ _ _ (by decide +kernel) (by decide +kernel) (by decide +kernel) (by decide +kernel), ?_⟩
        wtm_at "r"
        refine ⟨(by show 1 ≤ 100000; decide), ?_⟩
        wtm_at "gz"
        intro q hq F3 q3 e3
        have W3 := W1.up e3
        have nqd : q ≠ d := fun z => by rw [z, W3.dict] at q3; cases q3
        wtm_at "r"
        refine wp_meth ?_
        wtm_at "r"
        refine ⟨me, dx, _, rfl, W3.obj, lk_no _ _ _ _ (by decide +kernel) (by decide +kernel) (by decide +kernel) (by decide +kernel), ?_⟩
        wtm_at "r"
        refine wp_rest (i := i + 1) W3 p (by omega) (by omega) hs ho2 fun v F4 ys e4 W4 rs => ?_
        wtm_at "r"
        have lr := reF_le A' B' most (Tx.drop (i + 1)) st op2
        refine wp_ahead (cs := [c]) (ex_rm_ne e4 q3 nqd) rs.at (lr.mono (by rw [List.length_drop]; omega)) (by show 1 ≤ 10; decide) fun u F5 e5 rt => ?_
        have rt := rt.down W4.e
        rw [← es2] at rt
        exact k.out (((exL x1).trans (ex_rm_rm e3)).trans (e4.trans e5)) (W4.up e5) rt
end
section
variable {P : Program} {w : World} {K : PySem.W.Frag} {mg : Str → Option Value} {base : Heap} {C : Addr}
theorem ok_found (D : DefAtM K C "found" "Writer.found" s_Writer_found) (T : WTxt K C) (B : Bl mg) (n : Nat) (g_shorter : Pm P w K mg base CX0 1 "shorter" ["one", "other"] sp_shorter)
    (g_Writer_ahead : MPm P w K mg base CX0 1 C "ahead" ["self", "codes", "rest"] sp_ahead) (g_Writer_signed : MPm P w K mg base CX0 (3 * n + 2) C "signed" ["self", "at", "state", "open_for"] (sp_signed P w K C n)) :
    MPm P w K mg base CX0 (3 * n + 3) C "found" ["self", "at", "state", "open_for"] (sp_rest P w K C n) := by
  obtain ⟨f, fd, F, hm⟩ := D
  refine ⟨f, fd, ?_, hm, F.binds fun _ _ _ _ _ _ us hl => match us, hl with | [_, _, _, _], _ => rfl⟩
  have TX := T
  have T := T.cl
  refine F.ok sc_Writer_found (fun vs H Q E h => ?_) (fun cdv A outer s H vs Q E hr h => ?_)
  · obtain ⟨_, _, _, _, _, _, _, _, _, _, _, _, _, rfl, _⟩ := h
    rfl
  · obtain ⟨A', B', most, Tx, H0, me, se, d, dx, xs, i, st, op, rfl, W, p, hi, hn, hs, ho, k⟩ := h
    have n10 := p.g.n10
    have geq := p.g.eq
    have hTl := p.hT
    have p0 := p.m0
    refine ⟨_, (pss_cons (ps_if (pt_cmpR (eqK K rfl hr.units) (pv 1) (pe_callB (lenK K rfl) (by rfl) B.len PySem.boot_len (pa_cons (pe_fldK K rfl (pv 0) rfl) pa_nil)) (nomark _))
 (pss_cons (ps_ret (pe_lst pa_nil))
 pss_nil)
 pss_nil)
 (pss_cons (ps_set (i := 4) sc_Writer_found.nd rfl (Or.inl rfl) (pe_callB (lenK K rfl) (by rfl) B.len PySem.boot_len (pa_cons (pe_ix (ixK K rfl) (pe_fldK K rfl (pv 0) rfl) pe_int (fun _ _ => rfl)) pa_nil)))
 (pss_cons (ps_set (i := 5) sc_Writer_found.nd rfl (Or.inl rfl) (pe_op op_addP (pv 4) (pv 2)))
 (pss_cons (ps_set (i := 6) sc_Writer_found.nd rfl (Or.inl rfl) (pe_op op_sub (pe_op op_addP (pv 4) pe_int) (pv 2)))
 (pss_cons (ps_set (i := 7) sc_Writer_found.nd rfl (Or.inl rfl) (pe_mpm T g_Writer_signed (hr.mono (by omega)) pass0 (pv 0) (pa_cons (pv 1) (pa_cons (pv 2) (pa_cons (pv 3) pa_nil)))))
 (pss_cons (ps_set (i := 7) sc_Writer_found.nd rfl (Or.inl rfl) (pe_pm g_shorter (hr.mono (by omega)) pass0 (pa_cons (pv 7) (pa_cons (pe_mpm T g_Writer_ahead (hr.mono (by omega)) pass0 (pv 0) (pa_cons (pe_lst (pa_cons (pv 6) pa_nil)) (pa_cons (pe_mpm T g_Writer_signed (hr.mono (by omega)) pass0 (pv 0) (pa_cons (pv 1) (pa_cons (pe_op op_sub pe_int (pv 2)) (pa_cons pe_int pa_nil)))) pa_nil))) pa_nil))))
 (Evl.pss_cut (ps_if (pt_cmpR op_notNs (pv 3) pe_non (nomark _))
 (pss_cons (ps_set (i := 7) sc_Writer_found.nd rfl (Or.inl rfl) (pe_pm g_shorter (hr.mono (by omega)) pass0 (pa_cons (pv 7) (pa_cons (pe_mpm T g_Writer_ahead (hr.mono (by omega)) pass0 (pv 0) (pa_cons (pe_lst (pa_cons (pv 5) pa_nil)) (pa_cons (pe_mpm T g_Writer_signed (hr.mono (by omega)) pass0 (pv 0) (pa_cons (pv 1) (pa_cons (pv 2) (pa_cons pe_non pa_nil)))) pa_nil))) pa_nil))))
 pss_nil)
 pss_nil)
 (pss_cons (ps_ret (pe_pm g_shorter (hr.mono (by omega)) pass0 (pa_cons (pv 7) (pa_cons (pe_mpm T g_Writer_ahead (hr.mono (by omega)) pass0 (pv 0) (pa_cons (pe_lst (pa_cons (pv 6) (pa_cons (pv 6) pa_nil))) (pa_cons (pe_mpm T g_Writer_signed (hr.mono (by omega)) pass0 (pv 0) (pa_cons (pv 1) (pa_cons (pe_op op_sub pe_int (pv 2)) (pa_cons pe_non pa_nil)))) pa_nil))) pa_nil))))
 pss_nil)))))))), ?_⟩
    refine go_st (σ := [some (.ref me), some (.int (i : Int)), some (.int st), some (cV op), none, none, none, none]) rfl ?_
    wtm_at "r"
    refine wp_fld ?_
    wtm_at "r"
    refine ⟨me, C, dx, _, _, rfl, W.obj, T, TX.n2, lk_text _ _ _ _, ?_⟩
    wtm_at "r"
    refine ⟨fun hend => ?_, fun hmore => ?_⟩
    · have hend : i = Tx.length := by have := of_decide_eq_true hend; omega
      wtm_at "r"
      refine ⟨Nat.zero_le _, ?_⟩
      wtm_at "gz"
      intro q hq F1 q1 e1
      refine k.out (Same.trans ex_rm e1) (W.up e1) ?_
      rw [hend, List.drop_length]
      exact ⟨q, rfl, W.e.free hq, q1⟩
    · have hlt : i < Tx.length := by have := of_decide_eq_false hmore; omega
      obtain ⟨t, ht⟩ : ∃ t, Tx[i]? = some t := ⟨_, List.getElem?_eq_getElem hlt⟩
      have hdrop : Tx.drop i = t :: Tx.drop (i + 1) := by
        obtain ⟨h1, h2⟩ := List.getElem?_eq_some_iff.mp ht
        rw [← h2]
        exact List.drop_eq_getElem_cons h1
      have lsg := fun st op => sgF_le (A := A') (B := B') (most := most) (t := t) (reF_le A' B' most (Tx.drop (i + 1))) st op
      have ldr : (Tx.drop (i + 1)).length ≤ 60 := by rw [List.length_drop]; omega
      have hs2 : StOk (1 - st) := by unfold StOk at hs ⊢; omega
      have x0 : Ex (rm H d) H := ex_rm
      have ere : reF A' B' most (Tx.drop i) st op = shF (if op = none then shF (sgF A' B' most t (reF A' B' most (Tx.drop (i + 1))) st op) (ahF [(A'.length : Int) + 1 - st] (sgF A' B' most t (reF A' B' most (Tx.drop (i + 1))) (1 - st) (some 0)))
          else shF (shF (sgF A' B' most t (reF A' B' most (Tx.drop (i + 1))) st op) (ahF [(A'.length : Int) + 1 - st] (sgF A' B' most t (reF A' B' most (Tx.drop (i + 1))) (1 - st) (some 0)))) (ahF [(A'.length : Int) + st] (sgF A' B' most t (reF A' B' most (Tx.drop (i + 1))) st none)))
          (ahF [(A'.length : Int) + 1 - st, (A'.length : Int) + 1 - st] (sgF A' B' most t (reF A' B' most (Tx.drop (i + 1))) (1 - st) none)) := by
        rw [hdrop]
        rfl
      wtm_at "r"
      refine wp_fld ?_
      wtm_at "r"
      refine ⟨me, C, dx, _, _, rfl, W.obj, T, TX.n1, lk_sets _ _ _ _, ?_⟩
      wtm_at "r"
      refine wp_ixT W.sets rfl ?_
      wtm_at "r"
      refine wp_meth ?_
      wtm_at "r"
      refine ⟨me, dx, _, rfl, W.obj, lk_no _ _ _ _ (by decide +kernel) (by decide +kernel) (by decide +kernel) (by decide +kernel), ?_⟩
      wtm_at "r"
      refine wp_signed W p ht hn hs ho fun v0 F0 ys0 e0 W0 rb0 => ?_
      have x0 := e0
      wtm_at "r"
      refine wp_meth ?_
      wtm_at "r"
      refine ⟨me, dx, _, rfl, W0.obj, lk_no _ _ _ _ (by decide +kernel) (by decide +kernel) (by decide +kernel) (by decide +kernel), ?_⟩
      wtm_at "r"
      refine ⟨(by show 1 ≤ 100000; decide), ?_⟩
      wtm_at "gz"
      intro c1 hc1 F1a q1 e1a
      have W1a := W0.up e1a
      have rb1a := rb0.up e1a
      have nc1 : c1 ≠ d := fun z => by rw [z, W1a.dict] at q1; cases q1
      wtm_at "r"
      refine wp_meth ?_
      wtm_at "r"
      refine ⟨me, dx, _, rfl, W1a.obj, lk_no _ _ _ _ (by decide +kernel) (by decide +kernel) (by decide +kernel) (by decide +kernel), ?_⟩
      wtm_at "r"
      refine wp_signed (op := some 0) W1a p ht hn hs2 ⟨Int.le_refl _, p0⟩ fun v1 F1b ys1 e1b W1b rs1 => ?_
      have rb1b := rb1a.over W1a.dict (fun l z => by cases z) e1b
      have q1b := ex_rm_ne e1b q1 nc1
      wtm_at "r"
      refine wp_ahead (cs := [(A'.length : Int) + 1 - st]) q1b rs1.at ((lsg _ _).mono (by omega)) (by show 1 ≤ 10; decide) fun u1 F1 e1 rt1 => ?_
      have W1 := W1b.up e1
      have x1 : Ex (rm H d) F1 := ((exL x0).trans (ex_rm_rm e1a)).trans (e1b.trans e1)
      wtm_at "r"
      refine wp_shorter (rb1b.up e1).at rt1.at ?_
      have rb1 := (rb1b.up e1).pick (rt1.down W1b.e)
      wtm_at "r"
      refine go_cut (fun σ F2 => ∃ v ys, σ = [some (.ref me), some (.int (i : Int)), some (.int st), some (cV op), some (.int (A'.length : Nat)), some (.int ((A'.length : Int) + st)), some (.int ((A'.length : Int) + 1 - st)), some v] ∧ Ex (rm H d) F2 ∧ Wr P w K C A' B' most Tx H0 me se d dx F2 ys ∧
        RsNew H0 F2 v (if op = none then shF (sgF A' B' most t (reF A' B' most (Tx.drop (i + 1))) st op) (ahF [(A'.length : Int) + 1 - st] (sgF A' B' most t (reF A' B' most (Tx.drop (i + 1))) (1 - st) (some 0)))
          else shF (shF (sgF A' B' most t (reF A' B' most (Tx.drop (i + 1))) st op) (ahF [(A'.length : Int) + 1 - st] (sgF A' B' most t (reF A' B' most (Tx.drop (i + 1))) (1 - st) (some 0)))) (ahF [(A'.length : Int) + st] (sgF A' B' most t (reF A' B' most (Tx.drop (i + 1))) st none)))) ?_ ?_
      · revert rb1
        generalize (if pickF _ _ = true then u1 else v0) = best1
        intro rb1
        cases op with
        | none =>
          wtm_at "r"
          refine bF rfl ?_
          exact go_turn rfl ⟨_, _, rfl, x1, W1, by rw [if_pos rfl]; exact rb1⟩
        | some kk =>
          wtm_at "r"
          refine bT rfl ?_
          wtm_at "r"
          refine wp_meth ?_
          wtm_at "r"
          refine ⟨me, dx, _, rfl, W1.obj, lk_no _ _ _ _ (by decide +kernel) (by decide +kernel) (by decide +kernel) (by decide +kernel), ?_⟩
          wtm_at "r"
          refine ⟨(by show 1 ≤ 100000; decide), ?_⟩
          wtm_at "gz"
          intro c2 hc2 F2a q2 e2a
          have W2a := W1.up e2a
          have rb2a := rb1.up e2a
          have nc2 : c2 ≠ d := fun z => by rw [z, W2a.dict] at q2; cases q2
          wtm_at "r"
          refine wp_meth ?_
          wtm_at "r"
          refine ⟨me, dx, _, rfl, W2a.obj, lk_no _ _ _ _ (by decide +kernel) (by decide +kernel) (by decide +kernel) (by decide +kernel), ?_⟩
          wtm_at "r"
          refine wp_signed (op := none) W2a p ht hn hs trivial fun v2 F2b ys2 e2b W2b rs2 => ?_
          have rb2b := rb2a.over W2a.dict (fun l z => by cases z) e2b
          have q2b := ex_rm_ne e2b q2 nc2
          wtm_at "r"
          refine wp_ahead (cs := [(A'.length : Int) + st]) q2b rs2.at ((lsg _ _).mono (by omega)) (by show 1 ≤ 10; decide) fun u2 F2 e2 rt2 => ?_
          have W2 := W2b.up e2
          have x2 : Ex (rm H d) F2 := ((exL x1).trans (ex_rm_rm e2a)).trans (e2b.trans e2)
          wtm_at "r"
          refine wp_shorter (rb2b.up e2).at rt2.at ?_
          have rb2 := (rb2b.up e2).pick (rt2.down W2b.e)
          wtm_at "r"
          have hne : ¬ (some kk = (none : Option Int)) := fun z => by cases z
          exact go_turn rfl ⟨_, _, rfl, x2, W2, by rw [if_neg hne]; exact rb2⟩
      · rintro σ F2 ⟨v2, ys2, rfl, x2, W2, rb2⟩
        wtm_at "r"
        refine wp_meth ?_
        wtm_at "r"
        refine ⟨me, dx, _, rfl, W2.obj, lk_no _ _ _ _ (by decide +kernel) (by decide +kernel) (by decide +kernel) (by decide +kernel), ?_⟩
        wtm_at "r"
        refine ⟨(by show 2 ≤ 100000; decide), ?_⟩
        wtm_at "gz"
        intro c3 hc3 F3a q3 e3a
        have W3a := W2.up e3a
        have rb3a := rb2.up e3a
        have nc3 : c3 ≠ d := fun z => by rw [z, W3a.dict] at q3; cases q3
        wtm_at "r"
        refine wp_meth ?_
        wtm_at "r"
        refine ⟨me, dx, _, rfl, W3a.obj, lk_no _ _ _ _ (by decide +kernel) (by decide +kernel) (by decide +kernel) (by decide +kernel), ?_⟩
        wtm_at "r"
        refine wp_signed (op := none) W3a p ht hn hs2 trivial fun v3 F3b ys3 e3b W3b rs3 => ?_
        have rb3b := rb3a.over W3a.dict (fun l z => by cases z) e3b
        have q3b := ex_rm_ne e3b q3 nc3
        wtm_at "r"
        refine wp_ahead (cs := [(A'.length : Int) + 1 - st, (A'.length : Int) + 1 - st]) q3b rs3.at ((lsg _ _).mono (by omega)) (by show 2 ≤ 10; decide) fun u3 F3 e3 rt3 => ?_
        have W3 := W3b.up e3
        have x3 : Ex (rm H d) F3 := ((exL x2).trans (ex_rm_rm e3a)).trans (e3b.trans e3)
        wtm_at "r"
        refine wp_shorter (rb3b.up e3).at rt3.at ?_
        have rb3 := (rb3b.up e3).pick (rt3.down W3b.e)
        rw [← ere] at rb3
        exact k.out x3 W3 rb3
end
section
variable {P : Program} {w : World} {K : PySem.W.Frag} {mg : Str → Option Value} {base : Heap} {C : Addr}
theorem signed0 {vs : List V} {H : Hp} {Q : VK} {E : XK} (h : sp_signed P w K C 0 vs H Q E) : False := by
  obtain ⟨_, _, _, T, _, _, _, _, _, _, i, t, _, _, _, _, _, ht, hn, _⟩ := h
  have := (List.getElem?_eq_some_iff.mp ht).1
  omega
theorem all_rest (D1 : DefAtM K C "ahead" "Writer.ahead" s_Writer_ahead) (D2 : DefAtM K C "rest" "Writer.rest" s_Writer_rest) (D3 : DefAtM K C "found" "Writer.found" s_Writer_found) (D4 : DefAtM K C "signed" "Writer.signed" s_Writer_signed) (T : WTxt K C) (B : Bl mg)
    (g_codes_of : Pm P w K mg base CX0 1 "codes_of" ["sets", "sign"] (sp_codes_of K)) (g_is_common : Pm P w K mg base CX0 1 "is_common" ["sets", "code"] (sp_common K)) (g_shorter : Pm P w K mg base CX0 1 "shorter" ["one", "other"] sp_shorter) :
    ∀ n, MPm P w K mg base CX0 (3 * n + 4) C "rest" ["self", "at", "state", "open_for"] (sp_rest P w K C n) := by
  have ga : MPm P w K mg base CX0 1 C "ahead" ["self", "codes", "rest"] sp_ahead := pm_ahead D1 B
  intro n
  induction n with
  | zero =>
    have g0 : MPm P w K mg base CX0 (3 * 0 + 2) C "signed" ["self", "at", "state", "open_for"] (sp_signed P w K C 0) := by
      obtain ⟨f, fd, F, hm⟩ := D4
      exact ⟨f, fd, ⟨fun vs H Q E h => (signed0 h).elim, fun A outer s H args us vs Q E _ _ _ _ h => (signed0 h).elim⟩, hm, F.binds fun _ _ _ _ _ _ us hl => match us, hl with | [_, _, _, _], _ => rfl⟩
    exact ok_rest D2 T B 0 (ok_found D3 T B 0 g_shorter ga g0)
  | succ n ih =>
    have g1 : MPm P w K mg base CX0 (3 * (n + 1) + 2) C "signed" ["self", "at", "state", "open_for"] (sp_signed P w K C (n + 1)) := ok_signed D4 T B n g_codes_of g_is_common ga ih
    exact ok_rest D2 T B (n + 1) (ok_found D3 T B (n + 1) g_shorter ga g1)
theorem rest_41 (D1 : DefAtM K C "ahead" "Writer.ahead" s_Writer_ahead) (D2 : DefAtM K C "rest" "Writer.rest" s_Writer_rest) (D3 : DefAtM K C "found" "Writer.found" s_Writer_found) (D4 : DefAtM K C "signed" "Writer.signed" s_Writer_signed) (T : WTxt K C) (B : Bl mg)
    (g_codes_of : Pm P w K mg base CX0 1 "codes_of" ["sets", "sign"] (sp_codes_of K)) (g_is_common : Pm P w K mg base CX0 1 "is_common" ["sets", "code"] (sp_common K)) (g_shorter : Pm P w K mg base CX0 1 "shorter" ["one", "other"] sp_shorter) :
    MPm P w K mg base CX0 127 C "rest" ["self", "at", "state", "open_for"] (sp_rest P w K C 41) := all_rest D1 D2 D3 D4 T B g_codes_of g_is_common g_shorter 41
theorem made_writer {f : Addr} {fd : FuncData} (F : Fun K "__init__" "Writer.__init__" s_Writer_init f fd) (T : WTxt K C) (mk : PySem.W.makesIn K C = true) (a : PySem.W.findIn K (.ref C) "__init__" = some (some (.ref f))) (i : PySem.W.isFn K (.ref f) = true) (kc : PySem.W.keepIn K (.ref C) = true) (hm : mg "Writer" = some (.ref C)) :
    Made P w K mg base CX0 1 C "Writer" ["self", "sets", "text", "most"] (sp_init P w C) := ⟨f, fd, ok_init F T, ⟨mk, a, i, kc⟩, F.binds fun _ _ _ _ _ _ us hl => match us, hl with | [_, _, _, _], _ => rfl, hm⟩
abbrev s_guarded_of : Stmt := topS 32
abbrev n_guarded_of : List Str := ["sets", "text", "state", "most"]
theorem sc_guarded_of : FnScope n_guarded_of ["sets", "text", "state", "most"] (defScope s_guarded_of) := ⟨rfl, rfl, rfl, by decide +kernel, rfl, by decide +kernel, by decide +kernel⟩

/-- the least tape: most signs spoilt -/
def leaF (A B : List Nat) (most : Int) (T : List Nat) (st : Int) : List Int := (reF A B most T st none).getD []
theorem leaF_eq {A B : List Nat} {most : Int} {T : List Nat} {st : Int} (h : InSets A B T) (hs : StOk st) : reF A B most T st none = some (leaF A B most T st) := by
  unfold leaF
  have := reF_some (most := most) (op := none) h hs
  cases e : reF A B most T st none with
  | none => rw [e] at this; cases this
  | some l => rfl
theorem leaF_len {A B : List Nat} {most : Int} {T : List Nat} {st : Int} (h : InSets A B T) (hs : StOk st) : (leaF A B most T st).length ≤ 3 * T.length := reF_le A B most T st none _ (leaF_eq h hs)
def sp_guarded_of (K : PySem.W.Frag) : Sp := fun vs H Q _ => ∃ (s : Addr) (A B T : List Nat) (st most : Int), vs = [.ref s, .str (tx T), .int st, .int most] ∧ SetsAt K H s A B ∧ Good A B ∧ InSets A B T ∧ T.length ≤ 41 ∧ StOk st ∧ 0 ≤ most ∧ most ≤ 100 ∧ RetN (.lst (il (leaF A B most T st))) H Q
theorem wp_guarded_of {o : Option Addr} {F : Hp} {Pq : V → Hp → Prop} {s : Addr} {A B T : List Nat} {st most : Int} {E : XK} (hS : SetsAt K F s A B) (g : Good A B) (h1 : InSets A B T) (h2 : T.length ≤ 41) (h3 : StOk st) (h4 : 0 ≤ most) (h5 : most ≤ 100)
    (q : ∀ p, F p = none → Pq (.ref p) (upd F p (.lst (il (leaF A B most T st))))) : Wp o (fun H Q => sp_guarded_of K ([.ref s, .str (tx T), .int st, .int most] ++ []) H Q E) F Pq := fun H w Q k => ⟨s, A, B, T, st, most, rfl, w.t hS, g, h1, h2, h3, h4, h5, RetN.use w q k⟩
theorem pm_guarded_of (D : DefAt K mg "guarded_of" s_guarded_of) (T : Cls K C) (B : Bl mg) (g_Writer : Made P w K mg base CX0 1 C "Writer" ["self", "sets", "text", "most"] (sp_init P w C)) (g_Writer_rest : MPm P w K mg base CX0 127 C "rest" ["self", "at", "state", "open_for"] (sp_rest P w K C 41)) :
    Pm P w K mg base CX0 128 "guarded_of" ["sets", "text", "state", "most"] (sp_guarded_of K) := by
  obtain ⟨f, fd, F, hm⟩ := D
  refine ⟨f, fd, ?_, hm, F.kp, F.binds fun _ _ _ _ _ _ us hl => match us, hl with | [_, _, _, _], _ => rfl⟩
  refine F.ok sc_guarded_of (fun vs H Q E h => ?_) (fun cdv A outer s H vs Q E hr h => ?_)
  · obtain ⟨_, _, _, _, _, _, rfl, _⟩ := h
    rfl
  · obtain ⟨se, A', B', Tx, st, most, rfl, hS, g, hin, hl, hs, m0, m1, k⟩ := h
    refine ⟨_, (pss_cons (ps_ret (pe_mpm T g_Writer_rest (hr.mono (by decide)) pass0 (pe_mk g_Writer (hr.mono (by decide)) pass0 (pa_cons (pv 0) (pa_cons (pv 1) (pa_cons (pv 3) pa_nil)))) (pa_cons pe_int (pa_cons (pv 2) (pa_cons pe_non pa_nil)))))
 pss_nil), ?_⟩
    refine go_st (σ := [some (.ref se), some (.str (tx Tx)), some (.int st), some (.int most)]) rfl ?_
    wtm_at "r"
    refine wp_meth ?_
    wtm_at "r"
    refine wp_make ?_
    wtm_at "r"
    intro x dx nx ndx ne
    intro H1 w1 Q1 k1
    refine ⟨x, se, dx, Tx, most, rfl, w1.ex _ _ upd_same, fun d H2 hd e2 hx hdd => ?_⟩
    have eH : Ex H H2 := fun b u q => by
      have nb : b ≠ x := ne_of_none q nx
      refine e2 _ _ ?_
      rw [rm_ne nb]
      refine w1.ex _ _ ?_
      rw [upd_ne nb, upd_ne (ne_of_none q ndx)]
      exact q
    have hdH : H d = none := by
      have := w1.fr hd
      exact fr_in (fr_in this)
    have W : Wr P w K C A' B' most Tx H x se d dx H2 [] := ⟨eH, hdH, hx, ex_t eH hS, hdd, ⟨fun e he => (by cases he), List.nodup_nil, fun e he => (by cases he)⟩⟩
    refine k1 _ H2 H2 (Wd.bare (exr _)) ⟨rfl, ?_⟩
    refine ⟨x, dx, _, rfl, W.obj, lk_no _ _ _ _ (by decide +kernel) (by decide +kernel) (by decide +kernel) (by decide +kernel), ?_⟩
    wtm_at "r"
    refine wp_rest (i := 0) (op := none) W ⟨g, by omega, m0, m1⟩ (Nat.zero_le _) (by omega) hs trivial fun v F1 ys e1 W1 rs => ?_
    rw [List.drop_zero, leaF_eq hin hs] at rs
    obtain ⟨p, rfl, hp, hp1⟩ := rs
    exact k.out W1.e hp hp1
def leaT (A B T : List Nat) (st : Int) : List Int := leaF A B ((T.length : Int) + 1) T st
def sp_least (K : PySem.W.Frag) : Sp := fun vs H Q _ => ∃ (s : Addr) (A B T : List Nat) (st : Int), vs = [.ref s, .str (tx T), .int st] ∧ SetsAt K H s A B ∧ Good A B ∧ InSets A B T ∧ T.length ≤ 41 ∧ StOk st ∧ RetN (.lst (il (leaT A B T st))) H Q
theorem wp_least {o : Option Addr} {F : Hp} {Pq : V → Hp → Prop} {s : Addr} {A B T : List Nat} {st : Int} {E : XK} (hS : SetsAt K F s A B) (g : Good A B) (h1 : InSets A B T) (h2 : T.length ≤ 41) (h3 : StOk st)
    (q : ∀ p, F p = none → Pq (.ref p) (upd F p (.lst (il (leaT A B T st))))) : Wp o (fun H Q => sp_least K ([.ref s, .str (tx T), .int st] ++ []) H Q E) F Pq := fun H w Q k => ⟨s, A, B, T, st, rfl, w.t hS, g, h1, h2, h3, RetN.use w q k⟩
abbrev s_least : Stmt := topS 30
abbrev n_least : List Str := ["sets", "text", "state"]
theorem sc_least : FnScope n_least ["sets", "text", "state"] (defScope s_least) := ⟨rfl, rfl, rfl, by decide +kernel, rfl, by decide +kernel, by decide +kernel⟩

theorem pm_least (D : DefAt K mg "least" s_least) (B : Bl mg) (g_need_sets : Pm P w K mg base CX0 1 "need_sets" ["sets"] (sp_need_sets K)) (g_need_text : Pm P w K mg base CX0 2 "need_text" ["sets", "text"] (sp_need_text K)) (g_need_state : Pm P w K mg base CX0 1 "need_state" ["state"] (sp_need_state K))
    (g_guarded_of : Pm P w K mg base CX0 128 "guarded_of" ["sets", "text", "state", "most"] (sp_guarded_of K)) : Pm P w K mg base CX0 129 "least" ["sets", "text", "state"] (sp_least K) := by
  obtain ⟨f, fd, F, hm⟩ := D
  refine ⟨f, fd, ?_, hm, F.kp, F.binds fun _ _ _ _ _ _ us hl => match us, hl with | [_, _, _], _ => rfl⟩
  refine F.ok sc_least (fun vs H Q E h => ?_) (fun cdv A outer s H vs Q E hr h => ?_)
  · obtain ⟨_, _, _, _, _, rfl, _⟩ := h
    rfl
  · obtain ⟨se, A', B', Tx, st, rfl, hS, g, hin, hl, hs, k⟩ := h
    have n10 := g.n10
    have ge := g.eq
    refine ⟨_, (pss_cons (ps_expr (pe_pm g_need_sets (hr.mono (by decide)) pass0 (pa_cons (pv 0) pa_nil)))
 (pss_cons (ps_expr (pe_pm g_need_text (hr.mono (by decide)) pass0 (pa_cons (pv 0) (pa_cons (pv 1) pa_nil))))
 (pss_cons (ps_expr (pe_pm g_need_state (hr.mono (by decide)) pass0 (pa_cons (pv 2) pa_nil)))
 (pss_cons (ps_ret (pe_pm g_guarded_of (hr.mono (by decide)) pass0 (pa_cons (pv 0) (pa_cons (pv 1) (pa_cons (pv 2) (pa_cons (pe_op op_addP (pe_callB (lenK K rfl) (by rfl) B.len PySem.boot_len (pa_cons (pv 1) pa_nil)) pe_int) pa_nil))))))
 pss_nil)))), ?_⟩
    refine go_st (σ := [some (.ref se), some (.str (tx Tx)), some (.int st)]) rfl ?_
    wtm_at "r"
    refine wp_need_sets hS g ?_
    wtm_at "r"
    refine wp_need_text hS (by omega) (by omega) hin ?_
    wtm_at "r"
    refine wp_need_state hs ?_
    wtm_at "r"
    refine wp_guarded_of hS g hin hl hs (by omega) (by omega) fun p hp => ?_
    exact k.out (ex_new hp) hp upd_same
abbrev s_guarded : Stmt := topS 33
abbrev n_guarded : List Str := ["sets", "text", "state", "most"]
theorem sc_guarded : FnScope n_guarded ["sets", "text", "state", "most"] (defScope s_guarded) := ⟨rfl, rfl, rfl, by decide +kernel, rfl, by decide +kernel, by decide +kernel⟩

def sp_guarded (K : PySem.W.Frag) : Sp := fun vs H Q _ => ∃ (s : Addr) (A B T : List Nat) (st most : Int), vs = [.ref s, .str (tx T), .int st, .int most] ∧ SetsAt K H s A B ∧ Good A B ∧ InSets A B T ∧ T.length ≤ 41 ∧ StOk st ∧ 0 ≤ most ∧ most ≤ 20 ∧ RetN (.lst (il (leaF A B most T st))) H Q
theorem wp_guarded {o : Option Addr} {F : Hp} {Pq : V → Hp → Prop} {s : Addr} {A B T : List Nat} {st most : Int} {E : XK} (hS : SetsAt K F s A B) (g : Good A B) (h1 : InSets A B T) (h2 : T.length ≤ 41) (h3 : StOk st) (h4 : 0 ≤ most) (h5 : most ≤ 20)
    (q : ∀ p, F p = none → Pq (.ref p) (upd F p (.lst (il (leaF A B most T st))))) : Wp o (fun H Q => sp_guarded K ([.ref s, .str (tx T), .int st, .int most] ++ []) H Q E) F Pq := fun H w Q k => ⟨s, A, B, T, st, most, rfl, w.t hS, g, h1, h2, h3, h4, h5, RetN.use w q k⟩
theorem pm_guarded (D : DefAt K mg "guarded" s_guarded) (B : Bl mg) (c_MOST_SPOILT : ∃ t, mg "MOST_SPOILT" = some (.int 20 t)) (g_need_sets : Pm P w K mg base CX0 1 "need_sets" ["sets"] (sp_need_sets K)) (g_need_text : Pm P w K mg base CX0 2 "need_text" ["sets", "text"] (sp_need_text K)) (g_need_state : Pm P w K mg base CX0 1 "need_state" ["state"] (sp_need_state K))
    (g_guarded_of : Pm P w K mg base CX0 128 "guarded_of" ["sets", "text", "state", "most"] (sp_guarded_of K)) : Pm P w K mg base CX0 129 "guarded" ["sets", "text", "state", "most"] (sp_guarded K) := by
  obtain ⟨f, fd, F, hm⟩ := D
  refine ⟨f, fd, ?_, hm, F.kp, F.binds fun _ _ _ _ _ _ us hl => match us, hl with | [_, _, _, _], _ => rfl⟩
  refine F.ok sc_guarded (fun vs H Q E h => ?_) (fun cdv A outer s H vs Q E hr h => ?_)
  · obtain ⟨_, _, _, _, _, _, rfl, _⟩ := h
    rfl
  · obtain ⟨se, A', B', Tx, st, most, rfl, hS, g, hin, hl, hs, m0, m1, k⟩ := h
    have n10 := g.n10
    have ge := g.eq
    refine ⟨_, (pss_cons (ps_expr (pe_pm g_need_sets (hr.mono (by decide)) pass0 (pa_cons (pv 0) pa_nil)))
 (pss_cons (ps_expr (pe_pm g_need_text (hr.mono (by decide)) pass0 (pa_cons (pv 0) (pa_cons (pv 1) pa_nil))))
 (pss_cons (ps_expr (pe_pm g_need_state (hr.mono (by decide)) pass0 (pa_cons (pv 2) pa_nil)))
 (pss_cons (ps_if (pt_not (pt_chain op_le op_le pe_int (pv 3) (pe_cst c_MOST_SPOILT)))
 (pss_cons ps_never
 pss_nil)
 pss_nil)
 (pss_cons (ps_ret (pe_pm g_guarded_of (hr.mono (by decide)) pass0 (pa_cons (pv 0) (pa_cons (pv 1) (pa_cons (pv 2) (pa_cons (pv 3) pa_nil))))))
 pss_nil))))), ?_⟩
    refine go_st (σ := [some (.ref se), some (.str (tx Tx)), some (.int st), some (.int most)]) rfl ?_
    wtm_at "r"
    refine wp_need_sets hS g ?_
    wtm_at "r"
    refine wp_need_text hS (by omega) (by omega) hin ?_
    wtm_at "r"
    refine wp_need_state hs ?_
    wtm_at "r"
    refine ⟨fun _ => ?_, fun z => (by simp at z; omega)⟩
    wtm_at "r"
    refine bF (by simp; omega) ?_
    wtm_at "r"
    refine wp_guarded_of hS g hin hl hs m0 (by omega) fun p hp => ?_
    exact k.out (ex_new hp) hp upd_same
end
/-! ### exceptions of own classes: their making; what a raising def leaves -/
section
variable {P : Program} {w : World} {K : PySem.W.Frag} {mg : Str → Option Value} {base : Heap}
abbrev s_BadSets_init : Stmt := inClass (topS 2) 0
abbrev n_BadSets_init : List Str := ["self", "why"]
theorem sc_BadSets_init : FnScope n_BadSets_init ["self", "why"] (defScope s_BadSets_init) := ⟨rfl, rfl, rfl, by decide +kernel, rfl, by decide +kernel, by decide +kernel⟩

theorem rz_BadSets {C fI CT : Addr} {fd : FuncData} (F : Fun K "__init__" "BadSets.__init__" s_BadSets_init fI fd) (z_TapeError : TeC K mg "TapeError" CT) (O : OexC K C) (hm : mg "BadSets" = some (.ref C)) (iC : PySem.W.findIn K (.ref C) "__init__" = some (some (.ref fI)))
    (tI : PySem.W.typeIn K (.ref fI) = some (.type "function")) (no : PySem.W.findIn K (.ref C) "why" = some none) : Rz P w K mg base "BadSets" C "why" := by
  refine ⟨O, hm, fI, fd, iC, tI, ?_, F.binds fun _ _ _ _ _ _ us hl => match us, hl with | [_, _], _ => rfl⟩
  refine F.ok sc_BadSets_init (fun vs H Q E h => ?_) (fun cdv A outer s H vs Q E hr h => ?_)
  · obtain ⟨_, _, rfl, _⟩ := h
    rfl
  · obtain ⟨a, v, rfl, ha, k⟩ := h
    exact ⟨_, (pss_cons (ps_expr (pe_teinitK K rfl z_TapeError (pa_cons (pv 0) (pa_cons (pv 1) pa_nil))))
 (pss_cons (ps_ostK K rfl (pv 0) (pv 1))
 pss_nil)), .ref a, rfl, v, rfl, a, C, [v], rfl, by show 1 ≤ 1000; decide, O, ha, v, rfl, .ref a, rfl, a, C, rfl, O, no, .inl ⟨ha, fun dx n ne => k dx n ne⟩⟩
abbrev s_BadTape_init : Stmt := inClass (topS 3) 0
abbrev n_BadTape_init : List Str := ["self", "at"]
theorem sc_BadTape_init : FnScope n_BadTape_init ["self", "at"] (defScope s_BadTape_init) := ⟨rfl, rfl, rfl, by decide +kernel, rfl, by decide +kernel, by decide +kernel⟩

theorem rz_BadTape {C fI CT : Addr} {fd : FuncData} (F : Fun K "__init__" "BadTape.__init__" s_BadTape_init fI fd) (z_TapeError : TeC K mg "TapeError" CT) (O : OexC K C) (hm : mg "BadTape" = some (.ref C)) (iC : PySem.W.findIn K (.ref C) "__init__" = some (some (.ref fI)))
    (tI : PySem.W.typeIn K (.ref fI) = some (.type "function")) (no : PySem.W.findIn K (.ref C) "at" = some none) : Rz P w K mg base "BadTape" C "at" := by
  refine ⟨O, hm, fI, fd, iC, tI, ?_, F.binds fun _ _ _ _ _ _ us hl => match us, hl with | [_, _], _ => rfl⟩
  refine F.ok sc_BadTape_init (fun vs H Q E h => ?_) (fun cdv A outer s H vs Q E hr h => ?_)
  · obtain ⟨_, _, rfl, _⟩ := h
    rfl
  · obtain ⟨a, v, rfl, ha, k⟩ := h
    exact ⟨_, (pss_cons (ps_expr (pe_teinitK K rfl z_TapeError (pa_cons (pv 0) (pa_cons (pv 1) pa_nil))))
 (pss_cons (ps_ostK K rfl (pv 0) (pv 1))
 pss_nil)), .ref a, rfl, v, rfl, a, C, [v], rfl, by show 1 ≤ 1000; decide, O, ha, v, rfl, .ref a, rfl, a, C, rfl, O, no, .inl ⟨ha, fun dx n ne => k dx n ne⟩⟩
abbrev s_BadText_init : Stmt := inClass (topS 6) 0
abbrev n_BadText_init : List Str := ["self", "place"]
theorem sc_BadText_init : FnScope n_BadText_init ["self", "place"] (defScope s_BadText_init) := ⟨rfl, rfl, rfl, by decide +kernel, rfl, by decide +kernel, by decide +kernel⟩

theorem rz_BadText {C fI CT : Addr} {fd : FuncData} (F : Fun K "__init__" "BadText.__init__" s_BadText_init fI fd) (z_TapeError : TeC K mg "TapeError" CT) (O : OexC K C) (hm : mg "BadText" = some (.ref C)) (iC : PySem.W.findIn K (.ref C) "__init__" = some (some (.ref fI)))
    (tI : PySem.W.typeIn K (.ref fI) = some (.type "function")) (no : PySem.W.findIn K (.ref C) "place" = some none) : Rz P w K mg base "BadText" C "place" := by
  refine ⟨O, hm, fI, fd, iC, tI, ?_, F.binds fun _ _ _ _ _ _ us hl => match us, hl with | [_, _], _ => rfl⟩
  refine F.ok sc_BadText_init (fun vs H Q E h => ?_) (fun cdv A outer s H vs Q E hr h => ?_)
  · obtain ⟨_, _, rfl, _⟩ := h
    rfl
  · obtain ⟨a, v, rfl, ha, k⟩ := h
    exact ⟨_, (pss_cons (ps_expr (pe_teinitK K rfl z_TapeError (pa_cons (pv 0) (pa_cons (pv 1) pa_nil))))
 (pss_cons (ps_ostK K rfl (pv 0) (pv 1))
 pss_nil)), .ref a, rfl, v, rfl, a, C, [v], rfl, by show 1 ≤ 1000; decide, O, ha, v, rfl, .ref a, rfl, a, C, rfl, O, no, .inl ⟨ha, fun dx n ne => k dx n ne⟩⟩
end
/-- an exception of C with f = v in its own dict -/
def RetE (C : Addr) (f : Str) (v : V) (H : Hp) (E : XK) : Prop := ∀ d H2, H d = none → Ex H H2 → H2 d = some (.xd [(f, v)]) → E (.ref C) (some d) H2
section
variable {o : Option Addr} {F F1 H : Hp} {C : Addr} {f : Str} {v : V} {E : XK}
theorem RetE.out (k : RetE C f v H E) (e : Ex H F1) : ∀ H1, Wd o F1 H1 → ∀ d H2, H1 d = none → Ex H1 H2 → H2 d = some (.xd [(f, v)]) → E (.ref C) (some d) H2 := fun H1 w d H2 n e2 hx => k d H2 ((e.trans w.ex).free n) ((e.trans w.ex).trans e2) hx
theorem RetE.use (w : Wd o F H) (k : ∀ d H2, Wd o F H2 → H2 d = some (.xd [(f, v)]) → F d = none → (∀ b, o = some b → b ≠ d) → E (.ref C) (some d) H2) : RetE C f v H E := fun d H2 n e hx => k d H2 (w.up e) hx (w.fr n) (w.ned n)
end
/-! the first code that is none -/
def BadC (n i : Nat) (c : Int) : Prop := 200 ≤ i ∨ c < 0 ∨ (n : Int) + 2 ≤ c
def FirstB (n : Nat) (cs : List Int) : Option Nat → Prop
  | none => ∀ i c, cs[i]? = some c → ¬ BadC n i c
  | some i => (∃ c, cs[i]? = some c ∧ BadC n i c) ∧ ∀ j c, j < i → cs[j]? = some c → ¬ BadC n j c
theorem first_ex (n : Nat) (cs : List Int) : ∃ x, FirstB n cs x := by
  by_cases h : ∀ i c, cs[i]? = some c → ¬ BadC n i c
  · exact ⟨none, h⟩
  · have h : ∃ i, ∃ c, cs[i]? = some c ∧ BadC n i c := by
      refine Classical.byContradiction fun z => h fun i c hc hb => z ⟨i, c, hc, hb⟩
    have key : ∀ m i, i ≤ m → (∃ c, cs[i]? = some c ∧ BadC n i c) → ∃ x, FirstB n cs x := by
      intro m
      induction m with
      | zero =>
        intro i hi hb
        have : i = 0 := by omega
        subst this
        exact ⟨some 0, hb, fun j c hj => absurd hj (Nat.not_lt_zero _)⟩
      | succ m ih =>
        intro i hi hb
        by_cases h2 : ∃ j, j < i ∧ ∃ c, cs[j]? = some c ∧ BadC n j c
        · obtain ⟨j, hj, hb2⟩ := h2
          exact ih j (by omega) hb2
        · exact ⟨some i, hb, fun j c hj hc hb3 => h2 ⟨j, hj, c, hc, hb3⟩⟩
    obtain ⟨i, hb⟩ := h
    exact key i i (Nat.le_refl _) hb
theorem first_uq {n : Nat} {cs : List Int} {x : Option Nat} {i : Nat} {c : Int} (h : FirstB n cs x) (hc : cs[i]? = some c) (hb : BadC n i c) (hp : ∀ j d, j < i → cs[j]? = some d → ¬ BadC n j d) : x = some i := by
  cases x with
  | none => exact absurd hb (h i c hc)
  | some j =>
    obtain ⟨⟨d, hd, hb2⟩, h2⟩ := h
    by_cases h3 : j < i
    · exact absurd hb2 (hp j d h3 hd)
    · by_cases h4 : i < j
      · exact absurd hb (h2 i c h4 hc)
      · rw [show j = i by omega]
section
variable {P : Program} {w : World} {K : PySem.W.Frag} {mg : Str → Option Value} {base : Heap}
def sp_need_tapeX (K : PySem.W.Frag) (CA : Addr) : Sp := fun vs H Q E => ∃ (s t : Addr) (A B : List Nat) (cs : List Int) (x : Option Nat), vs = [.ref s, .ref t] ∧ SetsAt K H s A B ∧ SqL K H t (il cs) ∧ A.length ≤ 100 ∧ cs.length ≤ 1000 ∧ FirstB A.length cs x ∧
  (match x with | none => RetV .non H Q | some i => RetE CA "at" (.int (i : Nat)) H E)
theorem wp_need_tapeX {o : Option Addr} {F : Hp} {Pq : V → Hp → Prop} {CA s t : Addr} {A B : List Nat} {cs : List Int} {x : Option Nat} {E : XK} (hS : SetsAt K F s A B) (hT : SqL K F t (il cs)) (hA : A.length ≤ 100) (hl : cs.length ≤ 1000) (hx : FirstB A.length cs x)
    (q1 : x = none → Pq .non F) (q2 : ∀ i, x = some i → ∀ d H2, Wd o F H2 → H2 d = some (.xd [("at", .int (i : Nat))]) → F d = none → (∀ b, o = some b → b ≠ d) → E (.ref CA) (some d) H2) : Wp o (fun H Q => sp_need_tapeX K CA ([.ref s, .ref t] ++ []) H Q E) F Pq := fun H w Q k =>
  ⟨s, t, A, B, cs, x, rfl, w.t hS, w.l hT, hA, hl, hx, by
    cases x with
    | none => exact RetV.use w (q1 rfl) k
    | some i => exact RetE.use w (q2 i rfl)⟩
theorem pm_need_tapeX {CA : Addr} (D : DefAt K mg "need_tape" s_need_tape) (B : Bl mg) (c_MOST_CODES : ∃ t, mg "MOST_CODES" = some (.int 200 t)) (z_BadTape : Rz P w K mg base "BadTape" CA "at") : Pm P w K mg base (L2N.CX P w) 3 "need_tape" ["sets", "tape"] (sp_need_tapeX K CA) := by
  obtain ⟨f, fd, F, hm⟩ := D
  refine ⟨f, fd, ?_, hm, F.kp, F.binds fun _ _ _ _ _ _ us hl => match us, hl with | [_, _], _ => rfl⟩
  refine okXN F sc_need_tape (fun vs H Q E h => ?_) (fun cdv A outer s H vs Q E hr h => ?_)
  · obtain ⟨_, _, _, _, _, _, rfl, _⟩ := h
    rfl
  · obtain ⟨s, t, A', B', cs, x, rfl, hS, hT, hA, hl, hx, k⟩ := h
    refine ⟨_, (pss_cons (ps_for (passes_of rfl) rfl (piE K rfl B.enumerate (pa_cons (pv 1) pa_nil)) (pgT K rfl (n := 2) rfl (pgs_cons (pg_name (i := 2) sc_need_tape.nd rfl (Or.inl rfl)) (pgs_cons (pg_name (i := 3) sc_need_tape.nd rfl (Or.inl rfl)) pgs_nil)))
 (pss_cons (ps_if (PW.pt (pw_or (pt_cmpR op_ge (pv 2) (pe_cst c_MOST_CODES) (nomark _)) (pw_or1 (pt_not (pt_chain op_le op_lt pe_int (pv 3) (pe_op op_addP (pe_callB (lenK K rfl) (by rfl) B.len PySem.boot_len (pa_cons (pe_ix (ixK K rfl) (pv 0) pe_int (fun _ _ => rfl)) pa_nil)) pe_int))))))
 (pss_cons (ps_rz z_BadTape rfl (hr.mono (by decide)) (L2N.takes_of rfl rfl rfl rfl) (pa_cons (pv 2) pa_nil))
 pss_nil)
 pss_nil)
 pss_nil))
 pss_nil), ?_⟩
    refine go_st (σ := [some (.ref s), some (.ref t), none, none]) rfl ?_
    refine go_forE (fun i σ F => ∃ x y, σ = [some (.ref s), some (.ref t), x, y] ∧ Ex H F ∧ ∀ j c, j < i → cs[j]? = some c → ¬ BadC A'.length j c) ?_
    wtm_at "r"
    refine ⟨t, il cs, rfl, hT, ⟨none, none, rfl, exr H, fun j c hj => absurd hj (Nat.not_lt_zero _)⟩, fun i σ F hi ⟨_, _, _, e, _⟩ => ex_l e hT, ?_, ?_⟩
    · rintro i y σ F p hy hp ⟨x0, y0, rfl, e, hg⟩
      obtain ⟨c, hcy, rfl, hmem⟩ := il_at hy
      have hi : i < cs.length := (List.getElem?_eq_some_iff.mp hcy).1
      have ep : Ex H (upd F p (.tup [.int (i : Nat), .int c])) := e.trans (ex_new hp)
      have hS2 := ex_t ep hS
      have boom : BadC A'.length i c → ∀ H1, Wd none (upd F p (.tup [.int (i : Nat), .int c])) H1 → ∀ d H2, H1 d = none → Ex H1 H2 → H2 d = some (.xd [("at", .int (i : Nat))]) → E (.ref CA) (some d) H2 := fun hb => by
        have ex := first_uq hx hcy hb hg
        subst ex
        exact RetE.out k ep
      wtm_at "r"
      refine ⟨fun h1 => ?_, fun h1 => ?_⟩
      · have h1 := of_decide_eq_true h1
        refine bT rfl ?_
        refine go_rz ?_
        wtm_at "r"
        exact ⟨_, rfl, boom (.inl (by omega))⟩
      · have h1 := of_decide_eq_false h1
        wtm_at "r"
        refine ⟨fun h2 => ?_, fun h2 => ?_⟩
        · have h2 := of_decide_eq_true h2
          wtm_at "r"
          refine ⟨fun h3 => ?_, fun h3 => ?_⟩
          · have h3 : ¬ c < (A'.length : Int) + 2 := by simpa using h3
            refine go_rz ?_
            wtm_at "r"
            exact ⟨_, rfl, boom (.inr (.inr (by omega)))⟩
          · have h3 : c < (A'.length : Int) + 2 := by simpa using h3
            wtm_at "r"
            refine go_turn rfl ⟨_, _, rfl, ep, fun j c2 hj hc2 hb => ?_⟩
            by_cases hji : j < i
            · exact hg j c2 hji hc2 hb
            · have : j = i := by omega
              subst this
              rw [hcy] at hc2
              cases hc2
              rcases hb with hb | hb | hb <;> omega
        · have h2 := of_decide_eq_false h2
          wtm_at "r"
          refine bT rfl ?_
          refine go_rz ?_
          wtm_at "r"
          exact ⟨_, rfl, boom (.inr (.inl (by omega)))⟩
    · rintro σ F ⟨_, _, rfl, e, hg⟩
      have ex : x = none := by
        cases x with
        | none => rfl
        | some i =>
          obtain ⟨⟨c, hc, hb⟩, _⟩ := hx
          exact absurd hb (hg i c (by rw [List.length_map]; exact (List.getElem?_eq_some_iff.mp hc).1) hc)
      subst ex
      exact RetV.out k e
end
/-! ### tapes, states, texts and numbers that are refused -/
section
variable {P : Program} {w : World} {K : PySem.W.Frag} {mg : Str → Option Value} {base : Heap}
abbrev s_NoSign_init : Stmt := inClass (topS 4) 0
abbrev n_NoSign_init : List Str := ["self", "at"]
theorem sc_NoSign_init : FnScope n_NoSign_init ["self", "at"] (defScope s_NoSign_init) := ⟨rfl, rfl, rfl, by decide +kernel, rfl, by decide +kernel, by decide +kernel⟩

theorem rz_NoSign {C fI CT : Addr} {fd : FuncData} (F : Fun K "__init__" "NoSign.__init__" s_NoSign_init fI fd) (z_TapeError : TeC K mg "TapeError" CT) (O : OexC K C) (hm : mg "NoSign" = some (.ref C)) (iC : PySem.W.findIn K (.ref C) "__init__" = some (some (.ref fI)))
    (tI : PySem.W.typeIn K (.ref fI) = some (.type "function")) (no : PySem.W.findIn K (.ref C) "at" = some none) : Rz P w K mg base "NoSign" C "at" := by
  refine ⟨O, hm, fI, fd, iC, tI, ?_, F.binds fun _ _ _ _ _ _ us hl => match us, hl with | [_, _], _ => rfl⟩
  refine F.ok sc_NoSign_init (fun vs H Q E h => ?_) (fun cdv A outer s H vs Q E hr h => ?_)
  · obtain ⟨_, _, rfl, _⟩ := h
    rfl
  · obtain ⟨a, v, rfl, ha, k⟩ := h
    exact ⟨_, (pss_cons (ps_expr (pe_teinitK K rfl z_TapeError (pa_cons (pv 0) (pa_cons (pv 1) pa_nil))))
 (pss_cons (ps_ostK K rfl (pv 0) (pv 1))
 pss_nil)), .ref a, rfl, v, rfl, a, C, [v], rfl, by show 1 ≤ 1000; decide, O, ha, v, rfl, .ref a, rfl, a, C, rfl, O, no, .inl ⟨ha, fun dx n ne => k dx n ne⟩⟩
end
/-- an exception of C without a dict of its own -/
def RetU (C : Addr) (H : Hp) (E : XK) : Prop := ∀ H2, Ex H H2 → E (.ref C) none H2
theorem RetU.at {o : Option Addr} {F H H1 : Hp} {C : Addr} {E : XK} (k : RetU C H E) (e : Ex H F) (w : Wd o F H1) : RetU C H1 E := fun H2 e2 => k H2 ((e.trans w.ex).trans e2)
theorem RetE.at {o : Option Addr} {F H H1 : Hp} {C : Addr} {f : Str} {v : V} {E : XK} (k : RetE C f v H E) (e : Ex H F) (w : Wd o F H1) : RetE C f v H1 E := fun d H2 n e2 hx => k d H2 ((e.trans w.ex).free n) ((e.trans w.ex).trans e2) hx
/-- the class of refused numbers -/
structure NumC (K : PySem.W.Frag) (mg : Str → Option Value) (C : Addr) : Prop where
  m : mg "BadNumber" = some (.ref C)
  q : PySem.W.excIn K C [.type "ValueError", .type "Exception", .type "BaseException", .type "object"] "ValueError.__new__" = true
  kC : PySem.W.keepIn K (.ref C) = true
  exC : PySem.W.subIn K (.ref C) (.type "BaseException") = some true
  tyC : PySem.W.typeIn K (.ref C) = some (.type "type")
def tRzN (C : Addr) (W : WX) : TS := fun _ σ H => W (.ref C) none σ H
theorem ps_rzN {X : Cx} {W : WX} {m : Str} {C : Addr} {j : Nat} {p p2 pos pos' : Pos} (G : NumC X.K X.mg C) (hc : X.calm = true) (tk : L2N.Takes X W) (hg : Gl X "BadNumber" := by rfl) : PS X (.Raise (some (.Call (.Name "BadNumber" p) [.Constant (.str m) j p2] [] pos)) none pos') (tRzN C W) :=
  L2N.ps_raise (pos := pos') hc tk (L2N.pmk_own PySem.F.excBase_ValueError G.q G.m G.kC (raises_own G.exC G.tyC) hg)
section
variable {o : Option Addr} {F : Hp} {σ : L2.St} {D : Ends} {tz : TS}
theorem go_rzN {W : WX} {C : Addr} (h : ∀ H, Wd o F H → W (.ref C) none σ H) : Go o (tSeq (tRzN C W) tz) D σ F := fun H w => h H w
end
/-- what a tape's refusal comes to -/
def XOut (CA CM : Addr) (x : Option Nat) (H : Hp) (E : XK) : Prop := match x with
  | some i => RetE CA "at" (.int (i : Nat)) H E
  | none => RetU CM H E
theorem XOut.at {o : Option Addr} {F H H1 : Hp} {CA CM : Addr} {x : Option Nat} {E : XK} (k : XOut CA CM x H E) (e : Ex H F) (w : Wd o F H1) : XOut CA CM x H1 E := by
  cases x with
  | none => exact RetU.at k e w
  | some i => exact RetE.at k e w
/-- the first sign that stands in no set -/
def FirstT (A B T : List Nat) : Option Nat → Prop
  | none => InSets A B T
  | some i => (∃ c, T[i]? = some c ∧ c ∉ A ∧ c ∉ B) ∧ ∀ j c, j < i → T[j]? = some c → c ∈ A ∨ c ∈ B
theorem firstT_uq {A B T : List Nat} {y : Option Nat} {i c : Nat} (h : FirstT A B T y) (hc : T[i]? = some c) (h1 : c ∉ A) (h2 : c ∉ B) (hp : ∀ j d, j < i → T[j]? = some d → d ∈ A ∨ d ∈ B) : y = some i := by
  cases y with
  | none => exact ((h c (List.mem_of_getElem? hc)).elim h1 h2).elim
  | some j =>
    obtain ⟨⟨d, hd, d1, d2⟩, h3⟩ := h
    by_cases hj : j < i
    · exact ((hp j d hj hd).elim d1 d2).elim
    · by_cases hj2 : i < j
      · exact ((h3 i c hj2 hc).elim h1 h2).elim
      · rw [show j = i by omega]
section
variable {P : Program} {w : World} {K : PySem.W.Frag} {mg : Str → Option Value} {base : Heap}
theorem wp_tapE {o : Option Addr} {F H0 : Hp} {Pq : V → Hp → Prop} {CA s t : Addr} {A B : List Nat} {cs : List Int} {i : Nat} {E : XK} (hS : SetsAt K F s A B) (hT : SqL K F t (il cs)) (hA : A.length ≤ 100) (hl : cs.length ≤ 1000) (hx : FirstB A.length cs (some i)) (k : RetE CA "at" (.int (i : Nat)) H0 E) (e : Ex H0 F) :
    Wp o (fun H Q => sp_need_tapeX K CA ([.ref s, .ref t] ++ []) H Q E) F Pq :=
  wp_need_tapeX hS hT hA hl hx (fun z => by cases z) fun j hj d H2 w2 hx2 n2 _ => by
    cases hj
    exact k d H2 (e.free n2) (e.trans w2.ex) hx2
theorem wp_tapN {o : Option Addr} {F : Hp} {Pq : V → Hp → Prop} {CA s t : Addr} {A B : List Nat} {cs : List Int} {E : XK} (hS : SetsAt K F s A B) (hT : SqL K F t (il cs)) (hA : A.length ≤ 100) (hl : cs.length ≤ 1000) (hx : FirstB A.length cs none) (q : Pq .non F) :
    Wp o (fun H Q => sp_need_tapeX K CA ([.ref s, .ref t] ++ []) H Q E) F Pq := wp_need_tapeX hS hT hA hl hx (fun _ => q) fun j hj => by cases hj
def sp_need_stateX (CM : Addr) : Sp := fun vs H Q E => ∃ (st : Int), vs = [.int st] ∧ (StOk st → RetV .non H Q) ∧ (¬ StOk st → RetU CM H E)
theorem wp_stateU {o : Option Addr} {F H0 : Hp} {Pq : V → Hp → Prop} {CM : Addr} {st : Int} {E : XK} (h : ¬ StOk st) (k : RetU CM H0 E) (e : Ex H0 F) : Wp o (fun H Q => sp_need_stateX CM ([.int st] ++ []) H Q E) F Pq := fun H w Q _ => ⟨st, rfl, fun z => (h z).elim, fun _ => k.at e w⟩
theorem wp_stateN {o : Option Addr} {F : Hp} {Pq : V → Hp → Prop} {CM : Addr} {st : Int} {E : XK} (h : StOk st) (q : Pq .non F) : Wp o (fun H Q => sp_need_stateX CM ([.int st] ++ []) H Q E) F Pq := fun H w Q k => ⟨st, rfl, fun _ => RetV.use w q k, fun z => (z h).elim⟩
theorem pm_need_stateX {CM : Addr} (D : DefAt K mg "need_state" s_need_state) (z_BadNumber : NumC K mg CM) : Pm P w K mg base (L2N.CX P w) 1 "need_state" ["state"] (sp_need_stateX CM) := by
  obtain ⟨f, fd, F, hm⟩ := D
  refine ⟨f, fd, ?_, hm, F.kp, F.binds fun _ _ _ _ _ _ us hl => match us, hl with | [_], _ => rfl⟩
  refine okXN F sc_need_state (fun vs H Q E h => ?_) (fun cdv A outer s H vs Q E hr h => ?_)
  · obtain ⟨_, rfl, _⟩ := h
    rfl
  · obtain ⟨st, rfl, k1, k2⟩ := h
    refine ⟨_, (pss_cons (ps_if (pt_cmpR (niK K rfl) (pv 0) (pe_tup (pa_cons pe_int (pa_cons pe_int pa_nil))) (by rfl))
 (pss_cons (ps_rzN z_BadNumber rfl (L2N.takes_of rfl rfl rfl rfl))
 pss_nil)
 pss_nil)
 pss_nil), ?_⟩
    refine go_st (σ := [some (.int st)]) rfl ?_
    wtm_at "r"
    refine ⟨(by show 2 ≤ 100000; decide), fun p hp => ?_⟩
    refine wp_niT (SqT.of upd_same) rfl rfl ?_
    wtm_at "r"
    by_cases hst : StOk st
    · refine bF ?_ ?_
      · rcases hst with h | h <;> subst h <;> rfl
      wtm_at "r"
      exact (k1 hst).out (ex_new hp)
    · have h0 : st ≠ 0 := fun z => hst (.inl z)
      have h1 : st ≠ 1 := fun z => hst (.inr z)
      refine bT ?_ ?_
      · have e0 : eqV (.int 0) (.int st) = false := by
          show decide ((0 : Int) = st) = false
          exact decide_eq_false fun z => h0 z.symm
        have e1 : eqV (.int 1) (.int st) = false := by
          show decide ((1 : Int) = st) = false
          exact decide_eq_false fun z => h1 z.symm
        show (!(eqV (.int 0) (.int st) || (eqV (.int 1) (.int st) || false))) = true
        rw [e0, e1]
        rfl
      · refine go_rzN fun H1 w1 => ?_
        exact k2 hst H1 ((ex_new hp).trans w1.ex)
def sp_allX (K : PySem.W.Frag) (CA CM : Addr) : Sp := fun vs H Q E => ∃ (s t : Addr) (A B : List Nat) (cs : List Int) (st : Int) (x : Option Nat), vs = [.ref s, .ref t, .int st] ∧ SetsAt K H s A B ∧ Good A B ∧ SqL K H t (il cs) ∧ cs.length ≤ 1000 ∧ FirstB A.length cs x ∧ ¬ StOk st ∧ XOut CA CM x H E
theorem wp_allX {o : Option Addr} {F H0 : Hp} {Pq : V → Hp → Prop} {CA CM s t : Addr} {A B : List Nat} {cs : List Int} {st : Int} {x : Option Nat} {E : XK} (hS : SetsAt K F s A B) (g : Good A B) (hT : SqL K F t (il cs)) (hl : cs.length ≤ 1000) (hx : FirstB A.length cs x) (hst : ¬ StOk st) (k : XOut CA CM x H0 E) (e : Ex H0 F) :
    Wp o (fun H Q => sp_allX K CA CM ([.ref s, .ref t, .int st] ++ []) H Q E) F Pq := fun H w Q _ => ⟨s, t, A, B, cs, st, x, rfl, w.t hS, g, w.l hT, hl, hx, hst, k.at e w⟩
theorem pm_need_allX {CA CM : Addr} (D : DefAt K mg "need_all" s_need_all) (g_need_sets : Pm P w K mg base CX0 1 "need_sets" ["sets"] (sp_need_sets K)) (g_need_tape_x : Pm P w K mg base (L2N.CX P w) 3 "need_tape" ["sets", "tape"] (sp_need_tapeX K CA)) (g_need_state_x : Pm P w K mg base (L2N.CX P w) 1 "need_state" ["state"] (sp_need_stateX CM)) :
    Pm P w K mg base (L2N.CX P w) 4 "need_all" ["sets", "tape", "state"] (sp_allX K CA CM) := by
  obtain ⟨f, fd, F, hm⟩ := D
  refine ⟨f, fd, ?_, hm, F.kp, F.binds fun _ _ _ _ _ _ us hl => match us, hl with | [_, _, _], _ => rfl⟩
  refine okXN F sc_need_all (fun vs H Q E h => ?_) (fun cdv A outer s H vs Q E hr h => ?_)
  · obtain ⟨_, _, _, _, _, _, _, rfl, _⟩ := h
    rfl
  · obtain ⟨s, t, A', B', cs, st, x, rfl, hS, g, hT, hl, hx, hst, k⟩ := h
    have n10 := g.n10
    refine ⟨_, (pss_cons (ps_expr (pe_pm g_need_sets (hr.mono (by decide)) pass0 (pa_cons (pv 0) pa_nil)))
 (pss_cons (ps_expr (pe_pm g_need_tape_x (hr.mono (by decide)) (L2N.passes_call (L2N.takes_of rfl rfl rfl rfl) (fun _ _ _ _ h => h)) (pa_cons (pv 0) (pa_cons (pv 1) pa_nil))))
 (pss_cons (ps_expr (pe_pm g_need_state_x (hr.mono (by decide)) (L2N.passes_call (L2N.takes_of rfl rfl rfl rfl) (fun _ _ _ _ h => h)) (pa_cons (pv 2) pa_nil)))
 pss_nil))), ?_⟩
    refine go_st (σ := [some (.ref s), some (.ref t), some (.int st)]) rfl ?_
    wtm_at "r"
    refine wp_need_sets hS g ?_
    wtm_at "r"
    cases x with
    | some i => exact wp_tapE hS hT (by omega) hl hx k (exr H)
    | none =>
      refine wp_tapN hS hT (by omega) hl hx ?_
      wtm_at "r"
      exact wp_stateU hst k (exr H)
theorem pm_readX {CA CM : Addr} (D : DefAt K mg "read" s_read) (g_need_all_x : Pm P w K mg base (L2N.CX P w) 4 "need_all" ["sets", "tape", "state"] (sp_allX K CA CM)) : Pm P w K mg base (L2N.CX P w) 5 "read" ["sets", "tape", "state"] (sp_allX K CA CM) := by
  obtain ⟨f, fd, F, hm⟩ := D
  refine ⟨f, fd, ?_, hm, F.kp, F.binds fun _ _ _ _ _ _ us hl => match us, hl with | [_, _, _], _ => rfl⟩
  refine okXN F sc_read (fun vs H Q E h => ?_) (fun cdv A outer s H vs Q E hr h => ?_)
  · obtain ⟨_, _, _, _, _, _, _, rfl, _⟩ := h
    rfl
  · obtain ⟨s, t, A', B', cs, st, x, rfl, hS, g, hT, hl, hx, hst, k⟩ := h
    refine ⟨_, (pss_cons (ps_expr (pe_pm g_need_all_x (hr.mono (by decide)) (L2N.passes_call (L2N.takes_of rfl rfl rfl rfl) (fun _ _ _ _ h => h)) (pa_cons (pv 0) (pa_cons (pv 1) (pa_cons (pv 2) pa_nil)))))
 pss_never), ?_⟩
    refine go_st (σ := [some (.ref s), some (.ref t), some (.int st)]) rfl ?_
    wtm_at "r"
    exact wp_allX hS g hT hl hx hst k (exr H)
abbrev s_losses : Stmt := topS 22
abbrev n_losses : List Str := ["sets", "tape", "state", "at"]
theorem sc_losses : FnScope n_losses ["sets", "tape", "state"] (defScope s_losses) := ⟨rfl, rfl, rfl, by decide +kernel, rfl, by decide +kernel, by decide +kernel⟩

theorem pm_lossesX {CA CM : Addr} (D : DefAt K mg "losses" s_losses) (g_need_all_x : Pm P w K mg base (L2N.CX P w) 4 "need_all" ["sets", "tape", "state"] (sp_allX K CA CM)) : Pm P w K mg base (L2N.CX P w) 5 "losses" ["sets", "tape", "state"] (sp_allX K CA CM) := by
  obtain ⟨f, fd, F, hm⟩ := D
  refine ⟨f, fd, ?_, hm, F.kp, F.binds fun _ _ _ _ _ _ us hl => match us, hl with | [_, _, _], _ => rfl⟩
  refine okXN F sc_losses (fun vs H Q E h => ?_) (fun cdv A outer s H vs Q E hr h => ?_)
  · obtain ⟨_, _, _, _, _, _, _, rfl, _⟩ := h
    rfl
  · obtain ⟨s, t, A', B', cs, st, x, rfl, hS, g, hT, hl, hx, hst, k⟩ := h
    refine ⟨_, (pss_cons (ps_expr (pe_pm g_need_all_x (hr.mono (by decide)) (L2N.passes_call (L2N.takes_of rfl rfl rfl rfl) (fun _ _ _ _ h => h)) (pa_cons (pv 0) (pa_cons (pv 1) (pa_cons (pv 2) pa_nil)))))
 pss_never), ?_⟩
    refine go_st (σ := [some (.ref s), some (.ref t), some (.int st), none]) rfl ?_
    wtm_at "r"
    exact wp_allX hS g hT hl hx hst k (exr H)
abbrev s_worst : Stmt := topS 23
abbrev n_worst : List Str := ["sets", "tape", "state", "found"]
theorem sc_worst : FnScope n_worst ["sets", "tape", "state"] (defScope s_worst) := ⟨rfl, rfl, rfl, by decide +kernel, rfl, by decide +kernel, by decide +kernel⟩

theorem pm_worstX {CA CM : Addr} (D : DefAt K mg "worst" s_worst) (g_losses_x : Pm P w K mg base (L2N.CX P w) 5 "losses" ["sets", "tape", "state"] (sp_allX K CA CM)) : Pm P w K mg base (L2N.CX P w) 6 "worst" ["sets", "tape", "state"] (sp_allX K CA CM) := by
  obtain ⟨f, fd, F, hm⟩ := D
  refine ⟨f, fd, ?_, hm, F.kp, F.binds fun _ _ _ _ _ _ us hl => match us, hl with | [_, _, _], _ => rfl⟩
  refine okXN F sc_worst (fun vs H Q E h => ?_) (fun cdv A outer s H vs Q E hr h => ?_)
  · obtain ⟨_, _, _, _, _, _, _, rfl, _⟩ := h
    rfl
  · obtain ⟨s, t, A', B', cs, st, x, rfl, hS, g, hT, hl, hx, hst, k⟩ := h
    refine ⟨_, (pss_cons (ps_set (i := 3) sc_worst.nd rfl (Or.inl rfl) (pe_pm g_losses_x (hr.mono (by decide)) (L2N.passes_call (L2N.takes_of rfl rfl rfl rfl) (fun _ _ _ _ h => h)) (pa_cons (pv 0) (pa_cons (pv 1) (pa_cons (pv 2) pa_nil)))))
 pss_never), ?_⟩
    refine go_st (σ := [some (.ref s), some (.ref t), some (.int st), none]) rfl ?_
    wtm_at "r"
    exact wp_allX hS g hT hl hx hst k (exr H)
theorem pm_trimmedX {CA CM : Addr} (D : DefAt K mg "trimmed" s_trimmed) (g_need_all_x : Pm P w K mg base (L2N.CX P w) 4 "need_all" ["sets", "tape", "state"] (sp_allX K CA CM)) : Pm P w K mg base (L2N.CX P w) 5 "trimmed" ["sets", "tape", "state"] (sp_allX K CA CM) := by
  obtain ⟨f, fd, F, hm⟩ := D
  refine ⟨f, fd, ?_, hm, F.kp, F.binds fun _ _ _ _ _ _ us hl => match us, hl with | [_, _, _], _ => rfl⟩
  refine okXN F sc_trimmed (fun vs H Q E h => ?_) (fun cdv A outer s H vs Q E hr h => ?_)
  · obtain ⟨_, _, _, _, _, _, _, rfl, _⟩ := h
    rfl
  · obtain ⟨s, t, A', B', cs, st, x, rfl, hS, g, hT, hl, hx, hst, k⟩ := h
    refine ⟨_, (pss_cons (ps_expr (pe_pm g_need_all_x (hr.mono (by decide)) (L2N.passes_call (L2N.takes_of rfl rfl rfl rfl) (fun _ _ _ _ h => h)) (pa_cons (pv 0) (pa_cons (pv 1) (pa_cons (pv 2) pa_nil)))))
 pss_never), ?_⟩
    refine go_st (σ := [some (.ref s), some (.ref t), some (.int st), none, none, none, none]) rfl ?_
    wtm_at "r"
    exact wp_allX hS g hT hl hx hst k (exr H)
def sp_tapX (K : PySem.W.Frag) (CA : Addr) : Sp := fun vs H Q E => ∃ (s t : Addr) (A B : List Nat) (cs : List Int) (i : Nat), vs = [.ref s, .ref t] ∧ SetsAt K H s A B ∧ Good A B ∧ SqL K H t (il cs) ∧ cs.length ≤ 1000 ∧ FirstB A.length cs (some i) ∧ RetE CA "at" (.int (i : Nat)) H E
theorem wp_tapX {o : Option Addr} {F H0 : Hp} {Pq : V → Hp → Prop} {CA s t : Addr} {A B : List Nat} {cs : List Int} {i : Nat} {E : XK} (hS : SetsAt K F s A B) (g : Good A B) (hT : SqL K F t (il cs)) (hl : cs.length ≤ 1000) (hx : FirstB A.length cs (some i)) (k : RetE CA "at" (.int (i : Nat)) H0 E) (e : Ex H0 F) :
    Wp o (fun H Q => sp_tapX K CA ([.ref s, .ref t] ++ []) H Q E) F Pq := fun H w Q _ => ⟨s, t, A, B, cs, i, rfl, w.t hS, g, w.l hT, hl, hx, k.at e w⟩
abbrev s_by_state : Stmt := topS 24
abbrev n_by_state : List Str := ["sets", "tape"]
theorem sc_by_state : FnScope n_by_state ["sets", "tape"] (defScope s_by_state) := ⟨rfl, rfl, rfl, by decide +kernel, rfl, by decide +kernel, by decide +kernel⟩

theorem pm_by_stateX {CA : Addr} (D : DefAt K mg "by_state" s_by_state) (g_need_sets : Pm P w K mg base CX0 1 "need_sets" ["sets"] (sp_need_sets K)) (g_need_tape_x : Pm P w K mg base (L2N.CX P w) 3 "need_tape" ["sets", "tape"] (sp_need_tapeX K CA)) :
    Pm P w K mg base (L2N.CX P w) 4 "by_state" ["sets", "tape"] (sp_tapX K CA) := by
  obtain ⟨f, fd, F, hm⟩ := D
  refine ⟨f, fd, ?_, hm, F.kp, F.binds fun _ _ _ _ _ _ us hl => match us, hl with | [_, _], _ => rfl⟩
  refine okXN F sc_by_state (fun vs H Q E h => ?_) (fun cdv A outer s H vs Q E hr h => ?_)
  · obtain ⟨_, _, _, _, _, _, rfl, _⟩ := h
    rfl
  · obtain ⟨s, t, A', B', cs, i, rfl, hS, g, hT, hl, hx, k⟩ := h
    have n10 := g.n10
    refine ⟨_, (pss_cons (ps_expr (pe_pm g_need_sets (hr.mono (by decide)) pass0 (pa_cons (pv 0) pa_nil)))
 (pss_cons (ps_expr (pe_pm g_need_tape_x (hr.mono (by decide)) (L2N.passes_call (L2N.takes_of rfl rfl rfl rfl) (fun _ _ _ _ h => h)) (pa_cons (pv 0) (pa_cons (pv 1) pa_nil))))
 pss_never)), ?_⟩
    refine go_st (σ := [some (.ref s), some (.ref t)]) rfl ?_
    wtm_at "r"
    refine wp_need_sets hS g ?_
    wtm_at "r"
    exact wp_tapE hS hT (by omega) hl hx k (exr H)
abbrev s_written : Stmt := topS 26
abbrev n_written : List Str := ["sets", "tape", "code"]
theorem sc_written : FnScope n_written ["sets", "tape"] (defScope s_written) := ⟨rfl, rfl, rfl, by decide +kernel, rfl, by decide +kernel, by decide +kernel⟩

theorem pm_writtenX {CA : Addr} (D : DefAt K mg "written" s_written) (g_need_sets : Pm P w K mg base CX0 1 "need_sets" ["sets"] (sp_need_sets K)) (g_need_tape_x : Pm P w K mg base (L2N.CX P w) 3 "need_tape" ["sets", "tape"] (sp_need_tapeX K CA)) :
    Pm P w K mg base (L2N.CX P w) 4 "written" ["sets", "tape"] (sp_tapX K CA) := by
  obtain ⟨f, fd, F, hm⟩ := D
  refine ⟨f, fd, ?_, hm, F.kp, F.binds fun _ _ _ _ _ _ us hl => match us, hl with | [_, _], _ => rfl⟩
  refine okXN F sc_written (fun vs H Q E h => ?_) (fun cdv A outer s H vs Q E hr h => ?_)
  · obtain ⟨_, _, _, _, _, _, rfl, _⟩ := h
    rfl
  · obtain ⟨s, t, A', B', cs, i, rfl, hS, g, hT, hl, hx, k⟩ := h
    have n10 := g.n10
    refine ⟨_, (pss_cons (ps_expr (pe_pm g_need_sets (hr.mono (by decide)) pass0 (pa_cons (pv 0) pa_nil)))
 (pss_cons (ps_expr (pe_pm g_need_tape_x (hr.mono (by decide)) (L2N.passes_call (L2N.takes_of rfl rfl rfl rfl) (fun _ _ _ _ h => h)) (pa_cons (pv 0) (pa_cons (pv 1) pa_nil))))
 pss_never)), ?_⟩
    refine go_st (σ := [some (.ref s), some (.ref t), none]) rfl ?_
    wtm_at "r"
    refine wp_need_sets hS g ?_
    wtm_at "r"
    exact wp_tapE hS hT (by omega) hl hx k (exr H)
def JoinX (K : PySem.W.Frag) (CA : Addr) (n : Nat) (c1 : List Int) (y : V) (H : Hp) (E : XK) : Prop := (∃ i : Nat, FirstB n c1 (some i) ∧ RetE CA "at" (.int (i : Nat)) H E) ∨ (FirstB n c1 none ∧ ∃ (u : Addr) (c2 : List Int) (i : Nat), y = .ref u ∧ SqL K H u (il c2) ∧ c2.length ≤ 1000 ∧ FirstB n c2 (some i) ∧ RetE CA "at" (.int (i : Nat)) H E)
def sp_joinX (K : PySem.W.Frag) (CA : Addr) : Sp := fun vs H Q E => ∃ (s t : Addr) (A B : List Nat) (c1 : List Int) (y : V), vs = [.ref s, .ref t, y] ∧ SetsAt K H s A B ∧ Good A B ∧ SqL K H t (il c1) ∧ c1.length ≤ 1000 ∧ JoinX K CA A.length c1 y H E
theorem wp_joinX {o : Option Addr} {F : Hp} {Pq : V → Hp → Prop} {CA s t : Addr} {A B : List Nat} {c1 : List Int} {y : V} {E : XK} (hS : SetsAt K F s A B) (g : Good A B) (hT : SqL K F t (il c1)) (hl : c1.length ≤ 1000) (h : ∀ H1, Wd o F H1 → JoinX K CA A.length c1 y H1 E) :
    Wp o (fun H Q => sp_joinX K CA ([.ref s, .ref t, y] ++ []) H Q E) F Pq := fun H w Q _ => ⟨s, t, A, B, c1, y, rfl, w.t hS, g, w.l hT, hl, h H w⟩
abbrev s_joined : Stmt := topS 35
abbrev n_joined : List Str := ["sets", "one", "other", "state"]
theorem sc_joined : FnScope n_joined ["sets", "one", "other"] (defScope s_joined) := ⟨rfl, rfl, rfl, by decide +kernel, rfl, by decide +kernel, by decide +kernel⟩

theorem pm_joinedX {CA : Addr} (D : DefAt K mg "joined" s_joined) (g_need_sets : Pm P w K mg base CX0 1 "need_sets" ["sets"] (sp_need_sets K)) (g_need_tape_x : Pm P w K mg base (L2N.CX P w) 3 "need_tape" ["sets", "tape"] (sp_need_tapeX K CA)) :
    Pm P w K mg base (L2N.CX P w) 4 "joined" ["sets", "one", "other"] (sp_joinX K CA) := by
  obtain ⟨f, fd, F, hm⟩ := D
  refine ⟨f, fd, ?_, hm, F.kp, F.binds fun _ _ _ _ _ _ us hl => match us, hl with | [_, _, _], _ => rfl⟩
  refine okXN F sc_joined (fun vs H Q E h => ?_) (fun cdv A outer s H vs Q E hr h => ?_)
  · obtain ⟨_, _, _, _, _, _, rfl, _⟩ := h
    rfl
  · obtain ⟨s, t, A', B', c1, y, rfl, hS, g, hT, hl, h⟩ := h
    have n10 := g.n10
    refine ⟨_, (pss_cons (ps_expr (pe_pm g_need_sets (hr.mono (by decide)) pass0 (pa_cons (pv 0) pa_nil)))
 (pss_cons (ps_expr (pe_pm g_need_tape_x (hr.mono (by decide)) (L2N.passes_call (L2N.takes_of rfl rfl rfl rfl) (fun _ _ _ _ h => h)) (pa_cons (pv 0) (pa_cons (pv 1) pa_nil))))
 (pss_cons (ps_expr (pe_pm g_need_tape_x (hr.mono (by decide)) (L2N.passes_call (L2N.takes_of rfl rfl rfl rfl) (fun _ _ _ _ h => h)) (pa_cons (pv 0) (pa_cons (pv 2) pa_nil))))
 pss_never))), ?_⟩
    refine go_st (σ := [some (.ref s), some (.ref t), some (y), none]) rfl ?_
    wtm_at "r"
    refine wp_need_sets hS g ?_
    wtm_at "r"
    rcases h with ⟨i, hx, k⟩ | ⟨hn, u, c2, i, rfl, hU, hl2, hx, k⟩
    · exact wp_tapE hS hT (by omega) hl hx k (exr H)
    · refine wp_tapN hS hT (by omega) hl hn ?_
      wtm_at "r"
      exact wp_tapE hS hU (by omega) hl2 hx k (exr H)
def CutX (CA CM : Addr) (n : Nat) (cs : List Int) (a : Int) (H : Hp) (E : XK) : Prop := (∃ i : Nat, FirstB n cs (some i) ∧ RetE CA "at" (.int (i : Nat)) H E) ∨ (FirstB n cs none ∧ (a < 0 ∨ (cs.length : Int) < a) ∧ RetU CM H E)
theorem CutX.at {o : Option Addr} {F H H1 : Hp} {CA CM : Addr} {n : Nat} {cs : List Int} {a : Int} {E : XK} (k : CutX CA CM n cs a H E) (e : Ex H F) (w : Wd o F H1) : CutX CA CM n cs a H1 E := by
  rcases k with ⟨i, h1, h2⟩ | ⟨h1, h2, h3⟩
  · exact .inl ⟨i, h1, h2.at e w⟩
  · exact .inr ⟨h1, h2, h3.at e w⟩
def sp_cutX (K : PySem.W.Frag) (CA CM : Addr) : Sp := fun vs H Q E => ∃ (s t : Addr) (A B : List Nat) (cs : List Int) (a : Int), vs = [.ref s, .ref t, .int a] ∧ SetsAt K H s A B ∧ Good A B ∧ SqL K H t (il cs) ∧ cs.length ≤ 1000 ∧ CutX CA CM A.length cs a H E
theorem wp_cutX {o : Option Addr} {F H0 : Hp} {Pq : V → Hp → Prop} {CA CM s t : Addr} {A B : List Nat} {cs : List Int} {a : Int} {E : XK} (hS : SetsAt K F s A B) (g : Good A B) (hT : SqL K F t (il cs)) (hl : cs.length ≤ 1000) (k : CutX CA CM A.length cs a H0 E) (e : Ex H0 F) :
    Wp o (fun H Q => sp_cutX K CA CM ([.ref s, .ref t, .int a] ++ []) H Q E) F Pq := fun H w Q _ => ⟨s, t, A, B, cs, a, rfl, w.t hS, g, w.l hT, hl, k.at e w⟩
abbrev s_cut : Stmt := topS 36
abbrev n_cut : List Str := ["sets", "tape", "at", "state", "rest"]
theorem sc_cut : FnScope n_cut ["sets", "tape", "at"] (defScope s_cut) := ⟨rfl, rfl, rfl, by decide +kernel, rfl, by decide +kernel, by decide +kernel⟩

theorem pm_cutX {CA CM : Addr} (D : DefAt K mg "cut" s_cut) (B : Bl mg) (g_need_sets : Pm P w K mg base CX0 1 "need_sets" ["sets"] (sp_need_sets K)) (g_need_tape_x : Pm P w K mg base (L2N.CX P w) 3 "need_tape" ["sets", "tape"] (sp_need_tapeX K CA)) (z_BadNumber : NumC K mg CM) :
    Pm P w K mg base (L2N.CX P w) 4 "cut" ["sets", "tape", "at"] (sp_cutX K CA CM) := by
  obtain ⟨f, fd, F, hm⟩ := D
  refine ⟨f, fd, ?_, hm, F.kp, F.binds fun _ _ _ _ _ _ us hl => match us, hl with | [_, _, _], _ => rfl⟩
  refine okXN F sc_cut (fun vs H Q E h => ?_) (fun cdv A outer s H vs Q E hr h => ?_)
  · obtain ⟨_, _, _, _, _, _, rfl, _⟩ := h
    rfl
  · obtain ⟨s, t, A', B', cs, a, rfl, hS, g, hT, hl, h⟩ := h
    have n10 := g.n10
    refine ⟨_, (pss_cons (ps_expr (pe_pm g_need_sets (hr.mono (by decide)) pass0 (pa_cons (pv 0) pa_nil)))
 (pss_cons (ps_expr (pe_pm g_need_tape_x (hr.mono (by decide)) (L2N.passes_call (L2N.takes_of rfl rfl rfl rfl) (fun _ _ _ _ h => h)) (pa_cons (pv 0) (pa_cons (pv 1) pa_nil))))
 (pss_cons (ps_if (pt_not (pt_chain op_le op_le pe_int (pv 2) (pe_callB (lenK K rfl) (by rfl) B.len PySem.boot_len (pa_cons (pv 1) pa_nil))))
 (pss_cons (ps_rzN z_BadNumber rfl (L2N.takes_of rfl rfl rfl rfl))
 pss_nil)
 pss_nil)
 pss_never))), ?_⟩
    refine go_st (σ := [some (.ref s), some (.ref t), some (.int a), none, none]) rfl ?_
    wtm_at "r"
    refine wp_need_sets hS g ?_
    wtm_at "r"
    rcases h with ⟨i, hx, k⟩ | ⟨hn, ha, k⟩
    · exact wp_tapE hS hT (by omega) hl hx k (exr H)
    · refine wp_tapN hS hT (by omega) hl hn ?_
      wtm_at "r"
      refine ⟨fun h1 => ?_, fun h1 => ?_⟩
      · have h1 : 0 ≤ a := of_decide_eq_true h1
        wtm_at "r"
        try (refine wp_lenL hT ?_; wtm_at "r")
        refine bT (by simp; omega) ?_
        exact go_rzN fun H1 w1 => k H1 w1.ex
      · wtm_at "r"
        refine bT rfl ?_
        exact go_rzN fun H1 w1 => k H1 w1.ex
def sp_need_textX (K : PySem.W.Frag) (CN : Addr) : Sp := fun vs H Q E => ∃ (s : Addr) (A B T : List Nat) (y : Option Nat), vs = [.ref s, .str (tx T)] ∧ SetsAt K H s A B ∧ A.length ≤ 100 ∧ B.length ≤ 100 ∧ FirstT A B T y ∧ (match y with | none => RetV .non H Q | some i => RetE CN "at" (.int (i : Nat)) H E)
theorem wp_textE {o : Option Addr} {F H0 : Hp} {Pq : V → Hp → Prop} {CN s : Addr} {A B T : List Nat} {i : Nat} {E : XK} (hS : SetsAt K F s A B) (hA : A.length ≤ 100) (hB : B.length ≤ 100) (hx : FirstT A B T (some i)) (k : RetE CN "at" (.int (i : Nat)) H0 E) (e : Ex H0 F) :
    Wp o (fun H Q => sp_need_textX K CN ([.ref s, .str (tx T)] ++ []) H Q E) F Pq := fun H w Q _ => ⟨s, A, B, T, some i, rfl, w.t hS, hA, hB, hx, k.at e w⟩
theorem wp_textN {o : Option Addr} {F : Hp} {Pq : V → Hp → Prop} {CN s : Addr} {A B T : List Nat} {E : XK} (hS : SetsAt K F s A B) (hA : A.length ≤ 100) (hB : B.length ≤ 100) (hx : FirstT A B T none) (q : Pq .non F) :
    Wp o (fun H Q => sp_need_textX K CN ([.ref s, .str (tx T)] ++ []) H Q E) F Pq := fun H w Q k => ⟨s, A, B, T, none, rfl, w.t hS, hA, hB, hx, RetV.use w q k⟩
theorem codeOf_no {A B : List Nat} {st : Int} {t : Nat} (h : t ∉ rowS A B st) : codeOf A B st t = none := by
  unfold codeOf
  rw [if_neg h]
theorem pm_need_textX {CN : Addr} (D : DefAt K mg "need_text" s_need_text) (B : Bl mg) (g_codes_of : Pm P w K mg base CX0 1 "codes_of" ["sets", "sign"] (sp_codes_of K)) (z_NoSign : Rz P w K mg base "NoSign" CN "at") : Pm P w K mg base (L2N.CX P w) 3 "need_text" ["sets", "text"] (sp_need_textX K CN) := by
  obtain ⟨f, fd, F, hm⟩ := D
  refine ⟨f, fd, ?_, hm, F.kp, F.binds fun _ _ _ _ _ _ us hl => match us, hl with | [_, _], _ => rfl⟩
  refine okXN F sc_need_text (fun vs H Q E h => ?_) (fun cdv A outer s H vs Q E hr h => ?_)
  · obtain ⟨_, _, _, _, _, rfl, _⟩ := h
    rfl
  · obtain ⟨s, A', B', T, y, rfl, hS, n1, n2, hx, k⟩ := h
    refine ⟨_, (pss_cons (ps_for (passes_of rfl) rfl (pi_enumS B.enumerate (pa_cons (pv 1) pa_nil)) (pgT K rfl (n := 2) rfl (pgs_cons (pg_name (i := 2) sc_need_text.nd rfl (Or.inl rfl)) (pgs_cons (pg_name (i := 3) sc_need_text.nd rfl (Or.inl rfl)) pgs_nil)))
 (pss_cons (ps_if (pt_cmpR (eqK K rfl hr.units) (pe_pm g_codes_of (hr.mono (by decide)) pass0 (pa_cons (pv 0) (pa_cons (pv 3) pa_nil))) (pe_lst (pa_cons pe_non (pa_cons pe_non pa_nil))) (nomark _))
 (pss_cons (ps_rz z_NoSign rfl (hr.mono (by decide)) (L2N.takes_of rfl rfl rfl rfl) (pa_cons (pv 2) pa_nil))
 pss_nil)
 pss_nil)
 pss_nil))
 pss_nil), ?_⟩
    refine go_st (σ := [some (.ref s), some (.str (tx T)), none, none]) rfl ?_
    refine go_forES (fun i σ F => ∃ x z, σ = [some (.ref s), some (.str (tx T)), x, z] ∧ Ex H F ∧ ∀ j c, j < i → T[j]? = some c → c ∈ A' ∨ c ∈ B') ?_
    wtm_at "r"
    refine ⟨T, rfl, ⟨_, _, rfl, exr H, fun j c hj => absurd hj (Nat.not_lt_zero _)⟩, ?_, ?_⟩
    · rintro i c σ F p hc hp ⟨x, z, rfl, e, hg⟩
      wtm_at "r"
      try (refine wp_gTup (SqT.of upd_same) rfl ?_)
      wtm_at "r"
      have e1 := e.trans (ex_new (u := .tup [.int (i : Nat), sg c]) hp)
      refine wp_codes_of (ex_t e1 hS) n1 n2 ?_
      wtm_at "gz"
      intro p1 hp1 F1 q1 e2
      wtm_at "r"
      refine ⟨(by show 2 ≤ 100000; decide), ?_⟩
      wtm_at "gz"
      intro p2 hp2 F2 q2 e3
      have e13 := e1.trans (e2.trans e3)
      refine wp_eqD (.lst (SqL.of (e3 _ _ q1)) (.cons (dp_cV _) (.cons (dp_cV _) .nil))) (.lst (SqL.of q2) (.cons .non (.cons .non .nil))) ?_ rfl ?_
      · cases codeOf A' B' 0 c <;> cases codeOf A' B' 1 c <;> rfl
      · wtm_at "r"
        by_cases h : c ∈ A' ∨ c ∈ B'
        · refine bF ?_ ?_
          · rcases h with h | h
            · have e0 : codeOf A' B' 0 c = some _ := codeOf_some (A := A') (B := B') (st := 0) h
              rw [e0]
              rfl
            · have e0 : codeOf A' B' 1 c = some _ := codeOf_some (A := A') (B := B') (st := 1) h
              rw [e0]
              cases codeOf A' B' 0 c <;> rfl
          · wtm_at "r"
            refine go_turn rfl ⟨_, _, rfl, e13, fun j d hj hd => ?_⟩
            by_cases hji : j < i
            · exact hg j d hji hd
            · rw [show j = i by omega, hc] at hd
              cases hd
              exact h
        · have h1 : c ∉ A' := fun z => h (.inl z)
          have h2 : c ∉ B' := fun z => h (.inr z)
          have ey := firstT_uq hx hc h1 h2 hg
          subst ey
          refine bT ?_ ?_
          · rw [codeOf_no (A := A') (B := B') (st := 0) h1, codeOf_no (A := A') (B := B') (st := 1) h2]
            rfl
          · refine go_rz ?_
            wtm_at "r"
            exact ⟨_, rfl, RetE.out k e13⟩
    · rintro σ F ⟨x, z, rfl, e, hg⟩
      have ey : y = none := by
        cases y with
        | none => rfl
        | some i =>
          obtain ⟨⟨c, hc, h1, h2⟩, _⟩ := hx
          exact ((hg i c (List.getElem?_eq_some_iff.mp hc).1 hc).elim h1 h2).elim
      subst ey
      exact k.out e
def LeastX (CN CM : Addr) (A B T : List Nat) (st : Int) (H : Hp) (E : XK) : Prop := (∃ i : Nat, FirstT A B T (some i) ∧ RetE CN "at" (.int (i : Nat)) H E) ∨ (FirstT A B T none ∧ ¬ StOk st ∧ RetU CM H E)
theorem LeastX.at {o : Option Addr} {F H H1 : Hp} {CN CM : Addr} {A B T : List Nat} {st : Int} {E : XK} (k : LeastX CN CM A B T st H E) (e : Ex H F) (w : Wd o F H1) : LeastX CN CM A B T st H1 E := by
  rcases k with ⟨i, h1, h2⟩ | ⟨h1, h2, h3⟩
  · exact .inl ⟨i, h1, h2.at e w⟩
  · exact .inr ⟨h1, h2, h3.at e w⟩
def sp_leastX (K : PySem.W.Frag) (CN CM : Addr) : Sp := fun vs H Q E => ∃ (s : Addr) (A B T : List Nat) (st : Int), vs = [.ref s, .str (tx T), .int st] ∧ SetsAt K H s A B ∧ Good A B ∧ LeastX CN CM A B T st H E
theorem wp_leastX {o : Option Addr} {F H0 : Hp} {Pq : V → Hp → Prop} {CN CM s : Addr} {A B T : List Nat} {st : Int} {E : XK} (hS : SetsAt K F s A B) (g : Good A B) (k : LeastX CN CM A B T st H0 E) (e : Ex H0 F) :
    Wp o (fun H Q => sp_leastX K CN CM ([.ref s, .str (tx T), .int st] ++ []) H Q E) F Pq := fun H w Q _ => ⟨s, A, B, T, st, rfl, w.t hS, g, k.at e w⟩
theorem pm_leastX {CN CM : Addr} (D : DefAt K mg "least" s_least) (g_need_sets : Pm P w K mg base CX0 1 "need_sets" ["sets"] (sp_need_sets K)) (g_need_text_x : Pm P w K mg base (L2N.CX P w) 3 "need_text" ["sets", "text"] (sp_need_textX K CN)) (g_need_state_x : Pm P w K mg base (L2N.CX P w) 1 "need_state" ["state"] (sp_need_stateX CM)) :
    Pm P w K mg base (L2N.CX P w) 4 "least" ["sets", "text", "state"] (sp_leastX K CN CM) := by
  obtain ⟨f, fd, F, hm⟩ := D
  refine ⟨f, fd, ?_, hm, F.kp, F.binds fun _ _ _ _ _ _ us hl => match us, hl with | [_, _, _], _ => rfl⟩
  refine okXN F sc_least (fun vs H Q E h => ?_) (fun cdv A outer s H vs Q E hr h => ?_)
  · obtain ⟨_, _, _, _, _, rfl, _⟩ := h
    rfl
  · obtain ⟨s, A', B', T, st, rfl, hS, g, h⟩ := h
    have n10 := g.n10
    have nB := g.eq
    refine ⟨_, (pss_cons (ps_expr (pe_pm g_need_sets (hr.mono (by decide)) pass0 (pa_cons (pv 0) pa_nil)))
 (pss_cons (ps_expr (pe_pm g_need_text_x (hr.mono (by decide)) (L2N.passes_call (L2N.takes_of rfl rfl rfl rfl) (fun _ _ _ _ h => h)) (pa_cons (pv 0) (pa_cons (pv 1) pa_nil))))
 (pss_cons (ps_expr (pe_pm g_need_state_x (hr.mono (by decide)) (L2N.passes_call (L2N.takes_of rfl rfl rfl rfl) (fun _ _ _ _ h => h)) (pa_cons (pv 2) pa_nil)))
 pss_never))), ?_⟩
    refine go_st (σ := [some (.ref s), some (.str (tx T)), some (.int st)]) rfl ?_
    wtm_at "r"
    refine wp_need_sets hS g ?_
    wtm_at "r"
    rcases h with ⟨i, hx, k⟩ | ⟨hn, hst, k⟩
    · exact wp_textE hS (by omega) (by omega) hx k (exr H)
    · refine wp_textN hS (by omega) (by omega) hn ?_
      wtm_at "r"
      exact wp_stateU hst k (exr H)
def GuardX (CN CM : Addr) (A B T : List Nat) (st most : Int) (H : Hp) (E : XK) : Prop := LeastX CN CM A B T st H E ∨ (FirstT A B T none ∧ StOk st ∧ (most < 0 ∨ 20 < most) ∧ RetU CM H E)
theorem GuardX.at {o : Option Addr} {F H H1 : Hp} {CN CM : Addr} {A B T : List Nat} {st most : Int} {E : XK} (k : GuardX CN CM A B T st most H E) (e : Ex H F) (w : Wd o F H1) : GuardX CN CM A B T st most H1 E := by
  rcases k with h | ⟨h1, h2, h3, h4⟩
  · exact .inl (h.at e w)
  · exact .inr ⟨h1, h2, h3, h4.at e w⟩
def sp_guardX (K : PySem.W.Frag) (CN CM : Addr) : Sp := fun vs H Q E => ∃ (s : Addr) (A B T : List Nat) (st most : Int), vs = [.ref s, .str (tx T), .int st, .int most] ∧ SetsAt K H s A B ∧ Good A B ∧ GuardX CN CM A B T st most H E
theorem wp_guardX {o : Option Addr} {F H0 : Hp} {Pq : V → Hp → Prop} {CN CM s : Addr} {A B T : List Nat} {st most : Int} {E : XK} (hS : SetsAt K F s A B) (g : Good A B) (k : GuardX CN CM A B T st most H0 E) (e : Ex H0 F) :
    Wp o (fun H Q => sp_guardX K CN CM ([.ref s, .str (tx T), .int st, .int most] ++ []) H Q E) F Pq := fun H w Q _ => ⟨s, A, B, T, st, most, rfl, w.t hS, g, k.at e w⟩
theorem pm_guardedX {CN CM : Addr} (D : DefAt K mg "guarded" s_guarded) (c_MOST_SPOILT : ∃ t, mg "MOST_SPOILT" = some (.int 20 t)) (g_need_sets : Pm P w K mg base CX0 1 "need_sets" ["sets"] (sp_need_sets K)) (g_need_text_x : Pm P w K mg base (L2N.CX P w) 3 "need_text" ["sets", "text"] (sp_need_textX K CN)) (g_need_state_x : Pm P w K mg base (L2N.CX P w) 1 "need_state" ["state"] (sp_need_stateX CM)) (z_BadNumber : NumC K mg CM) :
    Pm P w K mg base (L2N.CX P w) 4 "guarded" ["sets", "text", "state", "most"] (sp_guardX K CN CM) := by
  obtain ⟨f, fd, F, hm⟩ := D
  refine ⟨f, fd, ?_, hm, F.kp, F.binds fun _ _ _ _ _ _ us hl => match us, hl with | [_, _, _, _], _ => rfl⟩
  refine okXN F sc_guarded (fun vs H Q E h => ?_) (fun cdv A outer s H vs Q E hr h => ?_)
  · obtain ⟨_, _, _, _, _, _, rfl, _⟩ := h
    rfl
  · obtain ⟨s, A', B', T, st, most, rfl, hS, g, h⟩ := h
    have n10 := g.n10
    have nB := g.eq
    refine ⟨_, (pss_cons (ps_expr (pe_pm g_need_sets (hr.mono (by decide)) pass0 (pa_cons (pv 0) pa_nil)))
 (pss_cons (ps_expr (pe_pm g_need_text_x (hr.mono (by decide)) (L2N.passes_call (L2N.takes_of rfl rfl rfl rfl) (fun _ _ _ _ h => h)) (pa_cons (pv 0) (pa_cons (pv 1) pa_nil))))
 (pss_cons (ps_expr (pe_pm g_need_state_x (hr.mono (by decide)) (L2N.passes_call (L2N.takes_of rfl rfl rfl rfl) (fun _ _ _ _ h => h)) (pa_cons (pv 2) pa_nil)))
 (pss_cons (ps_if (pt_not (pt_chain op_le op_le pe_int (pv 3) (pe_cst c_MOST_SPOILT)))
 (pss_cons (ps_rzN z_BadNumber rfl (L2N.takes_of rfl rfl rfl rfl))
 pss_nil)
 pss_nil)
 pss_never)))), ?_⟩
    refine go_st (σ := [some (.ref s), some (.str (tx T)), some (.int st), some (.int most)]) rfl ?_
    wtm_at "r"
    refine wp_need_sets hS g ?_
    wtm_at "r"
    rcases h with (⟨i, hx, k⟩ | ⟨hn, hst, k⟩) | ⟨hn, hst, hm2, k⟩
    · exact wp_textE hS (by omega) (by omega) hx k (exr H)
    · refine wp_textN hS (by omega) (by omega) hn ?_
      wtm_at "r"
      exact wp_stateU hst k (exr H)
    · refine wp_textN hS (by omega) (by omega) hn ?_
      wtm_at "r"
      refine wp_stateN hst ?_
      wtm_at "r"
      refine ⟨fun h1 => ?_, fun h1 => ?_⟩
      · have h1 : 0 ≤ most := of_decide_eq_true h1
        wtm_at "r"
        refine bT (by simp; omega) ?_
        exact go_rzN fun H1 w1 => k H1 w1.ex
      · wtm_at "r"
        refine bT rfl ?_
        exact go_rzN fun H1 w1 => k H1 w1.ex
end
/-! ### _law_refused: the suite in which an exception is handled -/
section
variable {P : Program} {w : World} {K : PySem.W.Frag} {mg : Str → Option Value} {base : Heap}
/-- _law_alike of two numbers or two texts, an exception being handled -/
def spAH : Sp := fun vs H Q _ => ∃ x : V, vs = [x, x] ∧ ((∃ i, x = .int i) ∨ ∃ z, x = .str z) ∧ RetV (.bl true) H Q
theorem alikeH (D : DefAt K mg "_law_alike" s_q_alike) (B : Bl mg) : PmH P w K mg base 1 "_law_alike" ["_law_found", "_law_due"] spAH := by
  obtain ⟨f, fd, F, hm⟩ := D
  refine ⟨f, fd, ?_, hm, F.kp, F.binds fun _ _ _ _ _ _ us hl => match us, hl with | [_, _], _ => rfl⟩
  refine okH F sc_q_alike (fun vs H Q E h => ?_) (fun cdv A outer s H vs Q E p hot hr h => ?_)
  · obtain ⟨_, rfl, _⟩ := h
    rfl
  · obtain ⟨x, rfl, hx, k⟩ := h
    refine ⟨_, (pss_cons (ps_if (pt_cmpR op_isNs (pv 1) pe_non (nomark _))
 (pss_cons (ps_ret (pe_cmpR op_isNs (pv 0) pe_non (nomark _)))
 pss_nil)
 pss_nil)
 (pss_cons (ps_if (pt_val (pe_callB (isiK K rfl) (by rfl) B.isinstance (by decide +kernel) (pa_cons (pv 1) (pa_cons (pe_bltn (v := .ty "bool") (by rfl) B.bool_ (by decide +kernel) rfl) pa_nil))))
 (pss_cons (ps_ret (pe_and (pe_callB (isiK K rfl) (by rfl) B.isinstance (by decide +kernel) (pa_cons (pv 0) (pa_cons (pe_bltn (v := .ty "bool") (by rfl) B.bool_ (by decide +kernel) rfl) pa_nil))) (pe_one (pe_cmpR (eqK K rfl hr.units) (pv 0) (pv 1) (nomark _)))))
 pss_nil)
 pss_nil)
 (pss_cons (ps_if (pt_val (pe_callB (isiK K rfl) (by rfl) B.isinstance (by decide +kernel) (pa_cons (pv 1) (pa_cons (pe_bltn (v := .ty "int") (by rfl) B.int_ (by decide +kernel) rfl) pa_nil))))
 (pss_cons (ps_ret (pe_and (pe_callB (isiK K rfl) (by rfl) B.isinstance (by decide +kernel) (pa_cons (pv 0) (pa_cons (pe_bltn (v := .ty "int") (by rfl) B.int_ (by decide +kernel) rfl) pa_nil))) (pe_and (pe_not (pe_callB (isiK K rfl) (by rfl) B.isinstance (by decide +kernel) (pa_cons (pv 0) (pa_cons (pe_bltn (v := .ty "bool") (by rfl) B.bool_ (by decide +kernel) rfl) pa_nil)))) (pe_one (pe_cmpR (eqK K rfl hr.units) (pv 0) (pv 1) (nomark _))))))
 pss_nil)
 pss_nil)
 (pss_cons (ps_if (pt_val (pe_callB (isiK K rfl) (by rfl) B.isinstance (by decide +kernel) (pa_cons (pv 1) (pa_cons (pe_bltn (v := .ty "str") (by rfl) B.str_ (by decide +kernel) rfl) pa_nil))))
 (pss_cons (ps_ret (pe_and (pe_callB (isiK K rfl) (by rfl) B.isinstance (by decide +kernel) (pa_cons (pv 0) (pa_cons (pe_bltn (v := .ty "str") (by rfl) B.str_ (by decide +kernel) rfl) pa_nil))) (pe_one (pe_cmpR (eqK K rfl hr.units) (pv 0) (pv 1) (nomark _)))))
 pss_nil)
 pss_nil)
 pss_never)))), ?_⟩
    refine go_st (σ := [some (x), some (x), none]) rfl ?_
    rcases hx with ⟨i, rfl⟩ | ⟨z, rfl⟩
    · wtm_at "r"
      refine bF (by simp) ?_
      wtm_at "r"
      refine wp_isi (.int i) (b := false) (by decide +kernel) ?_
      wtm_at "r"
      refine bF rfl ?_
      wtm_at "r"
      refine wp_isi (.int i) (b := true) (by decide +kernel) ?_
      wtm_at "r"
      refine bT rfl ?_
      wtm_at "r"
      refine wp_isi (.int i) (b := true) (by decide +kernel) ?_
      wtm_at "r"
      refine bT rfl ?_
      wtm_at "r"
      refine wp_isi (.int i) (b := false) (by decide +kernel) ?_
      wtm_at "r"
      refine bT rfl ?_
      wtm_at "r"
      rw [decide_eq_true rfl]
      exact k.out (exr H)
    · wtm_at "r"
      refine bF (by simp) ?_
      wtm_at "r"
      refine wp_isi (.str z) (b := false) (by decide +kernel) ?_
      wtm_at "r"
      refine bF rfl ?_
      wtm_at "r"
      refine wp_isi (.str z) (b := false) (by decide +kernel) ?_
      wtm_at "r"
      refine bF rfl ?_
      wtm_at "r"
      refine wp_isi (.str z) (b := true) (by decide +kernel) ?_
      wtm_at "r"
      refine bT rfl ?_
      wtm_at "r"
      refine wp_isi (.str z) (b := true) (by decide +kernel) ?_
      wtm_at "r"
      refine bT rfl ?_
      wtm_at "r"
      refine wp_eq0 rfl ?_
      rw [decide_eq_true rfl]
      exact k.out (exr H)
abbrev s_q_refused : Stmt := topS 42
abbrev n_q_refused : List Str := ["_law_work", "_law_word", "_law_value", "_law_e", "_law_kinds", "_law_words", "_law_one"]
theorem sc_q_refused : FnScope n_q_refused ["_law_work", "_law_word", "_law_value"] (defScope s_q_refused) := ⟨rfl, rfl, rfl, by decide +kernel, rfl, by decide +kernel, by decide +kernel⟩

/-- the classes' names, and what isinstance says of C's instances -/
structure RefC (K : PySem.W.Frag) (mg : Str → Option Value) (CT CS CA CN CM CX C : Addr) (b0 b1 b2 b3 b4 : Bool) : Prop where
  mT : mg "TapeError" = some (.ref CT)
  mS : mg "BadSets" = some (.ref CS)
  mA : mg "BadTape" = some (.ref CA)
  mN : mg "NoSign" = some (.ref CN)
  mM : mg "BadNumber" = some (.ref CM)
  mX : mg "BadText" = some (.ref CX)
  nV : mg "ValueError" = none
  ex : PySem.W.exmOne K (.ref C) (.ref CT) = some true
  xc : XcC K C
  k0 : PySem.W.kitOne K (.ref C) (.ref CS) = some b0
  k1 : PySem.W.kitOne K (.ref C) (.ref CA) = some b1
  k2 : PySem.W.kitOne K (.ref C) (.ref CN) = some b2
  k3 : PySem.W.kitOne K (.ref C) (.ref CM) = some b3
  k4 : PySem.W.kitOne K (.ref C) (.ref CX) = some b4
  kV : PySem.W.kitOne K (.ref C) (.type "ValueError") = some true
theorem XcC.xf' {D : Addr} (h : XcC K D) : XfC K D := ⟨h.hg, h.hk, h.hs, h.hd⟩
theorem relT' {t : String} : ∀ u, RelV (.ty t) u → u = .type t := fun u h => h
theorem relR' {a : Addr} : ∀ u, RelV (.ref a) u → u = .ref a := fun u h => h
abbrev wordsR : List (List Nat) := [[115, 101, 116, 115], [116, 97, 112, 101], [115, 105, 103, 110], [110, 117, 109, 98, 101, 114], [116, 101, 120, 116]]
theorem dp_bools {F : Hp} : ∀ bs : List Bool, DpAll K F (bs.map V.bl) (bs.map PyData.bool)
  | [] => .nil
  | b :: r => .cons (.bl b) (dp_bools r)
theorem eqv_bools : ∀ bs : List Bool, PyData.eqvAll (bs.map PyData.bool) (bs.map PyData.bool) = true
  | [] => rfl
  | b :: r => by
    show ((b == b) && PyData.eqvAll (r.map PyData.bool) (r.map PyData.bool)) = true
    rw [eqv_bools r]
    simp
end
/-! ### _law_refused called with a tracked function: 'tape', 'sign', 'number' -/
section
variable {o : Option Addr} {F : Hp} {σ : L2.St} {D : Ends} {K : PySem.W.Frag} {P : V → Hp → Prop}
theorem go_was0 {c : Value} {i : Nat} {ts : Addr → Value → Option Addr → TS} {Wout : WX} {D1 : Ends} {cls : Value} {H2 : Hp} (w : Wd o F H2) (e : PySem.W.exmOne K cls c = some true)
    (h : ∀ a, Go o (ts a cls none) { nx := fun σ' H' => D1.nx (σ'.set i none) H', rt := D1.rt, bk := fun σ' H' => D1.bk (σ'.set i none) H', ct := fun σ' H' => D1.ct (σ'.set i none) H' } (σ.set i (some (.ref a))) F) :
    wAs K c i ts Wout D1 cls none σ H2 := ⟨true, e, fun _ a ha => h a H2 w, fun z => nomatch z⟩
theorem wp_isX0 {a D : Addr} {cls : Value} {c : V} {cv : Value} {b : Bool} (e : cls = .ref D) (C : XcC K D) (hcv : ∀ u, RelV c u → u = cv) (hk : PySem.W.kitOne K (.ref D) cv = some b) (q : P (.bl b) F) :
    Wp o (rIsX K a cls none [.ref a, c]) F P := fun H w Q k => ⟨D, c, cv, b, e, C, rfl, hcv, hk, (fun z hz => by cases hz), k _ H F w q⟩
end
section
open LamX
variable {P : Program} {w : World} {K : PySem.W.Frag} {mg : Str → Option Value} {base : Heap}
theorem refused_atT {CT CS CA CN CM CX C : Addr} {b0 b1 b2 b3 b4 : Bool} (B : Bl mg) (M : RefC K mg CT CS CA CN CM CX C b0 b1 b2 b3 b4) (no : PySem.W.findIn K (.ref C) "at" = some none) (g_q_alike_h : PmH P w K mg base 1 "_law_alike" ["_law_found", "_law_due"] spAH)
    {l : List Nat} (hb : [b0, b1, b2, b3, b4] = wordsR.map fun z => decide (l = z)) (l0 : l ≠ [115, 101, 116, 115]) (l3 : l ≠ [110, 117, 109, 98, 101, 114]) (l4 : l ≠ [116, 101, 120, 116]) {f c' g : Addr} {co : HO} {cdg : Value} {A : Around} {outer : List Env} {s : Shared} {H : Hp} {E : XK} {Q : VK} {v : V} (hv : (∃ i, v = .int i) ∨ ∃ z, v = .str z) {tl : XK → Hp → VK → Prop} (hr : Room 1 (A.deeper (envOfC "_law_refused" (defScope s_q_refused) s.heap.objs.size g cdg)))
    (act : ∀ (W : WX) (pn : List (Addr × Obj)) (xe : Value → Shared → Prop) (p1 p2 : Pos), L2N.Takes ((cxOf CX0 P w K mg base n_q_refused "_law_refused" (defScope s_q_refused) g cdg A outer s H E).tr pn xe) W →
      PE ((cxOf CX0 P w K mg base n_q_refused "_law_refused" (defScope s_q_refused) g cdg A outer s H E).tr pn xe) (.Call (.Name "_law_work" p1) [] [] p2) (fun σZ HZ Q => σZ[0]? = some (some (.ref f)) ∧ HZ c' = some co ∧ tl (WE W σZ) HZ Q))
    (hc : H c' = some co) (htl : ∀ (E' : XK) (Q' : VK), RetE C "at" v H E' → tl E' H Q') (kQ : RetV (.bl true) H Q) :
    ∃ t, PSs (cxOf CX0 P w K mg base n_q_refused "_law_refused" (defScope s_q_refused) g cdg A outer s H E) (defBody s_q_refused) t ∧ t { nx := fun _ H' => Q .non H', rt := Q } (start n_q_refused [.ref f, .str (tx l), v]) H := by
  obtain ⟨m_TapeError, m_BadSets, m_BadTape, m_NoSign, m_BadNumber, m_BadText, n_ValueError, ex1, xc, k0, k1, k2, k3, k4, kV⟩ := M
  have x_BadTape : XfC K C ∧ PySem.W.findIn K (.ref C) "at" = some none := ⟨xc.xf', no⟩
  refine ⟨_, (pss_cons (L2N.ps_try_as (i := 3) rfl rfl sc_q_refused.nd rfl rfl ⟨rfl, by decide, .inl m_TapeError⟩ takes0N (fun W pn xe tk _ => (pss_cons (ps_expr (act W pn xe _ _ tk))
 pss_nil)) (fun a oe cls d pn hz hf => (pss_cons (ps_set (i := 4) sc_q_refused.nd rfl (Or.inl rfl) (pe_lst (pa_cons (pe_callB (isXK K rfl hz.zc hf) (by rfl) B.isinstance (by decide +kernel) (pa_cons (pv 3) (pa_cons (pe_clsG m_BadSets) pa_nil))) (pa_cons (pe_callB (isXK K rfl hz.zc hf) (by rfl) B.isinstance (by decide +kernel) (pa_cons (pv 3) (pa_cons (pe_clsG m_BadTape) pa_nil))) (pa_cons (pe_callB (isXK K rfl hz.zc hf) (by rfl) B.isinstance (by decide +kernel) (pa_cons (pv 3) (pa_cons (pe_clsG m_NoSign) pa_nil))) (pa_cons (pe_callB (isXK K rfl hz.zc hf) (by rfl) B.isinstance (by decide +kernel) (pa_cons (pv 3) (pa_cons (pe_clsG m_BadNumber) pa_nil))) pa_nil))))))
 (pss_cons (ps_expr (bmK K rfl PySem.F.plainAttrs_list PySem.F.slot_list_append PySem.F.type_list_append mt_append (pv 4) (pa_cons (pe_callB (isXK K rfl hz.zc hf) (by rfl) B.isinstance (by decide +kernel) (pa_cons (pv 3) (pa_cons (pe_clsG m_BadText) pa_nil))) pa_nil)))
 (pss_cons (ps_set (i := 5) sc_q_refused.nd rfl (Or.inl rfl) (pe_lst (pa_cons (pe_strT (l := [115, 101, 116, 115]) (by decide +kernel)) (pa_cons (pe_strT (l := [116, 97, 112, 101]) (by decide +kernel)) (pa_cons (pe_strT (l := [115, 105, 103, 110]) (by decide +kernel)) (pa_cons (pe_strT (l := [110, 117, 109, 98, 101, 114]) (by decide +kernel)) (pa_cons (pe_strT (l := [116, 101, 120, 116]) (by decide +kernel)) pa_nil)))))))
 (pss_cons (ps_if (PW.pt (pw_or (pt_not (pt_val (pe_callB (isXK K rfl hz.zc hf) (by rfl) B.isinstance (by decide +kernel) (pa_cons (pv 3) (pa_cons (pe_bltn (v := .ty "ValueError") (by rfl) n_ValueError (by decide +kernel) rfl) pa_nil))))) (pw_or1 (pt_cmpR (neK K rfl hr.units) (pv 4) (pe_lcH (own := [("_law_one", 6)]) (g := gName 6) (tt := tYes) K rfl (hot_suite hz hf) sc_q_refused.nd (pv 5) (blkOk_by (N := n_q_refused) (sc := defScope s_q_refused) (by decide +kernel)) (fun _ _ _ _ _ => pg_name (i := 6) sc_q_refused.nd rfl (Or.inl rfl)) (fun _ _ _ _ _ => pts_nil) (fun _ _ _ _ _ => (pe_cmpR (eqK K rfl hr.units) (pv 1) (pv 6) (nomark _)))) (nomark _)))))
 (pss_cons (ps_ret pe_bl)
 pss_nil)
 pss_nil)
 (pss_cons (ps_if (pt_cmpR (eqK K rfl hr.units) (pv 1) (pe_strT (l := [115, 101, 116, 115]) (by decide +kernel)) (nomark _)) pss_never pss_nil)
 (pss_cons (ps_if (pt_cmpR (eqK K rfl hr.units) (pv 1) (pe_strT (l := [116, 101, 120, 116]) (by decide +kernel)) (nomark _)) pss_never pss_nil)
 (pss_cons (ps_ret (pe_or (pe_cmpR (eqK K rfl hr.units) (pv 1) (pe_strT (l := [110, 117, 109, 98, 101, 114]) (by decide +kernel)) (nomark _)) (pe_one (pe_pmH g_q_alike_h ⟨hr.dp, hr.un⟩ (hot_suite hz hf) (pa_cons (pe_xfK K rfl x_BadTape.1 x_BadTape.2 hz.zc hf (pv 3)) (pa_cons (pv 2) pa_nil))))))
 pss_nil)))))))))
 (pss_cons (ps_ret pe_bl)
 pss_nil)), ?_⟩
  refine ⟨rfl, hc, htl _ _ fun d H' n' e' hx' => go_was (o := none) (F := H) (Wd.bare e') hx' n' (fun b z => nomatch z) ex1 fun a => ?_⟩
  show Go none _ _ _ _
  have hF : Ex H (upd H d (.xd [("at", v)])) := ex_new n'
  wtm_at "r"
  refine wp_isX rfl xc relR' k0 upd_same ?_
  wtm_at "r"
  refine wp_isX rfl xc relR' k1 upd_same ?_
  wtm_at "r"
  refine wp_isX rfl xc relR' k2 upd_same ?_
  wtm_at "r"
  refine wp_isX rfl xc relR' k3 upd_same ?_
  wtm_at "r"
  refine ⟨(by show 4 ≤ 100000; decide), ?_⟩
  obtain ⟨F0, hF0⟩ : ∃ F0, F0 = upd H d (.xd [("at", v)]) := ⟨_, rfl⟩
  have hd0 : F0 d = some (.xd [("at", v)]) := by rw [hF0]; exact upd_same
  rw [← hF0] at hF ⊢
  wtm_at "gz"
  intro p1 hp1 F1 q1 e1
  wtm_at "r"
  refine wp_bmL ?_
  wtm_at "r"
  refine ⟨p1, _, rfl, SqL.of q1, ?_⟩
  wtm_at "r"
  refine wp_isX rfl xc relR' k4 (e1 _ _ hd0) ?_
  wtm_at "r"
  refine wp_append q1 (by show 4 < 100000; decide) ?_
  have e2 : Ex F0 (upd F1 p1 (.lst ([.bl b0, .bl b1, .bl b2, .bl b3] ++ [.bl b4]))) := ex_mut e1 hp1
  have q2 : (upd F1 p1 (.lst ([.bl b0, .bl b1, .bl b2, .bl b3] ++ [.bl b4]))) p1 = some (.lst ([b0, b1, b2, b3, b4].map V.bl)) := upd_same
  revert e2 q2
  generalize upd F1 p1 (.lst ([.bl b0, .bl b1, .bl b2, .bl b3] ++ [.bl b4])) = F2
  intro e2 q2
  wtm_at "r"
  refine ⟨(by show 5 ≤ 100000; decide), ?_⟩
  wtm_at "gz"
  intro p3 hp3 F3 q3 e3
  have q3 : F3 p3 = some (.lst (wordsR.map fun z => V.str (tx z))) := q3
  wtm_at "r"
  refine wp_isX rfl xc relT' kV (e3 _ _ (e2 _ _ hd0)) ?_
  wtm_at "r"
  refine bF rfl ?_
  wtm_at "r"
  refine wp_lcL (fun _ => rfl) ?_
  wtm_at "r"
  refine ⟨p3, _, rfl, SqL.of q3, fun Dl hD => ?_⟩
  refine ⟨fun i acc F4 => acc = ((wordsR.take i).map fun z => V.bl (decide (l = z))) ∧ Ex F3 F4, ⟨rfl, ex_new hD⟩, fun i acc F4 ⟨_, e4⟩ => SqL.of (e4 _ _ q3), ?_, ?_⟩
  · rintro i y acc F4 hy q4 ⟨rfl, e4⟩
    obtain ⟨z, hz, rfl⟩ : ∃ z, wordsR[i]? = some z ∧ y = .str (tx z) := by
      rw [List.getElem?_map] at hy
      cases q : wordsR[i]? with
      | none => rw [q] at hy; cases hy
      | some c => rw [q] at hy; exact ⟨c, rfl, (Option.some.inj hy).symm⟩
    show Wp _ _ _ _
    wtm_at "r"
    refine ⟨fun _ => ?_, fun z => (by cases z)⟩
    wtm_at "r"
    refine ⟨q4, ?_, ?_, ex_mut e4 hD⟩
    · have := List.length_take_le' i wordsR
      have h5 : wordsR.length = 5 := rfl
      rw [List.length_map]
      omega
    · rw [take_more hz, List.map_append]
      rfl
  · rintro acc F4 q4 ⟨rfl, e4⟩
    have q4 : F4 Dl = some (.lst ([b0, b1, b2, b3, b4].map V.bl)) := by
      rw [hb, List.map_map]
      exact q4
    refine wp_neD (d := .list ([b0, b1, b2, b3, b4].map PyData.bool)) (e := .list ([b0, b1, b2, b3, b4].map PyData.bool)) (.lst (SqL.of ((e3.trans e4) _ _ q2)) (dp_bools _)) (.lst (SqL.of q4) (dp_bools _)) (by rfl) (by rfl) ?_
    rw [show PyData.eqv (.list ([b0, b1, b2, b3, b4].map PyData.bool)) (.list ([b0, b1, b2, b3, b4].map PyData.bool)) = true from eqv_bools _]
    wtm_at "r"
    refine bF rfl ?_
    wtm_at "r"
    refine bF (decide_eq_false l0) ?_
    wtm_at "r"
    refine bF (decide_eq_false l4) ?_
    wtm_at "r"
    refine bF (decide_eq_false l3) ?_
    refine wp_callS ?_
    wtm_at "r"
    refine wp_xf (fs := [("at", v)]) (v := v) ?_
    wtm_at "r"
    refine ⟨rfl, rfl, e4 _ _ (e3 _ _ (e2 _ _ hd0)), rfl, ?_⟩
    wtm_at "r"
    intro H5 w5 Q5 k5
    refine ⟨v, rfl, hv, RetV.use w5 ?_ k5⟩
    exact kQ.out (hF.trans (e2.trans (e3.trans e4)))
theorem refused_num {CT CS CA CN CM CX C : Addr} {b0 b1 b2 b3 b4 : Bool} (B : Bl mg) (M : RefC K mg CT CS CA CN CM CX C b0 b1 b2 b3 b4) (no : PySem.W.findIn K (.ref C) "at" = some none) (g_q_alike_h : PmH P w K mg base 1 "_law_alike" ["_law_found", "_law_due"] spAH)
    (hb : [b0, b1, b2, b3, b4] = wordsR.map fun z => decide ([110, 117, 109, 98, 101, 114] = z)) {f c' g : Addr} {co : HO} {cdg : Value} {A : Around} {outer : List Env} {s : Shared} {H : Hp} {E : XK} {Q : VK} {v : V} {tl : XK → Hp → VK → Prop} (hr : Room 1 (A.deeper (envOfC "_law_refused" (defScope s_q_refused) s.heap.objs.size g cdg)))
    (act : ∀ (W : WX) (pn : List (Addr × Obj)) (xe : Value → Shared → Prop) (p1 p2 : Pos), L2N.Takes ((cxOf CX0 P w K mg base n_q_refused "_law_refused" (defScope s_q_refused) g cdg A outer s H E).tr pn xe) W →
      PE ((cxOf CX0 P w K mg base n_q_refused "_law_refused" (defScope s_q_refused) g cdg A outer s H E).tr pn xe) (.Call (.Name "_law_work" p1) [] [] p2) (fun σZ HZ Q => σZ[0]? = some (some (.ref f)) ∧ HZ c' = some co ∧ tl (WE W σZ) HZ Q))
    (hc : H c' = some co) (htl : ∀ (E' : XK) (Q' : VK), RetU C H E' → tl E' H Q') (kQ : RetV (.bl true) H Q) :
    ∃ t, PSs (cxOf CX0 P w K mg base n_q_refused "_law_refused" (defScope s_q_refused) g cdg A outer s H E) (defBody s_q_refused) t ∧ t { nx := fun _ H' => Q .non H', rt := Q } (start n_q_refused [.ref f, .str (tx [110, 117, 109, 98, 101, 114]), v]) H := by
  obtain ⟨m_TapeError, m_BadSets, m_BadTape, m_NoSign, m_BadNumber, m_BadText, n_ValueError, ex1, xc, k0, k1, k2, k3, k4, kV⟩ := M
  have x_BadTape : XfC K C ∧ PySem.W.findIn K (.ref C) "at" = some none := ⟨xc.xf', no⟩
  refine ⟨_, (pss_cons (L2N.ps_try_as (i := 3) rfl rfl sc_q_refused.nd rfl rfl ⟨rfl, by decide, .inl m_TapeError⟩ takes0N (fun W pn xe tk _ => (pss_cons (ps_expr (act W pn xe _ _ tk))
 pss_nil)) (fun a oe cls d pn hz hf => (pss_cons (ps_set (i := 4) sc_q_refused.nd rfl (Or.inl rfl) (pe_lst (pa_cons (pe_callB (isXK K rfl hz.zc hf) (by rfl) B.isinstance (by decide +kernel) (pa_cons (pv 3) (pa_cons (pe_clsG m_BadSets) pa_nil))) (pa_cons (pe_callB (isXK K rfl hz.zc hf) (by rfl) B.isinstance (by decide +kernel) (pa_cons (pv 3) (pa_cons (pe_clsG m_BadTape) pa_nil))) (pa_cons (pe_callB (isXK K rfl hz.zc hf) (by rfl) B.isinstance (by decide +kernel) (pa_cons (pv 3) (pa_cons (pe_clsG m_NoSign) pa_nil))) (pa_cons (pe_callB (isXK K rfl hz.zc hf) (by rfl) B.isinstance (by decide +kernel) (pa_cons (pv 3) (pa_cons (pe_clsG m_BadNumber) pa_nil))) pa_nil))))))
 (pss_cons (ps_expr (bmK K rfl PySem.F.plainAttrs_list PySem.F.slot_list_append PySem.F.type_list_append mt_append (pv 4) (pa_cons (pe_callB (isXK K rfl hz.zc hf) (by rfl) B.isinstance (by decide +kernel) (pa_cons (pv 3) (pa_cons (pe_clsG m_BadText) pa_nil))) pa_nil)))
 (pss_cons (ps_set (i := 5) sc_q_refused.nd rfl (Or.inl rfl) (pe_lst (pa_cons (pe_strT (l := [115, 101, 116, 115]) (by decide +kernel)) (pa_cons (pe_strT (l := [116, 97, 112, 101]) (by decide +kernel)) (pa_cons (pe_strT (l := [115, 105, 103, 110]) (by decide +kernel)) (pa_cons (pe_strT (l := [110, 117, 109, 98, 101, 114]) (by decide +kernel)) (pa_cons (pe_strT (l := [116, 101, 120, 116]) (by decide +kernel)) pa_nil)))))))
 (pss_cons (ps_if (PW.pt (pw_or (pt_not (pt_val (pe_callB (isXK K rfl hz.zc hf) (by rfl) B.isinstance (by decide +kernel) (pa_cons (pv 3) (pa_cons (pe_bltn (v := .ty "ValueError") (by rfl) n_ValueError (by decide +kernel) rfl) pa_nil))))) (pw_or1 (pt_cmpR (neK K rfl hr.units) (pv 4) (pe_lcH (own := [("_law_one", 6)]) (g := gName 6) (tt := tYes) K rfl (hot_suite hz hf) sc_q_refused.nd (pv 5) (blkOk_by (N := n_q_refused) (sc := defScope s_q_refused) (by decide +kernel)) (fun _ _ _ _ _ => pg_name (i := 6) sc_q_refused.nd rfl (Or.inl rfl)) (fun _ _ _ _ _ => pts_nil) (fun _ _ _ _ _ => (pe_cmpR (eqK K rfl hr.units) (pv 1) (pv 6) (nomark _)))) (nomark _)))))
 (pss_cons (ps_ret pe_bl)
 pss_nil)
 pss_nil)
 (pss_cons (ps_if (pt_cmpR (eqK K rfl hr.units) (pv 1) (pe_strT (l := [115, 101, 116, 115]) (by decide +kernel)) (nomark _)) pss_never pss_nil)
 (pss_cons (ps_if (pt_cmpR (eqK K rfl hr.units) (pv 1) (pe_strT (l := [116, 101, 120, 116]) (by decide +kernel)) (nomark _)) pss_never pss_nil)
 (pss_cons (ps_ret (pe_or (pe_cmpR (eqK K rfl hr.units) (pv 1) (pe_strT (l := [110, 117, 109, 98, 101, 114]) (by decide +kernel)) (nomark _)) (pe_one (pe_pmH g_q_alike_h ⟨hr.dp, hr.un⟩ (hot_suite hz hf) (pa_cons (pe_xfK K rfl x_BadTape.1 x_BadTape.2 hz.zc hf (pv 3)) (pa_cons (pv 2) pa_nil))))))
 pss_nil)))))))))
 (pss_cons (ps_ret pe_bl)
 pss_nil)), ?_⟩
  refine ⟨rfl, hc, htl _ _ fun H' e' => go_was0 (F := H) (Wd.bare e') ex1 fun a => ?_⟩
  show Go none _ _ _ _
  wtm_at "r"
  refine wp_isX0 rfl xc relR' k0 ?_
  wtm_at "r"
  refine wp_isX0 rfl xc relR' k1 ?_
  wtm_at "r"
  refine wp_isX0 rfl xc relR' k2 ?_
  wtm_at "r"
  refine wp_isX0 rfl xc relR' k3 ?_
  wtm_at "r"
  refine ⟨(by show 4 ≤ 100000; decide), ?_⟩
  obtain ⟨F0, hF0⟩ : ∃ F0, F0 = H := ⟨_, rfl⟩
  rw [← hF0]
  wtm_at "gz"
  intro p1 hp1 F1 q1 e1
  wtm_at "r"
  refine wp_bmL ?_
  wtm_at "r"
  refine ⟨p1, _, rfl, SqL.of q1, ?_⟩
  wtm_at "r"
  refine wp_isX0 rfl xc relR' k4 ?_
  wtm_at "r"
  refine wp_append q1 (by show 4 < 100000; decide) ?_
  have e2 : Ex F0 (upd F1 p1 (.lst ([.bl b0, .bl b1, .bl b2, .bl b3] ++ [.bl b4]))) := ex_mut e1 hp1
  have q2 : (upd F1 p1 (.lst ([.bl b0, .bl b1, .bl b2, .bl b3] ++ [.bl b4]))) p1 = some (.lst ([b0, b1, b2, b3, b4].map V.bl)) := upd_same
  revert e2 q2
  generalize upd F1 p1 (.lst ([.bl b0, .bl b1, .bl b2, .bl b3] ++ [.bl b4])) = F2
  intro e2 q2
  wtm_at "r"
  refine ⟨(by show 5 ≤ 100000; decide), ?_⟩
  wtm_at "gz"
  intro p3 hp3 F3 q3 e3
  have q3 : F3 p3 = some (.lst (wordsR.map fun z => V.str (tx z))) := q3
  wtm_at "r"
  refine wp_isX0 rfl xc relT' kV ?_
  wtm_at "r"
  refine bF rfl ?_
  wtm_at "r"
  refine wp_lcL (fun _ => rfl) ?_
  wtm_at "r"
  refine ⟨p3, _, rfl, SqL.of q3, fun Dl hD => ?_⟩
  refine ⟨fun i acc F4 => acc = ((wordsR.take i).map fun z => V.bl (decide ([110, 117, 109, 98, 101, 114] = z))) ∧ Ex F3 F4, ⟨rfl, ex_new hD⟩, fun i acc F4 ⟨_, e4⟩ => SqL.of (e4 _ _ q3), ?_, ?_⟩
  · rintro i y acc F4 hy q4 ⟨rfl, e4⟩
    obtain ⟨z, hz, rfl⟩ : ∃ z, wordsR[i]? = some z ∧ y = .str (tx z) := by
      rw [List.getElem?_map] at hy
      cases q : wordsR[i]? with
      | none => rw [q] at hy; cases hy
      | some c => rw [q] at hy; exact ⟨c, rfl, (Option.some.inj hy).symm⟩
    show Wp _ _ _ _
    wtm_at "r"
    refine ⟨fun _ => ?_, fun z => (by cases z)⟩
    wtm_at "r"
    refine ⟨q4, ?_, ?_, ex_mut e4 hD⟩
    · have := List.length_take_le' i wordsR
      have h5 : wordsR.length = 5 := rfl
      rw [List.length_map]
      omega
    · rw [take_more hz, List.map_append]
      rfl
  · rintro acc F4 q4 ⟨rfl, e4⟩
    have q4 : F4 Dl = some (.lst ([b0, b1, b2, b3, b4].map V.bl)) := by
      rw [hb, List.map_map]
      exact q4
    refine wp_neD (d := .list ([b0, b1, b2, b3, b4].map PyData.bool)) (e := .list ([b0, b1, b2, b3, b4].map PyData.bool)) (.lst (SqL.of ((e3.trans e4) _ _ q2)) (dp_bools _)) (.lst (SqL.of q4) (dp_bools _)) (by rfl) (by rfl) ?_
    rw [show PyData.eqv (.list ([b0, b1, b2, b3, b4].map PyData.bool)) (.list ([b0, b1, b2, b3, b4].map PyData.bool)) = true from eqv_bools _]
    wtm_at "r"
    refine bF rfl ?_
    wtm_at "r"
    refine bF rfl ?_
    wtm_at "r"
    refine bF rfl ?_
    wtm_at "r"
    refine ⟨fun _ => ?_, fun z => (by cases z)⟩
    rw [hF0] at e2
    exact kQ.out (e2.trans (e3.trans e4))
theorem ok0 {x qual : Str} {st : Stmt} {f : Addr} {fd : FuncData} {N ps : List Str} {k : Nat} {sp : Sp} (F : Fun K x qual st f fd) (S : FnScope N ps (defScope st)) (len : ∀ vs H Q E, sp vs H Q E → vs.length = ps.length)
    (hbody : ∀ (cdv : Value) (A : Around) (outer : List Env) (s : Shared) (H : Hp) (vs : List V) (Q : VK) (E : XK), Room k (A.deeper (envOfC qual (defScope st) s.heap.objs.size f cdv)) → sp vs H Q E →
      ∃ t, PSs (cxOf CX0 P w K mg base N qual (defScope st) f cdv A outer s H E) (defBody st) t ∧ t { nx := fun _ H' => Q .non H', rt := Q } (start N vs) H) : FnOk P w K mg base CX0 (k + 1) f fd ps sp := by
  obtain ⟨oc, od, kV, doc, pm, an, cdv, ct, osl, rfl, lk, hcd⟩ := F.ex
  exact fn_of lk hcd S len fun A outer s H vs Q E hr hsp => hbody cdv A outer s H vs Q E hr hsp
theorem retE_rm {C : Addr} {f : Str} {v : V} {H : Hp} {cs : List Addr} {E : XK} (Ce : Cels H cs) (h : RetE C f v H E) : RetE C f v (rmL H cs) (fun cls d H' => (∀ c ∈ cs, H' c = none) → E cls d (adL H H' cs)) := fun d H2 n e hx hn => by
  have hd : d ∉ cs := fun hc => by
    have := hn d hc
    rw [hx] at this
    cases this
  rw [rmL_out hd] at n
  refine h d _ n (fun b u q => ?_) (by rw [adL_out hd]; exact hx)
  by_cases hb : b ∈ cs
  · rw [adL_in hb]; exact q
  · rw [adL_out hb]; exact e b u (by rw [rmL_out hb]; exact q)
theorem sqT_rmL {a : Addr} {xs : List V} {H : Hp} {cs : List Addr} (Ce : Cels H cs) (h : SqT K H a xs) : SqT K (rmL H cs) a xs := by
  rcases h with (h | ⟨o, h⟩) | h
  · exact .inl (.inl (rmL_at Ce h fun _ _ z => objO_ntup _ z.symm))
  · exact .inl (.inr ⟨o, rmL_at Ce h fun _ _ z => objO_nfrz z.symm⟩)
  · exact .inr h
theorem sqL_rmL {a : Addr} {xs : List V} {H : Hp} {cs : List Addr} (Ce : Cels H cs) (h : SqL K H a xs) : SqL K (rmL H cs) a xs := by
  rcases h with (h | ⟨o, h⟩) | h
  · exact .inl (.inl (rmL_at Ce h fun _ _ z => objO_nlst _ z.symm))
  · exact .inl (.inr ⟨o, rmL_at Ce h fun _ _ z => objO_nfrz z.symm⟩)
  · exact .inr h
theorem retU_rm {C : Addr} {H : Hp} {cs : List Addr} {E : XK} (Ce : Cels H cs) (h : RetU C H E) : RetU C (rmL H cs) (fun cls d H' => (∀ c ∈ cs, H' c = none) → E cls d (adL H H' cs)) := fun H2 e hn => by
  refine h _ (fun b u q => ?_)
  by_cases hb : b ∈ cs
  · rw [adL_in hb]; exact q
  · rw [adL_out hb]; exact e b u (by rw [rmL_out hb]; exact q)
/-- a function whose call raises what Rs says while Cond holds -/
def Rai (P : Program) (w : World) (K : PySem.W.Frag) (mg : Str → Option Value) (base : Heap) (f : Addr) (Rs : Hp → XK → Prop) (H : Hp) : Prop := ∃ Cond : Hp → Prop, FnHas P w K mg base 6 f (fun H _ E => Cond H ∧ Rs H E) H ∧ ∀ cs, Cels H cs → Cond (rmL H cs)
def sp_refA (P : Program) (w : World) (K : PySem.W.Frag) (mg : Str → Option Value) (base : Heap) (C : Addr) (word : List Nat) : Sp := fun vs H Q _ => ∃ (f : Addr) (i : Int), vs = [.ref f, .str (tx word), .int i] ∧ Rai P w K mg base f (RetE C "at" (.int i)) H ∧ RetV (.bl true) H Q
def sp_refU (P : Program) (w : World) (K : PySem.W.Frag) (mg : Str → Option Value) (base : Heap) (C : Addr) : Sp := fun vs H Q _ => ∃ (f : Addr) (i : Int), vs = [.ref f, .str (tx [110, 117, 109, 98, 101, 114]), .int i] ∧ Rai P w K mg base f (RetU C) H ∧ RetV (.bl true) H Q
theorem pm_refA {CT CS CA CN CM CX C : Addr} {b0 b1 b2 b3 b4 : Bool} {word : List Nat} (D : DefAt K mg "_law_refused" s_q_refused) (B : Bl mg) (M : RefC K mg CT CS CA CN CM CX C b0 b1 b2 b3 b4) (no : PySem.W.findIn K (.ref C) "at" = some none) (g_q_alike_h : PmH P w K mg base 1 "_law_alike" ["_law_found", "_law_due"] spAH)
    (hb : [b0, b1, b2, b3, b4] = wordsR.map fun z => decide (word = z)) (l0 : word ≠ [115, 101, 116, 115]) (l3 : word ≠ [110, 117, 109, 98, 101, 114]) (l4 : word ≠ [116, 101, 120, 116]) :
    Pm P w K mg base CX0 8 "_law_refused" ["_law_work", "_law_word", "_law_value"] (sp_refA P w K mg base C word) := by
  obtain ⟨f, fd, F, hm⟩ := D
  refine ⟨f, fd, ?_, hm, F.kp, F.binds fun _ _ _ _ _ _ us hl => match us, hl with | [_, _, _], _ => rfl⟩
  refine ok0 F sc_q_refused (fun vs H Q E h => ?_) (fun cdv A outer s H vs Q E hr h => ?_)
  · obtain ⟨_, _, rfl, _⟩ := h
    rfl
  · obtain ⟨g, i, rfl, ⟨Cond, hF, hC⟩, k⟩ := h
    obtain ⟨c', co, tl, h1, h2, h3⟩ := FnHas.act (CXg := CX0) (Eg := E) (Ng := n_q_refused) (a := "_law_work") hF hC (fun cs E Ce => retE_rm Ce) hr rfl (Or.inl rfl)
    exact refused_atT B M no g_q_alike_h hb l0 l3 l4 (.inl ⟨_, rfl⟩) (hr.mono (by decide)) h2 h1 h3 k
theorem pm_refU {CT CS CA CN CM CX C : Addr} (D : DefAt K mg "_law_refused" s_q_refused) (B : Bl mg) (M : RefC K mg CT CS CA CN CM CX C false false false true false) (no : PySem.W.findIn K (.ref C) "at" = some none) (g_q_alike_h : PmH P w K mg base 1 "_law_alike" ["_law_found", "_law_due"] spAH) :
    Pm P w K mg base CX0 8 "_law_refused" ["_law_work", "_law_word", "_law_value"] (sp_refU P w K mg base C) := by
  obtain ⟨f, fd, F, hm⟩ := D
  refine ⟨f, fd, ?_, hm, F.kp, F.binds fun _ _ _ _ _ _ us hl => match us, hl with | [_, _, _], _ => rfl⟩
  refine ok0 F sc_q_refused (fun vs H Q E h => ?_) (fun cdv A outer s H vs Q E hr h => ?_)
  · obtain ⟨_, _, rfl, _⟩ := h
    rfl
  · obtain ⟨g, i, rfl, ⟨Cond, hF, hC⟩, k⟩ := h
    obtain ⟨c', co, tl, h1, h2, h3⟩ := FnHas.act (CXg := CX0) (Eg := E) (Ng := n_q_refused) (a := "_law_work") hF hC (fun cs E Ce => retU_rm Ce) hr rfl (Or.inl rfl)
    exact refused_num B M no g_q_alike_h rfl (hr.mono (by decide)) h2 h1 h3 k
end
/-! ### _law_works: lambdas handed out -/
section
open LamX
variable {P : Program} {w : World} {K : PySem.W.Frag} {mg : Str → Option Value} {base : Heap}
abbrev s_q_works : Stmt := topS 47
abbrev n_q_works : List Str := ["_law_sets_here", "_law_tape_here", "_law_state", "_law_works_here"]
theorem sc_q_works : FnScope n_q_works ["_law_sets_here", "_law_tape_here", "_law_state"] (defScope s_q_works) := ⟨rfl, rfl, rfl, by decide +kernel, rfl, by decide +kernel, by decide +kernel⟩

abbrev qW : Str := ("_law_works" ++ ".<locals>." : Str) ++ "<lambda>"
abbrev qL : Str := ("law" ++ ".<locals>." : Str) ++ "<lambda>"
abbrev tabsOf (pL pW : Addr) : List (Addr × Str) := [(pL, qL), (pW, qW)]
def CondW (K : PySem.W.Frag) (s t : Addr) (A B : List Nat) (cs : List Int) (st : Int) (x : Option Nat) (H : Hp) : Prop := SetsAt K H s A B ∧ Good A B ∧ SqL K H t (il cs) ∧ cs.length ≤ 1000 ∧ FirstB A.length cs x ∧ ¬ StOk st
theorem CondW.rmL {s t : Addr} {A B : List Nat} {cs : List Int} {st : Int} {x : Option Nat} {H : Hp} (h : CondW K s t A B cs st x H) : ∀ c, Cels H c → CondW K s t A B cs st x (rmL H c) := fun c Ce =>
  ⟨sqT_rmL Ce h.1, h.2.1, sqL_rmL Ce h.2.2.1, h.2.2.2⟩
def spW (K : PySem.W.Frag) (CA CM s t : Addr) (A B : List Nat) (cs : List Int) (st : Int) (x : Option Nat) : Hp → VK → XK → Prop := fun H _ E => CondW K s t A B cs st x H ∧ XOut CA CM x H E
def sp_works (P : Program) (w : World) (K : PySem.W.Frag) (mg : Str → Option Value) (base : Heap) (CA CM pL pW : Addr) : Sp := fun vs H Q _ => ∃ (s t : Addr) (A B : List Nat) (cs : List Int) (st : Int) (x : Option Nat), vs = [.ref s, .ref t, .int st] ∧ CondW K s t A B cs st x H ∧ Tabs (tabsOf pL pW) H ∧
  ∀ (p : Addr) (fs : List Addr) (H1 : Hp), ExtN H H1 → Tabs (tabsOf pL pW) H1 → H1 p = some (.lst (fs.map V.ref)) → fs.length = 4 → (∀ f ∈ fs, FnHas P w K mg base 6 f (spW K CA CM s t A B cs st x) H1) → Q (.ref p) H1
theorem ex_tN {F F1 : Hp} {a : Addr} {xs : List V} (e : ExtN F F1) (h : SqT K F a xs) : SqT K F1 a xs := by
  rcases h with (h | ⟨o, h⟩) | h
  · exact .inl (.inl (e _ _ h fun ps z => by cases z))
  · exact .inl (.inr ⟨o, e _ _ h fun ps z => by cases z⟩)
  · exact .inr h
theorem ex_lsN {F F1 : Hp} {a : Addr} {xs : List V} (e : ExtN F F1) (h : SqL K F a xs) : SqL K F1 a xs := by
  rcases h with (h | ⟨o, h⟩) | h
  · exact .inl (.inl (e _ _ h fun ps z => by cases z))
  · exact .inl (.inr ⟨o, e _ _ h fun ps z => by cases z⟩)
  · exact .inr h
theorem CondW.extN {s t : Addr} {A B : List Nat} {cs : List Int} {st : Int} {x : Option Nat} {H H1 : Hp} (h : CondW K s t A B cs st x H) (e : ExtN H H1) : CondW K s t A B cs st x H1 := ⟨ex_tN e h.1, h.2.1, ex_lsN e h.2.2.1, h.2.2.2⟩
theorem lam_0 {CA CM s t : Addr} {A' B' : List Nat} {cs : List Int} {st : Int} {x : Option Nat} (g_read_x : Pm P w K mg base (L2N.CX P w) 5 "read" ["sets", "tape", "state"] (sp_allX K CA CM)) {cells : List (Str × Addr)} {f c' : Addr} {dv : Value} {F : Hp} (hc : F c' = some (CodeO c' qW)) (hf : F f = some (LamO f qW (lamPs s_q_works 0) (lamBd s_q_works 0) (lamSc s_q_works 0) (cloFrom cells (lamSc s_q_works 0).names []) c' dv))
    (hd : DvO F dv (lamPs s_q_works 0) []) : FnPre P w K mg base 6 cells n_q_works (defScope s_q_works) [some (.ref s), some (.ref t), some (.int st), none] f (spW K CA CM s t A' B' cs st x) F := by
  refine ⟨qW, _, _, _, c', dv, [], _, lamN_by (by decide +kernel), hc, hf, hd, fun A outer s H E f c' cl hr' => (pe_pm g_read_x (Room.mono hr' (by decide)) (L2N.passes_call (L2N.takes_of rfl rfl rfl rfl) (fun _ _ _ _ h => h)) (pa_cons (pv 0) (pa_cons (pv 1) (pa_cons (pv 2) pa_nil)))), fun H Q E h => ?_⟩
  obtain ⟨⟨hS, gd, hT, hl, hx, hst⟩, k⟩ := h
  refine (show Wp none (fun H Q => _) H (fun _ _ => False) from ?_) H (Wd.bare (exr H)) Q fun _ _ _ _ z => z.elim
  wtm_at "r"
  exact wp_allX hS gd hT hl hx hst k (exr _)
theorem lam_1 {CA CM s t : Addr} {A' B' : List Nat} {cs : List Int} {st : Int} {x : Option Nat} (g_losses_x : Pm P w K mg base (L2N.CX P w) 5 "losses" ["sets", "tape", "state"] (sp_allX K CA CM)) {cells : List (Str × Addr)} {f c' : Addr} {dv : Value} {F : Hp} (hc : F c' = some (CodeO c' qW)) (hf : F f = some (LamO f qW (lamPs s_q_works 1) (lamBd s_q_works 1) (lamSc s_q_works 1) (cloFrom cells (lamSc s_q_works 1).names []) c' dv))
    (hd : DvO F dv (lamPs s_q_works 1) []) : FnPre P w K mg base 6 cells n_q_works (defScope s_q_works) [some (.ref s), some (.ref t), some (.int st), none] f (spW K CA CM s t A' B' cs st x) F := by
  refine ⟨qW, _, _, _, c', dv, [], _, lamN_by (by decide +kernel), hc, hf, hd, fun A outer s H E f c' cl hr' => (pe_pm g_losses_x (Room.mono hr' (by decide)) (L2N.passes_call (L2N.takes_of rfl rfl rfl rfl) (fun _ _ _ _ h => h)) (pa_cons (pv 0) (pa_cons (pv 1) (pa_cons (pv 2) pa_nil)))), fun H Q E h => ?_⟩
  obtain ⟨⟨hS, gd, hT, hl, hx, hst⟩, k⟩ := h
  refine (show Wp none (fun H Q => _) H (fun _ _ => False) from ?_) H (Wd.bare (exr H)) Q fun _ _ _ _ z => z.elim
  wtm_at "r"
  exact wp_allX hS gd hT hl hx hst k (exr _)
theorem lam_2 {CA CM s t : Addr} {A' B' : List Nat} {cs : List Int} {st : Int} {x : Option Nat} (g_worst_x : Pm P w K mg base (L2N.CX P w) 6 "worst" ["sets", "tape", "state"] (sp_allX K CA CM)) {cells : List (Str × Addr)} {f c' : Addr} {dv : Value} {F : Hp} (hc : F c' = some (CodeO c' qW)) (hf : F f = some (LamO f qW (lamPs s_q_works 2) (lamBd s_q_works 2) (lamSc s_q_works 2) (cloFrom cells (lamSc s_q_works 2).names []) c' dv))
    (hd : DvO F dv (lamPs s_q_works 2) []) : FnPre P w K mg base 6 cells n_q_works (defScope s_q_works) [some (.ref s), some (.ref t), some (.int st), none] f (spW K CA CM s t A' B' cs st x) F := by
  refine ⟨qW, _, _, _, c', dv, [], _, lamN_by (by decide +kernel), hc, hf, hd, fun A outer s H E f c' cl hr' => (pe_pm g_worst_x (Room.mono hr' (by decide)) (L2N.passes_call (L2N.takes_of rfl rfl rfl rfl) (fun _ _ _ _ h => h)) (pa_cons (pv 0) (pa_cons (pv 1) (pa_cons (pv 2) pa_nil)))), fun H Q E h => ?_⟩
  obtain ⟨⟨hS, gd, hT, hl, hx, hst⟩, k⟩ := h
  refine (show Wp none (fun H Q => _) H (fun _ _ => False) from ?_) H (Wd.bare (exr H)) Q fun _ _ _ _ z => z.elim
  wtm_at "r"
  exact wp_allX hS gd hT hl hx hst k (exr _)
theorem lam_3 {CA CM s t : Addr} {A' B' : List Nat} {cs : List Int} {st : Int} {x : Option Nat} (g_trimmed_x : Pm P w K mg base (L2N.CX P w) 5 "trimmed" ["sets", "tape", "state"] (sp_allX K CA CM)) {cells : List (Str × Addr)} {f c' : Addr} {dv : Value} {F : Hp} (hc : F c' = some (CodeO c' qW)) (hf : F f = some (LamO f qW (lamPs s_q_works 3) (lamBd s_q_works 3) (lamSc s_q_works 3) (cloFrom cells (lamSc s_q_works 3).names []) c' dv))
    (hd : DvO F dv (lamPs s_q_works 3) []) : FnPre P w K mg base 6 cells n_q_works (defScope s_q_works) [some (.ref s), some (.ref t), some (.int st), none] f (spW K CA CM s t A' B' cs st x) F := by
  refine ⟨qW, _, _, _, c', dv, [], _, lamN_by (by decide +kernel), hc, hf, hd, fun A outer s H E f c' cl hr' => (pe_pm g_trimmed_x (Room.mono hr' (by decide)) (L2N.passes_call (L2N.takes_of rfl rfl rfl rfl) (fun _ _ _ _ h => h)) (pa_cons (pv 0) (pa_cons (pv 1) (pa_cons (pv 2) pa_nil)))), fun H Q E h => ?_⟩
  obtain ⟨⟨hS, gd, hT, hl, hx, hst⟩, k⟩ := h
  refine (show Wp none (fun H Q => _) H (fun _ _ => False) from ?_) H (Wd.bare (exr H)) Q fun _ _ _ _ z => z.elim
  wtm_at "r"
  exact wp_allX hS gd hT hl hx hst k (exr _)
theorem pm_works {CA CM cW pL pW gW : Addr} {fdW : FuncData} (FW : Fun K "_law_works" "_law_works" s_q_works gW fdW) (hmW : mg "_law_works" = some (.ref gW)) (hcW : fdW.code = .ref cW) (TB : TabB base mg cW pW) (neT : pL ≠ pW) (B : Bl mg) (g_read_x : Pm P w K mg base (L2N.CX P w) 5 "read" ["sets", "tape", "state"] (sp_allX K CA CM)) (g_losses_x : Pm P w K mg base (L2N.CX P w) 5 "losses" ["sets", "tape", "state"] (sp_allX K CA CM)) (g_worst_x : Pm P w K mg base (L2N.CX P w) 6 "worst" ["sets", "tape", "state"] (sp_allX K CA CM)) (g_trimmed_x : Pm P w K mg base (L2N.CX P w) 5 "trimmed" ["sets", "tape", "state"] (sp_allX K CA CM)) : Pm P w K mg base CX0 1 "_law_works" ["_law_sets_here", "_law_tape_here", "_law_state"] (sp_works P w K mg base CA CM pL pW) := by
  have hkW := FW.kp
  have hbW : Binds K fdW ["_law_sets_here", "_law_tape_here", "_law_state"] [] := FW.binds fun _ _ _ _ _ _ us hl => match us, hl with | [_, _, _], _ => rfl
  obtain ⟨oc, od, kV, doc, pm, an, cd, ct, osl, rfl, lk, hcd⟩ := FW.ex
  have hcW : cd = .ref cW := hcW
  subst hcW
  refine ⟨gW, _, ?_, hmW, hkW, hbW⟩
  obtain ⟨TT, hTT⟩ : ∃ TT : List (Addr × Str), TT = tabsOf pL pW := ⟨_, rfl⟩
  have hmT : (pW, qW) ∈ TT := by rw [hTT]; exact List.mem_cons_of_mem _ List.mem_cons_self
  have huT : ∀ p ∈ TT, p.1 = pW → p.2 = qW := fun p hp e => by
    rw [hTT] at hp
    rcases List.mem_cons.mp hp with z | z
    · rw [z] at e; exact absurd e neT
    · rw [List.mem_singleton.mp z]
  refine fn_ofC lk hcd sc_q_works (fun vs H Q E h => ?_) (fun A outer s H vs Q E hr h => ?_)
  · obtain ⟨_, _, _, _, _, _, _, rfl, _⟩ := h
    rfl
  · obtain ⟨s, t, A', B', cs, st, x, rfl, hC, hT, k⟩ := h
    rw [← hTT] at hT k
    refine ⟨_, (psr_cons (ps_set (i := 3) sc_q_works.nd rfl (Or.inl rfl) (pe_lst (pa_cons (pe_lam (T := TT) (names := []) TB rfl hmT huT (lamN_by (N := n_q_works) (sc := defScope s_q_works) (by decide +kernel)) (.inl ⟨rfl, rfl, fun q body scope cl pm cv ct => rfl⟩)) pa_nil)))
 (psr_cons (ps_expr (bmK K rfl PySem.F.plainAttrs_list PySem.F.slot_list_append PySem.F.type_list_append mt_append (pv 3) (pa_cons (pe_lam (T := TT) (names := []) TB rfl hmT huT (lamN_by (N := n_q_works) (sc := defScope s_q_works) (by decide +kernel)) (.inl ⟨rfl, rfl, fun q body scope cl pm cv ct => rfl⟩)) pa_nil)))
 (psr_cons (ps_expr (bmK K rfl PySem.F.plainAttrs_list PySem.F.slot_list_append PySem.F.type_list_append mt_append (pv 3) (pa_cons (pe_lam (T := TT) (names := []) TB rfl hmT huT (lamN_by (N := n_q_works) (sc := defScope s_q_works) (by decide +kernel)) (.inl ⟨rfl, rfl, fun q body scope cl pm cv ct => rfl⟩)) pa_nil)))
 (psr_cons (ps_expr (bmK K rfl PySem.F.plainAttrs_list PySem.F.slot_list_append PySem.F.type_list_append mt_append (pv 3) (pa_cons (pe_lam (T := TT) (names := []) TB rfl hmT huT (lamN_by (N := n_q_works) (sc := defScope s_q_works) (by decide +kernel)) (.inl ⟨rfl, rfl, fun q body scope cl pm cv ct => rfl⟩)) pa_nil)))
 (psr_ret (pv 3)))))), ?_⟩
    refine go_st (σ := [some (.ref s), some (.ref t), some (.int st), none]) rfl ?_
    generalize hcl : (envOfC "_law_works" (defScope s_q_works) _ gW (.ref cW)).cells = cells
    have hpre : ∀ f F F1, ExtL F F1 → FnPre P w K mg base 6 cells n_q_works (defScope s_q_works) [some (.ref s), some (.ref t), some (.int st), none] f (spW K CA CM s t A' B' cs st x) F → FnPre P w K mg base 6 cells n_q_works (defScope s_q_works) [some (.ref s), some (.ref t), some (.int st), none] f (spW K CA CM s t A' B' cs st x) F1 := fun f F F1 e h => h.extL e
    wtm_at "r"
    refine wp_lam hT fun f0 c0 dv0 F0 e0 T0 hf0 hc0 hd0 => ?_
    wtm_at "r"
    refine ⟨(by show 1 ≤ 100000; decide), ?_⟩
    wtm_at "gz"
    intro p hp G0 q0 g0
    have np := new_of e0 hp
    have W0 := Wk.one hpre e0 T0 (lam_0 (CA := CA) (CM := CM) (s := s) (t := t) (A' := A') (B' := B') (cs := cs) (st := st) (x := x) g_read_x hc0 (by rw [← hcl]; exact hf0) hd0) g0 q0
    wtm_at "r"
    refine wp_bmL ?_
    wtm_at "r"
    refine ⟨p, _, rfl, SqL.of W0.at_, ?_⟩
    wtm_at "r"
    refine wp_lam W0.tb fun f1 c1 dv1 F1 e1 T1 hf1 hc1 hd1 => ?_
    wtm_at "r"
    refine wp_append (e1 _ _ W0.at_ fun ps z => by cases z) (by show 1 < 100000; decide) ?_
    have W1 := W0.step hpre np e1 T1 (lam_1 (CA := CA) (CM := CM) (s := s) (t := t) (A' := A') (B' := B') (cs := cs) (st := st) (x := x) g_losses_x hc1 (by rw [← hcl]; exact hf1) hd1)
    revert W1
    generalize upd F1 p _ = G1
    intro W1
    wtm_at "r"
    refine wp_bmL ?_
    wtm_at "r"
    refine ⟨p, _, rfl, SqL.of W1.at_, ?_⟩
    wtm_at "r"
    refine wp_lam W1.tb fun f2 c2 dv2 F2 e2 T2 hf2 hc2 hd2 => ?_
    wtm_at "r"
    refine wp_append (e2 _ _ W1.at_ fun ps z => by cases z) (by show 2 < 100000; decide) ?_
    have W2 := W1.step hpre np e2 T2 (lam_2 (CA := CA) (CM := CM) (s := s) (t := t) (A' := A') (B' := B') (cs := cs) (st := st) (x := x) g_worst_x hc2 (by rw [← hcl]; exact hf2) hd2)
    revert W2
    generalize upd F2 p _ = G2
    intro W2
    wtm_at "r"
    refine wp_bmL ?_
    wtm_at "r"
    refine ⟨p, _, rfl, SqL.of W2.at_, ?_⟩
    wtm_at "r"
    refine wp_lam W2.tb fun f3 c3 dv3 F3 e3 T3 hf3 hc3 hd3 => ?_
    wtm_at "r"
    refine wp_append (e3 _ _ W2.at_ fun ps z => by cases z) (by show 3 < 100000; decide) ?_
    have W3 := W2.step hpre np e3 T3 (lam_3 (CA := CA) (CM := CM) (s := s) (t := t) (A' := A') (B' := B') (cs := cs) (st := st) (x := x) g_trimmed_x hc3 (by rw [← hcl]; exact hf3) hd3)
    revert W3
    generalize upd F3 p _ = G3
    intro W3
    wtm_at "r"
    refine go_rr ?_
    wtm_at "r"
    intro H1 w1 H2 L
    have eN := (W3.ex.trans (ExtN.of w1.ex)).trans (ExtN.of L.ex)
    refine k p _ H2 eN (Tabs.ext W3.tb (w1.ex.trans L.ex)) (L.ex _ _ (w1.ex _ _ W3.at_)) rfl fun f hf => ?_
    exact FnPre.has (hpre _ _ _ (ExtL.of (ExtN.of w1.ex)) (W3.pr f hf)) L (fun i v e => by
      match i, e with
      | 0, e => exact e
      | 1, e => exact e
      | 2, e => exact e
      | 3, e => cases e
      | _ + 4, e => cases e) rfl
end
/-! ### the law's own lambdas -/
theorem cells_uq0 : ∀ {names : List (Str × NameKind)} {n : Nat} {acc : List (Str × Addr)}, (names.map (·.1)).Nodup → (acc.map (·.1)).Nodup → (∀ x ∈ names.map (·.1), x ∉ acc.map (·.1)) → ((cellsFrom n names acc).map (·.1)).Nodup
  | [], n, acc, _, h, _ => h
  | (x, k) :: r, n, acc, h1, h2, h3 => by
    have h1' := List.nodup_cons.mp h1
    unfold cellsFrom
    split
    · refine cells_uq0 h1'.2 (List.nodup_cons.mpr ⟨h3 x List.mem_cons_self, h2⟩) fun y hy hm => ?_
      rcases List.mem_cons.mp hm with e | hm
      · exact h1'.1 (by rw [← show y = x from e]; exact hy)
      · exact h3 y (List.mem_cons_of_mem _ hy) hm
    · exact cells_uq0 h1'.2 h2 fun y hy => h3 y (List.mem_cons_of_mem _ hy)
theorem lookup_uq : ∀ {l : List (Str × Addr)}, (l.map (·.1)).Nodup → ∀ p ∈ l, l.lookup p.1 = some p.2
  | [], _, p, hp => by cases hp
  | (x, c) :: r, h, p, hp => by
    have h' := List.nodup_cons.mp h
    rw [List.lookup_cons]
    rcases List.mem_cons.mp hp with e | hp
    · rw [e]
      simp
    · have ne : (p.1 == x) = false := by
        refine beq_eq_false_iff_ne.mpr fun e => h'.1 ?_
        rw [← e]
        exact List.mem_map.mpr ⟨p, hp, rfl⟩
      rw [ne]
      exact lookup_uq h'.2 p hp
theorem cells_uq {names : List (Str × NameKind)} {n : Nat} (h : (names.map (·.1)).Nodup) : ∀ p ∈ cellsFrom n names [], (cellsFrom n names []).lookup p.1 = some p.2 := lookup_uq (cells_uq0 h List.nodup_nil fun _ _ z => by cases z)
section
open LamX
variable {P : Program} {w : World} {K : PySem.W.Frag} {mg : Str → Option Value} {base : Heap}
abbrev s_law : Stmt := topS 48
abbrev n_law : List Str := ["_law_script", "_law_d", "_law_sets_here", "_law_tape_here", "_law_at", "_law_odd", "_law_bad", "_law_state", "_law_works_here", "_law_text_here", "_law_place", "_law_far", "_law_none", "_law_most", "_law_work"]
theorem sc_law : FnScope n_law ["_law_script"] (defScope s_law) := ⟨rfl, rfl, rfl, by decide +kernel, rfl, by decide +kernel, by decide +kernel⟩

abbrev sg1 (s t b : Addr) (st : Int) : L2.St := [none, none, some (.ref s), some (.ref t), none, none, some (.ref b), some (.int st), none, none, none, none, none, none, none]
abbrev sg2 (s : Addr) (st : Int) (N : List Nat) : L2.St := [none, none, some (.ref s), none, none, none, none, some (.int st), none, none, none, none, some (.str (tx N)), none, none]
abbrev sg3 (s t : Addr) (st : Int) (T : List Nat) (most : Int) : L2.St := [none, none, some (.ref s), some (.ref t), none, none, none, some (.int st), none, some (.str (tx T)), none, none, none, some (.int most), none]
def Cond1 (K : PySem.W.Frag) (s t b : Addr) (A B : List Nat) (cs bs : List Int) (i : Nat) (H : Hp) : Prop := SetsAt K H s A B ∧ Good A B ∧ SqL K H t (il cs) ∧ cs.length ≤ 1000 ∧ FirstB A.length cs none ∧ SqL K H b (il bs) ∧ bs.length ≤ 1000 ∧ FirstB A.length bs (some i)
theorem Cond1.rmL {s t b : Addr} {A B : List Nat} {cs bs : List Int} {i : Nat} {H : Hp} (h : Cond1 K s t b A B cs bs i H) : ∀ c, Cels H c → Cond1 K s t b A B cs bs i (rmL H c) := fun c Ce =>
  ⟨sqT_rmL Ce h.1, h.2.1, sqL_rmL Ce h.2.2.1, h.2.2.2.1, h.2.2.2.2.1, sqL_rmL Ce h.2.2.2.2.2.1, h.2.2.2.2.2.2⟩
def Cond2 (K : PySem.W.Frag) (s : Addr) (A B N : List Nat) (i : Nat) (H : Hp) : Prop := SetsAt K H s A B ∧ Good A B ∧ FirstT A B N (some i)
theorem Cond2.rmL {s : Addr} {A B N : List Nat} {i : Nat} {H : Hp} (h : Cond2 K s A B N i H) : ∀ c, Cels H c → Cond2 K s A B N i (rmL H c) := fun c Ce => ⟨sqT_rmL Ce h.1, h.2⟩
def Cond3 (K : PySem.W.Frag) (s t : Addr) (A B : List Nat) (cs : List Int) (st : Int) (T : List Nat) (most : Int) (H : Hp) : Prop := SetsAt K H s A B ∧ Good A B ∧ SqL K H t (il cs) ∧ cs.length ≤ 1000 ∧ FirstB A.length cs none ∧ ¬ StOk st ∧ FirstT A B T none ∧ (most < 0 ∨ 20 < most)
theorem Cond3.rmL {s t : Addr} {A B : List Nat} {cs : List Int} {st : Int} {T : List Nat} {most : Int} {H : Hp} (h : Cond3 K s t A B cs st T most H) : ∀ c, Cels H c → Cond3 K s t A B cs st T most (rmL H c) := fun c Ce => ⟨sqT_rmL Ce h.1, h.2.1, sqL_rmL Ce h.2.2.1, h.2.2.2⟩
theorem laml_0 {CA CN CM : Addr} {s t b : Addr} {A' B' : List Nat} {cs bs : List Int} {i : Nat} {st : Int} (B : Bl mg) (g_by_state_x : Pm P w K mg base (L2N.CX P w) 4 "by_state" ["sets", "tape"] (sp_tapX K CA)) {cells : List (Str × Addr)} {f c' : Addr} {dv : Value} {F : Hp} (hc : F c' = some (CodeO c' qL)) (hf : F f = some (LamO f qL (lamPs s_law 0) (lamBd s_law 0) (lamSc s_law 0) (cloFrom cells (lamSc s_law 0).names []) c' dv))
    (hd : DvO F dv (lamPs s_law 0) []) : FnPre P w K mg base 6 cells n_law (defScope s_law) (sg1 s t b st) f (fun H _ E => Cond1 K s t b A' B' cs bs i H ∧ RetE CA "at" (.int (i : Nat)) H E) F := by
  refine ⟨qL, _, _, _, c', dv, [], _, lamN_by (by decide +kernel), hc, hf, hd, fun A outer s H E f c' cl hr' => (pe_pm g_by_state_x (Room.mono hr' (by decide)) (L2N.passes_call (L2N.takes_of rfl rfl rfl rfl) (fun _ _ _ _ h => h)) (pa_cons (pv 2) (pa_cons (pv 6) pa_nil))), fun H Q E h => ?_⟩
  obtain ⟨⟨hS, gd, hT, hl, hn, hB, hbl, hbx⟩, k⟩ := h
  refine (show Wp none (fun H Q => _) H (fun _ _ => False) from ?_) H (Wd.bare (exr H)) Q fun _ _ _ _ z => z.elim
  wtm_at "r"
  exact wp_tapX hS gd hB hbl hbx k (exr _)
theorem laml_1 {CA CN CM : Addr} {s t b : Addr} {A' B' : List Nat} {cs bs : List Int} {i : Nat} {st : Int} (B : Bl mg) (g_joined_x : Pm P w K mg base (L2N.CX P w) 4 "joined" ["sets", "one", "other"] (sp_joinX K CA)) {cells : List (Str × Addr)} {f c' : Addr} {dv : Value} {F : Hp} (hc : F c' = some (CodeO c' qL)) (hf : F f = some (LamO f qL (lamPs s_law 1) (lamBd s_law 1) (lamSc s_law 1) (cloFrom cells (lamSc s_law 1).names []) c' dv))
    (hd : DvO F dv (lamPs s_law 1) ["_law_a"]) : FnPre P w K mg base 6 cells n_law (defScope s_law) (sg1 s t b st) f (fun H _ E => Cond1 K s t b A' B' cs bs i H ∧ RetE CA "at" (.int (i : Nat)) H E) F := by
  refine ⟨qL, _, _, _, c', dv, ["_law_a"], _, lamN_by (by decide +kernel), hc, hf, hd, fun A outer s H E f c' cl hr' => (pe_pm g_joined_x (Room.mono hr' (by decide)) (L2N.passes_call (L2N.takes_of rfl rfl rfl rfl) (fun _ _ _ _ h => h)) (pa_cons (pv 2) (pa_cons (pv 6) (pa_cons (pe_lst (pa_cons (pe_un un_neg pe_int) pa_nil)) pa_nil)))), fun H Q E h => ?_⟩
  obtain ⟨⟨hS, gd, hT, hl, hn, hB, hbl, hbx⟩, k⟩ := h
  refine (show Wp none (fun H Q => _) H (fun _ _ => False) from ?_) H (Wd.bare (exr H)) Q fun _ _ _ _ z => z.elim
  wtm_at "r"
  refine ⟨(by show 1 ≤ 100000; decide), ?_⟩
  wtm_at "gz"
  intro p1 hp1 F1 q1 e1
  wtm_at "r"
  exact wp_joinX (ex_t e1 hS) gd (ex_l e1 hB) hbl fun H1 w1 => .inl ⟨_, hbx, k.at e1 w1⟩
theorem laml_2 {CA CN CM : Addr} {s t b : Addr} {A' B' : List Nat} {cs bs : List Int} {i : Nat} {st : Int} (B : Bl mg) (g_joined_x : Pm P w K mg base (L2N.CX P w) 4 "joined" ["sets", "one", "other"] (sp_joinX K CA)) {cells : List (Str × Addr)} {f c' : Addr} {dv : Value} {F : Hp} (hc : F c' = some (CodeO c' qL)) (hf : F f = some (LamO f qL (lamPs s_law 2) (lamBd s_law 2) (lamSc s_law 2) (cloFrom cells (lamSc s_law 2).names []) c' dv))
    (hd : DvO F dv (lamPs s_law 2) ["_law_b"]) : FnPre P w K mg base 6 cells n_law (defScope s_law) (sg1 s t b st) f (fun H _ E => Cond1 K s t b A' B' cs bs i H ∧ RetE CA "at" (.int (i : Nat)) H E) F := by
  refine ⟨qL, _, _, _, c', dv, ["_law_b"], _, lamN_by (by decide +kernel), hc, hf, hd, fun A outer s H E f c' cl hr' => (pe_pm g_joined_x (Room.mono hr' (by decide)) (L2N.passes_call (L2N.takes_of rfl rfl rfl rfl) (fun _ _ _ _ h => h)) (pa_cons (pv 2) (pa_cons (pv 3) (pa_cons (pv 6) pa_nil)))), fun H Q E h => ?_⟩
  obtain ⟨⟨hS, gd, hT, hl, hn, hB, hbl, hbx⟩, k⟩ := h
  refine (show Wp none (fun H Q => _) H (fun _ _ => False) from ?_) H (Wd.bare (exr H)) Q fun _ _ _ _ z => z.elim
  wtm_at "r"
  exact wp_joinX hS gd hT hl fun H1 w1 => .inr ⟨hn, _, _, _, rfl, w1.l hB, hbl, hbx, k.at (exr _) w1⟩
theorem laml_3 {CA CN CM : Addr} {s t b : Addr} {A' B' : List Nat} {cs bs : List Int} {i : Nat} {st : Int} (B : Bl mg) (g_cut_x : Pm P w K mg base (L2N.CX P w) 4 "cut" ["sets", "tape", "at"] (sp_cutX K CA CM)) {cells : List (Str × Addr)} {f c' : Addr} {dv : Value} {F : Hp} (hc : F c' = some (CodeO c' qL)) (hf : F f = some (LamO f qL (lamPs s_law 3) (lamBd s_law 3) (lamSc s_law 3) (cloFrom cells (lamSc s_law 3).names []) c' dv))
    (hd : DvO F dv (lamPs s_law 3) ["_law_c"]) : FnPre P w K mg base 6 cells n_law (defScope s_law) (sg1 s t b st) f (fun H _ E => Cond1 K s t b A' B' cs bs i H ∧ RetE CA "at" (.int (i : Nat)) H E) F := by
  refine ⟨qL, _, _, _, c', dv, ["_law_c"], _, lamN_by (by decide +kernel), hc, hf, hd, fun A outer s H E f c' cl hr' => (pe_pm g_cut_x (Room.mono hr' (by decide)) (L2N.passes_call (L2N.takes_of rfl rfl rfl rfl) (fun _ _ _ _ h => h)) (pa_cons (pv 2) (pa_cons (pv 6) (pa_cons (pe_un un_neg pe_int) pa_nil)))), fun H Q E h => ?_⟩
  obtain ⟨⟨hS, gd, hT, hl, hn, hB, hbl, hbx⟩, k⟩ := h
  refine (show Wp none (fun H Q => _) H (fun _ _ => False) from ?_) H (Wd.bare (exr H)) Q fun _ _ _ _ z => z.elim
  wtm_at "r"
  exact wp_cutX hS gd hB hbl (.inl ⟨_, hbx, k⟩) (exr _)
theorem laml_4 {CA CN CM : Addr} {s t b : Addr} {A' B' : List Nat} {cs bs : List Int} {i : Nat} {st : Int} (B : Bl mg) (g_written_x : Pm P w K mg base (L2N.CX P w) 4 "written" ["sets", "tape"] (sp_tapX K CA)) {cells : List (Str × Addr)} {f c' : Addr} {dv : Value} {F : Hp} (hc : F c' = some (CodeO c' qL)) (hf : F f = some (LamO f qL (lamPs s_law 4) (lamBd s_law 4) (lamSc s_law 4) (cloFrom cells (lamSc s_law 4).names []) c' dv))
    (hd : DvO F dv (lamPs s_law 4) ["_law_e"]) : FnPre P w K mg base 6 cells n_law (defScope s_law) (sg1 s t b st) f (fun H _ E => Cond1 K s t b A' B' cs bs i H ∧ RetE CA "at" (.int (i : Nat)) H E) F := by
  refine ⟨qL, _, _, _, c', dv, ["_law_e"], _, lamN_by (by decide +kernel), hc, hf, hd, fun A outer s H E f c' cl hr' => (pe_pm g_written_x (Room.mono hr' (by decide)) (L2N.passes_call (L2N.takes_of rfl rfl rfl rfl) (fun _ _ _ _ h => h)) (pa_cons (pv 2) (pa_cons (pv 6) pa_nil))), fun H Q E h => ?_⟩
  obtain ⟨⟨hS, gd, hT, hl, hn, hB, hbl, hbx⟩, k⟩ := h
  refine (show Wp none (fun H Q => _) H (fun _ _ => False) from ?_) H (Wd.bare (exr H)) Q fun _ _ _ _ z => z.elim
  wtm_at "r"
  exact wp_tapX hS gd hB hbl hbx k (exr _)
theorem laml_5 {CA CN CM : Addr} {s : Addr} {A' B' N : List Nat} {i : Nat} {st : Int} (B : Bl mg) (g_least_x : Pm P w K mg base (L2N.CX P w) 4 "least" ["sets", "text", "state"] (sp_leastX K CN CM)) {cells : List (Str × Addr)} {f c' : Addr} {dv : Value} {F : Hp} (hc : F c' = some (CodeO c' qL)) (hf : F f = some (LamO f qL (lamPs s_law 5) (lamBd s_law 5) (lamSc s_law 5) (cloFrom cells (lamSc s_law 5).names []) c' dv))
    (hd : DvO F dv (lamPs s_law 5) []) : FnPre P w K mg base 6 cells n_law (defScope s_law) (sg2 s st N) f (fun H _ E => Cond2 K s A' B' N i H ∧ RetE CN "at" (.int (i : Nat)) H E) F := by
  refine ⟨qL, _, _, _, c', dv, [], _, lamN_by (by decide +kernel), hc, hf, hd, fun A outer s H E f c' cl hr' => (pe_pm g_least_x (Room.mono hr' (by decide)) (L2N.passes_call (L2N.takes_of rfl rfl rfl rfl) (fun _ _ _ _ h => h)) (pa_cons (pv 2) (pa_cons (pv 12) (pa_cons (pv 7) pa_nil)))), fun H Q E h => ?_⟩
  obtain ⟨⟨hS, gd, hx⟩, k⟩ := h
  refine (show Wp none (fun H Q => _) H (fun _ _ => False) from ?_) H (Wd.bare (exr H)) Q fun _ _ _ _ z => z.elim
  wtm_at "r"
  exact wp_leastX hS gd (.inl ⟨_, hx, k⟩) (exr _)
theorem laml_6 {CA CN CM : Addr} {s : Addr} {A' B' N : List Nat} {i : Nat} {st : Int} (B : Bl mg) (g_guarded_x : Pm P w K mg base (L2N.CX P w) 4 "guarded" ["sets", "text", "state", "most"] (sp_guardX K CN CM)) {cells : List (Str × Addr)} {f c' : Addr} {dv : Value} {F : Hp} (hc : F c' = some (CodeO c' qL)) (hf : F f = some (LamO f qL (lamPs s_law 6) (lamBd s_law 6) (lamSc s_law 6) (cloFrom cells (lamSc s_law 6).names []) c' dv))
    (hd : DvO F dv (lamPs s_law 6) ["_law_a"]) : FnPre P w K mg base 6 cells n_law (defScope s_law) (sg2 s st N) f (fun H _ E => Cond2 K s A' B' N i H ∧ RetE CN "at" (.int (i : Nat)) H E) F := by
  refine ⟨qL, _, _, _, c', dv, ["_law_a"], _, lamN_by (by decide +kernel), hc, hf, hd, fun A outer s H E f c' cl hr' => (pe_pm g_guarded_x (Room.mono hr' (by decide)) (L2N.passes_call (L2N.takes_of rfl rfl rfl rfl) (fun _ _ _ _ h => h)) (pa_cons (pv 2) (pa_cons (pv 12) (pa_cons (pv 7) (pa_cons (pe_un un_neg pe_int) pa_nil))))), fun H Q E h => ?_⟩
  obtain ⟨⟨hS, gd, hx⟩, k⟩ := h
  refine (show Wp none (fun H Q => _) H (fun _ _ => False) from ?_) H (Wd.bare (exr H)) Q fun _ _ _ _ z => z.elim
  wtm_at "r"
  exact wp_guardX hS gd (.inl (.inl ⟨_, hx, k⟩)) (exr _)
theorem laml_7 {CA CN CM : Addr} {s t : Addr} {A' B' : List Nat} {cs : List Int} {st : Int} {T : List Nat} {most : Int} (B : Bl mg) (g_least_x : Pm P w K mg base (L2N.CX P w) 4 "least" ["sets", "text", "state"] (sp_leastX K CN CM)) {cells : List (Str × Addr)} {f c' : Addr} {dv : Value} {F : Hp} (hc : F c' = some (CodeO c' qL)) (hf : F f = some (LamO f qL (lamPs s_law 7) (lamBd s_law 7) (lamSc s_law 7) (cloFrom cells (lamSc s_law 7).names []) c' dv))
    (hd : DvO F dv (lamPs s_law 7) []) : FnPre P w K mg base 6 cells n_law (defScope s_law) (sg3 s t st T most) f (fun H _ E => Cond3 K s t A' B' cs st T most H ∧ RetU CM H E) F := by
  refine ⟨qL, _, _, _, c', dv, [], _, lamN_by (by decide +kernel), hc, hf, hd, fun A outer s H E f c' cl hr' => (pe_pm g_least_x (Room.mono hr' (by decide)) (L2N.passes_call (L2N.takes_of rfl rfl rfl rfl) (fun _ _ _ _ h => h)) (pa_cons (pv 2) (pa_cons (pv 9) (pa_cons (pv 7) pa_nil)))), fun H Q E h => ?_⟩
  obtain ⟨⟨hS, gd, hT, hl, hn, hst, hx, hm⟩, k⟩ := h
  refine (show Wp none (fun H Q => _) H (fun _ _ => False) from ?_) H (Wd.bare (exr H)) Q fun _ _ _ _ z => z.elim
  wtm_at "r"
  exact wp_leastX hS gd (.inr ⟨hx, hst, k⟩) (exr _)
theorem laml_8 {CA CN CM : Addr} {s t : Addr} {A' B' : List Nat} {cs : List Int} {st : Int} {T : List Nat} {most : Int} (B : Bl mg) (g_guarded_x : Pm P w K mg base (L2N.CX P w) 4 "guarded" ["sets", "text", "state", "most"] (sp_guardX K CN CM)) {cells : List (Str × Addr)} {f c' : Addr} {dv : Value} {F : Hp} (hc : F c' = some (CodeO c' qL)) (hf : F f = some (LamO f qL (lamPs s_law 8) (lamBd s_law 8) (lamSc s_law 8) (cloFrom cells (lamSc s_law 8).names []) c' dv))
    (hd : DvO F dv (lamPs s_law 8) ["_law_a"]) : FnPre P w K mg base 6 cells n_law (defScope s_law) (sg3 s t st T most) f (fun H _ E => Cond3 K s t A' B' cs st T most H ∧ RetU CM H E) F := by
  refine ⟨qL, _, _, _, c', dv, ["_law_a"], _, lamN_by (by decide +kernel), hc, hf, hd, fun A outer s H E f c' cl hr' => (pe_pm g_guarded_x (Room.mono hr' (by decide)) (L2N.passes_call (L2N.takes_of rfl rfl rfl rfl) (fun _ _ _ _ h => h)) (pa_cons (pv 2) (pa_cons (pv 9) (pa_cons (pv 7) (pa_cons pe_int pa_nil))))), fun H Q E h => ?_⟩
  obtain ⟨⟨hS, gd, hT, hl, hn, hst, hx, hm⟩, k⟩ := h
  refine (show Wp none (fun H Q => _) H (fun _ _ => False) from ?_) H (Wd.bare (exr H)) Q fun _ _ _ _ z => z.elim
  wtm_at "r"
  exact wp_guardX hS gd (.inl (.inr ⟨hx, hst, k⟩)) (exr _)
theorem laml_9 {CA CN CM : Addr} {s t : Addr} {A' B' : List Nat} {cs : List Int} {st : Int} {T : List Nat} {most : Int} (B : Bl mg) (g_guarded_x : Pm P w K mg base (L2N.CX P w) 4 "guarded" ["sets", "text", "state", "most"] (sp_guardX K CN CM)) {cells : List (Str × Addr)} {f c' : Addr} {dv : Value} {F : Hp} (hc : F c' = some (CodeO c' qL)) (hf : F f = some (LamO f qL (lamPs s_law 9) (lamBd s_law 9) (lamSc s_law 9) (cloFrom cells (lamSc s_law 9).names []) c' dv))
    (hd : DvO F dv (lamPs s_law 9) ["_law_b"]) : FnPre P w K mg base 6 cells n_law (defScope s_law) (sg3 s t st T most) f (fun H _ E => Cond3 K s t A' B' cs st T most H ∧ RetU CM H E) F := by
  refine ⟨qL, _, _, _, c', dv, ["_law_b"], _, lamN_by (by decide +kernel), hc, hf, hd, fun A outer s H E f c' cl hr' => (pe_pm g_guarded_x (Room.mono hr' (by decide)) (L2N.passes_call (L2N.takes_of rfl rfl rfl rfl) (fun _ _ _ _ h => h)) (pa_cons (pv 2) (pa_cons (pv 9) (pa_cons pe_int (pa_cons (pv 13) pa_nil))))), fun H Q E h => ?_⟩
  obtain ⟨⟨hS, gd, hT, hl, hn, hst, hx, hm⟩, k⟩ := h
  refine (show Wp none (fun H Q => _) H (fun _ _ => False) from ?_) H (Wd.bare (exr H)) Q fun _ _ _ _ z => z.elim
  wtm_at "r"
  exact wp_guardX hS gd (.inr ⟨hx, .inr rfl, hm, k⟩) (exr _)
theorem laml_10 {CA CN CM : Addr} {s t : Addr} {A' B' : List Nat} {cs : List Int} {st : Int} {T : List Nat} {most : Int} (B : Bl mg) (g_cut_x : Pm P w K mg base (L2N.CX P w) 4 "cut" ["sets", "tape", "at"] (sp_cutX K CA CM)) {cells : List (Str × Addr)} {f c' : Addr} {dv : Value} {F : Hp} (hc : F c' = some (CodeO c' qL)) (hf : F f = some (LamO f qL (lamPs s_law 10) (lamBd s_law 10) (lamSc s_law 10) (cloFrom cells (lamSc s_law 10).names []) c' dv))
    (hd : DvO F dv (lamPs s_law 10) ["_law_c"]) : FnPre P w K mg base 6 cells n_law (defScope s_law) (sg3 s t st T most) f (fun H _ E => Cond3 K s t A' B' cs st T most H ∧ RetU CM H E) F := by
  refine ⟨qL, _, _, _, c', dv, ["_law_c"], _, lamN_by (by decide +kernel), hc, hf, hd, fun A outer s H E f c' cl hr' => (pe_pm g_cut_x (Room.mono hr' (by decide)) (L2N.passes_call (L2N.takes_of rfl rfl rfl rfl) (fun _ _ _ _ h => h)) (pa_cons (pv 2) (pa_cons (pv 3) (pa_cons (pe_op op_addP (pe_callB (lenK K rfl) (by rfl) B.len PySem.boot_len (pa_cons (pv 3) pa_nil)) pe_int) pa_nil)))), fun H Q E h => ?_⟩
  obtain ⟨⟨hS, gd, hT, hl, hn, hst, hx, hm⟩, k⟩ := h
  refine (show Wp none (fun H Q => _) H (fun _ _ => False) from ?_) H (Wd.bare (exr H)) Q fun _ _ _ _ z => z.elim
  wtm_at "r"
  try (refine wp_lenL hT ?_; wtm_at "r")
  exact wp_cutX hS gd hT hl (.inr ⟨hn, .inr (by rw [List.length_map]; omega), k⟩) (exr _)
theorem laml_11 {CA CN CM : Addr} {s t : Addr} {A' B' : List Nat} {cs : List Int} {st : Int} {T : List Nat} {most : Int} (B : Bl mg) (g_cut_x : Pm P w K mg base (L2N.CX P w) 4 "cut" ["sets", "tape", "at"] (sp_cutX K CA CM)) {cells : List (Str × Addr)} {f c' : Addr} {dv : Value} {F : Hp} (hc : F c' = some (CodeO c' qL)) (hf : F f = some (LamO f qL (lamPs s_law 11) (lamBd s_law 11) (lamSc s_law 11) (cloFrom cells (lamSc s_law 11).names []) c' dv))
    (hd : DvO F dv (lamPs s_law 11) ["_law_f"]) : FnPre P w K mg base 6 cells n_law (defScope s_law) (sg3 s t st T most) f (fun H _ E => Cond3 K s t A' B' cs st T most H ∧ RetU CM H E) F := by
  refine ⟨qL, _, _, _, c', dv, ["_law_f"], _, lamN_by (by decide +kernel), hc, hf, hd, fun A outer s H E f c' cl hr' => (pe_pm g_cut_x (Room.mono hr' (by decide)) (L2N.passes_call (L2N.takes_of rfl rfl rfl rfl) (fun _ _ _ _ h => h)) (pa_cons (pv 2) (pa_cons (pv 3) (pa_cons (pe_un un_neg pe_int) pa_nil)))), fun H Q E h => ?_⟩
  obtain ⟨⟨hS, gd, hT, hl, hn, hst, hx, hm⟩, k⟩ := h
  refine (show Wp none (fun H Q => _) H (fun _ _ => False) from ?_) H (Wd.bare (exr H)) Q fun _ _ _ _ z => z.elim
  wtm_at "r"
  exact wp_cutX hS gd hT hl (.inr ⟨hn, .inl (by decide), k⟩) (exr _)
end
/-! ### the law's steps by what is known -/
section
open LamX
variable {P : Program} {w : World} {K : PySem.W.Frag} {mg : Str → Option Value} {base : Heap}
/-- a function that raises, or a lambda of the law that will -/
def Rdy (P : Program) (w : World) (K : PySem.W.Frag) (mg : Str → Option Value) (base : Heap) (cells : List (Str × Addr)) (σL : L2.St) (CondA Cond : Hp → Prop) (Rs : Hp → XK → Prop) (f : Addr) (F : Hp) : Prop :=
  FnHas P w K mg base 6 f (fun H _ E => CondA H ∧ Rs H E) F ∨ FnPre P w K mg base 6 cells n_law (defScope s_law) σL f (fun H _ E => Cond H ∧ Rs H E) F
theorem Rdy.extL {cells : List (Str × Addr)} {σL : L2.St} {CondA Cond : Hp → Prop} {Rs : Hp → XK → Prop} : ∀ (f : Addr) (F F1 : Hp), ExtL F F1 → Rdy P w K mg base cells σL CondA Cond Rs f F → Rdy P w K mg base cells σL CondA Cond Rs f F1 := fun f F F1 e h => by
  rcases h with h | h
  · exact .inl (h.extL e)
  · exact .inr (h.extL e)
theorem Rdy.rai {cells : List (Str × Addr)} {σ σL : L2.St} {CondA Cond : Hp → Prop} {Rs : Hp → XK → Prop} {f : Addr} {H H2 : Hp} (h : Rdy P w K mg base cells σL CondA Cond Rs f H) (L : Lift cells n_law σ (defScope s_law) H H2) (hw : ∀ (i : Nat) (v : V), σL[i]? = some (some v) → σ[i]? = some (some v)) (hl : σL.length = n_law.length)
    (hC : ∀ c, Cels H2 c → CondA (rmL H2 c) ∧ Cond (rmL H2 c)) : Rai P w K mg base f Rs H2 := by
  rcases h with h | h
  · exact ⟨CondA, h.ext (ExtN.of L.ex), fun c hc => (hC c hc).1⟩
  · exact ⟨Cond, h.has L hw hl, fun c hc => (hC c hc).2⟩
/-- the dice stay where the cells are taken out again -/
theorem wd_lend {o : Option Addr} {F1 H1 H2 H' : Hp} {cs : List Addr} (w : Wd o F1 H1) (cfree : ∀ c ∈ cs, H1 c = none) (hout : ∀ b, b ∉ cs → H2 b = H1 b) (e : Ex H2 H') : Wd o F1 (rmL H' cs) := by
  have nm : ∀ b u, H1 b = some u → b ∉ cs := fun b u q hc => by rw [cfree b hc] at q; cases q
  have up : ∀ b u, H1 b = some u → rmL H' cs b = some u := fun b u q => by
    rw [rmL_out (nm b u q)]
    exact e _ _ (by rw [hout b (nm b u q)]; exact q)
  refine ⟨fun b u q => up b u (w.ex _ _ q), fun d hd => ⟨(w.dc d hd).1, ?_⟩⟩
  obtain ⟨ns, q, r⟩ := (w.dc d hd).2
  exact ⟨ns, up _ _ q, r⟩
theorem wp_lendA {o : Option Addr} {F : Hp} {σ σ0 σL : L2.St} {cells : List (Str × Addr)} {Pq : V → Hp → Prop} {ta : TA} {CondA Cond : Hp → Prop} {C : Addr} {word : List Nat} (hw : ∀ (i : Nat) (v : V), σL[i]? = some (some v) → σ0[i]? = some (some v)) (hl : σL.length = n_law.length)
    (h : Wp o (ta σ) F fun vs F1 => ∃ (f : Addr) (i : Int), vs = [.ref f, .str (tx word), .int i] ∧ Rdy P w K mg base cells σL CondA Cond (RetE C "at" (.int i)) f F1 ∧ (∀ H, Ex F1 H → ∀ c, Cels H c → CondA (rmL H c) ∧ Cond (rmL H c)) ∧ Pq (.bl true) F1) :
    Wp o (tLend cells n_law σ0 (defScope s_law) (sp_refA P w K mg base C word) ta σ) F Pq := fun H w Q k => h H w _ fun vs H1 F1 w1 ⟨f, i, ev, hR, hC, q⟩ H2 L cfree hout cel => by
  have hR1 : Rdy P _ K mg base cells σL CondA Cond (RetE C "at" (.int i)) f H1 := hR.extL _ _ _ (ExtL.of (ExtN.of w1.ex))
  refine ⟨f, i, ev, hR1.rai L hw hl (hC H2 (w1.ex.trans L.ex)), fun H' e => ⟨fun c hc => ?_, k _ _ F1 (wd_lend w1 cfree hout e) q⟩⟩
  obtain ⟨o2, v2, a, _⟩ := cel c hc
  rw [a]
  exact e _ _ a
theorem wp_lendU {o : Option Addr} {F : Hp} {σ σ0 σL : L2.St} {cells : List (Str × Addr)} {Pq : V → Hp → Prop} {ta : TA} {CondA Cond : Hp → Prop} {C : Addr} (hw : ∀ (i : Nat) (v : V), σL[i]? = some (some v) → σ0[i]? = some (some v)) (hl : σL.length = n_law.length)
    (h : Wp o (ta σ) F fun vs F1 => ∃ (f : Addr) (i : Int), vs = [.ref f, .str (tx [110, 117, 109, 98, 101, 114]), .int i] ∧ Rdy P w K mg base cells σL CondA Cond (RetU C) f F1 ∧ (∀ H, Ex F1 H → ∀ c, Cels H c → CondA (rmL H c) ∧ Cond (rmL H c)) ∧ Pq (.bl true) F1) :
    Wp o (tLend cells n_law σ0 (defScope s_law) (sp_refU P w K mg base C) ta σ) F Pq := fun H w Q k => h H w _ fun vs H1 F1 w1 ⟨f, i, ev, hR, hC, q⟩ H2 L cfree hout cel => by
  have hR1 : Rdy P _ K mg base cells σL CondA Cond (RetU C) f H1 := hR.extL _ _ _ (ExtL.of (ExtN.of w1.ex))
  refine ⟨f, i, ev, hR1.rai L hw hl (hC H2 (w1.ex.trans L.ex)), fun H' e => ⟨fun c hc => ?_, k _ _ F1 (wd_lend w1 cfree hout e) q⟩⟩
  obtain ⟨o2, v2, a, _⟩ := cel c hc
  rw [a]
  exact e _ _ a
theorem wp_works {d : Addr} {F : Hp} {Pq : V → Hp → Prop} {CA CM pL pW s t : Addr} {A B : List Nat} {cs : List Int} {st : Int} {x : Option Nat} {E : XK} (hC : CondW K s t A B cs st x F) (hT : Tabs (tabsOf pL pW) F)
    (q : ∀ (p : Addr) (fs : List Addr) (F1 : Hp), ExtN F F1 → Tabs (tabsOf pL pW) F1 → F1 p = some (.lst (fs.map V.ref)) → fs.length = 4 → (∀ f ∈ fs, FnHas P w K mg base 6 f (spW K CA CM s t A B cs st x) F1) → Pq (.ref p) F1) :
    Wp (some d) (fun H Q => sp_works P w K mg base CA CM pL pW ([.ref s, .ref t, .int st] ++ []) H Q E) F Pq := fun H w Q k => by
  refine ⟨s, t, A, B, cs, st, x, rfl, hC.extN (ExtN.of w.ex), Tabs.ext hT w.ex, fun p fs H1 eN T1 h1 hl hf => ?_⟩
  obtain ⟨fd, ns, hns, hdl⟩ := w.dc d rfl
  have hns1 := eN _ _ hns (fun ps z => by cases z)
  have nd : ∀ {b : Addr} {u : HO}, H1 b = some u → (∀ xs, u ≠ .lst xs) → rm H1 d b = some u := fun {b u} e n => by
    rw [rm_ne (fun z => by rw [z, hns1] at e; exact n _ (Option.some.inj e).symm)]
    exact e
  have hpd : p ≠ d := fun z => by
    rw [z, hns1] at h1
    have h1 := HO.lst.inj (Option.some.inj h1)
    match ns, fs, hdl, hl with
    | n :: _, f :: _, _, _ => cases h1
  have hd1 : Dc H1 d := ⟨ns, hns1, hdl⟩
  refine k _ H1 (rm H1 d) (Wd.dice hd1) (q p fs (rm H1 d) (fun b u e n => ?_) (tabs_rm T1 hd1) (by rw [rm_ne hpd]; exact h1) hl fun f hm => ?_)
  · rw [rm_ne (ne_of_none e fd)]
    exact eN _ _ (w.ex _ _ e) n
  · exact (hf f hm).extL fun b u e _ n => nd e n
end
/-! ### _law_absent: signs that stand in no set -/
def candA : List Nat := [33, 63, 90, 61, 97, 98, 99, 100, 101, 102, 103, 104, 105, 106, 107, 108, 109, 110, 111, 112, 113, 114, 115, 116, 117, 118, 119, 120, 121, 122]
def farS (A B : List Nat) : List Nat := candA.filter fun c => !decide (c ∈ A ++ B)
theorem far_len {A B : List Nat} (hA : A.length ≤ 10) (hB : B.length ≤ 10) : 10 ≤ (farS A B).length := by
  have h : candA.length ≤ (farS A B ++ (A ++ B)).length := nd_sub_len (by decide) fun x hx => by
    by_cases hm : x ∈ A ++ B
    · exact List.mem_append.mpr (.inr hm)
    · refine List.mem_append.mpr (.inl (List.mem_filter.mpr ⟨hx, ?_⟩))
      rw [decide_eq_false hm]
      rfl
  have h2 : candA.length = 30 := rfl
  rw [List.length_append, List.length_append] at h
  omega
theorem far_not {A B : List Nat} {c : Nat} (h : c ∈ farS A B) : c ∉ A ∧ c ∉ B := by
  have h2 := (List.mem_filter.mp h).2
  have h3 : c ∉ A ++ B := fun hm => by
    rw [decide_eq_true hm] at h2
    cases h2
  exact ⟨fun z => h3 (List.mem_append.mpr (.inl z)), fun z => h3 (List.mem_append.mpr (.inr z))⟩
theorem far_nd (A B : List Nat) : (farS A B).Nodup := (by decide : candA.Nodup).sublist List.filter_sublist
theorem far_lt {A B : List Nat} {c : Nat} (h : c ∈ farS A B) : c < 128 := (by decide : ∀ c ∈ candA, c < 128) c (List.mem_filter.mp h).1
theorem filt_moreA {α : Type} {p : α → Bool} {l : List α} {i : Nat} {x : α} (h : l[i]? = some x) : (l.take (i + 1)).filter p = (l.take i).filter p ++ (if p x = true then [x] else []) := by
  rw [take_more h, List.filter_append]
  congr 1
  by_cases hp : p x = true
  · rw [if_pos hp]; simp [hp]
  · rw [if_neg hp]; simp [hp]
section
variable {P : Program} {w : World} {K : PySem.W.Frag} {mg : Str → Option Value} {base : Heap}
abbrev s_q_absent : Stmt := topS 46
abbrev n_q_absent : List Str := ["_law_sets_here", "_law_sign"]
theorem sc_q_absent : FnScope n_q_absent ["_law_sets_here"] (defScope s_q_absent) := ⟨rfl, rfl, rfl, by decide +kernel, rfl, by decide +kernel, by decide +kernel⟩

def sp_absent (K : PySem.W.Frag) : Sp := fun vs H Q _ => ∃ (s : Addr) (A B : List Nat), vs = [.ref s] ∧ SetsAt K H s A B ∧ A.length ≤ 10 ∧ B.length ≤ 10 ∧ RetN (.lst ((farS A B).map sg)) H Q
theorem wp_absent {o : Option Addr} {F : Hp} {Pq : V → Hp → Prop} {s : Addr} {A B : List Nat} {E : XK} (hS : SetsAt K F s A B) (hA : A.length ≤ 10) (hB : B.length ≤ 10) (q : ∀ p, F p = none → Pq (.ref p) (upd F p (.lst ((farS A B).map sg)))) :
    Wp o (fun H Q => sp_absent K ([.ref s] ++ []) H Q E) F Pq := fun H w Q k => ⟨s, A, B, rfl, w.t hS, hA, hB, RetN.use w q k⟩
theorem pm_absent (D : DefAt K mg "_law_absent" s_q_absent) (B : Bl mg) : Pm P w K mg base CX0 1 "_law_absent" ["_law_sets_here"] (sp_absent K) := by
  obtain ⟨f, fd, F, hm⟩ := D
  refine ⟨f, fd, ?_, hm, F.kp, F.binds fun _ _ _ _ _ _ us hl => match us, hl with | [_], _ => rfl⟩
  refine F.ok sc_q_absent (fun vs H Q E h => ?_) (fun cdv A outer s H vs Q E hr h => ?_)
  · obtain ⟨_, _, _, rfl, _⟩ := h
    rfl
  · obtain ⟨s, A', B', rfl, hS, hA, hB, k⟩ := h
    refine ⟨_, (pss_cons (ps_ret (pe_lc (own := [("_law_sign", 1)]) (g := gName 1) rfl sc_q_absent.nd (pi_str (pe_strT (l := [33, 63, 90, 61, 97, 98, 99, 100, 101, 102, 103, 104, 105, 106, 107, 108, 109, 110, 111, 112, 113, 114, 115, 116, 117, 118, 119, 120, 121, 122]) (by decide +kernel))) (blkOk_by (N := n_q_absent) (sc := defScope s_q_absent) (by decide +kernel)) (fun _ _ _ _ _ => pg_name (i := 1) sc_q_absent.nd rfl (Or.inl rfl)) (fun _ _ _ _ _ => (pts_one (pt_cmpR (niK K rfl) (pv 1) (pe_op op_addP (pe_ix (ixK K rfl) (pv 0) pe_int (fun _ _ => rfl)) (pe_ix (ixK K rfl) (pv 0) pe_int (fun _ _ => rfl))) (by rfl)))) (fun _ _ _ _ _ => (pv 1))))
 pss_nil), ?_⟩
    refine go_st (σ := [some (.ref s), none]) rfl ?_
    refine go_ret ?_
    refine wp_lcS (fun _ => rfl) ?_
    wtm_at "r"
    refine fun Dl hD => ⟨fun j acc F2 => acc = ((candA.take j).filter fun c => !decide (c ∈ A' ++ B')).map sg ∧ Ex H F2, ⟨rfl, ex_new hD⟩, ?_, ?_⟩
    · rintro j ch acc F2 hj hDF ⟨rfl, e⟩
      have hj : candA[j]? = some ch := hj
      have hSF := ex_t e hS
      show Wp _ _ _ _
      wtm_at "r"
      refine ⟨fun hc => ?_, fun hc => ?_⟩
      · wtm_at "r"
        refine ⟨hDF, ?_, ?_, ex_mut e hD⟩
        · have := List.length_filter_le (fun c => !decide (c ∈ A' ++ B')) (candA.take j)
          have := List.length_take_le' j candA
          have h3 : candA.length = 30 := rfl
          rw [List.length_map]
          omega
        · rw [filt_moreA hj, if_pos hc, List.map_append]
          rfl
      · exact ⟨hDF, by rw [filt_moreA hj, if_neg (by rw [hc]; decide), List.append_nil], e⟩
    · rintro acc F2 hDF ⟨rfl, e⟩
      have hDF : F2 Dl = some (.lst ((farS A' B').map sg)) := by
        rw [show farS A' B' = ((candA.take candA.length).filter fun c => !decide (c ∈ A' ++ B')) from by rw [List.take_length]; rfl]
        exact hDF
      exact k.out e hD hDF
end
section
variable {K : PySem.W.Frag} {F : Hp} {σ : L2.St} {D : Ends} {tz : TS}
/-- what the law is asked -/
def spLaw (K : PySem.W.Frag) : Sp := fun vs H Q _ => ∃ (a : Addr) (ns : List Int), vs = [.ref a] ∧ SqL K H a (il ns) ∧ ns.length ≤ 63 ∧ ∀ H1, Q (.bl true) H1
/-- the dice are made: from here on they stand apart -/
theorem go_dice {i : Nat} {E : XK} {a : Addr} {ns : List Int} (h0 : σ[0]? = some (some (.ref a))) (hA : SqL K F a (il ns)) (hl : ns.length ≤ 63) (k : ∀ d, F d = none → Go (some d) tz D (σ.set i (some (.ref d))) F) :
    Go none (tSeq (tAsg (tCall (sp_dice K) [] E (tCons (tVar 0) (tCons (tC (.int 0)) tNil))) (gName i)) tz) D σ F := fun H w =>
  ⟨.ref a, h0, a, 0, ns, rfl, w.l hA, hl, fun p H1 n e dc => k p (w.fr n) H1 ⟨w.ex.trans e, fun b z => by cases z; exact ⟨w.fr n, dc⟩⟩⟩
/-- data of what reading tells -/
theorem dp_pair {p : Addr} {l : List Nat} {st : Int} (h : F p = some (.tup [.str (tx l), .int st])) : Dp K F (.ref p) (.tuple [.str (tx l), .int st]) := .tup (SqT.of h) (.cons (.str _) (.cons (.int _) .nil))
theorem dn_pair (l : List Nat) (st : Int) : DpN 1 (.tuple [.str (tx l), .int st]) := .inr ⟨_, .inr rfl, by simp, fun e he => by
  simp only [List.mem_cons, List.not_mem_nil, or_false] at he
  rcases he with rfl | rfl <;> rfl⟩
end
/-! ### the end, with the tables of the law's code object and of _law_works' -/
def spLawT (K : PySem.W.Frag) (pL pW : Addr) : Sp := fun vs H Q _ => ∃ (a : Addr) (ns : List Int), vs = [.ref a] ∧ SqL K H a (il ns) ∧ ns.length ≤ 63 ∧ H pL = some (.tbl #[]) ∧ H pW = some (.tbl #[]) ∧ ∀ H1, Q (.bl true) H1
/-- no empty table among the written objects -/
def tabFree (K : PySem.W.Frag) : Bool := K.all fun p => !(match p.2.data with | .fields vs => vs.isEmpty | _ => false)
theorem mem_lookA {a : Addr} {u : Obj} : ∀ {l : List (Addr × Obj)}, l.lookup a = some u → (a, u) ∈ l
  | [], h => by cases h
  | (b, v) :: r, h => by
    rw [List.lookup_cons] at h
    cases e : (a == b) with
    | true =>
      rw [e] at h
      have e2 : a = b := beq_iff_eq.mp e
      cases h
      rw [e2]
      exact List.mem_cons_self
    | false =>
      rw [e] at h
      exact List.mem_cons_of_mem _ (mem_lookA h)
/-- where the written code object's table lies -/
def tabA (K : PySem.W.Frag) (cd : Value) : Option Addr := match cd with
  | .ref c => (match K.lookup c with
    | some ⟨_, _, .fields vs, _⟩ => (match vs[11]? with | some (Value.ref p) => some p | _ => none)
    | _ => none)
  | _ => none
def tabNe (K : PySem.W.Frag) (c1 c2 : Value) : Bool := match tabA K c1, tabA K c2 with
  | some a, some b => a != b
  | _, _ => false
theorem tabA_of {K : PySem.W.Frag} {h : Heap} {c P : Addr} {q : Str} {ps : Array Value} (X : K.In h) (e : PySem.W.codeIn K (.ref c) q = true) (t : h.TableAt c P ps) : tabA K (.ref c) = some P := by
  obtain ⟨⟨o, vs, h1, _, h3, h4⟩, _⟩ := t
  unfold PySem.W.codeIn at e
  unfold tabA
  simp only at e ⊢
  cases q1 : K.lookup c with
  | none => rw [q1] at e; simp at e
  | some u =>
    have h5 := X _ _ q1
    rw [h1] at h5
    cases h5
    obtain ⟨cl, dc, dt, sl⟩ := o
    have h3 : dt = .fields vs := h3
    subst h3
    simp only [h4]
theorem tabNe_of {K : PySem.W.Frag} {c1 c2 : Value} {a b : Addr} (h : tabNe K c1 c2 = true) (h1 : tabA K c1 = some a) (h2 : tabA K c2 = some b) : a ≠ b := fun z => by
  unfold tabNe at h
  rw [h1, h2, z] at h
  simp at h
open LamX in
theorem walk_ofTabW {l : PySem.W.OpenLaw} {n k : Nat} {q : Program} {loose : List Str} {XP : (Str → Option Value) → Heap → Prop} {YP : World → Heap → Prop} {d dW : DefRec} {K : Params → PySem.W.Frag} {x x0 x1 : Str}
    (hn : l.most = some n) (hn2 : n ≤ sizeLine) (hdf : d.params.defaults = []) (hr : Room k callerA) (hY : ∀ (w : World) (h : Heap), YP w h → (K w.params).In h) (hrec : (PyProof.Rows.recsOf q).find? (fun e => e.name == x0) = some d) (hrecW : (PyProof.Rows.recsOf q).find? (fun e => e.name == x1) = some dW) (hfree : ∀ w : World, tabFree (K w.params) = true)
    (F : ∀ (w : World) (mg : Str → Option Value) (fa fW : Addr) (h : Heap), (K w.params).In h → h.Ns mainGlobals mg → mg d.name = some (.ref fa) → mg dW.name = some (.ref fW) → ∃ fd fdW : FuncData, (∃ oc od osl, (K w.params).lookup fa = some ⟨oc, od, .func fd, osl⟩) ∧ (∃ oc od osl, (K w.params).lookup fW = some ⟨oc, od, .func fdW, osl⟩) ∧
      (∃ q, PySem.W.codeIn (K w.params) fd.code q = true) ∧ (∃ q, PySem.W.codeIn (K w.params) fdW.code q = true) ∧ (∀ (s : Shared) (u : Value), BindsTo s fd ⟨[u], []⟩ [(x, u)]) ∧ ∀ (c P cW PW : Addr), fd.code = .ref c → fdW.code = .ref cW → tabA (K w.params) (.ref c) = some P → tabA (K w.params) (.ref cW) = some PW →
      ∀ base : Heap, (K w.params).In base → base.Ns mainGlobals mg → TabB base mg c P → TabB base mg cW PW → FnOk l.prog w (K w.params) mg base CX0 k fa fd [x] (spLawT (K w.params) P PW)) (h63 : n ≤ 63) :
    PySem.W.WalkO q loose XP YP l.row.toRowW d [] (fun f vs => PySem.call f vs) := by
  refine Att.attach_callB hn hdf fun w s₀ s₁ mg mb fa o pm cd doc a vs ns G Y ho hd hcd hmg hobj hints hlen hbits hg => ?_
  have KX := hY w _ Y
  obtain ⟨a3, o3, fd3, c3, P3, u1, u2, u3, u4, u5, u6⟩ := G.T.tab dW (List.mem_of_find?_eq_some hrecW)
  obtain ⟨fd, fdW, ⟨oc, od, osl, lk⟩, ⟨ocW, odW, oslW, lkW⟩, ⟨q1, hc1⟩, ⟨q2, hc2⟩, hb, hF⟩ := F w mg fa a3 _ KX G.T.g hmg u1
  obtain ⟨a2, o2, fd2, c, P, t1, t2, t3, t4, t5, t6⟩ := G.T.tab d (List.mem_of_find?_eq_some hrec)
  rw [hmg] at t1
  cases t1
  have lk2 := KX _ _ lk
  rw [lk2] at t2
  cases t2
  cases t3
  have lk3 := KX _ _ lkW
  rw [lk3] at u2
  cases u2
  cases u3
  have nT : ∀ P, s₁.heap.get? P = some { cls := .none, data := .fields #[] } → (K w.params).lookup P = none := fun P hP => by
    cases e : (K w.params).lookup P with
    | none => rfl
    | some u =>
      have e1 := KX _ _ e
      rw [hP] at e1
      cases e1
      have := List.all_eq_true.mp (hfree w) _ (mem_lookA e)
      simp at this
  have mem : ∀ p ∈ [(c, P), (c3, P3)], p = (c, P) ∨ p = (c3, P3) := fun p hp => by simpa using hp
  refine law_callTs (cs := [(c, P), (c3, P3)]) (sp := spLawT (K w.params) P P3) (CX := CX0) KX G.T.g G.T.b G.T.builtins G.T.nolimit hg (fun p hp => ?_) (fun p hp => ?_) (fun p hp => ?_)
    G.T.bmain hobj hints (Nat.le_trans hlen hn2) hr (fun base h1 h2 h3 => hF c P c3 P3 t4 u4 (tabA_of KX (by rw [← t4]; exact hc1) t6) (tabA_of KX (by rw [← u4]; exact hc2) u6) base h1 h2 (h3 (c, P) List.mem_cons_self) (h3 (c3, P3) (List.mem_cons_of_mem _ List.mem_cons_self))) hb
    (fun H hH hS => ⟨a, ns, rfl, hS, Nat.le_trans hlen h63, hH (c, P) List.mem_cons_self, hH (c3, P3) (List.mem_cons_of_mem _ List.mem_cons_self), fun H1 => rfl⟩) fun H e s' h => h
  · rcases mem p hp with e | e <;> rw [e]
    · exact t6.2
    · exact u6.2
  · rcases mem p hp with e | e <;> rw [e]
    · exact nT _ t6.2
    · exact nT _ u6.2
  · rcases mem p hp with e | e <;> rw [e]
    · exact PySem.W.CodeHd.of t5 t6
    · exact PySem.W.CodeHd.of u5 u6
section
open LamX
variable {P : Program} {w : World} {K : PySem.W.Frag} {mg : Str → Option Value} {base : Heap}
theorem Cond1.extN {s t b : Addr} {A B : List Nat} {cs bs : List Int} {i : Nat} {H H1 : Hp} (h : Cond1 K s t b A B cs bs i H) (e : ExtN H H1) : Cond1 K s t b A B cs bs i H1 := ⟨ex_tN e h.1, h.2.1, ex_lsN e h.2.2.1, h.2.2.2.1, h.2.2.2.2.1, ex_lsN e h.2.2.2.2.2.1, h.2.2.2.2.2.2⟩
theorem Cond2.extN {s : Addr} {A B N : List Nat} {i : Nat} {H H1 : Hp} (h : Cond2 K s A B N i H) (e : ExtN H H1) : Cond2 K s A B N i H1 := ⟨ex_tN e h.1, h.2⟩
theorem Cond3.extN {s t : Addr} {A B : List Nat} {cs : List Int} {st : Int} {T : List Nat} {most : Int} {H H1 : Hp} (h : Cond3 K s t A B cs st T most H) (e : ExtN H H1) : Cond3 K s t A B cs st T most H1 := ⟨ex_tN e h.1, h.2.1, ex_lsN e h.2.2.1, h.2.2.2⟩
theorem ok_law {CA CN CM cL pL pW : Addr} {f : Addr} {fd : FuncData} (FL : Fun K "law" "law" s_law f fd) (hcL : fd.code = .ref cL) (TB : TabB base mg cL pL) (neT : pL ≠ pW) (B : Bl mg) (g_q_dice : Pm P w K mg base CX0 1 "_law_dice" ["_law_script", "_law_k"] (sp_dice K)) (g_q_off : Pm P w K mg base CX0 1 "_law_off" ["_law_d", "_law_most"] sp_off)
    (g_q_sets : Pm P w K mg base CX0 3 "_law_sets" ["_law_d"] (sp_sets K)) (g_q_tape : Pm P w K mg base CX0 2 "_law_tape" ["_law_d", "_law_sets_here", "_law_most"] (sp_tape K)) (g_q_text : Pm P w K mg base CX0 2 "_law_text" ["_law_d", "_law_sets_here", "_law_most"] (sp_text K)) (g_q_absent : Pm P w K mg base CX0 1 "_law_absent" ["_law_sets_here"] (sp_absent K))
    (g_least : Pm P w K mg base CX0 129 "least" ["sets", "text", "state"] (sp_least K)) (g_trimmed : Pm P w K mg base CX0 3 "trimmed" ["sets", "tape", "state"] (sp_trimmed K))
    (g_by_state_x : Pm P w K mg base (L2N.CX P w) 4 "by_state" ["sets", "tape"] (sp_tapX K CA)) (g_joined_x : Pm P w K mg base (L2N.CX P w) 4 "joined" ["sets", "one", "other"] (sp_joinX K CA)) (g_cut_x : Pm P w K mg base (L2N.CX P w) 4 "cut" ["sets", "tape", "at"] (sp_cutX K CA CM)) (g_written_x : Pm P w K mg base (L2N.CX P w) 4 "written" ["sets", "tape"] (sp_tapX K CA))
    (g_least_x : Pm P w K mg base (L2N.CX P w) 4 "least" ["sets", "text", "state"] (sp_leastX K CN CM)) (g_guarded_x : Pm P w K mg base (L2N.CX P w) 4 "guarded" ["sets", "text", "state", "most"] (sp_guardX K CN CM))
    (g_q_works : Pm P w K mg base CX0 1 "_law_works" ["_law_sets_here", "_law_tape_here", "_law_state"] (sp_works P w K mg base CA CM pL pW)) (g_ref_tape : Pm P w K mg base CX0 8 "_law_refused" ["_law_work", "_law_word", "_law_value"] (sp_refA P w K mg base CA [116, 97, 112, 101]))
    (g_ref_sign : Pm P w K mg base CX0 8 "_law_refused" ["_law_work", "_law_word", "_law_value"] (sp_refA P w K mg base CN [115, 105, 103, 110])) (g_ref_number : Pm P w K mg base CX0 8 "_law_refused" ["_law_work", "_law_word", "_law_value"] (sp_refU P w K mg base CM)) : FnOk P w K mg base CX0 131 f fd ["_law_script"] (spLawT K pL pW) := by
  obtain ⟨oc, od, kV, doc, pm, an, cd, ct, osl, rfl, lk, hcd⟩ := FL.ex
  have hcL : cd = .ref cL := hcL
  subst hcL
  obtain ⟨TT, hTT⟩ : ∃ TT : List (Addr × Str), TT = tabsOf pL pW := ⟨_, rfl⟩
  have hmT : (pL, qL) ∈ TT := by rw [hTT]; exact List.mem_cons_self
  have huT : ∀ p ∈ TT, p.1 = pL → p.2 = qL := fun p hp e => by
    rw [hTT] at hp
    rcases List.mem_cons.mp hp with z | z
    · rw [z]
    · rw [List.mem_singleton.mp z] at e; exact absurd e.symm neT
  refine fn_of lk hcd sc_law (fun vs H Q E h => ?_) (fun A outer sh H vs Q E hr h => ?_)
  · obtain ⟨_, _, rfl, _⟩ := h
    rfl
  · suffices hs : ∃ t, PSs (cxOf CX0 P w K mg base n_law "law" (defScope s_law) f (.ref cL) A outer sh H E).nox (defBody s_law) t ∧ t { nx := fun _ H' => Q .non H', rt := Q } (start n_law vs) H by
      obtain ⟨t, h1, q⟩ := hs
      exact ⟨t, h1.nox, q⟩
    obtain ⟨a, ns, rfl, hA, hl, hpL, hpW, k⟩ := h
    have hTab : Tabs TT H := fun p hp => by
      rw [hTT] at hp
      rcases List.mem_cons.mp hp with z | z
      · rw [z]; exact TabS.nil hpL
      · rw [List.mem_singleton.mp z]; exact TabS.nil hpW
    refine ⟨_, (pss_cons (ps_set (i := 1) sc_law.nd rfl (Or.inl rfl) (pe_pm g_q_dice (hr.mono (by decide)) pass0 (pa_cons (pv 0) (pa_cons pe_int pa_nil))))
 (pss_cons (ps_set (i := 2) sc_law.nd rfl (Or.inr rfl) (pe_pm g_q_sets (hr.mono (by decide)) pass0 (pa_cons (pv 1) pa_nil)))
 (pss_cons (ps_set (i := 3) sc_law.nd rfl (Or.inr rfl) (pe_pm g_q_tape (hr.mono (by decide)) pass0 (pa_cons (pv 1) (pa_cons (pv 2) (pa_cons pe_int pa_nil)))))
 (pss_cons (ps_set (i := 4) sc_law.nd rfl (Or.inr rfl) (pe_pm g_q_off (hr.mono (by decide)) pass0 (pa_cons (pv 1) (pa_cons (pe_op op_addP (pe_callB (lenK K rfl) (by rfl) B.len PySem.boot_len (pa_cons (pv 3) pa_nil)) pe_int) pa_nil))))
 (pss_cons (ps_set (i := 5) sc_law.nd rfl (Or.inl rfl) (pe_ix (ixK K rfl) (pe_lst (pa_cons (pe_un un_neg pe_int) (pa_cons (pe_op op_addP (pe_callB (lenK K rfl) (by rfl) B.len PySem.boot_len (pa_cons (pe_ix (ixK K rfl) (pv 2) pe_int (fun _ _ => rfl)) pa_nil)) pe_int) (pa_cons (pe_op op_pow pe_int pe_int) (pa_cons (pe_un un_neg (pe_op op_pow pe_int pe_int)) pa_nil))))) (pe_pm g_q_off (hr.mono (by decide)) pass0 (pa_cons (pv 1) (pa_cons pe_int pa_nil))) (fun _ _ => rfl)))
 (pss_cons (ps_set (i := 6) sc_law.nd rfl (Or.inr rfl) (pe_op op_addP (pe_op op_addP (pe_op op_addP (pe_slice (slK K rfl) (pv 3) po_none (po_some (pv 4))) (pe_lst (pa_cons (pv 5) pa_nil))) (pe_slice (slK K rfl) (pv 3) (po_some (pv 4)) po_none)) (pe_op op_mulP (pe_lst (pa_cons (pe_un un_neg pe_int) pa_nil)) (pe_pm g_q_off (hr.mono (by decide)) pass0 (pa_cons (pv 1) (pa_cons pe_int pa_nil))))))
 (Evl.pss_cut (ps_if (pt_cmpR (eqK K rfl hr.units) (pe_pm g_q_off (hr.mono (by decide)) pass0 (pa_cons (pv 1) (pa_cons pe_int pa_nil))) pe_int (nomark _))
 (pss_cons (ps_set (i := 6) sc_law.nd rfl (Or.inr rfl) (pe_op op_addP (pe_op op_mulP (pe_lst (pa_cons pe_int pa_nil)) pe_int) (pe_slice (slK K rfl) (pe_lst (pa_cons (pe_pm g_q_off (hr.mono (by decide)) pass0 (pa_cons (pv 1) (pa_cons pe_int pa_nil))) (pa_cons (pe_un un_neg pe_int) pa_nil))) po_none (po_some (pe_op op_addP pe_int (pe_pm g_q_off (hr.mono (by decide)) pass0 (pa_cons (pv 1) (pa_cons pe_int pa_nil))))))))
 (pss_cons (ps_set (i := 4) sc_law.nd rfl (Or.inr rfl) pe_int)
 pss_nil))
 pss_nil)
 (pss_cons (ps_set (i := 7) sc_law.nd rfl (Or.inr rfl) (pe_ix (ixK K rfl) (pe_lst (pa_cons (pe_un un_neg pe_int) (pa_cons pe_int (pa_cons (pe_op op_pow pe_int pe_int) (pa_cons (pe_un un_neg (pe_op op_pow pe_int pe_int)) pa_nil))))) (pe_pm g_q_off (hr.mono (by decide)) pass0 (pa_cons (pv 1) (pa_cons pe_int pa_nil))) (fun _ _ => rfl)))
 (pss_cons (ps_set (i := 8) sc_law.nd rfl (Or.inl rfl) (pe_op op_addP (pe_pm g_q_works (hr.mono (by decide)) pass0 (pa_cons (pv 2) (pa_cons (pv 6) (pa_cons (pv 7) pa_nil)))) (pe_lst (pa_cons (pe_lam (T := TT) (names := []) TB rfl hmT huT (lamN_by (N := n_law) (sc := defScope s_law) (by decide +kernel)) (.inl ⟨rfl, rfl, fun q body scope cl pm cv ct => rfl⟩)) (pa_cons (pe_lam (T := TT) (names := ["_law_a"]) TB rfl hmT huT (lamN_by (N := n_law) (sc := defScope s_law) (by decide +kernel)) (.inr ⟨_, _, _, "_law_a", rfl, rfl, fun u T q body scope cl pm cv ct => ⟨_, rfl, rfl⟩⟩)) pa_nil)))))
 (pss_cons (ps_set (i := 8) sc_law.nd rfl (Or.inl rfl) (pe_op op_addP (pv 8) (pe_lst (pa_cons (pe_lam (T := TT) (names := ["_law_b"]) TB rfl hmT huT (lamN_by (N := n_law) (sc := defScope s_law) (by decide +kernel)) (.inr ⟨_, _, _, "_law_b", rfl, rfl, fun u T q body scope cl pm cv ct => ⟨_, rfl, rfl⟩⟩)) (pa_cons (pe_lam (T := TT) (names := ["_law_c"]) TB rfl hmT huT (lamN_by (N := n_law) (sc := defScope s_law) (by decide +kernel)) (.inr ⟨_, _, _, "_law_c", rfl, rfl, fun u T q body scope cl pm cv ct => ⟨_, rfl, rfl⟩⟩)) pa_nil)))))
 (pss_cons (ps_expr (bmK K rfl PySem.F.plainAttrs_list PySem.F.slot_list_append PySem.F.type_list_append mt_append (pv 8) (pa_cons (pe_lam (T := TT) (names := ["_law_e"]) TB rfl hmT huT (lamN_by (N := n_law) (sc := defScope s_law) (by decide +kernel)) (.inr ⟨_, _, _, "_law_e", rfl, rfl, fun u T q body scope cl pm cv ct => ⟨_, rfl, rfl⟩⟩)) pa_nil)))
 (pss_cons (ps_if (pt_cmpR (neK K rfl hr.units) (pe_lcI (own := [("_law_work", 14)]) (g := gName 14) rfl sc_law.nd (piL K rfl (pv 8)) (blkOk_by (N := n_law) (sc := defScope s_law) (by decide +kernel)) (fun _ _ _ _ _ => pg_name (i := 14) sc_law.nd rfl (Or.inl rfl)) (fun pins0 σ0 s0 H0 C0 cl0 fp0 I0 hfp => (pts_one (pt_not (pt_val (pe_lend I0 hfp (fun _ => rfl) (fun y e => sc_law.nofree _ (PySem.mem_of_lookup e) rfl) (cells_uq (by decide +kernel)) g_ref_tape (hr.mono (by decide)) (pa_cons (pv 14) (pa_cons (pe_strT (l := [116, 97, 112, 101]) (by decide +kernel)) (pa_cons (pv 4) pa_nil)))))))) (fun _ _ _ _ _ => (pv 14))) (pe_lst pa_nil) (nomark _))
 (pss_cons (ps_ret pe_bl)
 pss_nil)
 pss_nil)
 (pss_cons (ps_set (i := 9) sc_law.nd rfl (Or.inr rfl) (pe_pm g_q_text (hr.mono (by decide)) pass0 (pa_cons (pv 1) (pa_cons (pv 2) (pa_cons pe_int pa_nil)))))
 (pss_cons (ps_set (i := 10) sc_law.nd rfl (Or.inr rfl) (pe_pm g_q_off (hr.mono (by decide)) pass0 (pa_cons (pv 1) (pa_cons (pe_op op_addP (pe_callB (lenK K rfl) (by rfl) B.len PySem.boot_len (pa_cons (pv 9) pa_nil)) pe_int) pa_nil))))
 (pss_cons (ps_set (i := 11) sc_law.nd rfl (Or.inl rfl) (pe_pm g_q_absent (hr.mono (by decide)) pass0 (pa_cons (pv 2) pa_nil)))
 (pss_cons (ps_set (i := 12) sc_law.nd rfl (Or.inr rfl) (pe_op op_addP (pe_op op_addP (pe_op op_addP (pe_slice (slK K rfl) (pv 9) po_none (po_some (pv 10))) (pe_ix (ixK K rfl) (pv 11) (pe_pm g_q_off (hr.mono (by decide)) pass0 (pa_cons (pv 1) (pa_cons (pe_callB (lenK K rfl) (by rfl) B.len PySem.boot_len (pa_cons (pv 11) pa_nil)) pa_nil))) (fun _ _ => rfl))) (pe_slice (slK K rfl) (pv 9) (po_some (pv 10)) po_none)) (pe_op op_mulS (pe_ix (ixK K rfl) (pv 11) pe_int (fun _ _ => rfl)) (pe_pm g_q_off (hr.mono (by decide)) pass0 (pa_cons (pv 1) (pa_cons pe_int pa_nil))))))
 (pss_cons (ps_set (i := 8) sc_law.nd rfl (Or.inl rfl) (pe_lst (pa_cons (pe_lam (T := TT) (names := []) TB rfl hmT huT (lamN_by (N := n_law) (sc := defScope s_law) (by decide +kernel)) (.inl ⟨rfl, rfl, fun q body scope cl pm cv ct => rfl⟩)) (pa_cons (pe_lam (T := TT) (names := ["_law_a"]) TB rfl hmT huT (lamN_by (N := n_law) (sc := defScope s_law) (by decide +kernel)) (.inr ⟨_, _, _, "_law_a", rfl, rfl, fun u T q body scope cl pm cv ct => ⟨_, rfl, rfl⟩⟩)) pa_nil))))
 (pss_cons (ps_if (pt_cmpR (neK K rfl hr.units) (pe_lcI (own := [("_law_work", 14)]) (g := gName 14) rfl sc_law.nd (piL K rfl (pv 8)) (blkOk_by (N := n_law) (sc := defScope s_law) (by decide +kernel)) (fun _ _ _ _ _ => pg_name (i := 14) sc_law.nd rfl (Or.inl rfl)) (fun pins0 σ0 s0 H0 C0 cl0 fp0 I0 hfp => (pts_one (pt_not (pt_val (pe_lend I0 hfp (fun _ => rfl) (fun y e => sc_law.nofree _ (PySem.mem_of_lookup e) rfl) (cells_uq (by decide +kernel)) g_ref_sign (hr.mono (by decide)) (pa_cons (pv 14) (pa_cons (pe_strT (l := [115, 105, 103, 110]) (by decide +kernel)) (pa_cons (pv 10) pa_nil)))))))) (fun _ _ _ _ _ => (pv 14))) (pe_lst pa_nil) (nomark _))
 (pss_cons (ps_ret pe_bl)
 pss_nil)
 pss_nil)
 (pss_cons (ps_set (i := 13) sc_law.nd rfl (Or.inr rfl) (pe_ix (ixK K rfl) (pe_lst (pa_cons (pe_un un_neg pe_int) (pa_cons pe_int (pa_cons (pe_op op_pow pe_int pe_int) pa_nil)))) (pe_pm g_q_off (hr.mono (by decide)) pass0 (pa_cons (pv 1) (pa_cons pe_int pa_nil))) (fun _ _ => rfl)))
 (pss_cons (ps_set (i := 8) sc_law.nd rfl (Or.inl rfl) (pe_op op_addP (pe_pm g_q_works (hr.mono (by decide)) pass0 (pa_cons (pv 2) (pa_cons (pv 3) (pa_cons (pv 7) pa_nil)))) (pe_lst (pa_cons (pe_lam (T := TT) (names := []) TB rfl hmT huT (lamN_by (N := n_law) (sc := defScope s_law) (by decide +kernel)) (.inl ⟨rfl, rfl, fun q body scope cl pm cv ct => rfl⟩)) pa_nil))))
 (pss_cons (ps_expr (bmK K rfl PySem.F.plainAttrs_list PySem.F.slot_list_append PySem.F.type_list_append mt_append (pv 8) (pa_cons (pe_lam (T := TT) (names := ["_law_a"]) TB rfl hmT huT (lamN_by (N := n_law) (sc := defScope s_law) (by decide +kernel)) (.inr ⟨_, _, _, "_law_a", rfl, rfl, fun u T q body scope cl pm cv ct => ⟨_, rfl, rfl⟩⟩)) pa_nil)))
 (pss_cons (ps_set (i := 8) sc_law.nd rfl (Or.inl rfl) (pe_op op_addP (pv 8) (pe_lst (pa_cons (pe_lam (T := TT) (names := ["_law_b"]) TB rfl hmT huT (lamN_by (N := n_law) (sc := defScope s_law) (by decide +kernel)) (.inr ⟨_, _, _, "_law_b", rfl, rfl, fun u T q body scope cl pm cv ct => ⟨_, rfl, rfl⟩⟩)) (pa_cons (pe_lam (T := TT) (names := ["_law_c"]) TB rfl hmT huT (lamN_by (N := n_law) (sc := defScope s_law) (by decide +kernel)) (.inr ⟨_, _, _, "_law_c", rfl, rfl, fun u T q body scope cl pm cv ct => ⟨_, rfl, rfl⟩⟩)) pa_nil)))))
 (pss_cons (ps_expr (bmK K rfl PySem.F.plainAttrs_list PySem.F.slot_list_append PySem.F.type_list_append mt_append (pv 8) (pa_cons (pe_lam (T := TT) (names := ["_law_f"]) TB rfl hmT huT (lamN_by (N := n_law) (sc := defScope s_law) (by decide +kernel)) (.inr ⟨_, _, _, "_law_f", rfl, rfl, fun u T q body scope cl pm cv ct => ⟨_, rfl, rfl⟩⟩)) pa_nil)))
 (pss_cons (ps_if (pt_cmpR (neK K rfl hr.units) (pe_lcI (own := [("_law_work", 14)]) (g := gName 14) rfl sc_law.nd (piL K rfl (pv 8)) (blkOk_by (N := n_law) (sc := defScope s_law) (by decide +kernel)) (fun _ _ _ _ _ => pg_name (i := 14) sc_law.nd rfl (Or.inl rfl)) (fun pins0 σ0 s0 H0 C0 cl0 fp0 I0 hfp => (pts_one (pt_not (pt_val (pe_lend I0 hfp (fun _ => rfl) (fun y e => sc_law.nofree _ (PySem.mem_of_lookup e) rfl) (cells_uq (by decide +kernel)) g_ref_number (hr.mono (by decide)) (pa_cons (pv 14) (pa_cons (pe_strT (l := [110, 117, 109, 98, 101, 114]) (by decide +kernel)) (pa_cons pe_int pa_nil)))))))) (fun _ _ _ _ _ => (pv 14))) (pe_lst pa_nil) (nomark _))
 (pss_cons (ps_ret pe_bl)
 pss_nil)
 pss_nil)
 (pss_cons (ps_ret (pe_and (pe_callB (isiK K rfl) (by rfl) B.isinstance (by decide +kernel) (pa_cons (pe_pm g_least (hr.mono (by decide)) pass0 (pa_cons (pv 2) (pa_cons (pv 9) (pa_cons pe_int pa_nil)))) (pa_cons (pe_bltn (v := .ty "list") (by rfl) B.list (by decide +kernel) rfl) pa_nil))) (pe_one (pe_callB (isiK K rfl) (by rfl) B.isinstance (by decide +kernel) (pa_cons (pe_pm g_trimmed (hr.mono (by decide)) pass0 (pa_cons (pv 2) (pa_cons (pv 3) (pa_cons pe_int pa_nil)))) (pa_cons (pe_bltn (v := .ty "list") (by rfl) B.list (by decide +kernel) rfl) pa_nil))))))
 pss_nil))))))))))))))))))))))))), ?_⟩
    refine go_st (σ := [some (.ref a), none, none, none, none, none, none, none, none, none, none, none, none, none, none]) rfl ?_
    refine go_dice rfl hA hl fun d hd0 => ?_
    wtm_at "r"
    refine wp_sets fun s A' B' hs g _ _ => ?_
    revert s
    wtm_at "gz"
    intro s hs F1 hs1 eF1
    have hS : SetsAt K F1 s A' B' := SqT.of hs1
    have n10 := g.n10
    have n1 := g.n1
    have nB := g.eq
    wtm_at "r"
    refine wp_tape (most := 40) hS n1 n10 (by decide) fun t cs ht hc hcl40 => ?_
    revert t
    wtm_at "gz"
    intro t ht F2 q2 e2
    wtm_at "r"
    rw [List.length_map]
    refine wp_off (by omega) (by omega) fun at0 hat => ?_
    wtm_at "r"
    have hS2 : SetsAt K F2 s A' B' := ex_t e2 hS
    refine wp_ixT hS2 (atI_nat (j := 0) rfl) ?_
    wtm_at "r"
    refine wp_i (C := CPow) (i := 10) (j := 9) ⟨by decide, by decide, by decide⟩ ?_
    wtm_at "r"
    refine wp_i (C := CPow) (i := 10) (j := 9) ⟨by decide, by decide, by decide⟩ ?_
    wtm_at "r"
    refine ⟨(by show 4 ≤ 100000; decide), ?_⟩
    wtm_at "gz"
    intro p3 hp3 F3 q3 e3
    wtm_at "r"
    refine wp_off (by omega) (by omega) fun r3 hr3 => ?_
    obtain ⟨odd, hodd, hbo⟩ : ∃ odd : Int, atI [V.int (-1), V.int ((A'.length : Nat) + 2 : Int), V.int ((10 : Int) ^ Int.toNat 9), V.int (-((10 : Int) ^ Int.toNat 9))] (r3 : Int) = some (.int odd) ∧ (odd < 0 ∨ (A'.length : Int) + 2 ≤ odd) := by
      match r3, hr3 with
      | 0, _ => exact ⟨_, atI_nat (j := 0) rfl, .inl (by decide)⟩
      | 1, _ => exact ⟨_, atI_nat (j := 1) rfl, .inr (Int.le_refl _)⟩
      | 2, _ => exact ⟨_, atI_nat (j := 2) rfl, .inr (by have : (10 : Int) ^ Int.toNat 9 = 1000000000 := by decide
                                                         omega)⟩
      | 3, _ => exact ⟨_, atI_nat (j := 3) rfl, .inl (by decide)⟩
      | n + 4, h => omega
    refine wp_ixL (SqL.of q3) hodd ?_
    wtm_at "r"
    refine wp_slL (SqL.of (e3 _ _ q2)) ?_
    rw [cutV_take, ← List.map_take]
    wtm_at "gz"
    intro p4 hp4 F4 q4 e4
    wtm_at "r"
    refine ⟨(by show 1 ≤ 100000; decide), ?_⟩
    wtm_at "gz"
    intro p5 hp5 F5 q5 e5
    refine wp_addL (e5 _ _ q4) q5 (by rw [List.length_map, List.length_take]; show _ + 1 ≤ _; omega) ?_
    wtm_at "gz"
    intro p6 hp6 F6 q6 e6
    have e26 : Ex F2 F6 := e3.trans (e4.trans (e5.trans e6))
    wtm_at "r"
    refine wp_slL (SqL.of (e26 _ _ q2)) ?_
    rw [cutV_drop, ← List.map_drop]
    wtm_at "gz"
    intro p7 hp7 F7 q7 e7
    refine wp_addL (e7 _ _ q6) q7 (by
      rw [List.length_append, List.length_map, List.length_map, List.length_take, List.length_drop]
      show _ + 1 + _ ≤ _
      omega) ?_
    wtm_at "gz"
    intro p8 hp8 F8 q8 e8
    wtm_at "r"
    refine ⟨(by show 1 ≤ 100000; decide), ?_⟩
    wtm_at "gz"
    intro p9 hp9 F9 q9 e9
    wtm_at "r"
    refine wp_off (by omega) (by omega) fun r9 hr9 => ?_
    refine wp_rep q9 (by show 1 * r9 ≤ _; omega) (by omega) ?_
    wtm_at "gz"
    intro p10 hp10 F10 q10 e10
    have hrl : ((List.replicate r9 [V.int (-1)]).flatten) = il (List.replicate r9 (-1)) := by
      rw [List.flatten_replicate_singleton]
      exact List.map_replicate.symm
    have q10 : F10 p10 = some (.lst (il (List.replicate r9 (-1)))) := by rw [← hrl]; exact q10
    refine wp_addL ((e9.trans e10) _ _ q8) q10 (by
      rw [List.length_append, List.length_append, List.length_map, List.length_map, List.length_map, List.length_take, List.length_drop, List.length_replicate]
      show _ + 1 + _ + _ ≤ _
      omega) ?_
    wtm_at "gz"
    intro p11 hp11 F11 q11 e11
    obtain ⟨b1, hb1⟩ : ∃ b1 : List Int, b1 = cs.take at0 ++ [odd] ++ cs.drop at0 ++ List.replicate r9 (-1) := ⟨_, rfl⟩
    have q11 : F11 p11 = some (.lst (il b1)) := by
      rw [q11, hb1]
      simp [il]
    have e2_11 : Ex F2 F11 := e26.trans (e7.trans (e8.trans (e9.trans (e10.trans e11))))
    have hb1l : b1.length ≤ 45 := by
      rw [hb1, List.length_append, List.length_append, List.length_append, List.length_take, List.length_drop, List.length_replicate]
      show _ + 1 + _ + _ ≤ _
      omega
    have hb1f : FirstB A'.length b1 (some at0) := by
      have hl1 : (cs.take at0).length = at0 := by rw [List.length_take]; omega
      refine ⟨⟨odd, ?_, .inr hbo⟩, fun j c hj hcj hb => ?_⟩
      · rw [hb1, List.append_assoc, List.append_assoc, List.getElem?_append_right (by omega), hl1, Nat.sub_self]
        rfl
      · rw [hb1, List.append_assoc, List.append_assoc, List.getElem?_append_left (by omega)] at hcj
        have hm := hc c (List.mem_of_mem_take (List.mem_of_getElem? hcj))
        rcases hb with hb | hb | hb <;> omega
    refine go_cut (fun σ F12 => ∃ (b : Addr) (bs : List Int) (at1 : Nat), σ = [some (.ref a), some (.ref d), some (.ref s), some (.ref t), some (.int (at1 : Int)), some (.int odd), some (.ref b), none, none, none, none, none, none, none, none] ∧ Ex F2 F12 ∧ F12 b = some (.lst (il bs)) ∧ bs.length ≤ 250 ∧ FirstB A'.length bs (some at1)) ?_ ?_
    · wtm_at "r"
      refine wp_off (by omega) (by omega) fun r12 hr12 => ?_
      wtm_at "r"
      refine ⟨fun h1 => ?_, fun h1 => ?_⟩
      · wtm_at "r"
        refine ⟨(by show 1 ≤ 100000; decide), ?_⟩
        wtm_at "gz"
        intro p12 hp12 F12 q12 e12
        wtm_at "r"
        rw [show (200 : Int) = ((200 : Nat) : Int) from rfl]
        refine wp_rep q12 (by show 1 * 200 ≤ _; decide) (by decide) ?_
        wtm_at "gz"
        intro p13 hp13 F13 q13 e13
        wtm_at "r"
        refine wp_off (by omega) (by omega) fun r14 hr14 => ?_
        wtm_at "r"
        refine ⟨(by show 2 ≤ 100000; decide), ?_⟩
        wtm_at "gz"
        intro p14 hp14 F14 q14 e14
        wtm_at "r"
        refine wp_off (by omega) (by omega) fun r15 hr15 => ?_
        wtm_at "r"
        rw [show (1 : Int) + (r15 : Int) = ((1 + r15 : Nat) : Int) by omega]
        refine wp_slL (SqL.of q14) ?_
        rw [cutV_take]
        wtm_at "gz"
        intro p15 hp15 F15 q15 e15
        have hz : (List.replicate 200 [V.int 0]).flatten = il (List.replicate 200 0) := by
          rw [List.flatten_replicate_singleton]
          exact List.map_replicate.symm
        have q13 : F13 p13 = some (.lst (il (List.replicate 200 0))) := by rw [← hz]; exact q13
        have q15 : F15 p15 = some (.lst (il ([(r14 : Int), -1].take (1 + r15)))) := by rw [show il ([(r14 : Int), -1].take (1 + r15)) = ([(r14 : Int), -1].map V.int).take (1 + r15) from List.map_take]; exact q15
        refine wp_addL ((e14.trans e15) _ _ q13) q15 (by
          rw [List.length_map, List.length_map, List.length_replicate, List.length_take]
          show _ + min _ 2 ≤ _
          omega) ?_
        wtm_at "gz"
        intro p16 hp16 F16 q16 e16
        wtm_at "r"
        have hl2 : (([(r14 : Int), -1] : List Int).take (1 + r15)).length = 1 + r15 := by
          rw [List.length_take]
          show min _ 2 = _
          omega
        obtain ⟨c0, hc0⟩ : ∃ c0, ([(r14 : Int), -1].take (1 + r15))[0]? = some c0 := ⟨_, List.getElem?_eq_getElem (by omega)⟩
        refine go_turn rfl ⟨p16, List.replicate 200 0 ++ [(r14 : Int), -1].take (1 + r15), 200, rfl, e2_11.trans (e12.trans (e13.trans (e14.trans (e15.trans e16)))), by rw [q16]; simp [il], by rw [List.length_append, List.length_replicate, hl2]; omega, ⟨c0, ?_, .inl (Nat.le_refl _)⟩, fun j c hj hcj hb => ?_⟩
        · rw [List.getElem?_append_right (by rw [List.length_replicate]; exact Nat.le_refl _), List.length_replicate]
          exact hc0
        · rw [List.getElem?_append_left (by rw [List.length_replicate]; exact hj)] at hcj
          have := (List.mem_replicate.mp (List.mem_of_getElem? hcj)).2
          rcases hb with hb | hb | hb <;> omega
      · exact go_turn rfl ⟨p11, b1, at0, rfl, e2_11, q11, by omega, hb1f⟩
    · rintro σ F12 ⟨b, bs, at1, rfl, e12, qb, hbl, hbf⟩
      wtm_at "r"
      refine wp_i (C := CPow) (i := 10) (j := 9) ⟨by decide, by decide, by decide⟩ ?_
      wtm_at "r"
      refine wp_i (C := CPow) (i := 10) (j := 9) ⟨by decide, by decide, by decide⟩ ?_
      wtm_at "r"
      refine ⟨(by show 4 ≤ 100000; decide), ?_⟩
      wtm_at "gz"
      intro p17 hp17 F17 q17 e17
      wtm_at "r"
      refine wp_off (by omega) (by omega) fun r17 hr17 => ?_
      obtain ⟨st, hsti, hst⟩ : ∃ st : Int, atI [V.int (-1), V.int 2, V.int ((10 : Int) ^ Int.toNat 9), V.int (-((10 : Int) ^ Int.toNat 9))] (r17 : Int) = some (.int st) ∧ ¬ StOk st := by
        match r17, hr17 with
        | 0, _ => exact ⟨_, atI_nat (j := 0) rfl, fun z => by rcases z with z | z <;> revert z <;> decide⟩
        | 1, _ => exact ⟨_, atI_nat (j := 1) rfl, fun z => by rcases z with z | z <;> revert z <;> decide⟩
        | 2, _ => exact ⟨_, atI_nat (j := 2) rfl, fun z => by rcases z with z | z <;> revert z <;> decide⟩
        | 3, _ => exact ⟨_, atI_nat (j := 3) rfl, fun z => by rcases z with z | z <;> revert z <;> decide⟩
        | n + 4, h => omega
      refine wp_ixL (SqL.of q17) hsti ?_
      have e2_17 : Ex F2 F17 := e12.trans e17
      have hS17 : SetsAt K F17 s A' B' := ex_t e2_17 hS2
      have qt17 : F17 t = some (.lst (il cs)) := e2_17 _ _ q2
      have qb17 : F17 b = some (.lst (il bs)) := e17 _ _ qb
      have hcs : FirstB A'.length cs none := fun i c hci hb => by
        have hm := hc c (List.mem_of_getElem? hci)
        have hil := (List.getElem?_eq_some_iff.mp hci).1
        rcases hb with hb | hb | hb <;> omega
      have hC17 : Cond1 K s t b A' B' cs bs at1 F17 := ⟨hS17, g, SqL.of qt17, by omega, hcs, SqL.of qb17, by omega, hbf⟩
      have hW17 : CondW K s b A' B' bs st (some at1) F17 := ⟨hS17, g, SqL.of qb17, by omega, hbf, hst⟩
      have hTab17 : Tabs TT F17 := Tabs.ext hTab (eF1.trans (e2.trans e2_17))
      wtm_at "r"
      refine wp_works hW17 (by rw [← hTT]; exact hTab17) fun pw fs F18 e18 T18 q18 hfl hfs => ?_
      rw [← hTT] at T18
      wtm_at "r"
      refine wp_lam T18 fun f0 c0 dv0 F19 e19 T19 hf0 hc0 hd0 => ?_
      wtm_at "r"
      refine wp_lam T19 fun f1 c1 dv1 F20 e20 T20 hf1 hc1 hd1 => ?_
      wtm_at "r"
      refine ⟨(by show 2 ≤ 100000; decide), ?_⟩
      wtm_at "gz"
      intro p21 hp21 F21 q21 e21
      have x18_21 : ExtN F18 F21 := (e19.trans e20).trans (ExtN.of e21)
      refine wp_addL (x18_21 _ _ q18 fun ps z => by cases z) q21 (by rw [List.length_map, hfl]; show 4 + 2 ≤ _; decide) ?_
      wtm_at "gz"
      intro p22 hp22 F22 q22 e22
      have hpre := Rdy.extL (P := P) (w := w) (K := K) (mg := mg) (base := base) (cells := (envOfC "law" (defScope s_law) sh.heap.objs.size f (.ref cL)).cells) (σL := sg1 s t b st) (CondA := CondW K s b A' B' bs st (some at1)) (Cond := Cond1 K s t b A' B' cs bs at1) (Rs := RetE CA "at" (.int (at1 : Nat)))
      have x20_22 : ExtN F20 F22 := ExtN.of (e21.trans e22)
      have x17_22 : ExtN F17 F22 := (e18.trans x18_21).trans (ExtN.of e22)
      have hR22 : ∀ f' ∈ fs ++ [f0, f1], Rdy P w K mg base (envOfC "law" (defScope s_law) sh.heap.objs.size f (.ref cL)).cells (sg1 s t b st) (CondW K s b A' B' bs st (some at1)) (Cond1 K s t b A' B' cs bs at1) (RetE CA "at" (.int (at1 : Nat))) f' F22 := fun f' hf => by
        rcases List.mem_append.mp hf with hf | hf
        · exact hpre _ _ _ (ExtL.of (x18_21.trans (ExtN.of e22))) (.inl (hfs f' hf))
        · rcases List.mem_cons.mp hf with z | hf
          · rw [z]
            exact hpre _ _ _ (ExtL.of (e20.trans x20_22)) (.inr (laml_0 (CA := CA) (CN := CN) (CM := CM) (s := s) (t := t) (b := b) (A' := A') (B' := B') (cs := cs) (bs := bs) (i := at1) (st := st) B g_by_state_x hc0 hf0 hd0))
          · rw [List.mem_singleton.mp hf]
            exact hpre _ _ _ (ExtL.of x20_22) (.inr (laml_1 (CA := CA) (CN := CN) (CM := CM) (s := s) (t := t) (b := b) (A' := A') (B' := B') (cs := cs) (bs := bs) (i := at1) (st := st) B g_joined_x hc1 hf1 hd1))
      have T22 : Tabs TT F22 := Tabs.ext T20 (e21.trans e22)
      have q22 : F22 p22 = some (.lst ((fs ++ [f0, f1]).map V.ref)) := by rw [q22, List.map_append]; rfl
      wtm_at "r"
      refine wp_lam T22 fun f2 c2 dv2 F23 e23 T23 hf2 hc2 hd2 => ?_
      wtm_at "r"
      refine wp_lam T23 fun f3 c3 dv3 F24 e24 T24 hf3 hc3 hd3 => ?_
      wtm_at "r"
      refine ⟨(by show 2 ≤ 100000; decide), ?_⟩
      wtm_at "gz"
      intro p25 hp25 F25 q25 e25
      have x22_25 : ExtN F22 F25 := (e23.trans e24).trans (ExtN.of e25)
      refine wp_addL (x22_25 _ _ q22 fun ps z => by cases z) q25 (by rw [List.length_map, List.length_append, hfl]; show 4 + 2 + 2 ≤ _; decide) ?_
      wtm_at "gz"
      intro p26 hp26 F26 q26 e26'
      have x24_26 : ExtN F24 F26 := ExtN.of (e25.trans e26')
      have x22_26 : ExtN F22 F26 := x22_25.trans (ExtN.of e26')
      have hR26 : ∀ f' ∈ fs ++ [f0, f1] ++ [f2, f3], Rdy P w K mg base (envOfC "law" (defScope s_law) sh.heap.objs.size f (.ref cL)).cells (sg1 s t b st) (CondW K s b A' B' bs st (some at1)) (Cond1 K s t b A' B' cs bs at1) (RetE CA "at" (.int (at1 : Nat))) f' F26 := fun f' hf => by
        rcases List.mem_append.mp hf with hf | hf
        · exact hpre _ _ _ (ExtL.of x22_26) (hR22 f' hf)
        · rcases List.mem_cons.mp hf with z | hf
          · rw [z]
            exact hpre _ _ _ (ExtL.of (e24.trans x24_26)) (.inr (laml_2 (CA := CA) (CN := CN) (CM := CM) (s := s) (t := t) (b := b) (A' := A') (B' := B') (cs := cs) (bs := bs) (i := at1) (st := st) B g_joined_x hc2 hf2 hd2))
          · rw [List.mem_singleton.mp hf]
            exact hpre _ _ _ (ExtL.of x24_26) (.inr (laml_3 (CA := CA) (CN := CN) (CM := CM) (s := s) (t := t) (b := b) (A' := A') (B' := B') (cs := cs) (bs := bs) (i := at1) (st := st) B g_cut_x hc3 hf3 hd3))
      have T26 : Tabs TT F26 := Tabs.ext T24 (e25.trans e26')
      have q26 : F26 p26 = some (.lst ((fs ++ [f0, f1] ++ [f2, f3]).map V.ref)) := by rw [q26, List.map_append (l₁ := fs ++ [f0, f1])]; rfl
      obtain ⟨fs8, hfs8⟩ : ∃ fs8, fs8 = fs ++ [f0, f1] ++ [f2, f3] := ⟨_, rfl⟩
      rw [← hfs8] at hR26 q26
      have hfl8 : fs8.length = 8 := by rw [hfs8, List.length_append, List.length_append, hfl]; rfl
      have W26 : Wk TT (Rdy P w K mg base (envOfC "law" (defScope s_law) sh.heap.objs.size f (.ref cL)).cells (sg1 s t b st) (CondW K s b A' B' bs st (some at1)) (Cond1 K s t b A' B' cs bs at1) (RetE CA "at" (.int (at1 : Nat)))) F25 p26 fs8 F26 := ⟨q26, hR26, T26, ExtN.of e26'⟩
      wtm_at "r"
      refine wp_bmL ?_
      wtm_at "r"
      refine ⟨p26, _, rfl, SqL.of q26, ?_⟩
      wtm_at "r"
      refine wp_lam T26 fun f4 c4 dv4 F27 e27 T27 hf4 hc4 hd4 => ?_
      wtm_at "r"
      refine wp_append (e27 _ _ q26 fun ps z => by cases z) (by rw [List.length_map, hfl8]; decide) ?_
      have W27 := W26.step hpre (fun o q => by rw [hp26] at q; cases q) e27 T27 (.inr (laml_4 (CA := CA) (CN := CN) (CM := CM) (s := s) (t := t) (b := b) (A' := A') (B' := B') (cs := cs) (bs := bs) (i := at1) (st := st) B g_written_x hc4 hf4 hd4))
      have x26_27 : ExtN F17 (upd F27 p26 (.lst (fs8.map V.ref ++ [.ref f4]))) := extN_up ((x17_22.trans x22_26).trans e27) (new_of (x17_22.trans x22_25) hp26)
      revert W27 x26_27
      generalize upd F27 p26 _ = G27
      intro W27 x26_27
      wtm_at "r"
      refine wp_lcL (fun _ => rfl) ?_
      wtm_at "r"
      refine ⟨p26, _, rfl, SqL.of W27.at_, fun Dl hD => ⟨fun i acc F28 => acc = [] ∧ Ex G27 F28, ⟨rfl, ex_new hD⟩, fun i acc F28 ⟨_, e⟩ => SqL.of (e _ _ W27.at_), ?_, ?_⟩⟩
      · rintro i y acc F28 hy hDF ⟨rfl, e28⟩
        obtain ⟨f', hf', rfl⟩ : ∃ f', (fs8 ++ [f4])[i]? = some f' ∧ y = .ref f' := by
          rw [List.getElem?_map] at hy
          cases q : (fs8 ++ [f4])[i]? with
          | none => rw [q] at hy; cases hy
          | some c => rw [q] at hy; exact ⟨c, rfl, (Option.some.inj hy).symm⟩
        show Wp _ _ _ _
        wtm_at "r"
        refine wp_lendA (σL := sg1 s t b st) (CondA := CondW K s b A' B' bs st (some at1)) (Cond := Cond1 K s t b A' B' cs bs at1) (fun i v e => ?_) rfl ?_
        · match i, e with
          | 0, e => cases e
          | 1, e => cases e
          | 2, e => exact e
          | 3, e => exact e
          | 4, e => cases e
          | 5, e => cases e
          | 6, e => exact e
          | 7, e => exact e
          | 8, e => cases e
          | 9, e => cases e
          | 10, e => cases e
          | 11, e => cases e
          | 12, e => cases e
          | 13, e => cases e
          | 14, e => cases e
          | _ + 15, e => cases e
        · wtm_at "r"
          refine ⟨f', (at1 : Int), rfl, hpre _ _ _ (ExtL.of (ExtN.of e28)) (W27.pr f' (List.mem_of_getElem? hf')), fun H1 eH c Ce => ⟨(hW17.extN (x26_27.trans (ExtN.of (e28.trans eH)))).rmL c Ce, (hC17.extN (x26_27.trans (ExtN.of (e28.trans eH)))).rmL c Ce⟩, ?_⟩
          wtm_at "r"
          exact ⟨fun z => (by cases z), fun _ => ⟨hDF, rfl, e28⟩⟩
      · rintro acc F28 hDF ⟨rfl, e28⟩
        wtm_at "r"
        refine ⟨Nat.zero_le _, ?_⟩
        wtm_at "gz"
        intro p29 hp29 F29 q29 e29
        refine wp_neIL (xs := []) (ys := []) (SqL.of (e29 _ _ hDF)) (SqL.of q29) ?_
        wtm_at "r"
        refine bF rfl ?_
        have x17_29 : ExtN F17 F29 := x26_27.trans (ExtN.of (e28.trans e29))
        have T29 : Tabs TT F29 := Tabs.ext W27.tb (e28.trans e29)
        have hS29 : SetsAt K F29 s A' B' := ex_tN x17_29 hS17
        wtm_at "r"
        refine wp_text (most := 30) hS29 g (by decide) fun T hin hTl => ?_
        wtm_at "r"
        refine wp_off (by omega) (by omega) fun pl hpl => ?_
        wtm_at "r"
        refine wp_absent hS29 n10 (by omega) ?_
        wtm_at "gz"
        intro p30 hp30 F30 q30 e30
        have hfl := far_len (A := A') (B := B') n10 (by omega)
        have hfu : (farS A' B').length ≤ 30 := List.length_filter_le _ _
        wtm_at "r"
        rw [List.length_map, cutN_take]
        refine wp_off (by omega) (by omega) fun r30 hr30 => ?_
        obtain ⟨fx, hfx⟩ : ∃ fx, (farS A' B')[r30]? = some fx := ⟨_, List.getElem?_eq_getElem (by omega)⟩
        obtain ⟨fz, hfz⟩ : ∃ fz, (farS A' B')[0]? = some fz := ⟨_, List.getElem?_eq_getElem (by omega)⟩
        refine wp_ixL (SqL.of q30) (atI_nat (j := r30) (by rw [List.getElem?_map, hfx]; rfl)) ?_
        refine wp_addS (j := [fx]) (by rw [List.length_take]; show _ + 1 ≤ _; omega) ?_
        wtm_at "r"
        rw [cutN_drop]
        refine wp_addS (by rw [List.length_append, List.length_take, List.length_drop]; show _ + 1 + _ ≤ _; omega) ?_
        wtm_at "r"
        refine wp_ixL (SqL.of q30) (atI_nat (j := 0) (by rw [List.getElem?_map, hfz]; rfl)) ?_
        wtm_at "r"
        refine wp_off (by omega) (by omega) fun r31 hr31 => ?_
        refine wp_mulS (l := [fz]) (by omega) ?_
        obtain ⟨tl, htl, htl2⟩ : ∃ tl : List Nat, tl = (if (r31 : Int) = 1 then [fz] else []) ∧ tl.length ≤ 1 := ⟨_, rfl, by split <;> simp⟩
        rw [← htl]
        refine wp_addS (by rw [List.length_append, List.length_append, List.length_take, List.length_drop]; show _ + 1 + _ + _ ≤ _; omega) ?_
        obtain ⟨N, hN⟩ : ∃ N : List Nat, N = T.take pl ++ [fx] ++ T.drop pl ++ tl := ⟨_, rfl⟩
        rw [← hN]
        have hxm := List.mem_of_getElem? hfx
        have hNx : FirstT A' B' N (some pl) := by
          have hl1 : (T.take pl).length = pl := by rw [List.length_take]; omega
          refine ⟨⟨fx, ?_, (far_not hxm).1, (far_not hxm).2⟩, fun j c hj hcj => ?_⟩
          · rw [hN, List.append_assoc, List.append_assoc, List.getElem?_append_right (by omega), hl1, Nat.sub_self]
            rfl
          · rw [hN, List.append_assoc, List.append_assoc, List.getElem?_append_left (by omega)] at hcj
            exact hin c (List.mem_of_mem_take (List.mem_of_getElem? hcj))
        have x17_30 : ExtN F17 F30 := x17_29.trans (ExtN.of e30)
        have T30 : Tabs TT F30 := Tabs.ext T29 e30
        have hC30 : Cond2 K s A' B' N pl F30 := ⟨ex_tN x17_30 hS17, g, hNx⟩
        wtm_at "r"
        refine wp_lam T30 fun f5 c5 dv5 F31 e31 T31 hf5 hc5 hd5 => ?_
        wtm_at "r"
        refine wp_lam T31 fun f6 c6 dv6 F32 e32 T32 hf6 hc6 hd6 => ?_
        wtm_at "r"
        refine ⟨(by show 2 ≤ 100000; decide), ?_⟩
        wtm_at "gz"
        intro p33 hp33 F33 q33 e33
        have hpre2 := Rdy.extL (P := P) (w := w) (K := K) (mg := mg) (base := base) (cells := (envOfC "law" (defScope s_law) sh.heap.objs.size f (.ref cL)).cells) (σL := sg2 s st N) (CondA := Cond2 K s A' B' N pl) (Cond := Cond2 K s A' B' N pl) (Rs := RetE CN "at" (.int (pl : Nat)))
        have hR33 : ∀ f' ∈ [f5, f6], Rdy P w K mg base (envOfC "law" (defScope s_law) sh.heap.objs.size f (.ref cL)).cells (sg2 s st N) (Cond2 K s A' B' N pl) (Cond2 K s A' B' N pl) (RetE CN "at" (.int (pl : Nat))) f' F33 := fun f' hf => by
          rcases List.mem_cons.mp hf with z | hf
          · rw [z]
            exact hpre2 _ _ _ (ExtL.of (e32.trans (ExtN.of e33))) (.inr (laml_5 (CA := CA) (CN := CN) (CM := CM) (s := s) (A' := A') (B' := B') (N := N) (i := pl) (st := st) B g_least_x hc5 hf5 hd5))
          · rw [List.mem_singleton.mp hf]
            exact hpre2 _ _ _ (ExtL.of (ExtN.of e33)) (.inr (laml_6 (CA := CA) (CN := CN) (CM := CM) (s := s) (A' := A') (B' := B') (N := N) (i := pl) (st := st) B g_guarded_x hc6 hf6 hd6))
        have q33 : F33 p33 = some (.lst ([f5, f6].map V.ref)) := q33
        have x30_33 : ExtN F30 F33 := (e31.trans e32).trans (ExtN.of e33)
        have T33 : Tabs TT F33 := Tabs.ext T32 e33
        wtm_at "r"
        refine wp_lcL (fun _ => rfl) ?_
        wtm_at "r"
        refine ⟨p33, _, rfl, SqL.of q33, fun Dl hD => ⟨fun i acc F34 => acc = [] ∧ Ex F33 F34, ⟨rfl, ex_new hD⟩, fun i acc F34 ⟨_, e⟩ => SqL.of (e _ _ q33), ?_, ?_⟩⟩
        · rintro i y acc F34 hy hDF ⟨rfl, e34⟩
          obtain ⟨f', hf', rfl⟩ : ∃ f', [f5, f6][i]? = some f' ∧ y = .ref f' := by
            rw [List.getElem?_map] at hy
            cases q : [f5, f6][i]? with
            | none => rw [q] at hy; cases hy
            | some c => rw [q] at hy; exact ⟨c, rfl, (Option.some.inj hy).symm⟩
          show Wp _ _ _ _
          wtm_at "r"
          refine wp_lendA (σL := sg2 s st N) (CondA := Cond2 K s A' B' N pl) (Cond := Cond2 K s A' B' N pl) (fun i v e => ?_) rfl ?_
          · match i, e with
            | 0, e => cases e
            | 1, e => cases e
            | 2, e => exact e
            | 3, e => cases e
            | 4, e => cases e
            | 5, e => cases e
            | 6, e => cases e
            | 7, e => exact e
            | 8, e => cases e
            | 9, e => cases e
            | 10, e => cases e
            | 11, e => cases e
            | 12, e => exact e
            | 13, e => cases e
            | 14, e => cases e
            | _ + 15, e => cases e
          · wtm_at "r"
            have hCe : ∀ H1, Ex F34 H1 → ∀ c, Cels H1 c → Cond2 K s A' B' N pl (rmL H1 c) := fun H1 eH c Ce => (hC30.extN (x30_33.trans (ExtN.of (e34.trans eH)))).rmL c Ce
            refine ⟨f', (pl : Int), rfl, hpre2 _ _ _ (ExtL.of (ExtN.of e34)) (hR33 f' (List.mem_of_getElem? hf')), fun H1 eH c Ce => ⟨hCe H1 eH c Ce, hCe H1 eH c Ce⟩, ?_⟩
            wtm_at "r"
            exact ⟨fun z => (by cases z), fun _ => ⟨hDF, rfl, e34⟩⟩
        · rintro acc F34 hDF ⟨rfl, e34⟩
          wtm_at "r"
          refine ⟨Nat.zero_le _, ?_⟩
          wtm_at "gz"
          intro p35 hp35 F35 q35 e35
          refine wp_neIL (xs := []) (ys := []) (SqL.of (e35 _ _ hDF)) (SqL.of q35) ?_
          wtm_at "r"
          refine bF rfl ?_
          have x30_35 : ExtN F30 F35 := x30_33.trans (ExtN.of (e34.trans e35))
          have T35 : Tabs TT F35 := Tabs.ext T33 (e34.trans e35)
          wtm_at "r"
          refine wp_i (C := CPow) (i := 10) (j := 9) ⟨by decide, by decide, by decide⟩ ?_
          wtm_at "r"
          refine ⟨(by show 3 ≤ 100000; decide), ?_⟩
          wtm_at "gz"
          intro p36 hp36 F36 q36 e36
          wtm_at "r"
          refine wp_off (by omega) (by omega) fun r36 hr36 => ?_
          obtain ⟨most, hmi, hmost⟩ : ∃ most : Int, atI [V.int (-1), V.int 21, V.int ((10 : Int) ^ Int.toNat 9)] (r36 : Int) = some (.int most) ∧ (most < 0 ∨ 20 < most) := by
            match r36, hr36 with
            | 0, _ => exact ⟨_, atI_nat (j := 0) rfl, by decide⟩
            | 1, _ => exact ⟨_, atI_nat (j := 1) rfl, by decide⟩
            | 2, _ => exact ⟨_, atI_nat (j := 2) rfl, by decide⟩
            | n + 3, h => omega
          refine wp_ixL (SqL.of q36) hmi ?_
          have x17_36 : ExtN F17 F36 := (x17_30.trans x30_35).trans (ExtN.of e36)
          have T36 : Tabs TT F36 := Tabs.ext T35 e36
          have hS36 : SetsAt K F36 s A' B' := ex_tN x17_36 hS17
          have qt36 : F36 t = some (.lst (il cs)) := x17_36 _ _ qt17 fun ps z => by cases z
          have hW36 : CondW K s t A' B' cs st none F36 := ⟨hS36, g, SqL.of qt36, by omega, hcs, hst⟩
          have hC36 : Cond3 K s t A' B' cs st T most F36 := ⟨hS36, g, SqL.of qt36, by omega, hcs, hst, hin, hmost⟩
          wtm_at "r"
          refine wp_works hW36 (by rw [← hTT]; exact T36) fun pw2 gs F37 e37 T37 q37 hgl hgs => ?_
          rw [← hTT] at T37
          have hpre3 := Rdy.extL (P := P) (w := w) (K := K) (mg := mg) (base := base) (cells := (envOfC "law" (defScope s_law) sh.heap.objs.size f (.ref cL)).cells) (σL := sg3 s t st T most) (CondA := CondW K s t A' B' cs st none) (Cond := Cond3 K s t A' B' cs st T most) (Rs := RetU CM)
          wtm_at "r"
          refine wp_lam T37 fun f7 c7 dv7 F38 e38 T38 hf7 hc7 hd7 => ?_
          wtm_at "r"
          refine ⟨(by show 1 ≤ 100000; decide), ?_⟩
          wtm_at "gz"
          intro p39 hp39 F39 q39 e39
          have x37_39 : ExtN F37 F39 := e38.trans (ExtN.of e39)
          refine wp_addL (x37_39 _ _ q37 fun ps z => by cases z) q39 (by rw [List.length_map, hgl]; show 4 + 1 ≤ _; decide) ?_
          wtm_at "gz"
          intro p40 hp40 F40 q40 e40
          have q40 : F40 p40 = some (.lst ((gs ++ [f7]).map V.ref)) := by rw [q40, List.map_append]; rfl
          have W40 : Wk TT (Rdy P w K mg base (envOfC "law" (defScope s_law) sh.heap.objs.size f (.ref cL)).cells (sg3 s t st T most) (CondW K s t A' B' cs st none) (Cond3 K s t A' B' cs st T most) (RetU CM)) F39 p40 (gs ++ [f7]) F40 := by
            refine ⟨q40, fun f' hf => ?_, Tabs.ext T38 (e39.trans e40), ExtN.of e40⟩
            rcases List.mem_append.mp hf with hf | hf
            · exact hpre3 _ _ _ (ExtL.of (x37_39.trans (ExtN.of e40))) (.inl (hgs f' hf))
            · rw [List.mem_singleton.mp hf]
              exact hpre3 _ _ _ (ExtL.of (ExtN.of (e39.trans e40))) (.inr (laml_7 (CA := CA) (CN := CN) (CM := CM) (s := s) (t := t) (A' := A') (B' := B') (cs := cs) (st := st) (T := T) (most := most) B g_least_x hc7 hf7 hd7))
          have x36_40 : ExtN F36 F40 := (e37.trans x37_39).trans (ExtN.of e40)
          wtm_at "r"
          refine wp_bmL ?_
          wtm_at "r"
          refine ⟨p40, _, rfl, SqL.of q40, ?_⟩
          wtm_at "r"
          refine wp_lam W40.tb fun f8 c8 dv8 F41 e41 T41 hf8 hc8 hd8 => ?_
          wtm_at "r"
          refine wp_append (e41 _ _ q40 fun ps z => by cases z) (by rw [List.length_map, List.length_append, hgl]; show 4 + 1 < _; decide) ?_
          have W41 := W40.step hpre3 (fun o q => by rw [hp40] at q; cases q) e41 T41 (.inr (laml_8 (CA := CA) (CN := CN) (CM := CM) (s := s) (t := t) (A' := A') (B' := B') (cs := cs) (st := st) (T := T) (most := most) B g_guarded_x hc8 hf8 hd8))
          have x36_41 : ExtN F36 (upd F41 p40 (.lst ((gs ++ [f7]).map V.ref ++ [.ref f8]))) := extN_up (x36_40.trans e41) (new_of (e37.trans x37_39) hp40)
          revert W41 x36_41
          generalize upd F41 p40 _ = G41
          intro W41 x36_41
          wtm_at "r"
          refine wp_lam W41.tb fun f9 c9 dv9 F42 e42 T42 hf9 hc9 hd9 => ?_
          wtm_at "r"
          refine wp_lam T42 fun f10 c10 dv10 F43 e43 T43 hf10 hc10 hd10 => ?_
          wtm_at "r"
          refine ⟨(by show 2 ≤ 100000; decide), ?_⟩
          wtm_at "gz"
          intro p44 hp44 F44 q44 e44
          have x41_44 : ExtN G41 F44 := (e42.trans e43).trans (ExtN.of e44)
          refine wp_addL (x41_44 _ _ W41.at_ fun ps z => by cases z) q44 (by rw [List.length_map, List.length_append, List.length_append, hgl]; show 4 + 1 + 1 + 2 ≤ _; decide) ?_
          wtm_at "gz"
          intro p45 hp45 F45 q45 e45
          obtain ⟨gs8, hgs8⟩ : ∃ gs8, gs8 = gs ++ [f7] ++ [f8] ++ [f9, f10] := ⟨_, rfl⟩
          have hgl8 : gs8.length = 8 := by rw [hgs8, List.length_append, List.length_append, List.length_append, hgl]; rfl
          have q45 : F45 p45 = some (.lst (gs8.map V.ref)) := by rw [q45, hgs8, List.map_append (l₁ := gs ++ [f7] ++ [f8])]; rfl
          have W45 : Wk TT (Rdy P w K mg base (envOfC "law" (defScope s_law) sh.heap.objs.size f (.ref cL)).cells (sg3 s t st T most) (CondW K s t A' B' cs st none) (Cond3 K s t A' B' cs st T most) (RetU CM)) F44 p45 gs8 F45 := by
            refine ⟨q45, fun f' hf => ?_, Tabs.ext T43 (e44.trans e45), ExtN.of e45⟩
            rw [hgs8] at hf
            rcases List.mem_append.mp hf with hf | hf
            · exact hpre3 _ _ _ (ExtL.of (x41_44.trans (ExtN.of e45))) (W41.pr f' hf)
            · rcases List.mem_cons.mp hf with z | hf
              · rw [z]
                exact hpre3 _ _ _ (ExtL.of (e43.trans (ExtN.of (e44.trans e45)))) (.inr (laml_9 (CA := CA) (CN := CN) (CM := CM) (s := s) (t := t) (A' := A') (B' := B') (cs := cs) (st := st) (T := T) (most := most) B g_guarded_x hc9 hf9 hd9))
              · rw [List.mem_singleton.mp hf]
                exact hpre3 _ _ _ (ExtL.of (ExtN.of (e44.trans e45))) (.inr (laml_10 (CA := CA) (CN := CN) (CM := CM) (s := s) (t := t) (A' := A') (B' := B') (cs := cs) (st := st) (T := T) (most := most) B g_cut_x hc10 hf10 hd10))
          have x36_44 : ExtN F36 F44 := x36_41.trans x41_44
          wtm_at "r"
          refine wp_bmL ?_
          wtm_at "r"
          refine ⟨p45, _, rfl, SqL.of q45, ?_⟩
          wtm_at "r"
          refine wp_lam W45.tb fun f11 c11 dv11 F46 e46 T46 hf11 hc11 hd11 => ?_
          wtm_at "r"
          refine wp_append (e46 _ _ q45 fun ps z => by cases z) (by rw [List.length_map, hgl8]; decide) ?_
          have W46 := W45.step hpre3 (fun o q => by rw [hp45] at q; cases q) e46 T46 (.inr (laml_11 (CA := CA) (CN := CN) (CM := CM) (s := s) (t := t) (A' := A') (B' := B') (cs := cs) (st := st) (T := T) (most := most) B g_cut_x hc11 hf11 hd11))
          have x36_46 : ExtN F36 (upd F46 p45 (.lst (gs8.map V.ref ++ [.ref f11]))) := extN_up ((x36_44.trans (ExtN.of e45)).trans e46) (new_of x36_44 hp45)
          revert W46 x36_46
          generalize upd F46 p45 _ = G46
          intro W46 x36_46
          wtm_at "r"
          refine wp_lcL (fun _ => rfl) ?_
          wtm_at "r"
          refine ⟨p45, _, rfl, SqL.of W46.at_, fun Dl hD => ⟨fun i acc F47 => acc = [] ∧ Ex G46 F47, ⟨rfl, ex_new hD⟩, fun i acc F47 ⟨_, e⟩ => SqL.of (e _ _ W46.at_), ?_, ?_⟩⟩
          · rintro i y acc F47 hy hDF ⟨rfl, e47⟩
            obtain ⟨f', hf', rfl⟩ : ∃ f', (gs8 ++ [f11])[i]? = some f' ∧ y = .ref f' := by
              rw [List.getElem?_map] at hy
              cases q : (gs8 ++ [f11])[i]? with
              | none => rw [q] at hy; cases hy
              | some c => rw [q] at hy; exact ⟨c, rfl, (Option.some.inj hy).symm⟩
            show Wp _ _ _ _
            wtm_at "r"
            refine wp_lendU (σL := sg3 s t st T most) (CondA := CondW K s t A' B' cs st none) (Cond := Cond3 K s t A' B' cs st T most) (fun i v e => ?_) rfl ?_
            · match i, e with
              | 0, e => cases e
              | 1, e => cases e
              | 2, e => exact e
              | 3, e => exact e
              | 4, e => cases e
              | 5, e => cases e
              | 6, e => cases e
              | 7, e => exact e
              | 8, e => cases e
              | 9, e => exact e
              | 10, e => cases e
              | 11, e => cases e
              | 12, e => cases e
              | 13, e => exact e
              | 14, e => cases e
              | _ + 15, e => cases e
            · wtm_at "r"
              refine ⟨f', 0, rfl, hpre3 _ _ _ (ExtL.of (ExtN.of e47)) (W46.pr f' (List.mem_of_getElem? hf')), fun H1 eH c Ce => ⟨(hW36.extN (x36_46.trans (ExtN.of (e47.trans eH)))).rmL c Ce, (hC36.extN (x36_46.trans (ExtN.of (e47.trans eH)))).rmL c Ce⟩, ?_⟩
              wtm_at "r"
              exact ⟨fun z => (by cases z), fun _ => ⟨hDF, rfl, e47⟩⟩
          · rintro acc F47 hDF ⟨rfl, e47⟩
            wtm_at "r"
            refine ⟨Nat.zero_le _, ?_⟩
            wtm_at "gz"
            intro p48 hp48 F48 q48 e48
            refine wp_neIL (xs := []) (ys := []) (SqL.of (e48 _ _ hDF)) (SqL.of q48) ?_
            wtm_at "r"
            refine bF rfl ?_
            have x36_48 : ExtN F36 F48 := x36_46.trans (ExtN.of (e47.trans e48))
            have hS48 : SetsAt K F48 s A' B' := ex_tN x36_48 hS36
            have qt48 : F48 t = some (.lst (il cs)) := x36_48 _ _ qt36 fun ps z => by cases z
            wtm_at "r"
            refine wp_least hS48 g hin (by omega) (.inl rfl) ?_
            wtm_at "gz"
            intro p49 hp49 F49 q49 e49
            wtm_at "r"
            refine wp_isi (.lst (SqL.of q49)) (b := true) (by decide +kernel) ?_
            wtm_at "r"
            refine bT rfl ?_
            wtm_at "r"
            refine wp_trimmed (ex_t e49 hS48) (SqL.of (e49 _ _ qt48)) g hc (by omega) (.inr rfl) ?_
            wtm_at "gz"
            intro p50 hp50 F50 q50 e50
            wtm_at "r"
            refine wp_isi (.lst (SqL.of q50)) (b := true) (by decide +kernel) ?_
            wtm_at "r"
            intro H1 w1
            exact k H1
end
theorem all_mk {l : PySem.W.OpenLaw} {w : World} {K : PySem.W.Frag} {h : Heap} {mg : Str → Option Value} {fa f0 f1 f2 f3 f4 f5 f6 f7 f8 f9 f10 f11 f12 f13 f14 f15 f16 f17 f18 f19 f20 f21 f22 f23 f24 f25 f26 f27 f28 f29 f30 CW f31 f32 f33 f34 f35 CT C_BadTape N_BadTape fxBadTape C_NoSign N_NoSign fxNoSign C_BadSets C_BadNumber C_BadText fW : Addr} (X : K.In h) (G : h.Ns mainGlobals mg) (hfa : mg "law" = some (.ref fa)) (hfW : mg "_law_works" = some (.ref fW))
    {od0 an0 od1 an1 od2 an2 od3 an3 od4 an4 od5 an5 od6 an6 od7 an7 od8 an8 od9 an9 od10 an10 od11 an11 od12 an12 od13 an13 od14 an14 od15 an15 od16 an16 od17 an17 od18 an18 od19 an19 od20 an20 od21 an21 od22 an22 od23 an23 od24 an24 od25 an25 od26 an26 od27 an27 od28 an28 od29 an29 od30 an30 od31 an31 od32 an32 od33 an33 od34 an34 od35 an35 odxBadTape anxBadTape odxNoSign anxNoSign : Option Addr} {sl0 sl1 sl2 sl3 sl4 sl5 sl6 sl7 sl8 sl9 sl10 sl11 sl12 sl13 sl14 sl15 sl16 sl17 sl18 sl19 sl20 sl21 sl22 sl23 sl24 sl25 sl26 sl27 sl28 sl29 sl30 sl31 sl32 sl33 sl34 sl35 slxBadTape slxNoSign : Array (Option Value)} {oc0 kV0 dc0 pm0 cd0 ct0 oc1 kV1 dc1 pm1 cd1 ct1 oc2 kV2 dc2 pm2 cd2 ct2 oc3 kV3 dc3 pm3 cd3 ct3 oc4 kV4 dc4 pm4 cd4 ct4 oc5 kV5 dc5 pm5 cd5 ct5 oc6 kV6 dc6 pm6 cd6 ct6 oc7 kV7 dc7 pm7 cd7 ct7 oc8 kV8 dc8 pm8 cd8 ct8 oc9 kV9 dc9 pm9 cd9 ct9 oc10 kV10 dc10 pm10 cd10 ct10 oc11 kV11 dc11 pm11 cd11 ct11 oc12 kV12 dc12 pm12 cd12 ct12 oc13 kV13 dc13 pm13 cd13 ct13 oc14 kV14 dc14 pm14 cd14 ct14 oc15 kV15 dc15 pm15 cd15 ct15 oc16 kV16 dc16 pm16 cd16 ct16 oc17 kV17 dc17 pm17 cd17 ct17 oc18 kV18 dc18 pm18 cd18 ct18 oc19 kV19 dc19 pm19 cd19 ct19 oc20 kV20 dc20 pm20 cd20 ct20 oc21 kV21 dc21 pm21 cd21 ct21 oc22 kV22 dc22 pm22 cd22 ct22 oc23 kV23 dc23 pm23 cd23 ct23 oc24 kV24 dc24 pm24 cd24 ct24 oc25 kV25 dc25 pm25 cd25 ct25 oc26 kV26 dc26 pm26 cd26 ct26 oc27 kV27 dc27 pm27 cd27 ct27 oc28 kV28 dc28 pm28 cd28 ct28 oc29 kV29 dc29 pm29 cd29 ct29 oc30 kV30 dc30 pm30 cd30 ct30 oc31 kV31 dc31 pm31 cd31 ct31 oc32 kV32 dc32 pm32 cd32 ct32 oc33 kV33 dc33 pm33 cd33 ct33 oc34 kV34 dc34 pm34 cd34 ct34 oc35 kV35 dc35 pm35 cd35 ct35 ocxBadTape kVxBadTape dcxBadTape pmxBadTape cdxBadTape ctxBadTape ocxNoSign kVxNoSign dcxNoSign pmxNoSign cdxNoSign ctxNoSign : Value} {t_MOST_SIGNS t_MOST_CODES t_MOST_SPOILT : Tok} {nm_BadTape q_BadTape : Str} {bs_BadTape : List Value} {sn_BadTape : List Str} {sub_BadTape : List Value} {ab_BadTape : Bool} {col_BadTape : Option Bool} {dd_BadTape : Option Addr} {m0_BadTape m1_BadTape m2_BadTape m3_BadTape m5_BadTape : Option Value} {nm_NoSign q_NoSign : Str} {bs_NoSign : List Value} {sn_NoSign : List Str} {sub_NoSign : List Value} {ab_NoSign : Bool} {col_NoSign : Option Bool} {dd_NoSign : Option Addr} {m0_NoSign m1_NoSign m2_NoSign m3_NoSign m5_NoSign : Option Value}
    (a0 : PySem.W.nsIn K mainGlobals "need_sets" = some (some (.ref f0))) (l0 : K.lookup f0 = some ⟨oc0, od0, .func (PySem.W.fnOf "need_sets" "need_sets" (defArgs s_need_sets) (defBody s_need_sets) (defScope s_need_sets) .none kV0 dc0 pm0 an0 cd0 ct0), sl0⟩) (c0 : PySem.W.codeIn K cd0 "need_sets" = true) (k0 : PySem.W.keepIn K (.ref f0) = true)
    (a1 : PySem.W.nsIn K mainGlobals "need_tape" = some (some (.ref f1))) (l1 : K.lookup f1 = some ⟨oc1, od1, .func (PySem.W.fnOf "need_tape" "need_tape" (defArgs s_need_tape) (defBody s_need_tape) (defScope s_need_tape) .none kV1 dc1 pm1 an1 cd1 ct1), sl1⟩) (c1 : PySem.W.codeIn K cd1 "need_tape" = true) (k1 : PySem.W.keepIn K (.ref f1) = true)
    (a2 : PySem.W.nsIn K mainGlobals "need_state" = some (some (.ref f2))) (l2 : K.lookup f2 = some ⟨oc2, od2, .func (PySem.W.fnOf "need_state" "need_state" (defArgs s_need_state) (defBody s_need_state) (defScope s_need_state) .none kV2 dc2 pm2 an2 cd2 ct2), sl2⟩) (c2 : PySem.W.codeIn K cd2 "need_state" = true) (k2 : PySem.W.keepIn K (.ref f2) = true)
    (a3 : PySem.W.nsIn K mainGlobals "need_all" = some (some (.ref f3))) (l3 : K.lookup f3 = some ⟨oc3, od3, .func (PySem.W.fnOf "need_all" "need_all" (defArgs s_need_all) (defBody s_need_all) (defScope s_need_all) .none kV3 dc3 pm3 an3 cd3 ct3), sl3⟩) (c3 : PySem.W.codeIn K cd3 "need_all" = true) (k3 : PySem.W.keepIn K (.ref f3) = true)
    (a4 : PySem.W.nsIn K mainGlobals "is_common" = some (some (.ref f4))) (l4 : K.lookup f4 = some ⟨oc4, od4, .func (PySem.W.fnOf "is_common" "is_common" (defArgs s_is_common) (defBody s_is_common) (defScope s_is_common) .none kV4 dc4 pm4 an4 cd4 ct4), sl4⟩) (c4 : PySem.W.codeIn K cd4 "is_common" = true) (k4 : PySem.W.keepIn K (.ref f4) = true)
    (a5 : PySem.W.nsIn K mainGlobals "gone" = some (some (.ref f5))) (l5 : K.lookup f5 = some ⟨oc5, od5, .func (PySem.W.fnOf "gone" "gone" (defArgs s_gone) (defBody s_gone) (defScope s_gone) .none kV5 dc5 pm5 an5 cd5 ct5), sl5⟩) (c5 : PySem.W.codeIn K cd5 "gone" = true) (k5 : PySem.W.keepIn K (.ref f5) = true)
    (a6 : PySem.W.nsIn K mainGlobals "read" = some (some (.ref f6))) (l6 : K.lookup f6 = some ⟨oc6, od6, .func (PySem.W.fnOf "read" "read" (defArgs s_read) (defBody s_read) (defScope s_read) .none kV6 dc6 pm6 an6 cd6 ct6), sl6⟩) (c6 : PySem.W.codeIn K cd6 "read" = true) (k6 : PySem.W.keepIn K (.ref f6) = true)
    (a7 : PySem.W.nsIn K mainGlobals "codes_of" = some (some (.ref f7))) (l7 : K.lookup f7 = some ⟨oc7, od7, .func (PySem.W.fnOf "codes_of" "codes_of" (defArgs s_codes_of) (defBody s_codes_of) (defScope s_codes_of) .none kV7 dc7 pm7 an7 cd7 ct7), sl7⟩) (c7 : PySem.W.codeIn K cd7 "codes_of" = true) (k7 : PySem.W.keepIn K (.ref f7) = true)
    (a8 : PySem.W.nsIn K mainGlobals "need_text" = some (some (.ref f8))) (l8 : K.lookup f8 = some ⟨oc8, od8, .func (PySem.W.fnOf "need_text" "need_text" (defArgs s_need_text) (defBody s_need_text) (defScope s_need_text) .none kV8 dc8 pm8 an8 cd8 ct8), sl8⟩) (c8 : PySem.W.codeIn K cd8 "need_text" = true) (k8 : PySem.W.keepIn K (.ref f8) = true)
    (a9 : PySem.W.nsIn K mainGlobals "losses" = some (some (.ref f9))) (l9 : K.lookup f9 = some ⟨oc9, od9, .func (PySem.W.fnOf "losses" "losses" (defArgs s_losses) (defBody s_losses) (defScope s_losses) .none kV9 dc9 pm9 an9 cd9 ct9), sl9⟩) (c9 : PySem.W.codeIn K cd9 "losses" = true) (k9 : PySem.W.keepIn K (.ref f9) = true)
    (a10 : PySem.W.nsIn K mainGlobals "worst" = some (some (.ref f10))) (l10 : K.lookup f10 = some ⟨oc10, od10, .func (PySem.W.fnOf "worst" "worst" (defArgs s_worst) (defBody s_worst) (defScope s_worst) .none kV10 dc10 pm10 an10 cd10 ct10), sl10⟩) (c10 : PySem.W.codeIn K cd10 "worst" = true) (k10 : PySem.W.keepIn K (.ref f10) = true)
    (a11 : PySem.W.nsIn K mainGlobals "by_state" = some (some (.ref f11))) (l11 : K.lookup f11 = some ⟨oc11, od11, .func (PySem.W.fnOf "by_state" "by_state" (defArgs s_by_state) (defBody s_by_state) (defScope s_by_state) .none kV11 dc11 pm11 an11 cd11 ct11), sl11⟩) (c11 : PySem.W.codeIn K cd11 "by_state" = true) (k11 : PySem.W.keepIn K (.ref f11) = true)
    (a12 : PySem.W.nsIn K mainGlobals "written" = some (some (.ref f12))) (l12 : K.lookup f12 = some ⟨oc12, od12, .func (PySem.W.fnOf "written" "written" (defArgs s_written) (defBody s_written) (defScope s_written) .none kV12 dc12 pm12 an12 cd12 ct12), sl12⟩) (c12 : PySem.W.codeIn K cd12 "written" = true) (k12 : PySem.W.keepIn K (.ref f12) = true)
    (a13 : PySem.W.nsIn K mainGlobals "shorter" = some (some (.ref f13))) (l13 : K.lookup f13 = some ⟨oc13, od13, .func (PySem.W.fnOf "shorter" "shorter" (defArgs s_shorter) (defBody s_shorter) (defScope s_shorter) .none kV13 dc13 pm13 an13 cd13 ct13), sl13⟩) (c13 : PySem.W.codeIn K cd13 "shorter" = true) (k13 : PySem.W.keepIn K (.ref f13) = true)
    (a14 : PySem.W.nsIn K mainGlobals "least" = some (some (.ref f14))) (l14 : K.lookup f14 = some ⟨oc14, od14, .func (PySem.W.fnOf "least" "least" (defArgs s_least) (defBody s_least) (defScope s_least) .none kV14 dc14 pm14 an14 cd14 ct14), sl14⟩) (c14 : PySem.W.codeIn K cd14 "least" = true) (k14 : PySem.W.keepIn K (.ref f14) = true)
    (a15 : PySem.W.nsIn K mainGlobals "guarded_of" = some (some (.ref f15))) (l15 : K.lookup f15 = some ⟨oc15, od15, .func (PySem.W.fnOf "guarded_of" "guarded_of" (defArgs s_guarded_of) (defBody s_guarded_of) (defScope s_guarded_of) .none kV15 dc15 pm15 an15 cd15 ct15), sl15⟩) (c15 : PySem.W.codeIn K cd15 "guarded_of" = true) (k15 : PySem.W.keepIn K (.ref f15) = true)
    (a16 : PySem.W.nsIn K mainGlobals "guarded" = some (some (.ref f16))) (l16 : K.lookup f16 = some ⟨oc16, od16, .func (PySem.W.fnOf "guarded" "guarded" (defArgs s_guarded) (defBody s_guarded) (defScope s_guarded) .none kV16 dc16 pm16 an16 cd16 ct16), sl16⟩) (c16 : PySem.W.codeIn K cd16 "guarded" = true) (k16 : PySem.W.keepIn K (.ref f16) = true)
    (a17 : PySem.W.nsIn K mainGlobals "trimmed" = some (some (.ref f17))) (l17 : K.lookup f17 = some ⟨oc17, od17, .func (PySem.W.fnOf "trimmed" "trimmed" (defArgs s_trimmed) (defBody s_trimmed) (defScope s_trimmed) .none kV17 dc17 pm17 an17 cd17 ct17), sl17⟩) (c17 : PySem.W.codeIn K cd17 "trimmed" = true) (k17 : PySem.W.keepIn K (.ref f17) = true)
    (a18 : PySem.W.nsIn K mainGlobals "joined" = some (some (.ref f18))) (l18 : K.lookup f18 = some ⟨oc18, od18, .func (PySem.W.fnOf "joined" "joined" (defArgs s_joined) (defBody s_joined) (defScope s_joined) .none kV18 dc18 pm18 an18 cd18 ct18), sl18⟩) (c18 : PySem.W.codeIn K cd18 "joined" = true) (k18 : PySem.W.keepIn K (.ref f18) = true)
    (a19 : PySem.W.nsIn K mainGlobals "cut" = some (some (.ref f19))) (l19 : K.lookup f19 = some ⟨oc19, od19, .func (PySem.W.fnOf "cut" "cut" (defArgs s_cut) (defBody s_cut) (defScope s_cut) .none kV19 dc19 pm19 an19 cd19 ct19), sl19⟩) (c19 : PySem.W.codeIn K cd19 "cut" = true) (k19 : PySem.W.keepIn K (.ref f19) = true)
    (a20 : PySem.W.nsIn K mainGlobals "_law_dice" = some (some (.ref f20))) (l20 : K.lookup f20 = some ⟨oc20, od20, .func (PySem.W.fnOf "_law_dice" "_law_dice" (defArgs s_q_dice) (defBody s_q_dice) (defScope s_q_dice) .none kV20 dc20 pm20 an20 cd20 ct20), sl20⟩) (c20 : PySem.W.codeIn K cd20 "_law_dice" = true) (k20 : PySem.W.keepIn K (.ref f20) = true)
    (a21 : PySem.W.nsIn K mainGlobals "_law_off" = some (some (.ref f21))) (l21 : K.lookup f21 = some ⟨oc21, od21, .func (PySem.W.fnOf "_law_off" "_law_off" (defArgs s_q_off) (defBody s_q_off) (defScope s_q_off) .none kV21 dc21 pm21 an21 cd21 ct21), sl21⟩) (c21 : PySem.W.codeIn K cd21 "_law_off" = true) (k21 : PySem.W.keepIn K (.ref f21) = true)
    (a22 : PySem.W.nsIn K mainGlobals "_law_alike" = some (some (.ref f22))) (l22 : K.lookup f22 = some ⟨oc22, od22, .func (PySem.W.fnOf "_law_alike" "_law_alike" (defArgs s_q_alike) (defBody s_q_alike) (defScope s_q_alike) .none kV22 dc22 pm22 an22 cd22 ct22), sl22⟩) (c22 : PySem.W.codeIn K cd22 "_law_alike" = true) (k22 : PySem.W.keepIn K (.ref f22) = true)
    (a23 : PySem.W.nsIn K mainGlobals "_law_mixed" = some (some (.ref f23))) (l23 : K.lookup f23 = some ⟨oc23, od23, .func (PySem.W.fnOf "_law_mixed" "_law_mixed" (defArgs s_q_mixed) (defBody s_q_mixed) (defScope s_q_mixed) .none kV23 dc23 pm23 an23 cd23 ct23), sl23⟩) (c23 : PySem.W.codeIn K cd23 "_law_mixed" = true) (k23 : PySem.W.keepIn K (.ref f23) = true)
    (a24 : PySem.W.nsIn K mainGlobals "_law_refused" = some (some (.ref f24))) (l24 : K.lookup f24 = some ⟨oc24, od24, .func (PySem.W.fnOf "_law_refused" "_law_refused" (defArgs s_q_refused) (defBody s_q_refused) (defScope s_q_refused) .none kV24 dc24 pm24 an24 cd24 ct24), sl24⟩) (c24 : PySem.W.codeIn K cd24 "_law_refused" = true) (k24 : PySem.W.keepIn K (.ref f24) = true)
    (a25 : PySem.W.nsIn K mainGlobals "_law_sets" = some (some (.ref f25))) (l25 : K.lookup f25 = some ⟨oc25, od25, .func (PySem.W.fnOf "_law_sets" "_law_sets" (defArgs s_q_sets) (defBody s_q_sets) (defScope s_q_sets) .none kV25 dc25 pm25 an25 cd25 ct25), sl25⟩) (c25 : PySem.W.codeIn K cd25 "_law_sets" = true) (k25 : PySem.W.keepIn K (.ref f25) = true)
    (a26 : PySem.W.nsIn K mainGlobals "_law_text" = some (some (.ref f26))) (l26 : K.lookup f26 = some ⟨oc26, od26, .func (PySem.W.fnOf "_law_text" "_law_text" (defArgs s_q_text) (defBody s_q_text) (defScope s_q_text) .none kV26 dc26 pm26 an26 cd26 ct26), sl26⟩) (c26 : PySem.W.codeIn K cd26 "_law_text" = true) (k26 : PySem.W.keepIn K (.ref f26) = true)
    (a27 : PySem.W.nsIn K mainGlobals "_law_tape" = some (some (.ref f27))) (l27 : K.lookup f27 = some ⟨oc27, od27, .func (PySem.W.fnOf "_law_tape" "_law_tape" (defArgs s_q_tape) (defBody s_q_tape) (defScope s_q_tape) .none kV27 dc27 pm27 an27 cd27 ct27), sl27⟩) (c27 : PySem.W.codeIn K cd27 "_law_tape" = true) (k27 : PySem.W.keepIn K (.ref f27) = true)
    (a28 : PySem.W.nsIn K mainGlobals "_law_absent" = some (some (.ref f28))) (l28 : K.lookup f28 = some ⟨oc28, od28, .func (PySem.W.fnOf "_law_absent" "_law_absent" (defArgs s_q_absent) (defBody s_q_absent) (defScope s_q_absent) .none kV28 dc28 pm28 an28 cd28 ct28), sl28⟩) (c28 : PySem.W.codeIn K cd28 "_law_absent" = true) (k28 : PySem.W.keepIn K (.ref f28) = true)
    (a29 : PySem.W.nsIn K mainGlobals "_law_works" = some (some (.ref f29))) (l29 : K.lookup f29 = some ⟨oc29, od29, .func (PySem.W.fnOf "_law_works" "_law_works" (defArgs s_q_works) (defBody s_q_works) (defScope s_q_works) .none kV29 dc29 pm29 an29 cd29 ct29), sl29⟩) (c29 : PySem.W.codeIn K cd29 "_law_works" = true) (k29 : PySem.W.keepIn K (.ref f29) = true)
    (a30 : PySem.W.nsIn K mainGlobals "law" = some (some (.ref f30))) (l30 : K.lookup f30 = some ⟨oc30, od30, .func (PySem.W.fnOf "law" "law" (defArgs s_law) (defBody s_law) (defScope s_law) .none kV30 dc30 pm30 an30 cd30 ct30), sl30⟩) (c30 : PySem.W.codeIn K cd30 "law" = true) (k30 : PySem.W.keepIn K (.ref f30) = true)
    (v_MOST_SIGNS : PySem.W.nsIn K mainGlobals "MOST_SIGNS" = some (some (.int 10 t_MOST_SIGNS)))
    (v_MOST_CODES : PySem.W.nsIn K mainGlobals "MOST_CODES" = some (some (.int 200 t_MOST_CODES)))
    (v_MOST_SPOILT : PySem.W.nsIn K mainGlobals "MOST_SPOILT" = some (some (.int 20 t_MOST_SPOILT)))
    (z_len : PySem.W.nsIn K mainGlobals "len" = some none)
    (z_list : PySem.W.nsIn K mainGlobals "list" = some none)
    (z_range : PySem.W.nsIn K mainGlobals "range" = some none)
    (z_abs : PySem.W.nsIn K mainGlobals "abs" = some none)
    (z_int_ : PySem.W.nsIn K mainGlobals "int" = some none)
    (z_bool_ : PySem.W.nsIn K mainGlobals "bool" = some none)
    (z_str_ : PySem.W.nsIn K mainGlobals "str" = some none)
    (z_isinstance : PySem.W.nsIn K mainGlobals "isinstance" = some none)
    (z_all : PySem.W.nsIn K mainGlobals "all" = some none)
    (z_enumerate : PySem.W.nsIn K mainGlobals "enumerate" = some none)
    (z_max : PySem.W.nsIn K mainGlobals "max" = some none)
    (z_min : PySem.W.nsIn K mainGlobals "min" = some none)
    (z_set : PySem.W.nsIn K mainGlobals "set" = some none)
    (z_sorted : PySem.W.nsIn K mainGlobals "sorted" = some none)
    (z_tuple : PySem.W.nsIn K mainGlobals "tuple" = some none)
    (aC : PySem.W.nsIn K mainGlobals "Writer" = some (some (.ref CW)))
    (a31 : PySem.W.findIn K (.ref CW) "__init__" = some (some (.ref f31))) (i31 : PySem.W.isFn K (.ref f31) = true) (l31 : K.lookup f31 = some ⟨oc31, od31, .func (PySem.W.fnOf "__init__" "Writer.__init__" (defArgs s_Writer_init) (defBody s_Writer_init) (defScope s_Writer_init) .none kV31 dc31 pm31 an31 cd31 ct31), sl31⟩) (c31 : PySem.W.codeIn K cd31 "Writer.__init__" = true) (k31 : PySem.W.keepIn K (.ref f31) = true)
    (a32 : PySem.W.findIn K (.ref CW) "rest" = some (some (.ref f32))) (i32 : PySem.W.isFn K (.ref f32) = true) (l32 : K.lookup f32 = some ⟨oc32, od32, .func (PySem.W.fnOf "rest" "Writer.rest" (defArgs s_Writer_rest) (defBody s_Writer_rest) (defScope s_Writer_rest) .none kV32 dc32 pm32 an32 cd32 ct32), sl32⟩) (c32 : PySem.W.codeIn K cd32 "Writer.rest" = true) (k32 : PySem.W.keepIn K (.ref f32) = true)
    (a33 : PySem.W.findIn K (.ref CW) "found" = some (some (.ref f33))) (i33 : PySem.W.isFn K (.ref f33) = true) (l33 : K.lookup f33 = some ⟨oc33, od33, .func (PySem.W.fnOf "found" "Writer.found" (defArgs s_Writer_found) (defBody s_Writer_found) (defScope s_Writer_found) .none kV33 dc33 pm33 an33 cd33 ct33), sl33⟩) (c33 : PySem.W.codeIn K cd33 "Writer.found" = true) (k33 : PySem.W.keepIn K (.ref f33) = true)
    (a34 : PySem.W.findIn K (.ref CW) "ahead" = some (some (.ref f34))) (i34 : PySem.W.isFn K (.ref f34) = true) (l34 : K.lookup f34 = some ⟨oc34, od34, .func (PySem.W.fnOf "ahead" "Writer.ahead" (defArgs s_Writer_ahead) (defBody s_Writer_ahead) (defScope s_Writer_ahead) .none kV34 dc34 pm34 an34 cd34 ct34), sl34⟩) (c34 : PySem.W.codeIn K cd34 "Writer.ahead" = true) (k34 : PySem.W.keepIn K (.ref f34) = true)
    (a35 : PySem.W.findIn K (.ref CW) "signed" = some (some (.ref f35))) (i35 : PySem.W.isFn K (.ref f35) = true) (l35 : K.lookup f35 = some ⟨oc35, od35, .func (PySem.W.fnOf "signed" "Writer.signed" (defArgs s_Writer_signed) (defBody s_Writer_signed) (defScope s_Writer_signed) .none kV35 dc35 pm35 an35 cd35 ct35), sl35⟩) (c35 : PySem.W.codeIn K cd35 "Writer.signed" = true) (k35 : PySem.W.keepIn K (.ref f35) = true)
    (pg : PySem.W.plainGet K CW Str.empty = true) (hd : PySem.W.hasDictIn K CW = true) (po : PySem.W.plainOver K CW = true) (sa : PySem.W.findIn K (.ref CW) "__setattr__" = some (some (.builtin "object.__setattr__"))) (mk : PySem.W.makesIn K CW = true) (kc : PySem.W.keepIn K (.ref CW) = true)
    (nf1 : PySem.W.findIn K (.ref CW) "sets" = some none) (nf2 : PySem.W.findIn K (.ref CW) "text" = some none) (nf3 : PySem.W.findIn K (.ref CW) "most" = some none) (nf4 : PySem.W.findIn K (.ref CW) "known" = some none)
    (aT : PySem.W.nsIn K mainGlobals "TapeError" = some (some (.ref CT)))
    (spT : PySem.W.specialIn K (.ref CT) "__getattribute__" = some (some (.builtin "type.__getattribute__"))) (rdT : PySem.W.readsIn K CT (.type "type") = true) (fcT : PySem.W.findCls K (.ref CT) (.type "type") "__init__" = some (.val (.builtin "ValueError.__init__")))
    (axBadTape : PySem.W.nsIn K mainGlobals "BadTape" = some (some (.ref C_BadTape)))
    (yxBadTape : K.lookup C_BadTape = some (excClassObj nm_BadTape q_BadTape C_BadTape N_BadTape bs_BadTape [.ref CT, .type "ValueError", .type "Exception", .type "BaseException", .type "object"] true sn_BadTape sub_BadTape ab_BadTape col_BadTape dd_BadTape m0_BadTape m1_BadTape m2_BadTape m3_BadTape m5_BadTape "ValueError.__new__"))
    (saxBadTape : PySem.W.findIn K (.ref C_BadTape) "__setattr__" = some (some (.builtin "object.__setattr__"))) (eCxBadTape : PySem.W.subIn K (.ref C_BadTape) (.type "BaseException") = some true) (tCxBadTape : PySem.W.typeIn K (.ref C_BadTape) = some (.type "type")) (kCxBadTape : PySem.W.keepIn K (.ref C_BadTape) = true)
    (ixBadTape : PySem.W.findIn K (.ref C_BadTape) "__init__" = some (some (.ref fxBadTape))) (txBadTape : PySem.W.typeIn K (.ref fxBadTape) = some (.type "function")) (noxBadTape : PySem.W.findIn K (.ref C_BadTape) "at" = some none)
    (lxBadTape : K.lookup fxBadTape = some ⟨ocxBadTape, odxBadTape, .func (PySem.W.fnOf "__init__" "BadTape.__init__" (defArgs s_BadTape_init) (defBody s_BadTape_init) (defScope s_BadTape_init) .none kVxBadTape dcxBadTape pmxBadTape anxBadTape cdxBadTape ctxBadTape), slxBadTape⟩) (cxBadTape : PySem.W.codeIn K cdxBadTape "BadTape.__init__" = true) (kxBadTape : PySem.W.keepIn K (.ref fxBadTape) = true)
    (axNoSign : PySem.W.nsIn K mainGlobals "NoSign" = some (some (.ref C_NoSign)))
    (yxNoSign : K.lookup C_NoSign = some (excClassObj nm_NoSign q_NoSign C_NoSign N_NoSign bs_NoSign [.ref CT, .type "ValueError", .type "Exception", .type "BaseException", .type "object"] true sn_NoSign sub_NoSign ab_NoSign col_NoSign dd_NoSign m0_NoSign m1_NoSign m2_NoSign m3_NoSign m5_NoSign "ValueError.__new__"))
    (saxNoSign : PySem.W.findIn K (.ref C_NoSign) "__setattr__" = some (some (.builtin "object.__setattr__"))) (eCxNoSign : PySem.W.subIn K (.ref C_NoSign) (.type "BaseException") = some true) (tCxNoSign : PySem.W.typeIn K (.ref C_NoSign) = some (.type "type")) (kCxNoSign : PySem.W.keepIn K (.ref C_NoSign) = true)
    (ixNoSign : PySem.W.findIn K (.ref C_NoSign) "__init__" = some (some (.ref fxNoSign))) (txNoSign : PySem.W.typeIn K (.ref fxNoSign) = some (.type "function")) (noxNoSign : PySem.W.findIn K (.ref C_NoSign) "at" = some none)
    (lxNoSign : K.lookup fxNoSign = some ⟨ocxNoSign, odxNoSign, .func (PySem.W.fnOf "__init__" "NoSign.__init__" (defArgs s_NoSign_init) (defBody s_NoSign_init) (defScope s_NoSign_init) .none kVxNoSign dcxNoSign pmxNoSign anxNoSign cdxNoSign ctxNoSign), slxNoSign⟩) (cxNoSign : PySem.W.codeIn K cdxNoSign "NoSign.__init__" = true) (kxNoSign : PySem.W.keepIn K (.ref fxNoSign) = true)
    (nVE : PySem.W.nsIn K mainGlobals "ValueError" = some none) (sBT : PySem.W.subIn K (.ref CT) (.type "BaseException") = some true) (hdT : PySem.W.hasDictIn K CT = true) (tyT : PySem.W.typeIn K (.ref CT) = some (.type "type"))
    (oG : PySem.W.specialIn K (.builtin "object.__class__") "__get__" = some (some (.builtin "getset_descriptor.__get__"))) (oT : PySem.W.takesIn K (.builtin "object.__class__") = some true)
    (axBadSets : PySem.W.nsIn K mainGlobals "BadSets" = some (some (.ref C_BadSets)))
    (axBadNumber : PySem.W.nsIn K mainGlobals "BadNumber" = some (some (.ref C_BadNumber)))
    (axBadText : PySem.W.nsIn K mainGlobals "BadText" = some (some (.ref C_BadText)))
    (sTBadTape : PySem.W.subIn K (.ref C_BadTape) (.ref CT) = some true) (gaBadTape : PySem.W.findIn K (.ref C_BadTape) "__getattribute__" = some (some (.builtin "BaseException.__getattribute__"))) (ggBadTape : PySem.W.findIn K (.ref C_BadTape) "__getattr__" = some none) (hdBadTape : PySem.W.hasDictIn K C_BadTape = true) (clBadTape : PySem.W.findIn K (.ref C_BadTape) "__class__" = some (some (.builtin "object.__class__"))) (mrBadTape : PySem.W.mroIn K C_BadTape (.type "object") = some true)
    (kX0BadTape : PySem.W.kitOne K (.ref C_BadTape) (.ref C_BadSets) = some false)
    (kX1BadTape : PySem.W.kitOne K (.ref C_BadTape) (.ref C_BadTape) = some true)
    (kX2BadTape : PySem.W.kitOne K (.ref C_BadTape) (.ref C_NoSign) = some false)
    (kX3BadTape : PySem.W.kitOne K (.ref C_BadTape) (.ref C_BadNumber) = some false)
    (kX4BadTape : PySem.W.kitOne K (.ref C_BadTape) (.ref C_BadText) = some false)
    (kXVBadTape : PySem.W.kitOne K (.ref C_BadTape) (.type "ValueError") = some true)
    (sTNoSign : PySem.W.subIn K (.ref C_NoSign) (.ref CT) = some true) (gaNoSign : PySem.W.findIn K (.ref C_NoSign) "__getattribute__" = some (some (.builtin "BaseException.__getattribute__"))) (ggNoSign : PySem.W.findIn K (.ref C_NoSign) "__getattr__" = some none) (hdNoSign : PySem.W.hasDictIn K C_NoSign = true) (clNoSign : PySem.W.findIn K (.ref C_NoSign) "__class__" = some (some (.builtin "object.__class__"))) (mrNoSign : PySem.W.mroIn K C_NoSign (.type "object") = some true)
    (kX0NoSign : PySem.W.kitOne K (.ref C_NoSign) (.ref C_BadSets) = some false)
    (kX1NoSign : PySem.W.kitOne K (.ref C_NoSign) (.ref C_BadTape) = some false)
    (kX2NoSign : PySem.W.kitOne K (.ref C_NoSign) (.ref C_NoSign) = some true)
    (kX3NoSign : PySem.W.kitOne K (.ref C_NoSign) (.ref C_BadNumber) = some false)
    (kX4NoSign : PySem.W.kitOne K (.ref C_NoSign) (.ref C_BadText) = some false)
    (kXVNoSign : PySem.W.kitOne K (.ref C_NoSign) (.type "ValueError") = some true)
    (sTBadNumber : PySem.W.subIn K (.ref C_BadNumber) (.ref CT) = some true) (gaBadNumber : PySem.W.findIn K (.ref C_BadNumber) "__getattribute__" = some (some (.builtin "BaseException.__getattribute__"))) (ggBadNumber : PySem.W.findIn K (.ref C_BadNumber) "__getattr__" = some none) (hdBadNumber : PySem.W.hasDictIn K C_BadNumber = true) (clBadNumber : PySem.W.findIn K (.ref C_BadNumber) "__class__" = some (some (.builtin "object.__class__"))) (mrBadNumber : PySem.W.mroIn K C_BadNumber (.type "object") = some true)
    (eCxBadNumber : PySem.W.subIn K (.ref C_BadNumber) (.type "BaseException") = some true)
    (kX0BadNumber : PySem.W.kitOne K (.ref C_BadNumber) (.ref C_BadSets) = some false)
    (kX1BadNumber : PySem.W.kitOne K (.ref C_BadNumber) (.ref C_BadTape) = some false)
    (kX2BadNumber : PySem.W.kitOne K (.ref C_BadNumber) (.ref C_NoSign) = some false)
    (kX3BadNumber : PySem.W.kitOne K (.ref C_BadNumber) (.ref C_BadNumber) = some true)
    (kX4BadNumber : PySem.W.kitOne K (.ref C_BadNumber) (.ref C_BadText) = some false)
    (kXVBadNumber : PySem.W.kitOne K (.ref C_BadNumber) (.type "ValueError") = some true)
    (qN : PySem.W.excIn K C_BadNumber [.type "ValueError", .type "Exception", .type "BaseException", .type "object"] "ValueError.__new__" = true) (kCN : PySem.W.keepIn K (.ref C_BadNumber) = true) (tyN : PySem.W.typeIn K (.ref C_BadNumber) = some (.type "type")) (noxBadNumber : PySem.W.findIn K (.ref C_BadNumber) "at" = some none)
    (tne : tabNe K cd30 cd29 = true)
    : ∃ fd fdW : FuncData, (∃ oc od osl, K.lookup fa = some ⟨oc, od, .func fd, osl⟩) ∧ (∃ oc od osl, K.lookup fW = some ⟨oc, od, .func fdW, osl⟩) ∧ (∃ q, PySem.W.codeIn K fd.code q = true) ∧ (∃ q, PySem.W.codeIn K fdW.code q = true) ∧ (∀ (s : Shared) (v : Value), BindsTo s fd ⟨[v], []⟩ [("_law_script", v)]) ∧ ∀ (c P cW PW : Addr), fd.code = .ref c → fdW.code = .ref cW → tabA K (.ref c) = some P → tabA K (.ref cW) = some PW → ∀ base : Heap, K.In base → base.Ns mainGlobals mg → LamX.TabB base mg c P → LamX.TabB base mg cW PW → FnOk l.prog w K mg base CX0 131 fa fd ["_law_script"] (spLawT K P PW) := by
  have D_need_sets : DefAt K mg "need_sets" s_need_sets := defAt_mk X G a0 l0 c0 k0
  have D_need_tape : DefAt K mg "need_tape" s_need_tape := defAt_mk X G a1 l1 c1 k1
  have D_need_state : DefAt K mg "need_state" s_need_state := defAt_mk X G a2 l2 c2 k2
  have D_need_all : DefAt K mg "need_all" s_need_all := defAt_mk X G a3 l3 c3 k3
  have D_is_common : DefAt K mg "is_common" s_is_common := defAt_mk X G a4 l4 c4 k4
  have D_gone : DefAt K mg "gone" s_gone := defAt_mk X G a5 l5 c5 k5
  have D_read : DefAt K mg "read" s_read := defAt_mk X G a6 l6 c6 k6
  have D_codes_of : DefAt K mg "codes_of" s_codes_of := defAt_mk X G a7 l7 c7 k7
  have D_need_text : DefAt K mg "need_text" s_need_text := defAt_mk X G a8 l8 c8 k8
  have D_losses : DefAt K mg "losses" s_losses := defAt_mk X G a9 l9 c9 k9
  have D_worst : DefAt K mg "worst" s_worst := defAt_mk X G a10 l10 c10 k10
  have D_by_state : DefAt K mg "by_state" s_by_state := defAt_mk X G a11 l11 c11 k11
  have D_written : DefAt K mg "written" s_written := defAt_mk X G a12 l12 c12 k12
  have D_shorter : DefAt K mg "shorter" s_shorter := defAt_mk X G a13 l13 c13 k13
  have D_least : DefAt K mg "least" s_least := defAt_mk X G a14 l14 c14 k14
  have D_guarded_of : DefAt K mg "guarded_of" s_guarded_of := defAt_mk X G a15 l15 c15 k15
  have D_guarded : DefAt K mg "guarded" s_guarded := defAt_mk X G a16 l16 c16 k16
  have D_trimmed : DefAt K mg "trimmed" s_trimmed := defAt_mk X G a17 l17 c17 k17
  have D_joined : DefAt K mg "joined" s_joined := defAt_mk X G a18 l18 c18 k18
  have D_cut : DefAt K mg "cut" s_cut := defAt_mk X G a19 l19 c19 k19
  have D_q_dice : DefAt K mg "_law_dice" s_q_dice := defAt_mk X G a20 l20 c20 k20
  have D_q_off : DefAt K mg "_law_off" s_q_off := defAt_mk X G a21 l21 c21 k21
  have D_q_alike : DefAt K mg "_law_alike" s_q_alike := defAt_mk X G a22 l22 c22 k22
  have D_q_mixed : DefAt K mg "_law_mixed" s_q_mixed := defAt_mk X G a23 l23 c23 k23
  have D_q_refused : DefAt K mg "_law_refused" s_q_refused := defAt_mk X G a24 l24 c24 k24
  have D_q_sets : DefAt K mg "_law_sets" s_q_sets := defAt_mk X G a25 l25 c25 k25
  have D_q_text : DefAt K mg "_law_text" s_q_text := defAt_mk X G a26 l26 c26 k26
  have D_q_tape : DefAt K mg "_law_tape" s_q_tape := defAt_mk X G a27 l27 c27 k27
  have D_q_absent : DefAt K mg "_law_absent" s_q_absent := defAt_mk X G a28 l28 c28 k28
  have D_q_works : DefAt K mg "_law_works" s_q_works := defAt_mk X G a29 l29 c29 k29
  have c_MOST_SIGNS : ∃ t, mg "MOST_SIGNS" = some (.int 10 t) := ⟨t_MOST_SIGNS, PySem.W.mg_of X G v_MOST_SIGNS⟩
  have c_MOST_CODES : ∃ t, mg "MOST_CODES" = some (.int 200 t) := ⟨t_MOST_CODES, PySem.W.mg_of X G v_MOST_CODES⟩
  have c_MOST_SPOILT : ∃ t, mg "MOST_SPOILT" = some (.int 20 t) := ⟨t_MOST_SPOILT, PySem.W.mg_of X G v_MOST_SPOILT⟩
  have B : Bl mg := ⟨PySem.W.mg_none_of X G z_len, PySem.W.mg_none_of X G z_list, PySem.W.mg_none_of X G z_range, PySem.W.mg_none_of X G z_abs, PySem.W.mg_none_of X G z_int_, PySem.W.mg_none_of X G z_bool_, PySem.W.mg_none_of X G z_str_, PySem.W.mg_none_of X G z_isinstance, PySem.W.mg_none_of X G z_all, PySem.W.mg_none_of X G z_enumerate, PySem.W.mg_none_of X G z_max, PySem.W.mg_none_of X G z_min, PySem.W.mg_none_of X G z_set, PySem.W.mg_none_of X G z_sorted, PySem.W.mg_none_of X G z_tuple⟩
  have D_Writer_rest : DefAtM K CW "rest" "Writer.rest" s_Writer_rest := defAtM_mk a32 i32 l32 c32 k32
  have D_Writer_found : DefAtM K CW "found" "Writer.found" s_Writer_found := defAtM_mk a33 i33 l33 c33 k33
  have D_Writer_ahead : DefAtM K CW "ahead" "Writer.ahead" s_Writer_ahead := defAtM_mk a34 i34 l34 c34 k34
  have D_Writer_signed : DefAtM K CW "signed" "Writer.signed" s_Writer_signed := defAtM_mk a35 i35 l35 c35 k35
  have WT : WTxt K CW := ⟨⟨pg, hd, po, sa⟩, nf1, nf2, nf3, nf4⟩
  have F_Writer := fun_mk (st := s_Writer_init) l31 c31 k31
  have z_TapeError : TeC K mg "TapeError" CT := ⟨PySem.W.mg_of X G aT, spT, rdT, fcT⟩
  have e := hfa.symm.trans (PySem.W.mg_of X G a30)
  cases e
  have e := hfW.symm.trans (PySem.W.mg_of X G a29)
  cases e
  refine ⟨PySem.W.fnOf "law" "law" (defArgs s_law) (defBody s_law) (defScope s_law) .none kV30 dc30 pm30 an30 cd30 ct30, PySem.W.fnOf "_law_works" "_law_works" (defArgs s_q_works) (defBody s_q_works) (defScope s_q_works) .none kV29 dc29 pm29 an29 cd29 ct29, ⟨_, _, _, l30⟩, ⟨_, _, _, l29⟩, ⟨_, c30⟩, ⟨_, c29⟩, fun s v => .of_eq rfl, fun cL pL cW pW hcL hcW t1 t2 base _ _ TBL TBW => ?_⟩
  have hcL : cd30 = Value.ref cL := hcL
  subst hcL
  have FW := fun_mk (st := s_q_works) l29 c29 k29
  have hmW := PySem.W.mg_of X G a29
  have hcW0 : cd29 = Value.ref cW := hcW
  have neT : pL ≠ pW := tabNe_of tne t1 (by rw [hcW0]; exact t2)
  have F_law := fun_mk (st := s_law) l30 c30 k30
  have F_BadTape := fun_mk (st := s_BadTape_init) lxBadTape cxBadTape kxBadTape
  have O_BadTape : OexC K C_BadTape := ⟨⟨_, _, _, _, _, _, _, _, _, _, _, _, _, _, _, yxBadTape, rfl⟩, saxBadTape, eCxBadTape, tCxBadTape, kCxBadTape⟩
  have z_BadTape : Rz l.prog w K mg base "BadTape" C_BadTape "at" := rz_BadTape F_BadTape z_TapeError O_BadTape (PySem.W.mg_of X G axBadTape) ixBadTape txBadTape noxBadTape
  have F_NoSign := fun_mk (st := s_NoSign_init) lxNoSign cxNoSign kxNoSign
  have O_NoSign : OexC K C_NoSign := ⟨⟨_, _, _, _, _, _, _, _, _, _, _, _, _, _, _, yxNoSign, rfl⟩, saxNoSign, eCxNoSign, tCxNoSign, kCxNoSign⟩
  have z_NoSign : Rz l.prog w K mg base "NoSign" C_NoSign "at" := rz_NoSign F_NoSign z_TapeError O_NoSign (PySem.W.mg_of X G axNoSign) ixNoSign txNoSign noxNoSign
  have xc_BadTape : XcC K C_BadTape := ⟨gaBadTape, ggBadTape, eCxBadTape, hdBadTape, clBadTape, oG, oT, mrBadTape⟩
  have M_BadTape : RefC K mg CT C_BadSets C_BadTape C_NoSign C_BadNumber C_BadText C_BadTape _ _ _ _ _ := ⟨PySem.W.mg_of X G aT, PySem.W.mg_of X G axBadSets, PySem.W.mg_of X G axBadTape, PySem.W.mg_of X G axNoSign, PySem.W.mg_of X G axBadNumber, PySem.W.mg_of X G axBadText, PySem.W.mg_none_of X G nVE, PySem.W.exm_ref sBT hdT tyT sTBadTape, xc_BadTape, kX0BadTape, kX1BadTape, kX2BadTape, kX3BadTape, kX4BadTape, kXVBadTape⟩
  have xc_NoSign : XcC K C_NoSign := ⟨gaNoSign, ggNoSign, eCxNoSign, hdNoSign, clNoSign, oG, oT, mrNoSign⟩
  have M_NoSign : RefC K mg CT C_BadSets C_BadTape C_NoSign C_BadNumber C_BadText C_NoSign _ _ _ _ _ := ⟨PySem.W.mg_of X G aT, PySem.W.mg_of X G axBadSets, PySem.W.mg_of X G axBadTape, PySem.W.mg_of X G axNoSign, PySem.W.mg_of X G axBadNumber, PySem.W.mg_of X G axBadText, PySem.W.mg_none_of X G nVE, PySem.W.exm_ref sBT hdT tyT sTNoSign, xc_NoSign, kX0NoSign, kX1NoSign, kX2NoSign, kX3NoSign, kX4NoSign, kXVNoSign⟩
  have xc_BadNumber : XcC K C_BadNumber := ⟨gaBadNumber, ggBadNumber, eCxBadNumber, hdBadNumber, clBadNumber, oG, oT, mrBadNumber⟩
  have M_BadNumber : RefC K mg CT C_BadSets C_BadTape C_NoSign C_BadNumber C_BadText C_BadNumber _ _ _ _ _ := ⟨PySem.W.mg_of X G aT, PySem.W.mg_of X G axBadSets, PySem.W.mg_of X G axBadTape, PySem.W.mg_of X G axNoSign, PySem.W.mg_of X G axBadNumber, PySem.W.mg_of X G axBadText, PySem.W.mg_none_of X G nVE, PySem.W.exm_ref sBT hdT tyT sTBadNumber, xc_BadNumber, kX0BadNumber, kX1BadNumber, kX2BadNumber, kX3BadNumber, kX4BadNumber, kXVBadNumber⟩
  have z_BadNumber : NumC K mg C_BadNumber := ⟨PySem.W.mg_of X G axBadNumber, qN, kCN, eCxBadNumber, tyN⟩
  have g_q_alike_h := alikeH (P := l.prog) (w := w) (K := K) (mg := mg) (base := base) D_q_alike B
  have g_need_sets := pm_need_sets (P := l.prog) (w := w) (K := K) (mg := mg) (base := base) D_need_sets B c_MOST_SIGNS
  have g_need_tape := pm_need_tape (P := l.prog) (w := w) (K := K) (mg := mg) (base := base) D_need_tape B c_MOST_CODES
  have g_need_state := pm_need_state (P := l.prog) (w := w) (K := K) (mg := mg) (base := base) D_need_state
  have g_need_all := pm_need_all (P := l.prog) (w := w) (K := K) (mg := mg) (base := base) D_need_all g_need_sets g_need_tape g_need_state
  have g_q_dice := pm_dice (P := l.prog) (w := w) (K := K) (mg := mg) (base := base) D_q_dice B
  have g_q_off := pm_off (P := l.prog) (w := w) (K := K) (mg := mg) (base := base) D_q_off B
  have g_q_mixed := pm_mixed (P := l.prog) (w := w) (K := K) (mg := mg) (base := base) D_q_mixed B g_q_off
  have g_q_tape := pm_tape (P := l.prog) (w := w) (K := K) (mg := mg) (base := base) D_q_tape B g_q_off
  have g_q_sets := pm_sets (P := l.prog) (w := w) (K := K) (mg := mg) (base := base) D_q_sets B g_q_off g_q_mixed
  have g_is_common := pm_common (P := l.prog) (w := w) (K := K) (mg := mg) (base := base) D_is_common B
  have g_trimmed := pm_trimmed (P := l.prog) (w := w) (K := K) (mg := mg) (base := base) D_trimmed B g_need_all g_is_common
  have g_q_text := pm_text (P := l.prog) (w := w) (K := K) (mg := mg) (base := base) D_q_text B g_q_off
  have g_shorter := pm_shorter (P := l.prog) (w := w) (K := K) (mg := mg) (base := base) D_shorter B
  have g_codes_of := pm_codes_of (P := l.prog) (w := w) (K := K) (mg := mg) (base := base) D_codes_of B
  have g_need_text := pm_need_text (P := l.prog) (w := w) (K := K) (mg := mg) (base := base) D_need_text B g_codes_of
  have g_need_tape_x := pm_need_tapeX (P := l.prog) (w := w) (K := K) (mg := mg) (base := base) D_need_tape B c_MOST_CODES z_BadTape
  have g_need_state_x := pm_need_stateX (P := l.prog) (w := w) (K := K) (mg := mg) (base := base) D_need_state z_BadNumber
  have g_need_all_x := pm_need_allX (P := l.prog) (w := w) (K := K) (mg := mg) (base := base) D_need_all g_need_sets g_need_tape_x g_need_state_x
  have g_read_x := pm_readX (P := l.prog) (w := w) (K := K) (mg := mg) (base := base) D_read g_need_all_x
  have g_losses_x := pm_lossesX (P := l.prog) (w := w) (K := K) (mg := mg) (base := base) D_losses g_need_all_x
  have g_worst_x := pm_worstX (P := l.prog) (w := w) (K := K) (mg := mg) (base := base) D_worst g_losses_x
  have g_trimmed_x := pm_trimmedX (P := l.prog) (w := w) (K := K) (mg := mg) (base := base) D_trimmed g_need_all_x
  have g_by_state_x := pm_by_stateX (P := l.prog) (w := w) (K := K) (mg := mg) (base := base) D_by_state g_need_sets g_need_tape_x
  have g_written_x := pm_writtenX (P := l.prog) (w := w) (K := K) (mg := mg) (base := base) D_written g_need_sets g_need_tape_x
  have g_joined_x := pm_joinedX (P := l.prog) (w := w) (K := K) (mg := mg) (base := base) D_joined g_need_sets g_need_tape_x
  have g_cut_x := pm_cutX (P := l.prog) (w := w) (K := K) (mg := mg) (base := base) D_cut B g_need_sets g_need_tape_x z_BadNumber
  have g_need_text_x := pm_need_textX (P := l.prog) (w := w) (K := K) (mg := mg) (base := base) D_need_text B g_codes_of z_NoSign
  have g_least_x := pm_leastX (P := l.prog) (w := w) (K := K) (mg := mg) (base := base) D_least g_need_sets g_need_text_x g_need_state_x
  have g_guarded_x := pm_guardedX (P := l.prog) (w := w) (K := K) (mg := mg) (base := base) D_guarded c_MOST_SPOILT g_need_sets g_need_text_x g_need_state_x z_BadNumber
  have g_q_absent := pm_absent (P := l.prog) (w := w) (K := K) (mg := mg) (base := base) D_q_absent B
  have g_q_works := pm_works (P := l.prog) (w := w) (K := K) (mg := mg) (base := base) FW hmW hcW TBW neT B g_read_x g_losses_x g_worst_x g_trimmed_x
  have g_ref_tape := pm_refA (P := l.prog) (w := w) (K := K) (mg := mg) (base := base) D_q_refused B M_BadTape noxBadTape g_q_alike_h (word := [116, 97, 112, 101]) rfl (by decide) (by decide) (by decide)
  have g_ref_sign := pm_refA (P := l.prog) (w := w) (K := K) (mg := mg) (base := base) D_q_refused B M_NoSign noxNoSign g_q_alike_h (word := [115, 105, 103, 110]) rfl (by decide) (by decide) (by decide)
  have g_ref_number := pm_refU (P := l.prog) (w := w) (K := K) (mg := mg) (base := base) D_q_refused B M_BadNumber noxBadNumber g_q_alike_h
  have g_Writer := made_writer (P := l.prog) (w := w) (K := K) (mg := mg) (base := base) F_Writer WT mk a31 i31 kc (PySem.W.mg_of X G aC)
  have g_Writer_rest := rest_41 (P := l.prog) (w := w) (K := K) (mg := mg) (base := base) D_Writer_ahead D_Writer_rest D_Writer_found D_Writer_signed WT B g_codes_of g_is_common g_shorter
  have g_guarded_of := pm_guarded_of (P := l.prog) (w := w) (K := K) (mg := mg) (base := base) D_guarded_of WT.cl B g_Writer g_Writer_rest
  have g_least := pm_least (P := l.prog) (w := w) (K := K) (mg := mg) (base := base) D_least B g_need_sets g_need_text g_need_state g_guarded_of
  exact ok_law F_law rfl TBL neT B g_q_dice g_q_off g_q_sets g_q_tape g_q_text g_q_absent g_least g_trimmed g_by_state_x g_joined_x g_cut_x g_written_x g_least_x g_guarded_x g_q_works g_ref_tape g_ref_sign g_ref_number
end Sr
open PySem PySem.W PyProof.Rows
set_option maxRecDepth 100000 in
set_option maxHeartbeats 0 in
theorem PySem.Challenge.cw_shiftrow_k03_tapes_and_states_refused_holds : PySem.Challenge.rw_shiftrow_k03_tapes_and_states_refused.Holds := by
  w_on; o_law; k_head; (case hw => w_witness2)
  k_fill
  refine Sr.walk_ofTabW (l := PySem.Challenge.rw_shiftrow_k03_tapes_and_states_refused) (n := 63) (k := 131) (x := "_law_script") (x0 := "law") (x1 := "_law_works") rfl (by decide) rfl ⟨rfl, by decide, by decide⟩ (fun w h Y => PySem.W.km_in_of Y) rfl rfl (fun w => by first | rfl | kernel_rfl) ?F (by decide)
  case F =>
    intro w mg fa fW h KX G hmg hmW
    refine' Sr.all_mk KX G hmg hmW ?a0 ?l0 ?c0 ?k0 ?a1 ?l1 ?c1 ?k1 ?a2 ?l2 ?c2 ?k2 ?a3 ?l3 ?c3 ?k3 ?a4 ?l4 ?c4 ?k4 ?a5 ?l5 ?c5 ?k5 ?a6 ?l6 ?c6 ?k6 ?a7 ?l7 ?c7 ?k7 ?a8 ?l8 ?c8 ?k8 ?a9 ?l9 ?c9 ?k9 ?a10 ?l10 ?c10 ?k10 ?a11 ?l11 ?c11 ?k11 ?a12 ?l12 ?c12 ?k12 ?a13 ?l13 ?c13 ?k13 ?a14 ?l14 ?c14 ?k14 ?a15 ?l15 ?c15 ?k15 ?a16 ?l16 ?c16 ?k16 ?a17 ?l17 ?c17 ?k17 ?a18 ?l18 ?c18 ?k18 ?a19 ?l19 ?c19 ?k19 ?a20 ?l20 ?c20 ?k20 ?a21 ?l21 ?c21 ?k21 ?a22 ?l22 ?c22 ?k22 ?a23 ?l23 ?c23 ?k23 ?a24 ?l24 ?c24 ?k24 ?a25 ?l25 ?c25 ?k25 ?a26 ?l26 ?c26 ?k26 ?a27 ?l27 ?c27 ?k27 ?a28 ?l28 ?c28 ?k28 ?a29 ?l29 ?c29 ?k29 ?a30 ?l30 ?c30 ?k30 ?v_MOST_SIGNS ?v_MOST_CODES ?v_MOST_SPOILT ?z_len ?z_list ?z_range ?z_abs ?z_int_ ?z_bool_ ?z_str_ ?z_isinstance ?z_all ?z_enumerate ?z_max ?z_min ?z_set ?z_sorted ?z_tuple ?aC ?a31 ?i31 ?l31 ?c31 ?k31 ?a32 ?i32 ?l32 ?c32 ?k32 ?a33 ?i33 ?l33 ?c33 ?k33 ?a34 ?i34 ?l34 ?c34 ?k34 ?a35 ?i35 ?l35 ?c35 ?k35 ?pg ?hd ?po ?sa ?mk ?kc ?nf1 ?nf2 ?nf3 ?nf4 ?aT ?spT ?rdT ?fcT ?axBadTape ?yxBadTape ?saxBadTape ?eCxBadTape ?tCxBadTape ?kCxBadTape ?ixBadTape ?txBadTape ?noxBadTape ?lxBadTape ?cxBadTape ?kxBadTape ?axNoSign ?yxNoSign ?saxNoSign ?eCxNoSign ?tCxNoSign ?kCxNoSign ?ixNoSign ?txNoSign ?noxNoSign ?lxNoSign ?cxNoSign ?kxNoSign ?nVE ?sBT ?hdT ?tyT ?oG ?oT ?axBadSets ?axBadNumber ?axBadText ?sTBadTape ?gaBadTape ?ggBadTape ?hdBadTape ?clBadTape ?mrBadTape ?kX0BadTape ?kX1BadTape ?kX2BadTape ?kX3BadTape ?kX4BadTape ?kXVBadTape ?sTNoSign ?gaNoSign ?ggNoSign ?hdNoSign ?clNoSign ?mrNoSign ?kX0NoSign ?kX1NoSign ?kX2NoSign ?kX3NoSign ?kX4NoSign ?kXVNoSign ?sTBadNumber ?gaBadNumber ?ggBadNumber ?hdBadNumber ?clBadNumber ?mrBadNumber ?eCxBadNumber ?kX0BadNumber ?kX1BadNumber ?kX2BadNumber ?kX3BadNumber ?kX4BadNumber ?kXVBadNumber ?qN ?kCN ?tyN ?noxBadNumber ?tne
    (case a0 => k_is)
    (case l0 => k_is)
    (case c0 => k_is)
    (case k0 => k_is)
    (case a1 => k_is)
    (case l1 => k_is)
    (case c1 => k_is)
    (case k1 => k_is)
    (case a2 => k_is)
    (case l2 => k_is)
    (case c2 => k_is)
    (case k2 => k_is)
    (case a3 => k_is)
    (case l3 => k_is)
    (case c3 => k_is)
    (case k3 => k_is)
    (case a4 => k_is)
    (case l4 => k_is)
    (case c4 => k_is)
    (case k4 => k_is)
    (case a5 => k_is)
    (case l5 => k_is)
    (case c5 => k_is)
    (case k5 => k_is)
    (case a6 => k_is)
    (case l6 => k_is)
    (case c6 => k_is)
    (case k6 => k_is)
    (case a7 => k_is)
    (case l7 => k_is)
    (case c7 => k_is)
    (case k7 => k_is)
    (case a8 => k_is)
    (case l8 => k_is)
    (case c8 => k_is)
    (case k8 => k_is)
    (case a9 => k_is)
    (case l9 => k_is)
    (case c9 => k_is)
    (case k9 => k_is)
    (case a10 => k_is)
    (case l10 => k_is)
    (case c10 => k_is)
    (case k10 => k_is)
    (case a11 => k_is)
    (case l11 => k_is)
    (case c11 => k_is)
    (case k11 => k_is)
    (case a12 => k_is)
    (case l12 => k_is)
    (case c12 => k_is)
    (case k12 => k_is)
    (case a13 => k_is)
    (case l13 => k_is)
    (case c13 => k_is)
    (case k13 => k_is)
    (case a14 => k_is)
    (case l14 => k_is)
    (case c14 => k_is)
    (case k14 => k_is)
    (case a15 => k_is)
    (case l15 => k_is)
    (case c15 => k_is)
    (case k15 => k_is)
    (case a16 => k_is)
    (case l16 => k_is)
    (case c16 => k_is)
    (case k16 => k_is)
    (case a17 => k_is)
    (case l17 => k_is)
    (case c17 => k_is)
    (case k17 => k_is)
    (case a18 => k_is)
    (case l18 => k_is)
    (case c18 => k_is)
    (case k18 => k_is)
    (case a19 => k_is)
    (case l19 => k_is)
    (case c19 => k_is)
    (case k19 => k_is)
    (case a20 => k_is)
    (case l20 => k_is)
    (case c20 => k_is)
    (case k20 => k_is)
    (case a21 => k_is)
    (case l21 => k_is)
    (case c21 => k_is)
    (case k21 => k_is)
    (case a22 => k_is)
    (case l22 => k_is)
    (case c22 => k_is)
    (case k22 => k_is)
    (case a23 => k_is)
    (case l23 => k_is)
    (case c23 => k_is)
    (case k23 => k_is)
    (case a24 => k_is)
    (case l24 => k_is)
    (case c24 => k_is)
    (case k24 => k_is)
    (case a25 => k_is)
    (case l25 => k_is)
    (case c25 => k_is)
    (case k25 => k_is)
    (case a26 => k_is)
    (case l26 => k_is)
    (case c26 => k_is)
    (case k26 => k_is)
    (case a27 => k_is)
    (case l27 => k_is)
    (case c27 => k_is)
    (case k27 => k_is)
    (case a28 => k_is)
    (case l28 => k_is)
    (case c28 => k_is)
    (case k28 => k_is)
    (case a29 => k_is)
    (case l29 => k_is)
    (case c29 => k_is)
    (case k29 => k_is)
    (case a30 => k_is)
    (case l30 => k_is)
    (case c30 => k_is)
    (case k30 => k_is)
    (case v_MOST_SIGNS => k_is)
    (case v_MOST_CODES => k_is)
    (case v_MOST_SPOILT => k_is)
    (case z_len => k_is)
    (case z_list => k_is)
    (case z_range => k_is)
    (case z_abs => k_is)
    (case z_int_ => k_is)
    (case z_bool_ => k_is)
    (case z_str_ => k_is)
    (case z_isinstance => k_is)
    (case z_all => k_is)
    (case z_enumerate => k_is)
    (case z_max => k_is)
    (case z_min => k_is)
    (case z_set => k_is)
    (case z_sorted => k_is)
    (case z_tuple => k_is)
    (case aC => k_is)
    (case a31 => k_is)
    (case i31 => k_is)
    (case l31 => k_is)
    (case c31 => k_is)
    (case k31 => k_is)
    (case a32 => k_is)
    (case i32 => k_is)
    (case l32 => k_is)
    (case c32 => k_is)
    (case k32 => k_is)
    (case a33 => k_is)
    (case i33 => k_is)
    (case l33 => k_is)
    (case c33 => k_is)
    (case k33 => k_is)
    (case a34 => k_is)
    (case i34 => k_is)
    (case l34 => k_is)
    (case c34 => k_is)
    (case k34 => k_is)
    (case a35 => k_is)
    (case i35 => k_is)
    (case l35 => k_is)
    (case c35 => k_is)
    (case k35 => k_is)
    (case pg => k_is)
    (case hd => k_is)
    (case po => k_is)
    (case sa => k_is)
    (case mk => k_is)
    (case kc => k_is)
    (case nf1 => k_is)
    (case nf2 => k_is)
    (case nf3 => k_is)
    (case nf4 => k_is)
    (case aT => k_is)
    (case spT => k_is)
    (case rdT => k_is)
    (case fcT => k_is)
    (case axBadTape => k_is)
    (case yxBadTape => k_is)
    (case saxBadTape => k_is)
    (case eCxBadTape => k_is)
    (case tCxBadTape => k_is)
    (case kCxBadTape => k_is)
    (case ixBadTape => k_is)
    (case txBadTape => k_is)
    (case noxBadTape => k_is)
    (case lxBadTape => k_is)
    (case cxBadTape => k_is)
    (case kxBadTape => k_is)
    (case axNoSign => k_is)
    (case yxNoSign => k_is)
    (case saxNoSign => k_is)
    (case eCxNoSign => k_is)
    (case tCxNoSign => k_is)
    (case kCxNoSign => k_is)
    (case ixNoSign => k_is)
    (case txNoSign => k_is)
    (case noxNoSign => k_is)
    (case lxNoSign => k_is)
    (case cxNoSign => k_is)
    (case kxNoSign => k_is)
    (case nVE => k_is)
    (case sBT => k_is)
    (case hdT => k_is)
    (case tyT => k_is)
    (case oG => k_is)
    (case oT => k_is)
    (case axBadSets => k_is)
    (case axBadNumber => k_is)
    (case axBadText => k_is)
    (case sTBadTape => k_is)
    (case gaBadTape => k_is)
    (case ggBadTape => k_is)
    (case hdBadTape => k_is)
    (case clBadTape => k_is)
    (case mrBadTape => k_is)
    (case kX0BadTape => kit_is)
    (case kX1BadTape => kit_is)
    (case kX2BadTape => kit_is)
    (case kX3BadTape => kit_is)
    (case kX4BadTape => kit_is)
    (case kXVBadTape => kit_is)
    (case sTNoSign => k_is)
    (case gaNoSign => k_is)
    (case ggNoSign => k_is)
    (case hdNoSign => k_is)
    (case clNoSign => k_is)
    (case mrNoSign => k_is)
    (case kX0NoSign => kit_is)
    (case kX1NoSign => kit_is)
    (case kX2NoSign => kit_is)
    (case kX3NoSign => kit_is)
    (case kX4NoSign => kit_is)
    (case kXVNoSign => kit_is)
    (case sTBadNumber => k_is)
    (case gaBadNumber => k_is)
    (case ggBadNumber => k_is)
    (case hdBadNumber => k_is)
    (case clBadNumber => k_is)
    (case mrBadNumber => k_is)
    (case eCxBadNumber => k_is)
    (case kX0BadNumber => kit_is)
    (case kX1BadNumber => kit_is)
    (case kX2BadNumber => kit_is)
    (case kX3BadNumber => kit_is)
    (case kX4BadNumber => kit_is)
    (case kXVBadNumber => kit_is)
    (case qN => k_exc)
    (case kCN => k_is)
    (case tyN => k_is)
    (case noxBadNumber => k_is)
    (case tne => first | k_is | exact rfl | kernel_rfl)
