import PyProof.Rows.All
import Wide.All
import OpenK.AllK
import Wide.FinOn
import HandS.ForMost
import HandS.Walk
import HandS.Strs
import HandS.Conv
import HandS.Evl
import HandS.IsInst
import HandS.Comp
import HandS.EndTab
import HandS.Exc
import HandS.ExcCtx
import HandS.ExcField
import HandS.ExcInit
import HandS.ExcIs
import HandS.ExcOwn
import HandS.HotCalls
import HandS.Lambda
import KE.KExcIs
import PyProof.StrBlock2
import PySem.Challenge.RW_shiftrow_k12_written_and_read
set_option Elab.async false
set_option linter.all false
set_option maxRecDepth 100000
set_option maxHeartbeats 4000000
/-! own rules over the layer: list(text), len(set(text)) -/
namespace SrX
open PySem PySem.Spec PyProof.Rows L2

/-- the text of these signs -/
def tx (l : List Nat) : Str := ⟨l.toArray⟩
/-- one sign as a text -/
abbrev sg (c : Nat) : V := .str ⟨#[c]⟩
def sgs (z : Str) : List V := z.cps.toList.map sg

theorem call_list_sg {X : Cx} (hc : X.calm = true) : CallR X (.type "list") (fun xs H Q => ∃ z : Str, xs = [.str z] ∧ z.length ≤ sizeLine ∧ ∀ q, H q = none → Q (.ref q) (upd H q (.lst (sgs z)))) := by
  intro pins s σ H xs us Q I r h
  obtain ⟨z, rfl, hz, q⟩ := h
  obtain ⟨u, rfl, rx⟩ := vals1 r
  obtain ⟨t, rfl⟩ := rx
  have hzz : z.cps.size ≤ sizeLine := hz
  refine call_list_str (I.ok.hd hc) z t (fun h1 tk acc c1 hk e hi => ?_) hzz
  refine ⟨.ref s.heap.objs.size, upd H s.heap.objs.size (.lst (sgs z)), I.laid hk (Nat.le_refl _) ⟨?_, acc.toList, c1, ?_, ?_⟩, rfl, q _ (I.hok.fresh (Nat.le_refl _))⟩
  · unfold sgs; rw [List.length_map, Array.length_toList]; exact hzz
  · refine vals_of_at (by unfold sgs; rw [List.length_map, Array.length_toList, Array.length_toList]; exact hi.1.symm) fun j x w h3 h4 => ?_
    obtain ⟨c, t2, hc2, rfl⟩ := hi.2 j w (by rw [← Array.getElem?_toList]; exact h4)
    have e3 : (sgs z)[j]? = some (sg c) := by
      unfold sgs
      rw [List.getElem?_map, Array.getElem?_toList, hc2]; rfl
    rw [e3] at h3
    cases h3
    exact ⟨_, rfl⟩
  · rw [Array.toArray_toList]; exact e

/-! ### sets of a text's signs -/
def stS (a : List Str) (x : Str) : List Str := if a.any (· == x) then a else a ++ [x]
def fmS (val : Nat → Str) (i : Nat) : List Str := ((List.range i).map val).foldl stS []
theorem fmS_succ (val : Nat → Str) (i : Nat) : fmS val (i + 1) = stS (fmS val i) (val i) := by
  unfold fmS
  rw [List.range_succ, List.map_append, List.foldl_append]
  rfl
theorem stS_len (a : List Str) (x : Str) : (stS a x).length = if a.any (· == x) then a.length else a.length + 1 := by
  unfold stS
  split <;> simp
theorem fmS_le (val : Nat → Str) : ∀ i, (fmS val i).length ≤ i
  | 0 => Nat.le_refl _
  | i + 1 => by
    have ih := fmS_le val i
    rw [fmS_succ, stS_len]
    split <;> omega
theorem stS_any (a : List Str) (x k : Str) : (stS a x).any (· == k) = (a.any (· == k) || decide (k = x)) := by
  unfold stS
  by_cases h : a.any (· == x) = true
  · rw [if_pos h]
    by_cases e : k = x
    · subst e; rw [h]; simp
    · simp [e]
  · rw [if_neg h, List.any_append]
    by_cases e : k = x
    · subst e; simp
    · have hb : (x == k) = false := by simpa [beq_iff_eq] using (fun z : x = k => e z.symm)
      simp [hb, e]

section
variable {prog : Program} {w : World} {A : Around} {R : Result → Shared → Prop} {I : Addr} {fp wr : List Addr} {G : Array GenState → Array GenState → Prop} {n : Nat} {P : Nat → Value → Prop} {St : Nat → Shared → Prop}
theorem loopSg (W : WalksS prog w A.in1 I fp wr G n P St) (S : Addr) (hSf : S ∉ fp) (val : Nat → Str) (hn : n + 1 < scanBound) (hval : ∀ i v, P i v → ∃ t, v = .str (val i) t) :
    ∀ (k i : Nat) (s : Shared), n - i = k → i ≤ n → St i s → s.heap.SetOf (PySem.strKind prog w) S (fun q => (fmS val i).any (· == q)) (fmS val i).length →
      (∀ s1, Moved (S :: wr) G s s1 → s1.heap.SetOf (PySem.strKind prog w) S (fun q => (fmS val n).any (· == q)) (fmS val n).length → R (.ok (.ret .none)) s1) →
      codeAny (model prog w) A (.builtin "set.update.loop" ⟨[.ref S, .ref I], []⟩) R s := by
  have hSw : S ∉ wr := fun h => hSf (W.sub _ h)
  have hsub : ∀ b ∈ wr, b ∈ S :: wr := fun b hb => List.mem_cons_of_mem _ hb
  intro k
  induction k with
  | zero =>
    intro i s hk hi hst hS hR
    have hin : i = n := by omega
    subst hin
    refine codeAny_builtin PyProof.Rows.F.entry_set_update_loop ?_
    rw [Around.under_plainId PyProof.Rows.F.plain_set_update_loop _]
    show wpAny _ A.in1 (pyNext (.ref I) >>= _) _ _ s
    refine wpAny_bind (W.done s _ _ hst fun s1 hm => ?_)
    show wpAny _ A.in1 (ret Value.none) _ _ s1
    refine wpAny_pure (hR s1 (hm.mono hsub) ?_)
    obtain ⟨o, es, ep, t, ho, r⟩ := hS
    exact ⟨o, es, ep, t, hm.heap S _ hSw ho, r⟩
  | succ k ih =>
    intro i s hk hi hst hS hR
    have hlt : i < n := by omega
    refine codeAny_builtin PyProof.Rows.F.entry_set_update_loop ?_
    rw [Around.under_plainId PyProof.Rows.F.plain_set_update_loop _]
    show wpAny _ A.in1 (pyNext (.ref I) >>= _) _ _ s
    refine wpAny_bind (W.item i s _ _ hlt hst fun v s1 hP hst1 hm => ?_)
    obtain ⟨t, rfl⟩ := hval i v hP
    have hS1 : s1.heap.SetOf (PySem.strKind prog w) S (fun q => (fmS val i).any (· == q)) (fmS val i).length := by
      obtain ⟨o, es, ep, tb, ho, r⟩ := hS
      exact ⟨o, es, ep, tb, hm.heap S _ hSw ho, r⟩
    show wpAny _ A.in1 (holding [Value.str (val i) t] (setAdd S (.str (val i) t)) >>= _) _ _ s1
    refine wpAny_bind (wpAny_holding ?_)
    unfold setAdd
    refine wpAny_holding ?_
    refine wpAny_bind ((PySem.strKind prog w).pyHash (k := val i) (strKind_is _ _ _ _) ?_)
    have hroom : (fmS val i).length + 1 < scanBound := by have := fmS_le val i; omega
    refine wpAny_setAddHashed_of (knd := PySem.strKind prog w) (s := { s1 with toks := s1.toks + 1 }) (strKind_is _ _ _ _) rfl hS1 hroom fun h2 hsb hS2 => ?_
    have hSi : h2.SetOf (PySem.strKind prog w) S (fun q => (fmS val (i + 1)).any (· == q)) (fmS val (i + 1)).length :=
      SetOf_congr hS2 (fun q => by rw [fmS_succ, stS_any]) (by rw [fmS_succ, stS_len])
    refine wpAny_pure ⟨plainId_quiet PyProof.Rows.F.plain_set_update_loop _, ih (i + 1) _ (by omega) hlt (W.frame _ s1 _ _ hst1 (Nat.le_succ _) fun b hb o e => ?_) hSi fun s3 hm3 hS3 => ?_⟩
    · rw [hsb.2 b (fun z : b = S => hSf (by rw [← z]; exact hb))]; exact e
    · refine hR s3 (Moved.trans W.gtrans ((hm.mono hsub).then_heap (Nat.le_succ _) fun b o hb e => ?_) hm3) hS3
      rw [hsb.2 b (fun z : b = S => hb (by rw [z]; exact List.mem_cons_self))]; exact e
end

def valOf (x : Str) : Nat → Str := fun i => ⟨#[x.cps.getD i 0]⟩
section
variable {prog : Program} {w : World} {A : Around} {E : Value → Shared → Prop} {s : Shared}
theorem call_set_text {x : Str} {tk0 : Tok} {Q : Value → Shared → Prop} (hh : A.handled = none) (hb : x.cps.size + 1 < scanBound)
    (h : ∀ (h1 : Heap) (tk : Nat), h1.SetOf (PySem.strKind prog w) s.heap.objs.size (fun q => (fmS (valOf x) x.cps.size).any (· == q)) (fmS (valOf x) x.cps.size).length →
      (∀ b o, b < s.heap.objs.size → s.heap.get? b = some o → h1.get? b = some o) → Q (.ref s.heap.objs.size) { s with heap := h1, toks := tk }) :
    wpAny (model prog w) A (call (.type "set") [.str x tk0]) Q E s := by
  obtain ⟨c, tl, hmro⟩ := PySem.F.called_set.mro
  have hmade := PySem.F.called_set.made
  have hsub := PySem.F.called_set.sub
  refine wpAny_call (codeAny_of_tree ?_)
  show wpAny _ _ (callAny (.type "set") _) _ _ _
  refine wpAny_pure ⟨Code.quiet_builtin _ (by decide +kernel), codeAny_builtin PySem.F.entry_type_call ?_⟩
  rw [Around.under_plain (weight_type_call_type "set" [.str x tk0] []) rfl]
  have h1 := PySem.F.called_set.notType
  have h2 := PySem.F.called_set.canCreate
  have hct := PySem.F.typeCall_set_1 (.str x tk0)
  repeat (any_goals (first | assumption | wp_step))
  refine codeAny_mono (code_set_new_1 (.str x tk0) (E := E) (Q₁ := fun obj s2 => ∃ led : Bool, obj = .ref s.heap.objs.size ∧ s2 = { s with heap := s.heap.push { cls := .type "set", dict := none, data := .set #[] 0 (.fresh 0 0 led) } }) fun led => ⟨led, rfl, rfl⟩) fun r s2 hr => ?_
  cases r with
  | error e => exact hr
  | ok fl =>
    cases fl with
    | ret obj =>
      obtain ⟨led, rfl, rfl⟩ := hr
      have hS : (s.heap.push { cls := .type "set", dict := none, data := .set #[] 0 (.fresh 0 0 led) }).get? s.heap.objs.size = some { cls := .type "set", dict := none, data := .set #[] 0 (.fresh 0 0 led) } := Heap.get?_push_size _ rfl
      have hT : Shared.TypeIs { s with heap := s.heap.push { cls := .type "set", dict := none, data := .set #[] 0 (.fresh 0 0 led) } } (.ref s.heap.objs.size) "set" := ⟨_, hS, rfl⟩
      have hli := PySem.F.called_set.init.lookup
      have hbi := PySem.F.called_set.init.bind (.ref s.heap.objs.size)
      repeat (any_goals (first | assumption | wp_step))
      refine codeAny_mono (codeAny_call_builtin (R := wants (fun r s3 => r = .none ∧ ∃ h3 tk, s3 = { s with heap := h3, toks := tk } ∧
          h3.SetOf (PySem.strKind prog w) s.heap.objs.size (fun q => (fmS (valOf x) x.cps.size).any (· == q)) (fmS (valOf x) x.cps.size).length ∧
          (∀ b o, b < s.heap.objs.size → s.heap.get? b = some o → h3.get? b = some o)) E) PySem.F.called_set.init.plain PySem.F.entry_set_init (check_set_init_1 hT ?_)) fun r3 s3 hr3 => ?_
      · have hs1 := PySem.F.sub_str_set
        have hs2 := PySem.F.sub_str_frozenset
        have hne : (Value.type "str" == Value.type "dict") = false := by decide
        have hTx : Shared.TypeIs { s with heap := s.heap.push { cls := .type "set", dict := none, data := .set #[] 0 (.fresh 0 0 led) } } (.str x tk0) "str" := rfl
        unfold Builtin.«set.__init__» noKeywords Builtin.Frozenset.updateFrom
        generalize hPI : pyIter = PI
        wp_walk
        subst hPI
        refine wpAny_pyIter_str fun oI St W st0 => ?_
        refine wpAny_bind (wpAny_runValue ?_)
        have hh3 : A.in1.in1.in1.handled = none := by simp [hh]
        have hSf : s.heap.objs.size ∉ [(s.heap.push { cls := .type "set", dict := none, data := .set #[] 0 (.fresh 0 0 led) }).objs.size] := by
          rw [Heap.size_push]
          simp only [List.mem_cons, List.not_mem_nil, or_false]
          exact Nat.ne_of_lt (Nat.lt_succ_self _)
        have hval : ∀ (i : Nat) (v : Value), SignAt x i v → ∃ t, v = .str (valOf x i) t := fun i v ⟨c, u, hc, hv⟩ => ⟨u, by
          rw [hv]
          unfold valOf
          rw [Array.getD_eq_getD_getElem?, hc]
          rfl⟩
        refine loopSg ((W _ hh3).toS) s.heap.objs.size hSf (valOf x) hb hval (x.cps.size - 0) 0 _ (by omega) (Nat.zero_le _) st0 ?hS0 ?hR
        case hS0 =>
          have hget : ((s.heap.push { cls := .type "set", dict := none, data := .set #[] 0 (.fresh 0 0 led) }).push oI).get? s.heap.objs.size
              = some { cls := .type "set", dict := none, data := .set #[] 0 (.fresh 0 0 led) } := Heap.get?_push_of_some _ hS
          exact PyProof.Rows.SetOf_congr ((PyProof.Rows.setObjOf_fresh (knd := PySem.strKind prog w) led).setOf hget (by unfold scanBound; omega)) (fun _ => rfl) rfl
        case hR =>
          intro s4 hm hS4
          obtain ⟨h4, g4, d4, tk4, os4⟩ := s4
          have eg : g4 = s.gens := hm.gens
          have ed : d4 = s.drawn := hm.drawn
          have eo : os4 = s.os := hm.os
          subst eg; subst ed; subst eo
          show wpAny _ _ _ _ _ _
          refine wpAny_pure ?_
          show wpAny _ _ (ret Value.none) _ _ _
          refine wpAny_pure ⟨rfl, h4, tk4, rfl, hS4, fun b o hb e => ?_⟩
          have hb1 : b ≠ s.heap.objs.size := Nat.ne_of_lt hb
          have hb2 : b ≠ (s.heap.push { cls := .type "set", dict := none, data := .set #[] 0 (.fresh 0 0 led) }).objs.size := by
            rw [Heap.size_push]; exact Nat.ne_of_lt (Nat.lt_succ_of_lt hb)
          exact hm.heap b o (by simp only [List.mem_cons, List.mem_singleton, List.not_mem_nil, or_false, not_or]; exact ⟨hb1, hb2⟩) (Heap.get?_push_of_some _ (Heap.get?_push_of_some _ e))
      · cases r3 with
        | error e => exact hr3
        | ok fl3 =>
          cases fl3 with
          | ret r =>
            obtain ⟨rfl, h3, tk, rfl, hS3, hk3⟩ := hr3
            repeat (any_goals (first | assumption | wp_step))
            exact h _ _ hS3 hk3
          | _ => exact hr3.elim
    | _ => exact hr.elim
end

/-- how many signs of a text differ -/
def dd (l : List Nat) : Nat := (fmS (valOf (tx l)) l.length).length
def tLenSg (ta : TE) : TE := fun σ H Q => ta σ H fun x H1 => ∃ l : List Nat, x = .str (tx l) ∧ l.length ≤ 1000 ∧ Q (.int (dd l : Nat)) H1
theorem pe_lenSg {X : Cx} {a : Expr} {ta : TE} {p p2 q pos : Pos} (hc : X.calm = true) (hm : X.mg "len" = none) (hm2 : X.mg "set" = none) (ha : PE X a ta) (hg : Gl X "len" := by rfl) (hg2 : Gl X "set" := by rfl)
    (na : starEach [a] X.env = (false, eval a X.env) :: starEach [] X.env := by rfl) : PE X (.Call (.Name "len" p) [.Call (.Name "set" p2) [a] [] q] [] pos) (tLenSg ta) := by
  refine ⟨fun pins s σ H Q I h => ?_⟩
  refine Call_ (ld_blt I hg hm boot_len ?_)
  refine PyProof.Rows.callWith_builtin1 (PyProof.Rows.args_cons ?_ rfl) rfl rfl
  refine Call_ (ld_blt I hg2 hm2 boot_set ?_)
  refine PyProof.Rows.callWith_type1 (PyProof.Rows.args_cons (thn (ha.run pins s σ H _ I h) fun v s1 ⟨x, H1, I1, r1, q1⟩ => PyProof.Rows.args_nil ?_) na) na rfl
  obtain ⟨l, rfl, hl, q1⟩ := q1
  obtain ⟨t, rfl⟩ := r1
  have hz : (tx l).cps.size = l.length := by unfold tx; simp
  refine call_set_text (I1.ok.hd hc) (by rw [hz]; unfold scanBound; omega) fun h2 tk hS hk => ?_
  refine PyProof.Rows.args_nil ?_
  rw [hz] at hS
  obtain ⟨o, es, ep, t2, ho, hex, hd, r0, r2, r3, hf, hn⟩ := hS
  have I2 : Inv X pins σ H1 { s1 with heap := h2, toks := tk } := I1.kept fun b o e => hk b o (Heap.lt_size e) e
  have hle := fmS_le (valOf (tx l)) l.length
  refine call_len_set ho hex hd hf (by rw [hn]; omega) ⟨.int (dd l : Nat), H1, I2.tok _, ⟨_, by rw [hn]; rfl⟩, q1⟩

theorem any_of_mem {val : Nat → Str} : ∀ (i j : Nat), j < i → (fmS val i).any (· == val j) = true
  | 0, j, h => absurd h (Nat.not_lt_zero _)
  | i + 1, j, h => by
    rw [fmS_succ, stS_any]
    by_cases e : j = i
    · subst e; simp
    · rw [any_of_mem i j (by omega)]; rfl
theorem mem_of_any {val : Nat → Str} (k : Str) : ∀ (i : Nat), (fmS val i).any (· == k) = true → ∃ j, j < i ∧ k = val j
  | 0, h => by simp [fmS] at h
  | i + 1, h => by
    rw [fmS_succ, stS_any, Bool.or_eq_true] at h
    rcases h with h | h
    · obtain ⟨j, hj, e⟩ := mem_of_any k i h
      exact ⟨j, by omega, e⟩
    · exact ⟨i, by omega, of_decide_eq_true h⟩
theorem fmS_full {val : Nat → Str} : ∀ (i : Nat), (fmS val i).length = i ↔ ∀ a b, a < b → b < i → val a ≠ val b
  | 0 => ⟨fun _ a b h1 h2 => absurd h2 (Nat.not_lt_zero _), fun _ => rfl⟩
  | i + 1 => by
    have ih := fmS_full (val := val) i
    have le := fmS_le val i
    rw [fmS_succ, stS_len]
    constructor
    · intro h a b hab hb
      split at h
      · omega
      · rename_i hn
        have hfull : (fmS val i).length = i := by omega
        by_cases e : b = i
        · subst e
          intro z
          apply hn
          rw [← z]
          exact any_of_mem b a hab
        · exact ih.mp hfull a b hab (by omega)
    · intro h
      have hfull : (fmS val i).length = i := ih.mpr fun a b hab hb => h a b hab (by omega)
      split
      · rename_i hn
        obtain ⟨j, hj, e⟩ := mem_of_any (val i) i hn
        exact absurd e.symm (h j i hj (Nat.lt_succ_self _))
      · omega
theorem valOf_at {l : List Nat} {i : Nat} (hi : i < l.length) : valOf (tx l) i = ⟨#[l[i]]⟩ := by
  unfold valOf tx
  rw [Array.getD_eq_getD_getElem?, List.getElem?_toArray, List.getElem?_eq_getElem hi]
  rfl
theorem one_inj {a b : Nat} (h : (⟨#[a]⟩ : Str) = ⟨#[b]⟩) : a = b := by
  have h2 := congrArg (fun s : Str => s.cps.toList) h
  simpa using h2
theorem dd_full (l : List Nat) : dd l = l.length ↔ l.Nodup := by
  unfold dd
  rw [fmS_full]
  show _ ↔ List.Pairwise (· ≠ ·) l
  rw [List.pairwise_iff_getElem]
  constructor
  · intro h i j hi hj hij z
    refine h i j hij hj ?_
    rw [valOf_at hi, valOf_at hj, z]
  · intro h i j hij hj z
    have hi : i < l.length := by omega
    rw [valOf_at hi, valOf_at hj] at z
    exact h i j hi hj hij (one_inj z)
theorem dd_le (l : List Nat) : dd l ≤ l.length := fmS_le _ _
end SrX
/-! walking over what is known of the heap: F is known, the dice's list d apart -/
namespace Sr
open PySem PySem.Spec PyProof.Rows L2 SrX

abbrev Ex (H H1 : Hp) : Prop := L2.Same H H1
theorem exr (H : Hp) : Ex H H := Same.refl H
theorem ex_new {H : Hp} {p : Addr} {u : HO} (h : H p = none) : Ex H (upd H p u) := fun b o e => by
  rw [upd_ne (ne_of_none e h)]; exact e
theorem ex_mut {H H1 : Hp} {p : Addr} {u : HO} (e : Ex H H1) (h : H p = none) : Ex H (upd H1 p u) := fun b o q => by
  rw [upd_ne (ne_of_none q h)]; exact e b o q
theorem ex_upd {H H1 : Hp} {p : Addr} {u : HO} (e : Ex H H1) : Ex (upd H p u) (upd H1 p u) := fun b o q => by
  by_cases hb : b = p
  · subst hb; rw [upd_same] at q ⊢; exact q
  · rw [upd_ne hb] at q ⊢; exact e b o q
theorem ex_l {K : PySem.W.Frag} {H H1 : Hp} {a : Addr} {xs : List V} (e : Ex H H1) (h : SqL K H a xs) : SqL K H1 a xs := e.seq h
theorem ex_t {K : PySem.W.Frag} {H H1 : Hp} {a : Addr} {xs : List V} (e : Ex H H1) (h : SqT K H a xs) : SqT K H1 a xs := by
  rcases h with (h | ⟨o, h⟩) | h
  · exact .inl (.inl (e _ _ h))
  · exact .inl (.inr ⟨o, e _ _ h⟩)
  · exact .inr h
theorem sz {n : Nat} (h : n ≤ 100000) : n ≤ sizeLine := Nat.le_trans h (by decide)
theorem sz1 {n : Nat} (h : n < 100000) : n < sizeLine := Nat.lt_of_lt_of_le h (by decide)

/-- a list of dice stands at d -/
def Dc (H : Hp) (d : Addr) : Prop := ∃ ns : List Int, H d = some (.lst (ns.map V.int)) ∧ 2 ≤ ns.length ∧ ns.length ≤ 70
structure Wd (o : Option Addr) (F H : Hp) : Prop where
  ex : Ex F H
  dc : ∀ d, o = some d → F d = none ∧ Dc H d
theorem Dc.ex {H H1 : Hp} {d : Addr} (h : Dc H d) (e : Ex H H1) : Dc H1 d := by
  obtain ⟨ns, h1, h2⟩ := h
  exact ⟨ns, e _ _ h1, h2⟩
section
variable {o : Option Addr} {F F1 H H1 : Hp} {p : Addr} {u : HO}
theorem Wd.up (w : Wd o F H) (e : Ex H H1) : Wd o F H1 := ⟨w.ex.trans e, fun d h => ⟨(w.dc d h).1, (w.dc d h).2.ex e⟩⟩
theorem Wd.down (w : Wd o F H) (e : Ex F1 F) : Wd o F1 H := ⟨e.trans w.ex, fun d h => ⟨e.free (w.dc d h).1, (w.dc d h).2⟩⟩
theorem Wd.fr (w : Wd o F H) (n : H p = none) : F p = none := w.ex.free n
theorem Wd.ned (w : Wd o F H) (n : H p = none) : ∀ d, o = some d → d ≠ p := fun d h => by
  obtain ⟨ns, h1, _⟩ := (w.dc d h).2
  exact ne_of_none h1 n
theorem Wd.new (w : Wd o F H) (n : H p = none) (e : Ex H H1) (h : H1 p = some u) : Wd o (upd F p u) H1 := by
  refine ⟨fun b v q => ?_, fun d hd => ⟨?_, (w.dc d hd).2.ex e⟩⟩
  · by_cases hb : b = p
    · subst hb; rw [upd_same] at q; rw [← q]; exact h
    · rw [upd_ne hb] at q; exact e _ _ (w.ex _ _ q)
  · rw [upd_ne (w.ned n d hd)]; exact (w.dc d hd).1
theorem Wd.new1 (w : Wd o F H) (n : H p = none) : Wd o (upd F p u) (upd H p u) := w.new n (ex_new n) upd_same
theorem Wd.mut {v : HO} (w : Wd o F H) (h : F p = some v) : Wd o (upd F p u) (upd H p u) := by
  refine ⟨ex_upd w.ex, fun d hd => ?_⟩
  obtain ⟨f, ns, h1, h2⟩ := w.dc d hd
  have ne : d ≠ p := fun z => by rw [z, h] at f; cases f
  exact ⟨by rw [upd_ne ne]; exact f, ns, by rw [upd_ne ne]; exact h1, h2⟩
theorem Wd.l {K : PySem.W.Frag} {a : Addr} {xs : List V} (w : Wd o F H) (h : SqL K F a xs) : SqL K H a xs := ex_l w.ex h
theorem Wd.t {K : PySem.W.Frag} {a : Addr} {xs : List V} (w : Wd o F H) (h : SqT K F a xs) : SqT K H a xs := ex_t w.ex h
theorem Wd.bare (e : Ex F H) : Wd none F H := ⟨e, fun d h => by cases h⟩
end

def Wp {α : Type} (o : Option Addr) (k : Hp → (α → Hp → Prop) → Prop) (F : Hp) (P : α → Hp → Prop) : Prop :=
  ∀ H, Wd o F H → ∀ Q : α → Hp → Prop, (∀ v H1 F1, Wd o F1 H1 → P v F1 → Q v H1) → k H Q
def Go (o : Option Addr) (t : TS) (D : Ends) (σ : L2.St) (F : Hp) : Prop := ∀ H, Wd o F H → t D σ H
/-- what holds behind a turn -/
def Cl (o : Option Addr) (P : L2.St → Hp → Prop) : L2.St → Hp → Prop := fun σ H => ∃ F, Wd o F H ∧ P σ F

section
variable {o : Option Addr} {F : Hp} {σ : L2.St} {K : PySem.W.Frag} {α : Type}
theorem Wp.imp {k : Hp → (α → Hp → Prop) → Prop} {P P1 : α → Hp → Prop} (h : Wp o k F P1) (i : ∀ v F1, P1 v F1 → P v F1) : Wp o k F P := fun H w Q q => h H w Q fun v H1 F1 w1 p => q v H1 F1 w1 (i v F1 p)
theorem go_of {t : TS} {D : Ends} {H : Hp} (g : Go none t D σ H) : t D σ H := g H (Wd.bare (exr H))

theorem go_st {t : TS} {D : Ends} {H : Hp} {σ0 : L2.St} (e : σ0 = σ) (g : Go none t D σ H) : t D σ0 H := by subst e; exact go_of g

/-! ### expressions -/
variable {P : V → Hp → Prop} {ta tb tc te : TE} {x y z v : V} {r r2 : R2}
theorem wp_var {i : Nat} (h : σ[i]? = some (some v)) (q : P v F) : Wp o (tVar i σ) F P := fun H w Q k => ⟨v, h, k v H F w q⟩
theorem wp_c (q : P v F) : Wp o (tC v σ) F P := fun H w Q k => k v H F w q
theorem wp_op (h : Wp o (ta σ) F fun x F1 => Wp o (tb σ) F1 fun y F2 => Wp o (r x y) F2 P) : Wp o (tOp r ta tb σ) F P := fun H w Q k =>
  h H w _ fun x H1 F1 w1 h1 => h1 H1 w1 _ fun y H2 F2 w2 h2 => h2 H2 w2 Q k
theorem wp_un {r : V → Hp → VK → Prop} (h : Wp o (ta σ) F fun x F1 => Wp o (r x) F1 P) : Wp o (tUn r ta σ) F P := fun H w Q k =>
  h H w _ fun x H1 F1 w1 h1 => h1 H1 w1 Q k
theorem wp_chain (h : Wp o (ta σ) F fun x F1 => Wp o (tb σ) F1 fun y F2 => Wp o (r x y) F2 fun z F3 => ∃ k, z = .bl k ∧ (k = true → Wp o (tc σ) F3 fun w F4 => Wp o (r2 y w) F4 P) ∧ (k = false → P (.bl false) F3)) :
    Wp o (tChain r r2 ta tb tc σ) F P := fun H w Q k =>
  h H w _ fun x H1 F1 w1 h1 => h1 H1 w1 _ fun y H2 F2 w2 h2 => h2 H2 w2 _ fun z H3 F3 w3 ⟨b, e, ht, hf⟩ => ⟨b, e, by
    cases b with
    | true => rw [if_pos rfl]; exact ht rfl H3 w3 _ fun x4 H4 F4 w4 h4 => h4 H4 w4 Q k
    | false => rw [if_neg Bool.false_ne_true]; exact k _ H3 F3 w3 (hf rfl)⟩
theorem wp_ifE {tt : TT} (h : Wp o (tt σ) F fun b F1 => (b = true → Wp o (ta σ) F1 P) ∧ (b = false → Wp o (tb σ) F1 P)) : Wp o (tIf tt ta tb σ) F P := fun H w Q k =>
  h H w _ fun b H1 F1 w1 ⟨h1, h2⟩ => by
    cases b with
    | true => rw [if_pos rfl]; exact h1 rfl H1 w1 Q k
    | false => rw [if_neg Bool.false_ne_true]; exact h2 rfl H1 w1 Q k
theorem wp_andV (h : Wp o (ta σ) F fun x F1 => ∃ c, x = .bl c ∧ (c = true → Wp o (tb σ) F1 P) ∧ (c = false → P (.bl false) F1)) : Wp o (tAndV ta tb σ) F P := fun H w Q k =>
  h H w _ fun x H1 F1 w1 ⟨c, e, h1, h2⟩ => ⟨c, e, by
    cases c with
    | true => rw [if_pos rfl]; exact h1 rfl H1 w1 Q k
    | false => rw [if_neg Bool.false_ne_true]; exact k _ H1 F1 w1 (h2 rfl)⟩
theorem wp_orV (h : Wp o (ta σ) F fun x F1 => ∃ c, x = .bl c ∧ (c = true → P (.bl true) F1) ∧ (c = false → Wp o (tb σ) F1 P)) : Wp o (tOrV ta tb σ) F P := fun H w Q k =>
  h H w _ fun x H1 F1 w1 ⟨c, e, h1, h2⟩ => ⟨c, e, by
    cases c with
    | true => rw [if_pos rfl]; exact k _ H1 F1 w1 (h1 rfl)
    | false => rw [if_neg Bool.false_ne_true]; exact h2 rfl H1 w1 Q k⟩
theorem wp_notV (h : Wp o (ta σ) F fun x F1 => ∃ c, x = .bl c ∧ P (.bl (!c)) F1) : Wp o (tNotV ta σ) F P := fun H w Q k =>
  h H w _ fun x H1 F1 w1 ⟨c, e, h1⟩ => ⟨c, e, k _ H1 F1 w1 h1⟩
/-! tests -/
variable {T : Bool → Hp → Prop} {tt tu : TT}
theorem wp_test (h : Wp o (te σ) F fun x F1 => ∃ k, x = .bl k ∧ T k F1) : Wp o (tTest te σ) F T := fun H w Q k => h H w _ fun x H1 F1 w1 ⟨b, e, p⟩ => ⟨b, e, k b H1 F1 w1 p⟩
theorem wp_B (h : Wp o (te σ) F fun x F1 => ∃ k, x = .bl k ∧ T k F1) : Wp o (tB te σ) F T := fun H w Q k => h H w _ fun x H1 F1 w1 ⟨b, e, p⟩ => ⟨b, e, k b H1 F1 w1 p⟩
theorem wp_and (h : Wp o (tt σ) F fun b F1 => (b = true → Wp o (tu σ) F1 T) ∧ (b = false → T false F1)) : Wp o (tAnd tt tu σ) F T := fun H w Q k =>
  h H w _ fun b H1 F1 w1 ⟨h1, h2⟩ => by
    cases b with
    | true => rw [if_pos rfl]; exact h1 rfl H1 w1 Q k
    | false => rw [if_neg Bool.false_ne_true]; exact k _ H1 F1 w1 (h2 rfl)
theorem wp_or (h : Wp o (tt σ) F fun b F1 => (b = true → T true F1) ∧ (b = false → Wp o (tu σ) F1 T)) : Wp o (tOr tt tu σ) F T := fun H w Q k =>
  h H w _ fun b H1 F1 w1 ⟨h1, h2⟩ => by
    cases b with
    | true => rw [if_pos rfl]; exact k _ H1 F1 w1 (h1 rfl)
    | false => rw [if_neg Bool.false_ne_true]; exact h2 rfl H1 w1 Q k
/-- and, or: one way for both noes (yeses) -/
theorem wp_andS {X Y : Hp → Prop} (R : Hp → Prop) (h : Wp o (tt σ) F fun b F1 => R F1 ∧ (b = true → Wp o (tu σ) F1 fun c F2 => R F2 ∧ (c = true → X F2))) (e : ∀ F1, R F1 → Y F1) :
    Wp o (tAnd tt tu σ) F fun b F1 => (b = true → X F1) ∧ (b = false → Y F1) := fun H w Q k => h H w _ fun b H1 F1 w1 ⟨r, h1⟩ => by
  cases b with
  | true => rw [if_pos rfl]; exact h1 rfl H1 w1 Q fun c H2 F2 w2 ⟨r2, x⟩ => k c H2 F2 w2 ⟨x, fun _ => e F2 r2⟩
  | false => rw [if_neg Bool.false_ne_true]; exact k _ H1 F1 w1 ⟨fun z => (by cases z), fun _ => e F1 r⟩
theorem wp_orS {X Y : Hp → Prop} (R : Hp → Prop) (h : Wp o (tt σ) F fun b F1 => R F1 ∧ (b = false → Wp o (tu σ) F1 fun c F2 => R F2 ∧ (c = false → Y F2))) (e : ∀ F1, R F1 → X F1) :
    Wp o (tOr tt tu σ) F fun b F1 => (b = true → X F1) ∧ (b = false → Y F1) := fun H w Q k => h H w _ fun b H1 F1 w1 ⟨r, h1⟩ => by
  cases b with
  | true => rw [if_pos rfl]; exact k _ H1 F1 w1 ⟨fun _ => e F1 r, fun z => (by cases z)⟩
  | false => rw [if_neg Bool.false_ne_true]; exact h1 rfl H1 w1 Q fun c H2 F2 w2 ⟨r2, x⟩ => k c H2 F2 w2 ⟨fun _ => e F2 r2, x⟩
theorem wp_not (h : Wp o (tt σ) F fun b F1 => T (!b) F1) : Wp o (tNot tt σ) F T := fun H w Q k => h H w _ fun b H1 F1 w1 p => k _ H1 F1 w1 p
theorem wp_yes (q : T true F) : Wp o (tYes σ) F T := fun H w Q k => k _ H F w q
/-! arguments, displays, calls -/
variable {L : List V → Hp → Prop} {tl tr : TA}
theorem wp_nil (q : L [] F) : Wp o (tNil σ) F L := fun H w Q k => k _ H F w q
theorem wp_cons (h : Wp o (ta σ) F fun x F1 => Wp o (tr σ) F1 fun xs F2 => L (x :: xs) F2) : Wp o (tCons ta tr σ) F L := fun H w Q k =>
  h H w _ fun x H1 F1 w1 h1 => h1 H1 w1 _ fun xs H2 F2 w2 h2 => k _ H2 F2 w2 h2
theorem wp_tup (h : Wp o (tl σ) F fun vs F1 => vs.length ≤ 100000 ∧ ∀ p, F1 p = none → P (.ref p) (upd F1 p (.tup vs))) : Wp o (tTup tl σ) F P := fun H w Q k =>
  h H w _ fun vs H1 F1 w1 ⟨hl, h1⟩ => ⟨sz hl, fun p hp => k _ _ _ (w1.new1 hp) (h1 p (w1.fr hp))⟩
theorem wp_lst (h : Wp o (tl σ) F fun vs F1 => vs.length ≤ 100000 ∧ ∀ p, F1 p = none → P (.ref p) (upd F1 p (.lst vs))) : Wp o (tLst tl σ) F P := fun H w Q k =>
  h H w _ fun vs H1 F1 w1 ⟨hl, h1⟩ => ⟨sz hl, fun p hp => k _ _ _ (w1.new1 hp) (h1 p (w1.fr hp))⟩
theorem wp_call {sp : Sp} {dvs : List V} {E : XK} (h : Wp o (tl σ) F fun vs F1 => Wp o (fun H Q => sp (vs ++ dvs) H Q E) F1 P) : Wp o (tCall sp dvs E tl σ) F P := fun H w Q k =>
  h H w _ fun vs H1 F1 w1 h1 => h1 H1 w1 Q k
theorem wp_cb {r : List V → Hp → VK → Prop} (h : Wp o (tl σ) F fun vs F1 => Wp o (r vs) F1 P) : Wp o (tCB r tl σ) F P := fun H w Q k =>
  h H w _ fun vs H1 F1 w1 h1 => h1 H1 w1 Q k
/-- x.m(..), x a list -/
theorem wp_bmL {r : V → List V → Hp → VK → Prop} (h : Wp o (ta σ) F fun x F1 => ∃ a xs, x = .ref a ∧ SqL K F1 a xs ∧ Wp o (tl σ) F1 fun vs F2 => Wp o (r (.ref a) vs) F2 P) : Wp o (tBM K "list" r ta tl σ) F P := fun H w Q k =>
  h H w _ fun x H1 F1 w1 ⟨a, xs, e, hs, h1⟩ => by
    subst e
    exact ⟨.inl ⟨rfl, xs, w1.l hs⟩, h1 H1 w1 _ fun vs H2 F2 w2 h2 => h2 H2 w2 Q k⟩
theorem wp_bm0L {r : V → List V → Hp → VK → Prop} (h : Wp o (ta σ) F fun x F1 => ∃ a xs, x = .ref a ∧ SqL K F1 a xs ∧ Wp o (r (.ref a) []) F1 P) : Wp o (tBM0 K "list" r ta σ) F P := fun H w Q k =>
  h H w _ fun x H1 F1 w1 ⟨a, xs, e, hs, h1⟩ => by
    subst e
    exact ⟨.inl ⟨rfl, xs, w1.l hs⟩, h1 H1 w1 Q k⟩
theorem wp_m1 {r : V → List V → Hp → VK → Prop} (h : Wp o (ta σ) F fun x F1 => (∃ a, x = .str a) ∧ Wp o (tb σ) F1 fun y F2 => Wp o (r x [y]) F2 P) : Wp o (tM1 r ta tb σ) F P := fun H w Q k =>
  h H w _ fun x H1 F1 w1 ⟨e, h1⟩ => ⟨e, h1 H1 w1 _ fun y H2 F2 w2 h2 => h2 H2 w2 Q k⟩
theorem wp_bmS {r : V → List V → Hp → VK → Prop} (h : Wp o (ta σ) F fun x F1 => ∃ a, x = .str a ∧ Wp o (tl σ) F1 fun vs F2 => Wp o (r x vs) F2 P) : Wp o (tBM K "str" r ta tl σ) F P := fun H w Q k =>
  h H w _ fun x H1 F1 w1 ⟨a, e, h1⟩ => by
    subst e
    exact ⟨rfl, h1 H1 w1 _ fun vs H2 F2 w2 h2 => h2 H2 w2 Q k⟩
/-! slices -/
variable {O : Option Int → Hp → Prop}
theorem wp_noPart (q : O none F) : Wp o (tNoPart σ) F O := fun H w Q k => k _ H F w q
theorem wp_part (h : Wp o (te σ) F fun x F1 => ∃ i, x = .int i ∧ O (some i) F1) : Wp o (tPart te σ) F O := fun H w Q k => h H w _ fun x H1 F1 w1 ⟨i, e, p⟩ => ⟨i, e, k _ H1 F1 w1 p⟩
theorem wp_sl {r : V → Option Int → Option Int → Hp → VK → Prop} {ll lh : TO} (h : Wp o (te σ) F fun x F1 => Wp o (ll σ) F1 fun a F2 => Wp o (lh σ) F2 fun b F3 => Wp o (r x a b) F3 P) : Wp o (tSl r te ll lh σ) F P := fun H w Q k =>
  h H w _ fun x H1 F1 w1 h1 => h1 H1 w1 _ fun a H2 F2 w2 h2 => h2 H2 w2 _ fun b H3 F3 w3 h3 => h3 H3 w3 Q k

/-! ### operators by values -/
def rAddP : R2 := fun x y H Q => rI0 (fun i j => .int (i + j)) x y H Q ∨ (∃ i j, x = .str i ∧ y = .str j ∧ i.length + j.length ≤ sizeLine ∧ Q (.str (i ++ j)) H) ∨ rCat x y H Q
theorem op_addP {X : Cx} : OpR X (binaryOp .Add) rAddP := op_add.or (op_add_str.or op_cat)
theorem wp_addI {i j : Int} (q : P (.int (i + j)) F) : Wp o (rAddP (.int i) (.int j)) F P := fun H w Q k => .inl ⟨i, j, rfl, rfl, k _ H F w q⟩
theorem tx_app (a b : List Nat) : tx a ++ tx b = tx (a ++ b) := by
  show (⟨a.toArray ++ b.toArray⟩ : Str) = ⟨(a ++ b).toArray⟩
  simp
theorem tx_len (a : List Nat) : (tx a).length = a.length := by
  show a.toArray.size = a.length
  simp
theorem wp_addS {i j : List Nat} (h : i.length + j.length ≤ 100000) (q : P (.str (tx (i ++ j))) F) : Wp o (rAddP (.str (tx i)) (.str (tx j))) F P := fun H w Q k =>
  .inr (.inl ⟨tx i, tx j, rfl, rfl, by rw [tx_len, tx_len]; exact sz h, by rw [tx_app]; exact k _ H F w q⟩)
theorem wp_addL {a b : Addr} {xs ys : List V} (ha : F a = some (.lst xs)) (hb : F b = some (.lst ys)) (h : xs.length + ys.length ≤ 100000) (q : ∀ p, F p = none → P (.ref p) (upd F p (.lst (xs ++ ys)))) : Wp o (rAddP (.ref a) (.ref b)) F P := fun H w Q k =>
  .inr (.inr ⟨a, b, xs, ys, rfl, rfl, w.ex _ _ ha, w.ex _ _ hb, sz h, fun p hp => k _ _ _ (w.new1 hp) (q p (w.fr hp))⟩)
def rMulP : R2 := fun x y H Q => rI CMul (fun i j => .int (i * j)) x y H Q ∨ rRep x y H Q
theorem op_mulP {X : Cx} : OpR X (binaryOp .Mult) rMulP := op_mul.or op_rep
theorem wp_mulI {i j : Int} (h : CMul i j) (q : P (.int (i * j)) F) : Wp o (rMulP (.int i) (.int j)) F P := fun H w Q k => .inl ⟨i, j, rfl, rfl, h, k _ H F w q⟩
theorem wp_rep {a : Addr} {n : Nat} {xs : List V} (ha : F a = some (.lst xs)) (h : xs.length * n ≤ 100000) (hn : n ≤ 100000) (q : ∀ p, F p = none → P (.ref p) (upd F p (.lst (List.replicate n xs).flatten))) : Wp o (rMulP (.ref a) (.int (n : Int))) F P := fun H w Q k =>
  .inr ⟨a, n, xs, rfl, rfl, w.ex _ _ ha, by omega, by omega, by rw [Int.toNat_natCast]; exact sz h, fun p hp => by
    rw [Int.toNat_natCast]
    exact k _ _ _ (w.new1 hp) (q p (w.fr hp))⟩
abbrev rSub : R2 := rI0 fun i j => .int (i - j)
abbrev rLt : R2 := rI0 fun i j => .bl (decide (i < j))
abbrev rLe : R2 := rI0 fun i j => .bl (decide (i ≤ j))
theorem wp_i0 {g : Int → Int → V} {i j : Int} (q : P (g i j) F) : Wp o (rI0 g (.int i) (.int j)) F P := fun H w Q k => ⟨i, j, rfl, rfl, k _ H F w q⟩
theorem wp_i {C : Int → Int → Prop} {g : Int → Int → V} {i j : Int} (h : C i j) (q : P (g i j) F) : Wp o (rI C g (.int i) (.int j)) F P := fun H w Q k => ⟨i, j, rfl, rfl, h, k _ H F w q⟩
theorem wp_u {g : Int → V} {i : Int} (q : P (g i) F) : Wp o (rU g (.int i)) F P := fun H w Q k => ⟨i, rfl, k _ H F w q⟩
def rEqP (K : PySem.W.Frag) : R2 := fun x y H Q => rEq x y H Q ∨ rEqD K x y H Q
def rNeP (K : PySem.W.Frag) : R2 := fun x y H Q => rNe x y H Q ∨ rNeD K x y H Q
theorem op_eqP {X : Cx} (hu : X.A.units + 64 < cLine) : OpR X (compareOp .Eq) (rEqP X.K) := op_eq.or (op_eqD hu)
theorem op_neP {X : Cx} (hu : X.A.units + 64 < cLine) : OpR X (compareOp .NotEq) (rNeP X.K) := op_ne.or (op_neD hu)
theorem decI {i j : Int} : decide (V.int i = V.int j) = decide (i = j) := by simp
theorem decS {i j : List Nat} : decide (V.str (tx i) = V.str (tx j)) = decide (i = j) := by
  have h : (tx i = tx j) ↔ i = j := ⟨fun e => by
    have e2 := congrArg (fun s : Str => s.cps.toList) e
    simpa [tx] using e2, fun e => by rw [e]⟩
  simp [h]
theorem wp_eqI {i j : Int} (q : P (.bl (decide (i = j))) F) : Wp o (rEqP K (.int i) (.int j)) F P := fun H w Q k => .inl ⟨rfl, by rw [decI]; exact k _ H F w q⟩
theorem wp_neI {i j : Int} (q : P (.bl (!decide (i = j))) F) : Wp o (rNeP K (.int i) (.int j)) F P := fun H w Q k => .inl ⟨rfl, by rw [decI]; exact k _ H F w q⟩
theorem wp_eqS {i j : List Nat} (q : P (.bl (decide (i = j))) F) : Wp o (rEqP K (.str (tx i)) (.str (tx j))) F P := fun H w Q k => .inl ⟨rfl, by rw [decS]; exact k _ H F w q⟩
theorem wp_neS {i j : List Nat} (q : P (.bl (!decide (i = j))) F) : Wp o (rNeP K (.str (tx i)) (.str (tx j))) F P := fun H w Q k => .inl ⟨rfl, by rw [decS]; exact k _ H F w q⟩
theorem wp_isN {x : V} (q : P (.bl (decide (x = .non))) F) : Wp o (fun H Q => V.non = .non ∧ Q (.bl (decide (x = .non))) H) F P := fun H w Q k => ⟨rfl, k _ H F w q⟩
/-! data -/
mutual
theorem Dp.up {H H1 : Hp} (e : Ex H H1) : ∀ {v : V} {d : PyData}, Dp K H v d → Dp K H1 v d
  | _, _, .non => .non
  | _, _, .bl b => .bl b
  | _, _, .int i => .int i
  | _, _, .str x => .str x
  | _, _, .lst h a => .lst (ex_l e h) (DpAll.up e a)
  | _, _, .tup h a => .tup (ex_t e h) (DpAll.up e a)
theorem DpAll.up {H H1 : Hp} (e : Ex H H1) : ∀ {vs : List V} {ds : List PyData}, DpAll K H vs ds → DpAll K H1 vs ds
  | _, _, .nil => .nil
  | _, _, .cons a b => .cons (Dp.up e a) (DpAll.up e b)
end
theorem wp_eqD {d e : PyData} (h1 : Dp K F x d) (h2 : Dp K F y e) (s1 : SeqAt.shaped d = true) (s2 : SeqAt.shaped e = true) (q : P (.bl (PyData.eqv d e)) F) : Wp o (rEqP K x y) F P := fun H w Q k =>
  .inr ⟨d, e, Dp.up w.ex h1, Dp.up w.ex h2, s1, s2, k _ H F w q⟩
theorem wp_neD {d e : PyData} (h1 : Dp K F x d) (h2 : Dp K F y e) (s1 : SeqAt.shaped d = true) (s2 : SeqAt.shaped e = true) (q : P (.bl (!PyData.eqv d e)) F) : Wp o (rNeP K x y) F P := fun H w Q k =>
  .inr ⟨d, e, Dp.up w.ex h1, Dp.up w.ex h2, s1, s2, k _ H F w q⟩
def rInP (K : PySem.W.Frag) : R2 := fun x y H Q => (∃ (c : Nat) (z : Str), x = .str ⟨#[c]⟩ ∧ y = .str z ∧ Q (.bl (decide (c ∈ z.cps.toList))) H) ∨ rIn K false x y H Q
def rNiP (K : PySem.W.Frag) : R2 := fun x y H Q => (∃ (c : Nat) (z : Str), x = .str ⟨#[c]⟩ ∧ y = .str z ∧ Q (.bl (!decide (c ∈ z.cps.toList))) H) ∨ rIn K true x y H Q
theorem op_inP {X : Cx} : OpR X (compareOp .In) (rInP X.K) := op_in_sign.or op_in_seq
theorem op_niP {X : Cx} : OpR X (compareOp .NotIn) (rNiP X.K) := op_notIn_sign.or op_notIn_seq
theorem wp_inS {c : Nat} {l : List Nat} (q : P (.bl (decide (c ∈ l))) F) : Wp o (rInP K (sg c) (.str (tx l))) F P := fun H w Q k => .inl ⟨c, tx l, rfl, rfl, k _ H F w q⟩
theorem wp_niS {c : Nat} {l : List Nat} (q : P (.bl (!decide (c ∈ l))) F) : Wp o (rNiP K (sg c) (.str (tx l))) F P := fun H w Q k => .inl ⟨c, tx l, rfl, rfl, k _ H F w q⟩
theorem wp_niT {p : Addr} {xs : List V} (h : SqT K F p xs) (hx : flatV x = true) (ha : xs.all flatV = true) (q : P (.bl (!inV x xs)) F) : Wp o (rNiP K x (.ref p)) F P := fun H w Q k =>
  .inr ⟨p, xs, rfl, .inr (w.t h), hx, ha, k _ H F w q⟩
/-! subscripts -/
theorem wp_ixL {p : Addr} {xs : List V} {i : Int} (h : SqL K F p xs) (ha : atI xs i = some v) (q : P v F) : Wp o (rIx K (.ref p) (.int i)) F P := fun H w Q k => .inl ⟨p, xs, i, v, rfl, rfl, w.l h, ha, k _ H F w q⟩
theorem wp_ixT {p : Addr} {xs : List V} {i : Int} (h : SqT K F p xs) (ha : atI xs i = some v) (q : P v F) : Wp o (rIx K (.ref p) (.int i)) F P := fun H w Q k => .inr (.inl ⟨p, xs, i, v, rfl, rfl, w.t h, ha, k _ H F w q⟩)
theorem wp_ixS {l : List Nat} {i : Int} {c : Nat} (h : l.length ≤ 100000) (ha : atI l i = some c) (q : P (sg c) F) : Wp o (rIx K (.str (tx l)) (.int i)) F P := fun H w Q k =>
  .inr (.inr ⟨tx l, i, c, rfl, rfl, by rw [tx_len]; exact sz h, ha, k _ H F w q⟩)
def cutN (l : List Nat) (lo hi : Option Int) : List Nat := (l.drop (HT.sIx l.length 0 lo)).take (HT.sIx l.length l.length hi - HT.sIx l.length 0 lo)
def rSlP (K : PySem.W.Frag) : V → Option Int → Option Int → Hp → VK → Prop := fun x a b H Q => rSlL K x a b H Q ∨ rSlS x a b H Q
theorem sl_P {X : Cx} : SlR X (rSlP X.K) := sl_list.or sl_str
theorem wp_slL {p : Addr} {xs : List V} {a b : Option Int} (h : SqL K F p xs) (q : ∀ p, F p = none → P (.ref p) (upd F p (.lst (cutV xs a b)))) : Wp o (rSlP K (.ref p) a b) F P := fun H w Q k =>
  .inl ⟨p, xs, rfl, w.l h, fun p hp => k _ _ _ (w.new1 hp) (q p (w.fr hp))⟩
theorem wp_slS {l : List Nat} {a b : Option Int} (h : l.length ≤ 100000) (q : P (.str (tx (cutN l a b))) F) : Wp o (rSlP K (.str (tx l)) a b) F P := fun H w Q k =>
  .inr ⟨tx l, rfl, by rw [tx_len]; exact sz h, by
    have e : cutS (tx l) a b = tx (cutN l a b) := by
      unfold cutS cutN tx
      simp only [Str.length, List.size_toArray]
    rw [e]; exact k _ H F w q⟩
/-! built-ins -/
abbrev rLenV (K : PySem.W.Frag) : List V → Hp → VK → Prop := fun xs H Q => ∃ x n, xs = [x] ∧ LenV K x H n ∧ Q (.int n) H
theorem wp_lenL {p : Addr} {xs : List V} (h : SqL K F p xs) (q : P (.int (xs.length : Nat)) F) : Wp o (rLenV K [.ref p]) F P := fun H w Q k => ⟨_, xs.length, rfl, .inl ⟨xs, w.l h, rfl⟩, k _ H F w q⟩
theorem wp_lenT {p : Addr} {xs : List V} (h : SqT K F p xs) (q : P (.int (xs.length : Nat)) F) : Wp o (rLenV K [.ref p]) F P := fun H w Q k => ⟨_, xs.length, rfl, .inr ⟨xs, w.t h, rfl⟩, k _ H F w q⟩
theorem wp_lenS {l : List Nat} (h : l.length ≤ 100000) (q : P (.int (l.length : Nat)) F) : Wp o (rLenV K [.str (tx l)]) F P := fun H w Q k => ⟨_, l.length, rfl, ⟨by rw [tx_len]; exact sz h, (tx_len l).symm⟩, k _ H F w q⟩
def rListP (K : PySem.W.Frag) : List V → Hp → VK → Prop := fun xs H Q => (∃ p ys, xs = [.ref p] ∧ (SqL K H p ys ∨ SqT K H p ys) ∧ ∀ l, H l = none → Q (.ref l) (upd H l (.lst ys))) ∨
  (∃ z : Str, xs = [.str z] ∧ z.length ≤ sizeLine ∧ ∀ q, H q = none → Q (.ref q) (upd H q (.lst (sgs z))))
theorem call_listP {X : Cx} (hc : X.calm = true) : CallR X (.type "list") (rListP X.K) := call_list_of.or (call_list_sg hc)
theorem wp_listL {p : Addr} {xs : List V} (h : SqL K F p xs) (q : ∀ p, F p = none → P (.ref p) (upd F p (.lst xs))) : Wp o (rListP K [.ref p]) F P := fun H w Q k =>
  .inl ⟨p, xs, rfl, .inl (w.l h), fun p hp => k _ _ _ (w.new1 hp) (q p (w.fr hp))⟩
theorem wp_listS {l : List Nat} (h : l.length ≤ 100000) (q : ∀ p, F p = none → P (.ref p) (upd F p (.lst (l.map sg)))) : Wp o (rListP K [.str (tx l)]) F P := fun H w Q k =>
  .inr ⟨tx l, rfl, by rw [tx_len]; exact sz h, fun p hp => k _ _ _ (w.new1 hp) (q p (w.fr hp))⟩
theorem wp_lenSg (h : Wp o (ta σ) F fun x F1 => ∃ l : List Nat, x = .str (tx l) ∧ l.length ≤ 1000 ∧ P (.int (dd l : Nat)) F1) : Wp o (tLenSg ta σ) F P := fun H w Q k =>
  h H w _ fun x H1 F1 w1 ⟨l, e, hl, p⟩ => ⟨l, e, hl, k _ H1 F1 w1 p⟩
end

/-! ### what a def hands back -/
/-- a new object -/
def RetN (u : HO) (H : Hp) (Q : VK) : Prop := ∀ p H1, H p = none → Ex H H1 → H1 p = some u → Q (.ref p) H1
/-- a value -/
def RetV (v : V) (H : Hp) (Q : VK) : Prop := ∀ H1, Ex H H1 → Q v H1
section
variable {o : Option Addr} {F H : Hp} {P : V → Hp → Prop} {Q : VK} {u : HO} {v : V}
theorem RetN.use (w : Wd o F H) (q : ∀ p, F p = none → P (.ref p) (upd F p u)) (k : ∀ v H1 F1, Wd o F1 H1 → P v F1 → Q v H1) : RetN u H Q := fun p H1 n e h => k _ _ _ (w.new n e h) (q p (w.fr n))
theorem RetV.use (w : Wd o F H) (q : P v F) (k : ∀ v H1 F1, Wd o F1 H1 → P v F1 → Q v H1) : RetV v H Q := fun H1 e => k _ _ _ (w.up e) q
theorem RetN.out {p : Addr} {F1 : Hp} (k : RetN u H Q) (e : Ex H F1) (n : H p = none) (h : F1 p = some u) : ∀ H1, Wd o F1 H1 → Q (.ref p) H1 := fun H1 w => k p H1 n (e.trans w.ex) (w.ex _ _ h)
theorem RetV.out {F1 : Hp} (k : RetV v H Q) (e : Ex H F1) : ∀ H1, Wd o F1 H1 → Q v H1 := fun H1 w => k H1 (e.trans w.ex)
end

/-! ### statements -/
section
variable {o : Option Addr} {F : Hp} {σ : L2.St} {K : PySem.W.Frag} {D : Ends} {te ta tb : TE} {tt : TT} {tu tw tz : TS} {g : TG} {tl : TA}
theorem go_set {i : Nat} (h : Wp o (te σ) F fun v F1 => Go o tz D (σ.set i (some v)) F1) : Go o (tSeq (tAsg te (gName i)) tz) D σ F := fun H w => h H w _ fun v H1 F1 w1 k => k H1 w1
theorem go_asg (h : Wp o (te σ) F fun v F1 => Wp o (g v σ) F1 fun σ1 F2 => Go o tz D σ1 F2) : Go o (tSeq (tAsg te g) tz) D σ F := fun H w => h H w _ fun v H1 F1 w1 k => k H1 w1 _ fun σ1 H2 F2 w2 k2 => k2 H2 w2
theorem go_if (h : Wp o (tt σ) F fun b F1 => (b = true → Go o tu { D with nx := tz D } σ F1) ∧ (b = false → Go o tw { D with nx := tz D } σ F1)) : Go o (tSeq (tIfS tt tu tw) tz) D σ F := fun H w => h H w _ fun b H1 F1 w1 ⟨h1, h2⟩ => by
  cases b with
  | true => rw [if_pos rfl]; exact h1 rfl H1 w1
  | false => rw [if_neg Bool.false_ne_true]; exact h2 rfl H1 w1
theorem go_ret (h : Wp o (te σ) F fun v F1 => ∀ H, Wd o F1 H → D.rt v H) : Go o (tSeq (tRet te) tz) D σ F := fun H w => h H w _ fun v H1 F1 w1 k => k H1 w1
theorem go_drop (h : Wp o (te σ) F fun v F1 => Go o tz D σ F1) : Go o (tSeq (tDrop te) tz) D σ F := fun H w => h H w _ fun v H1 F1 w1 k => k H1 w1
theorem go_never (h : False) : Go o (tSeq tNever tz) D σ F := h.elim
theorem go_next (h : ∀ H, Wd o F H → D.nx σ H) : Go o tNext D σ F := h
/-- the end of a branch: on with what is behind the if -/
theorem go_back {D1 : Ends} (h : Go o tz D1 σ F) : Go o tNext { D with nx := tz D1 } σ F := h
/-- the end of a loop's turn -/
theorem go_turn {P : L2.St → Hp → Prop} (hD : D.nx = Cl o P) (h : P σ F) : Go o tNext D σ F := fun H w => by
  show D.nx σ H
  rw [hD]
  exact ⟨F, w, h⟩
theorem go_turnW {P : L2.St → Hp → Prop} (h : P σ F) : ∀ H, Wd o F H → Cl o P σ H := fun H w => ⟨F, w, h⟩
/-! targets -/
variable {P : L2.St → Hp → Prop} {v : V} {vs : List V} {gs : TGs}
theorem wp_gName {i : Nat} (q : P (σ.set i (some v)) F) : Wp o (gName i v σ) F P := fun H w Q k => k _ H F w q
theorem wp_gTup {n : Nat} {a : Addr} (h : SqT K F a vs) (hl : vs.length = n) (q : Wp o (gs vs σ) F P) : Wp o (gTup K n gs (.ref a) σ) F P := fun H w Q k => ⟨a, vs, rfl, w.t h, hl, q H w Q k⟩
theorem wp_gCons (h : Wp o (g v σ) F fun σ1 F1 => Wp o (gs vs σ1) F1 P) : Wp o (gCons g gs (v :: vs) σ) F P := fun H w Q k => ⟨v, vs, rfl, h H w _ fun σ1 H1 F1 w1 h1 => h1 H1 w1 Q k⟩
theorem wp_gNil (q : P σ F) : Wp o (gNil [] σ) F P := fun H w Q k => ⟨rfl, k _ H F w q⟩
theorem wp_gSetL (h : Wp o (ta σ) F fun x F1 => Wp o (tb σ) F1 fun y F2 => ∃ a xs i j, x = .ref a ∧ y = .int i ∧ F2 a = some (.lst xs) ∧ ixN xs.length i = some j ∧ P σ (upd F2 a (.lst (xs.set j v)))) : Wp o (gSub ta tb rSetL v σ) F P := fun H w Q k =>
  h H w _ fun x H1 F1 w1 h1 => h1 H1 w1 _ fun y H2 F2 w2 ⟨a, xs, i, j, e1, e2, hf, hj, p⟩ => ⟨a, xs, i, j, e1, e2, w2.ex _ _ hf, hj, k _ _ _ (w2.mut hf) p⟩
/-! list methods as statements -/
variable {R : V → Hp → Prop}
theorem wp_append {a : Addr} {xs : List V} {x : V} (h : F a = some (.lst xs)) (hz : xs.length < 100000) (q : R .non (upd F a (.lst (xs ++ [x])))) : Wp o (rAppend (.ref a) [x]) F R := fun H w Q k =>
  ⟨a, xs, x, rfl, rfl, w.ex _ _ h, sz1 hz, k _ _ _ (w.mut h) q⟩
theorem wp_clear {a : Addr} {xs : List V} (h : F a = some (.lst xs)) (q : R .non (upd F a (.lst []))) : Wp o (rClear (.ref a) []) F R := fun H w Q k =>
  ⟨a, xs, rfl, rfl, w.ex _ _ h, k _ _ _ (w.mut h) q⟩
/-! loops -/
/-- over a list -/
theorem go_forL (Iv : Nat → L2.St → Hp → Prop) (h : Wp o (te σ) F fun x F1 => ∃ a xs, x = .ref a ∧ SqL K F1 a xs ∧ Iv 0 σ F1 ∧ (∀ i σ1 F2, i ≤ xs.length → Iv i σ1 F2 → SqL K F2 a xs) ∧
    (∀ i y σ1 F2, xs[i]? = some y → Iv i σ1 F2 → Wp o (g y σ1) F2 fun σ2 F3 => Go o tu { D with nx := Cl o (Iv (i + 1)), ct := Cl o (Iv (i + 1)), bk := tz D } σ2 F3) ∧ (∀ σ1 F2, Iv xs.length σ1 F2 → Go o tz D σ1 F2)) :
    Go o (tSeq (tFor (iList K te) g tu) tz) D σ F := fun H w => h H w _ fun x H1 F1 w1 ⟨a, xs, e, hs, h0, hl, ht, hd⟩ => ⟨a, e, ⟨xs, w1.l hs⟩,
  for_list (D := { D with nx := tz D }) (fun i => Cl o (Iv i)) ⟨F1, w1, h0⟩ (fun i σ1 H2 hi ⟨F2, w2, p⟩ => w2.l (hl i σ1 F2 hi p)) (fun i y σ1 H2 hy ⟨F2, w2, p⟩ => ht i y σ1 F2 hy p H2 w2 _ fun σ2 H3 F3 w3 k => k H3 w3) fun σ1 H2 ⟨F2, w2, p⟩ => hd σ1 F2 p H2 w2⟩
/-- .. the invariant chosen when the list is known -/
theorem go_forLx (h : Wp o (te σ) F fun x F1 => ∃ a xs, x = .ref a ∧ SqL K F1 a xs ∧ ∃ Iv : Nat → L2.St → Hp → Prop, Iv 0 σ F1 ∧ (∀ i σ1 F2, i ≤ xs.length → Iv i σ1 F2 → SqL K F2 a xs) ∧
    (∀ i y σ1 F2, xs[i]? = some y → Iv i σ1 F2 → Wp o (g y σ1) F2 fun σ2 F3 => Go o tu { D with nx := Cl o (Iv (i + 1)), ct := Cl o (Iv (i + 1)), bk := tz D } σ2 F3) ∧ (∀ σ1 F2, Iv xs.length σ1 F2 → Go o tz D σ1 F2)) :
    Go o (tSeq (tFor (iList K te) g tu) tz) D σ F := fun H w => h H w _ fun x H1 F1 w1 ⟨a, xs, e, hs, Iv, h0, hl, ht, hd⟩ => ⟨a, e, ⟨xs, w1.l hs⟩,
  for_list (D := { D with nx := tz D }) (fun i => Cl o (Iv i)) ⟨F1, w1, h0⟩ (fun i σ1 H2 hi ⟨F2, w2, p⟩ => w2.l (hl i σ1 F2 hi p)) (fun i y σ1 H2 hy ⟨F2, w2, p⟩ => ht i y σ1 F2 hy p H2 w2 _ fun σ2 H3 F3 w3 k => k H3 w3) fun σ1 H2 ⟨F2, w2, p⟩ => hd σ1 F2 p H2 w2⟩
theorem go_forT (Iv : Nat → L2.St → Hp → Prop) (h : Wp o (te σ) F fun x F1 => ∃ a xs, x = .ref a ∧ SqT K F1 a xs ∧ Iv 0 σ F1 ∧ (∀ i σ1 F2, i ≤ xs.length → Iv i σ1 F2 → SqT K F2 a xs) ∧
    (∀ i y σ1 F2, xs[i]? = some y → Iv i σ1 F2 → Wp o (g y σ1) F2 fun σ2 F3 => Go o tu { D with nx := Cl o (Iv (i + 1)), ct := Cl o (Iv (i + 1)), bk := tz D } σ2 F3) ∧ (∀ σ1 F2, Iv xs.length σ1 F2 → Go o tz D σ1 F2)) :
    Go o (tSeq (tFor (iTup K te) g tu) tz) D σ F := fun H w => h H w _ fun x H1 F1 w1 ⟨a, xs, e, hs, h0, hl, ht, hd⟩ => ⟨a, e, ⟨xs, w1.t hs⟩,
  for_tup (D := { D with nx := tz D }) (fun i => Cl o (Iv i)) ⟨F1, w1, h0⟩ (fun i σ1 H2 hi ⟨F2, w2, p⟩ => w2.t (hl i σ1 F2 hi p)) (fun i y σ1 H2 hy ⟨F2, w2, p⟩ => ht i y σ1 F2 hy p H2 w2 _ fun σ2 H3 F3 w3 k => k H3 w3) fun σ1 H2 ⟨F2, w2, p⟩ => hd σ1 F2 p H2 w2⟩
/-- over range(n) -/
theorem go_forR {j : Nat} (Iv : Nat → L2.St → Hp → Prop) (h : Wp o (tl σ) F fun vs F1 => ∃ n : Nat, vs = [.int (n : Int)] ∧ n ≤ 1000000 ∧ Iv 0 σ F1 ∧
    (∀ i σ1 F2, i < n → Iv i σ1 F2 → Go o tu { D with nx := Cl o (Iv (i + 1)), ct := Cl o (Iv (i + 1)), bk := tz D } (σ1.set j (some (.int (i : Int)))) F2) ∧ (∀ σ1 F2, Iv n σ1 F2 → Go o tz D σ1 F2)) :
    Go o (tSeq (tFor (iRng1 tl) (gName j) tu) tz) D σ F := fun H w => h H w _ fun vs H1 F1 w1 ⟨n, e, hn, h0, ht, hd⟩ => ⟨(n : Int), e, by omega, by omega, by
  rw [Int.toNat_natCast]
  exact for_range (D := { D with nx := tz D }) (fun i => Cl o (Iv i)) ⟨F1, w1, h0⟩ (fun i σ1 H2 hi ⟨F2, w2, p⟩ => by
    have e0 : (0 : Int) + (i : Int) = (i : Int) := Int.zero_add _
    rw [e0]
    exact ht i σ1 F2 hi p H2 w2) fun σ1 H2 ⟨F2, w2, p⟩ => hd σ1 F2 p H2 w2⟩
/-- over enumerate(list) -/
theorem go_forE (Iv : Nat → L2.St → Hp → Prop) (h : Wp o (tl σ) F fun us F1 => ∃ a xs, us = [.ref a] ∧ SqL K F1 a xs ∧ Iv 0 σ F1 ∧ (∀ i σ1 F2, i ≤ xs.length → Iv i σ1 F2 → SqL K F2 a xs) ∧
    (∀ i y σ1 F2 p, xs[i]? = some y → F2 p = none → Iv i σ1 F2 → Wp o (g (.ref p) σ1) (upd F2 p (.tup [.int (i : Nat), y])) fun σ2 F3 => Go o tu { D with nx := Cl o (Iv (i + 1)), ct := Cl o (Iv (i + 1)), bk := tz D } σ2 F3) ∧ (∀ σ1 F2, Iv xs.length σ1 F2 → Go o tz D σ1 F2)) :
    Go o (tSeq (tFor (iEnum K tl) g tu) tz) D σ F := fun H w => h H w _ fun us H1 F1 w1 ⟨a, xs, e, hs, h0, hl, ht, hd⟩ => ⟨a, xs, e, w1.l hs,
  for_it (D := { D with nx := tz D }) walk_enum (fun i => Cl o (Iv i)) ⟨F1, w1, h0⟩ (fun i σ1 H2 hi ⟨F2, w2, p⟩ => w2.l (hl i σ1 F2 hi p)) (fun i v σ1 H2 H3 hi ⟨F2, w2, p⟩ hy => by
    obtain ⟨T, x, y, e1, e2, e3, e4, e5⟩ := hy
    cases e4
    subst e1; subst e3
    exact ht i y σ1 F2 T e5 (w2.fr e2) p _ (w2.new1 e2) _ fun σ2 H4 F4 w4 k => k H4 w4) fun σ1 H2 ⟨F2, w2, p⟩ => hd σ1 F2 p H2 w2⟩
theorem go_while (Iv : Nat → L2.St → Hp → Prop) (m : Nat) (h0 : Iv m σ F) (h : ∀ m σ1 F1, Iv m σ1 F1 → Wp o (tt σ1) F1 fun b F2 =>
    (b = true → Go o tu { D with nx := Cl o (fun σ2 F3 => ∃ m1, m1 < m ∧ Iv m1 σ2 F3), ct := Cl o (fun σ2 F3 => ∃ m1, m1 < m ∧ Iv m1 σ2 F3), bk := tz D } σ1 F2) ∧ (b = false → Go o tz D σ1 F2)) :
    Go o (tSeq (tWhile tt tu) tz) D σ F := fun H w => ⟨fun m => Cl o (Iv m), ⟨m, F, w, h0⟩, fun m σ1 H1 ⟨F1, w1, p⟩ => h m σ1 F1 p H1 w1 _ fun b H2 F2 w2 ⟨h1, h2⟩ => by
  cases b with
  | true =>
    rw [if_pos rfl]
    exact ⟨_, fun σ2 H3 ⟨F3, w3, m1, hm, q⟩ => ⟨m1, hm, F3, w3, q⟩, h1 rfl H2 w2⟩
  | false =>
    rw [if_neg Bool.false_ne_true]
    exact h2 rfl H2 w2⟩
end

/-! ### comprehensions -/
section
variable {o : Option Addr} {F : Hp} {σ : L2.St} {K : PySem.W.Frag} {P : V → Hp → Prop} {ts te : TE} {tt : TT} {tl : TA} {g : TG} {vs : List Nat}
/-- one turn: the list D so far, what is known -/
def LcT (o : Option Addr) (D : Addr) (acc : List V) (tt : TT) (te : TE) (σ : L2.St) (F : Hp) (N : List V → Hp → Prop) : Prop :=
  Wp o (tt σ) F fun b F1 => (b = true → Wp o (te σ) F1 fun y F2 => F2 D = some (.lst acc) ∧ acc.length < 100000 ∧ N (acc ++ [y]) (upd F2 D (.lst (acc ++ [y])))) ∧ (b = false → F1 D = some (.lst acc) ∧ N acc F1)
theorem lc_turn {D : Addr} {acc : List V} {N : List V → Hp → Prop} {Nx : Hp → Prop} {σ2 : L2.St} {H2 : Hp} {F2 : Hp} (w : Wd o F2 H2) (h : LcT o D acc tt te σ2 F2 N) (n : ∀ acc1 H F3, Wd o F3 H → F3 D = some (.lst acc1) → N acc1 F3 → Nx H) :
    tt σ2 H2 fun b H3 => if b = true then te σ2 H3 fun y H4 => ∃ acc, H4 D = some (.lst acc) ∧ acc.length < sizeLine ∧ Nx (upd H4 D (.lst (acc ++ [y]))) else Nx H3 := h H2 w _ fun b H3 F3 w3 ⟨h1, h2⟩ => by
  cases b with
  | true =>
    rw [if_pos rfl]
    exact h1 rfl H3 w3 _ fun y H4 F4 w4 ⟨hd, hz, hn⟩ => ⟨acc, w4.ex _ _ hd, sz1 hz, n _ _ _ (w4.mut hd) upd_same hn⟩
  | false =>
    rw [if_neg Bool.false_ne_true]
    exact n acc H3 F3 w3 (h2 rfl).1 (h2 rfl).2
theorem wp_lcL {j : Nat} (hw : ∀ x, wipe ((wipe σ vs).set j (some x)) vs = wipe σ vs)
    (h : Wp o (ts σ) F fun x F1 => ∃ a xs, x = .ref a ∧ SqL K F1 a xs ∧ ∀ D, F1 D = none → ∃ Iv : Nat → List V → Hp → Prop, Iv 0 [] (upd F1 D (.lst [])) ∧ (∀ i acc F2, Iv i acc F2 → SqL K F2 a xs) ∧
      (∀ i x acc F2, xs[i]? = some x → F2 D = some (.lst acc) → Iv i acc F2 → LcT o D acc tt te ((wipe σ vs).set j (some x)) F2 (Iv (i + 1))) ∧ (∀ acc F2, F2 D = some (.lst acc) → Iv xs.length acc F2 → P (.ref D) F2)) :
    Wp o (tLc (iList K ts) (gName j) tt te vs σ) F P := fun H w Q k => h H w _ fun x H1 F1 w1 ⟨a, xs, e, hs, hh⟩ => ⟨a, e, ⟨xs, w1.l hs⟩, fun D hD => by
  obtain ⟨Iv, h0, hl, ht, hd⟩ := hh D (w1.fr hD)
  refine lc_list (xs := xs) (fun i H2 => ∃ acc F2, Wd o F2 H2 ∧ F2 D = some (.lst acc) ∧ Iv i acc F2) ⟨[], _, w1.new1 hD, upd_same, h0⟩ (fun i H2 hi ⟨acc, F2, w2, _, p⟩ => w2.l (hl i acc F2 p)) (fun i y H2 hy ⟨acc, F2, w2, q2, p⟩ => ?_) fun H2 ⟨acc, F2, w2, q2, p⟩ => k _ _ _ w2 (hd acc F2 q2 p)
  refine ⟨hw y, ?_⟩
  exact lc_turn w2 (ht i y acc F2 hy q2 p) fun acc1 H3 F3 w3 q3 n => ⟨acc1, F3, w3, q3, n⟩⟩
theorem wp_lcT {j : Nat} (hw : ∀ x, wipe ((wipe σ vs).set j (some x)) vs = wipe σ vs)
    (h : Wp o (ts σ) F fun x F1 => ∃ a xs, x = .ref a ∧ SqT K F1 a xs ∧ ∀ D, F1 D = none → ∃ Iv : Nat → List V → Hp → Prop, Iv 0 [] (upd F1 D (.lst [])) ∧ (∀ i acc F2, Iv i acc F2 → SqT K F2 a xs) ∧
      (∀ i x acc F2, xs[i]? = some x → F2 D = some (.lst acc) → Iv i acc F2 → LcT o D acc tt te ((wipe σ vs).set j (some x)) F2 (Iv (i + 1))) ∧ (∀ acc F2, F2 D = some (.lst acc) → Iv xs.length acc F2 → P (.ref D) F2)) :
    Wp o (tLc (iTup K ts) (gName j) tt te vs σ) F P := fun H w Q k => h H w _ fun x H1 F1 w1 ⟨a, xs, e, hs, hh⟩ => ⟨a, e, ⟨xs, w1.t hs⟩, fun D hD => by
  obtain ⟨Iv, h0, hl, ht, hd⟩ := hh D (w1.fr hD)
  refine lc_tup (xs := xs) (fun i H2 => ∃ acc F2, Wd o F2 H2 ∧ F2 D = some (.lst acc) ∧ Iv i acc F2) ⟨[], _, w1.new1 hD, upd_same, h0⟩ (fun i H2 hi ⟨acc, F2, w2, _, p⟩ => w2.t (hl i acc F2 p)) (fun i y H2 hy ⟨acc, F2, w2, q2, p⟩ => ?_) fun H2 ⟨acc, F2, w2, q2, p⟩ => k _ _ _ w2 (hd acc F2 q2 p)
  refine ⟨hw y, ?_⟩
  exact lc_turn w2 (ht i y acc F2 hy q2 p) fun acc1 H3 F3 w3 q3 n => ⟨acc1, F3, w3, q3, n⟩⟩
theorem wp_lcR {j : Nat} (hw : ∀ x, wipe ((wipe σ vs).set j (some x)) vs = wipe σ vs)
    (h : Wp o (tl σ) F fun us F1 => ∃ n : Nat, us = [.int (n : Int)] ∧ n ≤ 1000000 ∧ ∀ D, F1 D = none → ∃ Iv : Nat → List V → Hp → Prop, Iv 0 [] (upd F1 D (.lst [])) ∧
      (∀ i acc F2, i < n → F2 D = some (.lst acc) → Iv i acc F2 → LcT o D acc tt te ((wipe σ vs).set j (some (.int (i : Int)))) F2 (Iv (i + 1))) ∧ (∀ acc F2, F2 D = some (.lst acc) → Iv n acc F2 → P (.ref D) F2)) :
    Wp o (tLc (iRng1 tl) (gName j) tt te vs σ) F P := fun H w Q k => h H w _ fun us H1 F1 w1 ⟨n, e, hn, hh⟩ => ⟨(n : Int), e, by omega, by omega, fun D hD => by
  obtain ⟨Iv, h0, ht, hd⟩ := hh D (w1.fr hD)
  rw [Int.toNat_natCast]
  refine lc_range (n := n) (fun i H2 => ∃ acc F2, Wd o F2 H2 ∧ F2 D = some (.lst acc) ∧ Iv i acc F2) ⟨[], _, w1.new1 hD, upd_same, h0⟩ (fun i H2 hi ⟨acc, F2, w2, q2, p⟩ => ?_) fun H2 ⟨acc, F2, w2, q2, p⟩ => k _ _ _ w2 (hd acc F2 q2 p)
  have e0 : (0 : Int) + (i : Int) = (i : Int) := Int.zero_add _
  rw [e0]
  refine ⟨hw _, ?_⟩
  exact lc_turn w2 (ht i acc F2 hi q2 p) fun acc1 H3 F3 w3 q3 n => ⟨acc1, F3, w3, q3, n⟩⟩
theorem wp_lcS {j : Nat} (hw : ∀ x, wipe ((wipe σ vs).set j (some x)) vs = wipe σ vs)
    (h : Wp o (ts σ) F fun x F1 => ∃ l : List Nat, x = .str (tx l) ∧ ∀ D, F1 D = none → ∃ Iv : Nat → List V → Hp → Prop, Iv 0 [] (upd F1 D (.lst [])) ∧
      (∀ i c acc F2, l[i]? = some c → F2 D = some (.lst acc) → Iv i acc F2 → LcT o D acc tt te ((wipe σ vs).set j (some (sg c))) F2 (Iv (i + 1))) ∧ (∀ acc F2, F2 D = some (.lst acc) → Iv l.length acc F2 → P (.ref D) F2)) :
    Wp o (tLc (iStr ts) (gName j) tt te vs σ) F P := fun H w Q k => h H w _ fun x H1 F1 w1 ⟨l, e, hh⟩ => ⟨tx l, e, fun D hD => by
  obtain ⟨Iv, h0, ht, hd⟩ := hh D (w1.fr hD)
  have ez : (tx l).cps.size = l.length := by simp [tx]
  refine lc_it (walk_str (z := tx l)) (fun i H2 => ∃ acc F2, Wd o F2 H2 ∧ F2 D = some (.lst acc) ∧ Iv i acc F2) ⟨[], _, w1.new1 hD, upd_same, h0⟩ (fun _ _ _ _ => trivial) (fun i y H2 H3 hi ⟨acc, F2, w2, q2, p⟩ hy => ?_) fun H2 ⟨acc, F2, w2, q2, p⟩ => k _ _ _ w2 (hd acc F2 q2 (by rw [← ez]; exact p))
  obtain ⟨e3, c, hc, ey⟩ := hy
  subst e3; subst ey
  refine ⟨hw _, ?_⟩
  have hc2 : l[i]? = some c := by simpa [tx] using hc
  exact lc_turn w2 (ht i c acc F2 hc2 q2 p) fun acc1 H3 F3 w3 q3 n => ⟨acc1, F3, w3, q3, n⟩⟩
end

/-! ### defs -/
/-- the def x stands as the statement st says -/
def DefAt (K : PySem.W.Frag) (mg : Str → Option Value) (x : Str) (st : Stmt) : Prop := ∃ f fd, Fun K x x st f fd ∧ mg x = some (.ref f)
/-- x keeps its promise, up to the level k -/
def Pm (P : Program) (w : World) (K : PySem.W.Frag) (mg : Str → Option Value) (base : Heap) (CX : CXT) (k : Nat) (x : Str) (ps : List Str) (sp : Sp) : Prop :=
  ∃ f fd, FnOk P w K mg base CX k f fd ps sp ∧ mg x = some (.ref f) ∧ PySem.W.keepIn K (.ref f) = true ∧ Binds K fd ps []
theorem defAt_mk {K : PySem.W.Frag} {h : Heap} {mg : Str → Option Value} {x : Str} {st : Stmt} {f : Addr} {oc : Value} {od an : Option Addr} {osl : Array (Option Value)} {kV doc pm cdv ct : Value} (X : K.In h) (G : h.Ns mainGlobals mg)
    (a : PySem.W.nsIn K mainGlobals x = some (some (.ref f))) (l : K.lookup f = some ⟨oc, od, .func (PySem.W.fnOf x x (defArgs st) (defBody st) (defScope st) .none kV doc pm an cdv ct), osl⟩)
    (c : PySem.W.codeIn K cdv x = true) (k : PySem.W.keepIn K (.ref f) = true) : DefAt K mg x st := ⟨f, _, fun_mk l c k, PySem.W.mg_of X G a⟩
section
variable {X : Cx}
theorem pe_pm {CX : CXT} {k : Nat} {x : Str} {ps : List Str} {sp : Sp} {E : XK} {e : Expr} {es : List Expr} {t : TA} {p pos : Pos} (G : Pm X.prog X.w X.K X.mg X.base CX k x ps sp) (hr : Room k X.A) (hx : Passes CX X E) (ha : PA X (e :: es) t) (hg : Gl X x := by rfl)
    (hd : (x == ("__debug__" : Str)) = false := by decide) (he : starEach (e :: es) X.env = (false, eval e X.env) :: starEach es X.env := by rfl) (hpl : (backTo pos (starEach es X.env)).any (·.1) = false := by rfl) :
    PE X (.Call (.Name x p) (e :: es) [] pos) (tCall sp [] E t) := by
  obtain ⟨f, fd, F, hm, hk, hb⟩ := G
  exact pe_call F hr hg hm hk hb .nil hx ha hd he hpl
/-- a module's number, a module's text -/
theorem pe_cst {x : Str} {i : Int} {pos : Pos} (h : ∃ t, X.mg x = some (.int i t)) (hg : Gl X x := by rfl) (hd : (x == ("__debug__" : Str)) = false := by decide) : PE X (.Name x pos) (tC (.int i)) := by
  obtain ⟨t, h⟩ := h
  exact pe_glob hg h ⟨t, rfl⟩ hd
theorem pe_cstS {x : Str} {l : List Nat} {pos : Pos} (h : ∃ t, X.mg x = some (.str (tx l) t)) (hg : Gl X x := by rfl) (hd : (x == ("__debug__" : Str)) = false := by decide) : PE X (.Name x pos) (tC (.str (tx l))) := by
  obtain ⟨t, h⟩ := h
  exact pe_glob hg h ⟨t, rfl⟩ hd
theorem pe_strT {x : Str} {j : Nat} {pos : Pos} {l : List Nat} (h : x = tx l) : PE X (.Constant (.str x) j pos) (tC (.str (tx l))) := by
  rw [h]; exact pe_str
end
/-- the built-ins' names are the built-ins' -/
structure Bl (mg : Str → Option Value) : Prop where
  len : mg "len" = none
  list : mg "list" = none
  range : mg "range" = none
  abs : mg "abs" = none
  int_ : mg "int" = none
  bool_ : mg "bool" = none
  str_ : mg "str" = none
  isinstance : mg "isinstance" = none
  all : mg "all" = none
  enumerate : mg "enumerate" = none
  max : mg "max" = none
  min : mg "min" = none
  set : mg "set" = none
  sorted : mg "sorted" = none
  tuple : mg "tuple" = none

/-! ### known answers -/
theorem bT {b : Bool} {X Y : Prop} (h : b = true) (x : X) : (b = true → X) ∧ (b = false → Y) := ⟨fun _ => x, fun z => by rw [h] at z; cases z⟩
theorem bF {b : Bool} {X Y : Prop} (h : b = false) (y : Y) : (b = true → X) ∧ (b = false → Y) := ⟨fun z => (by rw [h] at z; cases z), fun _ => y⟩
/-! ### known facts -/
theorem fr_in {F : Hp} {p q : Addr} {u : HO} (h : upd F q u p = none) : F p = none := by
  by_cases e : p = q
  · subst e; rw [upd_same] at h; cases h
  · rw [upd_ne e] at h; exact h
theorem fr_ne {F : Hp} {p q : Addr} {u : HO} (h : upd F q u p = none) : p ≠ q := fun e => by
  rw [e, upd_same] at h; cases h
theorem at_ne {F : Hp} {a p : Addr} {u v : HO} (h : F a = some u) (n : F p = none) : upd F p v a = some u := by
  rw [upd_ne (ne_of_none h n)]; exact h
theorem atNat {α : Type} {l : List α} {i : Int} {x : α} (h0 : 0 ≤ i) (h : l[i.toNat]? = some x) : atI l i = some x := by
  have e : i = ((i.toNat : Nat) : Int) := by omega
  rw [e]
  exact atI_nat h

/-! ### a cut behind a statement -/
section
variable {o : Option Addr} {F : Hp} {σ : L2.St} {D : Ends} {tu tw : TS} {tt : TT}
theorem go_cut (M : L2.St → Hp → Prop) (h : Go o tu { D with nx := Cl o M } σ F) (k : ∀ σ1 F1, M σ1 F1 → Go o tw D σ1 F1) : Go o (Evl.tCut tu tw) D σ F := fun H w => ⟨Cl o M, h H w, fun σ1 H1 ⟨F1, w1, m⟩ => k σ1 F1 m H1 w1⟩
theorem go_ifB (h : Wp o (tt σ) F fun b F1 => (b = true → Go o tu D σ F1) ∧ (b = false → Go o tw D σ F1)) : Go o (tIfS tt tu tw) D σ F := fun H w => h H w _ fun b H1 F1 w1 ⟨h1, h2⟩ => by
  cases b with
  | true => rw [if_pos rfl]; exact h1 rfl H1 w1
  | false => rw [if_neg Bool.false_ne_true]; exact h2 rfl H1 w1
end
/-! ### more operations by values -/
section
variable {o : Option Addr} {F : Hp} {σ : L2.St} {K : PySem.W.Frag} {P : V → Hp → Prop} {x y v : V}
def rIsN : R2 := fun x y H Q => y = .non ∧ Q (.bl (decide (x = .non))) H
def rNotN : R2 := fun x y H Q => y = .non ∧ Q (.bl (!decide (x = .non))) H
theorem op_isNs {X : Cx} : OpR X (compareOp .Is) rIsN := op_isN
theorem op_notNs {X : Cx} : OpR X (compareOp .IsNot) rNotN := op_notN
theorem wp_isNs (q : P (.bl (decide (x = .non))) F) : Wp o (rIsN x .non) F P := fun H w Q k => ⟨rfl, k _ H F w q⟩
theorem wp_notNs (q : P (.bl (!decide (x = .non))) F) : Wp o (rNotN x .non) F P := fun H w Q k => ⟨rfl, k _ H F w q⟩
theorem wp_eq0 (h : scal x y = true) (q : P (.bl (decide (x = y))) F) : Wp o (rEqP K x y) F P := fun H w Q k => .inl ⟨h, k _ H F w q⟩
theorem wp_ne0 (h : scal x y = true) (q : P (.bl (!decide (x = y))) F) : Wp o (rNeP K x y) F P := fun H w Q k => .inl ⟨h, k _ H F w q⟩
abbrev rAbs : List V → Hp → VK → Prop := fun xs H Q => ∃ i, xs = [V.int i] ∧ Q (.int (if i < 0 then -i else i)) H
theorem wp_abs {i : Int} (q : P (.int (if i < 0 then -i else i)) F) : Wp o (fun H Q => ∃ j, [V.int i] = [V.int j] ∧ Q (.int (if j < 0 then -j else j)) H) F P := fun H w Q k => ⟨i, rfl, k _ H F w q⟩
theorem ixN_nat {n j : Nat} (hj : j < n) : ixN n (j : Int) = some j := by
  unfold ixN
  rw [if_pos (by omega), if_pos (by omega)]
  simp
theorem wp_popAt {a : Addr} {xs : List V} {j : Nat} (h : F a = some (.lst xs)) (hz : xs.length ≤ 100000) (hj : xs[j]? = some y) (q : P y (upd F a (.lst (xs.eraseIdx j)))) : Wp o (rPopAt (.ref a) [.int (j : Int)]) F P := fun H w Q k => by
  have hl : j < xs.length := (List.getElem?_eq_some_iff.mp hj).1
  exact ⟨a, xs, j, j, y, rfl, rfl, w.ex _ _ h, by omega, by omega, (ixN_seq (ixN_nat hl)).1, hj, k _ _ _ (w.mut h) q⟩
def rIntP : List V → Hp → VK → Prop := fun xs H Q => ((∃ i, xs = [.int i] ∧ Q (.int i) H) ∨ ∃ k, xs = [.bl k] ∧ Q (.int (if k then 1 else 0)) H) ∨ (∃ a n, xs = [.str a] ∧ PySem.intText? a = some n ∧ a.length ≤ 640 ∧ Q (.int n) H)
theorem call_intP {X : Cx} : CallR X (.type "int") rIntP := call_int1.or call_int_str
theorem wp_intB {b : Bool} (q : P (.int (if b then 1 else 0)) F) : Wp o (rIntP [.bl b]) F P := fun H w Q k => .inl (.inr ⟨b, rfl, k _ H F w q⟩)
/-! isinstance -/
theorem tyX_l {H : Hp} {a : Addr} {xs : List V} (h : SqL K H a xs) : TyX K H (.ref a) (.type "list") := by
  rcases h with (h | ⟨ob, h⟩) | ⟨ob, its, n, h, hc, _⟩
  · exact .base (.lst h)
  · exact .base (.frz h)
  · exact .kList h hc
theorem tyX_t {H : Hp} {a : Addr} {xs : List V} (h : SqT K H a xs) : TyX K H (.ref a) (.type "tuple") := by
  rcases h with (h | ⟨ob, h⟩) | ⟨ob, its, n, h, hc, _⟩
  · exact .base (.tup h)
  · exact .fTuple h
  · exact .kTuple h hc
/-- the built-in type of a plain value -/
inductive TyP (K : PySem.W.Frag) (H : Hp) : V → String → Prop where
  | non : TyP K H .non "NoneType"
  | bl (b : Bool) : TyP K H (.bl b) "bool"
  | int (i : Int) : TyP K H (.int i) "int"
  | str (z : Str) : TyP K H (.str z) "str"
  | lst {a : Addr} {xs : List V} (h : SqL K H a xs) : TyP K H (.ref a) "list"
  | tup {a : Addr} {xs : List V} (h : SqT K H a xs) : TyP K H (.ref a) "tuple"
theorem TyP.ty {H : Hp} {t : String} (h : TyP K H x t) : TyX K H x (.type t) := by
  cases h with
  | non => exact .base .non
  | bl b => exact .base (.bl b)
  | int i => exact .base (.int i)
  | str z => exact .base (.str z)
  | lst h => exact tyX_l h
  | tup h => exact tyX_t h
theorem TyP.up {H H1 : Hp} {t : String} (e : Ex H H1) (h : TyP K H x t) : TyP K H1 x t := by
  cases h with
  | non => exact .non
  | bl b => exact .bl b
  | int i => exact .int i
  | str z => exact .str z
  | lst h => exact .lst (ex_l e h)
  | tup h => exact .tup (ex_t e h)
theorem wp_isi {t c : String} {b : Bool} (h : TyP K F x t) (hk : kitB t c = some b) (q : P (.bl b) F) : Wp o (rIsi K [x, .ty c]) F P := fun H w Q k =>
  ⟨x, .ty c, .type t, .type c, b, rfl, .ty c, (h.up w.ex).ty, kit_ty hk, k _ H F w q⟩
theorem wp_all {a : Addr} {bs : List Bool} (h : SqL K F a (bs.map V.bl)) (q : P (.bl (bs.all id)) F) : Wp o (rAll K [.ref a]) F P := fun H w Q k => ⟨a, bs, rfl, w.l h, k _ H F w q⟩
theorem wp_lenX {p : Addr} {xs : List V} (h : SqL K F p xs ∨ SqT K F p xs) (q : P (.int (xs.length : Nat)) F) : Wp o (rLenV K [.ref p]) F P := h.elim (fun h => wp_lenL h q) fun h => wp_lenT h q
theorem wp_ixX {p : Addr} {xs : List V} {i : Int} (h : SqL K F p xs ∨ SqT K F p xs) (ha : atI xs i = some v) (q : P v F) : Wp o (rIx K (.ref p) (.int i)) F P := h.elim (fun h => wp_ixL h ha q) fun h => wp_ixT h ha q
/-! join of signs -/
abbrev rJoin (K : PySem.W.Frag) : V → List V → Hp → VK → Prop := fun x xs H Q => ∃ a p, ∃ ys : List Str, x = .str a ∧ xs = [.ref p] ∧ (SqL K H p (ys.map V.str) ∨ SqT K H p (ys.map V.str)) ∧
  (ys.map (·.length)).sum + ys.length * a.length ≤ 16777216 ∧ Q (.str (Txt.join a ys)) H
theorem join_sg : ∀ l : List Nat, Str.join (tx []) (l.map fun c => (⟨#[c]⟩ : Str)) = tx l
  | [] => rfl
  | [c] => rfl
  | c :: d :: r => by
    have ih := join_sg (d :: r)
    show (⟨#[c]⟩ : Str) ++ tx [] ++ Str.join (tx []) ((d :: r).map fun c => (⟨#[c]⟩ : Str)) = tx (c :: d :: r)
    rw [ih]
    show tx [c] ++ tx [] ++ tx (d :: r) = _
    rw [tx_app, tx_app]
    rfl
theorem sum_ones : ∀ l : List Nat, ((l.map fun c => (⟨#[c]⟩ : Str)).map (·.length)).sum = l.length
  | [] => rfl
  | c :: r => by
    have ih := sum_ones r
    rw [List.map_cons, List.map_cons, List.sum_cons, ih, List.length_cons]
    show 1 + r.length = r.length + 1
    omega
theorem wp_joinSg {p : Addr} {l : List Nat} (h : SqL K F p (l.map sg)) (hl : l.length ≤ 100000) (q : P (.str (tx l)) F) : Wp o (rJoin K (.str (tx [])) [.ref p]) F P := fun H w Q k =>
  ⟨tx [], p, l.map fun c => ⟨#[c]⟩, rfl, rfl, .inl (by rw [List.map_map]; exact w.l h), by
    rw [sum_ones, List.length_map]
    show l.length + l.length * 0 ≤ _
    omega, by
    rw [show Txt.join (tx []) (l.map fun c => (⟨#[c]⟩ : Str)) = Str.join (tx []) (l.map fun c => (⟨#[c]⟩ : Str)) from PySem.StrLaws.glued_eq_join _ _, join_sg]
    exact k _ H F w q⟩
end
/-! ### dice -/
section
variable {o : Option Addr} {F H : Hp} {d : Addr}
/-- H without d -/
def rm (H : Hp) (d : Addr) : Hp := fun b => if b = d then none else H b
theorem rm_same : rm H d d = none := by unfold rm; rw [if_pos rfl]
theorem rm_ne {b : Addr} (h : b ≠ d) : rm H d b = H b := by unfold rm; rw [if_neg h]
theorem ex_rm : Ex (rm H d) H := fun b u e => by
  by_cases h : b = d
  · rw [h, rm_same] at e; cases e
  · rw [rm_ne h] at e; exact e
theorem ex_to_rm (e : Ex F H) (n : F d = none) : Ex F (rm H d) := fun b u q => by
  rw [rm_ne (ne_of_none q n)]
  exact e b u q
theorem Wd.dice (h : Dc H d) : Wd (some d) (rm H d) H := ⟨ex_rm, fun b e => by cases e; exact ⟨rm_same, h⟩⟩
end

/-! ### data: lists of ints, lists of signs -/
section
variable {o : Option Addr} {F : Hp} {K : PySem.W.Frag} {P : V → Hp → Prop}
theorem lay_all : ∀ {ds : List PyData}, (∀ d ∈ ds, d.canLay0 = true) → PyData.canLayAll0 ds = true
  | [], _ => rfl
  | d :: r, h => by
    show (d.canLay0 && PyData.canLayAll0 r) = true
    rw [h d List.mem_cons_self, lay_all fun e he => h e (List.mem_cons_of_mem _ he)]
    rfl
theorem depth_all {n : Nat} : ∀ {ds : List PyData}, (∀ d ∈ ds, d.depth ≤ n) → PyData.depthAll ds ≤ n
  | [], _ => Nat.zero_le _
  | d :: r, h => by
    show max d.depth (PyData.depthAll r) ≤ n
    exact Nat.max_le.mpr ⟨h d List.mem_cons_self, depth_all fun e he => h e (List.mem_cons_of_mem _ he)⟩
theorem shaped_list {ds : List PyData} (h1 : ∀ d ∈ ds, d.canLay0 = true) (h2 : ∀ d ∈ ds, d.depth ≤ 63) : SeqAt.shaped (.list ds) = true := by
  unfold SeqAt.shaped
  rw [Bool.and_eq_true, decide_eq_true_eq]
  refine ⟨lay_all h1, ?_⟩
  show PyData.depthAll ds + 1 ≤ 64
  have := depth_all h2
  omega
abbrev dI (cs : List Int) : List PyData := cs.map PyData.int
abbrev dSg (l : List Nat) : List PyData := l.map fun c => PyData.str ⟨#[c]⟩
theorem dpa_I : ∀ cs : List Int, DpAll K F (cs.map V.int) (dI cs)
  | [] => .nil
  | c :: r => .cons (.int c) (dpa_I r)
theorem dpa_S : ∀ l : List Nat, DpAll K F (l.map sg) (dSg l)
  | [] => .nil
  | c :: r => .cons (.str _) (dpa_S r)
theorem dp_I {a : Addr} {cs : List Int} (h : SqL K F a (cs.map V.int)) : Dp K F (.ref a) (.list (dI cs)) := .lst h (dpa_I cs)
theorem dp_S {a : Addr} {l : List Nat} (h : SqL K F a (l.map sg)) : Dp K F (.ref a) (.list (dSg l)) := .lst h (dpa_S l)
theorem sh_I (cs : List Int) : SeqAt.shaped (.list (dI cs)) = true := shaped_list (fun d hd => by
  obtain ⟨c, _, rfl⟩ := List.mem_map.mp hd; rfl) fun d hd => by
  obtain ⟨c, _, rfl⟩ := List.mem_map.mp hd; exact Nat.zero_le _
theorem sh_S {l : List Nat} (h : ∀ c ∈ l, c < 128) : SeqAt.shaped (.list (dSg l)) = true := shaped_list (fun d hd => by
  obtain ⟨c, hc, rfl⟩ := List.mem_map.mp hd
  have := h c hc
  simp [PyData.canLay0, PyData.strOk]
  omega) fun d hd => by
  obtain ⟨c, _, rfl⟩ := List.mem_map.mp hd; exact Nat.zero_le _
theorem eqvAll_I : ∀ cs ds : List Int, PyData.eqvAll (dI cs) (dI ds) = decide (cs = ds)
  | [], [] => rfl
  | [], _ :: _ => rfl
  | _ :: _, [] => rfl
  | c :: r, d :: t => by
    show ((c == d) && PyData.eqvAll (dI r) (dI t)) = decide (c :: r = d :: t)
    rw [eqvAll_I r t, Bool.beq_eq_decide_eq]
    by_cases h : c = d <;> by_cases h2 : r = t <;> simp [h, h2]
theorem eqv_I (cs ds : List Int) : PyData.eqv (.list (dI cs)) (.list (dI ds)) = decide (cs = ds) := eqvAll_I cs ds
theorem eqv_S0 (l : List Nat) : PyData.eqv (.list (dSg l)) (.list []) = decide (l = []) := by
  cases l with
  | nil => rfl
  | cons c r => rfl
theorem wp_neIL {a b : Addr} {xs ys : List Int} (ha : SqL K F a (xs.map V.int)) (hb : SqL K F b (ys.map V.int)) (q : P (.bl (!decide (xs = ys))) F) : Wp o (rNeP K (.ref a) (.ref b)) F P :=
  wp_neD (dp_I ha) (dp_I hb) (sh_I xs) (sh_I ys) (by rw [eqv_I]; exact q)
theorem wp_eqIL {a b : Addr} {xs ys : List Int} (ha : SqL K F a (xs.map V.int)) (hb : SqL K F b (ys.map V.int)) (q : P (.bl (decide (xs = ys))) F) : Wp o (rEqP K (.ref a) (.ref b)) F P :=
  wp_eqD (dp_I ha) (dp_I hb) (sh_I xs) (sh_I ys) (by rw [eqv_I]; exact q)
theorem wp_neS0 {a b : Addr} {l : List Nat} (ha : SqL K F a (l.map sg)) (hb : SqL K F b []) (h : ∀ c ∈ l, c < 128) (q : P (.bl (!decide (l = []))) F) : Wp o (rNeP K (.ref a) (.ref b)) F P :=
  wp_neD (dp_S ha) (.lst hb .nil) (sh_S h) rfl (by rw [eqv_S0]; exact q)
end
/-! ### what a def of dice hands back -/
section
variable {o : Option Addr} {F H : Hp} {d : Addr} {P : V → Hp → Prop} {Q : VK} {u : HO} {p : Addr} {H1 F1 : Hp}
theorem Wd.newD (w : Wd (some d) F H) (n : H p = none) (e : Ex (rm H d) H1) (hd : Dc H1 d) (h : H1 p = some u) : Wd (some d) (upd F p u) H1 := by
  have f := (w.dc d rfl).1
  have e2 : Ex F H1 := (ex_to_rm w.ex f).trans e
  refine ⟨fun b v q => ?_, fun b z => ?_⟩
  · by_cases hb : b = p
    · subst hb; rw [upd_same] at q; rw [← q]; exact h
    · rw [upd_ne hb] at q; exact e2 _ _ q
  · cases z
    rw [upd_ne (w.ned n d rfl)]
    exact ⟨f, hd⟩
/-- a new object of which something is told -/
def RetND (d : Addr) (Pu : HO → Prop) (H : Hp) (Q : VK) : Prop := ∀ p H1 u, H p = none → Ex (rm H d) H1 → Dc H1 d → H1 p = some u → Pu u → Q (.ref p) H1
theorem RetND.use {Pu : HO → Prop} (w : Wd (some d) F H) (q : ∀ p u, F p = none → Pu u → P (.ref p) (upd F p u)) (k : ∀ v H1 F1, Wd (some d) F1 H1 → P v F1 → Q v H1) : RetND d Pu H Q :=
  fun p H1 u n e hd h hu => k _ _ _ (w.newD n e hd h) (q p u (w.fr n) hu)
theorem RetND.out {Pu : HO → Prop} (k : RetND d Pu H Q) (e : Ex (rm H d) F1) (n : rm H d p = none) (h : F1 p = some u) (hu : Pu u) : ∀ H1, Wd (some d) F1 H1 → Q (.ref p) H1 := fun H1 w => by
  obtain ⟨f, hd⟩ := w.dc d rfl
  have nd : p ≠ d := ne_of_none h f
  rw [rm_ne nd] at n
  exact k p H1 u n (e.trans w.ex) hd (w.ex _ _ h) hu
theorem go_stD {t : TS} {D : Ends} {σ0 σ : L2.St} (hd : Dc H d) (e : σ0 = σ) (g : Go (some d) t D σ (rm H d)) : t D σ0 H := by
  subst e
  exact g H (Wd.dice hd)
end

/-! ### the rules with the written part by name -/
section
variable {X : Cx} (K : PySem.W.Frag) (hK : X.K = K)
include hK
theorem ixK : IxR X (rIx K) := hK ▸ ix_seq
theorem eqK (hu : X.A.units + 64 < cLine) : OpR X (compareOp .Eq) (rEqP K) := hK ▸ op_eqP hu
theorem neK (hu : X.A.units + 64 < cLine) : OpR X (compareOp .NotEq) (rNeP K) := hK ▸ op_neP hu
theorem inK : OpR X (compareOp .In) (rInP K) := hK ▸ op_inP
theorem niK : OpR X (compareOp .NotIn) (rNiP K) := hK ▸ op_niP
theorem slK : SlR X (rSlP K) := hK ▸ sl_P
theorem lenK : CallR X (.builtin "len") (rLenV K) := hK ▸ call_len
theorem listK (hc : X.calm = true) : CallR X (.type "list") (rListP K) := hK ▸ call_listP hc
theorem isiK : CallR X (.builtin "isinstance") (rIsi K) := hK ▸ call_isi
theorem allK (hc : X.calm = true) : CallR X (.builtin "all") (rAll K) := hK ▸ cr_all hc
theorem maxK (hc : X.calm = true) : CallR X (.builtin "max") (rMax K) := hK ▸ cr_max hc
theorem sortedK : CallR X (.builtin "sorted") (rSorted K) := hK ▸ cr_sorted
theorem joinK : MtR X "str.join" (rJoin K) := hK ▸ mt_join
theorem indexK : MtR X "list.index" (rIndex K) := hK ▸ mt_index
theorem piL {tg l : Expr} {tl : TE} (h : PE X l tl) : PI X tg l (iList K tl) := hK ▸ pi_list h
theorem piT {tg l : Expr} {tl : TE} (h : PE X l tl) : PI X tg l (iTup K tl) := hK ▸ pi_tup h
theorem piE {e : Expr} {ta : TA} {p pos tpos : Pos} {elts : List Expr} {kk : Nat} (hm : X.mg "enumerate" = none) (ha : PA X [e] ta) (hg : Gl X "enumerate" := by rfl) (hs : starEach [e] X.env = [(false, eval e X.env)] := by rfl) :
    PI X (.Tuple elts kk tpos) (.Call (.Name "enumerate" p) [e] [] pos) (iEnum K ta) := hK ▸ pi_enum hg hm ha hs
theorem pgT {es : List Expr} {k : Nat} {pos : Pos} {t : TGs} {n : Nat} (hc : X.calm = true) (h : PGs X es t) (hn : (assignEach es X.env).length = n := by rfl) (hst : (assignEach es X.env).findIdx? (·.1) = none := by rfl) : PG X (.Tuple es k pos) (gTup K n t) := hK ▸ pg_tup hc h hn hst
variable {o e : Expr} {es : List Expr} {to : TE} {t : TA} {name : Str} {apos cpos : Pos} {T id : String} {r : V → List V → Hp → VK → Prop}
theorem bm0K (pa : PlainAttrs T) (slot : Slot T name id) (hty : typeOf (.builtin id) = pure (.type "method_descriptor")) (hm : MtR X id r) (ho : PE X o to)
    (hbase : attributeBase o name X.env (eval o X.env) = eval o X.env := by rfl) (hline : (apos.endLine == cpos.line) = true := by rfl) : PE X (.Call (.Attribute o name apos) [] [] cpos) (tBM0 K T r to) := hK ▸ pe_bm0 pa slot hty hm ho hbase hline
theorem bmK (pa : PlainAttrs T) (slot : Slot T name id) (hty : typeOf (.builtin id) = pure (.type "method_descriptor")) (hm : MtR X id r) (ho : PE X o to) (ha : PA X (e :: es) t)
    (hbase : attributeBase o name X.env (eval o X.env) = eval o X.env := by rfl)
    (hfew : ((backTo cpos (starEach (e :: es) X.env)).all (fun x => !x.1) && (backToKw cpos (keywordEach [] X.env)).all (fun x => x.1.isSome)
      && decide ((e :: es).length + ([] : List Keyword).length + (if ([] : List Keyword).isEmpty then 0 else 1) < 30)) = true := by rfl) (hline : (apos.endLine == cpos.line) = true := by rfl)
    (he : starEach (e :: es) X.env = (false, eval e X.env) :: starEach es X.env := by rfl) (hpl : (backTo cpos (starEach es X.env)).any (·.1) = false := by rfl) :
    PE X (.Call (.Attribute o name apos) (e :: es) [] cpos) (tBM K T r to t) := hK ▸ pe_bm pa slot hty hm ho ha hbase hfew hline he hpl
theorem peJoin {te : TE} (ho : PE X o to) (he : PE X e te) (hs : starEach [e] X.env = [(false, eval e X.env)] := by rfl) (hbase : attributeBase o "join" X.env (eval o X.env) = eval o X.env := by rfl) (hline : (apos.endLine == cpos.line) = true := by rfl) :
    PE X (.Call (.Attribute o "join" apos) [e] [] cpos) (tM1 (rJoin K) to te) := hK ▸ pe_join ho he hs hbase hline
end
theorem gz_l {F F1 : Hp} {p : Addr} {u : HO} (h : upd F p u = F1) (n : F p = none) : Ex F F1 ∧ F1 p = some u := by
  subst h
  exact ⟨ex_new n, upd_same⟩
end Sr
/-! exceptions of own classes over an own base: made, raised, caught, asked -/
namespace Sr
open PySem PySem.Spec PyProof.Rows L2 SrX
/-- the base class, asked for its __init__ by name -/
structure TeC (K : PySem.W.Frag) (mg : Str → Option Value) (x : Str) (CT : Addr) : Prop where
  m : mg x = some (.ref CT)
  sp : PySem.W.specialIn K (.ref CT) "__getattribute__" = some (some (.builtin "type.__getattribute__"))
  rd : PySem.W.readsIn K CT (.type "type") = true
  fc : PySem.W.findCls K (.ref CT) (.type "type") "__init__" = some (.val (.builtin "ValueError.__init__"))
section
variable {X : Cx} {CT : Addr} {x : Str} {e : Expr} {es : List Expr} {ta : TA} {p1 p2 pos : Pos}
theorem pe_teinit {pl : Sem Bool} (T : TeC X.K X.mg x CT) (ha : PA X (e :: es) ta) (hg : Gl X x := by rfl) (hd : (x == ("__debug__" : Str)) = false := by decide)
    (hc : eval (.Call (.Attribute (.Name x p1) "__init__" p2) (e :: es) [] pos) X.env = (do
      let ov ← eval (.Name x p1) X.env
      standAt p2.atName
      let (f, first) ← holding [ov] (getMethod ov "__init__" pl)
      callWith pos f first (backTo pos (starEach (e :: es) X.env)) (backToKw pos (keywordEach [] X.env))) := by rfl)
    (he : starEach (e :: es) X.env = (false, eval e X.env) :: starEach es X.env := by rfl) (hpl : (backTo pos (starEach es X.env)).any (·.1) = false := by rfl) :
    PE X (.Call (.Attribute (.Name x p1) "__init__" p2) (e :: es) [] pos) (tVeI X.K ta) := by
  refine ⟨fun pins s σ H Q I h => ?_⟩
  refine PySem.W.methodCall_KW (ld_glob I hg T.m ?_ hd) hc
  refine PySem.W.method_cls I.kIn T.sp ?_
  refine PySem.W.cls_value I.kIn T.rd T.fc (by decide +kernel) ?_
  show wpAny _ _ (callWith pos (Value.builtin "ValueError.__init__") [] (backTo pos (starEach (e :: es) X.env)) []) _ _ _
  refine PyProof.Rows.callWith_method1 (thn (ha.run pos pins _ σ H _ (I.tok _) h) fun us s1 ⟨vs, H1, I1, r1, a, C, ws, ev, hl, T, ea, q⟩ => ?_) he hpl
  subst ev
  cases r1 with
  | @cons _ u0 _ ur ra rw' =>
    obtain rfl : u0 = Value.ref a := ra
    have hlen : ur.length ≤ sizeLine := by
      rw [← Paired.length rw', sizeLine_eq]
      omega
    exact oinit_ok T I1 ea hlen fun s' J => ⟨.non, H1, J, rfl, q⟩
/-- the end of C(e, ..), its context none -/
theorem mk_endN {pins : List (Addr × Obj)} {σ : L2.St} {H1 H2 : Hp} {Q : XK} {hp hp2 h2 : Heap} {g1 g2 : Array GenState} {d1 d2 : Drawn} {t1 t2 : Nat} {os1 os2 : OsState} {a C d : Addr} {fs : List (Str × V)} (T : Raises X (.ref C)) (I1 : L2.Inv X pins σ H1 ⟨hp, g1, d1, t1, os1⟩)
    (ha : hp.objs.size ≤ a) (k : ∀ b o, hp.get? b = some o → hp2.get? b = some o) (un : Un (frs X.stack) [] (upd H1 a (exo a C none)) H2 hp2 h2) (hok : HOk X.prog X.w H2 h2) (ho : os2 = os1) (hb : AllBare g2)
    (ea : H2 a = some (exo a C (some d))) (ed : H2 d = some (exd d fs)) (hd1 : H1 d = none) (q : Q (.ref C) (some d) (upd (del H2 a) d (.xd fs))) : L2N.MkP X pins σ Q (.ref a) ⟨h2, g2, d2, t2, os2⟩ := by
  obtain ⟨t0, G, J, kG, ge, hoe, na⟩ := mk_end0 (d2 := d2) (t2 := t2) I1 ha k un hok ho hb ea ed hd1
  exact ⟨a, _, _, ⟨G, g2, d2, t2, os2⟩, _, .ref C, some d, rfl, J, kG, ge, hoe, ⟨rfl, rfl, fun vs e => by cases e; rfl⟩, rfl, rfl, na, rfl, hb, T, q⟩
theorem pmk_oexN {CX : CXT} {C fI : Addr} {k : Nat} {fd : FuncData} {ps : List Str} {sp : Sp} {ds : List Value} {dvs : List V} {p : Pos} (T : OexC X.K C) (iC : PySem.W.findIn X.K (.ref C) "__init__" = some (some (.ref fI))) (tI : PySem.W.typeIn X.K (.ref fI) = some (.type "function"))
    (F1 : FnOk X.prog X.w X.K X.mg X.base CX k fI fd ps sp) (hr : Room (k + 1) X.A) (hb : Binds X.K fd ps ds) (hd : Vals dvs ds) (hx : Passes CX X (fun _ _ _ => False)) (hg : Gl X x) (hm : X.mg x = some (.ref C)) (ha : PA X (e :: es) ta)
    (hdb : (x == ("__debug__" : Str)) = false := by decide) (he : starEach (e :: es) X.env = (false, eval e X.env) :: starEach es X.env := by rfl) (hpl : (backTo pos (starEach es X.env)).any (·.1) = false := by rfl) :
    L2N.PMk X (.Call (.Name x p) (e :: es) [] pos) (tMkO C sp dvs ta) := by
  intro pins s σ H Q I h
  obtain ⟨nm, q, N, bs, bm, sn, sub, ab, col, dd, k0, k1, k2, k3, k5, hC, hbm⟩ := T.cls
  refine wpAny_Call_Name_kw (ld_glob I hg hm ?_ hdb)
  refine PySem.W.callWith_K (h₀ := X.base) I.ok.mod.kin T.kC (thn (ha.run pos pins s σ H _ I h) fun us s1 ⟨vs, H1, I1, r1, hz, q1⟩ => ⟨I1.kIn, ?_⟩) he hpl
  show wpAny _ _ (call (.ref C) us) _ _ _
  obtain ⟨hp, g, dr, tk, os⟩ := s1
  have hsz : hp.objs.size ≤ hp.objs.size + 1 := Nat.le_succ _
  have hn : H1 (hp.objs.size + 1) = none := I1.hok.fresh hsz
  have hq := q1 (hp.objs.size + 1) hn
  have kk : ∀ b o, hp.get? b = some o → ((hp.push (PySem.W.kdv_tup us)).push (PySem.HandSPX.excO C hp.objs.size)).get? b = some o := fun b o e => Heap.get?_push_of_some _ (Heap.get?_push_of_some _ e)
  have hget : ((hp.push (PySem.W.kdv_tup us)).push (PySem.HandSPX.excO C hp.objs.size)).get? (hp.objs.size + 1) = some (PySem.HandSPX.excO C hp.objs.size) := by heap_get
  have I2 : L2.Inv X pins σ (upd H1 (hp.objs.size + 1) (exo (hp.objs.size + 1) C none)) ⟨(hp.push (PySem.W.kdv_tup us)).push (PySem.HandSPX.excO C hp.objs.size), g, dr, tk, os⟩ :=
    I1.laid (t' := tk) (a := hp.objs.size + 1) (o := exo (hp.objs.size + 1) C none) (h' := (hp.push (PySem.W.kdv_tup us)).push (PySem.HandSPX.excO C hp.objs.size)) kk hsz (exo_ok hget)
  have r2 : Vals (V.ref (hp.objs.size + 1) :: (vs ++ dvs)) (Value.ref (hp.objs.size + 1) :: (us ++ ds)) := .cons rfl (r1.append hd)
  have hl : (Value.ref (hp.objs.size + 1) :: us ++ ds).length = ps.length := by
    have e := r2.length
    rw [F1.len _ _ _ _ hq] at e
    exact e.symm
  have hus : us.length ≤ sizeLine := by
    rw [← Paired.length r1, sizeLine_eq]
    omega
  refine wpAny_call (PySem.HandSPX.call_own F.excBase_ValueError (fun Y => PySem.HandSPX.refsVE_contains Y bm hbm) (I1.kIn _ _ hC) (PySem.W.looks_findIn I1.kIn iC) (fun self => PySem.W.bind_fn I1.kIn self tI) hus
    (codeAny_mono (F1.run _ X.stack _ _ ⟨Value.ref (hp.objs.size + 1) :: us, []⟩ (Value.ref (hp.objs.size + 1) :: (us ++ ds)) _ _ (fun _ _ _ => False) (hr.make C us []) (I2.env0.make C us []) (hb _ (Value.ref (hp.objs.size + 1) :: us) I2.kIn hl) r2 hq) fun r s' hq' => ?_))
  cases r with
  | error er => exact hx pins σ _ _ er s' I2 hq'
  | ok fl =>
    cases fl with
    | ret u =>
      obtain ⟨v, H2, os2, bare2, un2, hok2, rv, ev, d, fs, ea, ed, hd1, q2⟩ := hq'
      subst ev
      obtain ⟨h2, g2, d2, t2, os'⟩ := s'
      exact ⟨rv, mk_endN (raises_own T.exC T.tyC) I1 hsz kk un2 hok2 os2 bare2 ea ed hd1 q2⟩
    | next => exact False.elim hq'
    | brk => exact False.elim hq'
    | cont => exact False.elim hq'
end
/-! ### promises of defs that may raise -/
section
variable {P : Program} {w : World} {K : PySem.W.Frag} {mg : Str → Option Value} {base : Heap}
theorem okXN {x qual : Str} {st : Stmt} {f : Addr} {fd : FuncData} {N ps : List Str} {k : Nat} {sp : Sp} (F : Fun K x qual st f fd) (S : FnScope N ps (defScope st)) (len : ∀ vs H Q E, sp vs H Q E → vs.length = ps.length)
    (hbody : ∀ (cdv : Value) (A : Around) (outer : List Env) (s : Shared) (H : Hp) (vs : List V) (Q : VK) (E : XK), Room k (A.deeper (envOfC qual (defScope st) s.heap.objs.size f cdv)) → sp vs H Q E →
      ∃ t, PSs (cxOf (L2N.CX P w) P w K mg base N qual (defScope st) f cdv A outer s H E) (defBody st) t ∧ t { nx := fun _ H' => Q .non H', rt := Q } (start N vs) H) : FnOk P w K mg base (L2N.CX P w) (k + 1) f fd ps sp := by
  obtain ⟨oc, od, kV, doc, pm, an, cdv, ct, osl, rfl, lk, hcd⟩ := F.ex
  exact fn_of lk hcd S len fun A outer s H vs Q E hr hsp => hbody cdv A outer s H vs Q E hr hsp
theorem passLN {X : Cx} : Passes (L2N.CX X.prog X.w) X E0 := fun _ _ _ _ _ _ _ h => by
  obtain ⟨_, _, _, _, _, _, _, _, _, _, _, _, z⟩ := h
  exact z.elim
theorem takes0N {X : Cx} : L2N.Takes X (fun _ _ _ _ => False) := fun _ _ x => by
  obtain ⟨_, _, _, _, _, _, _, _, _, _, _, _, _, _, _, _, z⟩ := x
  exact z.elim
end
/-! ### C(v): raised -/
/-- what C's __init__ does -/
def spI (C : Addr) (f : Str) : Sp := fun vs H Q _ => ∃ (a : Addr) (v : V), vs = [.ref a, v] ∧ H a = some (exo a C none) ∧ ∀ d, H d = none → d ≠ a → Q .non (upd (upd H d (exd d [(f, v)])) a (exo a C (some d)))
/-- the class x at C, its field f -/
def Rz (P : Program) (w : World) (K : PySem.W.Frag) (mg : Str → Option Value) (base : Heap) (x : Str) (C : Addr) (f : Str) : Prop :=
  OexC K C ∧ mg x = some (.ref C) ∧ ∃ fI fd, PySem.W.findIn K (.ref C) "__init__" = some (some (.ref fI)) ∧ PySem.W.typeIn K (.ref fI) = some (.type "function") ∧ FnOk P w K mg base CX0 1 fI fd ["self", f] (spI C f) ∧ Binds K fd ["self", f] []
def tRz (C : Addr) (f : Str) (W : WX) (ta : TA) : TS := fun _ σ H => tMkO C (spI C f) [] ta σ H fun cls d H' => W cls d σ H'
theorem ps_rz {X : Cx} {W : WX} {x f : Str} {C : Addr} {e : Expr} {ta : TA} {p pos pos' : Pos} (G : Rz X.prog X.w X.K X.mg X.base x C f) (hc : X.calm = true) (hr : Room 2 X.A) (tk : L2N.Takes X W) (ha : PA X [e] ta) (hg : Gl X x := by rfl)
    (hdb : (x == ("__debug__" : Str)) = false := by decide) (he : starEach [e] X.env = (false, eval e X.env) :: starEach [] X.env := by rfl) (hpl : (backTo pos (starEach [] X.env)).any (·.1) = false := by rfl) :
    PS X (.Raise (some (.Call (.Name x p) [e] [] pos)) none pos') (tRz C f W ta) := by
  obtain ⟨T, hm, fI, fd, iC, tI, F1, hb⟩ := G
  exact L2N.ps_raise (pos := pos') hc tk (pmk_oexN (p := p) (pos := pos) (e := e) (es := []) (ds := []) (dvs := []) T iC tI F1 hr hb .nil pass0 hg hm ha hdb he hpl)
theorem ex_xd {H1 : Hp} {a d : Addr} {u0 u1 u2 u3 : HO} (ha : H1 a = none) (hd : H1 d = none) : Ex H1 (upd (del (upd (upd (upd H1 a u0) d u1) a u2) a) d u3) := fun b o e => by
  have nb : b ≠ a := ne_of_none e ha
  have nd : b ≠ d := ne_of_none e hd
  rw [upd_ne nd, del_ne nb, upd_ne nb, upd_ne nd, upd_ne nb]
  exact e
theorem go_rz {o : Option Addr} {F : Hp} {σ : L2.St} {D : Ends} {C : Addr} {f : Str} {W : WX} {ta : TA} {tz : TS} (h : Wp o (ta σ) F fun vs F1 => ∃ v, vs = [v] ∧ ∀ H, Wd o F1 H → ∀ d H2, H d = none → Ex H H2 → H2 d = some (.xd [(f, v)]) → W (.ref C) (some d) σ H2) :
    Go o (tSeq (tRz C f W ta) tz) D σ F := fun H w => h H w _ fun vs H1 F1 w1 ⟨v, e, k⟩ => by
  subst e
  refine ⟨by show 1 ≤ 1000; decide, fun a ha => ⟨a, v, rfl, upd_same, fun d hd hda => ⟨rfl, d, [(f, v)], upd_same, ?_, ?_, ?_⟩⟩⟩
  · rw [upd_ne hda, upd_same]
  · rw [upd_ne hda] at hd
    exact hd
  · rw [upd_ne hda] at hd
    exact k H1 w1 d _ hd (ex_xd ha hd) upd_same
/-! ### isinstance of the caught one, its own dict there or not -/
/-- what the class says -/
structure XcC (K : PySem.W.Frag) (D : Addr) : Prop where
  hg : PySem.W.findIn K (.ref D) "__getattribute__" = some (some (.builtin "BaseException.__getattribute__"))
  hk : PySem.W.findIn K (.ref D) "__getattr__" = some none
  hs : PySem.W.subIn K (.ref D) (.type "BaseException") = some true
  hd : PySem.W.hasDictIn K D = true
  ha : PySem.W.findIn K (.ref D) "__class__" = some (some (.builtin "object.__class__"))
  hn : PySem.W.specialIn K (.builtin "object.__class__") "__get__" = some (some (.builtin "getset_descriptor.__get__"))
  ht : PySem.W.takesIn K (.builtin "object.__class__") = some true
  hm : PySem.W.mroIn K D (.type "object") = some true
def rIsX (K : PySem.W.Frag) (a : Addr) (cls : Value) (d : Option Addr) : List V → Hp → VK → Prop := fun xs H Q => ∃ (D : Addr) (c : V) (cv : Value) (b : Bool), cls = .ref D ∧ XcC K D ∧ xs = [.ref a, c] ∧ (∀ u, RelV c u → u = cv) ∧ PySem.W.kitOne K (.ref D) cv = some b ∧ (∀ dd, d = some dd → ∃ fs, H dd = some (.xd fs)) ∧ Q (.bl b) H
theorem call_isX {X : Cx} {a : Addr} {cls : Value} {d : Option Addr} {oe : Obj} {pn : List (Addr × Obj)} (hz : Zc cls d oe) (hf : ∃ vs, oe.data = .fields vs) : CallR (X.suite a ((a, oe) :: pn)) (.builtin "isinstance") (rIsX X.K a cls d) := by
  intro pins s σ H xs us Q I r h
  obtain ⟨D, c, cv, b, ed, C, rfl, hcv, e, hdd, q⟩ := h
  subst ed
  cases r with
  | cons rx rr =>
    cases rr with
    | cons rt rr =>
      cases rr
      cases rx
      have ec := hcv _ rt
      subst ec
      obtain ⟨hget, _⟩ := I.pin (a, oe) (List.mem_append.mpr (.inl List.mem_cons_self))
      obtain ⟨vs, hv⟩ := hf
      obtain ⟨od, J⟩ : ∃ od, PySem.W.InstAt s.heap a oe D od := by
        cases d with
        | none => exact ⟨none, hget, hz.1, by unfold PySem.W.notCls; rw [hv] <;> rfl, by rw [hz.2]; exact trivial⟩
        | some dd =>
          obtain ⟨fs, ea⟩ := hdd dd rfl
          have hx : ObjOk X.prog X.w H s.heap dd (.xd fs) := I.hok dd _ ea
          obtain ⟨mA, hns, hr⟩ := hx
          obtain ⟨od, ho, hl⟩ := lookIn_ns hns
          exact ⟨some od, hget, hz.1, by unfold PySem.W.notCls; rw [hv] <;> rfl, by rw [hz.2]; exact ho⟩
      have hcl : (PySem.W.clsIn X.K D).isSome = true := by
        have := C.hd
        unfold PySem.W.hasDictIn at this
        cases q : PySem.W.clsIn X.K D with
        | none => rw [q] at this; cases this
        | some _ => rfl
      exact PySem.W.kia_one (PySem.W.kitx_exc hcl C.hg C.hk C.hs C.ha C.hn C.ht C.hm) I.kIn J e (fun z => nomatch z) fun tk => ⟨.bl b, H, I.kept (t' := tk) fun _ _ z => z, rfl, q⟩
/-! ### the rules with the written part by name -/
section
variable {X : Cx} (K : PySem.W.Frag) (hK : X.K = K)
include hK
theorem pe_teinitK {CT : Addr} {x : Str} {e : Expr} {es : List Expr} {ta : TA} {p1 p2 pos : Pos} {pl : Sem Bool} (T : TeC K X.mg x CT) (ha : PA X (e :: es) ta) (hg : Gl X x := by rfl) (hd : (x == ("__debug__" : Str)) = false := by decide)
    (hc : eval (.Call (.Attribute (.Name x p1) "__init__" p2) (e :: es) [] pos) X.env = (do
      let ov ← eval (.Name x p1) X.env
      standAt p2.atName
      let (f, first) ← holding [ov] (getMethod ov "__init__" pl)
      callWith pos f first (backTo pos (starEach (e :: es) X.env)) (backToKw pos (keywordEach [] X.env))) := by rfl)
    (he : starEach (e :: es) X.env = (false, eval e X.env) :: starEach es X.env := by rfl) (hpl : (backTo pos (starEach es X.env)).any (·.1) = false := by rfl) :
    PE X (.Call (.Attribute (.Name x p1) "__init__" p2) (e :: es) [] pos) (tVeI K ta) := by
  subst hK
  exact pe_teinit T ha hg hd hc he hpl
theorem ps_ostK {o e : Expr} {to te : TE} {f : Str} {p' pos : Pos} (ho : PE X o to) (he : PE X e te) (hs : swapsWith e (some (.Attribute o f p')) pos.line X.env = pure false := by rfl) : PS X (.Assign [.Attribute o f p'] e pos) (tOst K f to te) := by
  subst hK
  exact ps_ost ho he hs
theorem isXK {a : Addr} {cls : Value} {d : Option Addr} {oe : Obj} {pn : List (Addr × Obj)} (hz : Zc cls d oe) (hf : ∃ vs, oe.data = .fields vs) : CallR (X.suite a ((a, oe) :: pn)) (.builtin "isinstance") (rIsX K a cls d) := by
  subst hK
  exact call_isX hz hf
theorem pe_xfK {a C : Addr} {oe : Obj} {cls : Value} {d : Option Addr} {pn : List (Addr × Obj)} {e : Expr} {te : TE} {pos : Pos} {n : Str} (T : XfC K C) (hno : PySem.W.findIn K (.ref C) n = some none)
    (hz : Zc cls d oe) (hf : ∃ vs, oe.data = .fields vs) (he : PE (X.suite a ((a, oe) :: pn)) e te) (hb : attributeBase e n X.env (eval e X.env) = eval e X.env := by rfl) :
    PE (X.suite a ((a, oe) :: pn)) (.Attribute e n pos) (tXf a cls d C n te) := by
  subst hK
  exact pe_xf T hno hz hf he hb
end
section
variable {X : Cx}
theorem pe_clsG {x : Str} {C : Addr} {pos : Pos} (h : X.mg x = some (.ref C)) (hg : Gl X x := by rfl) (hd : (x == ("__debug__" : Str)) = false := by decide) : PE X (.Name x pos) (tC (.ref C)) := pe_glob hg h rfl hd
theorem pe_pmS {k : Nat} {x : Str} {ps : List Str} {sp : Sp} {W : WX} {e : Expr} {es : List Expr} {t : TA} {p pos : Pos} (G : Pm X.prog X.w X.K X.mg X.base (L2N.CX X.prog X.w) k x ps sp) (hr : Room k X.A) (tk : L2N.Takes X W) (ha : PA X (e :: es) t) (hg : Gl X x := by rfl)
    (hd : (x == ("__debug__" : Str)) = false := by decide) (he : starEach (e :: es) X.env = (false, eval e X.env) :: starEach es X.env := by rfl) (hpl : (backTo pos (starEach es X.env)).any (·.1) = false := by rfl) :
    PE X (.Call (.Name x p) (e :: es) [] pos) (tCallS sp (WE W) t) := by
  obtain ⟨f, fd, F, hm, hk, hb⟩ := G
  exact pe_callS F hr hg hm hk hb (L2N.passAt tk) ha hd he hpl
end
section
variable {o : Option Addr} {F : Hp} {σ : L2.St} {D : Ends} {K : PySem.W.Frag} {P : V → Hp → Prop} {te : TE} {tz : TS} {ta : TA}
theorem wp_callS {sp : Sp} {E : L2.St → XK} (h : Wp o (ta σ) F fun vs F1 => Wp o (fun H Q => sp vs H Q (E σ)) F1 P) : Wp o (tCallS sp E ta σ) F P := fun H w Q k =>
  h H w _ fun vs H1 F1 w1 h1 => h1 H1 w1 Q k
theorem go_try {c : Value} {i : Nat} {ts : Addr → Value → Option Addr → TS} {tb : WX → TS} {Wout : WX} (h : Go o (tb (wAs K c i ts Wout { D with nx := tz D })) { D with nx := tz D } σ F) :
    Go o (tSeq (fun D σ H => tb (wAs K c i ts Wout D) D σ H) tz) D σ F := h
/-- the caught one: into the suite -/
theorem go_was {c : Value} {i : Nat} {ts : Addr → Value → Option Addr → TS} {Wout : WX} {D1 : Ends} {cls : Value} {d : Addr} {f : Str} {v : V} {H2 : Hp} (w : Wd o F H2) (hx : H2 d = some (.xd [(f, v)])) (n : F d = none) (no : ∀ b, o = some b → b ≠ d) (e : PySem.W.exmOne K cls c = some true)
    (h : ∀ a, Go o (ts a cls (some d)) { nx := fun σ' H' => D1.nx (σ'.set i none) H', rt := D1.rt, bk := fun σ' H' => D1.bk (σ'.set i none) H', ct := fun σ' H' => D1.ct (σ'.set i none) H' } (σ.set i (some (.ref a))) (upd F d (.xd [(f, v)]))) :
    wAs K c i ts Wout D1 cls (some d) σ H2 := ⟨true, e, fun _ a ha => h a H2 ⟨fun b u q => by
      by_cases hb : b = d
      · subst hb; rw [upd_same] at q; rw [← q]; exact hx
      · rw [upd_ne hb] at q; exact w.ex _ _ q, fun b hb => ⟨by rw [upd_ne (no b hb)]; exact (w.dc b hb).1, (w.dc b hb).2⟩⟩, fun z => nomatch z⟩
theorem wp_isX {a D : Addr} {cls : Value} {dd : Addr} {fs : List (Str × V)} {c : V} {cv : Value} {b : Bool} (e : cls = .ref D) (C : XcC K D) (hcv : ∀ u, RelV c u → u = cv) (hk : PySem.W.kitOne K (.ref D) cv = some b) (hx : F dd = some (.xd fs)) (q : P (.bl b) F) :
    Wp o (rIsX K a cls (some dd) [.ref a, c]) F P := fun H w Q k => ⟨D, c, cv, b, e, C, rfl, hcv, hk, fun z hz => by cases hz; exact ⟨fs, w.ex _ _ hx⟩, k _ H F w q⟩
theorem wp_xf {a C : Addr} {cls : Value} {dd : Addr} {f : Str} {fs : List (Str × V)} {v : V} (h : Wp o (te σ) F fun x F1 => x = .ref a ∧ cls = .ref C ∧ F1 dd = some (.xd fs) ∧ fs.lookup f = some v ∧ P v F1) : Wp o (tXf a cls (some dd) C f te σ) F P := fun H w Q k =>
  h H w _ fun x H1 F1 w1 ⟨e1, e2, hx, hl, q⟩ => ⟨e1, e2, dd, fs, v, rfl, w1.ex _ _ hx, hl, k _ H1 F1 w1 q⟩
theorem wp_teI {a C : Addr} {ws : List V} (h : Wp o (ta σ) F fun vs F1 => vs = .ref a :: ws ∧ ws.length ≤ 1000 ∧ OexC K C ∧ F1 a = some (exo a C none) ∧ P .non F1) : Wp o (tVeI K ta σ) F P := fun H w Q k =>
  h H w _ fun vs H1 F1 w1 ⟨e, hl, T, hx, q⟩ => ⟨a, C, ws, e, hl, T, w1.ex _ _ hx, k _ H1 F1 w1 q⟩
theorem go_ost {f : Str} {to : TE} {a C : Addr} (h : Wp o (te σ) F fun y F1 => Wp o (to σ) F1 fun x F2 => x = .ref a ∧ OexC K C ∧ PySem.W.findIn K (.ref C) f = some none ∧ ∀ H, Wd o F2 H → H a = some (exo a C none) ∧ ∀ dx, H dx = none → dx ≠ a → tz D σ (upd (upd H dx (exd dx [(f, y)])) a (exo a C (some dx)))) :
    Go o (tSeq (tOst K f to te) tz) D σ F := fun H w => h H w _ fun y H1 F1 w1 h1 => h1 H1 w1 _ fun x H2 F2 w2 ⟨e, T, hno, k⟩ => ⟨a, C, e, T, hno, .inl (k H2 w2)⟩
end
end Sr
/-! a text once or not at all -/
namespace Sr
open PySem PySem.Spec PyProof.Rows L2 SrX
def rMulS : R2 := fun x y H Q => ∃ (i : Str) (n : Int), x = .str i ∧ y = .int n ∧ (n = 0 ∨ n = 1) ∧ Q (.str (if n = 1 then i else tx [])) H
theorem op_mulS {X : Cx} : OpR X (binaryOp .Mult) rMulS := by
  intro pins s σ H x y v u Q I rx ry h
  obtain ⟨i, n, rfl, rfl, hn, q⟩ := h
  obtain ⟨t, rfl⟩ := rx
  obtain ⟨t', rfl⟩ := ry
  refine PySem.SB.mul (n := n) ?_ fun t2 k => ?_
  · rcases hn with rfl | rfl
    · exact ⟨by decide, fun z => absurd (by decide) z, fun z => absurd (by decide) z⟩
    · exact ⟨by decide, fun _ z => by simp at z, fun _ z => by simp at z⟩
  · refine ⟨.str (if n = 1 then i else tx []), H, I.tok _, ⟨t2, ?_⟩, q⟩
    rcases hn with rfl | rfl
    · rfl
    · show Value.str (if (1 : Int) < 1 then Str.empty else if ((1 : Int) == 1 || i.length == 0) = true then i else _) t2 = _
      rw [if_neg (by decide), if_pos (by simp)]
      rfl
theorem wp_mulS {o : Option Addr} {F : Hp} {Pq : V → Hp → Prop} {l : List Nat} {n : Int} (h : n = 0 ∨ n = 1) (q : Pq (.str (tx (if n = 1 then l else []))) F) : Wp o (rMulS (.str (tx l)) (.int n)) F Pq := fun H w Q k =>
  ⟨tx l, n, rfl, rfl, h, by
    have e : (if n = 1 then tx l else tx []) = tx (if n = 1 then l else []) := by split <;> rfl
    rw [e]
    exact k _ H F w q⟩
end Sr
/-! a comprehension over a list while an exception is handled -/
namespace Sr
open PySem PySem.Spec PyProof.Rows L2 SrX HotX
section
variable {prog : Program} {w : World} {A : Around} {E : Value → Shared → Prop} {s : Shared}
theorem pyNext_list_end_hot {it l x1 : Addr} {i : Nat} {items} {Q : Option Value → Shared → Prop} (hot : HotAt A x1 s.heap) (hne : x1 ≠ it)
    (hit : s.heap.IsListIter it l i) (hl : s.heap.IsList l items) (hx : items[i]? = none)
    (hQ : ∀ h', (∀ b o, b ≠ it → s.heap.get? b = some o → h'.get? b = some o) → Q none { s with heap := h' }) : wpAny (model prog w) A (pyNext (.ref it)) Q E s := by
  obtain ⟨o, ho, hc, hd⟩ := id hit
  obtain ⟨ol, hol, _, nl, hdl⟩ := hl
  obtain ⟨hh, o1, vs1, h1, d1, c1⟩ := hot
  unfold pyNext
  refine wpAny_bind (wpAny_attempt (wpAny_callSpecial?_slot (name := Str.ofString "__next__") hit.typeIs slot_listiter_next
    (wpAny_call_entry slot_listiter_next hit.typeIs entry_listiter_next ?_ (args_listiter_next _))))
  show wpAny _ _ (field (.ref it) 0 >>= _) _ _ s
  refine wpAny_bind (wpAny_field ho hd (x := .ref l) rfl ?_)
  show wpAny _ _ (if (Value.ref l == Value.none) = true then _ else _) _ _ s
  rw [if_neg (show ¬ ((Value.ref l == Value.none) = true) from Bool.false_ne_true)]
  show wpAny _ _ (field (.ref it) 1 >>= _) _ _ s
  refine wpAny_bind (wpAny_field ho hd (x := .int i 0) rfl ?_)
  show wpAny _ _ (seqItems? (.ref l) >>= _) _ _ s
  refine wpAny_bind (wpAny_seqItems hol hdl ?_)
  simp only [Int.toNat_natCast, hx]
  refine wpAny_bind (wpAny_rule (wpAny_bind (wpAny_setField ho hd (by simp) ?_)))
  show wpAny _ _ (newExc (.type "StopIteration") [] >>= _) _ _ _
  refine wpAny_bind ?_
  simp only [newExc, newTuple]
  refine wpAny_bind (wpAny_newObj_type ?_ (by size_fits))
  refine wpAny_bind (m := firstArgMember _ _) (wpAny_of_eq (a := Value.none) (by first | rfl | (simp only [firstArgMember]; rfl)) ?_)
  refine wpAny_newObj_type ?_ (by size_fits)
  have hk : ∀ b u, b ≠ it → s.heap.get? b = some u → (s.heap.update it (Obj.mapFields (·.setIfInBounds 0 .none))).get? b = some u := fun b u n e => by
    rw [Heap.get?_update_other _ _ (Ne.symm n)]
    exact e
  refine raiseNew_hot ⟨hh, o1, vs1, Heap.get?_push_of_some _ (Heap.get?_push_of_some _ (hk _ _ hne h1)), d1, c1⟩ (Nat.ne_of_lt (Heap.lt_size (Heap.get?_push_of_some _ (hk _ _ hne h1)))) (Heap.get?_push_size _ rfl) rfl (by first | (simp; done) | (simp; omega) | (simp only [Array.size_append]; simp; omega)) ?_
  refine wpAny_bind (wpAny_isInstance (T := "StopIteration") (b := true) ⟨_, Heap.get?_update_self _ (Heap.get?_push_size _ rfl) rfl, rfl⟩ isSubtype_stop ?_)
  refine wpAny_pure (hQ _ fun b o n e => ?_)
  rw [Heap.get?_update_other _ _ (Nat.ne_of_gt (Heap.lt_size (Heap.get?_push_of_some _ (hk _ _ n e))))]
  exact Heap.get?_push_of_some _ (Heap.get?_push_of_some _ (hk _ _ n e))
end
/-! ### the list's turns, one exception being handled -/
open L2H in
/-- what a turn keeps and gives, the handled exception at x1 out of the way -/
structure TurnQ (P : Program) (w : World) (K : PySem.W.Frag) (tg : Expr) (J : It) (fp : List Addr) (it : Addr) (tn : Nat → Heap → Prop) : Prop where
  obj : ∀ i h, tn i h → ∀ b ∈ fp, ∃ o, h.get? b = some o ∧ ∀ v, o.data ≠ .cell v
  keep : ∀ i h h', tn i h → (∀ b ∈ fp, ∀ o, h.get? b = some o → h'.get? b = some o) → tn i h'
  item : ∀ (X : Cx), X.prog = P → X.w = w → X.K = K → ∀ (i : Nat) (pins : List (Addr × Obj)) (s : Shared) (σ : L2.St) (H : Hp) (E : Value → Shared → Prop), Inv X pins σ H s → (∀ b ∈ fp, FpOk X pins H b) → tn i s.heap → J.go i H →
    wpAny (model P w) X.A (pyNext (.ref it)) (fun r s1 => ∃ u, r = some u ∧
      wpAny (model P w) X.A (letOwnedTupleGo tg (.ref it) u) (fun _ s2 => ∃ x H', Inv X pins σ H' s2 ∧ RelV x u ∧ J.yld i H x H' ∧ tn (i + 1) s2.heap ∧ ∀ b ∈ fp, H' b = none) E s1) E s
  done : ∀ (X : Cx), X.prog = P → X.w = w → X.K = K → ∀ (i : Nat) (pins : List (Addr × Obj)) (s : Shared) (σ : L2.St) (H : Hp) (E : Value → Shared → Prop), (∃ x1, HotAt X.A x1 s.heap ∧ x1 ∉ fp) → Inv X pins σ H s → (∀ b ∈ fp, FpOk X pins H b) → tn i s.heap → J.stop i H →
    wpAny (model P w) X.A (pyNext (.ref it)) (fun r s1 => r = none ∧ Inv X pins σ H s1) E s
  self : ∀ (A : Around) (i : Nat) (s : Shared) (Q : Value → Shared → Prop) (E : Value → Shared → Prop), tn i s.heap → Q (.ref it) s → wpAny (model P w) A (pyIter (.ref it)) Q E s
theorem turn_listQ {P : Program} {w : World} {K : PySem.W.Frag} {tg : Expr} (a it : Addr) : TurnQ P w K tg (Itl K a) [it] it (fun i h => h.IsListIter it a i) where
  obj := fun i h st b hb => by
    have e : b = it := by simpa using hb
    subst e
    obtain ⟨o, e, c, d⟩ := st
    exact ⟨o, e, fun v z => by rw [d] at z; cases z⟩
  keep := fun i h h' st k => st.at fun o e => k it (by simp) o e
  item := by
    intro X hP hw hK i pins s σ H E I hf st hg
    subst hP hw hK
    obtain ⟨xs, x, hq, hx⟩ := hg
    obtain ⟨its, rv, p, hz⟩ := I.list hq
    obtain ⟨u, hu, ru⟩ := rv.get hx
    obtain ⟨f0, f1, f2, f3, f4, f5⟩ := hf it (by simp)
    refine wpAny_pyNext_list_item st p.isList (x := u) (by simpa using hu) fun h' st' sb => ?_
    have I1 : Inv X pins σ H { s with heap := h' } := I.turned (t' := s.toks) (fun b o hb e => (sb.2 b hb).trans e) f0 f1 f3 f4 f5
    obtain ⟨o, e, c, d⟩ := id st'
    exact ⟨u, rfl, L2.go_of (s := { s with heap := h' }) e c d (by decide) ⟨x, H, I1, ru, ⟨rfl, fun ys hy => by rw [I.list_inj hy hq]; exact hx⟩, st', fun b hb => (hf b hb).1⟩⟩
  done := by
    intro X hP hw hK i pins s σ H E hot I hf st hg
    subst hP hw hK
    obtain ⟨xs, hq, hx⟩ := hg
    obtain ⟨its, rv, p, hz⟩ := I.list hq
    obtain ⟨f0, f1, f2, f3, f4, f5⟩ := hf it (by simp)
    obtain ⟨x1, hot, hne⟩ := hot
    have hl := rv.length
    exact pyNext_list_end_hot hot (by simpa using hne) st p.isList (by simp; omega) fun h' eb => ⟨rfl, I.turned (t' := s.toks) (fun b o hb e => eb b o hb e) f0 f1 f3 f4 f5⟩
  self := fun _ _ _ _ _ st h => wpAny_pyIter_listiter st h
section
variable {X : Cx}
theorem lc_coreH {pins : List (Addr × Obj)} {s : Shared} {σ : L2.St} {H : Hp} {Q : VK} {elt tg iter : Expr} {ifs : List Expr} {scope : Scope} {own : List (Str × Nat)} {pos pos' : Pos} {tl : TE} {g : TG} {tt : TT} {te : TE} {use : Option (Value → Sem Unit)} {Qf : Value → Shared → Prop}
    (hc : L2H.HotC X) (hN : X.N.Nodup) (I : Inv X pins σ H s) (hi : PE X iter tl) (ok : BlkOk X.N X.env.scope scope own)
    (hg : ∀ (s : Shared) (H : Hp) (C : Addr) (cl : List (Str × Addr)) (fp : List Addr), PG (X.blk s H scope (compEnvC scope cl C X.env) fp) tg g) (ht : ∀ (s : Shared) (H : Hp) (C : Addr) (cl : List (Str × Addr)) (fp : List Addr), PTs (X.blk s H scope (compEnvC scope cl C X.env) fp) ifs tt)
    (he : ∀ (s : Shared) (H : Hp) (C : Addr) (cl : List (Str × Addr)) (fp : List Addr), PE (X.blk s H scope (compEnvC scope cl C X.env) fp) elt te) (hs : ∀ x, foldedSetIterable iter X.env x = pure x)
    (h : tLc (iList X.K tl) g tt te (own.map (·.2)) σ H Q)
    (hRR : ∀ D C s' m H', Inv X pins σ H' s' → Q (.ref D) H' → s'.heap.Ns C m → FpOk X pins H' C → compPost (model X.prog X.w) X.A X.xe use Qf (.ref D) C (.ok .next) s') :
    wpAny (model X.prog X.w) X.A (comprehension (.ListComp elt [⟨tg, iter, ifs, 0⟩] scope pos) scope X.env pos' (newList []) false (eval iter X.env) use) Qf X.xe s := by
  have hfree : ∀ y ∈ scope.names, y.2 = .free → ∃ c, X.env.cells.lookup y.1 = some c := fun y hy e => by
    rcases ok.free y hy e with k | k
    · exact I.ok.has _ (.inl k)
    · exact I.ok.has _ (.inr k)
  refine wpAny_comprehension_free (use := use) rfl hs (closure_ok hfree) ok.kind (fun y hy e => by rw [ok.uniq y hy, e])
    (thn (hi.run pins s σ H _ I h) fun xv s1 ⟨x, H1, I1, r1, q1⟩ => ?_)
  obtain ⟨a, ex, ⟨xs, hq⟩, q⟩ := q1
  subst ex
  cases r1
  obtain ⟨its, rv, pL, hz⟩ := I1.list hq
  refine wpAny_pyIter_list pL.isList ?_
  generalize hs2 : ({ s1 with heap := s1.heap.push _ } : Shared) = s2
  have I2 : Inv X pins σ H1 s2 := by
    rw [← hs2]
    exact I1.kept (t' := s1.toks) fun b o e => Heap.get?_push_of_some _ e
  generalize hit : s1.heap.objs.size = it
  have st2 : s2.heap.IsListIter it a 0 := by
    rw [← hs2, ← hit]
    exact ⟨_, Heap.get?_push_size _ rfl, rfl, rfl⟩
  have fIt : FpOk X pins H1 it := by
    rw [← hit]
    exact I1.fpOk (Nat.le_refl _) (I1.hok.fresh (Nat.le_refl _))
  have f2 : ∀ b ∈ [it], FpOk X pins H1 b := fun b hb => by
    have e : b = it := by simpa using hb
    subst e
    exact fIt
  generalize hfp : [it] = fp at f2
  have T : TurnQ X.prog X.w X.K tg (Itl X.K a) fp it (fun i h => h.IsListIter it a i) := by
    rw [← hfp]
    exact turn_listQ a it
  generalize htn : (fun (i : Nat) (h : Heap) => h.IsListIter it a i) = tn at T
  have st2 : tn 0 s2.heap := by rw [← htn]; exact st2
  refine wpAny_newObj_type (newEnv_comp ?_) (by show 0 ≤ sizeLine; decide)
  generalize hD : s2.heap.objs.size = D
  have hDn : H1 D = none := I2.hok.fresh (Nat.le_of_eq hD)
  obtain ⟨W, ⟨m0, w0⟩, turn⟩ := q D hDn
  generalize hs3 : ({ s2 with heap := s2.heap.push { cls := .type "list", data := .seq ([] : List Value).toArray } } : Shared) = s3
  have I3 : Inv X pins σ (upd H1 D (.lst [])) s3 := by
    rw [← hs3]
    refine I2.laid (t' := s2.toks) (fun b o e => Heap.get?_push_of_some _ e) (Nat.le_of_eq hD) ⟨Nat.zero_le _, [], 0, .nil, ?_⟩
    rw [← hD]
    exact Heap.get?_push_size _ rfl
  have h3 : s3.heap = s2.heap.push { cls := .type "list", data := .seq ([] : List Value).toArray } := by rw [← hs3]
  have sz : ∀ b ∈ fp, b < s2.heap.objs.size := fun b hb => by
    obtain ⟨o, e, _⟩ := T.obj _ _ st2 b hb
    exact Heap.lt_size e
  have f3 : ∀ b ∈ fp, FpOk X pins (upd H1 D (.lst [])) b ∧ b < s3.heap.objs.size := fun b hb => by
    have hlt := sz b hb
    refine ⟨⟨?_, (f2 b hb).2⟩, by rw [h3, Heap.size_push]; exact Nat.lt_succ_of_lt hlt⟩
    rw [upd_ne (by rw [← hD]; exact Nat.ne_of_lt hlt)]
    exact (f2 b hb).1
  have st3 : tn 0 s3.heap := T.keep _ _ _ st2 fun b _ o e => by rw [h3]; exact Heap.get?_push_of_some _ e
  have I4 := block_start I3 ok hN f3
  have pg := hg s3 (upd H1 D (.lst [])) s3.heap.objs.size (cellsFrom (s3.heap.objs.size + 1) scope.names (cloFrom X.env.cells scope.names [])) fp
  have pt := ht s3 (upd H1 D (.lst [])) s3.heap.objs.size (cellsFrom (s3.heap.objs.size + 1) scope.names (cloFrom X.env.cells scope.names [])) fp
  have pe := he s3 (upd H1 D (.lst [])) s3.heap.objs.size (cellsFrom (s3.heap.objs.size + 1) scope.names (cloFrom X.env.cells scope.names [])) fp
  show codeAny _ _ (.compStart (.ListComp elt [⟨tg, iter, ifs, 0⟩] scope pos) 0 (.ref it) (.ref D) (compEnvC scope (cellsFrom (s3.heap.objs.size + 1) scope.names (cloFrom X.env.cells scope.names [])) s3.heap.objs.size X.env)) (compPost (model X.prog X.w) X.A X.xe use Qf (.ref D) s3.heap.objs.size) { s3 with heap := pushCells (s3.heap.push { cls := .type "dict", data := .dict #[] }) scope.names }
  have nfp : ∀ b ∈ fp, (upd H1 D (.lst [])) b = none := fun b hb => (f3 b hb).1.1
  generalize hce : compEnvC scope (cellsFrom (s3.heap.objs.size + 1) scope.names (cloFrom X.env.cells scope.names [])) s3.heap.objs.size X.env = ce at I4 pg pt pe ⊢
  have cL : ce.locals = s3.heap.objs.size := by subst hce; rfl
  generalize hH3 : upd H1 D (.lst []) = H3 at I3 I4 pg pt pe w0 nfp f3
  generalize hs4 : ({ s3 with heap := pushCells (s3.heap.push { cls := .type "dict", data := .dict #[] }) scope.names } : Shared) = s4 at I4 ⊢
  have st4 : tn 0 s4.heap := T.keep _ _ _ st3 fun b _ o e => by rw [← hs4]; exact pushCells_keeps _ _ _ _ (Heap.get?_push_of_some _ e)
  have stat : ∀ {σ' : L2.St} {H' : Hp} {s' : Shared}, Inv (X.blk s3 H3 scope ce fp) [] σ' H' s' → (∀ b ∈ fp, H' b = none) → ∀ b ∈ fp, FpOk (X.blk s3 H3 scope ce fp) [] H' b := fun {σ' H' s'} I' hn b hb =>
    ⟨hn b hb, (I'.ok.exf b hb).1, I'.ok.exfs b hb, .inl hb, fun x c e => (I'.ok.exf b hb).2 x c e, fun p hp => absurd (show p ∈ ([] : List (Addr × Obj)) ++ [] from hp) (by simp)⟩
  have back : ∀ {σ' : L2.St} {H' : Hp} {s' : Shared}, Inv (X.blk s3 H3 scope ce fp) [] σ' H' s' → Inv X pins σ H' s' := fun {σ' H' s'} I' =>
    I3.call' (ch := fp) I'.os I'.base I'.hok I'.bare fun b hb => ⟨(f3 b hb).1.2.2.2.1, (f3 b hb).1.2.1, (f3 b hb).1.2.2.2.2.1, (f3 b hb).1.2.2.2.2.2⟩
  have loop : codeAny (model X.prog X.w) X.A (.compLoop (.ListComp elt [⟨tg, iter, ifs, 0⟩] scope pos) 0 (.ref it) (.ref D) ce) (compPost (model X.prog X.w) X.A X.xe use Qf (.ref D) s3.heap.objs.size) s4 := by
    refine compLoop_any (fun n s' => ∃ i H', Inv (X.blk s3 H3 scope ce fp) [] (wipe σ (own.map (·.2))) H' s' ∧ tn i s'.heap ∧ (∀ b ∈ fp, H' b = none) ∧ W i n H') ?_ m0 ⟨0, H3, I4, st4, nfp, w0⟩
    rintro n s5 ⟨i, H5, I5, st5, n5, w5⟩
    rcases turn i n H5 w5 with ⟨stop, qq⟩ | ⟨go, Nx, hNx, step⟩
    · have hot : ∃ x1, HotAt X.A x1 s5.heap ∧ x1 ∉ fp := by
        obtain ⟨p, ⟨hh, v1, e1, c1⟩, hp⟩ := hc
        refine ⟨p.1, ⟨hh, p.2, v1, ((back I5).pin p (List.mem_append_left _ hp)).1, e1, c1⟩, fun hm => ?_⟩
        exact (f3 p.1 hm).1.2.2.2.2.2 p (List.mem_append_left _ hp) rfl
      have td := T.done (X.blk s3 H3 scope ce fp) rfl rfl rfl i [] s5 _ H5 (fun _ _ => False) hot I5 (stat I5 n5) st5 stop
      refine thnF td fun r s6 ⟨hr, I6⟩ => ?_
      subst hr
      have I7 : Inv X pins σ H5 s6 := back I6
      have nC : H5 s3.heap.objs.size = none := by
        have z : H5 ce.locals = none := I6.free
        rw [cL] at z
        exact z
      obtain ⟨m, hn, _⟩ := I6.loc
      have hn : s6.heap.Ns ce.locals m := hn
      rw [cL] at hn
      exact hRR D s3.heap.objs.size s6 m H5 I7 qq hn (I3.fpOk (Nat.le_refl _) nC)
    · have ti := T.item (X.blk s3 H3 scope ce fp) rfl rfl rfl i [] s5 _ H5 (fun _ _ => False) I5 (stat I5 n5) st5 go
      refine thnF ti fun r s6 ⟨u, hr, h6⟩ => ?_
      subst hr
      refine thnF h6 fun _ s7 ⟨x, H7, I7, r7, y7, st7, n7⟩ => ?_
      have I7' := I7.pinned (stat I7 n7) (T.obj _ _ st7)
      refine thnF (pg.run _ s7 _ H7 x u _ I7' r7 (step x H7 y7)) fun _ s8 ⟨σ8, H8, I8, hw8, q8⟩ => ?_
      refine thnF (pt.run _ s8 σ8 H8 _ I8 q8) fun b s9 ⟨H9, I9, q9⟩ => ?_
      have fin : ∀ {s' : Shared} {H' : Hp}, Inv (X.blk s3 H3 scope ce fp) ([] ++ pinsAt fp s7.heap) σ8 H' s' → Nx H' → ∃ m, m < n ∧ ∃ i H', Inv (X.blk s3 H3 scope ce fp) [] (wipe σ (own.map (·.2))) H' s' ∧ tn i s'.heap ∧ (∀ b ∈ fp, H' b = none) ∧ W i m H' := fun {s' H'} I' nx => by
        obtain ⟨m', hm, w'⟩ := hNx H' nx
        have pin' : ∀ b ∈ fp, ∀ o, s7.heap.get? b = some o → s'.heap.get? b = some o ∧ H' b = none := fun b hb o e =>
          let z := I'.pin (b, o) (List.mem_append_right _ (List.mem_append_right _ (mem_pinsAt hb e)))
          ⟨z.1, z.2.1⟩
        have hl : (wipe σ (own.map (·.2))).length = σ8.length := by rw [← hw8, wipe_length]
        refine ⟨m', hm, i + 1, H', (I'.unpinned (pins := [])).weak hl (fun j v e => ?_), T.keep _ _ _ st7 fun b hb o e => (pin' b hb o e).1, fun b hb => ?_, w'⟩
        · rw [← hw8] at e
          exact (wipe_some e).1
        · obtain ⟨o, e, _⟩ := T.obj _ _ st7 b hb
          exact (pin' b hb o e).2
      cases b with
      | false =>
        simp only [Bool.false_eq_true, if_false] at q9 ⊢
        exact fin I9 q9
      | true =>
        simp only [if_true] at q9 ⊢
        refine thnF (pe.run _ s9 σ8 H9 _ I9 q9) fun z s10 ⟨yv, H10, I10, r10, acc, hD10, hz10, nx⟩ => ?_
        exact app_ok (X := X.blk s3 H3 scope ce fp) I10 hD10 hz10 r10 fun s11 I11 => fin I11 nx
  exact codeAny_compStart_list loop (T.self X.A 0 _ _ _ st4 loop)
/-- [elt for target in iter if ..], an exception being handled -/
theorem pe_lcH {elt tg iter : Expr} {ifs : List Expr} {scope : Scope} {own : List (Str × Nat)} {pos : Pos} {tl : TE} {g : TG} {tt : TT} {te : TE} (K : PySem.W.Frag) (hK : X.K = K) (hc : L2H.HotC X) (hN : X.N.Nodup) (hi : PE X iter tl) (ok : BlkOk X.N X.env.scope scope own)
    (hg : ∀ (s : Shared) (H : Hp) (C : Addr) (cl : List (Str × Addr)) (fp : List Addr), PG (X.blk s H scope (compEnvC scope cl C X.env) fp) tg g) (ht : ∀ (s : Shared) (H : Hp) (C : Addr) (cl : List (Str × Addr)) (fp : List Addr), PTs (X.blk s H scope (compEnvC scope cl C X.env) fp) ifs tt)
    (he : ∀ (s : Shared) (H : Hp) (C : Addr) (cl : List (Str × Addr)) (fp : List Addr), PE (X.blk s H scope (compEnvC scope cl C X.env) fp) elt te) (hs : ∀ x, foldedSetIterable iter X.env x = pure x := by intro _; rfl) :
    PE X (.ListComp elt [⟨tg, iter, ifs, 0⟩] scope pos) (tLc (iList K tl) g tt te (own.map (·.2))) := by
  subst hK
  refine ⟨fun pins s σ H Q I h => ?_⟩
  rw [eval_ListComp]
  refine lc_coreH hc hN I hi ok hg ht he hs h fun D C s' m H' I' q hn f => ⟨m, hn, fun h'' sb => ?_⟩
  obtain ⟨f0, f1, f2, f3, f4, f5⟩ := f
  exact ⟨.ref D, H', I'.turned (t' := s'.toks) (fun b o hb e => (sb.2 b hb).trans e) f0 f1 f3 f4 f5, rfl, q⟩
end
/-! ### defs called within the suite -/
theorem hot_suite {X : Cx} {a : Addr} {oe : Obj} {cls : Value} {d : Option Addr} {pn : List (Addr × Obj)} (hz : L2N.Zn cls d oe) (hf : ∃ vs, oe.data = .fields vs) : L2H.HotC (X.suite a ((a, oe) :: pn)) :=
  ⟨(a, oe), ⟨rfl, by obtain ⟨vs, hd⟩ := hf; exact ⟨vs, hd, hz.2.2 vs hd⟩⟩, List.mem_cons_self⟩
section
variable {P : Program} {w : World} {K : PySem.W.Frag} {mg : Str → Option Value} {base : Heap}
theorem okH {CX : CXT} {x qual : Str} {st : Stmt} {f : Addr} {fd : FuncData} {N ps : List Str} {k : Nat} {sp : Sp} (F : Fun K x qual st f fd) (S : FnScope N ps (defScope st)) (len : ∀ vs H Q E, sp vs H Q E → vs.length = ps.length)
    (hbody : ∀ (cdv : Value) (A : Around) (outer : List Env) (s : Shared) (H : Hp) (vs : List V) (Q : VK) (E : XK) (p : Addr × Obj), L2H.Hot1 A p → L2H.RoomH k (A.deeper (envOfC qual (defScope st) s.heap.objs.size f cdv)) → sp vs H Q E →
      ∃ t, PSs (L2H.cxH CX P w K mg base N qual (defScope st) f cdv A outer s H E p) (defBody st) t ∧ t { nx := fun _ H' => Q .non H', rt := Q } (start N vs) H) : L2H.FnH P w K mg base CX (k + 1) f fd ps sp := by
  obtain ⟨oc, od, kV, doc, pm, an, cdv, ct, osl, rfl, lk, hcd⟩ := F.ex
  exact L2H.fn_ofH lk hcd S len fun A outer s H vs Q E p hot hr hsp => hbody cdv A outer s H vs Q E p hot hr hsp
/-- x keeps its promise while an exception is handled -/
def PmH (P : Program) (w : World) (K : PySem.W.Frag) (mg : Str → Option Value) (base : Heap) (k : Nat) (x : Str) (ps : List Str) (sp : Sp) : Prop :=
  ∃ f fd, L2H.FnH P w K mg base CX0 k f fd ps sp ∧ mg x = some (.ref f) ∧ PySem.W.keepIn K (.ref f) = true ∧ Binds K fd ps []
end
theorem pe_pmH {X : Cx} {k : Nat} {x : Str} {ps : List Str} {sp : Sp} {e : Expr} {es : List Expr} {t : TA} {p pos : Pos} (G : PmH X.prog X.w X.K X.mg X.base k x ps sp) (hr : L2H.RoomH k X.A) (hc : L2H.HotC X) (ha : PA X (e :: es) t) (hg : Gl X x := by rfl)
    (hd : (x == ("__debug__" : Str)) = false := by decide) (he : starEach (e :: es) X.env = (false, eval e X.env) :: starEach es X.env := by rfl) (hpl : (backTo pos (starEach es X.env)).any (·.1) = false := by rfl) :
    PE X (.Call (.Name x p) (e :: es) [] pos) (tCallS sp (fun _ => E0) t) := by
  obtain ⟨f, fd, F, hm, hk, hb⟩ := G
  exact L2H.pe_callH (CX := CX0) F hr hc hg hm hk hb (fun _ _ _ _ _ _ _ h => h.elim) ha hd he hpl
end Sr
namespace L2H
open PySem
theorem RoomH.units {k : Nat} {A : Around} (r : RoomH k A) : A.units + 64 < cLine := by have := r.un; omega
end L2H
/-! a lambda, with or without a default, handed to a def; its exceptions' context is None -/
namespace Sr
open PySem PySem.Spec PyProof.Rows L2 SrX LamX
abbrev lamFd (qual : Str) (params : Arguments) (body : Expr) (scope : Scope) (cl : List (Str × Addr)) (pm cdv ct dv : Value) : FuncData := { PySem.W.kla_fn "<lambda>" qual params body scope cl pm cdv ct with defaults := dv }
abbrev lamOb (qual : Str) (params : Arguments) (body : Expr) (scope : Scope) (cl : List (Str × Addr)) (pm : Value) (c' : Addr) (ctv dv : Value) : Obj := { cls := .type "function", data := .func (lamFd qual params body scope cl pm (.ref c') ctv dv) }
section
variable {M : Model} {A : Around} {E : Value → Shared → Prop} {s : Shared} {qual : Str} {params : Arguments} {body : Expr} {scope : Scope} {env : Env} {c P : Addr} {ps : Array Value} {pos : Pos} {firstLine : Nat} {mg : Str → Option Value}
  {clos : List (Str × Addr)} {Q : Value → Shared → Prop} {dv : Value}
theorem lam_tailNew (hcl : closureFor scope env = pure clos) (hge0 : env.globals = mainGlobals) (hg : s.heap.Ns mainGlobals mg) (hcode : env.code = .ref c) (C : PySem.W.CodeHd s.heap c P) (hP : s.heap.get? P = some { cls := .none, data := .fields ps }) (ht : TriplesOk ps.toList)
    (hnf : codeAmong pos ps.toList = none) (hgP : mainGlobals ≠ P) (hb : s.heap.BuiltinsAt mg P)
    (h : ∀ c' ctv h' tk, Heap.ExtBut P s.heap h' → s.heap.objs.size ≤ c' → c' < h'.objs.size → h'.CodeRec (.ref c') qual → h'.get? P = some { cls := .none, data := .fields (ps ++ #[rawInt pos.line, rawInt pos.col, .ref c']) } →
      Q (.ref h'.objs.size) { s with heap := h'.push (lamOb qual params body scope clos ((mg "__name__").getD .none) c' ctv dv), toks := tk }) :
    wpAny M A (makeTail "<lambda>" qual params (.expr body) scope env dv .none none pos firstLine) Q E s := by
  obtain ⟨bm, ob, hbm, hne0, _, hneP, hbo, hcls, hdict, hdata⟩ := hb
  unfold makeTail
  rw [hcl, hge0]
  refine wpAny_bind (wpAny_pure ?_)
  cases clos with
  | nil =>
    simp only [List.isEmpty_nil, if_true]
    refine wpAny_bind (wpAny_pure ?_)
    refine wpAny_bind (wpAny_functionCodeX hcode (C.code hP ht) (C.tab hP) hnf fun c' h' tk hx hge hlt _ hrec htb _ => ?_)
    have hg' := hg.extBut hx hgP
    refine wpAny_bind (wpAny_builtinsFor hg' hbm hne0 (hx _ _ hneP hbo) hcls hdict hdata ?_)
    refine wpAny_bind (wpAny_nsGet hg' ?_)
    exact wpAny_bind (wpAny_pure (wpAny_newObj_type (h c' .none h' tk hx hge hlt hrec htb.2) (by size_fits)))
  | cons q r =>
    simp only [List.isEmpty_cons, Bool.false_eq_true, if_false]
    refine wpAny_bind (wpAny_newTextTuple ?_)
    refine wpAny_bind (wpAny_functionCodeX hcode ((C.keeps fun b o e => Heap.get?_push_of_some _ e).code (Heap.get?_push_of_some _ hP) ht) ((C.keeps fun b o e => Heap.get?_push_of_some _ e).tab (Heap.get?_push_of_some _ hP)) hnf fun c' h' tk hx hge hlt _ hrec htb _ => ?_)
    have hg' := (hg.push _).extBut hx hgP
    have hx' : Heap.ExtBut P s.heap h' := fun b o hb' e => hx b o hb' (Heap.get?_push_of_some _ e)
    have hge' : s.heap.objs.size ≤ c' := Nat.le_trans (by rw [Heap.size_push]; omega) hge
    refine wpAny_bind (wpAny_builtinsFor hg' hbm hne0 (hx' _ _ hneP hbo) hcls hdict hdata ?_)
    refine wpAny_bind (wpAny_nsGet hg' ?_)
    exact wpAny_bind (wpAny_pure (wpAny_newObj_type (h c' _ h' tk hx' hge' hlt hrec htb.2) (by size_fits)))
theorem lam_tailHit {cv : Value} (hcl : closureFor scope env = pure clos) (hge0 : env.globals = mainGlobals) (hg : s.heap.Ns mainGlobals mg) (hcode : env.code = .ref c) (C : PySem.W.CodeHd s.heap c P) (hP : s.heap.get? P = some { cls := .none, data := .fields ps }) (ht : TriplesOk ps.toList)
    (hf : codeAmong pos ps.toList = some cv) (hb : s.heap.BuiltinsAt mg P)
    (h : ∀ (ctv : Value) (h' : Heap) (tk : Tok), (∀ b o, s.heap.get? b = some o → h'.get? b = some o) → s.heap.objs.size ≤ h'.objs.size →
      Q (.ref h'.objs.size) { s with heap := h'.push { cls := .type "function", data := .func (lamFd qual params body scope clos ((mg "__name__").getD .none) cv ctv dv) }, toks := tk }) :
    wpAny M A (makeTail "<lambda>" qual params (.expr body) scope env dv .none none pos firstLine) Q E s := by
  obtain ⟨bm, ob, hbm, hne0, _, hneP, hbo, hcls, hdict, hdata⟩ := hb
  unfold makeTail
  rw [hcl, hge0]
  refine wpAny_bind (wpAny_pure ?_)
  cases clos with
  | nil =>
    simp only [List.isEmpty_nil, if_true]
    refine wpAny_bind (wpAny_pure ?_)
    refine wpAny_bind (wpAny_functionCode_hit hcode (C.code hP ht) hf ?_)
    refine wpAny_bind (wpAny_builtinsFor hg hbm hne0 hbo hcls hdict hdata ?_)
    refine wpAny_bind (wpAny_nsGet hg ?_)
    exact wpAny_bind (wpAny_pure (wpAny_newObj_type (h .none s.heap s.toks (fun _ _ e => e) (Nat.le_refl _)) (by size_fits)))
  | cons q r =>
    simp only [List.isEmpty_cons, Bool.false_eq_true, if_false]
    refine wpAny_bind (wpAny_newTextTuple ?_)
    refine wpAny_bind (wpAny_functionCode_hit hcode ((C.keeps fun b o e => Heap.get?_push_of_some _ e).code (Heap.get?_push_of_some _ hP) ht) hf ?_)
    refine wpAny_bind (wpAny_builtinsFor (hg.push _) hbm hne0 (Heap.get?_push_of_some _ hbo) hcls hdict hdata ?_)
    refine wpAny_bind (wpAny_nsGet (hg.push _) ?_)
    have hsz : ∀ oT : Obj, s.heap.objs.size ≤ (s.heap.push oT).objs.size := fun oT => by rw [Heap.size_push]; omega
    exact wpAny_bind (wpAny_pure (wpAny_newObj_type (h _ _ s.toks (fun b o e => Heap.get?_push_of_some _ e) (hsz _)) (by size_fits)))
end
section
variable {X : Cx} {pins : List (Addr × Obj)} {σ : L2.St} {H : Hp} {s : Shared}
/-- the lambda is made, its defaults' tuple at dv -/
theorem lam_tail {T : List (Addr × Str)} {c P : Addr} {params : Arguments} {body : Expr} {scope : Scope} {pos : Pos} {fl : Nat} {dv : Value} {E : Value → Shared → Prop} {Q : Value → Shared → Prop} (I : Inv X pins σ H s) (TB : TabB X.base X.mg c P) (hcode : X.env.code = .ref c)
    (hm : (P, X.env.qual ++ "<lambda>") ∈ T) (hu : ∀ p ∈ T, p.1 = P → p.2 = X.env.qual ++ "<lambda>") (hT : Tabs T H) (hfree : ∀ y ∈ scope.names, y.2 = .free → ∃ c, X.env.cells.lookup y.1 = some c)
    (h : ∀ (f c' : Addr) (pm ctv : Value) (H1 : Hp) (s' : Shared), Inv X pins σ H1 s' → ExtN H H1 → Tabs T H1 → (∀ b o, H b = none → s.heap.get? b = some o → H1 b = none ∧ s'.heap.get? b = some o) →
      s'.heap.get? f = some (lamOb (X.env.qual ++ "<lambda>") params body scope (cloFrom X.env.cells scope.names []) pm c' ctv dv) → FpOk X pins H1 f → H1 c' = some (CodeO c' (X.env.qual ++ "<lambda>")) → Q (.ref f) s') :
    wpAny (model X.prog X.w) X.A (makeTail "<lambda>" (X.env.qual ++ "<lambda>") params (.expr body) scope X.env dv .none none pos fl) Q E s := by
  obtain ⟨ps, hP, ht, ha⟩ := hT _ hm
  have bP : s.heap.BuiltinsAt X.mg P := TB.bm.keeps I.bk
  have hP' : s.heap.get? P = some { cls := .none, data := .fields ps } := I.hok P _ hP
  cases hc : codeAmong pos ps.toList with
  | none =>
    refine lam_tailNew (mg := X.mg) (c := c) (P := P) (ps := ps) (closure_ok hfree) I.ok.glob (I.mod.glob.keeps I.bk) hcode (TB.code.keeps I.bk) hP' ht hc TB.gP bP fun c' ctv h' tk hx hge hlt hrec htb => ?_
    obtain ⟨c2, oc, vs, t, e2, hoc, hd, hv⟩ := hrec
    cases e2
    have hsz : s.heap.objs.size ≤ h'.objs.size := Nat.le_trans hge (Nat.le_of_lt hlt)
    have nC : H c' = none := I.hok.fresh hge
    have I1 := inv_table (t' := tk) (more := #[rawInt pos.line, rawInt pos.col, .ref c']) (h' := h'.push (lamOb (X.env.qual ++ "<lambda>") params body scope (cloFrom X.env.cells scope.names []) ((X.mg "__name__").getD .none) c' ctv dv)) I hP
      (fun b o hb e => Heap.get?_push_of_some _ (hx b o hb e)) (Heap.get?_push_of_some _ htb) hge ⟨oc, vs, t, Heap.get?_push_of_some _ hoc, hd, hv⟩
    have hE : ExtN H (upd (upd H P (.tbl (ps ++ #[rawInt pos.line, rawInt pos.col, .ref c']))) c' (CodeO c' (X.env.qual ++ "<lambda>"))) := fun b o e n => by
      rw [upd_ne (ne_of_none e nC), upd_ne (fun z => n ps (Option.some.inj (e.symm.trans (by rw [z]; exact hP))))]
      exact e
    have eL : (ps ++ #[rawInt pos.line, rawInt pos.col, .ref c']).toList = ps.toList ++ [rawInt pos.line, rawInt pos.col, .ref c'] := by simp
    have nP : ∀ b, H b = none → b ≠ P := fun b e z => by rw [z, hP] at e; cases e
    have nF : (upd (upd H P (.tbl (ps ++ #[rawInt pos.line, rawInt pos.col, .ref c']))) c' (CodeO c' (X.env.qual ++ "<lambda>"))) h'.objs.size = none := by
      have n1 : h'.objs.size ≠ c' := Nat.ne_of_gt hlt
      have n2 : h'.objs.size ≠ P := Nat.ne_of_gt (Nat.lt_of_lt_of_le (Heap.lt_size hP') hsz)
      rw [upd_ne n1, upd_ne n2]
      exact I.hok.fresh hsz
    have fF := I.fpOk hsz (I.hok.fresh hsz)
    refine h h'.objs.size c' ((X.mg "__name__").getD .none) ctv _ _ I1 hE (fun p hp => ?_) (fun b o e1 e2 => ⟨?_, Heap.get?_push_of_some _ (hx b o (nP b e1) e2)⟩) (Heap.get?_push_size _ rfl) ⟨nF, fF.2⟩ upd_same
    · by_cases hb : p.1 = P
      · rw [hu p hp hb, hb]
        refine ⟨_, by rw [upd_ne (ne_of_none hP nC), upd_same], by rw [eL]; exact PySem.TriplesOk_snoc _ _ _ _ ht, fun p' cv hcv => ?_⟩
        rw [eL] at hcv
        rcases among_app _ ht hcv with z | z
        · obtain ⟨c0, e1, e2⟩ := ha p' cv z
          exact ⟨c0, e1, hE _ _ e2 codeO_ne⟩
        · exact ⟨c', z, upd_same⟩
      · obtain ⟨ps', a1, a2, a3⟩ := hT p hp
        refine ⟨ps', by rw [upd_ne (ne_of_none a1 nC), upd_ne hb]; exact a1, a2, fun p' cv hcv => ?_⟩
        obtain ⟨c0, e1, e2⟩ := a3 p' cv hcv
        exact ⟨c0, e1, hE _ _ e2 codeO_ne⟩
    · rw [upd_ne (Nat.ne_of_lt (Nat.lt_of_lt_of_le (Heap.lt_size e2) hge)), upd_ne (nP b e1)]
      exact e1
  | some cv =>
    obtain ⟨c', e, hco⟩ := ha pos cv hc
    subst e
    refine lam_tailHit (mg := X.mg) (c := c) (P := P) (ps := ps) (closure_ok hfree) I.ok.glob (I.mod.glob.keeps I.bk) hcode (TB.code.keeps I.bk) hP' ht hc bP fun ctv h' tk hx hsz => ?_
    have I1 : Inv X pins σ H { s with heap := h'.push (lamOb (X.env.qual ++ "<lambda>") params body scope (cloFrom X.env.cells scope.names []) ((X.mg "__name__").getD .none) c' ctv dv), toks := tk } := I.kept fun b o e => Heap.get?_push_of_some _ (hx b o e)
    exact h h'.objs.size c' ((X.mg "__name__").getD .none) ctv H _ I1 (ExtN.refl H) hT (fun b o e1 e2 => ⟨e1, Heap.get?_push_of_some _ (hx b o e2)⟩) (Heap.get?_push_size _ rfl) (I.fpOk hsz (I.hok.fresh hsz)) hco
/-- what stands behind dv: no defaults, or a tuple of one -/
def DvAt (h : Heap) (H : Hp) (X : Cx) (pins : List (Addr × Obj)) (dv : Value) (bs : List (Str × Value)) (params : Arguments) : Prop :=
  (dv = .none ∧ ∀ (q : Str) (body : Expr) (scope : Scope) (cl : List (Str × Addr)) (pm cv ct : Value), bindArgs (lamFd q params body scope cl pm cv ct .none) ⟨[], []⟩ = pure bs) ∨
  ∃ (T : Addr) (o : Obj) (u : Value) (n : Nat), dv = .ref T ∧ FpOk X pins H T ∧ h.get? T = some o ∧ o.data = .seq #[u] n ∧
    ∀ (q : Str) (body : Expr) (scope : Scope) (cl : List (Str × Addr)) (pm cv ct : Value), ∃ k, bindArgs (lamFd q params body scope cl pm cv ct (.ref T)) ⟨[], []⟩ = seqItems? (.ref T) >>= k ∧ k (some #[u]) = pure bs
theorem bind_dv {h : Heap} {dv : Value} {bs : List (Str × Value)} {params : Arguments} {q : Str} {body : Expr} {scope : Scope} {cl : List (Str × Addr)} {pm cv ct : Value} {sZ : Shared} {M : Model} {A : Around} {E : Value → Shared → Prop} {Q : List (Str × Value) → Shared → Prop}
    (D : DvAt h H X pins dv bs params) (hk : ∀ T o, dv = .ref T → h.get? T = some o → sZ.heap.get? T = some o) (q' : Q bs sZ) : wpAny M A (bindArgs (lamFd q params body scope cl pm cv ct dv) ⟨[], []⟩) Q E sZ := by
  rcases D with ⟨rfl, e⟩ | ⟨T, o, u, n, rfl, _, hT, hd, e⟩
  · rw [e]
    exact wpAny_pure q'
  · obtain ⟨k, e1, e2⟩ := e q body scope cl pm cv ct
    rw [e1]
    refine wpAny_bind (wpAny_seqItems (hk T o rfl hT) hd ?_)
    rw [e2]
    exact wpAny_pure q'
end
/-! ### the lambda's names, its body's context -/
structure LamN (N : List Str) (sc scope : Scope) (bs : List Str) : Prop where
  kind : scope.kind = .function
  co : scope.isCoroutine = false
  gen : scope.isGenerator = false
  own : ∀ y ∈ scope.names, y.2 ≠ .cell ∧ (y.2 = .local → y.1 ∉ N)
  free : ∀ y ∈ scope.names, y.2 = .free → sc.names.lookup y.1 = some .cell ∨ sc.names.lookup y.1 = some .free
  par : ∀ y ∈ bs, scope.names.lookup y = some .local
def lamNB (N : List Str) (sc scope : Scope) (bs : List Str) : Bool :=
  decide (scope.kind = .function) && !scope.isCoroutine && !scope.isGenerator && (scope.names.all fun y => !decide (y.2 = .cell) && (!decide (y.2 = .local) || decide (y.1 ∉ N)) && (!decide (y.2 = .free) || decide (sc.names.lookup y.1 = some .cell) || decide (sc.names.lookup y.1 = some .free))) &&
    bs.all fun y => decide (scope.names.lookup y = some .local)
theorem lamN_by {N : List Str} {sc scope : Scope} {bs : List Str} (h : lamNB N sc scope bs = true) : LamN N sc scope bs := by
  unfold lamNB at h
  simp only [Bool.and_eq_true, Bool.or_eq_true, Bool.not_eq_true', decide_eq_true_eq, decide_eq_false_iff_not, List.all_eq_true] at h
  obtain ⟨⟨⟨⟨h1, h2⟩, h3⟩, h4⟩, h5⟩ := h
  refine ⟨h1, h2, h3, fun y hy => ⟨(h4 y hy).1.1, fun e => ?_⟩, fun y hy e => ?_, h5⟩
  · rcases (h4 y hy).1.2 with z | z
    · exact absurd e z
    · exact z
  · rcases (h4 y hy).2 with (z | z) | z
    · exact absurd e z
    · exact .inl z
    · exact .inr z
theorem LamN.has {X : Cx} {N : List Str} {scope : Scope} {bs : List Str} (L : LamN N X.env.scope scope bs) (ok : X.Ok) : ∀ y ∈ scope.names, y.2 = .free → ∃ c, X.env.cells.lookup y.1 = some c := fun y hy e => by
  rcases L.free y hy e with k | k
  · exact ok.has _ (.inl k)
  · exact ok.has _ (.inr k)
def lamCxN (X : Cx) (A : Around) (outer : List Env) (s : Shared) (H : Hp) (E : XK) (scope : Scope) (f c' : Addr) : Cx where
  prog := X.prog
  w := X.w
  K := X.K
  mg := X.mg
  base := X.base
  A := A.deeper (lamEnv X scope s.heap.objs.size f c')
  N := X.N
  s_0 := s
  H_0 := H
  env := lamEnv X scope s.heap.objs.size f c'
  outer := outer
  stack := lamEnv X scope s.heap.objs.size f c' :: outer
  ex := []
  fn := fun _ => false
  calm := true
  pn := []
  xe := fun e s' => wpAny (model X.prog X.w) (A.deeper (lamEnv X scope s.heap.objs.size f c')) (leaving (lamEnv X scope s.heap.objs.size f c') e) (fun _ s'' => L2N.CX X.prog X.w outer H s E e s'') (fun e' s'' => L2N.CX X.prog X.w outer H s E e' s'') s'
section
variable {X : Cx} {pins : List (Addr × Obj)} {σ : L2.St} {H HZ : Hp} {s s1 : Shared}
theorem lam_startN {A : Around} {outer : List Env} {E : XK} {scope : Scope} {bs : List Str} {f c' : Addr} {h₁ : Heap} {tk : Nat} {m : Str → Option Value} (I : Inv X pins σ H s) (L : LamN X.N X.env.scope scope bs) (e0 : Env0 X.prog X.w X.K X.mg X.base A outer s1 HZ) (hd : A.handled = none)
    (un : Un (frs X.stack) [] H HZ s.heap s1.heap) (hns : h₁.Ns s1.heap.objs.size m) (kp : ∀ b o, s1.heap.get? b = some o → h₁.get? b = some o) :
    Inv (lamCxN X A outer s1 HZ E scope f c') [] σ HZ { s1 with heap := h₁, toks := tk } := by
  have hfree := L.has I.ok
  have cm : ∀ {y c}, (cloFrom X.env.cells scope.names []).lookup y = some c → X.env.cells.lookup y = some c := fun {y c} e => by
    rcases cloFrom_mem (PySem.mem_of_lookup e) with hm | ⟨h1, h2⟩
    · cases hm
    · obtain ⟨c1, hc⟩ := hfree _ h1 rfl
      have hc : X.env.cells.lookup y = some c1 := hc
      have e2 : c = c1 := by
        rw [h2, hc] <;> rfl
      rw [e2]
      exact hc
  have look : ∀ {y}, scope.names.lookup y = some .free → ∃ c, (cloFrom X.env.cells scope.names []).lookup y = some c := fun {y} hl => by
    have hy : (y, NameKind.free) ∈ scope.names := PySem.mem_of_lookup hl
    exact mem_lookup (cloFrom_has (cells := X.env.cells) (acc := []) hy)
  have cellK : ∀ {c : Addr} {v : Option Value}, H c = none → s.heap.IsCell c v → h₁.IsCell c v := fun {c v} n ⟨o, ho, hd⟩ => by
    obtain ⟨sl, q⟩ := un.any ho n (by simp)
    exact ⟨_, kp _ _ q, hd⟩
  have noA : ∀ b : Addr, b ∉ (lamCxN X A outer s1 HZ E scope f c').ex := fun b z => absurd (show b ∈ ([] : List Addr) from z) (by simp)
  refine ⟨⟨e0.mod, L.kind, rfl, rfl, Nat.le_refl _, fun y z c e1 e2 => I.ok.inj y z c (cm e1) (cm e2), fun y hy => ?_, fun y c z _ => ?_, fun _ => hd, Around.frames_deeper e0.frames, .inr ⟨rfl, rfl⟩, fun b z => absurd z (noA b), e0.bs, e0.bsz, fun b _ _ => noA b,
      fun b z => absurd z (noA b), e0.funs, e0.frf⟩,
    rfl, e0.bare, Un.kept kp, ⟨_, hns, fun i y v e1 e2 e3 => ?_⟩, fun y c e => ?_, e0.hok.fresh (Nat.le_refl _), fun y c e => ?_, fun q hq => absurd (show q ∈ ([] : List (Addr × Obj)) ++ [] from hq) (by simp), e0.hok.kept kp, I.len⟩
  · have hy : scope.names.lookup y = some .cell ∨ scope.names.lookup y = some .free := hy
    rcases hy with hy | hy
    · exact absurd rfl (L.own _ (PySem.mem_of_lookup hy)).1
    · exact look hy
  · have z : false = true := z
    cases z
  · have e3 : Vis scope y := e3
    rcases e3 with k | k | k
    · exact absurd (List.mem_of_getElem? (show X.N[i]? = some y from e1)) ((L.own _ (PySem.mem_of_lookup k)).2 rfl)
    · exact absurd rfl (L.own _ (PySem.mem_of_lookup k)).1
    · obtain ⟨m, hn, hl⟩ := I.loc
      have hvis : Vis X.env.scope y := (L.free _ (PySem.mem_of_lookup k) rfl).elim (fun k => .inr (.inl k)) (fun k => .inr (.inr k))
      obtain ⟨w', r, q⟩ := hl i y v e1 e2 hvis
      obtain ⟨c2, h2⟩ := look k
      refine ⟨w', r, .inr ⟨.inr k, c2, h2, ?_⟩⟩
      have c1 := cm h2
      rcases q with ⟨k', _⟩ | ⟨_, c3, e', z⟩
      · have k' : X.env.scope.names.lookup y = some .local := k'
        rcases L.free _ (PySem.mem_of_lookup k) rfl with k2 | k2 <;> rw [show X.env.scope.names.lookup y = _ from k2] at k' <;> cases k'
      · rw [c1] at e'
        cases e'
        exact cellK (I.freeC y _ c1) z
  · obtain ⟨w', z⟩ := I.cell y c (cm e)
    exact ⟨w', cellK (I.freeC y c (cm e)) z⟩
  · obtain ⟨v, o, ho, hd⟩ := I.cell y c (cm e)
    exact un.free c o ho (I.freeC y c (cm e)) (by simp)
/-- work(), in the def that got the lambda -/
theorem pe_actN {CXg : CXT} {Eg : XK} {Ng : List Str} {qg : Str} {sg : Scope} {g f c' : Addr} {cdg pm ctv dv : Value} {bs : List (Str × Value)} {params : Arguments} {body : Expr} {scope : Scope} {k i : Nat} {a : Str} {pn : List (Addr × Obj)} {xe : Value → Shared → Prop} {W : WX} {tb : XK → TE} {p1 p2 : Pos}
    (I : Inv X pins σ H s) (L : LamN X.N X.env.scope scope (bs.map (·.1))) (hf : s.heap.get? f = some (lamOb (X.env.qual ++ "<lambda>") params body scope (cloFrom X.env.cells scope.names []) pm c' ctv dv)) (hfn : H f = none) (hfr : f ∉ frs X.stack)
    (D : DvAt s.heap H X pins dv bs params) (hDr : ∀ T, dv = .ref T → T ∉ frs X.stack)
    (tk : L2N.Takes ((cxOf CXg X.prog X.w X.K X.mg X.base Ng qg sg g cdg X.A X.stack s H Eg).tr pn xe) W) (hr : Room (k + 1) (X.A.deeper (envOfC qg sg s.heap.objs.size g cdg)))
    (hbody : ∀ (A : Around) (outer : List Env) (s : Shared) (H : Hp) (E : XK), Room k (A.deeper (lamEnv X scope s.heap.objs.size f c')) → PE (lamCxN X A outer s H E scope f c') body (tb E))
    (hN : Ng[i]? = some a) (hv : Vis sg a) (hd : (a == ("__debug__" : Str)) = false := by decide) (hcd : (a == ("__classdict__" : Str)) = false := by decide) :
    PE ((cxOf CXg X.prog X.w X.K X.mg X.base Ng qg sg g cdg X.A X.stack s H Eg).tr pn xe) (.Call (.Name a p1) [] [] p2)
      (fun σZ HZ Q => σZ[i]? = some (some (.ref f)) ∧ HZ c' = some (CodeO c' (X.env.qual ++ "<lambda>")) ∧ tb (WE W σZ) σ HZ Q) := by
  refine ⟨fun pinsZ sZ σZ HZ Q IZ h => ?_⟩
  obtain ⟨hs, hc, ht⟩ := h
  refine wpAny_Call_Name_kw (thn ((pe_var (pos := p1) (i := i) hN hv hd hcd).run pinsZ sZ σZ HZ (fun v H1 => v = .ref f ∧ H1 = HZ) IZ ⟨.ref f, hs, rfl, rfl⟩) fun u s1 ⟨v, H1, I1, r1, q1⟩ => ?_)
  obtain ⟨ev, eH⟩ := q1
  subst ev
  rw [eH] at I1
  obtain rfl : u = Value.ref f := r1
  have of1 : s1.heap.get? f = some (lamOb (X.env.qual ++ "<lambda>") params body scope (cloFrom X.env.cells scope.names []) pm c' ctv dv) := I1.base.keep f _ hf hfn hfr (fun z => nomatch (show f ∈ ([] : List Addr) from z))
  have od1 : ∀ T o, dv = .ref T → s.heap.get? T = some o → s1.heap.get? T = some o := fun T o e1 e2 => by
    have hTn : H T = none := by
      rcases D with ⟨e, _⟩ | ⟨T', o', u', n', e, fT, _⟩
      · rw [e] at e1; cases e1
      · rw [e] at e1; cases e1; exact fT.1
    exact I1.base.keep T _ e2 hTn (hDr T e1) (fun z => nomatch (show T ∈ ([] : List Addr) from z))
  refine PySem.W.callWith_F0 ⟨_, _, _, _, of1⟩ ?_
  have un : Un (frs X.stack) [] H HZ s.heap s1.heap := I1.base
  obtain ⟨⟨oc, vs, t, hoc, hdc, hvc⟩, _, _⟩ := I1.hok c' _ hc
  have rc : codeAny (model X.prog X.w) (X.A.deeper (envOfC qg sg s.heap.objs.size g cdg)) (.call (.ref f) ⟨[], []⟩) (CR (L2N.CX X.prog X.w) (envOfC qg sg s.heap.objs.size g cdg :: X.stack) X.prog X.w HZ s1 Q (WE W σZ)) s1 := by
    refine PySem.W.kla_callFunE hr.depth of1 rfl L.co L.gen rfl ⟨c', oc, vs, t, rfl, hoc, hdc, hvc⟩ ?_
    refine bind_dv D od1 (wpAny_newFunctionEnv (fun y hy => (L.own y hy).1) (fun y hy => L.par y.1 (List.mem_map_of_mem hy)) (fun h₁ hns hsb => ⟨I1.nolimit.fresh _ hsb, ?_⟩) L.kind)
    show codeAny _ _ (.expr body (lamEnv X scope s1.heap.objs.size f c')) _ _
    have kp : ∀ b o, s1.heap.get? b = some o → h₁.get? b = some o := fun b o e => hsb.extBut b o (Nat.ne_of_lt (Heap.lt_size e)) (Heap.get?_push_of_some _ e)
    have J : Inv (lamCxN X (X.A.deeper (envOfC qg sg s.heap.objs.size g cdg)) (envOfC qg sg s.heap.objs.size g cdg :: X.stack) s1 HZ (WE W σZ) scope f c') [] σ HZ { s1 with heap := h₁, toks := s1.toks + bs.length } :=
      lam_startN I L I1.env0 hr.hd un hns kp
    refine PySem.W.kla_codeExpr (wpAny_mono ((hbody _ _ s1 HZ (WE W σZ) (hr.deeper _)).run [] _ _ HZ Q J ht) (fun v s' hq => ?_) fun e s' hq => hq)
    obtain ⟨w', H', J', rv, q⟩ := hq
    exact ⟨w', H', J'.os, J'.bare, J'.base, J'.hok, rv, q⟩
  refine wpAny_call (codeAny_mono rc fun r s' hq => ?_)
  cases r with
  | error e => exact L2N.passAt tk σZ pinsZ HZ s1 e s' I1 hq
  | ok fl =>
    cases fl with
    | ret u => exact I1.after hq
    | next => exact False.elim hq
    | brk => exact False.elim hq
    | cont => exact False.elim hq
end
/-! ### a def called with a lambda, a text, a value -/
/-- the lambda's defaults: none, or one number -/
def DefV (X : Cx) (params : Arguments) (names : List Str) : Prop :=
  (defaultsOf params X.env = ([], []) ∧ names = [] ∧ ∀ (q : Str) (body : Expr) (scope : Scope) (cl : List (Str × Addr)) (pm cv ct : Value), bindArgs (lamFd q params body scope cl pm cv ct .none) ⟨[], []⟩ = pure []) ∨
  ∃ (n : Int) (j : Nat) (p : Pos) (y : Str), defaultsOf params X.env = ([eval (.Constant (.int n) j p) X.env], []) ∧ names = [y] ∧
    ∀ (u : Value) (T : Addr) (q : Str) (body : Expr) (scope : Scope) (cl : List (Str × Addr)) (pm cv ct : Value), ∃ k, bindArgs (lamFd q params body scope cl pm cv ct (.ref T)) ⟨[], []⟩ = seqItems? (.ref T) >>= k ∧ k (some #[u]) = pure [(y, u)]
section
variable {X : Cx} {pins : List (Addr × Obj)} {σ : L2.St} {H : Hp} {s : Shared}
theorem lam_makeN {T : List (Addr × Str)} {c P : Addr} {params : Arguments} {body : Expr} {scope : Scope} {pos : Pos} {names : List Str} {Q : Value → Shared → Prop} (I : Inv X pins σ H s) (TB : TabB X.base X.mg c P) (hcode : X.env.code = .ref c)
    (hm : (P, X.env.qual ++ "<lambda>") ∈ T) (hu : ∀ p ∈ T, p.1 = P → p.2 = X.env.qual ++ "<lambda>") (hT : Tabs T H) (hfree : ∀ y ∈ scope.names, y.2 = .free → ∃ c, X.env.cells.lookup y.1 = some c) (hdv : DefV X params names)
    (h : ∀ (f c' : Addr) (pm ctv dv : Value) (bs : List (Str × Value)) (H1 : Hp) (s' : Shared), Inv X pins σ H1 s' → ExtN H H1 → Tabs T H1 →
      s'.heap.get? f = some (lamOb (X.env.qual ++ "<lambda>") params body scope (cloFrom X.env.cells scope.names []) pm c' ctv dv) → FpOk X pins H1 f → H1 c' = some (CodeO c' (X.env.qual ++ "<lambda>")) → bs.map (·.1) = names → DvAt s'.heap H1 X pins dv bs params → Q (.ref f) s') :
    wpAny (model X.prog X.w) X.A (eval (.Lambda params body scope pos) X.env) Q X.xe s := by
  rcases hdv with ⟨hdef, rfl, hb⟩ | ⟨n, j, p, y, hdef, rfl, hb⟩
  · refine PySem.W.kla_eval hdef ?_
    rw [makeFunction_eq]
    simp only [List.zip_nil_right, List.filterMap_nil, List.isEmpty_nil, if_true, pure_bind]
    exact lam_tail I TB hcode hm hu hT hfree fun f c' pm ctv H1 s' I1 eN T1 _ hf hF hco => h f c' pm ctv .none [] H1 s' I1 eN T1 hf hF hco rfl (.inl ⟨rfl, hb⟩)
  · rw [arm_eval_Lambda, hdef]
    show wpAny _ _ (do let dv ← evalAll [eval (.Constant (.int n) j p) X.env]; let kdv ← holding dv (evalAllOpt []); makeFunction "<lambda>" (X.env.qual ++ "<lambda>") params (.expr body) scope X.env dv kdv [] pos pos.line) Q X.xe s
    refine wpAny_bind ?_
    show wpAny _ _ (do let v ← eval (.Constant (.int n) j p) X.env; return v :: (← holding [v] (evalAll []))) _ _ _
    refine wpAny_bind (thn ((pe_int (X := X) (i := n)).run pins s σ H (fun v H1 => v = .int n ∧ H1 = H) I ⟨rfl, rfl⟩) fun u s1 ⟨v, H1, I1, r1, ev, eH⟩ => ?_)
    subst ev
    rw [eH] at I1
    refine wpAny_bind (wpAny_holding (wpAny_pure (wpAny_pure ?_)))
    refine wpAny_bind (wpAny_holding (wpAny_pure ?_))
    rw [makeFunction_eq]
    simp only [List.zip_nil_right, List.filterMap_nil, List.isEmpty_nil, List.isEmpty_cons, Bool.false_eq_true, if_false, if_true, pure_bind]
    refine wpAny_bind (wpAny_newTextTuple ?_)
    have I2 : Inv X pins σ H { s1 with heap := s1.heap.push { cls := .type "tuple", data := .seq [u].toArray } } := I1.kept (t' := s1.toks) fun b o e => Heap.get?_push_of_some _ e
    have hTn : H s1.heap.objs.size = none := I1.hok.fresh (Nat.le_refl _)
    have fT := I1.fpOk (Nat.le_refl _) hTn
    exact lam_tail I2 TB hcode hm hu hT hfree fun f c' pm ctv H1 s' I1' eN T1 keepD hf hF hco => by
      obtain ⟨k1, k2⟩ := keepD s1.heap.objs.size _ hTn (Heap.get?_push_size _ rfl)
      exact h f c' pm ctv (.ref s1.heap.objs.size) [(y, u)] H1 s' I1' eN T1 hf hF hco rfl (.inr ⟨s1.heap.objs.size, _, u, _, rfl, ⟨k1, fT.2⟩, k2, rfl, fun q body scope cl pm cv ct => hb u _ q body scope cl pm cv ct⟩)
end
def tRefN (T : List (Addr × Str)) (t : XK → TE) (ta : TA) (GG : (XK → Hp → VK → Prop) → List Nat → V → Hp → VK → Prop) : TE := fun σ H Q =>
  Tabs T H ∧ ∀ H1, ExtN H H1 → Tabs T H1 → ta σ H1 fun vs H2 => ∃ l v, vs = [.str (tx l), v] ∧ Ex H1 H2 ∧ GG (fun E' H' Q' => t E' σ H' Q') l v H2 Q
section
variable {X : Cx}
theorem pe_refN {T : List (Addr × Str)} {GG : (XK → Hp → VK → Prop) → List Nat → V → Hp → VK → Prop} {x a : Str} {ps : List Str} {g c P : Addr} {k : Nat} {pg : Arguments} {bg : List Stmt} {sg : Scope} {dV kV doc pm cdv ct oc : Value} {an od : Option Addr} {osl : Array (Option Value)} {Ng : List Str} {names : List Str}
    {params : Arguments} {body : Expr} {scope : Scope} {t : XK → TE} {ta : TA} {e1 e2 : Expr} {p lpos pos : Pos} (hg : Gl X x) (hm : X.mg x = some (.ref g)) (hk : PySem.W.keepIn X.K (.ref g) = true)
    (lk : X.K.lookup g = some ⟨oc, od, .func (PySem.W.fnOf x x pg bg sg dV kV doc pm an cdv ct), osl⟩) (hcg : PySem.W.codeIn X.K cdv x = true) (hb : L2.Binds X.K (PySem.W.fnOf x x pg bg sg dV kV doc pm an cdv ct) ps []) (hps : ps.length = 3) (Sg : FnScope Ng ps sg) (hNg : Ng[0]? = some a) (hva : Vis sg a)
    (hG : ∀ (f c' : Addr) (s : Shared) (H : Hp) (Q : VK) (tl : XK → Hp → VK → Prop) (l : List Nat) (v : V), Room (k + 1) (X.A.deeper (envOfC x sg s.heap.objs.size g cdv)) →
      (∀ (W : WX) (pn : List (Addr × Obj)) (xe : Value → Shared → Prop) (p1 p2 : Pos), L2N.Takes ((cxOf CX0 X.prog X.w X.K X.mg X.base Ng x sg g cdv X.A X.stack s H E0).tr pn xe) W →
        PE ((cxOf CX0 X.prog X.w X.K X.mg X.base Ng x sg g cdv X.A X.stack s H E0).tr pn xe) (.Call (.Name a p1) [] [] p2) (fun σZ HZ Q => σZ[0]? = some (some (.ref f)) ∧ HZ c' = some (CodeO c' (X.env.qual ++ "<lambda>")) ∧ tl (WE W σZ) HZ Q)) →
      H c' = some (CodeO c' (X.env.qual ++ "<lambda>")) → GG tl l v H Q →
      ∃ t, PSs (cxOf CX0 X.prog X.w X.K X.mg X.base Ng x sg g cdv X.A X.stack s H E0) bg t ∧ t { nx := fun _ H' => Q .non H', rt := Q } (L2.start Ng [.ref f, .str (tx l), v]) H)
    (TB : TabB X.base X.mg c P) (hcode : X.env.code = .ref c) (hmT : (P, X.env.qual ++ "<lambda>") ∈ T) (hu : ∀ p ∈ T, p.1 = P → p.2 = X.env.qual ++ "<lambda>") (hr : Room (k + 2) X.A) (L : LamN X.N X.env.scope scope names) (hdv : DefV X params names)
    (hbody : ∀ (A : Around) (outer : List Env) (s : Shared) (H : Hp) (E : XK) (f c' : Addr), Room k (A.deeper (lamEnv X scope s.heap.objs.size f c')) → PE (lamCxN X A outer s H E scope f c') body (t E)) (ha : PA X [e1, e2] ta)
    (hdb : (x == ("__debug__" : Str)) = false := by decide) (hd : (a == ("__debug__" : Str)) = false := by decide) (hcd : (a == ("__classdict__" : Str)) = false := by decide)
    (hpl : (backTo pos (starEach [e1, e2] X.env)).any (·.1) = false := by rfl) :
    PE X (.Call (.Name x p) [.Lambda params body scope lpos, e1, e2] [] pos) (tRefN T t ta GG) := by
  refine ⟨fun pins s σ H Q I h => ?_⟩
  obtain ⟨hT, h⟩ := h
  refine wpAny_Call_Name_kw (ld_glob I hg hm ?_ hdb)
  refine PySem.W.callWith_K (h₀ := X.base) I.ok.mod.kin hk ?_ (by rfl) hpl
  show wpAny _ _ (spliced ((false, eval (.Lambda params body scope lpos) X.env) :: backTo pos (starEach [e1, e2] X.env))) _ _ s
  refine Calls.spliced_cons (lam_makeN I TB hcode hmT hu hT (L.has I.ok) hdv fun f c' pm' ctv dv bs H1 s' I1 eN T1 hf hF hco hbs D => ?_)
  obtain ⟨fp, hfm, hTm, hfp, hob⟩ : ∃ fp : List Addr, f ∈ fp ∧ (∀ T', dv = .ref T' → T' ∈ fp) ∧ (∀ b ∈ fp, FpOk X pins H1 b) ∧ ∀ b ∈ fp, ∃ o, s'.heap.get? b = some o ∧ ∀ v, o.data ≠ .cell v := by
    rcases D with ⟨e, _⟩ | ⟨T', o, u, n, e, fT, hT', hd', _⟩
    · refine ⟨[f], List.mem_singleton.mpr rfl, ?_, fun b hb => ?_, fun b hb => ?_⟩
      · intro T2 e'; rw [e] at e'; cases e'
      · rw [List.mem_singleton.mp hb]; exact hF
      · rw [List.mem_singleton.mp hb]; exact ⟨_, hf, fun v z => by cases z⟩
    · refine ⟨[f, T'], List.mem_cons_self, ?_, fun b hb => ?_, fun b hb => ?_⟩
      · intro T2 e'; rw [e] at e'; cases e'; exact List.mem_cons_of_mem _ List.mem_cons_self
      · rcases List.mem_cons.mp hb with z | z
        · rw [z]; exact hF
        · rw [List.mem_singleton.mp z]; exact fT
      · rcases List.mem_cons.mp hb with z | z
        · rw [z]; exact ⟨_, hf, fun v z => by cases z⟩
        · rw [List.mem_singleton.mp z]; exact ⟨_, hT', fun v z => by rw [hd'] at z; cases z⟩
  refine thn (ha.run pos (pins ++ pinsAt fp s'.heap) s' σ H1 _ (I1.pinned hfp hob) (h H1 eN T1)) fun us s2 ⟨vs, H2, I2, r2, l, v, ev, eE, gg⟩ => ?_
  subst ev
  refine ⟨I2.kIn, ?_⟩
  have I3 : Inv X pins σ H2 s2 := I2.unpinned
  have pinAt : ∀ b o, b ∈ fp → s'.heap.get? b = some o → s2.heap.get? b = some o ∧ H2 b = none ∧ b ∉ frs X.stack := fun b o hb e => by
    have P1 := I2.pin (b, o) (List.mem_append_right _ (List.mem_append_right _ (mem_pinsAt hb e)))
    exact ⟨P1.1, P1.2.1, fun hm => (List.mem_cons.mp (I3.stkSub b hm)).elim P1.2.2.1 P1.2.2.2.1⟩
  obtain ⟨hf2, hfn2, hfr2⟩ := pinAt f _ hfm hf
  have D2 : DvAt s2.heap H2 X pins dv bs params := by
    rcases D with ⟨e, z⟩ | ⟨T', o, u, n, e, fT, hT', hd', z⟩
    · exact .inl ⟨e, z⟩
    · obtain ⟨g1, g2, _⟩ := pinAt T' o (hTm T' e) hT'
      exact .inr ⟨T', o, u, n, e, ⟨g2, fT.2⟩, g1, hd', z⟩
  have hDr : ∀ T', dv = .ref T' → T' ∉ frs X.stack := fun T' e => by
    obtain ⟨o, ho, _⟩ := hob T' (hTm T' e)
    exact (pinAt T' o (hTm T' e) ho).2.2
  have L2 : LamN X.N X.env.scope scope (bs.map (·.1)) := by rw [hbs]; exact L
  have rv : Vals (V.ref f :: [V.str (tx l), v]) (Value.ref f :: us) := .cons rfl r2
  have hlen : (Value.ref f :: us).length = ps.length := by rw [← rv.length, hps]; rfl
  have bb := hb s2 (Value.ref f :: us) I3.kIn (by rw [List.append_nil]; exact hlen)
  rw [List.append_nil] at bb
  have rc : codeAny (model X.prog X.w) X.A (.call (.ref g) ⟨Value.ref f :: us, []⟩) (CR CX0 X.stack X.prog X.w H2 s2 Q E0) s2 := by
    refine run_ofS (N := Ng) (ps := ps) (us := Value.ref f :: us) (vs := V.ref f :: [V.str (tx l), v]) lk hcg Sg hr I3.env0 bb rv (by rw [hps]; rfl) fun hr' => ?_
    exact hG f c' s2 H2 Q (fun E' H' Q' => t E' σ H' Q') l v hr' (fun W pn xe p1 p2 tk => pe_actN (i := 0) I3 L2 hf2 hfn2 hfr2 D2 hDr tk hr' (fun A outer s H E hr2 => hbody A outer s H E f c' hr2) hNg hva hd hcd) (eE _ _ hco) gg
  show wpAny _ _ (call (.ref g) (Value.ref f :: us)) _ _ _
  refine wpAny_call (codeAny_mono rc fun r s3 hq => ?_)
  cases r with
  | error e => exact (show False from hq).elim
  | ok fl =>
    cases fl with
    | ret u => exact I3.after hq
    | next => exact False.elim hq
    | brk => exact False.elim hq
    | cont => exact False.elim hq
end
end Sr
local macro_rules | `(tactic| wtm_at "dec") => `(tactic| first
  | exact decide_eq_true (by omega)
  | exact decide_eq_false (by omega)
  | (simp only [Bool.not_eq_true', Bool.not_eq_false', Bool.not_true, Bool.not_false, decide_eq_true_eq, decide_eq_false_iff_not]; omega)
  | (simp; done)
  | (simp; omega))
local macro_rules | `(tactic| wtm_at "sz") => `(tactic| first
  | omega
  | (simp only [List.length_append, List.length_cons, List.length_nil, List.length_map, List.length_take, List.length_drop, List.length_singleton]; omega)
  | (show _ ≤ _; decide)
  | decide)
local macro_rules | `(tactic| wtm_at "fr") => `(tactic| first
  | assumption
  | (refine Sr.fr_in (q := _) (u := _) ?_; assumption)
  | (refine L2.Same.free ?_ ?_ <;> assumption))
local macro_rules | `(tactic| wtm_at "ne") => `(tactic| first
  | assumption
  | (exact Sr.fr_ne (by assumption))
  | (exact (Sr.fr_ne (by assumption)).symm)
  | (exact L2.ne_of_none (by assumption) (by wtm_at "fr"))
  | (exact (L2.ne_of_none (by assumption) (by wtm_at "fr")).symm))
local macro_rules | `(tactic| wtm_at "at") => `(tactic| first
  | assumption
  | ((with_reducible exact L2.upd_same))
  | ((with_reducible apply Sr.at_ne); wtm_at "at"; wtm_at "fr")
  | ((with_reducible refine' Eq.trans (L2.upd_ne ?_) ?_); wtm_at "ne"; wtm_at "at")
  | ((with_reducible exact (by assumption : L2.Same _ _) _ _ (by assumption))))
local macro_rules | `(tactic| wtm_at "kn") => `(tactic| first
  | assumption
  | ((with_reducible apply L2.SqL.of); wtm_at "at")
  | ((with_reducible apply L2.SqT.of); wtm_at "at")
  | ((with_reducible refine' Sr.ex_t (Sr.ex_new ?_) ?_); wtm_at "fr"; wtm_at "kn")
  | ((with_reducible refine' Sr.ex_l (Sr.ex_new ?_) ?_); wtm_at "fr"; wtm_at "kn")
  | ((with_reducible refine' Sr.ex_t (by assumption) ?_); wtm_at "kn")
  | ((with_reducible refine' Sr.ex_l (by assumption) ?_); wtm_at "kn"))
local macro_rules | `(tactic| wtm_at "s") => `(tactic| first
  | ((with_reducible refine Sr.go_set ?_))
  | ((with_reducible refine Sr.go_ret ?_))
  | ((with_reducible refine Sr.go_if ?_))
  | ((with_reducible refine Sr.go_drop ?_))
  | ((with_reducible refine Sr.go_asg ?_))
  | ((with_reducible apply Sr.wp_var); exact rfl)
  | ((with_reducible refine Sr.wp_c ?_))
  | ((with_reducible refine Sr.wp_op ?_))
  | ((with_reducible refine Sr.wp_un ?_))
  | ((with_reducible refine Sr.wp_chain ?_))
  | ((with_reducible refine Sr.wp_ifE ?_))
  | ((with_reducible refine Sr.wp_andV ?_))
  | ((with_reducible refine Sr.wp_orV ?_))
  | ((with_reducible refine Sr.wp_notV ?_))
  | ((with_reducible refine Sr.wp_test ?_))
  | ((with_reducible refine Sr.wp_B ?_))
  | ((with_reducible refine Sr.wp_and ?_))
  | ((with_reducible refine Sr.wp_or ?_))
  | ((with_reducible refine Sr.wp_not ?_))
  | ((with_reducible refine Sr.wp_yes ?_))
  | ((with_reducible refine Sr.wp_nil ?_))
  | ((with_reducible refine Sr.wp_cons ?_))
  | ((with_reducible refine Sr.wp_tup ?_))
  | ((with_reducible refine Sr.wp_lst ?_))
  | ((with_reducible refine Sr.wp_call ?_))
  | ((with_reducible refine Sr.wp_cb ?_))
  | ((with_reducible refine Sr.wp_sl ?_))
  | ((with_reducible refine Sr.wp_noPart ?_))
  | ((with_reducible refine Sr.wp_part ?_))
  | ((with_reducible refine Sr.wp_addI ?_))
  | ((with_reducible refine Sr.wp_addS ?_ ?_); wtm_at "sz")
  | ((with_reducible refine Sr.wp_i0 ?_))
  | ((with_reducible refine Sr.wp_isNs ?_))
  | ((with_reducible refine Sr.wp_notNs ?_))
  | ((with_reducible refine Sr.go_ifB ?_))
  | ((with_reducible refine Sr.wp_u ?_))
  | ((with_reducible refine Sr.wp_eqI ?_))
  | ((with_reducible refine Sr.wp_neI ?_))
  | ((with_reducible refine Sr.wp_eqS ?_))
  | ((with_reducible refine Sr.wp_neS ?_))
  | ((with_reducible refine Sr.wp_inS ?_))
  | ((with_reducible refine Sr.wp_niS ?_))
  | ((with_reducible refine Sr.wp_lenS ?_ ?_); wtm_at "sz")
  | ((with_reducible apply Sr.wp_lenL); wtm_at "kn")
  | ((with_reducible apply Sr.wp_lenT); wtm_at "kn")
  | ((with_reducible apply Sr.wp_ixT); wtm_at "kn"; exact rfl)
  | ((with_reducible refine Sr.wp_slS ?_ ?_); wtm_at "sz")
  | ((with_reducible refine Sr.wp_gName ?_))
  | ((with_reducible apply Sr.wp_gTup); wtm_at "kn"; exact rfl)
  | ((with_reducible refine Sr.wp_gCons ?_))
  | ((with_reducible refine Sr.wp_gNil ?_))
  | ((with_reducible refine ⟨_, (rfl : @Eq L2.V _ _), ?_⟩))
  | ((with_reducible refine Sr.go_back ?_)))
local macro_rules | `(tactic| wtm_at "r") => `(tactic| repeat wtm_at "s")
local macro_rules | `(tactic| wtm_at "gz") => `(tactic| (
  intro p hp
  generalize hG : L2.upd _ p _ = F
  have h := (Sr.gz_l hG hp).2
  have e := (Sr.gz_l hG hp).1
  clear hG
  revert h e
  revert F
  revert hp
  revert p))
namespace Sr
open PySem PySem.Spec PyProof.Rows L2 SrX
/-! ### sets, tapes -/
abbrev il (cs : List Int) : List V := cs.map V.int
/-- two sets of signs stand at s -/
abbrev SetsAt (K : PySem.W.Frag) (H : Hp) (s : Addr) (A B : List Nat) : Prop := SqT K H s [.str (tx A), .str (tx B)]
structure Good (A B : List Nat) : Prop where
  n1 : 1 ≤ A.length
  n10 : A.length ≤ 10
  eq : B.length = A.length
  ndA : A.Nodup
  ndB : B.Nodup
def CodesOk (n : Nat) (cs : List Int) : Prop := ∀ c ∈ cs, 0 ≤ c ∧ c < (n : Int) + 2
def StOk (st : Int) : Prop := st = 0 ∨ st = 1
/-- the row of a state -/
def rowS (A B : List Nat) (st : Int) : List Nat := if st = 0 then A else B
def sgn (A B : List Nat) (st c : Int) : Nat := (rowS A B st).getD c.toNat 0
def gst (A B : List Nat) (x : List Nat × Int) (c : Int) : List Nat × Int := if c < (A.length : Int) then (x.1 ++ [sgn A B x.2 c], x.2) else (x.1, c - (A.length : Int))
/-- what a tape reads as, the state behind it -/
def gon (A B : List Nat) (cs : List Int) (st : Int) : List Nat × Int := cs.foldl (gst A B) ([], st)
theorem take_more {α : Type} {l : List α} {i : Nat} {x : α} (h : l[i]? = some x) : l.take (i + 1) = l.take i ++ [x] := by
  rw [List.take_add_one, h]; rfl
theorem gon_take {A B : List Nat} {cs : List Int} {st : Int} {i : Nat} {c : Int} (h : cs[i]? = some c) : gon A B (cs.take (i + 1)) st = gst A B (gon A B (cs.take i) st) c := by
  unfold gon
  rw [take_more h, List.foldl_append]
  rfl
theorem gst_len {A B : List Nat} (x : List Nat × Int) (c : Int) : (gst A B x c).1.length ≤ x.1.length + 1 := by
  unfold gst
  split
  · simp
  · simp
theorem gon_len (A B : List Nat) (st : Int) (cs : List Int) : (gon A B cs st).1.length ≤ cs.length := by
  have key : ∀ (cs : List Int) (x : List Nat × Int), (cs.foldl (gst A B) x).1.length ≤ x.1.length + cs.length := by
    intro cs
    induction cs with
    | nil => intro x; exact Nat.le_refl _
    | cons c r ih =>
      intro x
      have h1 := ih (gst A B x c)
      have h2 := gst_len (A := A) (B := B) x c
      rw [List.foldl_cons, List.length_cons]
      omega
  have h := key cs ([], st)
  simpa [gon] using h
theorem gst_st {A B : List Nat} {x : List Nat × Int} {c : Int} (hx : StOk x.2) (hc : 0 ≤ c ∧ c < (A.length : Int) + 2) : StOk (gst A B x c).2 := by
  unfold gst
  split
  · exact hx
  · show c - (A.length : Int) = 0 ∨ c - (A.length : Int) = 1
    omega
theorem gon_st {A B : List Nat} {cs : List Int} {st : Int} (hs : StOk st) (hc : CodesOk A.length cs) : StOk (gon A B cs st).2 := by
  have key : ∀ (cs : List Int) (x : List Nat × Int), StOk x.2 → CodesOk A.length cs → StOk (cs.foldl (gst A B) x).2 := by
    intro cs
    induction cs with
    | nil => intro x h _; exact h
    | cons c r ih =>
      intro x h hc
      exact ih _ (gst_st h (hc c List.mem_cons_self)) fun d hd => hc d (List.mem_cons_of_mem _ hd)
  exact key cs ([], st) hs hc
theorem CodesOk.take {n : Nat} {cs : List Int} (h : CodesOk n cs) (i : Nat) : CodesOk n (cs.take i) := fun c hc => h c (List.mem_of_mem_take hc)
theorem CodesOk.drop {n : Nat} {cs : List Int} (h : CodesOk n cs) (i : Nat) : CodesOk n (cs.drop i) := fun c hc => h c (List.mem_of_mem_drop hc)
theorem CodesOk.app {n : Nat} {cs ds : List Int} (h : CodesOk n cs) (h2 : CodesOk n ds) : CodesOk n (cs ++ ds) := fun c hc => (List.mem_append.mp hc).elim (h c) (h2 c)
theorem row_len {A B : List Nat} (h : B.length = A.length) (st : Int) : (rowS A B st).length = A.length := by
  unfold rowS
  split
  · rfl
  · exact h
theorem at_row {A B : List Nat} {st : Int} (h : StOk st) : atI [V.str (tx A), V.str (tx B)] st = some (.str (tx (rowS A B st))) := by
  rcases h with h | h
  · subst h; exact atI_nat (j := 0) rfl
  · subst h; exact atI_nat (j := 1) rfl
theorem at_sgn {A B : List Nat} {st c : Int} (h : B.length = A.length) (h0 : 0 ≤ c) (h1 : c < (A.length : Int)) : atI (rowS A B st) c = some (sgn A B st c) := by
  have hl : c.toNat < (rowS A B st).length := by rw [row_len h]; omega
  refine atNat h0 ?_
  unfold sgn
  rw [List.getElem?_eq_getElem hl, List.getD_eq_getElem?_getD, List.getElem?_eq_getElem hl]
  rfl
theorem il_at {cs : List Int} {i : Nat} {y : V} (h : (il cs)[i]? = some y) : ∃ c, cs[i]? = some c ∧ y = .int c ∧ c ∈ cs := by
  rw [List.getElem?_map] at h
  cases e : cs[i]? with
  | none => rw [e] at h; cases h
  | some c =>
    rw [e] at h
    exact ⟨c, rfl, (Option.some.inj h).symm, List.mem_of_getElem? e⟩
def topS (i : Nat) : Stmt := PySem.Challenge.pw_shiftrow_k12_written_and_read.main.body.getD i (.Pass ⟨0, 0, 0, 0⟩)
section
variable {P : Program} {w : World} {K : PySem.W.Frag} {mg : Str → Option Value} {base : Heap}
def sp_gone (K : PySem.W.Frag) : Sp := fun vs H Q _ => ∃ (s t : Addr) (A B : List Nat) (cs : List Int) (st : Int), vs = [.ref s, .ref t, .int st] ∧ SetsAt K H s A B ∧ SqL K H t (il cs) ∧ B.length = A.length ∧ A.length ≤ 10 ∧ CodesOk A.length cs ∧ cs.length ≤ 1000 ∧ StOk st ∧
  RetN (.tup [.str (tx (gon A B cs st).1), .int (gon A B cs st).2]) H Q
abbrev s_need_sets : Stmt := topS 10
abbrev n_need_sets : List Str := ["sets", "one", "other"]
theorem sc_need_sets : FnScope n_need_sets ["sets"] (defScope s_need_sets) := ⟨rfl, rfl, rfl, by decide +kernel, rfl, by decide +kernel, by decide +kernel⟩

def sp_need_sets (K : PySem.W.Frag) : Sp := fun vs H Q _ => ∃ (s : Addr) (A B : List Nat), vs = [.ref s] ∧ SetsAt K H s A B ∧ Good A B ∧ RetV .non H Q
theorem pm_need_sets (D : DefAt K mg "need_sets" s_need_sets) (B : Bl mg) (c_MOST_SIGNS : ∃ t, mg "MOST_SIGNS" = some (.int 10 t)) : Pm P w K mg base CX0 1 "need_sets" ["sets"] (sp_need_sets K) := by
  obtain ⟨f, fd, F, hm⟩ := D
  refine ⟨f, fd, ?_, hm, F.kp, F.binds fun _ _ _ _ _ _ us hl => match us, hl with | [_], _ => rfl⟩
  refine F.ok sc_need_sets (fun vs H Q E h => ?_) (fun cdv A outer s H vs Q E hr h => ?_)
  · obtain ⟨_, _, _, rfl, _⟩ := h
    rfl
  · obtain ⟨s, A', B', rfl, hS, g, k⟩ := h
    obtain ⟨n1, n10, eL, ndA, ndB⟩ := g
    have eA := (dd_full A').mpr ndA
    have eB := (dd_full B').mpr ndB
    refine ⟨_, (pss_cons (ps_asg (pv 0) (pgT K rfl (n := 2) rfl (pgs_cons (pg_name (i := 1) sc_need_sets.nd rfl (Or.inl rfl)) (pgs_cons (pg_name (i := 2) sc_need_sets.nd rfl (Or.inl rfl)) pgs_nil))))
 (pss_cons (ps_if (pt_not (pt_chain op_le op_le pe_int (pe_callB (lenK K rfl) (by rfl) B.len PySem.boot_len (pa_cons (pv 1) pa_nil)) (pe_cst c_MOST_SIGNS)))
 (pss_cons ps_never
 pss_nil)
 pss_nil)
 (pss_cons (ps_if (pt_cmpR (neK K rfl hr.units) (pe_lenSg rfl B.len B.set (pv 1)) (pe_callB (lenK K rfl) (by rfl) B.len PySem.boot_len (pa_cons (pv 1) pa_nil)) (nomark _))
 (pss_cons ps_never
 pss_nil)
 pss_nil)
 (pss_cons (ps_if (PW.pt (pw_or (pt_cmpR (neK K rfl hr.units) (pe_callB (lenK K rfl) (by rfl) B.len PySem.boot_len (pa_cons (pv 2) pa_nil)) (pe_callB (lenK K rfl) (by rfl) B.len PySem.boot_len (pa_cons (pv 1) pa_nil)) (nomark _)) (pw_or1 (pt_cmpR (neK K rfl hr.units) (pe_lenSg rfl B.len B.set (pv 2)) (pe_callB (lenK K rfl) (by rfl) B.len PySem.boot_len (pa_cons (pv 2) pa_nil)) (nomark _)))))
 (pss_cons ps_never
 pss_nil)
 pss_nil)
 pss_nil)))), ?_⟩
    refine go_st (σ := [some (.ref s), none, none]) rfl ?_
    wtm_at "r"
    refine bT (by wtm_at "dec") ?_
    wtm_at "r"
    refine bF (by wtm_at "dec") ?_
    wtm_at "r"
    refine wp_lenSg ?_
    wtm_at "r"
    refine ⟨by omega, ?_⟩
    wtm_at "r"
    refine bF (by wtm_at "dec") ?_
    wtm_at "r"
    refine bF (by wtm_at "dec") ?_
    wtm_at "r"
    refine wp_lenSg ?_
    wtm_at "r"
    refine ⟨by omega, ?_⟩
    wtm_at "r"
    refine bF (by wtm_at "dec") ?_
    wtm_at "r"
    exact k.out (exr H)
abbrev s_need_tape : Stmt := topS 11
abbrev n_need_tape : List Str := ["sets", "tape", "at", "code"]
theorem sc_need_tape : FnScope n_need_tape ["sets", "tape"] (defScope s_need_tape) := ⟨rfl, rfl, rfl, by decide +kernel, rfl, by decide +kernel, by decide +kernel⟩

def sp_need_tape (K : PySem.W.Frag) : Sp := fun vs H Q _ => ∃ (s t : Addr) (A B : List Nat) (cs : List Int), vs = [.ref s, .ref t] ∧ SetsAt K H s A B ∧ SqL K H t (il cs) ∧ A.length ≤ 10 ∧ CodesOk A.length cs ∧ cs.length ≤ 200 ∧ RetV .non H Q
theorem pm_need_tape (D : DefAt K mg "need_tape" s_need_tape) (B : Bl mg) (c_MOST_CODES : ∃ t, mg "MOST_CODES" = some (.int 200 t)) : Pm P w K mg base CX0 1 "need_tape" ["sets", "tape"] (sp_need_tape K) := by
  obtain ⟨f, fd, F, hm⟩ := D
  refine ⟨f, fd, ?_, hm, F.kp, F.binds fun _ _ _ _ _ _ us hl => match us, hl with | [_, _], _ => rfl⟩
  refine F.ok sc_need_tape (fun vs H Q E h => ?_) (fun cdv A outer s H vs Q E hr h => ?_)
  · obtain ⟨_, _, _, _, _, rfl, _⟩ := h
    rfl
  · obtain ⟨s, t, A', B', cs, rfl, hS, hT, nL, hc, cl, k⟩ := h
    refine ⟨_, (pss_cons (ps_for PassesOwn.never rfl (piE K rfl B.enumerate (pa_cons (pv 1) pa_nil)) (pgT K rfl (n := 2) rfl (pgs_cons (pg_name (i := 2) sc_need_tape.nd rfl (Or.inl rfl)) (pgs_cons (pg_name (i := 3) sc_need_tape.nd rfl (Or.inl rfl)) pgs_nil)))
 (pss_cons (ps_if (PW.pt (pw_or (pt_cmpR op_ge (pv 2) (pe_cst c_MOST_CODES) (nomark _)) (pw_or1 (pt_not (pt_chain op_le op_lt pe_int (pv 3) (pe_op op_addP (pe_callB (lenK K rfl) (by rfl) B.len PySem.boot_len (pa_cons (pe_ix (ixK K rfl) (pv 0) pe_int (fun _ _ => rfl)) pa_nil)) pe_int))))))
 (pss_cons ps_never
 pss_nil)
 pss_nil)
 pss_nil))
 pss_nil), ?_⟩
    refine go_st (σ := [some (.ref s), some (.ref t), none, none]) rfl ?_
    refine go_forE (fun i σ F => ∃ x y, σ = [some (.ref s), some (.ref t), x, y] ∧ Ex H F) ?_
    wtm_at "r"
    refine ⟨t, il cs, rfl, hT, ⟨none, none, rfl, exr H⟩, fun i σ F hi ⟨_, _, _, e⟩ => ex_l e hT, ?_, ?_⟩
    · rintro i y σ F p hy hp ⟨x0, y0, rfl, e⟩
      obtain ⟨c, hcy, rfl, hmem⟩ := il_at hy
      have hcc := hc c hmem
      have hi : i < cs.length := (List.getElem?_eq_some_iff.mp hcy).1
      have hS2 := ex_t (e.trans (ex_new (u := .tup [.int (i : Nat), .int c]) hp)) hS
      wtm_at "r"
      refine bF (by wtm_at "dec") ?_
      wtm_at "r"
      refine bT (by wtm_at "dec") ?_
      wtm_at "r"
      refine bF (by wtm_at "dec") ?_
      wtm_at "r"
      exact go_turn rfl ⟨_, _, rfl, e.trans (ex_new hp)⟩
    · rintro σ F ⟨_, _, rfl, e⟩
      exact k.out e
def sp_need_state (K : PySem.W.Frag) : Sp := fun vs H Q _ => ∃ (st : Int), vs = [.int st] ∧ StOk st ∧ RetV .non H Q
def sp_need_all (K : PySem.W.Frag) : Sp := fun vs H Q _ => ∃ (s t : Addr) (A B : List Nat) (cs : List Int) (st : Int), vs = [.ref s, .ref t, .int st] ∧ SetsAt K H s A B ∧ SqL K H t (il cs) ∧ Good A B ∧ CodesOk A.length cs ∧ cs.length ≤ 200 ∧ StOk st ∧ RetV .non H Q
theorem wp_need_sets {o : Option Addr} {F : Hp} {Pq : V → Hp → Prop} {s : Addr} {A B : List Nat} {E : XK} (hS : SetsAt K F s A B) (g : Good A B) (q : Pq .non F) : Wp o (fun H Q => sp_need_sets K ([.ref s] ++ []) H Q E) F Pq :=
  fun H w Q k => ⟨s, A, B, rfl, w.t hS, g, RetV.use w q k⟩
theorem wp_need_tape {o : Option Addr} {F : Hp} {Pq : V → Hp → Prop} {s t : Addr} {A B : List Nat} {cs : List Int} {E : XK} (hS : SetsAt K F s A B) (hT : SqL K F t (il cs)) (g : A.length ≤ 10) (hc : CodesOk A.length cs) (cl : cs.length ≤ 200) (q : Pq .non F) :
    Wp o (fun H Q => sp_need_tape K ([.ref s, .ref t] ++ []) H Q E) F Pq := fun H w Q k => ⟨s, t, A, B, cs, rfl, w.t hS, w.l hT, g, hc, cl, RetV.use w q k⟩
theorem wp_need_state {o : Option Addr} {F : Hp} {Pq : V → Hp → Prop} {st : Int} {E : XK} (h : StOk st) (q : Pq .non F) : Wp o (fun H Q => sp_need_state K ([.int st] ++ []) H Q E) F Pq :=
  fun H w Q k => ⟨st, rfl, h, RetV.use w q k⟩
theorem wp_need_all {o : Option Addr} {F : Hp} {Pq : V → Hp → Prop} {s t : Addr} {A B : List Nat} {cs : List Int} {st : Int} {E : XK} (hS : SetsAt K F s A B) (hT : SqL K F t (il cs)) (g : Good A B) (hc : CodesOk A.length cs) (cl : cs.length ≤ 200) (h : StOk st) (q : Pq .non F) :
    Wp o (fun H Q => sp_need_all K ([.ref s, .ref t, .int st] ++ []) H Q E) F Pq := fun H w Q k => ⟨s, t, A, B, cs, st, rfl, w.t hS, w.l hT, g, hc, cl, h, RetV.use w q k⟩
theorem wp_gone {o : Option Addr} {F : Hp} {Pq : V → Hp → Prop} {s t : Addr} {A B : List Nat} {cs : List Int} {st : Int} {E : XK} (hS : SetsAt K F s A B) (hT : SqL K F t (il cs)) (eL : B.length = A.length) (nL : A.length ≤ 10) (hc : CodesOk A.length cs) (cl : cs.length ≤ 1000) (h : StOk st)
    (q : ∀ p, F p = none → Pq (.ref p) (upd F p (.tup [.str (tx (gon A B cs st).1), .int (gon A B cs st).2]))) :
    Wp o (fun H Q => sp_gone K ([.ref s, .ref t, .int st] ++ []) H Q E) F Pq := fun H w Q k => ⟨s, t, A, B, cs, st, rfl, w.t hS, w.l hT, eL, nL, hc, cl, h, RetN.use w q k⟩
def sp_read (K : PySem.W.Frag) : Sp := fun vs H Q _ => ∃ (s t : Addr) (A B : List Nat) (cs : List Int) (st : Int), vs = [.ref s, .ref t, .int st] ∧ SetsAt K H s A B ∧ SqL K H t (il cs) ∧ Good A B ∧ CodesOk A.length cs ∧ cs.length ≤ 200 ∧ StOk st ∧
  RetN (.tup [.str (tx (gon A B cs st).1), .int (gon A B cs st).2]) H Q
theorem wp_read {o : Option Addr} {F : Hp} {Pq : V → Hp → Prop} {s t : Addr} {A B : List Nat} {cs : List Int} {st : Int} {E : XK} (hS : SetsAt K F s A B) (hT : SqL K F t (il cs)) (g : Good A B) (hc : CodesOk A.length cs) (cl : cs.length ≤ 200) (h : StOk st)
    (q : ∀ p, F p = none → Pq (.ref p) (upd F p (.tup [.str (tx (gon A B cs st).1), .int (gon A B cs st).2]))) :
    Wp o (fun H Q => sp_read K ([.ref s, .ref t, .int st] ++ []) H Q E) F Pq := fun H w Q k => ⟨s, t, A, B, cs, st, rfl, w.t hS, w.l hT, g, hc, cl, h, RetN.use w q k⟩
end
section
variable {P : Program} {w : World} {K : PySem.W.Frag} {mg : Str → Option Value} {base : Heap}
abbrev s_q_dice : Stmt := topS 17
abbrev n_q_dice : List Str := ["_law_script", "_law_k", "_law_found", "_law_cell"]
theorem sc_q_dice : FnScope n_q_dice ["_law_script", "_law_k"] (defScope s_q_dice) := ⟨rfl, rfl, rfl, by decide +kernel, rfl, by decide +kernel, by decide +kernel⟩

def sp_dice (K : PySem.W.Frag) : Sp := fun vs H Q _ => ∃ (a : Addr) (k : Int) (ns : List Int), vs = [.ref a, .int k] ∧ SqL K H a (il ns) ∧ ns.length ≤ 63 ∧ ∀ p H1, H p = none → Ex H H1 → Dc H1 p → Q (.ref p) H1
theorem il_take (ms : List Int) (c : Int) : il ms ++ [V.int c] = il (ms ++ [c]) := by simp
theorem pm_dice (D : DefAt K mg "_law_dice" s_q_dice) (B : Bl mg) : Pm P w K mg base CX0 1 "_law_dice" ["_law_script", "_law_k"] (sp_dice K) := by
  obtain ⟨f, fd, F, hm⟩ := D
  refine ⟨f, fd, ?_, hm, F.kp, F.binds fun _ _ _ _ _ _ us hl => match us, hl with | [_, _], _ => rfl⟩
  refine F.ok sc_q_dice (fun vs H Q E h => ?_) (fun cdv A outer s H vs Q E hr h => ?_)
  · obtain ⟨_, _, _, rfl, _⟩ := h
    rfl
  · obtain ⟨a, k0, ns, rfl, hA, hl, k⟩ := h
    refine ⟨_, (pss_cons (ps_set (i := 2) sc_q_dice.nd rfl (Or.inl rfl) (pv 1))
 (pss_cons (ps_for PassesOwn.never rfl (piL K rfl (pv 0)) (pg_name (i := 3) sc_q_dice.nd rfl (Or.inl rfl))
 (pss_cons (ps_set (i := 2) sc_q_dice.nd rfl (Or.inl rfl) (pe_op op_modN (pe_op op_addP (pe_op op_mulP (pv 2) pe_int) (pe_callB call_abs (by rfl) B.abs (by decide +kernel) (pa_cons (pv 3) pa_nil))) pe_int))
 pss_nil))
 (pss_cons (ps_ret (pe_op op_addP (pe_lst (pa_cons (pv 2) (pa_cons pe_int pa_nil))) (pe_lc (own := [("_law_cell", 3)]) (g := gName 3) rfl sc_q_dice.nd (piL K rfl (pv 0)) (blkOk_by (N := n_q_dice) (sc := defScope s_q_dice) (by decide +kernel)) (fun _ _ _ _ _ => pg_name (i := 3) sc_q_dice.nd rfl (Or.inl rfl)) (fun _ _ _ _ _ => (pts_one (pt_cmpR op_ge (pv 3) (pe_op op_pow pe_int pe_int) (nomark _)))) (fun _ _ _ _ _ => (pv 3)))))
 pss_nil))), ?_⟩
    refine go_st (σ := [some (.ref a), some (.int k0), none, none]) rfl ?_
    wtm_at "r"
    refine go_forL (fun i σ F => ∃ (x : Int) (y : Option V), σ = [some (.ref a), some (.int k0), some (.int x), y] ∧ Ex H F) ?_
    wtm_at "r"
    refine ⟨a, il ns, rfl, hA, ⟨k0, none, rfl, exr H⟩, fun i σ F hi ⟨_, _, _, e⟩ => ex_l e hA, ?_, ?_⟩
    · rintro i y σ F hy ⟨x, y0, rfl, e⟩
      obtain ⟨c, hcy, rfl, hmem⟩ := il_at hy
      wtm_at "r"
      refine wp_mulI (.inr ⟨by decide, by decide⟩) ?_
      wtm_at "r"
      refine wp_abs ?_
      wtm_at "r"
      refine wp_i (by decide) ?_
      wtm_at "r"
      exact go_turn rfl ⟨_, _, rfl, e⟩
    · rintro σ F ⟨x, y0, rfl, e⟩
      wtm_at "r"
      refine ⟨(by show 2 ≤ 100000; decide), fun p hp => ?_⟩
      refine wp_lcL (fun _ => rfl) ?_
      wtm_at "r"
      refine ⟨a, il ns, rfl, ex_l (e.trans (ex_new hp)) hA, fun Dl hD => ?_⟩
      have npd := fr_ne hD
      refine ⟨fun i acc F2 => ∃ ms : List Int, acc = il ms ∧ ms.length ≤ i ∧ Ex H F2 ∧ F2 p = some (.lst [.int x, .int 0]), ⟨[], rfl, Nat.le_refl _, (e.trans (ex_new hp)).trans (ex_new hD), by wtm_at "at"⟩, fun i acc F2 ⟨_, _, _, e2, _⟩ => ex_l e2 hA, ?_, ?_⟩
      · rintro i y acc F2 hy q2 ⟨ms, rfl, hms, e2, hp2⟩
        obtain ⟨c, hcy, rfl, hmem⟩ := il_at hy
        have hi : i < ns.length := (List.getElem?_eq_some_iff.mp hcy).1
        show Wp _ _ _ _
        wtm_at "r"
        refine wp_i ⟨by decide, by decide, by decide⟩ ?_
        wtm_at "r"
        refine ⟨fun _ => ?_, fun _ => ⟨q2, ms, rfl, by omega, e2, hp2⟩⟩
        wtm_at "r"
        have hDH : H Dl = none := (e.trans (ex_new hp)).free hD
        refine ⟨q2, by rw [List.length_map]; omega, ms ++ [c], il_take ms c, by rw [List.length_append, List.length_singleton]; omega, ex_mut e2 hDH, ?_⟩
        rw [upd_ne npd.symm]
        exact hp2
      · rintro acc F2 q2 ⟨ms, rfl, hms, e2, hp2⟩
        rw [List.length_map] at hms
        refine wp_addL hp2 q2 (by rw [List.length_map]; show 2 + _ ≤ _; omega) fun r hr2 => ?_
        intro H3 w3
        refine k r H3 (e2.free hr2) (e2.trans ((ex_new hr2).trans w3.ex)) ⟨x :: 0 :: ms, ?_, ?_, ?_⟩
        · exact w3.ex _ _ upd_same
        · simp
        · simp only [List.length_cons]; omega
abbrev s_q_off : Stmt := topS 18
abbrev n_q_off : List Str := ["_law_d", "_law_most", "_law_found"]
theorem sc_q_off : FnScope n_q_off ["_law_d", "_law_most"] (defScope s_q_off) := ⟨rfl, rfl, rfl, by decide +kernel, rfl, by decide +kernel, by decide +kernel⟩

def sp_off : Sp := fun vs H Q _ => ∃ (d : Addr) (m : Int), vs = [.ref d, .int m] ∧ 0 < m ∧ m < 1000000 ∧ Dc H d ∧ ∀ (r : Nat) (H1 : Hp), (r : Int) < m → Ex (rm H d) H1 → Dc H1 d → Q (.int (r : Int)) H1
theorem wp_off {d : Addr} {F : Hp} {Pq : V → Hp → Prop} {m : Int} {E : XK} (h0 : 0 < m) (h1 : m < 1000000) (q : ∀ r : Nat, (r : Int) < m → Pq (.int (r : Int)) F) : Wp (some d) (fun H Q => sp_off ([.ref d, .int m] ++ []) H Q E) F Pq := fun H w Q k =>
  ⟨d, m, rfl, h0, h1, (w.dc d rfl).2, fun r H1 hr e hu => k _ _ F ⟨(ex_to_rm w.ex (w.dc d rfl).1).trans e, fun b z => by cases z; exact ⟨(w.dc d rfl).1, hu⟩⟩ (q r hr)⟩
theorem fmod_nat {x m : Int} (h : 0 < m) : ∃ r : Nat, Int.fmod x m = (r : Int) ∧ (r : Int) < m := by
  refine ⟨(x % m).toNat, ?_, ?_⟩
  · rw [Int.fmod_eq_emod_of_nonneg _ (by omega)]
    have := Int.emod_nonneg x (show m ≠ 0 by omega)
    omega
  · have h1 := Int.emod_lt_of_pos x h
    have h2 := Int.emod_nonneg x (show m ≠ 0 by omega)
    omega
theorem pm_off (D : DefAt K mg "_law_off" s_q_off) (B : Bl mg) : Pm P w K mg base CX0 1 "_law_off" ["_law_d", "_law_most"] sp_off := by
  obtain ⟨f, fd, F, hm⟩ := D
  refine ⟨f, fd, ?_, hm, F.kp, F.binds fun _ _ _ _ _ _ us hl => match us, hl with | [_, _], _ => rfl⟩
  refine F.ok sc_q_off (fun vs H Q E h => ?_) (fun cdv A outer s H vs Q E hr h => ?_)
  · obtain ⟨_, _, rfl, _⟩ := h
    rfl
  · obtain ⟨d, m, rfl, m0, m1, hd, k⟩ := h
    obtain ⟨ns, hd, l2, l70⟩ := hd
    obtain ⟨n0, n1, ns, rfl⟩ : ∃ n0 n1 r, ns = n0 :: n1 :: r := by
      match ns, l2 with
      | a :: b :: r, _ => exact ⟨a, b, r, rfl⟩
    refine ⟨_, (Evl.pss_cut (ps_if (PW.pt (pw_and (pt_cmpR (eqK K rfl hr.units) (pe_ix (ixK K rfl) (pv 0) pe_int (fun _ _ => rfl)) pe_int (nomark _)) (pw_and1 (pt_cmpR op_gt (pe_callB (lenK K rfl) (by rfl) B.len PySem.boot_len (pa_cons (pv 0) pa_nil)) pe_int (nomark _)))))
 (pss_cons (ps_asg (bmK K rfl PySem.F.plainAttrs_list PySem.F.slot_list_pop PySem.F.type_list_pop mt_popAt (pv 0) (pa_cons pe_int pa_nil)) (pg_sub (pv 0) pe_int set_list))
 pss_nil)
 pss_nil)
 (pss_cons (ps_if (pt_cmpR op_gt (pe_ix (ixK K rfl) (pv 0) pe_int (fun _ _ => rfl)) pe_int (nomark _))
 (pss_cons (ps_set (i := 2) sc_q_off.nd rfl (Or.inl rfl) (pe_op op_modN (pe_ix (ixK K rfl) (pv 0) pe_int (fun _ _ => rfl)) (pv 1)))
 (pss_cons (ps_asg (pe_op op_fdivN (pe_ix (ixK K rfl) (pv 0) pe_int (fun _ _ => rfl)) (pv 1)) (pg_sub (pv 0) pe_int set_list))
 (pss_cons (ps_ret (pv 2))
 pss_nil)))
 pss_nil)
 (pss_cons (ps_asg (pe_op op_modN (pe_op op_addP (pe_op op_mulP (pe_ix (ixK K rfl) (pv 0) pe_int (fun _ _ => rfl)) pe_int) pe_int) pe_int) (pg_sub (pv 0) pe_int set_list))
 (pss_cons (ps_ret (pe_op op_modN (pe_op op_fdivN (pe_ix (ixK K rfl) (pv 0) pe_int (fun _ _ => rfl)) pe_int) (pv 1)))
 pss_nil)))), ?_⟩
    refine go_st (σ := [some (.ref d), some (.int m), none]) rfl ?_
    refine go_cut (fun σ F => ∃ n0 n1 ns, σ = [some (.ref d), some (.int m), none] ∧ F = upd H d (.lst (il (n0 :: n1 :: ns))) ∧ ns.length ≤ 68) ?_ ?_
    · wtm_at "r"
      have fin : ∀ F1, F1 = H → Go none tNext { nx := Cl none fun σ F => ∃ n0 n1 ns, σ = [some (.ref d), some (.int m), none] ∧ F = upd H d (.lst (il (n0 :: n1 :: ns))) ∧ ns.length ≤ 68, rt := Q } [some (.ref d), some (.int m), none] F1 := by
        rintro F1 rfl
        refine go_turn rfl ⟨n0, n1, ns, rfl, ?_, by simp only [List.length_cons] at l70; omega⟩
        funext b
        by_cases e : b = d
        · subst e; rw [upd_same]; exact hd
        · rw [upd_ne e]
      refine wp_ixL (SqL.of hd) (atNat (by decide) rfl) ?_
      wtm_at "r"
      refine ⟨fun _ => ?_, fun _ => bF rfl (fin _ rfl)⟩
      wtm_at "r"
      refine ⟨fun h2 => ?_, fun _ => fin _ rfl⟩
      have h2 := of_decide_eq_true h2
      obtain ⟨n2, ns, rfl⟩ : ∃ n2 r, ns = n2 :: r := by
        match ns, h2 with
        | [], h2 => simp at h2
        | a :: r, _ => exact ⟨a, r, rfl⟩
      wtm_at "r"
      refine wp_bmL ?_
      wtm_at "r"
      refine ⟨d, _, rfl, SqL.of hd, ?_⟩
      wtm_at "r"
      refine wp_popAt (j := 2) (y := .int n2) hd (by simp only [List.length_map]; omega) rfl ?_
      refine wp_gSetL ?_
      wtm_at "r"
      refine ⟨d, _, 1, 1, rfl, rfl, upd_same, ?_, ?_⟩
      · exact ixN_nat (j := 1) (by simp)
      · refine go_turn rfl ⟨n0, n2, ns, rfl, ?_, by simp only [List.length_cons] at l70; omega⟩
        rw [upd_upd]
        rfl
    · rintro σ F ⟨n0, n1, ns, rfl, rfl, hl⟩
      have kk : ∀ (r : Nat) (a b : Int) (F1 : Hp), (r : Int) < m → F1 = upd H d (.lst (il (a :: b :: ns))) → ∀ H1, Wd none F1 H1 → Q (.int (r : Int)) H1 := by
        rintro r a b F1 hr rfl H1 w1
        refine k r H1 hr (fun c u e => ?_) ⟨a :: b :: ns, w1.ex _ _ upd_same, by simp, by simp only [List.length_cons]; omega⟩
        have nd : c ≠ d := fun z => by rw [z, rm_same] at e; cases e
        rw [rm_ne nd] at e
        refine w1.ex _ _ ?_
        rw [upd_ne nd]
        exact e
      obtain ⟨r1, e1, l1⟩ := fmod_nat (x := n1) m0
      wtm_at "r"
      refine wp_ixL (SqL.of upd_same) (atNat (by decide) rfl) ?_
      wtm_at "r"
      refine ⟨fun _ => ?_, fun _ => ?_⟩
      · wtm_at "r"
        refine wp_ixL (SqL.of upd_same) (atNat (by decide) rfl) ?_
        wtm_at "r"
        refine wp_i (by omega) ?_
        wtm_at "r"
        refine wp_ixL (SqL.of upd_same) (atNat (by decide) rfl) ?_
        wtm_at "r"
        refine wp_i ⟨by omega, by omega⟩ ?_
        refine wp_gSetL ?_
        wtm_at "r"
        refine ⟨d, _, 1, 1, rfl, rfl, upd_same, ixN_nat (j := 1) (by simp), ?_⟩
        wtm_at "r"
        rw [e1]
        exact kk r1 n0 (n1.fdiv m) _ l1 (by rw [upd_upd]; rfl)
      · wtm_at "r"
        refine wp_ixL (SqL.of upd_same) (atNat (by decide) rfl) ?_
        wtm_at "r"
        refine wp_mulI (.inr ⟨by decide, by decide⟩) ?_
        wtm_at "r"
        refine wp_i (by decide) ?_
        refine wp_gSetL ?_
        wtm_at "r"
        refine ⟨d, _, 0, 0, rfl, rfl, upd_same, ixN_nat (j := 0) (by simp), ?_⟩
        wtm_at "r"
        refine wp_ixL (SqL.of upd_same) (atNat (by decide) rfl) ?_
        wtm_at "r"
        refine wp_i ⟨by decide, by decide⟩ ?_
        wtm_at "r"
        refine wp_i (by omega) ?_
        obtain ⟨r2, e2, l2⟩ := fmod_nat (x := Int.fdiv (Int.fmod (n0 * 48271 + 11) 2147483647) 64) m0
        rw [e2]
        exact kk r2 (Int.fmod (n0 * 48271 + 11) 2147483647) n1 _ l2 (by rw [upd_upd]; rfl)
end
section
variable {P : Program} {w : World} {K : PySem.W.Frag} {mg : Str → Option Value} {base : Heap}
theorem map_erase {α β : Type} (f : α → β) : ∀ (l : List α) (i : Nat), (l.map f).eraseIdx i = (l.eraseIdx i).map f
  | [], _ => rfl
  | _ :: _, 0 => rfl
  | a :: r, i + 1 => by
    show f a :: (r.map f).eraseIdx i = f a :: (r.eraseIdx i).map f
    rw [map_erase f r i]
theorem perm_erase {α : Type} : ∀ {l : List α} {i : Nat} (h : i < l.length), (l[i] :: l.eraseIdx i).Perm l
  | a :: r, 0, _ => List.Perm.refl _
  | a :: r, i + 1, h => by
    have h2 : i < r.length := by simpa using h
    exact (List.Perm.swap a r[i] _).trans ((perm_erase h2).cons a)
abbrev s_q_mixed : Stmt := topS 20
abbrev n_q_mixed : List Str := ["_law_d", "_law_row", "_law_left", "_law_found"]
theorem sc_q_mixed : FnScope n_q_mixed ["_law_d", "_law_row"] (defScope s_q_mixed) := ⟨rfl, rfl, rfl, by decide +kernel, rfl, by decide +kernel, by decide +kernel⟩

def permOf (l : List Nat) (u : HO) : Prop := ∃ l1 : List Nat, l1.Perm l ∧ u = .lst (l1.map sg)
def sp_mixed (K : PySem.W.Frag) : Sp := fun vs H Q _ => ∃ (d r : Addr) (l : List Nat), vs = [.ref d, .ref r] ∧ Dc H d ∧ SqL K (rm H d) r (l.map sg) ∧ l.length ≤ 1000 ∧ (∀ c ∈ l, c < 128) ∧ RetND d (permOf l) H Q
theorem wp_mixed {d r : Addr} {F : Hp} {Pq : V → Hp → Prop} {l : List Nat} {E : XK} (h : SqL K F r (l.map sg)) (hl : l.length ≤ 1000) (hc : ∀ c ∈ l, c < 128) (q : ∀ (p : Addr) (l1 : List Nat), F p = none → l1.Perm l → Pq (.ref p) (upd F p (.lst (l1.map sg)))) :
    Wp (some d) (fun H Q => sp_mixed K ([.ref d, .ref r] ++ []) H Q E) F Pq := fun H w Q k =>
  ⟨d, r, l, rfl, (w.dc d rfl).2, ex_l (ex_to_rm w.ex (w.dc d rfl).1) h, hl, hc, RetND.use w (fun p u n ⟨l1, hp, e⟩ => by subst e; exact q p l1 n hp) k⟩
theorem pm_mixed (D : DefAt K mg "_law_mixed" s_q_mixed) (B : Bl mg) (g_q_off : Pm P w K mg base CX0 1 "_law_off" ["_law_d", "_law_most"] sp_off) : Pm P w K mg base CX0 2 "_law_mixed" ["_law_d", "_law_row"] (sp_mixed K) := by
  obtain ⟨f, fd, F, hm⟩ := D
  refine ⟨f, fd, ?_, hm, F.kp, F.binds fun _ _ _ _ _ _ us hl => match us, hl with | [_, _], _ => rfl⟩
  refine F.ok sc_q_mixed (fun vs H Q E h => ?_) (fun cdv A outer s H vs Q E hr h => ?_)
  · obtain ⟨_, _, _, rfl, _⟩ := h
    rfl
  · obtain ⟨d, r, l, rfl, hd, hR, hl, hc, k⟩ := h
    refine ⟨_, (pss_cons (ps_set (i := 2) sc_q_mixed.nd rfl (Or.inl rfl) (pe_callTy (listK K rfl rfl) (by rfl) B.list (by decide +kernel) (pa_cons (pv 1) pa_nil)))
 (pss_cons (ps_set (i := 3) sc_q_mixed.nd rfl (Or.inl rfl) (pe_lst pa_nil))
 (pss_cons (ps_while PassesOwn.never (pt_cmpR (neK K rfl hr.units) (pv 2) (pe_lst pa_nil) (nomark _))
 (pss_cons (ps_expr (bmK K rfl PySem.F.plainAttrs_list PySem.F.slot_list_append PySem.F.type_list_append mt_append (pv 3) (pa_cons (bmK K rfl PySem.F.plainAttrs_list PySem.F.slot_list_pop PySem.F.type_list_pop mt_popAt (pv 2) (pa_cons (pe_pm g_q_off (hr.mono (by decide)) pass0 (pa_cons (pv 0) (pa_cons (pe_callB (lenK K rfl) (by rfl) B.len PySem.boot_len (pa_cons (pv 2) pa_nil)) pa_nil))) pa_nil)) pa_nil)))
 pss_nil))
 (pss_cons (ps_ret (pv 3))
 pss_nil)))), ?_⟩
    refine go_stD (σ := [some (.ref d), some (.ref r), none, none]) hd rfl ?_
    wtm_at "r"
    refine wp_listL hR fun p hp => ?_
    wtm_at "r"
    refine ⟨Nat.zero_le _, fun q hq => ?_⟩
    wtm_at "r"
    have npq := fr_ne hq
    refine go_while (fun m σ F => ∃ la lf : List Nat, σ = [some (.ref d), some (.ref r), some (.ref p), some (.ref q)] ∧ Ex (rm H d) F ∧ F p = some (.lst (la.map sg)) ∧ F q = some (.lst (lf.map sg)) ∧ (la ++ lf).Perm l ∧ m = la.length)
      l.length ⟨l, [], rfl, (ex_new hp).trans (ex_new hq), by wtm_at "at", upd_same, by rw [List.append_nil], rfl⟩ ?_
    rintro m σ F ⟨la, lf, rfl, e, h1, h2, pe, rfl⟩
    have lsum : la.length + lf.length = l.length := by rw [← List.length_append]; exact pe.length_eq
    wtm_at "r"
    refine ⟨Nat.zero_le _, fun z hz => ?_⟩
    refine wp_neS0 (SqL.of (at_ne h1 hz)) (SqL.of upd_same) (fun c h => hc c (pe.mem_iff.mp (List.mem_append_left _ h))) ?_
    wtm_at "r"
    refine ⟨fun hne => ?_, fun heq => ?_⟩
    · have hne : la ≠ [] := by simpa using hne
      have hpos : 0 < la.length := List.length_pos_iff.mpr hne
      wtm_at "r"
      refine wp_bmL ?_
      wtm_at "r"
      refine ⟨q, _, rfl, SqL.of (at_ne h2 hz), ?_⟩
      wtm_at "r"
      refine wp_bmL ?_
      wtm_at "r"
      refine ⟨p, _, rfl, SqL.of (at_ne h1 hz), ?_⟩
      wtm_at "r"
      rw [List.length_map]
      refine wp_off (by omega) (by omega) fun i hi => ?_
      have hi : i < la.length := by omega
      wtm_at "r"
      refine wp_popAt (y := sg la[i]) (at_ne h1 hz) (by rw [List.length_map]; omega) (by rw [List.getElem?_map, List.getElem?_eq_getElem hi]; rfl) ?_
      wtm_at "r"
      refine wp_append (xs := lf.map sg) (by rw [upd_ne npq]; exact at_ne h2 hz) (by rw [List.length_map]; omega) ?_
      wtm_at "r"
      have rp : rm H d p = none := hp
      have rq : rm H d q = none := (ex_new hp).free hq
      refine go_turn rfl ⟨(la.eraseIdx i).length, by rw [List.length_eraseIdx, if_pos hi]; omega, la.eraseIdx i, lf ++ [la[i]], rfl, ex_mut (ex_mut (e.trans (ex_new hz)) rp) rq, ?_, ?_, ?_, rfl⟩
      · rw [upd_ne npq.symm, upd_same, map_erase]
      · rw [upd_same, List.map_append]; rfl
      · refine List.Perm.trans ?_ pe
        refine List.Perm.trans (List.perm_append_comm_assoc _ _ _) ?_
        refine List.Perm.trans (List.Perm.append_left lf ?_) List.perm_append_comm
        refine List.Perm.trans List.perm_append_comm ?_
        exact perm_erase hi
    · have heq : la = [] := by simpa using heq
      subst heq
      wtm_at "r"
      rw [List.nil_append] at pe
      refine RetND.out k (e.trans (ex_new hz)) ((ex_new hp).free hq) (u := .lst (lf.map sg)) (at_ne h2 hz) ⟨lf, pe, rfl⟩
abbrev s_q_tape : Stmt := topS 23
abbrev n_q_tape : List Str := ["_law_d", "_law_sets_here", "_law_most", "_law_often", "_law_found", "_law_k", "_law_code"]
theorem sc_q_tape : FnScope n_q_tape ["_law_d", "_law_sets_here", "_law_most"] (defScope s_q_tape) := ⟨rfl, rfl, rfl, by decide +kernel, rfl, by decide +kernel, by decide +kernel⟩

def tapeOf (n most : Nat) (u : HO) : Prop := ∃ cs : List Int, CodesOk n cs ∧ cs.length ≤ most ∧ u = .lst (il cs)
def sp_tape (K : PySem.W.Frag) : Sp := fun vs H Q _ => ∃ (d s : Addr) (A B : List Nat) (most : Nat), vs = [.ref d, .ref s, .int (most : Int)] ∧ Dc H d ∧ SetsAt K (rm H d) s A B ∧ 1 ≤ A.length ∧ A.length ≤ 10 ∧ most ≤ 1000 ∧ RetND d (tapeOf A.length most) H Q
theorem wp_tape {d s : Addr} {F : Hp} {Pq : V → Hp → Prop} {A B : List Nat} {most : Nat} {E : XK} (h : SetsAt K F s A B) (h1 : 1 ≤ A.length) (h2 : A.length ≤ 10) (hm : most ≤ 1000)
    (q : ∀ (p : Addr) (cs : List Int), F p = none → CodesOk A.length cs → cs.length ≤ most → Pq (.ref p) (upd F p (.lst (il cs)))) :
    Wp (some d) (fun H Q => sp_tape K ([.ref d, .ref s, .int (most : Int)] ++ []) H Q E) F Pq := fun H w Q k =>
  ⟨d, s, A, B, most, rfl, (w.dc d rfl).2, ex_t (ex_to_rm w.ex (w.dc d rfl).1) h, h1, h2, hm, RetND.use w (fun p u n ⟨cs, hc, hl, e⟩ => by subst e; exact q p cs n hc hl) k⟩
theorem pm_tape (D : DefAt K mg "_law_tape" s_q_tape) (B : Bl mg) (g_q_off : Pm P w K mg base CX0 1 "_law_off" ["_law_d", "_law_most"] sp_off) : Pm P w K mg base CX0 2 "_law_tape" ["_law_d", "_law_sets_here", "_law_most"] (sp_tape K) := by
  obtain ⟨f, fd, F, hm⟩ := D
  refine ⟨f, fd, ?_, hm, F.kp, F.binds fun _ _ _ _ _ _ us hl => match us, hl with | [_, _, _], _ => rfl⟩
  refine F.ok sc_q_tape (fun vs H Q E h => ?_) (fun cdv A outer s H vs Q E hr h => ?_)
  · obtain ⟨_, _, _, _, _, rfl, _⟩ := h
    rfl
  · obtain ⟨d, s, A', B', most, rfl, hd, hS, n1, n10, hm, k⟩ := h
    refine ⟨_, (pss_cons (ps_set (i := 3) sc_q_tape.nd rfl (Or.inl rfl) (pe_op op_addP pe_int (pe_pm g_q_off (hr.mono (by decide)) pass0 (pa_cons (pv 0) (pa_cons pe_int pa_nil)))))
 (pss_cons (ps_set (i := 4) sc_q_tape.nd rfl (Or.inl rfl) (pe_lst pa_nil))
 (pss_cons (ps_for PassesOwn.never rfl (pi_range1 (by rfl) B.range (pa_cons (pe_pm g_q_off (hr.mono (by decide)) pass0 (pa_cons (pv 0) (pa_cons (pe_op op_addP (pv 2) pe_int) pa_nil))) pa_nil)) (pg_name (i := 5) sc_q_tape.nd rfl (Or.inl rfl))
 (pss_cons (ps_set (i := 6) sc_q_tape.nd rfl (Or.inl rfl) (pe_pm g_q_off (hr.mono (by decide)) pass0 (pa_cons (pv 0) (pa_cons (pe_callB (lenK K rfl) (by rfl) B.len PySem.boot_len (pa_cons (pe_ix (ixK K rfl) (pv 1) pe_int (fun _ _ => rfl)) pa_nil)) pa_nil))))
 (Evl.pss_cut (ps_if (pt_cmpR (eqK K rfl hr.units) (pe_pm g_q_off (hr.mono (by decide)) pass0 (pa_cons (pv 0) (pa_cons (pv 3) pa_nil))) pe_int (nomark _))
 (pss_cons (ps_set (i := 6) sc_q_tape.nd rfl (Or.inl rfl) (pe_op op_addP (pe_callB (lenK K rfl) (by rfl) B.len PySem.boot_len (pa_cons (pe_ix (ixK K rfl) (pv 1) pe_int (fun _ _ => rfl)) pa_nil)) (pe_pm g_q_off (hr.mono (by decide)) pass0 (pa_cons (pv 0) (pa_cons pe_int pa_nil)))))
 pss_nil)
 pss_nil)
 (pss_cons (ps_expr (bmK K rfl PySem.F.plainAttrs_list PySem.F.slot_list_append PySem.F.type_list_append mt_append (pv 4) (pa_cons (pv 6) pa_nil)))
 pss_nil))))
 (pss_cons (ps_ret (pv 4))
 pss_nil)))), ?_⟩
    refine go_stD (σ := [some (.ref d), some (.ref s), some (.int (most : Int)), none, none, none, none]) hd rfl ?_
    wtm_at "r"
    refine wp_off (by omega) (by omega) fun r0 hr0 => ?_
    wtm_at "r"
    refine ⟨Nat.zero_le _, fun q hq => ?_⟩
    wtm_at "r"
    refine go_forR (fun i σ F => ∃ (cs : List Int) (x y : Option V), σ = [some (.ref d), some (.ref s), some (.int (most : Int)), some (.int (2 + (r0 : Int))), some (.ref q), x, y] ∧ Ex (rm H d) F ∧ F q = some (.lst (il cs)) ∧ CodesOk A'.length cs ∧ cs.length ≤ i) ?_
    wtm_at "r"
    refine wp_off (by omega) (by omega) fun n hn => ?_
    wtm_at "r"
    refine ⟨n, rfl, by omega, ⟨[], none, none, rfl, ex_new hq, upd_same, (fun c h => by cases h), Nat.le_refl _⟩, ?_, ?_⟩
    · rintro i σ F hi ⟨cs, x, y, rfl, e, hf, hc, hl⟩
      have hS2 := ex_t e hS
      wtm_at "r"
      refine wp_off (by omega) (by omega) fun c hc1 => ?_
      wtm_at "r"
      refine go_cut (fun σ F => ∃ c2 : Int, (0 ≤ c2 ∧ c2 < (A'.length : Int) + 2) ∧ σ = [some (.ref d), some (.ref s), some (.int (most : Int)), some (.int (2 + (r0 : Int))), some (.ref q), some (.int (i : Int)), some (.int c2)] ∧ Ex (rm H d) F ∧ F q = some (.lst (il cs))) ?_ ?_
      · wtm_at "r"
        refine wp_off (by omega) (by omega) fun r1 _ => ?_
        wtm_at "r"
        refine ⟨fun _ => ?_, fun _ => ?_⟩
        · wtm_at "r"
          refine wp_off (by omega) (by omega) fun r2 h2 => ?_
          wtm_at "r"
          exact go_turn rfl ⟨(A'.length : Int) + (r2 : Int), ⟨by omega, by omega⟩, rfl, e, hf⟩
        · exact go_turn rfl ⟨(c : Int), ⟨by omega, by omega⟩, rfl, e, hf⟩
      · rintro σ F ⟨c2, hc2, rfl, e, hf⟩
        wtm_at "r"
        refine wp_bmL ?_
        wtm_at "r"
        refine ⟨q, _, rfl, SqL.of hf, ?_⟩
        wtm_at "r"
        refine wp_append hf (by rw [List.length_map]; omega) ?_
        wtm_at "r"
        refine go_turn rfl ⟨cs ++ [c2], _, _, rfl, ex_mut e hq, ?_, hc.app fun z hz => ?_, by rw [List.length_append, List.length_singleton]; omega⟩
        · rw [upd_same, il_take]
        · rw [List.mem_singleton.mp hz]; exact hc2
    · rintro σ F ⟨cs, x, y, rfl, e, hf, hc, hl⟩
      wtm_at "r"
      exact RetND.out k e hq hf ⟨cs, hc, by omega, rfl⟩
end
section
variable {P : Program} {w : World} {K : PySem.W.Frag} {mg : Str → Option Value} {base : Heap}
theorem cutV_take (xs : List V) (n : Nat) : cutV xs none (some (n : Int)) = xs.take n := by
  unfold cutV
  rw [HT.sIx_nat, HT.sIx_none, List.drop_zero, Nat.sub_zero]
  by_cases h : n ≤ xs.length
  · rw [Nat.min_eq_left h]
  · rw [Nat.min_eq_right (by omega), List.take_length, List.take_of_length_le (by omega)]
theorem cutV_drop (xs : List V) (n : Nat) : cutV xs (some (n : Int)) none = xs.drop n := by
  unfold cutV
  rw [HT.sIx_nat, HT.sIx_none]
  by_cases h : n ≤ xs.length
  · rw [Nat.min_eq_left h, List.take_of_length_le (by rw [List.length_drop]; omega)]
  · rw [Nat.min_eq_right (by omega), List.drop_of_length_le (by omega), List.drop_of_length_le (by omega)]
    simp
theorem cutN_take (xs : List Nat) (n : Nat) : cutN xs none (some (n : Int)) = xs.take n := by
  unfold cutN
  rw [HT.sIx_nat, HT.sIx_none, List.drop_zero, Nat.sub_zero]
  by_cases h : n ≤ xs.length
  · rw [Nat.min_eq_left h]
  · rw [Nat.min_eq_right (by omega), List.take_length, List.take_of_length_le (by omega)]
theorem cutN_drop (xs : List Nat) (n : Nat) : cutN xs (some (n : Int)) none = xs.drop n := by
  unfold cutN
  rw [HT.sIx_nat, HT.sIx_none]
  by_cases h : n ≤ xs.length
  · rw [Nat.min_eq_left h, List.take_of_length_le (by rw [List.length_drop]; omega)]
  · rw [Nat.min_eq_right (by omega), List.drop_of_length_le (by omega), List.drop_of_length_le (by omega)]
    simp
theorem nd_sub_len : ∀ {l m : List Nat}, l.Nodup → (∀ x ∈ l, x ∈ m) → l.length ≤ m.length
  | [], _, _, _ => Nat.zero_le _
  | a :: r, m, h, hs => by
    obtain ⟨h1, h2⟩ := List.nodup_cons.mp h
    have hm : a ∈ m := hs a List.mem_cons_self
    have ih : r.length ≤ (m.erase a).length := nd_sub_len h2 fun x hx => by
      have ne : x ≠ a := fun e => h1 (e ▸ hx)
      exact (List.mem_erase_of_ne ne).mpr (hs x (List.mem_cons_of_mem _ hx))
    rw [List.length_erase_of_mem hm] at ih
    have : 0 < m.length := List.length_pos_of_mem hm
    simp only [List.length_cons]
    omega
theorem ex_out {l m : List Nat} (h : l.Nodup) (hl : m.length < l.length) : l.filter (fun x => !decide (x ∈ m)) ≠ [] := fun e => by
  have : l.length ≤ m.length := nd_sub_len h fun x hx => by
    by_cases hm : x ∈ m
    · exact hm
    · have : x ∈ l.filter (fun x => !decide (x ∈ m)) := List.mem_filter.mpr ⟨hx, by simp [hm]⟩
      rw [e] at this
      cases this
  omega
/-- 22 signs, each once -/
def Pool (l : List Nat) : Prop := l.length = 22 ∧ l.Nodup ∧ ∀ c ∈ l, c < 128
theorem snoc_nd {l : List Nat} {c : Nat} (h : l.Nodup) (n : c ∉ l) : (l ++ [c]).Nodup := L2.nd_snoc h n
def Asc (l : List Nat) : Prop := ∀ c ∈ l, c < 128
def every : List Nat := [32, 33, 35, 36, 38, 39, 40, 41, 42, 43, 44, 45, 46, 47, 48, 49, 50, 51, 52, 53, 54, 55, 56, 57, 58, 59, 60, 61, 62, 63, 64, 65, 66, 67, 68, 69, 70, 71, 72, 73, 74, 75, 76, 77, 78, 79, 80, 81, 82, 83, 84, 85, 86, 87, 88, 89, 90, 91, 93, 94, 95, 96, 97, 98, 99, 100, 101, 102, 103, 104, 105, 106, 107, 108, 109, 110, 111, 112, 113, 114, 115, 116, 117, 118, 119, 120, 121, 122, 123, 124, 125, 126]
def setsOf (u : HO) : Prop := ∃ A B : List Nat, Good A B ∧ Asc A ∧ Asc B ∧ u = .tup [.str (tx A), .str (tx B)]
abbrev s_q_sets : Stmt := topS 22
abbrev n_q_sets : List Str := ["_law_d", "_law_many", "_law_signs", "_law_every", "_law_turn", "_law_one", "_law_often", "_law_other", "_law_left", "_law_k", "_law_some", "_law_sign"]
theorem sc_q_sets : FnScope n_q_sets ["_law_d"] (defScope s_q_sets) := ⟨rfl, rfl, rfl, by decide +kernel, rfl, by decide +kernel, by decide +kernel⟩

def sp_sets (K : PySem.W.Frag) : Sp := fun vs H Q _ => ∃ (d : Addr), vs = [.ref d] ∧ Dc H d ∧ RetND d setsOf H Q
theorem wp_sets {d : Addr} {F : Hp} {Pq : V → Hp → Prop} {E : XK} (q : ∀ (p : Addr) (A B : List Nat), F p = none → Good A B → Asc A → Asc B → Pq (.ref p) (upd F p (.tup [.str (tx A), .str (tx B)]))) :
    Wp (some d) (fun H Q => sp_sets K ([.ref d] ++ []) H Q E) F Pq := fun H w Q k =>
  ⟨d, rfl, (w.dc d rfl).2, RetND.use w (fun p u n ⟨A, B, hg, ha, hb, e⟩ => by subst e; exact q p A B n hg ha hb) k⟩
theorem pm_sets (D : DefAt K mg "_law_sets" s_q_sets) (B : Bl mg) (g_q_off : Pm P w K mg base CX0 1 "_law_off" ["_law_d", "_law_most"] sp_off) (g_q_mixed : Pm P w K mg base CX0 2 "_law_mixed" ["_law_d", "_law_row"] (sp_mixed K)) :
    Pm P w K mg base CX0 3 "_law_sets" ["_law_d"] (sp_sets K) := by
  obtain ⟨f, fd, F, hm⟩ := D
  refine ⟨f, fd, ?_, hm, F.kp, F.binds fun _ _ _ _ _ _ us hl => match us, hl with | [_], _ => rfl⟩
  refine F.ok sc_q_sets (fun vs H Q E h => ?_) (fun cdv A outer s H vs Q E hr h => ?_)
  · obtain ⟨_, rfl, _⟩ := h
    rfl
  · obtain ⟨d, rfl, hd, k⟩ := h
    refine ⟨_, (pss_cons (ps_set (i := 1) sc_q_sets.nd rfl (Or.inl rfl) (pe_ix (ixK K rfl) (pe_lst (pa_cons pe_int (pa_cons pe_int (pa_cons pe_int (pa_cons (pe_op op_addP pe_int (pe_pm g_q_off (hr.mono (by decide)) pass0 (pa_cons (pv 0) (pa_cons pe_int pa_nil)))) pa_nil))))) (pe_pm g_q_off (hr.mono (by decide)) pass0 (pa_cons (pv 0) (pa_cons pe_int pa_nil))) (fun _ _ => rfl)))
 (pss_cons (ps_set (i := 2) sc_q_sets.nd rfl (Or.inl rfl) (pe_strT (l := [97, 98, 99, 100, 101, 102, 103, 104, 105, 106, 32, 48, 49, 50, 51, 52, 53, 54, 46, 44, 45, 120]) (by decide +kernel)))
 (Evl.pss_cut (ps_if (pt_cmpR (eqK K rfl hr.units) (pe_pm g_q_off (hr.mono (by decide)) pass0 (pa_cons (pv 0) (pa_cons pe_int pa_nil))) pe_int (nomark _))
 (pss_cons (ps_set (i := 3) sc_q_sets.nd rfl (Or.inl rfl) (pe_strT (l := [32, 33, 35, 36, 38, 39, 40, 41, 42, 43, 44, 45, 46, 47, 48, 49, 50, 51, 52, 53, 54, 55, 56, 57, 58, 59, 60, 61, 62, 63, 64, 65, 66, 67, 68, 69, 70, 71, 72, 73, 74, 75, 76, 77, 78, 79, 80, 81, 82, 83, 84, 85, 86, 87, 88, 89, 90, 91, 93, 94, 95, 96, 97, 98, 99, 100, 101, 102, 103, 104, 105, 106, 107, 108, 109, 110, 111, 112, 113, 114, 115, 116, 117, 118, 119, 120, 121, 122, 123, 124, 125, 126]) (by decide +kernel)))
 (pss_cons (ps_set (i := 2) sc_q_sets.nd rfl (Or.inl rfl) (peJoin K rfl (pe_strT (l := []) (by decide +kernel)) (pe_slice (slK K rfl) (pe_pm g_q_mixed (hr.mono (by decide)) pass0 (pa_cons (pv 0) (pa_cons (pe_callTy (listK K rfl rfl) (by rfl) B.list (by decide +kernel) (pa_cons (pv 3) pa_nil)) pa_nil))) po_none (po_some pe_int))))
 pss_nil))
 pss_nil)
 (pss_cons (ps_set (i := 4) sc_q_sets.nd rfl (Or.inl rfl) (pe_pm g_q_off (hr.mono (by decide)) pass0 (pa_cons (pv 0) (pa_cons pe_int pa_nil))))
 (pss_cons (ps_set (i := 2) sc_q_sets.nd rfl (Or.inl rfl) (pe_op op_addP (pe_slice (slK K rfl) (pv 2) (po_some (pv 4)) po_none) (pe_slice (slK K rfl) (pv 2) po_none (po_some (pv 4)))))
 (pss_cons (ps_set (i := 5) sc_q_sets.nd rfl (Or.inl rfl) (peJoin K rfl (pe_strT (l := []) (by decide +kernel)) (pe_slice (slK K rfl) (pe_pm g_q_mixed (hr.mono (by decide)) pass0 (pa_cons (pv 0) (pa_cons (pe_callTy (listK K rfl rfl) (by rfl) B.list (by decide +kernel) (pa_cons (pe_slice (slK K rfl) (pv 2) po_none (po_some (pe_op op_addP (pv 1) (pe_pm g_q_off (hr.mono (by decide)) pass0 (pa_cons (pv 0) (pa_cons pe_int pa_nil)))))) pa_nil)) pa_nil))) po_none (po_some (pv 1)))))
 (pss_cons (ps_set (i := 6) sc_q_sets.nd rfl (Or.inl rfl) (pe_op op_addP pe_int (pe_pm g_q_off (hr.mono (by decide)) pass0 (pa_cons (pv 0) (pa_cons pe_int pa_nil)))))
 (pss_cons (ps_set (i := 7) sc_q_sets.nd rfl (Or.inr rfl) (pe_strT (l := []) (by decide +kernel)))
 (pss_cons (ps_set (i := 8) sc_q_sets.nd rfl (Or.inl rfl) (pe_pm g_q_mixed (hr.mono (by decide)) pass0 (pa_cons (pv 0) (pa_cons (pe_callTy (listK K rfl rfl) (by rfl) B.list (by decide +kernel) (pa_cons (pv 2) pa_nil)) pa_nil))))
 (pss_cons (ps_for PassesOwn.never rfl (pi_range1 (by rfl) B.range (pa_cons (pv 1) pa_nil)) (pg_name (i := 9) sc_q_sets.nd rfl (Or.inl rfl))
 (Evl.pss_cut (ps_if (PW.pt (pw_and (pt_cmpR (eqK K rfl hr.units) (pe_pm g_q_off (hr.mono (by decide)) pass0 (pa_cons (pv 0) (pa_cons (pv 6) pa_nil))) pe_int (nomark _)) (pw_and1 (pt_cmpR (niK K rfl) (pe_ix (ixK K rfl) (pv 5) (pv 9) (fun _ _ => rfl)) (pv 7) (by rfl)))))
 (pss_cons (ps_set (i := 7) sc_q_sets.nd rfl (Or.inr rfl) (pe_op op_addP (pv 7) (pe_ix (ixK K rfl) (pv 5) (pv 9) (fun _ _ => rfl))))
 pss_nil)
 (pss_cons (ps_setLc (i := 10) (own := [("_law_sign", 11)]) (g := gName 11) rfl sc_q_sets.nd rfl rfl (sw_true rfl rfl rfl (by decide +kernel)) (piL K rfl (pv 8)) (blkOk_by (N := n_q_sets) (sc := defScope s_q_sets) (by decide +kernel)) (fun _ _ _ _ _ => pg_name (i := 11) sc_q_sets.nd rfl (Or.inl rfl)) (fun _ _ _ _ _ => (pts_one (pt_cmpR (niK K rfl) (pv 11) (pv 7) (by rfl)))) (fun _ _ _ _ _ => (pv 11)))
 (pss_cons (ps_set (i := 7) sc_q_sets.nd rfl (Or.inr rfl) (pe_op op_addP (pv 7) (pe_ix (ixK K rfl) (pv 10) pe_int (fun _ _ => rfl))))
 pss_nil)))
 pss_nil))
 (pss_cons (ps_ret (pe_tup (pa_cons (pv 5) (pa_cons (pv 7) pa_nil))))
 pss_nil))))))))))), ?_⟩
    refine go_stD (σ := [some (.ref d), none, none, none, none, none, none, none, none, none, none, none]) hd rfl ?_
    wtm_at "r"
    refine wp_off (by omega) (by omega) fun r0 hr0 => ?_
    wtm_at "r"
    refine ⟨(by show 4 ≤ 100000; decide), fun p0 hp0 => ?_⟩
    wtm_at "r"
    refine wp_off (by omega) (by omega) fun r1 hr1 => ?_
    obtain ⟨many, hmany, hm1, hm10⟩ : ∃ many : Nat, atI [V.int 3, V.int 4, V.int 6, V.int (1 + (r0 : Int))] (r1 : Int) = some (.int (many : Int)) ∧ 1 ≤ many ∧ many ≤ 10 := by
      match r1, hr1 with
      | 0, _ => exact ⟨3, atI_nat (j := 0) rfl, by decide, by decide⟩
      | 1, _ => exact ⟨4, atI_nat (j := 1) rfl, by decide, by decide⟩
      | 2, _ => exact ⟨6, atI_nat (j := 2) rfl, by decide, by decide⟩
      | 3, _ => exact ⟨1 + r0, by rw [atI_nat (j := 3) rfl]; simp, by omega, by omega⟩
      | n + 4, h => omega
    wtm_at "r"
    refine wp_ixL (SqL.of upd_same) hmany ?_
    wtm_at "r"
    have e0 : Ex (rm H d) (upd (rm H d) p0 (.lst [V.int 3, V.int 4, V.int 6, V.int (1 + (r0 : Int))])) := ex_new hp0
    refine go_cut (fun σ F => ∃ (sl : List Nat) (ev : Option V), σ = [some (.ref d), some (.int (many : Int)), some (.str (tx sl)), ev, none, none, none, none, none, none, none, none] ∧ Ex (rm H d) F ∧ Pool sl) ?_ ?_
    · wtm_at "r"
      refine wp_off (by omega) (by omega) fun r2 _ => ?_
      wtm_at "r"
      refine ⟨fun _ => ?_, fun _ => ?_⟩
      · wtm_at "r"
        refine wp_m1 ?_
        wtm_at "r"
        refine ⟨⟨_, rfl⟩, ?_⟩
        wtm_at "r"
        refine wp_listS (by decide) fun p1 hp1 => ?_
        wtm_at "r"
        refine wp_mixed (l := every) (SqL.of upd_same) (by decide) (by decide) fun p2 l1 hp2 pe => ?_
        wtm_at "r"
        refine wp_slL (SqL.of upd_same) fun p3 hp3 => ?_
        rw [show (22 : Int) = ((22 : Nat) : Int) from rfl, cutV_take, ← List.map_take]
        wtm_at "r"
        refine wp_joinSg (SqL.of upd_same) (by rw [List.length_take]; omega) ?_
        wtm_at "r"
        refine go_turn rfl ⟨l1.take 22, _, rfl, ((e0.trans (ex_new hp1)).trans (ex_new hp2)).trans (ex_new hp3), ?_, ?_, ?_⟩
        · rw [List.length_take, pe.length_eq]; rfl
        · exact (pe.nodup_iff.mpr (by decide : every.Nodup)).sublist (List.take_sublist _ _)
        · intro c hc
          exact (by decide : ∀ c ∈ every, c < 128) c (pe.mem_iff.mp (List.mem_of_mem_take hc))
      · exact go_turn rfl ⟨[97, 98, 99, 100, 101, 102, 103, 104, 105, 106, 32, 48, 49, 50, 51, 52, 53, 54, 46, 44, 45, 120], none, rfl, e0, rfl, by decide, by decide⟩
    · rintro σ F ⟨sl, ev, rfl, e, hl, hn, ha⟩
      wtm_at "r"
      refine wp_off (by omega) (by omega) fun tn htn => ?_
      wtm_at "r"
      rw [cutN_drop, cutN_take]
      refine wp_addS (by wtm_at "sz") ?_
      wtm_at "r"
      obtain ⟨sg2, hsg2⟩ : ∃ s2, s2 = sl.drop tn ++ sl.take tn := ⟨_, rfl⟩
      rw [← hsg2]
      have pr : sg2.Perm sl := by
        rw [hsg2]
        exact List.perm_append_comm.trans (by rw [List.take_append_drop])
      have hl2 : sg2.length = 22 := pr.length_eq.trans hl
      have hn2 : sg2.Nodup := pr.nodup_iff.mpr hn
      have ha2 : ∀ c ∈ sg2, c < 128 := fun c hc => ha c (pr.mem_iff.mp hc)
      refine wp_m1 ?_
      wtm_at "r"
      refine ⟨⟨_, rfl⟩, ?_⟩
      wtm_at "r"
      refine wp_off (by omega) (by omega) fun r3 h3 => ?_
      wtm_at "r"
      rw [show ((many : Int) + (r3 : Int)) = ((many + r3 : Nat) : Int) by omega, cutN_take]
      refine wp_listS (by rw [List.length_take]; omega) fun p1 hp1 => ?_
      wtm_at "r"
      refine wp_mixed (l := sg2.take (many + r3)) (SqL.of upd_same) (by rw [List.length_take]; omega) (fun c hc => ha2 c (List.mem_of_mem_take hc)) fun p2 l1 hp2 pe => ?_
      wtm_at "r"
      refine wp_slL (SqL.of upd_same) fun p3 hp3 => ?_
      rw [cutV_take, ← List.map_take]
      wtm_at "r"
      have hl1 : l1.length = many + r3 := by rw [pe.length_eq, List.length_take]; omega
      refine wp_joinSg (SqL.of upd_same) (by rw [List.length_take]; omega) ?_
      wtm_at "r"
      obtain ⟨one, hone⟩ : ∃ x, x = l1.take many := ⟨_, rfl⟩
      rw [← hone]
      have hlo : one.length = many := by rw [hone, List.length_take]; omega
      have hno : one.Nodup := by
        rw [hone]
        exact (pe.nodup_iff.mpr (hn2.sublist (List.take_sublist _ _))).sublist (List.take_sublist _ _)
      have hao : ∀ c ∈ one, c < 128 := fun c hc => by
        rw [hone] at hc
        exact ha2 c (List.mem_of_mem_take (pe.mem_iff.mp (List.mem_of_mem_take hc)))
      have e3 := ((e.trans (ex_new (u := .lst ((sg2.take (many + r3)).map sg)) hp1)).trans (ex_new (u := .lst (l1.map sg)) hp2)).trans (ex_new (u := .lst (one.map sg)) hp3)
      refine wp_off (by omega) (by omega) fun r4 h4 => ?_
      wtm_at "r"
      refine wp_listS (by omega) fun p4 hp4 => ?_
      wtm_at "r"
      refine wp_mixed (l := sg2) (SqL.of upd_same) (by omega) ha2 fun p5 left hp5 pl => ?_
      wtm_at "r"
      have hll : left.length = 22 := pl.length_eq.trans hl2
      have hnl : left.Nodup := pl.nodup_iff.mpr hn2
      have hal : ∀ c ∈ left, c < 128 := fun c hc => ha2 c (pl.mem_iff.mp hc)
      refine go_forR (fun i σ F => ∃ (ot : List Nat) (kk so : Option V) (tu ofn : V) (ev2 : Option V), σ = [some (.ref d), some (.int (many : Int)), some (.str (tx sg2)), ev2, some tu, some (.str (tx one)), some (.int (1 + (r4 : Int))), some (.str (tx ot)), some (.ref p5), kk, so, none] ∧
        Ex (rm H d) F ∧ F p5 = some (.lst (left.map sg)) ∧ ot.length = i ∧ ot.Nodup ∧ ∀ c ∈ ot, c < 128) ?_
      wtm_at "r"
      refine ⟨many, rfl, by omega, ⟨[], none, none, _, .non, _, rfl, (e3.trans (ex_new hp4)).trans (ex_new hp5), upd_same, rfl, List.nodup_nil, (fun c h => by cases h)⟩, ?_, ?_⟩
      · rintro i σ F hi ⟨ot, kk, so, tu, ofn, ev2, rfl, e4, h5, ho, hno2, hao2⟩
        have hi1 : i < one.length := by omega
        wtm_at "r"
        refine go_cut (fun σ F => ∃ (c : Nat) (so1 : Option V), c ∉ ot ∧ c < 128 ∧ σ = [some (.ref d), some (.int (many : Int)), some (.str (tx sg2)), ev2, some tu, some (.str (tx one)), some (.int (1 + (r4 : Int))), some (.str (tx (ot ++ [c]))), some (.ref p5), some (.int (i : Int)), so1, none] ∧
          Ex (rm H d) F ∧ F p5 = some (.lst (left.map sg))) ?_ ?_
        · refine go_ifB ?_
          refine wp_andS (fun F1 => F1 = F) ?_ ?_
          · wtm_at "r"
            refine wp_off (by omega) (by omega) fun r5 _ => ?_
            wtm_at "r"
            refine ⟨rfl, fun _ => ?_⟩
            wtm_at "r"
            refine wp_ixS (by omega) (atI_nat (List.getElem?_eq_getElem hi1)) ?_
            wtm_at "r"
            refine ⟨rfl, fun hin => ?_⟩
            have hin : one[i] ∉ ot := by simpa using hin
            wtm_at "r"
            refine wp_ixS (by omega) (atI_nat (List.getElem?_eq_getElem hi1)) ?_
            refine wp_addS (j := [one[i]]) (by wtm_at "sz") ?_
            wtm_at "r"
            exact go_turn rfl ⟨one[i], so, hin, hao _ (List.getElem_mem hi1), rfl, e4, h5⟩
          · rintro F1 rfl
            refine go_set ?_
            refine wp_lcL (fun _ => rfl) ?_
            wtm_at "r"
            refine ⟨p5, _, rfl, SqL.of h5, fun Dl hD => ?_⟩
            have npd := (ne_of_none h5 hD)
            refine ⟨fun j acc F2 => ∃ ms : List Nat, acc = ms.map sg ∧ ms = (left.take j).filter (fun x => !decide (x ∈ ot)) ∧ Ex (rm H d) F2 ∧ F2 p5 = some (.lst (left.map sg)), ⟨[], rfl, rfl, e4.trans (ex_new hD), at_ne h5 hD⟩, fun j acc F2 ⟨_, _, _, _, h6⟩ => SqL.of h6, ?_, ?_⟩
            · rintro j y acc F2 hy q2 ⟨ms, rfl, hms, e5, h6⟩
              rw [List.getElem?_map] at hy
              obtain ⟨c, hc, rfl⟩ : ∃ c, left[j]? = some c ∧ y = sg c := by
                cases hq : left[j]? with
                | none => rw [hq] at hy; cases hy
                | some c => rw [hq] at hy; exact ⟨c, rfl, (Option.some.inj hy).symm⟩
              have hmsl : ms.length ≤ 22 := by
                rw [hms]
                refine Nat.le_trans (List.length_filter_le _ _) ?_
                rw [List.length_take]
                omega
              have stp := take_more hc
              show Wp _ _ _ _
              wtm_at "r"
              refine ⟨fun hin => ?_, fun hin => ⟨q2, ms, rfl, ?_, e5, h6⟩⟩
              · wtm_at "r"
                have hDH : rm H d Dl = none := e4.free hD
                refine ⟨q2, by rw [List.length_map]; omega, ms ++ [c], by rw [List.map_append]; rfl, ?_, ex_mut e5 hDH, ?_⟩
                · rw [stp, List.filter_append, ← hms, List.filter_cons, if_pos hin]
                  rfl
                · rw [upd_ne npd]
                  exact h6
              · rw [stp, List.filter_append, ← hms, List.filter_cons, if_neg (by rw [hin]; decide), List.filter_nil, List.append_nil]
            · rintro acc F2 q2 ⟨ms, rfl, hms, e5, h6⟩
              rw [List.length_map, List.take_length] at hms
              have hne := ex_out (l := left) (m := ot) hnl (by omega)
              rw [← hms] at hne
              obtain ⟨c, r, hcr⟩ : ∃ c r, ms = c :: r := by
                cases ms with
                | nil => exact absurd rfl hne
                | cons c r => exact ⟨c, r, rfl⟩
              have hcm : c ∈ left ∧ c ∉ ot := by
                have hx : c ∈ ms := by rw [hcr]; exact List.mem_cons_self
                rw [hms] at hx
                obtain ⟨h1, h2⟩ := List.mem_filter.mp hx
                exact ⟨h1, by simpa using h2⟩
              subst hcr
              wtm_at "r"
              refine wp_ixL (SqL.of q2) (atI_nat (j := 0) rfl) ?_
              refine wp_addS (j := [c]) (by wtm_at "sz") ?_
              wtm_at "r"
              exact go_turn rfl ⟨c, _, hcm.2, hal c hcm.1, rfl, e5, h6⟩
        · rintro σ F ⟨c, so1, hc1, hc2, rfl, e5, h6⟩
          refine go_turn rfl ⟨ot ++ [c], _, so1, tu, ofn, ev2, rfl, e5, h6, by rw [List.length_append, List.length_singleton, ho], snoc_nd hno2 hc1, fun x hx => ?_⟩
          rcases List.mem_append.mp hx with h | h
          · exact hao2 x h
          · rw [List.mem_singleton.mp h]; exact hc2
      · rintro σ F ⟨ot, kk, so, tu, ofn, ev2, rfl, e4, h5, ho, hno2, hao2⟩
        wtm_at "r"
        refine ⟨(by show 2 ≤ 100000; decide), fun p hp => ?_⟩
        exact RetND.out k (e4.trans (ex_new hp)) (e4.free hp) upd_same ⟨one, ot, ⟨by omega, by omega, by omega, hno, hno2⟩, hao, hao2, rfl⟩
end
section
variable {P : Program} {w : World} {K : PySem.W.Frag} {mg : Str → Option Value} {base : Heap}
def flatD : PyData → Bool
  | .none => true
  | .bool _ => true
  | .int _ => true
  | .str _ => true
  | _ => false
/-- flat, or n deep -/
def DpN : Nat → PyData → Prop
  | 0, d => flatD d = true
  | n + 1, d => flatD d = true ∨ ∃ ds, (d = .list ds ∨ d = .tuple ds) ∧ ds.length ≤ 1000 ∧ ∀ e ∈ ds, DpN n e
theorem dpa_len {H : Hp} : ∀ {xs : List V} {ds : List PyData}, DpAll K H xs ds → xs.length = ds.length
  | _, _, .nil => rfl
  | _, _, .cons _ b => congrArg (· + 1) (dpa_len b)
theorem dpa_at {H : Hp} : ∀ {xs : List V} {ds : List PyData} {i : Nat} {d : PyData}, DpAll K H xs ds → ds[i]? = some d → ∃ x, xs[i]? = some x ∧ Dp K H x d
  | _, _, _, _, .nil, h => by simp at h
  | _, _, 0, _, .cons a _, h => by
    rw [List.getElem?_cons_zero] at h
    cases h
    exact ⟨_, rfl, a⟩
  | _, _, i + 1, _, .cons _ b, h => by
    obtain ⟨x, h1, h2⟩ := dpa_at (i := i) b (by simpa using h)
    exact ⟨x, by simpa using h1, h2⟩
abbrev s_q_alike : Stmt := topS 19
abbrev n_q_alike : List Str := ["_law_found", "_law_due", "_law_k"]
theorem sc_q_alike : FnScope n_q_alike ["_law_found", "_law_due"] (defScope s_q_alike) := ⟨rfl, rfl, rfl, by decide +kernel, rfl, by decide +kernel, by decide +kernel⟩

def spA (K : PySem.W.Frag) : Nat → Sp
  | 0 => fun _ _ _ _ => False
  | n + 1 => fun vs H Q _ => ∃ (x y : V) (d : PyData), vs = [x, y] ∧ Dp K H x d ∧ Dp K H y d ∧ DpN n d ∧ RetV (.bl true) H Q
theorem wp_alike {o : Option Addr} {F : Hp} {Pq : V → Hp → Prop} {x y : V} {d : PyData} {n : Nat} {E : XK} (hx : Dp K F x d) (hy : Dp K F y d) (hd : DpN n d) (q : Pq (.bl true) F) : Wp o (fun H Q => spA K (n + 1) ([x, y] ++ []) H Q E) F Pq :=
  fun H w Q k => ⟨x, y, d, rfl, Dp.up w.ex hx, Dp.up w.ex hy, hd, RetV.use w q k⟩
theorem pm_alike (D : DefAt K mg "_law_alike" s_q_alike) (B : Bl mg) : ∀ n, Pm P w K mg base CX0 n "_law_alike" ["_law_found", "_law_due"] (spA K n) := by
  obtain ⟨f, fd, F, hm⟩ := D
  have hb : Binds K fd ["_law_found", "_law_due"] [] := F.binds fun _ _ _ _ _ _ us hl => match us, hl with | [_, _], _ => rfl
  intro n
  induction n with
  | zero => exact ⟨f, fd, ⟨fun vs H Q E h => h.elim, fun A outer s H args us vs Q E _ _ _ _ h => h.elim⟩, hm, F.kp, hb⟩
  | succ n ih =>
    have g_q_alike := ih
    refine ⟨f, fd, ?_, hm, F.kp, hb⟩
    refine F.ok sc_q_alike (fun vs H Q E h => ?_) (fun cdv A outer s H vs Q E hr h => ?_)
    · obtain ⟨_, _, _, rfl, _⟩ := h
      rfl
    · obtain ⟨x, y, d, rfl, hx, hy, hd, k⟩ := h
      refine ⟨_, (pss_cons (ps_if (pt_cmpR op_isNs (pv 1) pe_non (nomark _))
 (pss_cons (ps_ret (pe_cmpR op_isNs (pv 0) pe_non (nomark _)))
 pss_nil)
 pss_nil)
 (pss_cons (ps_if (pt_val (pe_callB (isiK K rfl) (by rfl) B.isinstance (by decide +kernel) (pa_cons (pv 1) (pa_cons (pe_bltn (v := .ty "bool") (by rfl) B.bool_ (by decide +kernel) rfl) pa_nil))))
 (pss_cons (ps_ret (pe_and (pe_callB (isiK K rfl) (by rfl) B.isinstance (by decide +kernel) (pa_cons (pv 0) (pa_cons (pe_bltn (v := .ty "bool") (by rfl) B.bool_ (by decide +kernel) rfl) pa_nil))) (pe_one (pe_cmpR (eqK K rfl hr.units) (pv 0) (pv 1) (nomark _)))))
 pss_nil)
 pss_nil)
 (pss_cons (ps_if (pt_val (pe_callB (isiK K rfl) (by rfl) B.isinstance (by decide +kernel) (pa_cons (pv 1) (pa_cons (pe_bltn (v := .ty "int") (by rfl) B.int_ (by decide +kernel) rfl) pa_nil))))
 (pss_cons (ps_ret (pe_and (pe_callB (isiK K rfl) (by rfl) B.isinstance (by decide +kernel) (pa_cons (pv 0) (pa_cons (pe_bltn (v := .ty "int") (by rfl) B.int_ (by decide +kernel) rfl) pa_nil))) (pe_and (pe_not (pe_callB (isiK K rfl) (by rfl) B.isinstance (by decide +kernel) (pa_cons (pv 0) (pa_cons (pe_bltn (v := .ty "bool") (by rfl) B.bool_ (by decide +kernel) rfl) pa_nil)))) (pe_one (pe_cmpR (eqK K rfl hr.units) (pv 0) (pv 1) (nomark _))))))
 pss_nil)
 pss_nil)
 (pss_cons (ps_if (pt_val (pe_callB (isiK K rfl) (by rfl) B.isinstance (by decide +kernel) (pa_cons (pv 1) (pa_cons (pe_bltn (v := .ty "str") (by rfl) B.str_ (by decide +kernel) rfl) pa_nil))))
 (pss_cons (ps_ret (pe_and (pe_callB (isiK K rfl) (by rfl) B.isinstance (by decide +kernel) (pa_cons (pv 0) (pa_cons (pe_bltn (v := .ty "str") (by rfl) B.str_ (by decide +kernel) rfl) pa_nil))) (pe_one (pe_cmpR (eqK K rfl hr.units) (pv 0) (pv 1) (nomark _)))))
 pss_nil)
 pss_nil)
 (pss_cons (ps_if (PW.pt (pw_or (pt_cmpR (neK K rfl hr.units) (pe_callB (isiK K rfl) (by rfl) B.isinstance (by decide +kernel) (pa_cons (pv 1) (pa_cons (pe_bltn (v := .ty "tuple") (by rfl) B.tuple (by decide +kernel) rfl) pa_nil))) (pe_callB (isiK K rfl) (by rfl) B.isinstance (by decide +kernel) (pa_cons (pv 0) (pa_cons (pe_bltn (v := .ty "tuple") (by rfl) B.tuple (by decide +kernel) rfl) pa_nil))) (nomark _)) (pw_or1 (pt_cmpR (neK K rfl hr.units) (pe_callB (isiK K rfl) (by rfl) B.isinstance (by decide +kernel) (pa_cons (pv 1) (pa_cons (pe_bltn (v := .ty "list") (by rfl) B.list (by decide +kernel) rfl) pa_nil))) (pe_callB (isiK K rfl) (by rfl) B.isinstance (by decide +kernel) (pa_cons (pv 0) (pa_cons (pe_bltn (v := .ty "list") (by rfl) B.list (by decide +kernel) rfl) pa_nil))) (nomark _)))))
 (pss_cons (ps_ret pe_bl)
 pss_nil)
 pss_nil)
 (pss_cons (ps_if (pt_cmpR (neK K rfl hr.units) (pe_callB (lenK K rfl) (by rfl) B.len PySem.boot_len (pa_cons (pv 0) pa_nil)) (pe_callB (lenK K rfl) (by rfl) B.len PySem.boot_len (pa_cons (pv 1) pa_nil)) (nomark _))
 (pss_cons (ps_ret pe_bl)
 pss_nil)
 pss_nil)
 (pss_cons (ps_ret (pe_callB (allK K rfl rfl) (by rfl) B.all (by decide +kernel) (pa_cons (pe_lc (own := [("_law_k", 2)]) (g := gName 2) (tt := tYes) rfl sc_q_alike.nd (pi_range1 (by rfl) B.range (pa_cons (pe_callB (lenK K rfl) (by rfl) B.len PySem.boot_len (pa_cons (pv 1) pa_nil)) pa_nil)) (blkOk_by (N := n_q_alike) (sc := defScope s_q_alike) (by decide +kernel)) (fun _ _ _ _ _ => pg_name (i := 2) sc_q_alike.nd rfl (Or.inl rfl)) (fun _ _ _ _ _ => pts_nil) (fun _ _ _ _ _ => (pe_pm g_q_alike hr pass0 (pa_cons (pe_ix (ixK K rfl) (pv 0) (pv 2) (fun _ _ => rfl)) (pa_cons (pe_ix (ixK K rfl) (pv 1) (pv 2) (fun _ _ => rfl)) pa_nil))))) pa_nil)))
 pss_nil))))))), ?_⟩
      refine go_st (σ := [some (x), some (y), none]) rfl ?_
      have kinds : (∃ b, x = .bl b ∧ y = .bl b) ∨ (∃ i, x = .int i ∧ y = .int i) ∨ (∃ z, x = .str z ∧ y = .str z) ∨ (x = .non ∧ y = .non) ∨
          ∃ (T : String) (a b : Addr) (xs ys : List V) (ds : List PyData) (m : Nat), x = .ref a ∧ y = .ref b ∧ (T = "list" ∨ T = "tuple") ∧ TyP K H (.ref a) T ∧ TyP K H (.ref b) T ∧ (SqL K H a xs ∨ SqT K H a xs) ∧ (SqL K H b ys ∨ SqT K H b ys) ∧
            DpAll K H xs ds ∧ DpAll K H ys ds ∧ ds.length ≤ 1000 ∧ n = m + 1 ∧ ∀ e ∈ ds, DpN m e := by
        have nof : ∀ ds, (d = .list ds ∨ d = .tuple ds) → flatD d = false := fun ds h => by rcases h with h | h <;> subst h <;> rfl
        cases hx with
        | non => cases hy; exact .inr (.inr (.inr (.inl ⟨rfl, rfl⟩)))
        | bl b => cases hy; exact .inl ⟨b, rfl, rfl⟩
        | int i => cases hy; exact .inr (.inl ⟨i, rfl, rfl⟩)
        | str z => cases hy; exact .inr (.inr (.inl ⟨z, rfl, rfl⟩))
        | lst h1 h2 =>
          cases hy with
          | lst h3 h4 =>
            cases n with
            | zero => cases (show flatD _ = true from hd)
            | succ m =>
              rcases hd with hf | ⟨ds, hds, hl, hi⟩
              · cases hf
              · rcases hds with e | e
                · cases e
                  exact .inr (.inr (.inr (.inr ⟨"list", _, _, _, _, _, m, rfl, rfl, .inl rfl, .lst h1, .lst h3, .inl h1, .inl h3, h2, h4, hl, rfl, hi⟩)))
                · cases e
        | tup h1 h2 =>
          cases hy with
          | tup h3 h4 =>
            cases n with
            | zero => cases (show flatD _ = true from hd)
            | succ m =>
              rcases hd with hf | ⟨ds, hds, hl, hi⟩
              · cases hf
              · rcases hds with e | e
                · cases e
                · cases e
                  exact .inr (.inr (.inr (.inr ⟨"tuple", _, _, _, _, _, m, rfl, rfl, .inr rfl, .tup h1, .tup h3, .inr h1, .inr h3, h2, h4, hl, rfl, hi⟩)))
      wtm_at "r"
      rcases kinds with ⟨b, rfl, rfl⟩ | ⟨i, rfl, rfl⟩ | ⟨z, rfl, rfl⟩ | ⟨rfl, rfl⟩ | ⟨T, a, b, xs, ys, ds, m, rfl, rfl, hT, ta, tb, sa, sb, da, db, dl, rfl, di⟩
      · refine bF (by simp) ?_
        wtm_at "r"
        refine wp_isi (.bl b) (b := true) (by decide +kernel) ?_
        wtm_at "r"
        refine bT rfl ?_
        wtm_at "r"
        refine wp_isi (.bl b) (b := true) (by decide +kernel) ?_
        wtm_at "r"
        refine bT rfl ?_
        wtm_at "r"
        refine wp_eq0 rfl ?_
        rw [decide_eq_true rfl]
        exact k.out (exr H)
      · refine bF (by simp) ?_
        wtm_at "r"
        refine wp_isi (.int i) (b := false) (by decide +kernel) ?_
        wtm_at "r"
        refine bF rfl ?_
        wtm_at "r"
        refine wp_isi (.int i) (b := true) (by decide +kernel) ?_
        wtm_at "r"
        refine bT rfl ?_
        wtm_at "r"
        refine wp_isi (.int i) (b := true) (by decide +kernel) ?_
        wtm_at "r"
        refine bT rfl ?_
        wtm_at "r"
        refine wp_isi (.int i) (b := false) (by decide +kernel) ?_
        wtm_at "r"
        refine bT rfl ?_
        wtm_at "r"
        rw [decide_eq_true rfl]
        exact k.out (exr H)
      · refine bF (by simp) ?_
        wtm_at "r"
        refine wp_isi (.str z) (b := false) (by decide +kernel) ?_
        wtm_at "r"
        refine bF rfl ?_
        wtm_at "r"
        refine wp_isi (.str z) (b := false) (by decide +kernel) ?_
        wtm_at "r"
        refine bF rfl ?_
        wtm_at "r"
        refine wp_isi (.str z) (b := true) (by decide +kernel) ?_
        wtm_at "r"
        refine bT rfl ?_
        wtm_at "r"
        refine wp_isi (.str z) (b := true) (by decide +kernel) ?_
        wtm_at "r"
        refine bT rfl ?_
        wtm_at "r"
        refine wp_eq0 rfl ?_
        rw [decide_eq_true rfl]
        exact k.out (exr H)
      · refine bT (by simp) ?_
        wtm_at "r"
        rw [decide_eq_true rfl]
        exact k.out (exr H)
      · refine bF (by simp) ?_
        obtain ⟨bt, ht⟩ : ∃ bt, kitB T "tuple" = some bt := by
          rcases hT with rfl | rfl
          · exact ⟨false, by decide +kernel⟩
          · exact ⟨true, by decide +kernel⟩
        obtain ⟨bl, hl⟩ : ∃ bl, kitB T "list" = some bl := by
          rcases hT with rfl | rfl
          · exact ⟨true, by decide +kernel⟩
          · exact ⟨false, by decide +kernel⟩
        have la := dpa_len da
        have lb := dpa_len db
        wtm_at "r"
        refine wp_isi tb (b := false) (by rcases hT with rfl | rfl <;> decide +kernel) ?_
        wtm_at "r"
        refine bF rfl ?_
        wtm_at "r"
        refine wp_isi tb (b := false) (by rcases hT with rfl | rfl <;> decide +kernel) ?_
        wtm_at "r"
        refine bF rfl ?_
        wtm_at "r"
        refine wp_isi tb (b := false) (by rcases hT with rfl | rfl <;> decide +kernel) ?_
        wtm_at "r"
        refine bF rfl ?_
        wtm_at "r"
        refine wp_isi tb ht ?_
        wtm_at "r"
        refine wp_isi ta ht ?_
        wtm_at "r"
        refine wp_ne0 rfl ?_
        wtm_at "r"
        refine bF (by simp) ?_
        wtm_at "r"
        refine wp_isi tb hl ?_
        wtm_at "r"
        refine wp_isi ta hl ?_
        wtm_at "r"
        refine wp_ne0 rfl ?_
        wtm_at "r"
        refine bF (by simp) ?_
        wtm_at "r"
        refine wp_lenX sa ?_
        wtm_at "r"
        refine wp_lenX sb ?_
        wtm_at "r"
        refine bF (by rw [la, lb]; simp) ?_
        wtm_at "r"
        refine wp_lcR (fun _ => rfl) ?_
        wtm_at "r"
        refine wp_lenX sb ?_
        wtm_at "r"
        refine ⟨ys.length, rfl, by omega, fun Dl hD => ?_⟩
        refine ⟨fun i acc F => acc = (List.replicate i true).map V.bl ∧ Ex H F, ⟨rfl, ex_new hD⟩, ?_, ?_⟩
        · rintro i acc F hi q2 ⟨rfl, e⟩
          have hi2 : i < ds.length := by omega
          have hdi : ds[i]? = some ds[i] := List.getElem?_eq_getElem hi2
          obtain ⟨xa, hxa, dxa⟩ := dpa_at da hdi
          obtain ⟨xb, hxb, dxb⟩ := dpa_at db hdi
          show Wp _ _ _ _
          wtm_at "r"
          refine ⟨fun _ => ?_, fun z => (by cases z)⟩
          wtm_at "r"
          refine wp_ixX (sa.imp (ex_l e) (ex_t e)) (atI_nat hxa) ?_
          wtm_at "r"
          refine wp_ixX (sb.imp (ex_l e) (ex_t e)) (atI_nat hxb) ?_
          wtm_at "r"
          refine wp_alike (Dp.up e dxa) (Dp.up e dxb) (di _ (List.getElem_mem hi2)) ?_
          refine ⟨q2, by rw [List.length_map, List.length_replicate]; omega, ?_, ex_mut e hD⟩
          rw [List.replicate_succ', List.map_append]
          rfl
        · rintro acc F q2 ⟨rfl, e⟩
          wtm_at "r"
          refine wp_all (bs := List.replicate ys.length true) (SqL.of q2) ?_
          have ea : (List.replicate ys.length true).all id = true := by
            rw [List.all_eq_true]
            intro z hz
            exact (List.mem_replicate.mp hz).2
          rw [ea]
          exact k.out e
end
/-! ### reading by pieces -/
theorem fold_gst (A B : List Nat) : ∀ (cs : List Int) (pre : List Nat) (st : Int), cs.foldl (gst A B) (pre, st) = (pre ++ (gon A B cs st).1, (gon A B cs st).2)
  | [], pre, st => by simp [gon]
  | c :: r, pre, st => by
    unfold gon
    rw [List.foldl_cons, List.foldl_cons]
    by_cases h : c < (A.length : Int)
    · have e : ∀ q : List Nat, gst A B (q, st) c = (q ++ [sgn A B st c], st) := fun q => by unfold gst; rw [if_pos h]
      rw [e, e, fold_gst A B r, fold_gst A B r]
      simp
    · have e : ∀ q : List Nat, gst A B (q, st) c = (q, c - (A.length : Int)) := fun q => by unfold gst; rw [if_neg h]
      rw [e, e, fold_gst A B r, fold_gst A B r]
      simp
theorem gon_app (A B : List Nat) (x y : List Int) (st : Int) : gon A B (x ++ y) st = ((gon A B x st).1 ++ (gon A B y (gon A B x st).2).1, (gon A B y (gon A B x st).2).2) := by
  have h := fold_gst A B y (gon A B x st).1 (gon A B x st).2
  rw [← h]
  unfold gon
  rw [List.foldl_append]
theorem gon_nil (A B : List Nat) (st : Int) : gon A B [] st = ([], st) := rfl
theorem gon_sign {A B : List Nat} {c : Int} (h : c < (A.length : Int)) (r : List Int) (st : Int) : gon A B (c :: r) st = (sgn A B st c :: (gon A B r st).1, (gon A B r st).2) := by
  have e := gon_app A B [c] r st
  have e1 : gon A B [c] st = ([sgn A B st c], st) := by
    show gst A B ([], st) c = _
    unfold gst
    rw [if_pos h]
    rfl
  rw [e1] at e
  exact e
theorem gon_shift {A B : List Nat} {c : Int} (h : ¬ c < (A.length : Int)) (r : List Int) (st : Int) : gon A B (c :: r) st = gon A B r (c - (A.length : Int)) := by
  have e := gon_app A B [c] r st
  have e1 : gon A B [c] st = ([], c - (A.length : Int)) := by
    show gst A B ([], st) c = _
    unfold gst
    rw [if_neg h]
  rw [e1] at e
  simpa using e
theorem wp_slTake {K : PySem.W.Frag} {o : Option Addr} {F : Hp} {Pq : V → Hp → Prop} {p : Addr} {cs : List Int} {n : Nat} {z : Int} (h : SqL K F p (il cs)) (hz : z = (n : Int)) (q : ∀ p, F p = none → Pq (.ref p) (upd F p (.lst (il (cs.take n))))) : Wp o (rSlP K (.ref p) none (some z)) F Pq :=
  wp_slL h fun p hp => by rw [hz, cutV_take, ← List.map_take]; exact q p hp
theorem wp_slDrop {K : PySem.W.Frag} {o : Option Addr} {F : Hp} {Pq : V → Hp → Prop} {p : Addr} {cs : List Int} {n : Nat} {z : Int} (h : SqL K F p (il cs)) (hz : z = (n : Int)) (q : ∀ p, F p = none → Pq (.ref p) (upd F p (.lst (il (cs.drop n))))) : Wp o (rSlP K (.ref p) (some z) none) F Pq :=
  wp_slL h fun p hp => by rw [hz, cutV_drop, ← List.map_drop]; exact q p hp
/-! ### exceptions of own classes: their making; what a raising def leaves -/
section
variable {P : Program} {w : World} {K : PySem.W.Frag} {mg : Str → Option Value} {base : Heap}
abbrev s_BadSets_init : Stmt := inClass (topS 2) 0
abbrev n_BadSets_init : List Str := ["self", "why"]
theorem sc_BadSets_init : FnScope n_BadSets_init ["self", "why"] (defScope s_BadSets_init) := ⟨rfl, rfl, rfl, by decide +kernel, rfl, by decide +kernel, by decide +kernel⟩

theorem rz_BadSets {C fI CT : Addr} {fd : FuncData} (F : Fun K "__init__" "BadSets.__init__" s_BadSets_init fI fd) (z_TapeError : TeC K mg "TapeError" CT) (O : OexC K C) (hm : mg "BadSets" = some (.ref C)) (iC : PySem.W.findIn K (.ref C) "__init__" = some (some (.ref fI)))
    (tI : PySem.W.typeIn K (.ref fI) = some (.type "function")) (no : PySem.W.findIn K (.ref C) "why" = some none) : Rz P w K mg base "BadSets" C "why" := by
  refine ⟨O, hm, fI, fd, iC, tI, ?_, F.binds fun _ _ _ _ _ _ us hl => match us, hl with | [_, _], _ => rfl⟩
  refine F.ok sc_BadSets_init (fun vs H Q E h => ?_) (fun cdv A outer s H vs Q E hr h => ?_)
  · obtain ⟨_, _, rfl, _⟩ := h
    rfl
  · obtain ⟨a, v, rfl, ha, k⟩ := h
    exact ⟨_, (pss_cons (ps_expr (pe_teinitK K rfl z_TapeError (pa_cons (pv 0) (pa_cons (pv 1) pa_nil))))
 (pss_cons (ps_ostK K rfl (pv 0) (pv 1))
 pss_nil)), .ref a, rfl, v, rfl, a, C, [v], rfl, by show 1 ≤ 1000; decide, O, ha, v, rfl, .ref a, rfl, a, C, rfl, O, no, .inl ⟨ha, fun dx n ne => k dx n ne⟩⟩
abbrev s_BadTape_init : Stmt := inClass (topS 3) 0
abbrev n_BadTape_init : List Str := ["self", "at"]
theorem sc_BadTape_init : FnScope n_BadTape_init ["self", "at"] (defScope s_BadTape_init) := ⟨rfl, rfl, rfl, by decide +kernel, rfl, by decide +kernel, by decide +kernel⟩

theorem rz_BadTape {C fI CT : Addr} {fd : FuncData} (F : Fun K "__init__" "BadTape.__init__" s_BadTape_init fI fd) (z_TapeError : TeC K mg "TapeError" CT) (O : OexC K C) (hm : mg "BadTape" = some (.ref C)) (iC : PySem.W.findIn K (.ref C) "__init__" = some (some (.ref fI)))
    (tI : PySem.W.typeIn K (.ref fI) = some (.type "function")) (no : PySem.W.findIn K (.ref C) "at" = some none) : Rz P w K mg base "BadTape" C "at" := by
  refine ⟨O, hm, fI, fd, iC, tI, ?_, F.binds fun _ _ _ _ _ _ us hl => match us, hl with | [_, _], _ => rfl⟩
  refine F.ok sc_BadTape_init (fun vs H Q E h => ?_) (fun cdv A outer s H vs Q E hr h => ?_)
  · obtain ⟨_, _, rfl, _⟩ := h
    rfl
  · obtain ⟨a, v, rfl, ha, k⟩ := h
    exact ⟨_, (pss_cons (ps_expr (pe_teinitK K rfl z_TapeError (pa_cons (pv 0) (pa_cons (pv 1) pa_nil))))
 (pss_cons (ps_ostK K rfl (pv 0) (pv 1))
 pss_nil)), .ref a, rfl, v, rfl, a, C, [v], rfl, by show 1 ≤ 1000; decide, O, ha, v, rfl, .ref a, rfl, a, C, rfl, O, no, .inl ⟨ha, fun dx n ne => k dx n ne⟩⟩
abbrev s_BadText_init : Stmt := inClass (topS 6) 0
abbrev n_BadText_init : List Str := ["self", "place"]
theorem sc_BadText_init : FnScope n_BadText_init ["self", "place"] (defScope s_BadText_init) := ⟨rfl, rfl, rfl, by decide +kernel, rfl, by decide +kernel, by decide +kernel⟩

theorem rz_BadText {C fI CT : Addr} {fd : FuncData} (F : Fun K "__init__" "BadText.__init__" s_BadText_init fI fd) (z_TapeError : TeC K mg "TapeError" CT) (O : OexC K C) (hm : mg "BadText" = some (.ref C)) (iC : PySem.W.findIn K (.ref C) "__init__" = some (some (.ref fI)))
    (tI : PySem.W.typeIn K (.ref fI) = some (.type "function")) (no : PySem.W.findIn K (.ref C) "place" = some none) : Rz P w K mg base "BadText" C "place" := by
  refine ⟨O, hm, fI, fd, iC, tI, ?_, F.binds fun _ _ _ _ _ _ us hl => match us, hl with | [_, _], _ => rfl⟩
  refine F.ok sc_BadText_init (fun vs H Q E h => ?_) (fun cdv A outer s H vs Q E hr h => ?_)
  · obtain ⟨_, _, rfl, _⟩ := h
    rfl
  · obtain ⟨a, v, rfl, ha, k⟩ := h
    exact ⟨_, (pss_cons (ps_expr (pe_teinitK K rfl z_TapeError (pa_cons (pv 0) (pa_cons (pv 1) pa_nil))))
 (pss_cons (ps_ostK K rfl (pv 0) (pv 1))
 pss_nil)), .ref a, rfl, v, rfl, a, C, [v], rfl, by show 1 ≤ 1000; decide, O, ha, v, rfl, .ref a, rfl, a, C, rfl, O, no, .inl ⟨ha, fun dx n ne => k dx n ne⟩⟩
end
/-- an exception of C with f = v in its own dict -/
def RetE (C : Addr) (f : Str) (v : V) (H : Hp) (E : XK) : Prop := ∀ d H2, H d = none → Ex H H2 → H2 d = some (.xd [(f, v)]) → E (.ref C) (some d) H2
section
variable {o : Option Addr} {F F1 H : Hp} {C : Addr} {f : Str} {v : V} {E : XK}
theorem RetE.out (k : RetE C f v H E) (e : Ex H F1) : ∀ H1, Wd o F1 H1 → ∀ d H2, H1 d = none → Ex H1 H2 → H2 d = some (.xd [(f, v)]) → E (.ref C) (some d) H2 := fun H1 w d H2 n e2 hx => k d H2 ((e.trans w.ex).free n) ((e.trans w.ex).trans e2) hx
theorem RetE.use (w : Wd o F H) (k : ∀ d H2, Wd o F H2 → H2 d = some (.xd [(f, v)]) → F d = none → (∀ b, o = some b → b ≠ d) → E (.ref C) (some d) H2) : RetE C f v H E := fun d H2 n e hx => k d H2 (w.up e) hx (w.fr n) (w.ned n)
end
/-! the first code that is none -/
def BadC (n i : Nat) (c : Int) : Prop := 200 ≤ i ∨ c < 0 ∨ (n : Int) + 2 ≤ c
def FirstB (n : Nat) (cs : List Int) : Option Nat → Prop
  | none => ∀ i c, cs[i]? = some c → ¬ BadC n i c
  | some i => (∃ c, cs[i]? = some c ∧ BadC n i c) ∧ ∀ j c, j < i → cs[j]? = some c → ¬ BadC n j c
theorem first_ex (n : Nat) (cs : List Int) : ∃ x, FirstB n cs x := by
  by_cases h : ∀ i c, cs[i]? = some c → ¬ BadC n i c
  · exact ⟨none, h⟩
  · have h : ∃ i, ∃ c, cs[i]? = some c ∧ BadC n i c := by
      refine Classical.byContradiction fun z => h fun i c hc hb => z ⟨i, c, hc, hb⟩
    have key : ∀ m i, i ≤ m → (∃ c, cs[i]? = some c ∧ BadC n i c) → ∃ x, FirstB n cs x := by
      intro m
      induction m with
      | zero =>
        intro i hi hb
        have : i = 0 := by omega
        subst this
        exact ⟨some 0, hb, fun j c hj => absurd hj (Nat.not_lt_zero _)⟩
      | succ m ih =>
        intro i hi hb
        by_cases h2 : ∃ j, j < i ∧ ∃ c, cs[j]? = some c ∧ BadC n j c
        · obtain ⟨j, hj, hb2⟩ := h2
          exact ih j (by omega) hb2
        · exact ⟨some i, hb, fun j c hj hc hb3 => h2 ⟨j, hj, c, hc, hb3⟩⟩
    obtain ⟨i, hb⟩ := h
    exact key i i (Nat.le_refl _) hb
theorem first_uq {n : Nat} {cs : List Int} {x : Option Nat} {i : Nat} {c : Int} (h : FirstB n cs x) (hc : cs[i]? = some c) (hb : BadC n i c) (hp : ∀ j d, j < i → cs[j]? = some d → ¬ BadC n j d) : x = some i := by
  cases x with
  | none => exact absurd hb (h i c hc)
  | some j =>
    obtain ⟨⟨d, hd, hb2⟩, h2⟩ := h
    by_cases h3 : j < i
    · exact absurd hb2 (hp j d h3 hd)
    · by_cases h4 : i < j
      · exact absurd hb (h2 i c h4 hc)
      · rw [show j = i by omega]
section
variable {P : Program} {w : World} {K : PySem.W.Frag} {mg : Str → Option Value} {base : Heap}
def sp_need_tapeX (K : PySem.W.Frag) (CA : Addr) : Sp := fun vs H Q E => ∃ (s t : Addr) (A B : List Nat) (cs : List Int) (x : Option Nat), vs = [.ref s, .ref t] ∧ SetsAt K H s A B ∧ SqL K H t (il cs) ∧ A.length ≤ 100 ∧ cs.length ≤ 1000 ∧ FirstB A.length cs x ∧
  (match x with | none => RetV .non H Q | some i => RetE CA "at" (.int (i : Nat)) H E)
theorem wp_need_tapeX {o : Option Addr} {F : Hp} {Pq : V → Hp → Prop} {CA s t : Addr} {A B : List Nat} {cs : List Int} {x : Option Nat} {E : XK} (hS : SetsAt K F s A B) (hT : SqL K F t (il cs)) (hA : A.length ≤ 100) (hl : cs.length ≤ 1000) (hx : FirstB A.length cs x)
    (q1 : x = none → Pq .non F) (q2 : ∀ i, x = some i → ∀ d H2, Wd o F H2 → H2 d = some (.xd [("at", .int (i : Nat))]) → F d = none → (∀ b, o = some b → b ≠ d) → E (.ref CA) (some d) H2) : Wp o (fun H Q => sp_need_tapeX K CA ([.ref s, .ref t] ++ []) H Q E) F Pq := fun H w Q k =>
  ⟨s, t, A, B, cs, x, rfl, w.t hS, w.l hT, hA, hl, hx, by
    cases x with
    | none => exact RetV.use w (q1 rfl) k
    | some i => exact RetE.use w (q2 i rfl)⟩
theorem pm_need_tapeX {CA : Addr} (D : DefAt K mg "need_tape" s_need_tape) (B : Bl mg) (c_MOST_CODES : ∃ t, mg "MOST_CODES" = some (.int 200 t)) (z_BadTape : Rz P w K mg base "BadTape" CA "at") : Pm P w K mg base (L2N.CX P w) 3 "need_tape" ["sets", "tape"] (sp_need_tapeX K CA) := by
  obtain ⟨f, fd, F, hm⟩ := D
  refine ⟨f, fd, ?_, hm, F.kp, F.binds fun _ _ _ _ _ _ us hl => match us, hl with | [_, _], _ => rfl⟩
  refine okXN F sc_need_tape (fun vs H Q E h => ?_) (fun cdv A outer s H vs Q E hr h => ?_)
  · obtain ⟨_, _, _, _, _, _, rfl, _⟩ := h
    rfl
  · obtain ⟨s, t, A', B', cs, x, rfl, hS, hT, hA, hl, hx, k⟩ := h
    refine ⟨_, (pss_cons (ps_for (passes_of rfl) rfl (piE K rfl B.enumerate (pa_cons (pv 1) pa_nil)) (pgT K rfl (n := 2) rfl (pgs_cons (pg_name (i := 2) sc_need_tape.nd rfl (Or.inl rfl)) (pgs_cons (pg_name (i := 3) sc_need_tape.nd rfl (Or.inl rfl)) pgs_nil)))
 (pss_cons (ps_if (PW.pt (pw_or (pt_cmpR op_ge (pv 2) (pe_cst c_MOST_CODES) (nomark _)) (pw_or1 (pt_not (pt_chain op_le op_lt pe_int (pv 3) (pe_op op_addP (pe_callB (lenK K rfl) (by rfl) B.len PySem.boot_len (pa_cons (pe_ix (ixK K rfl) (pv 0) pe_int (fun _ _ => rfl)) pa_nil)) pe_int))))))
 (pss_cons (ps_rz z_BadTape rfl (hr.mono (by decide)) (L2N.takes_of rfl rfl rfl rfl) (pa_cons (pv 2) pa_nil))
 pss_nil)
 pss_nil)
 pss_nil))
 pss_nil), ?_⟩
    refine go_st (σ := [some (.ref s), some (.ref t), none, none]) rfl ?_
    refine go_forE (fun i σ F => ∃ x y, σ = [some (.ref s), some (.ref t), x, y] ∧ Ex H F ∧ ∀ j c, j < i → cs[j]? = some c → ¬ BadC A'.length j c) ?_
    wtm_at "r"
    refine ⟨t, il cs, rfl, hT, ⟨none, none, rfl, exr H, fun j c hj => absurd hj (Nat.not_lt_zero _)⟩, fun i σ F hi ⟨_, _, _, e, _⟩ => ex_l e hT, ?_, ?_⟩
    · rintro i y σ F p hy hp ⟨x0, y0, rfl, e, hg⟩
      obtain ⟨c, hcy, rfl, hmem⟩ := il_at hy
      have hi : i < cs.length := (List.getElem?_eq_some_iff.mp hcy).1
      have ep : Ex H (upd F p (.tup [.int (i : Nat), .int c])) := e.trans (ex_new hp)
      have hS2 := ex_t ep hS
      have boom : BadC A'.length i c → ∀ H1, Wd none (upd F p (.tup [.int (i : Nat), .int c])) H1 → ∀ d H2, H1 d = none → Ex H1 H2 → H2 d = some (.xd [("at", .int (i : Nat))]) → E (.ref CA) (some d) H2 := fun hb => by
        have ex := first_uq hx hcy hb hg
        subst ex
        exact RetE.out k ep
      wtm_at "r"
      refine ⟨fun h1 => ?_, fun h1 => ?_⟩
      · have h1 := of_decide_eq_true h1
        refine bT rfl ?_
        refine go_rz ?_
        wtm_at "r"
        exact ⟨_, rfl, boom (.inl (by omega))⟩
      · have h1 := of_decide_eq_false h1
        wtm_at "r"
        refine ⟨fun h2 => ?_, fun h2 => ?_⟩
        · have h2 := of_decide_eq_true h2
          wtm_at "r"
          refine ⟨fun h3 => ?_, fun h3 => ?_⟩
          · have h3 : ¬ c < (A'.length : Int) + 2 := by simpa using h3
            refine go_rz ?_
            wtm_at "r"
            exact ⟨_, rfl, boom (.inr (.inr (by omega)))⟩
          · have h3 : c < (A'.length : Int) + 2 := by simpa using h3
            wtm_at "r"
            refine go_turn rfl ⟨_, _, rfl, ep, fun j c2 hj hc2 hb => ?_⟩
            by_cases hji : j < i
            · exact hg j c2 hji hc2 hb
            · have : j = i := by omega
              subst this
              rw [hcy] at hc2
              cases hc2
              rcases hb with hb | hb | hb <;> omega
        · have h2 := of_decide_eq_false h2
          wtm_at "r"
          refine bT rfl ?_
          refine go_rz ?_
          wtm_at "r"
          exact ⟨_, rfl, boom (.inr (.inl (by omega)))⟩
    · rintro σ F ⟨_, _, rfl, e, hg⟩
      have ex : x = none := by
        cases x with
        | none => rfl
        | some i =>
          obtain ⟨⟨c, hc, hb⟩, _⟩ := hx
          exact absurd hb (hg i c (by rw [List.length_map]; exact (List.getElem?_eq_some_iff.mp hc).1) hc)
      subst ex
      exact RetV.out k e
end
/-! ### tapes as texts -/
section
open TL
def wd (n : Nat) : List Nat := if n < 10 then [48 + n] else [48 + n / 10, 48 + n % 10]
def txtOf (cs : List Int) : List Nat := TL.joinL [32] (cs.map fun c => wd c.toNat)
theorem wd_len (n : Nat) : 1 ≤ (wd n).length ∧ (wd n).length ≤ 2 := by
  unfold wd
  by_cases h : n < 10
  · rw [if_pos h]
    simp
  · rw [if_neg h]
    simp
theorem str_wd : ∀ n, n < 100 → Str.ofString (toString ((n : Nat) : Int)) = tx (wd n) := by decide +kernel
theorem int_wd : ∀ n, n < 100 → PySem.intText? (tx (wd n)) = some ((n : Nat) : Int) := by decide +kernel
theorem wd_fig : ∀ n, n < 100 → ∀ c ∈ wd n, 48 ≤ c ∧ c ≤ 57 := by decide +kernel
theorem wd_zero : ∀ n, n < 100 → (wd n)[0]? = some 48 → wd n = [48] := by decide +kernel
theorem joinW_len (S : List Nat) : ∀ (ws : List (List Nat)), (∀ w ∈ ws, w.length ≤ 2) → (TL.joinL S ws).length ≤ ws.length * (2 + S.length)
  | [], _ => Nat.zero_le _
  | [p], h => by
    have := h p List.mem_cons_self
    show p.length ≤ 1 * (2 + S.length)
    omega
  | p :: q :: r, h => by
    have h1 := h p List.mem_cons_self
    have ih := joinW_len S (q :: r) fun w hw => h w (List.mem_cons_of_mem _ hw)
    show (p ++ (S ++ TL.joinL S (q :: r))).length ≤ (r.length + 1 + 1) * (2 + S.length)
    rw [List.length_append, List.length_append]
    have e : (r.length + 1 + 1) * (2 + S.length) = (r.length + 1) * (2 + S.length) + (2 + S.length) := Nat.succ_mul _ _
    have e2 : (q :: r).length = r.length + 1 := rfl
    rw [e2] at ih
    omega
theorem tl_tx (l : List Nat) : tl (tx l) = l := by
  show (tx l).cps.toList = l
  simp [tx]
theorem join_tx (ws : List (List Nat)) : Txt.join (tx [32]) (ws.map tx) = tx (TL.joinL [32] ws) := by
  refine ext_tl ?_
  rw [join_eq, tl_join, tl_tx, tl_tx, List.map_map]
  congr 1
  rw [show (tl ∘ tx) = id from funext fun l => tl_tx l, List.map_id]
theorem split_tx {ws : List (List Nat)} (hne : ws ≠ []) (h : ∀ w ∈ ws, 32 ∉ w) : Txt.split (tx (TL.joinL [32] ws)) (tx [32]) = ws.map tx := by
  rw [← join_tx]
  refine split_join (s := 32) (S := []) (tl_tx [32]) (by decide +kernel) (by simpa using hne) fun p hp => ?_
  obtain ⟨w, hw, rfl⟩ := List.mem_map.mp hp
  rw [tl_tx]
  exact h w hw
theorem joinW_nil (S : List Nat) : ∀ {ws : List (List Nat)}, (∀ w ∈ ws, w ≠ []) → TL.joinL S ws = [] → ws = []
  | [], _, _ => rfl
  | [p], h, e => absurd e (h p List.mem_cons_self)
  | p :: q :: r, h, e => by
    have e : p ++ (S ++ TL.joinL S (q :: r)) = [] := e
    exact absurd (List.append_eq_nil_iff.mp e).1 (h p List.mem_cons_self)
theorem sum_le2 : ∀ ws : List (List Nat), (∀ w ∈ ws, w.length ≤ 2) → ((ws.map tx).map (·.length)).sum ≤ 2 * ws.length
  | [], _ => Nat.le_refl _
  | w :: r, h => by
    have ih := sum_le2 r fun x hx => h x (List.mem_cons_of_mem _ hx)
    have h1 := h w List.mem_cons_self
    rw [List.map_cons, List.map_cons, List.sum_cons, List.length_cons]
    have e : (tx w).length = w.length := tx_len w
    omega
section
variable {K : PySem.W.Frag} {o : Option Addr} {F : Hp} {Pq : V → Hp → Prop}
theorem wp_strI {i : Int} {n : Nat} (h : i = (n : Int)) (hn : n < 100) (q : Pq (.str (tx (wd n))) F) : Wp o (fun H Q => ∃ j, [V.int i] = [V.int j] ∧ j.natAbs.log2 < 1920 ∧ Q (.str (toString j)) H) F Pq := fun H w Q k => by
  subst h
  refine ⟨_, rfl, ?_, ?_⟩
  · exact (by decide +kernel : ∀ n, n < 100 → ((n : Nat) : Int).natAbs.log2 < 1920) n hn
  · have e : ((toString ((n : Nat) : Int) : String) : Str) = tx (wd n) := str_wd n hn
    rw [e]
    exact k _ H F w q
theorem wp_joinW {p : Addr} {ws : List (List Nat)} (h : SqL K F p (ws.map fun w => V.str (tx w))) (hl : ws.length ≤ 1000) (h2 : ∀ w ∈ ws, w.length ≤ 2) (q : Pq (.str (tx (TL.joinL [32] ws))) F) : Wp o (rJoin K (.str (tx [32])) [.ref p]) F Pq := fun H w Q k =>
  ⟨tx [32], p, ws.map tx, rfl, rfl, .inl (by rw [List.map_map]; exact w.l h), by
    have := sum_le2 ws h2
    rw [List.length_map, tx_len]
    simp only [List.length_cons, List.length_nil]
    omega, by rw [join_tx]; exact k _ H F w q⟩
theorem wp_intS {w : List Nat} {n : Int} (h : PySem.intText? (tx w) = some n) (hl : w.length ≤ 600) (q : Pq (.int n) F) : Wp o (rIntP [.str (tx w)]) F Pq := fun H wd Q k => .inr ⟨tx w, n, rfl, h, by rw [tx_len]; omega, k _ H F wd q⟩
theorem wp_splitW {T : List Nat} {ws : List (List Nat)} (h : Txt.split (tx T) (tx [32]) = ws.map tx) (hl : T.length ≤ 100000) (q : ∀ p, F p = none → Pq (.ref p) (upd F p (.lst (ws.map fun w => V.str (tx w))))) :
    Wp o (fun H Q => ∃ a b, V.str (tx T) = .str a ∧ [V.str (tx [32])] = [.str b] ∧ (b.length == 0) = false ∧ a.length + 2 ≤ sizeLine ∧ rNewStrs (Txt.split a b) H Q) F Pq := fun H w Q k =>
  ⟨tx T, tx [32], rfl, rfl, by rw [tx_len]; rfl, by
    have := (by decide : 100002 ≤ sizeLine)
    rw [tx_len]; omega, fun p hp => by
    rw [h, List.map_map]
    exact k _ _ _ (w.new1 hp) (q p (w.fr hp))⟩
end
section
variable {P : Program} {w : World} {K : PySem.W.Frag} {mg : Str → Option Value} {base : Heap}
abbrev s_written : Stmt := topS 14
abbrev n_written : List Str := ["sets", "tape", "code"]
theorem sc_written : FnScope n_written ["sets", "tape"] (defScope s_written) := ⟨rfl, rfl, rfl, by decide +kernel, rfl, by decide +kernel, by decide +kernel⟩

def sp_written (K : PySem.W.Frag) : Sp := fun vs H Q _ => ∃ (s t : Addr) (A B : List Nat) (cs : List Int), vs = [.ref s, .ref t] ∧ SetsAt K H s A B ∧ SqL K H t (il cs) ∧ Good A B ∧ CodesOk A.length cs ∧ cs.length ≤ 200 ∧ RetV (.str (tx (txtOf cs))) H Q
theorem wp_written {o : Option Addr} {F : Hp} {Pq : V → Hp → Prop} {s t : Addr} {A B : List Nat} {cs : List Int} {E : XK} (hS : SetsAt K F s A B) (hT : SqL K F t (il cs)) (g : Good A B) (hc : CodesOk A.length cs) (cl : cs.length ≤ 200) (q : Pq (.str (tx (txtOf cs))) F) :
    Wp o (fun H Q => sp_written K ([.ref s, .ref t] ++ []) H Q E) F Pq := fun H w Q k => ⟨s, t, A, B, cs, rfl, w.t hS, w.l hT, g, hc, cl, RetV.use w q k⟩
theorem pm_written (D : DefAt K mg "written" s_written) (B : Bl mg) (g_need_sets : Pm P w K mg base CX0 1 "need_sets" ["sets"] (sp_need_sets K)) (g_need_tape : Pm P w K mg base CX0 1 "need_tape" ["sets", "tape"] (sp_need_tape K)) :
    Pm P w K mg base CX0 2 "written" ["sets", "tape"] (sp_written K) := by
  obtain ⟨f, fd, F, hm⟩ := D
  refine ⟨f, fd, ?_, hm, F.kp, F.binds fun _ _ _ _ _ _ us hl => match us, hl with | [_, _], _ => rfl⟩
  refine F.ok sc_written (fun vs H Q E h => ?_) (fun cdv A outer s H vs Q E hr h => ?_)
  · obtain ⟨_, _, _, _, _, rfl, _⟩ := h
    rfl
  · obtain ⟨s, t, A', B', cs, rfl, hS, hT, g, hc, cl, k⟩ := h
    have n10 := g.n10
    refine ⟨_, (pss_cons (ps_expr (pe_pm g_need_sets (hr.mono (by decide)) pass0 (pa_cons (pv 0) pa_nil)))
 (pss_cons (ps_expr (pe_pm g_need_tape (hr.mono (by decide)) pass0 (pa_cons (pv 0) (pa_cons (pv 1) pa_nil))))
 (pss_cons (ps_ret (peJoin K rfl (pe_strT (l := [32]) (by decide +kernel)) (pe_lc (own := [("code", 2)]) (g := gName 2) (tt := tYes) rfl sc_written.nd (piL K rfl (pv 1)) (blkOk_by (N := n_written) (sc := defScope s_written) (by decide +kernel)) (fun _ _ _ _ _ => pg_name (i := 2) sc_written.nd rfl (Or.inl rfl)) (fun _ _ _ _ _ => pts_nil) (fun _ _ _ _ _ => (pe_callTy call_str_int (by rfl) B.str_ (by decide +kernel) (pa_cons (pv 2) pa_nil))))))
 pss_nil))), ?_⟩
    refine go_st (σ := [some (.ref s), some (.ref t), none]) rfl ?_
    wtm_at "r"
    refine wp_need_sets hS g ?_
    wtm_at "r"
    refine wp_need_tape hS hT g.n10 hc cl ?_
    wtm_at "r"
    refine wp_m1 ?_
    wtm_at "r"
    refine ⟨⟨_, rfl⟩, ?_⟩
    refine wp_lcL (fun _ => rfl) ?_
    wtm_at "r"
    refine ⟨t, il cs, rfl, hT, fun Dl hD => ⟨fun i acc F => acc = (cs.take i).map (fun c => V.str (tx (wd c.toNat))) ∧ Ex H F, ⟨rfl, ex_new hD⟩, fun i acc F ⟨_, e⟩ => ex_l e hT, ?_, ?_⟩⟩
    · rintro i y acc F hy hDF ⟨rfl, e⟩
      obtain ⟨c, hcy, rfl, hmem⟩ := il_at hy
      have hcc := hc c hmem
      have hil := (List.getElem?_eq_some_iff.mp hcy).1
      show Wp _ _ _ _
      wtm_at "r"
      refine ⟨fun _ => ?_, fun z => (by cases z)⟩
      wtm_at "r"
      refine wp_strI (n := c.toNat) (by omega) (by omega) ?_
      refine ⟨hDF, by rw [List.length_map, List.length_take]; omega, ?_, ex_mut e hD⟩
      rw [take_more hcy, List.map_append]
      rfl
    · rintro acc F hDF ⟨rfl, e⟩
      rw [List.length_map, List.take_length] at hDF
      refine wp_joinW (ws := cs.map fun c => wd c.toNat) (SqL.of (by rw [List.map_map]; exact hDF)) (by rw [List.length_map]; omega) (fun w hw => ?_) ?_
      · obtain ⟨c, _, rfl⟩ := List.mem_map.mp hw
        exact (wd_len _).2
      · exact k.out e
abbrev s_read_tape : Stmt := topS 15
abbrev n_read_tape : List Str := ["sets", "text", "found", "words", "place", "word", "sign"]
theorem sc_read_tape : FnScope n_read_tape ["sets", "text"] (defScope s_read_tape) := ⟨rfl, rfl, rfl, by decide +kernel, rfl, by decide +kernel, by decide +kernel⟩

def sp_read_tape (K : PySem.W.Frag) : Sp := fun vs H Q _ => ∃ (s : Addr) (A B : List Nat) (cs : List Int), vs = [.ref s, .str (tx (txtOf cs))] ∧ SetsAt K H s A B ∧ Good A B ∧ CodesOk A.length cs ∧ cs.length ≤ 200 ∧ RetN (.lst (il cs)) H Q
theorem wp_read_tape {o : Option Addr} {F : Hp} {Pq : V → Hp → Prop} {s : Addr} {A B : List Nat} {cs : List Int} {E : XK} (hS : SetsAt K F s A B) (g : Good A B) (hc : CodesOk A.length cs) (cl : cs.length ≤ 200) (q : ∀ p, F p = none → Pq (.ref p) (upd F p (.lst (il cs)))) :
    Wp o (fun H Q => sp_read_tape K ([.ref s, .str (tx (txtOf cs))] ++ []) H Q E) F Pq := fun H w Q k => ⟨s, A, B, cs, rfl, w.t hS, g, hc, cl, RetN.use w q k⟩
theorem pm_read_tape (D : DefAt K mg "read_tape" s_read_tape) (B : Bl mg) (c_FIGURES : ∃ t, mg "FIGURES" = some (.str (tx [48, 49, 50, 51, 52, 53, 54, 55, 56, 57]) t)) (g_need_sets : Pm P w K mg base CX0 1 "need_sets" ["sets"] (sp_need_sets K)) (g_need_tape : Pm P w K mg base CX0 1 "need_tape" ["sets", "tape"] (sp_need_tape K)) :
    Pm P w K mg base CX0 2 "read_tape" ["sets", "text"] (sp_read_tape K) := by
  obtain ⟨f, fd, F, hm⟩ := D
  refine ⟨f, fd, ?_, hm, F.kp, F.binds fun _ _ _ _ _ _ us hl => match us, hl with | [_, _], _ => rfl⟩
  refine F.ok sc_read_tape (fun vs H Q E h => ?_) (fun cdv A outer s H vs Q E hr h => ?_)
  · obtain ⟨_, _, _, _, rfl, _⟩ := h
    rfl
  · obtain ⟨s, A', B', cs, rfl, hS, g, hc, cl, k⟩ := h
    have n10 := g.n10
    obtain ⟨ws, hws⟩ : ∃ ws, ws = cs.map fun c => wd c.toNat := ⟨_, rfl⟩
    have hwl : ∀ w ∈ ws, w.length ≤ 2 := fun w hw => by
      rw [hws] at hw
      obtain ⟨c, _, rfl⟩ := List.mem_map.mp hw
      exact (wd_len _).2
    have hw32 : ∀ w ∈ ws, 32 ∉ w := fun w hw h32 => by
      rw [hws] at hw
      obtain ⟨c, hcm, rfl⟩ := List.mem_map.mp hw
      have h1 := hc c hcm
      have := wd_fig c.toNat (by omega) 32 h32
      omega
    have hTl := joinW_len [32] ws hwl
    have hwsl : ws.length = cs.length := by rw [hws, List.length_map]
    have hTx : txtOf cs = TL.joinL [32] ws := by rw [hws]; rfl
    rw [hTx]
    simp only [List.length_cons, List.length_nil] at hTl
    refine ⟨_, (pss_cons (ps_expr (pe_pm g_need_sets (hr.mono (by decide)) pass0 (pa_cons (pv 0) pa_nil)))
 (pss_cons (ps_set (i := 2) sc_read_tape.nd rfl (Or.inl rfl) (pe_lst pa_nil))
 (pss_cons (ps_set (i := 3) sc_read_tape.nd rfl (Or.inl rfl) (pe_ifExp (pt_cmpR (neK K rfl hr.units) (pv 1) (pe_strT (l := []) (by decide +kernel)) (nomark _)) (pe_split (pv 1) (pe_strT (l := [32]) (by decide +kernel))) (pe_lst pa_nil)))
 (pss_cons (ps_for PassesOwn.never rfl (piE K rfl B.enumerate (pa_cons (pv 3) pa_nil)) (pgT K rfl (n := 2) rfl (pgs_cons (pg_name (i := 4) sc_read_tape.nd rfl (Or.inl rfl)) (pgs_cons (pg_name (i := 5) sc_read_tape.nd rfl (Or.inl rfl)) pgs_nil)))
 (pss_cons (ps_if (PW.pt (pw_or (pt_not (pt_chain op_le op_le pe_int (pe_callB (lenK K rfl) (by rfl) B.len PySem.boot_len (pa_cons (pv 5) pa_nil)) pe_int)) (pw_or1 (pt_cmpR (neK K rfl hr.units) (pe_lc (own := [("sign", 6)]) (g := gName 6) rfl sc_read_tape.nd (pi_str (pv 5)) (blkOk_by (N := n_read_tape) (sc := defScope s_read_tape) (by decide +kernel)) (fun _ _ _ _ _ => pg_name (i := 6) sc_read_tape.nd rfl (Or.inl rfl)) (fun _ _ _ _ _ => (pts_one (pt_cmpR (niK K rfl) (pv 6) (pe_cstS c_FIGURES) (by rfl)))) (fun _ _ _ _ _ => (pv 6))) (pe_lst pa_nil) (nomark _)))))
 (pss_cons ps_never
 pss_nil)
 pss_nil)
 (pss_cons (ps_if (PW.pt (pw_and (pt_cmpR (eqK K rfl hr.units) (pe_ix (ixK K rfl) (pv 5) pe_int (fun _ _ => rfl)) (pe_strT (l := [48]) (by decide +kernel)) (nomark _)) (pw_and1 (pt_cmpR (neK K rfl hr.units) (pv 5) (pe_strT (l := [48]) (by decide +kernel)) (nomark _)))))
 (pss_cons ps_never
 pss_nil)
 pss_nil)
 (pss_cons (ps_expr (bmK K rfl PySem.F.plainAttrs_list PySem.F.slot_list_append PySem.F.type_list_append mt_append (pv 2) (pa_cons (pe_callTy call_intP (by rfl) B.int_ (by decide +kernel) (pa_cons (pv 5) pa_nil)) pa_nil)))
 pss_nil))))
 (pss_cons (ps_expr (pe_pm g_need_tape (hr.mono (by decide)) pass0 (pa_cons (pv 0) (pa_cons (pv 2) pa_nil))))
 (pss_cons (ps_ret (pv 2))
 pss_nil)))))), ?_⟩
    refine go_st (σ := [some (.ref s), some (.str (tx (TL.joinL [32] ws))), none, none, none, none, none]) rfl ?_
    wtm_at "r"
    refine wp_need_sets hS g ?_
    wtm_at "r"
    refine ⟨Nat.zero_le _, ?_⟩
    wtm_at "gz"
    intro Fd hFd F1 q1 e1
    wtm_at "r"
    refine ⟨fun hne => ?g1, fun hem => ?g2⟩
    case' g1 =>
      have hne : TL.joinL [32] ws ≠ [] := by simpa using hne
      have hwne : ws ≠ [] := fun z => hne (by rw [z]; rfl)
      refine wp_m1 ?_
      wtm_at "r"
      refine ⟨⟨_, rfl⟩, ?_⟩
      wtm_at "r"
      refine wp_splitW (split_tx hwne hw32) (by omega) ?_
      wtm_at "gz"
      intro W hW F2 q2 e2
    case' g2 =>
      have hem : TL.joinL [32] ws = [] := by simpa using hem
      have hws0 : ws = [] := joinW_nil [32] (fun w hw z => by
        rw [hws] at hw
        obtain ⟨c, _, rfl⟩ := List.mem_map.mp hw
        have := (wd_len c.toNat).1
        rw [z] at this
        exact absurd this (by decide)) hem
      refine wp_lst ?_
      refine wp_nil ?_
      refine ⟨Nat.zero_le _, ?_⟩
      wtm_at "gz"
      intro W hW F2 q2 e2
      have q2 : F2 W = some (.lst (ws.map fun w => V.str (tx w))) := by rw [hws0]; exact q2
    all_goals
      have nwf : W ≠ Fd := (ne_of_none q1 hW).symm
      wtm_at "r"
      refine go_forE (fun i σ F => ∃ (x4 x5 x6 : Option V) (G : Hp), σ = [some (.ref s), some (.str (tx (TL.joinL [32] ws))), some (.ref Fd), some (.ref W), x4, x5, x6] ∧ Ex H G ∧ G Fd = none ∧ Ex G F ∧ F Fd = some (.lst (il (cs.take i))) ∧ F W = some (.lst (ws.map fun w => V.str (tx w)))) ?_
      wtm_at "r"
      refine ⟨W, ws.map (fun w => V.str (tx w)), rfl, SqL.of q2, ⟨_, _, _, H, rfl, exr H, hFd, e1.trans e2, e2 _ _ q1, q2⟩, fun i σ F hi ⟨_, _, _, _, _, _, _, _, _, e⟩ => SqL.of e, ?_, ?_⟩
      · rintro i y σ F p hy hp ⟨x4, x5, x6, G, rfl, eG, gFd, eF, hF, hFW⟩
        obtain ⟨c, hcy, rfl⟩ : ∃ c, cs[i]? = some c ∧ y = .str (tx (wd c.toNat)) := by
          rw [List.getElem?_map, hws, List.getElem?_map] at hy
          cases q : cs[i]? with
          | none => rw [q] at hy; cases hy
          | some c => rw [q] at hy; exact ⟨c, rfl, (Option.some.inj hy).symm⟩
        have hcc := hc c (List.mem_of_getElem? hcy)
        have hil := (List.getElem?_eq_some_iff.mp hcy).1
        have hn : c.toNat < 100 := by omega
        obtain ⟨l1, l2⟩ := wd_len c.toNat
        wtm_at "r"
        refine bT (by wtm_at "dec") ?_
        wtm_at "r"
        refine bF (by simp; omega) ?_
        refine wp_test ?_
        refine wp_op ?_
        refine wp_lcS (fun _ => rfl) ?_
        wtm_at "r"
        refine fun Dl hD => ⟨fun j acc F2 => acc = [] ∧ Ex F F2, ⟨rfl, (ex_new hp).trans (ex_new hD)⟩, ?_, ?_⟩
        · rintro j ch acc F2 hj hDF ⟨rfl, e⟩
          have hch := wd_fig _ hn ch (List.mem_of_getElem? hj)
          show Wp _ _ _ _
          wtm_at "r"
          refine bF ?_ ⟨hDF, rfl, e⟩
          have := (by decide : ∀ k, k < 58 → 48 ≤ k → k ∈ [48, 49, 50, 51, 52, 53, 54, 55, 56, 57]) ch (by omega) hch.1
          rw [decide_eq_true this]
          rfl
        · rintro acc F2 hDF ⟨rfl, e⟩
          wtm_at "r"
          refine ⟨Nat.zero_le _, ?_⟩
          wtm_at "gz"
          intro p2 hp2 F3 q3 e3
          refine wp_neIL (xs := []) (ys := []) (SqL.of (e3 _ _ hDF)) (SqL.of q3) ?_
          wtm_at "r"
          refine bF (by simp) ?_
          obtain ⟨c0, hc0⟩ : ∃ c0, (wd c.toNat)[0]? = some c0 := ⟨_, List.getElem?_eq_getElem (by omega)⟩
          have x03 := e.trans e3
          have hF3 := x03 _ _ hF
          wtm_at "r"
          refine wp_ixS (by omega) (atI_nat (j := 0) hc0) ?_
          wtm_at "r"
          refine wp_eqS (i := [c0]) (j := [48]) ?_
          wtm_at "r"
          constructor
          case' left =>
            intro h0
            have h0 : c0 = 48 := by simpa using h0
            have hz := wd_zero _ hn (by rw [hc0, h0])
            wtm_at "r"
            refine bF (by rw [hz]; simp) ?_
          case' right =>
            intro h0
            refine ⟨fun z => (by cases z), fun _ => ?_⟩
          all_goals
            wtm_at "r"
            refine wp_bmL ?_
            wtm_at "r"
            refine ⟨Fd, _, rfl, SqL.of hF3, ?_⟩
            wtm_at "r"
            refine wp_intS (int_wd _ hn) (by omega) ?_
            wtm_at "r"
            refine wp_append hF3 (by rw [List.length_map, List.length_take]; omega) ?_
            wtm_at "r"
            refine go_turn rfl ⟨_, _, _, G, rfl, eG, gFd, ex_mut (eF.trans x03) gFd, ?_, by rw [upd_ne nwf]; exact x03 _ _ hFW⟩
            rw [upd_same, take_more hcy, show il (cs.take i ++ [c]) = il (cs.take i) ++ il [c] from List.map_append, show ((c.toNat : Nat) : Int) = c by omega]
            rfl
      · rintro σ F ⟨x4, x5, x6, G, rfl, eG, gFd, eF, hF, hFW⟩
        rw [List.length_map, hwsl, List.take_length] at hF
        wtm_at "r"
        refine wp_need_tape (ex_t (eG.trans eF) hS) (SqL.of hF) g.n10 hc cl ?_
        wtm_at "r"
        exact k.out (eG.trans eF) hFd hF
end
end
/-! ### any text in words -/
section
open TL
def spW (T : List Nat) : List (List Nat) := TL.spl [32] 0 [] T
theorem pre32 (c : Nat) (r : List Nat) : TL.pre [32] (c :: r) = decide (c = 32) := by
  by_cases h : c = 32
  · subst h; rfl
  · rw [decide_eq_false h]
    show ((c :: r).take 1 == [32]) = false
    simp [h]
def szW (ws : List (List Nat)) : Nat := (ws.map fun w => w.length + 1).sum
theorem szW_cons (w : List Nat) (r : List (List Nat)) : szW (w :: r) = w.length + 1 + szW r := by
  unfold szW; rw [List.map_cons, List.sum_cons]
theorem szW_app (a b : List (List Nat)) : szW (a ++ b) = szW a + szW b := by
  unfold szW; rw [List.map_append, List.sum_append]
theorem szW_len (ws : List (List Nat)) : ws.length ≤ szW ws := by
  induction ws with
  | nil => exact Nat.le_refl _
  | cons w r ih => rw [szW_cons, List.length_cons]; omega
theorem szW_mem {ws : List (List Nat)} {w : List Nat} (h : w ∈ ws) : w.length + 1 ≤ szW ws := by
  induction ws with
  | nil => cases h
  | cons v r ih =>
    rw [szW_cons]
    rcases List.mem_cons.mp h with rfl | h
    · omega
    · have := ih h; omega
theorem szW_cut (ws : List (List Nat)) {a b : Nat} (h : a ≤ b) : szW (ws.take a) + szW (ws.drop b) ≤ szW ws := by
  have e : szW ws = szW (ws.take b) + szW (ws.drop b) := by rw [← szW_app, List.take_append_drop]
  have e2 : szW (ws.take b) = szW ((ws.take b).take a) + szW ((ws.take b).drop a) := by rw [← szW_app, List.take_append_drop]
  rw [List.take_take, Nat.min_eq_left h] at e2
  omega
theorem spl_sz : ∀ (T acc : List Nat), szW (TL.spl [32] 0 acc T) = acc.length + T.length + 1
  | [], acc => by rw [TL.spl_nil, szW_cons]; show _ + 1 + 0 = _; rw [List.length_nil]; omega
  | c :: r, acc => by
    by_cases h : c = 32
    · rw [TL.spl_hit (by rw [pre32]; exact decide_eq_true h), szW_cons]
      show acc.length + 1 + szW (TL.spl [32] 0 [] r) = _
      rw [spl_sz r [], List.length_cons, List.length_nil]
      omega
    · rw [TL.spl_miss (by rw [pre32]; exact decide_eq_false h), spl_sz r (acc ++ [c]), List.length_append, List.length_singleton, List.length_cons]
      omega
theorem spW_sz (T : List Nat) : szW (spW T) = T.length + 1 := by
  have := spl_sz T []
  rw [List.length_nil, Nat.zero_add] at this
  exact this
theorem spl_lt {N : Nat} : ∀ (T acc : List Nat), (∀ c ∈ acc, c < N) → (∀ c ∈ T, c < N) → ∀ w ∈ TL.spl [32] 0 acc T, ∀ c ∈ w, c < N
  | [], acc, ha, _, w, hw, c, hc => by
    rw [TL.spl_nil, List.mem_singleton] at hw
    rw [hw] at hc
    exact ha c hc
  | x :: r, acc, ha, ht, w, hw, c, hc => by
    by_cases h : x = 32
    · rw [TL.spl_hit (by rw [pre32]; exact decide_eq_true h)] at hw
      rcases List.mem_cons.mp hw with rfl | hw
      · exact ha c hc
      · exact spl_lt r [] (fun z hz => by cases hz) (fun z hz => ht z (List.mem_cons_of_mem _ hz)) w hw c hc
    · rw [TL.spl_miss (by rw [pre32]; exact decide_eq_false h)] at hw
      refine spl_lt r (acc ++ [x]) (fun z hz => ?_) (fun z hz => ht z (List.mem_cons_of_mem _ hz)) w hw c hc
      rcases List.mem_append.mp hz with hz | hz
      · exact ha z hz
      · rw [List.mem_singleton.mp hz]; exact ht x List.mem_cons_self
theorem spW_lt {N : Nat} {T : List Nat} (h : ∀ c ∈ T, c < N) : ∀ w ∈ spW T, ∀ c ∈ w, c < N := spl_lt T [] (fun z hz => by cases hz) h
theorem split_any (T : List Nat) : Txt.split (tx T) (tx [32]) = (spW T).map tx := by
  refine map_tl_inj ?_
  rw [TL.split_spl _ _ (by rw [tl_tx]; exact List.cons_ne_nil _ _) (TL.kind_ok (by decide +kernel)), tl_tx, tl_tx, List.map_map]
  rw [show (TL.tl ∘ tx) = id from funext fun l => tl_tx l, List.map_id]
  rfl
theorem joinW_sz : ∀ (ws : List (List Nat)), (TL.joinL [32] ws).length ≤ szW ws
  | [] => Nat.zero_le _
  | [p] => by
    rw [szW_cons]
    show p.length ≤ _
    omega
  | p :: q :: r => by
    have ih := joinW_sz (q :: r)
    rw [szW_cons]
    show (p ++ ([32] ++ TL.joinL [32] (q :: r))).length ≤ _
    rw [List.length_append, List.length_append, List.length_singleton]
    omega
theorem joinW_sz1 : ∀ (ws : List (List Nat)), ws ≠ [] → (TL.joinL [32] ws).length + 1 ≤ szW ws
  | [], h => absurd rfl h
  | [p], _ => by
    rw [szW_cons]
    show p.length + 1 ≤ _
    omega
  | p :: q :: r, _ => by
    have ih := joinW_sz1 (q :: r) (List.cons_ne_nil _ _)
    rw [szW_cons]
    show (p ++ ([32] ++ TL.joinL [32] (q :: r))).length + 1 ≤ _
    rw [List.length_append, List.length_append, List.length_singleton]
    omega
theorem joinW_lt {N : Nat} (h32 : 32 < N) : ∀ (ws : List (List Nat)), (∀ w ∈ ws, ∀ c ∈ w, c < N) → ∀ c ∈ TL.joinL [32] ws, c < N
  | [], _, c, hc => by cases hc
  | [p], h, c, hc => h p List.mem_cons_self c hc
  | p :: q :: r, h, c, hc => by
    have hc : c ∈ p ++ ([32] ++ TL.joinL [32] (q :: r)) := hc
    rcases List.mem_append.mp hc with hc | hc
    · exact h p List.mem_cons_self c hc
    · rcases List.mem_append.mp hc with hc | hc
      · rw [List.mem_singleton.mp hc]; exact h32
      · exact joinW_lt h32 (q :: r) (fun w hw => h w (List.mem_cons_of_mem _ hw)) c hc
theorem sum_szW : ∀ ws : List (List Nat), ((ws.map tx).map (·.length)).sum + ws.length * 1 = szW ws
  | [] => rfl
  | w :: r => by
    have ih := sum_szW r
    rw [List.map_cons, List.map_cons, List.sum_cons, List.length_cons, szW_cons]
    have e : (tx w).length = w.length := tx_len w
    omega
theorem wp_joinA {K : PySem.W.Frag} {o : Option Addr} {F : Hp} {Pq : V → Hp → Prop} {p : Addr} {ws : List (List Nat)} (h : SqL K F p (ws.map fun w => V.str (tx w))) (hl : szW ws ≤ 100000) (q : Pq (.str (tx (TL.joinL [32] ws))) F) : Wp o (rJoin K (.str (tx [32])) [.ref p]) F Pq := fun H w Q k =>
  ⟨tx [32], p, ws.map tx, rfl, rfl, .inl (by rw [List.map_map]; exact w.l h), by
    have := sum_szW ws
    rw [List.length_map, tx_len]
    simp only [List.length_cons, List.length_nil]
    omega, by rw [join_tx]; exact k _ H F w q⟩
/-! words that are numbers -/
def okW (w : List Nat) : Prop := ∃ n, n < 100 ∧ w = wd n
theorem wd_inj {n m : Nat} (hn : n < 100) (hm : m < 100) (h : wd n = wd m) : n = m := by
  have e := (int_wd n hn).symm.trans ((by rw [h] : PySem.intText? (tx (wd n)) = PySem.intText? (tx (wd m))).trans (int_wd m hm))
  have e2 := Option.some.inj e
  omega
theorem okW_iff (w : List Nat) : okW w ↔ (1 ≤ w.length ∧ w.length ≤ 2 ∧ (∀ c ∈ w, 48 ≤ c ∧ c ≤ 57) ∧ ¬ (w[0]? = some 48 ∧ w ≠ [48])) := by
  constructor
  · rintro ⟨n, hn, rfl⟩
    exact ⟨(wd_len n).1, (wd_len n).2, fun c hc => wd_fig n hn c hc, fun ⟨h1, h2⟩ => h2 (wd_zero n hn h1)⟩
  · rintro ⟨h1, h2, h3, h4⟩
    match w, h1, h2, h3, h4 with
    | [a], _, _, h3, _ =>
      have ha := h3 a List.mem_cons_self
      refine ⟨a - 48, by omega, ?_⟩
      unfold wd
      rw [if_pos (by omega), show 48 + (a - 48) = a by omega]
    | [a, b], _, _, h3, h4 =>
      have ha := h3 a List.mem_cons_self
      have hb := h3 b (List.mem_cons_of_mem _ List.mem_cons_self)
      have hne : a ≠ 48 := fun z => h4 ⟨by rw [z]; rfl, by simp⟩
      refine ⟨(a - 48) * 10 + (b - 48), by omega, ?_⟩
      unfold wd
      rw [if_neg (by omega), show 48 + ((a - 48) * 10 + (b - 48)) / 10 = a by omega, show 48 + ((a - 48) * 10 + (b - 48)) % 10 = b by omega]
instance (w : List Nat) : Decidable (okW w) := decidable_of_iff' _ (okW_iff w)
/-- the numbers that words say -/
def OkL (ws : List (List Nat)) (ns : List Nat) : Prop := ws = ns.map wd ∧ ∀ n ∈ ns, n < 100
theorem OkL.at {ws : List (List Nat)} {ns : List Nat} (h : OkL ws ns) {i : Nat} {w : List Nat} (hw : ws[i]? = some w) : ∃ n, ns[i]? = some n ∧ w = wd n ∧ n < 100 := by
  rw [h.1, List.getElem?_map] at hw
  cases q : ns[i]? with
  | none => rw [q] at hw; cases hw
  | some n => rw [q] at hw; exact ⟨n, rfl, (Option.some.inj hw).symm, h.2 n (List.mem_of_getElem? q)⟩
theorem OkL.len {ws : List (List Nat)} {ns : List Nat} (h : OkL ws ns) : ns.length = ws.length := by rw [h.1, List.length_map]
theorem OkL.inj : ∀ {ws : List (List Nat)} {ns ms : List Nat}, OkL ws ns → OkL ws ms → ns = ms := by
  intro ws ns ms h1 h2
  refine List.ext_getElem (by rw [h1.len, h2.len]) fun i hi hj => ?_
  have e : ws[i]? = some (wd ns[i]) := by rw [h1.1, List.getElem?_map, List.getElem?_eq_getElem hi]; rfl
  obtain ⟨m, hm, ew, hl⟩ := h2.at e
  rw [List.getElem?_eq_getElem hj] at hm
  rw [Option.some.inj hm]
  exact wd_inj (h1.2 _ (List.getElem_mem hi)) hl ew
theorem OkL.app {ws : List (List Nat)} {ns : List Nat} {n : Nat} (h : OkL ws ns) (hn : n < 100) : OkL (ws ++ [wd n]) (ns ++ [n]) := ⟨by rw [h.1, List.map_append]; rfl, fun m hm => by
  rcases List.mem_append.mp hm with hm | hm
  · exact h.2 m hm
  · rw [List.mem_singleton.mp hm]; exact hn⟩
def zN (ns : List Nat) : List Int := ns.map Int.ofNat
/-- what reading a text comes to -/
inductive Oc where
  | text (i : Nat)
  | tape (j : Nat)
  | good (cs : List Int)
def OcIs (n : Nat) (ws : List (List Nat)) : Oc → Prop
  | .text i => (∃ w, ws[i]? = some w ∧ ¬ okW w) ∧ ∀ j w, j < i → ws[j]? = some w → okW w
  | .tape j => ∃ ns, OkL ws ns ∧ FirstB n (zN ns) (some j)
  | .good cs => ∃ ns, OkL ws ns ∧ cs = zN ns ∧ FirstB n (zN ns) none
theorem okL_or : ∀ ws : List (List Nat), (∃ ns, OkL ws ns) ∨ ∃ (i : Nat) (w : List Nat), ws[i]? = some w ∧ ¬ okW w ∧ ∀ (j : Nat) (v : List Nat), j < i → ws[j]? = some v → okW v
  | [] => .inl ⟨[], rfl, fun n hn => by cases hn⟩
  | w :: r => by
    by_cases h : okW w
    · obtain ⟨n, hn, e⟩ := h
      rcases okL_or r with ⟨ns, h1, h2⟩ | ⟨i, v, h1, h2, h3⟩
      · refine .inl ⟨n :: ns, by rw [h1, e]; rfl, fun m hm => ?_⟩
        rcases List.mem_cons.mp hm with rfl | hm
        · exact hn
        · exact h2 m hm
      · refine .inr ⟨i + 1, v, h1, h2, fun j u hj hu => ?_⟩
        cases j with
        | zero => cases hu; exact ⟨n, hn, e⟩
        | succ j => exact h3 j u (by omega) hu
    · exact .inr ⟨0, w, rfl, h, fun j u hj => absurd hj (Nat.not_lt_zero _)⟩
theorem oc_ex (n : Nat) (ws : List (List Nat)) : ∃ x, OcIs n ws x := by
  rcases okL_or ws with ⟨ns, h⟩ | ⟨i, w, h1, h2, h3⟩
  · obtain ⟨x, hx⟩ := first_ex n (zN ns)
    cases x with
    | none => exact ⟨.good (zN ns), ns, h, rfl, hx⟩
    | some j => exact ⟨.tape j, ns, h, hx⟩
  · exact ⟨.text i, ⟨w, h1, h2⟩, h3⟩
/-- the words before i are numbers, the word i is none: so it is the text -/
theorem oc_text {n : Nat} {ws : List (List Nat)} {x : Oc} {i : Nat} {w : List Nat} {ns : List Nat} (h : OcIs n ws x) (ht : OkL (ws.take i) ns) (hw : ws[i]? = some w) (hb : ¬ okW w) : x = .text i := by
  have okp : ∀ j v, j < i → ws[j]? = some v → okW v := fun j v hj hv => by
    obtain ⟨m, _, e, hl⟩ := ht.at (i := j) (w := v) (by rw [List.getElem?_take, if_pos hj]; exact hv)
    exact ⟨m, hl, e⟩
  cases x with
  | text j =>
    obtain ⟨⟨v, hv, hb2⟩, h2⟩ := h
    by_cases h3 : j < i
    · exact absurd (okp j v h3 hv) hb2
    · by_cases h4 : i < j
      · exact absurd (h2 i w h4 hw) hb
      · rw [show j = i by omega]
  | tape j =>
    obtain ⟨ms, hm, _⟩ := h
    obtain ⟨m, _, e, hl⟩ := hm.at hw
    exact absurd ⟨m, hl, e⟩ hb
  | good cs =>
    obtain ⟨ms, hm, _⟩ := h
    obtain ⟨m, _, e, hl⟩ := hm.at hw
    exact absurd ⟨m, hl, e⟩ hb
theorem oc_nums {n : Nat} {ws : List (List Nat)} {x : Oc} {ns : List Nat} (h : OcIs n ws x) (ht : OkL ws ns) : (x = .good (zN ns) ∧ FirstB n (zN ns) none) ∨ ∃ j, x = .tape j ∧ FirstB n (zN ns) (some j) := by
  cases x with
  | text j =>
    obtain ⟨⟨v, hv, hb2⟩, h2⟩ := h
    obtain ⟨m, _, e, hl⟩ := ht.at hv
    exact absurd ⟨m, hl, e⟩ hb2
  | tape j =>
    obtain ⟨ms, hm, hx⟩ := h
    rw [ht.inj hm]
    exact .inr ⟨j, rfl, hx⟩
  | good cs =>
    obtain ⟨ms, hm, rfl, hx⟩ := h
    rw [ht.inj hm]
    exact .inl ⟨rfl, hx⟩
end
/-! ### read_tape of any text -/
def wsOf (T : List Nat) : List (List Nat) := if T = [] then [] else spW T
theorem wsOf_sz (T : List Nat) : szW (wsOf T) ≤ T.length + 1 := by
  unfold wsOf
  split
  · exact Nat.zero_le _
  · rw [spW_sz]; omega
theorem wsOf_lt {N : Nat} {T : List Nat} (h : ∀ c ∈ T, c < N) : ∀ w ∈ wsOf T, ∀ c ∈ w, c < N := by
  unfold wsOf
  split
  · intro w hw; cases hw
  · exact spW_lt h
theorem figs_mem (c : Nat) : c ∈ [48, 49, 50, 51, 52, 53, 54, 55, 56, 57] ↔ (48 ≤ c ∧ c ≤ 57) := by
  simp only [List.mem_cons, List.not_mem_nil, or_false]
  omega
def notFig (c : Nat) : Bool := !decide (c ∈ [48, 49, 50, 51, 52, 53, 54, 55, 56, 57])
theorem filt_more {α : Type} {p : α → Bool} {l : List α} {i : Nat} {x : α} (h : l[i]? = some x) : (l.take (i + 1)).filter p = (l.take i).filter p ++ (if p x = true then [x] else []) := by
  rw [take_more h, List.filter_append]
  congr 1
  by_cases hp : p x = true
  · rw [if_pos hp]; simp [hp]
  · rw [if_neg hp]; simp [hp]
section
variable {P : Program} {w : World} {K : PySem.W.Frag} {mg : Str → Option Value} {base : Heap}
def OcOut (CX CA : Addr) (x : Oc) (H : Hp) (Q : VK) (E : XK) : Prop := match x with
  | .good cs => RetN (.lst (il cs)) H Q
  | .text i => RetE CX "place" (.int (i : Nat)) H E
  | .tape j => RetE CA "at" (.int (j : Nat)) H E
def sp_read_tapeX (K : PySem.W.Frag) (CX CA : Addr) : Sp := fun vs H Q E => ∃ (s : Addr) (A B T : List Nat) (x : Oc), vs = [.ref s, .str (tx T)] ∧ SetsAt K H s A B ∧ Good A B ∧ T.length ≤ 700 ∧ (∀ c ∈ T, c < 128) ∧ OcIs A.length (wsOf T) x ∧ OcOut CX CA x H Q E
theorem pm_read_tapeX {CX CA : Addr} (D : DefAt K mg "read_tape" s_read_tape) (B : Bl mg) (c_FIGURES : ∃ t, mg "FIGURES" = some (.str (tx [48, 49, 50, 51, 52, 53, 54, 55, 56, 57]) t)) (g_need_sets : Pm P w K mg base CX0 1 "need_sets" ["sets"] (sp_need_sets K))
    (g_need_tape_x : Pm P w K mg base (L2N.CX P w) 3 "need_tape" ["sets", "tape"] (sp_need_tapeX K CA)) (z_BadText : Rz P w K mg base "BadText" CX "place") :
    Pm P w K mg base (L2N.CX P w) 4 "read_tape" ["sets", "text"] (sp_read_tapeX K CX CA) := by
  obtain ⟨f, fd, F, hm⟩ := D
  refine ⟨f, fd, ?_, hm, F.kp, F.binds fun _ _ _ _ _ _ us hl => match us, hl with | [_, _], _ => rfl⟩
  refine okXN F sc_read_tape (fun vs H Q E h => ?_) (fun cdv A outer s H vs Q E hr h => ?_)
  · obtain ⟨_, _, _, _, _, rfl, _⟩ := h
    rfl
  · obtain ⟨s, A', B', T, x, rfl, hS, g, hTl, hT128, hx, k⟩ := h
    have n10 := g.n10
    obtain ⟨ws, hws⟩ : ∃ ws, ws = wsOf T := ⟨_, rfl⟩
    rw [← hws] at hx
    have hsz : szW ws ≤ T.length + 1 := by rw [hws]; exact wsOf_sz T
    have hwl : ws.length ≤ 701 := by have := szW_len ws; omega
    have hw128 : ∀ w ∈ ws, ∀ c ∈ w, c < 128 := by rw [hws]; exact wsOf_lt hT128
    refine ⟨_, (pss_cons (ps_expr (pe_pm g_need_sets (hr.mono (by decide)) pass0 (pa_cons (pv 0) pa_nil)))
 (pss_cons (ps_set (i := 2) sc_read_tape.nd rfl (Or.inl rfl) (pe_lst pa_nil))
 (pss_cons (ps_set (i := 3) sc_read_tape.nd rfl (Or.inl rfl) (pe_ifExp (pt_cmpR (neK K rfl hr.units) (pv 1) (pe_strT (l := []) (by decide +kernel)) (nomark _)) (pe_split (pv 1) (pe_strT (l := [32]) (by decide +kernel))) (pe_lst pa_nil)))
 (pss_cons (ps_for (passes_of rfl) rfl (piE K rfl B.enumerate (pa_cons (pv 3) pa_nil)) (pgT K rfl (n := 2) rfl (pgs_cons (pg_name (i := 4) sc_read_tape.nd rfl (Or.inl rfl)) (pgs_cons (pg_name (i := 5) sc_read_tape.nd rfl (Or.inl rfl)) pgs_nil)))
 (pss_cons (ps_if (PW.pt (pw_or (pt_not (pt_chain op_le op_le pe_int (pe_callB (lenK K rfl) (by rfl) B.len PySem.boot_len (pa_cons (pv 5) pa_nil)) pe_int)) (pw_or1 (pt_cmpR (neK K rfl hr.units) (pe_lc (own := [("sign", 6)]) (g := gName 6) rfl sc_read_tape.nd (pi_str (pv 5)) (blkOk_by (N := n_read_tape) (sc := defScope s_read_tape) (by decide +kernel)) (fun _ _ _ _ _ => pg_name (i := 6) sc_read_tape.nd rfl (Or.inl rfl)) (fun _ _ _ _ _ => (pts_one (pt_cmpR (niK K rfl) (pv 6) (pe_cstS c_FIGURES) (by rfl)))) (fun _ _ _ _ _ => (pv 6))) (pe_lst pa_nil) (nomark _)))))
 (pss_cons (ps_rz z_BadText rfl (hr.mono (by decide)) (L2N.takes_of rfl rfl rfl rfl) (pa_cons (pv 4) pa_nil))
 pss_nil)
 pss_nil)
 (pss_cons (ps_if (PW.pt (pw_and (pt_cmpR (eqK K rfl hr.units) (pe_ix (ixK K rfl) (pv 5) pe_int (fun _ _ => rfl)) (pe_strT (l := [48]) (by decide +kernel)) (nomark _)) (pw_and1 (pt_cmpR (neK K rfl hr.units) (pv 5) (pe_strT (l := [48]) (by decide +kernel)) (nomark _)))))
 (pss_cons (ps_rz z_BadText rfl (hr.mono (by decide)) (L2N.takes_of rfl rfl rfl rfl) (pa_cons (pv 4) pa_nil))
 pss_nil)
 pss_nil)
 (pss_cons (ps_expr (bmK K rfl PySem.F.plainAttrs_list PySem.F.slot_list_append PySem.F.type_list_append mt_append (pv 2) (pa_cons (pe_callTy call_intP (by rfl) B.int_ (by decide +kernel) (pa_cons (pv 5) pa_nil)) pa_nil)))
 pss_nil))))
 (pss_cons (ps_expr (pe_pm g_need_tape_x (hr.mono (by decide)) (L2N.passes_call (L2N.takes_of rfl rfl rfl rfl) (fun _ _ _ _ h => h)) (pa_cons (pv 0) (pa_cons (pv 2) pa_nil))))
 (pss_cons (ps_ret (pv 2))
 pss_nil)))))), ?_⟩
    refine go_st (σ := [some (.ref s), some (.str (tx T)), none, none, none, none, none]) rfl ?_
    wtm_at "r"
    refine wp_need_sets hS g ?_
    wtm_at "r"
    refine ⟨Nat.zero_le _, ?_⟩
    wtm_at "gz"
    intro Fd hFd F1 q1 e1
    wtm_at "r"
    refine ⟨fun hne => ?g1, fun hem => ?g2⟩
    case' g1 =>
      have hne : T ≠ [] := by simpa using hne
      have ews : ws = spW T := by rw [hws]; unfold wsOf; rw [if_neg hne]
      refine wp_m1 ?_
      wtm_at "r"
      refine ⟨⟨_, rfl⟩, ?_⟩
      wtm_at "r"
      refine wp_splitW (ws := ws) (by rw [ews]; exact split_any T) (by omega) ?_
      wtm_at "gz"
      intro W hW F2 q2 e2
    case' g2 =>
      have hem : T = [] := by simpa using hem
      have hws0 : ws = [] := by rw [hws]; unfold wsOf; rw [if_pos hem]
      refine wp_lst ?_
      refine wp_nil ?_
      refine ⟨Nat.zero_le _, ?_⟩
      wtm_at "gz"
      intro W hW F2 q2 e2
      have q2 : F2 W = some (.lst (ws.map fun w => V.str (tx w))) := by rw [hws0]; exact q2
    all_goals
      have nwf : W ≠ Fd := (ne_of_none q1 hW).symm
      wtm_at "r"
      refine go_forE (fun i σ F => ∃ (x4 x5 x6 : Option V) (G : Hp) (ns : List Nat), σ = [some (.ref s), some (.str (tx T)), some (.ref Fd), some (.ref W), x4, x5, x6] ∧ Ex H G ∧ G Fd = none ∧ Ex G F ∧ F Fd = some (.lst (il (zN ns))) ∧ F W = some (.lst (ws.map fun w => V.str (tx w))) ∧ OkL (ws.take i) ns) ?_
      wtm_at "r"
      refine ⟨W, ws.map (fun w => V.str (tx w)), rfl, SqL.of q2, ⟨_, _, _, H, [], rfl, exr H, hFd, e1.trans e2, e2 _ _ q1, q2, rfl, fun n hn => by cases hn⟩, fun i σ F hi ⟨_, _, _, _, _, _, _, _, _, _, e, _⟩ => SqL.of e, ?_, ?_⟩
      · rintro i y σ F p hy hp ⟨x4, x5, x6, G, ns, rfl, eG, gFd, eF, hF, hFW, hns⟩
        obtain ⟨v, hv, rfl⟩ : ∃ v, ws[i]? = some v ∧ y = .str (tx v) := by
          rw [List.getElem?_map] at hy
          cases q : ws[i]? with
          | none => rw [q] at hy; cases hy
          | some c => rw [q] at hy; exact ⟨c, rfl, (Option.some.inj hy).symm⟩
        have hvm := List.mem_of_getElem? hv
        have hil := (List.getElem?_eq_some_iff.mp hv).1
        have hvl := szW_mem hvm
        have ep : Ex H (upd F p (.tup [.int (i : Nat), .str (tx v)])) := (eG.trans eF).trans (ex_new hp)
        have boom : ¬ okW v → ∀ F5, Ex H F5 → ∀ H1, Wd none F5 H1 → ∀ d H2, H1 d = none → Ex H1 H2 → H2 d = some (.xd [("place", .int (i : Nat))]) → E (.ref CX) (some d) H2 := fun hb F5 e5 => by
          have ex := oc_text hx hns hv hb
          subst ex
          exact RetE.out k e5
        wtm_at "r"
        refine ⟨fun h1 => ?_, fun h1 => ?_⟩
        · have h1 := of_decide_eq_true h1
          wtm_at "r"
          refine ⟨fun h2 => ?_, fun h2 => ?_⟩
          · have h2 : ¬ v.length ≤ 2 := by simp at h2; omega
            refine bT rfl ?_
            refine go_rz ?_
            wtm_at "r"
            exact ⟨_, rfl, boom (fun z => h2 ((okW_iff v).mp z).2.1) _ ep⟩
          · have h2 : v.length ≤ 2 := by simp at h2; omega
            refine wp_test ?_
            refine wp_op ?_
            refine wp_lcS (fun _ => rfl) ?_
            wtm_at "r"
            refine fun Dl hD => ⟨fun j acc F2 => acc = ((v.take j).filter notFig).map sg ∧ Ex (upd F p (.tup [.int (i : Nat), .str (tx v)])) F2, ⟨rfl, ex_new hD⟩, ?_, ?_⟩
            · rintro j ch acc F2 hj hDF ⟨rfl, e⟩
              show Wp _ _ _ _
              wtm_at "r"
              refine ⟨fun hc => ?_, fun hc => ?_⟩
              · wtm_at "r"
                refine ⟨hDF, ?_, ?_, ex_mut e hD⟩
                · have := List.length_filter_le notFig (v.take j)
                  have := List.length_take_le' j v
                  rw [List.length_map]
                  omega
                · rw [filt_more hj, if_pos (show notFig ch = true from hc), List.map_append]
                  rfl
              · exact ⟨hDF, by rw [filt_more hj, if_neg (by show ¬ notFig ch = true; rw [show notFig ch = false from hc]; decide), List.append_nil], e⟩
            · rintro acc F2 hDF ⟨rfl, e⟩
              rw [List.take_length] at hDF
              wtm_at "r"
              refine ⟨Nat.zero_le _, ?_⟩
              wtm_at "gz"
              intro p2 hp2 F3 q3 e3
              refine wp_neS0 (l := v.filter notFig) (SqL.of (e3 _ _ hDF)) (SqL.of q3) (fun c hc => hw128 v hvm c (List.mem_filter.mp hc).1) ?_
              wtm_at "r"
              have e35 := ep.trans (e.trans e3)
              refine ⟨fun hf => ?_, fun hf => ?_⟩
              · have hf : v.filter notFig ≠ [] := by simpa using hf
                refine go_rz ?_
                wtm_at "r"
                refine ⟨_, rfl, boom (fun z => hf (List.filter_eq_nil_iff.mpr fun c hc => ?_)) _ e35⟩
                have := ((okW_iff v).mp z).2.2.1 c hc
                unfold notFig
                rw [decide_eq_true ((figs_mem c).mpr this)]
                decide
              · have hf : v.filter notFig = [] := by simpa using hf
                have hfig : ∀ c ∈ v, 48 ≤ c ∧ c ≤ 57 := fun c hc => by
                  have := List.filter_eq_nil_iff.mp hf c hc
                  unfold notFig at this
                  refine (figs_mem c).mp ?_
                  refine Classical.byContradiction fun z => this ?_
                  rw [decide_eq_false z]
                  rfl
                obtain ⟨c0, hc0⟩ : ∃ c0, v[0]? = some c0 := ⟨_, List.getElem?_eq_getElem (by omega)⟩
                have hF3 : F3 Fd = some (.lst (il (zN ns))) := (e.trans e3) _ _ (ex_new hp _ _ hF)
                have hW3 : F3 W = some (.lst (ws.map fun w => V.str (tx w))) := (e.trans e3) _ _ (ex_new hp _ _ hFW)
                wtm_at "r"
                refine wp_ixS (by omega) (atI_nat (j := 0) hc0) ?_
                wtm_at "r"
                refine wp_eqS (i := [c0]) (j := [48]) ?_
                wtm_at "r"
                constructor
                case' left =>
                  intro h0
                  have h0 : c0 = 48 := by simpa using h0
                  wtm_at "r"
                  refine ⟨fun h4 => ?_, fun h4 => ?_⟩
                  · have h4 : v ≠ [48] := by simpa using h4
                    refine go_rz ?_
                    wtm_at "r"
                    exact ⟨_, rfl, boom (fun z => ((okW_iff v).mp z).2.2.2 ⟨by rw [hc0, h0], h4⟩) _ e35⟩
                  have h4 : v = [48] := by simpa using h4
                  have hok : okW v := (okW_iff v).mpr ⟨by omega, h2, hfig, fun z => z.2 h4⟩
                case' right =>
                  intro h0
                  have h0 : c0 ≠ 48 := by simpa using h0
                  have hok : okW v := (okW_iff v).mpr ⟨by omega, h2, hfig, fun z => h0 (by rw [hc0] at z; exact Option.some.inj z.1)⟩
                  refine ⟨fun z => (by cases z), fun _ => ?_⟩
                all_goals
                  obtain ⟨n, hn, ev⟩ := hok
                  wtm_at "r"
                  refine wp_bmL ?_
                  wtm_at "r"
                  refine ⟨Fd, _, rfl, SqL.of hF3, ?_⟩
                  wtm_at "r"
                  refine wp_intS (n := (n : Int)) (by rw [ev]; exact int_wd _ hn) (by omega) ?_
                  wtm_at "r"
                  have hnl := hns.len
                  refine wp_append hF3 (by rw [List.length_map, zN, List.length_map, hnl, List.length_take]; omega) ?_
                  wtm_at "r"
                  refine go_turn rfl ⟨_, _, _, G, ns ++ [n], rfl, eG, gFd, ex_mut ((eF.trans (ex_new hp)).trans (e.trans e3)) gFd, ?_, by rw [upd_ne nwf]; exact hW3, by rw [take_more hv, ev]; exact hns.app hn⟩
                  rw [upd_same]
                  unfold zN
                  rw [List.map_append, show ∀ a b : List Int, il (a ++ b) = il a ++ il b from fun a b => List.map_append]
                  rfl
        · have h1 : ¬ 1 ≤ v.length := by have h1 := of_decide_eq_false h1; omega
          wtm_at "r"
          refine bT rfl ?_
          refine bT rfl ?_
          refine go_rz ?_
          wtm_at "r"
          exact ⟨_, rfl, boom (fun z => h1 ((okW_iff v).mp z).1) _ ep⟩
      · rintro σ F ⟨x4, x5, x6, G, ns, rfl, eG, gFd, eF, hF, hFW, hns⟩
        rw [List.length_map, List.take_length] at hns
        have hnl := hns.len
        have hzl : (zN ns).length = ns.length := by unfold zN; rw [List.length_map]
        wtm_at "r"
        rcases oc_nums hx hns with ⟨rfl, hfb⟩ | ⟨j, rfl, hfb⟩
        · refine wp_need_tapeX (ex_t (eG.trans eF) hS) (SqL.of hF) (by omega) (by omega) hfb (fun _ => ?_) (fun i z => by cases z)
          wtm_at "r"
          exact RetN.out k (eG.trans eF) hFd hF
        · refine wp_need_tapeX (ex_t (eG.trans eF) hS) (SqL.of hF) (by omega) (by omega) hfb (fun z => by cases z) (fun i z d H2 w2 hx2 n2 _ => ?_)
          cases z
          exact k d H2 ((eG.trans eF).free n2) ((eG.trans eF).trans w2.ex) hx2
end
/-! ### _law_refused: the suite in which an exception is handled -/
section
variable {P : Program} {w : World} {K : PySem.W.Frag} {mg : Str → Option Value} {base : Heap}
/-- _law_alike of two numbers or two texts, an exception being handled -/
def spAH : Sp := fun vs H Q _ => ∃ x : V, vs = [x, x] ∧ ((∃ i, x = .int i) ∨ ∃ z, x = .str z) ∧ RetV (.bl true) H Q
theorem alikeH (D : DefAt K mg "_law_alike" s_q_alike) (B : Bl mg) : PmH P w K mg base 1 "_law_alike" ["_law_found", "_law_due"] spAH := by
  obtain ⟨f, fd, F, hm⟩ := D
  refine ⟨f, fd, ?_, hm, F.kp, F.binds fun _ _ _ _ _ _ us hl => match us, hl with | [_, _], _ => rfl⟩
  refine okH F sc_q_alike (fun vs H Q E h => ?_) (fun cdv A outer s H vs Q E p hot hr h => ?_)
  · obtain ⟨_, rfl, _⟩ := h
    rfl
  · obtain ⟨x, rfl, hx, k⟩ := h
    refine ⟨_, (pss_cons (ps_if (pt_cmpR op_isNs (pv 1) pe_non (nomark _))
 (pss_cons (ps_ret (pe_cmpR op_isNs (pv 0) pe_non (nomark _)))
 pss_nil)
 pss_nil)
 (pss_cons (ps_if (pt_val (pe_callB (isiK K rfl) (by rfl) B.isinstance (by decide +kernel) (pa_cons (pv 1) (pa_cons (pe_bltn (v := .ty "bool") (by rfl) B.bool_ (by decide +kernel) rfl) pa_nil))))
 (pss_cons (ps_ret (pe_and (pe_callB (isiK K rfl) (by rfl) B.isinstance (by decide +kernel) (pa_cons (pv 0) (pa_cons (pe_bltn (v := .ty "bool") (by rfl) B.bool_ (by decide +kernel) rfl) pa_nil))) (pe_one (pe_cmpR (eqK K rfl hr.units) (pv 0) (pv 1) (nomark _)))))
 pss_nil)
 pss_nil)
 (pss_cons (ps_if (pt_val (pe_callB (isiK K rfl) (by rfl) B.isinstance (by decide +kernel) (pa_cons (pv 1) (pa_cons (pe_bltn (v := .ty "int") (by rfl) B.int_ (by decide +kernel) rfl) pa_nil))))
 (pss_cons (ps_ret (pe_and (pe_callB (isiK K rfl) (by rfl) B.isinstance (by decide +kernel) (pa_cons (pv 0) (pa_cons (pe_bltn (v := .ty "int") (by rfl) B.int_ (by decide +kernel) rfl) pa_nil))) (pe_and (pe_not (pe_callB (isiK K rfl) (by rfl) B.isinstance (by decide +kernel) (pa_cons (pv 0) (pa_cons (pe_bltn (v := .ty "bool") (by rfl) B.bool_ (by decide +kernel) rfl) pa_nil)))) (pe_one (pe_cmpR (eqK K rfl hr.units) (pv 0) (pv 1) (nomark _))))))
 pss_nil)
 pss_nil)
 (pss_cons (ps_if (pt_val (pe_callB (isiK K rfl) (by rfl) B.isinstance (by decide +kernel) (pa_cons (pv 1) (pa_cons (pe_bltn (v := .ty "str") (by rfl) B.str_ (by decide +kernel) rfl) pa_nil))))
 (pss_cons (ps_ret (pe_and (pe_callB (isiK K rfl) (by rfl) B.isinstance (by decide +kernel) (pa_cons (pv 0) (pa_cons (pe_bltn (v := .ty "str") (by rfl) B.str_ (by decide +kernel) rfl) pa_nil))) (pe_one (pe_cmpR (eqK K rfl hr.units) (pv 0) (pv 1) (nomark _)))))
 pss_nil)
 pss_nil)
 pss_never)))), ?_⟩
    refine go_st (σ := [some (x), some (x), none]) rfl ?_
    rcases hx with ⟨i, rfl⟩ | ⟨z, rfl⟩
    · wtm_at "r"
      refine bF (by simp) ?_
      wtm_at "r"
      refine wp_isi (.int i) (b := false) (by decide +kernel) ?_
      wtm_at "r"
      refine bF rfl ?_
      wtm_at "r"
      refine wp_isi (.int i) (b := true) (by decide +kernel) ?_
      wtm_at "r"
      refine bT rfl ?_
      wtm_at "r"
      refine wp_isi (.int i) (b := true) (by decide +kernel) ?_
      wtm_at "r"
      refine bT rfl ?_
      wtm_at "r"
      refine wp_isi (.int i) (b := false) (by decide +kernel) ?_
      wtm_at "r"
      refine bT rfl ?_
      wtm_at "r"
      rw [decide_eq_true rfl]
      exact k.out (exr H)
    · wtm_at "r"
      refine bF (by simp) ?_
      wtm_at "r"
      refine wp_isi (.str z) (b := false) (by decide +kernel) ?_
      wtm_at "r"
      refine bF rfl ?_
      wtm_at "r"
      refine wp_isi (.str z) (b := false) (by decide +kernel) ?_
      wtm_at "r"
      refine bF rfl ?_
      wtm_at "r"
      refine wp_isi (.str z) (b := true) (by decide +kernel) ?_
      wtm_at "r"
      refine bT rfl ?_
      wtm_at "r"
      refine wp_isi (.str z) (b := true) (by decide +kernel) ?_
      wtm_at "r"
      refine bT rfl ?_
      wtm_at "r"
      refine wp_eq0 rfl ?_
      rw [decide_eq_true rfl]
      exact k.out (exr H)
abbrev s_q_refused : Stmt := topS 21
abbrev n_q_refused : List Str := ["_law_work", "_law_word", "_law_value", "e", "_law_kinds", "_law_words", "_law_one"]
theorem sc_q_refused : FnScope n_q_refused ["_law_work", "_law_word", "_law_value"] (defScope s_q_refused) := ⟨rfl, rfl, rfl, by decide +kernel, rfl, by decide +kernel, by decide +kernel⟩

/-- the classes' names, and what isinstance says of C's instances -/
structure RefC (K : PySem.W.Frag) (mg : Str → Option Value) (CT CS CA CN CM CX C : Addr) (b0 b1 b2 b3 b4 : Bool) : Prop where
  mT : mg "TapeError" = some (.ref CT)
  mS : mg "BadSets" = some (.ref CS)
  mA : mg "BadTape" = some (.ref CA)
  mN : mg "NoSign" = some (.ref CN)
  mM : mg "BadNumber" = some (.ref CM)
  mX : mg "BadText" = some (.ref CX)
  nV : mg "ValueError" = none
  ex : PySem.W.exmOne K (.ref C) (.ref CT) = some true
  xc : XcC K C
  k0 : PySem.W.kitOne K (.ref C) (.ref CS) = some b0
  k1 : PySem.W.kitOne K (.ref C) (.ref CA) = some b1
  k2 : PySem.W.kitOne K (.ref C) (.ref CN) = some b2
  k3 : PySem.W.kitOne K (.ref C) (.ref CM) = some b3
  k4 : PySem.W.kitOne K (.ref C) (.ref CX) = some b4
  kV : PySem.W.kitOne K (.ref C) (.type "ValueError") = some true
theorem XcC.xf' {D : Addr} (h : XcC K D) : XfC K D := ⟨h.hg, h.hk, h.hs, h.hd⟩
theorem relT' {t : String} : ∀ u, RelV (.ty t) u → u = .type t := fun u h => h
theorem relR' {a : Addr} : ∀ u, RelV (.ref a) u → u = .ref a := fun u h => h
abbrev wordsR : List (List Nat) := [[115, 101, 116, 115], [116, 97, 112, 101], [115, 105, 103, 110], [110, 117, 109, 98, 101, 114], [116, 101, 120, 116]]
theorem dp_bools {F : Hp} : ∀ bs : List Bool, DpAll K F (bs.map V.bl) (bs.map PyData.bool)
  | [] => .nil
  | b :: r => .cons (.bl b) (dp_bools r)
theorem eqv_bools : ∀ bs : List Bool, PyData.eqvAll (bs.map PyData.bool) (bs.map PyData.bool) = true
  | [] => rfl
  | b :: r => by
    show ((b == b) && PyData.eqvAll (r.map PyData.bool) (r.map PyData.bool)) = true
    rw [eqv_bools r]
    simp
theorem refused_at {CT CS CA CN CM CX C : Addr} {b0 b1 b2 b3 b4 : Bool} (B : Bl mg) (M : RefC K mg CT CS CA CN CM CX C b0 b1 b2 b3 b4) (no : PySem.W.findIn K (.ref C) "at" = some none) (g_q_alike_h : PmH P w K mg base 1 "_law_alike" ["_law_found", "_law_due"] spAH)
    {l : List Nat} (hb : [b0, b1, b2, b3, b4] = wordsR.map fun z => decide (l = z)) (l0 : l ≠ [115, 101, 116, 115]) (l3 : l ≠ [110, 117, 109, 98, 101, 114]) (l4 : l ≠ [116, 101, 120, 116])
    {f c' g : Addr} {co : HO} {cdg : Value} {A : Around} {outer : List Env} {s : Shared} {H : Hp} {E : XK} {Q : VK} {v : V} (hv : (∃ i, v = .int i) ∨ ∃ z, v = .str z) {tl : XK → Hp → VK → Prop} {o : Option Addr} {F : Hp} (hr : Room 1 (A.deeper (envOfC "_law_refused" (defScope s_q_refused) s.heap.objs.size g cdg)))
    (act : ∀ (W : WX) (pn : List (Addr × Obj)) (xe : Value → Shared → Prop) (p1 p2 : Pos), L2N.Takes ((cxOf CX0 P w K mg base n_q_refused "_law_refused" (defScope s_q_refused) g cdg A outer s H E).tr pn xe) W →
      PE ((cxOf CX0 P w K mg base n_q_refused "_law_refused" (defScope s_q_refused) g cdg A outer s H E).tr pn xe) (.Call (.Name "_law_work" p1) [] [] p2) (fun σZ HZ Q => σZ[0]? = some (some (.ref f)) ∧ HZ c' = some co ∧ tl (WE W σZ) HZ Q))
    (hc : H c' = some co) (htl : ∀ (E' : XK) (Q' : VK), (∀ d H', Wd o F H' → H' d = some (.xd [("at", v)]) → F d = none → (∀ b, o = some b → b ≠ d) → E' (.ref C) (some d) H') → tl E' H Q') (kQ : ∀ H1, Wd o F H1 → Q (.bl true) H1) :
    ∃ t, PSs (cxOf CX0 P w K mg base n_q_refused "_law_refused" (defScope s_q_refused) g cdg A outer s H E) (defBody s_q_refused) t ∧ t { nx := fun _ H' => Q .non H', rt := Q } (start n_q_refused [.ref f, .str (tx l), v]) H := by
  obtain ⟨m_TapeError, m_BadSets, m_BadTape, m_NoSign, m_BadNumber, m_BadText, n_ValueError, ex1, xc, k0, k1, k2, k3, k4, kV⟩ := M
  have x_BadTape : XfC K C ∧ PySem.W.findIn K (.ref C) "at" = some none := ⟨xc.xf', no⟩
  refine ⟨_, (pss_cons (L2N.ps_try_as (i := 3) rfl rfl sc_q_refused.nd rfl rfl ⟨rfl, by decide, .inl m_TapeError⟩ takes0N (fun W pn xe tk _ => (pss_cons (ps_expr (act W pn xe _ _ tk))
 pss_nil)) (fun a oe cls d pn hz hf => (pss_cons (ps_set (i := 4) sc_q_refused.nd rfl (Or.inl rfl) (pe_lst (pa_cons (pe_callB (isXK K rfl hz.zc hf) (by rfl) B.isinstance (by decide +kernel) (pa_cons (pv 3) (pa_cons (pe_clsG m_BadSets) pa_nil))) (pa_cons (pe_callB (isXK K rfl hz.zc hf) (by rfl) B.isinstance (by decide +kernel) (pa_cons (pv 3) (pa_cons (pe_clsG m_BadTape) pa_nil))) (pa_cons (pe_callB (isXK K rfl hz.zc hf) (by rfl) B.isinstance (by decide +kernel) (pa_cons (pv 3) (pa_cons (pe_clsG m_NoSign) pa_nil))) (pa_cons (pe_callB (isXK K rfl hz.zc hf) (by rfl) B.isinstance (by decide +kernel) (pa_cons (pv 3) (pa_cons (pe_clsG m_BadNumber) pa_nil))) pa_nil))))))
 (pss_cons (ps_expr (bmK K rfl PySem.F.plainAttrs_list PySem.F.slot_list_append PySem.F.type_list_append mt_append (pv 4) (pa_cons (pe_callB (isXK K rfl hz.zc hf) (by rfl) B.isinstance (by decide +kernel) (pa_cons (pv 3) (pa_cons (pe_clsG m_BadText) pa_nil))) pa_nil)))
 (pss_cons (ps_set (i := 5) sc_q_refused.nd rfl (Or.inl rfl) (pe_lst (pa_cons (pe_strT (l := [115, 101, 116, 115]) (by decide +kernel)) (pa_cons (pe_strT (l := [116, 97, 112, 101]) (by decide +kernel)) (pa_cons (pe_strT (l := [115, 105, 103, 110]) (by decide +kernel)) (pa_cons (pe_strT (l := [110, 117, 109, 98, 101, 114]) (by decide +kernel)) (pa_cons (pe_strT (l := [116, 101, 120, 116]) (by decide +kernel)) pa_nil)))))))
 (pss_cons (ps_if (PW.pt (pw_or (pt_not (pt_val (pe_callB (isXK K rfl hz.zc hf) (by rfl) B.isinstance (by decide +kernel) (pa_cons (pv 3) (pa_cons (pe_bltn (v := .ty "ValueError") (by rfl) n_ValueError (by decide +kernel) rfl) pa_nil))))) (pw_or1 (pt_cmpR (neK K rfl hr.units) (pv 4) (pe_lcH (own := [("_law_one", 6)]) (g := gName 6) (tt := tYes) K rfl (hot_suite hz hf) sc_q_refused.nd (pv 5) (blkOk_by (N := n_q_refused) (sc := defScope s_q_refused) (by decide +kernel)) (fun _ _ _ _ _ => pg_name (i := 6) sc_q_refused.nd rfl (Or.inl rfl)) (fun _ _ _ _ _ => pts_nil) (fun _ _ _ _ _ => (pe_cmpR (eqK K rfl hr.units) (pv 1) (pv 6) (nomark _)))) (nomark _)))))
 (pss_cons (ps_ret pe_bl)
 pss_nil)
 pss_nil)
 (pss_cons (ps_if (pt_cmpR (eqK K rfl hr.units) (pv 1) (pe_strT (l := [115, 101, 116, 115]) (by decide +kernel)) (nomark _)) pss_never pss_nil)
 (pss_cons (ps_if (pt_cmpR (eqK K rfl hr.units) (pv 1) (pe_strT (l := [116, 101, 120, 116]) (by decide +kernel)) (nomark _)) pss_never pss_nil)
 (pss_cons (ps_ret (pe_or (pe_cmpR (eqK K rfl hr.units) (pv 1) (pe_strT (l := [110, 117, 109, 98, 101, 114]) (by decide +kernel)) (nomark _)) (pe_one (pe_pmH g_q_alike_h ⟨hr.dp, hr.un⟩ (hot_suite hz hf) (pa_cons (pe_xfK K rfl x_BadTape.1 x_BadTape.2 hz.zc hf (pv 3)) (pa_cons (pv 2) pa_nil))))))
 pss_nil)))))))))
 (pss_cons (ps_ret pe_bl)
 pss_nil)), ?_⟩
  refine ⟨rfl, hc, htl _ _ fun d H' w' hx' n' no' => go_was w' hx' n' no' ex1 fun a => ?_⟩
  show Go o _ _ _ _
  have hF : Ex F (upd F d (.xd [("at", v)])) := ex_new n'
  wtm_at "r"
  refine wp_isX rfl xc relR' k0 upd_same ?_
  wtm_at "r"
  refine wp_isX rfl xc relR' k1 upd_same ?_
  wtm_at "r"
  refine wp_isX rfl xc relR' k2 upd_same ?_
  wtm_at "r"
  refine wp_isX rfl xc relR' k3 upd_same ?_
  wtm_at "r"
  refine ⟨(by show 4 ≤ 100000; decide), ?_⟩
  obtain ⟨F0, hF0⟩ : ∃ F0, F0 = upd F d (.xd [("at", v)]) := ⟨_, rfl⟩
  have hd0 : F0 d = some (.xd [("at", v)]) := by rw [hF0]; exact upd_same
  rw [← hF0] at hF ⊢
  wtm_at "gz"
  intro p1 hp1 F1 q1 e1
  wtm_at "r"
  refine wp_bmL ?_
  wtm_at "r"
  refine ⟨p1, _, rfl, SqL.of q1, ?_⟩
  wtm_at "r"
  refine wp_isX rfl xc relR' k4 (e1 _ _ hd0) ?_
  wtm_at "r"
  refine wp_append q1 (by show 4 < 100000; decide) ?_
  have e2 : Ex F0 (upd F1 p1 (.lst ([.bl b0, .bl b1, .bl b2, .bl b3] ++ [.bl b4]))) := ex_mut e1 hp1
  have q2 : (upd F1 p1 (.lst ([.bl b0, .bl b1, .bl b2, .bl b3] ++ [.bl b4]))) p1 = some (.lst ([b0, b1, b2, b3, b4].map V.bl)) := upd_same
  revert e2 q2
  generalize upd F1 p1 (.lst ([.bl b0, .bl b1, .bl b2, .bl b3] ++ [.bl b4])) = F2
  intro e2 q2
  wtm_at "r"
  refine ⟨(by show 5 ≤ 100000; decide), ?_⟩
  wtm_at "gz"
  intro p3 hp3 F3 q3 e3
  have q3 : F3 p3 = some (.lst (wordsR.map fun z => V.str (tx z))) := q3
  wtm_at "r"
  refine wp_isX rfl xc relT' kV (e3 _ _ (e2 _ _ hd0)) ?_
  wtm_at "r"
  refine bF rfl ?_
  wtm_at "r"
  refine wp_lcL (fun _ => rfl) ?_
  wtm_at "r"
  refine ⟨p3, _, rfl, SqL.of q3, fun Dl hD => ?_⟩
  refine ⟨fun i acc F4 => acc = ((wordsR.take i).map fun z => V.bl (decide (l = z))) ∧ Ex F3 F4, ⟨rfl, ex_new hD⟩, fun i acc F4 ⟨_, e4⟩ => SqL.of (e4 _ _ q3), ?_, ?_⟩
  · rintro i y acc F4 hy q4 ⟨rfl, e4⟩
    obtain ⟨z, hz, rfl⟩ : ∃ z, wordsR[i]? = some z ∧ y = .str (tx z) := by
      rw [List.getElem?_map] at hy
      cases q : wordsR[i]? with
      | none => rw [q] at hy; cases hy
      | some c => rw [q] at hy; exact ⟨c, rfl, (Option.some.inj hy).symm⟩
    show Wp _ _ _ _
    wtm_at "r"
    refine ⟨fun _ => ?_, fun z => (by cases z)⟩
    wtm_at "r"
    refine ⟨q4, ?_, ?_, ex_mut e4 hD⟩
    · have := List.length_take_le' i wordsR
      have h5 : wordsR.length = 5 := rfl
      rw [List.length_map]
      omega
    · rw [take_more hz, List.map_append]
      rfl
  · rintro acc F4 q4 ⟨rfl, e4⟩
    have q4 : F4 Dl = some (.lst ([b0, b1, b2, b3, b4].map V.bl)) := by
      rw [hb, List.map_map]
      exact q4
    refine wp_neD (d := .list ([b0, b1, b2, b3, b4].map PyData.bool)) (e := .list ([b0, b1, b2, b3, b4].map PyData.bool)) (.lst (SqL.of ((e3.trans e4) _ _ q2)) (dp_bools _)) (.lst (SqL.of q4) (dp_bools _)) (by rfl) (by rfl) ?_
    rw [show PyData.eqv (.list ([b0, b1, b2, b3, b4].map PyData.bool)) (.list ([b0, b1, b2, b3, b4].map PyData.bool)) = true from eqv_bools _]
    wtm_at "r"
    refine bF rfl ?_
    wtm_at "r"
    refine bF (decide_eq_false l0) ?_
    wtm_at "r"
    refine bF (decide_eq_false l4) ?_
    wtm_at "r"
    refine bF (decide_eq_false l3) ?_
    refine wp_callS ?_
    wtm_at "r"
    refine wp_xf (fs := [("at", v)]) (v := v) ?_
    wtm_at "r"
    refine ⟨rfl, rfl, e4 _ _ (e3 _ _ (e2 _ _ hd0)), rfl, ?_⟩
    wtm_at "r"
    intro H5 w5 Q5 k5
    refine ⟨v, rfl, hv, RetV.use w5 ?_ k5⟩
    exact fun H6 w6 => kQ H6 (w6.down (hF.trans (e2.trans (e3.trans e4))))
end
/-! ### _law_refused called with a lambda, by what is known -/
section
open LamX
theorem Tabs.toF {T : List (Addr × Str)} {H1 : Hp} {d : Addr} (t : Tabs T H1) (hd : Dc H1 d) : Tabs T (rm H1 d) := fun p hp => by
  obtain ⟨ns, hns, _⟩ := hd
  obtain ⟨ps, a1, a2, a3⟩ := t p hp
  refine ⟨ps, by rw [rm_ne (fun z => by rw [z, hns] at a1; cases a1)]; exact a1, a2, fun pos cv h => ?_⟩
  obtain ⟨c, e1, e2⟩ := a3 pos cv h
  refine ⟨c, e1, ?_⟩
  rw [rm_ne (fun z => by
    rw [z, hns] at e2
    have z2 := Option.some.inj e2
    unfold CodeO at z2
    cases z2)]
  exact e2
def GGat (C : Addr) (word : List Nat) (tl : XK → Hp → VK → Prop) (l : List Nat) (v : V) (H : Hp) (Q : VK) : Prop := l = word ∧ ((∃ i, v = .int i) ∨ ∃ z, v = .str z) ∧ ∃ (o : Option Addr) (F : Hp), Wd o F H ∧
  (∀ (E' : XK) (Q' : VK), (∀ d H', Wd o F H' → H' d = some (.xd [("at", v)]) → F d = none → (∀ b, o = some b → b ≠ d) → E' (.ref C) (some d) H') → tl E' H Q') ∧ ∀ H1, Wd o F H1 → Q (.bl true) H1
theorem wp_refN {d : Addr} {F : Hp} {σ : L2.St} {Pq : V → Hp → Prop} {T : List (Addr × Str)} {t : XK → TE} {ta : TA} {C : Addr} {word : List Nat} (hT : Tabs T F)
    (h : ∀ F1, ExtN F F1 → Tabs T F1 → ∃ v, (∀ H Q, Q [.str (tx word), v] H → ta σ H Q) ∧ ((∃ i, v = .int i) ∨ ∃ z, v = .str z) ∧
      (∀ E' : XK, (∀ dd H', Wd (some d) F1 H' → H' dd = some (.xd [("at", v)]) → F1 dd = none → (∀ b, some d = some b → b ≠ dd) → E' (.ref C) (some dd) H') → Wp (some d) (t E' σ) F1 (fun _ _ => False)) ∧ Pq (.bl true) F1) :
    Wp (some d) (tRefN T t ta (GGat C word) σ) F Pq := fun H w Q k => by
  refine ⟨Tabs.ext hT w.ex, fun H1 eN T1 => ?_⟩
  obtain ⟨fd, hdc⟩ := w.dc d rfl
  have hd1 : Dc H1 d := by
    obtain ⟨ns, e, r⟩ := hdc
    exact ⟨ns, eN _ _ e (fun ps z => by cases z), r⟩
  have w1 : Wd (some d) (rm H1 d) H1 := Wd.dice hd1
  have eF : ExtN F (rm H1 d) := fun b u e n => by
    rw [rm_ne (ne_of_none e fd)]
    exact eN _ _ (w.ex _ _ e) n
  obtain ⟨v, hta, hv, hb, hp⟩ := h (rm H1 d) eF (Tabs.toF T1 hd1)
  exact hta H1 _ ⟨word, v, rfl, exr H1, rfl, hv, some d, rm H1 d, w1, fun E' Q' hE => hb E' hE H1 w1 Q' fun v2 H2 F2 w2 z => z.elim, fun H2 w2 => k _ H2 _ w2 hp⟩
end
section
variable {P : Program} {w : World} {K : PySem.W.Frag} {mg : Str → Option Value} {base : Heap}
theorem refused_gg {CT CS CA CN CM CX C : Addr} {b0 b1 b2 b3 b4 : Bool} (B : Bl mg) (M : RefC K mg CT CS CA CN CM CX C b0 b1 b2 b3 b4) (no : PySem.W.findIn K (.ref C) "at" = some none) (g_q_alike_h : PmH P w K mg base 1 "_law_alike" ["_law_found", "_law_due"] spAH)
    {word : List Nat} (hb : [b0, b1, b2, b3, b4] = wordsR.map fun z => decide (word = z)) (l0 : word ≠ [115, 101, 116, 115]) (l3 : word ≠ [110, 117, 109, 98, 101, 114]) (l4 : word ≠ [116, 101, 120, 116])
    {f c' g : Addr} {co : HO} {cdg : Value} {A : Around} {outer : List Env} {s : Shared} {H : Hp} {E : XK} {Q : VK} {l : List Nat} {v : V} {tl : XK → Hp → VK → Prop} (hr : Room 1 (A.deeper (envOfC "_law_refused" (defScope s_q_refused) s.heap.objs.size g cdg)))
    (act : ∀ (W : WX) (pn : List (Addr × Obj)) (xe : Value → Shared → Prop) (p1 p2 : Pos), L2N.Takes ((cxOf CX0 P w K mg base n_q_refused "_law_refused" (defScope s_q_refused) g cdg A outer s H E).tr pn xe) W →
      PE ((cxOf CX0 P w K mg base n_q_refused "_law_refused" (defScope s_q_refused) g cdg A outer s H E).tr pn xe) (.Call (.Name "_law_work" p1) [] [] p2) (fun σZ HZ Q => σZ[0]? = some (some (.ref f)) ∧ HZ c' = some co ∧ tl (WE W σZ) HZ Q))
    (hc : H c' = some co) (gg : GGat C word tl l v H Q) :
    ∃ t, PSs (cxOf CX0 P w K mg base n_q_refused "_law_refused" (defScope s_q_refused) g cdg A outer s H E) (defBody s_q_refused) t ∧ t { nx := fun _ H' => Q .non H', rt := Q } (start n_q_refused [.ref f, .str (tx l), v]) H := by
  obtain ⟨rfl, hv, o, F, wd, htl, kQ⟩ := gg
  exact refused_at (o := o) (F := F) B M no g_q_alike_h hb l0 l3 l4 hv hr act hc htl kQ
end
section
variable {K : PySem.W.Frag} {F : Hp} {σ : L2.St} {D : Ends} {tz : TS}
/-- what the law is asked -/
def spLaw (K : PySem.W.Frag) : Sp := fun vs H Q _ => ∃ (a : Addr) (ns : List Int), vs = [.ref a] ∧ SqL K H a (il ns) ∧ ns.length ≤ 63 ∧ ∀ H1, Q (.bl true) H1
/-- the dice are made: from here on they stand apart -/
theorem go_dice {i : Nat} {E : XK} {a : Addr} {ns : List Int} (h0 : σ[0]? = some (some (.ref a))) (hA : SqL K F a (il ns)) (hl : ns.length ≤ 63) (k : ∀ d, F d = none → Go (some d) tz D (σ.set i (some (.ref d))) F) :
    Go none (tSeq (tAsg (tCall (sp_dice K) [] E (tCons (tVar 0) (tCons (tC (.int 0)) tNil))) (gName i)) tz) D σ F := fun H w =>
  ⟨.ref a, h0, a, 0, ns, rfl, w.l hA, hl, fun p H1 n e dc => k p (w.fr n) H1 ⟨w.ex.trans e, fun b z => by cases z; exact ⟨w.fr n, dc⟩⟩⟩
/-- data of what reading tells -/
theorem dp_pair {p : Addr} {l : List Nat} {st : Int} (h : F p = some (.tup [.str (tx l), .int st])) : Dp K F (.ref p) (.tuple [.str (tx l), .int st]) := .tup (SqT.of h) (.cons (.str _) (.cons (.int _) .nil))
theorem dn_pair (l : List Nat) (st : Int) : DpN 1 (.tuple [.str (tx l), .int st]) := .inr ⟨_, .inr rfl, by simp, fun e he => by
  simp only [List.mem_cons, List.not_mem_nil, or_false] at he
  rcases he with rfl | rfl <;> rfl⟩
end
section
open LamX
variable {P : Program} {w : World} {K : PySem.W.Frag} {mg : Str → Option Value} {base : Heap}
def spLawT (K : PySem.W.Frag) (pL : Addr) : Sp := fun vs H Q _ => ∃ (a : Addr) (ns : List Int), vs = [.ref a] ∧ SqL K H a (il ns) ∧ ns.length ≤ 63 ∧ H pL = some (.tbl #[]) ∧ ∀ H1, Q (.bl true) H1
abbrev qL : Str := ("law" ++ ".<locals>." : Str) ++ "<lambda>"
theorem ext_l {F F1 : Hp} {a : Addr} {xs : List V} (e : ExtN F F1) (h : F a = some (.lst xs)) : F1 a = some (.lst xs) := e _ _ h fun ps z => by cases z
theorem ext_t {F F1 : Hp} {a : Addr} {xs : List V} (e : ExtN F F1) (h : F a = some (.tup xs)) : F1 a = some (.tup xs) := e _ _ h fun ps z => by cases z
theorem zN_toNat {cs : List Int} (h : ∀ c ∈ cs, 0 ≤ c) : zN (cs.map Int.toNat) = cs := by
  unfold zN
  rw [List.map_map]
  refine (List.map_congr_left fun c hc => ?_).trans (List.map_id cs)
  have := h c hc
  show ((c.toNat : Nat) : Int) = c
  omega
/-- what reading the text of any codes comes to -/
theorem oc_codes {n : Nat} {cs : List Int} (h : ∀ c ∈ cs, 0 ≤ c ∧ c < 100) {i : Nat} (hf : FirstB n cs (some i)) : OcIs n (wsOf (txtOf cs)) (.tape i) := by
  have hne : ∀ w ∈ cs.map (fun c => wd c.toNat), w ≠ [] := fun w hw z => by
    obtain ⟨c, _, rfl⟩ := List.mem_map.mp hw
    have := (wd_len c.toNat).1
    rw [z] at this
    exact absurd this (by decide)
  have h32 : ∀ w ∈ cs.map (fun c => wd c.toNat), 32 ∉ w := fun w hw z => by
    obtain ⟨c, hcm, rfl⟩ := List.mem_map.mp hw
    have h1 := h c hcm
    have := wd_fig c.toNat (by omega) 32 z
    omega
  have ews : wsOf (txtOf cs) = cs.map fun c => wd c.toNat := by
    unfold wsOf
    by_cases h : txtOf cs = []
    · rw [if_pos h, joinW_nil [32] hne h]
    · rw [if_neg h]
      refine TL.spl_join (s := 32) (S := []) (fun z => h ?_) h32
      unfold txtOf
      rw [z]
      rfl
  refine ⟨cs.map Int.toNat, ⟨by rw [ews, List.map_map]; rfl, fun m hm => ?_⟩, by rw [zN_toNat fun c hc => (h c hc).1]; exact hf⟩
  obtain ⟨c, hc, rfl⟩ := List.mem_map.mp hm
  have := h c hc
  omega
theorem txtOf_len {cs : List Int} : (txtOf cs).length ≤ cs.length * 3 := by
  have := joinW_len [32] (cs.map fun c => wd c.toNat) fun w hw => by
    obtain ⟨c, _, rfl⟩ := List.mem_map.mp hw
    exact (wd_len _).2
  rw [List.length_map] at this
  exact this
theorem txtOf_lt {cs : List Int} (h : ∀ c ∈ cs, 0 ≤ c ∧ c < 100) : ∀ c ∈ txtOf cs, c < 128 := joinW_lt (by decide) _ fun w hw c hcw => by
  obtain ⟨z, hz, rfl⟩ := List.mem_map.mp hw
  have h1 := h z hz
  have := wd_fig z.toNat (by omega) c hcw
  omega
abbrev s_law : Stmt := topS 24
abbrev n_law : List Str := ["_law_script", "_law_d", "_law_sets_here", "_law_tapes", "_law_tape_here", "_law_handed", "_law_text", "_law_found", "_law_at", "_law_bad", "_law_k", "_law_code"]
theorem sc_law : FnScope n_law ["_law_script"] (defScope s_law) := ⟨rfl, rfl, rfl, by decide +kernel, rfl, by decide +kernel, by decide +kernel⟩

theorem ok_law {CT CS CA CN CM CX cL pL gR : Addr} {fdR : FuncData} {f : Addr} {oc kV doc pm ct : Value} {od an : Option Addr} {osl : Array (Option Value)} (lk : K.lookup f = some ⟨oc, od, .func (PySem.W.fnOf "law" "law" (defArgs s_law) (defBody s_law) (defScope s_law) .none kV doc pm an (.ref cL) ct), osl⟩) (hcL : PySem.W.codeIn K (.ref cL) "law" = true)
    (TB : TabB base mg cL pL) (B : Bl mg) (M : RefC K mg CT CS CA CN CM CX CA false true false false false) (noA : PySem.W.findIn K (.ref CA) "at" = some none) (FR : Fun K "_law_refused" "_law_refused" s_q_refused gR fdR) (hmR : mg "_law_refused" = some (.ref gR))
    (g_q_dice : Pm P w K mg base CX0 1 "_law_dice" ["_law_script", "_law_k"] (sp_dice K)) (g_q_off : Pm P w K mg base CX0 1 "_law_off" ["_law_d", "_law_most"] sp_off)
    (g_q_sets : Pm P w K mg base CX0 3 "_law_sets" ["_law_d"] (sp_sets K)) (g_q_tape : Pm P w K mg base CX0 2 "_law_tape" ["_law_d", "_law_sets_here", "_law_most"] (sp_tape K)) (g_written : Pm P w K mg base CX0 2 "written" ["sets", "tape"] (sp_written K)) (g_read_tape : Pm P w K mg base CX0 2 "read_tape" ["sets", "text"] (sp_read_tape K))
    (g_read_tape_x : Pm P w K mg base (L2N.CX P w) 4 "read_tape" ["sets", "text"] (sp_read_tapeX K CX CA)) (g_q_alike : Pm P w K mg base CX0 2 "_law_alike" ["_law_found", "_law_due"] (spA K 2)) (g_q_alike_h : PmH P w K mg base 1 "_law_alike" ["_law_found", "_law_due"] spAH) :
    FnOk P w K mg base CX0 7 f (PySem.W.fnOf "law" "law" (defArgs s_law) (defBody s_law) (defScope s_law) .none kV doc pm an (.ref cL) ct) ["_law_script"] (spLawT K pL) := by
  have hkR := FR.kp
  have hbR : Binds K fdR ["_law_work", "_law_word", "_law_value"] [] := FR.binds fun _ _ _ _ _ _ us hl => match us, hl with | [_, _, _], _ => rfl
  obtain ⟨ocR, odR, kVR, docR, pmR, anR, cdR, ctR, oslR, rfl, lkR, hcR⟩ := FR.ex
  obtain ⟨TT, hTT⟩ : ∃ TT : List (Addr × Str), TT = [(pL, qL)] := ⟨_, rfl⟩
  have hmT : (pL, qL) ∈ TT := by rw [hTT]; exact List.mem_singleton.mpr rfl
  have huT : ∀ p ∈ TT, p.1 = pL → p.2 = qL := fun p hp _ => by rw [hTT] at hp; rw [List.mem_singleton.mp hp]
  refine fn_of lk hcL sc_law (fun vs H Q E h => ?_) (fun A outer s H vs Q E hr h => ?_)
  · obtain ⟨_, _, rfl, _⟩ := h
    rfl
  · suffices hs : ∃ t, PSs (cxOf CX0 P w K mg base n_law "law" (defScope s_law) f (.ref cL) A outer s H E).nox (defBody s_law) t ∧ t { nx := fun _ H' => Q .non H', rt := Q } (start n_law vs) H by
      obtain ⟨t, h1, q⟩ := hs
      exact ⟨t, h1.nox, q⟩
    obtain ⟨a, ns, rfl, hA, hl, hpL, k⟩ := h
    have hTab : Tabs TT H := fun p hp => by
      rw [hTT] at hp
      rw [List.mem_singleton.mp hp]
      exact TabS.nil hpL
    refine ⟨_, (pss_cons (ps_set (i := 1) sc_law.nd rfl (Or.inr rfl) (pe_pm g_q_dice (hr.mono (by decide)) pass0 (pa_cons (pv 0) (pa_cons pe_int pa_nil))))
 (pss_cons (ps_set (i := 2) sc_law.nd rfl (Or.inr rfl) (pe_pm g_q_sets (hr.mono (by decide)) pass0 (pa_cons (pv 1) pa_nil)))
 (pss_cons (ps_setLc (i := 3) (own := [("_law_k", 10)]) (g := gName 10) (tt := tYes) rfl sc_law.nd rfl rfl (sw_true rfl rfl rfl (by decide +kernel)) (pi_range1 (by rfl) B.range (pa_cons pe_int pa_nil)) (blkOk_by (N := n_law) (sc := defScope s_law) (by decide +kernel)) (fun _ _ _ _ _ => pg_name (i := 10) sc_law.nd rfl (Or.inl rfl)) (fun _ _ _ _ _ => pts_nil) (fun _ _ _ _ _ => (pe_pm g_q_tape (hr.mono (by decide)) pass0 (pa_cons (pv 1) (pa_cons (pv 2) (pa_cons (pe_ix (ixK K rfl) (pe_lst (pa_cons pe_int (pa_cons pe_int pa_nil))) (pe_pm g_q_off (hr.mono (by decide)) pass0 (pa_cons (pv 1) (pa_cons pe_int pa_nil))) (fun _ _ => rfl)) pa_nil))))))
 (pss_cons (ps_for PassesOwn.never rfl (piL K rfl (pe_op op_addP (pv 3) (pe_slice (slK K rfl) (pv 3) po_none (po_some pe_int)))) (pg_name (i := 4) sc_law.nd rfl (Or.inl rfl))
 (pss_cons (ps_set (i := 5) sc_law.nd rfl (Or.inl rfl) (pe_callTy (listK K rfl rfl) (by rfl) B.list (by decide +kernel) (pa_cons (pv 4) pa_nil)))
 (pss_cons (ps_set (i := 6) sc_law.nd rfl (Or.inr rfl) (peJoin K rfl (pe_strT (l := [32]) (by decide +kernel)) (pe_lc (own := [("_law_code", 11)]) (g := gName 11) (tt := tYes) rfl sc_law.nd (piL K rfl (pv 4)) (blkOk_by (N := n_law) (sc := defScope s_law) (by decide +kernel)) (fun _ _ _ _ _ => pg_name (i := 11) sc_law.nd rfl (Or.inl rfl)) (fun _ _ _ _ _ => pts_nil) (fun _ _ _ _ _ => (pe_callTy call_str_int (by rfl) B.str_ (by decide +kernel) (pa_cons (pv 11) pa_nil))))))
 (pss_cons (ps_if (PW.pt (pw_or (pt_not (pt_val (pe_pm g_q_alike (hr.mono (by decide)) pass0 (pa_cons (pe_pm g_written (hr.mono (by decide)) pass0 (pa_cons (pv 2) (pa_cons (pv 5) pa_nil))) (pa_cons (pv 6) pa_nil))))) (pw_or1 (pt_cmpR (neK K rfl hr.units) (pv 5) (pv 4) (nomark _)))))
 (pss_cons (ps_ret pe_bl)
 pss_nil)
 pss_nil)
 (pss_cons (ps_set (i := 7) sc_law.nd rfl (Or.inl rfl) (pe_pm g_read_tape (hr.mono (by decide)) pass0 (pa_cons (pv 2) (pa_cons (pv 6) pa_nil))))
 (pss_cons (ps_if (pt_not (pt_val (pe_pm g_q_alike (hr.mono (by decide)) pass0 (pa_cons (pv 7) (pa_cons (pv 4) pa_nil)))))
 (pss_cons (ps_ret pe_bl)
 pss_nil)
 pss_nil)
 (pss_cons (ps_expr (bmK K rfl PySem.F.plainAttrs_list PySem.F.slot_list_append PySem.F.type_list_append mt_append (pv 7) (pa_cons pe_int pa_nil)))
 pss_nil)))))))
 (pss_cons (ps_set (i := 4) sc_law.nd rfl (Or.inl rfl) (pe_ix (ixK K rfl) (pv 3) pe_int (fun _ _ => rfl)))
 (pss_cons (ps_set (i := 8) sc_law.nd rfl (Or.inl rfl) (pe_pm g_q_off (hr.mono (by decide)) pass0 (pa_cons (pv 1) (pa_cons (pe_op op_addP (pe_callB (lenK K rfl) (by rfl) B.len PySem.boot_len (pa_cons (pv 4) pa_nil)) pe_int) pa_nil))))
 (pss_cons (ps_set (i := 9) sc_law.nd rfl (Or.inl rfl) (pe_op op_addP (pe_op op_addP (pe_op op_addP (pe_slice (slK K rfl) (pv 4) po_none (po_some (pv 8))) (pe_lst (pa_cons (pe_op op_addP (pe_op op_addP (pe_callB (lenK K rfl) (by rfl) B.len PySem.boot_len (pa_cons (pe_ix (ixK K rfl) (pv 2) pe_int (fun _ _ => rfl)) pa_nil)) pe_int) (pe_pm g_q_off (hr.mono (by decide)) pass0 (pa_cons (pv 1) (pa_cons pe_int pa_nil)))) pa_nil))) (pe_slice (slK K rfl) (pv 4) (po_some (pv 8)) po_none)) (pe_op op_mulP (pe_lst (pa_cons pe_int pa_nil)) (pe_pm g_q_off (hr.mono (by decide)) pass0 (pa_cons (pv 1) (pa_cons pe_int pa_nil))))))
 (Evl.pss_cut (ps_if (pt_cmpR op_gt (pv 8) pe_int (nomark _))
 (pss_cons (ps_set (i := 9) sc_law.nd rfl (Or.inl rfl) (pv 4))
 pss_nil)
 pss_nil)
 (pss_cons (ps_set (i := 6) sc_law.nd rfl (Or.inr rfl) (peJoin K rfl (pe_strT (l := [32]) (by decide +kernel)) (pe_lc (own := [("_law_code", 11)]) (g := gName 11) (tt := tYes) rfl sc_law.nd (piL K rfl (pv 9)) (blkOk_by (N := n_law) (sc := defScope s_law) (by decide +kernel)) (fun _ _ _ _ _ => pg_name (i := 11) sc_law.nd rfl (Or.inl rfl)) (fun _ _ _ _ _ => pts_nil) (fun _ _ _ _ _ => (pe_callTy call_str_int (by rfl) B.str_ (by decide +kernel) (pa_cons (pv 11) pa_nil))))))
 (Evl.pss_cut (ps_if (PW.pt (pw_and (pt_cmpR op_lt (pv 8) pe_int (nomark _)) (pw_and1 (pt_not (pt_val (pe_refN (k := 4) (T := TT) (GG := GGat CA [116, 97, 112, 101]) (names := []) (by rfl) hmR hkR lkR hcR hbR rfl sc_q_refused rfl (Or.inl rfl) (fun f c' s H Q tl l v hr' act hc gg => refused_gg B M noA g_q_alike_h rfl (by decide) (by decide) (by decide) (hr'.mono (by decide)) act hc gg) TB rfl hmT huT (hr.mono (by decide)) (lamN_by (N := n_law) (sc := defScope s_law) (by decide +kernel)) (.inl ⟨rfl, rfl, fun q body scope cl pm cv ct => rfl⟩) (fun A outer s H E f c' hr' => (pe_pm g_read_tape_x hr' (L2N.passes_call (L2N.takes_of rfl rfl rfl rfl) (fun _ _ _ _ h => h)) (pa_cons (pv 2) (pa_cons (pv 6) pa_nil)))) (pa_cons (pe_strT (l := [116, 97, 112, 101]) (by decide +kernel)) (pa_cons (pv 8) pa_nil))))))))
 (pss_cons (ps_ret pe_bl)
 pss_nil)
 pss_nil)
 (pss_cons (ps_ret (pe_refN (k := 4) (T := TT) (GG := GGat CA [116, 97, 112, 101]) (names := ["_law_a"]) (by rfl) hmR hkR lkR hcR hbR rfl sc_q_refused rfl (Or.inl rfl) (fun f c' s H Q tl l v hr' act hc gg => refused_gg B M noA g_q_alike_h rfl (by decide) (by decide) (by decide) (hr'.mono (by decide)) act hc gg) TB rfl hmT huT (hr.mono (by decide)) (lamN_by (N := n_law) (sc := defScope s_law) (by decide +kernel)) (.inr ⟨_, _, _, "_law_a", rfl, rfl, fun u T q body scope cl pm cv ct => ⟨_, rfl, rfl⟩⟩) (fun A outer s H E f c' hr' => (pe_pm g_read_tape_x hr' (L2N.passes_call (L2N.takes_of rfl rfl rfl rfl) (fun _ _ _ _ h => h)) (pa_cons (pv 2) (pa_cons (peJoin K rfl (pe_strT (l := [32]) (by decide +kernel)) (pe_op op_mulP (pe_lst (pa_cons (pe_strT (l := [48]) (by decide +kernel)) pa_nil)) (pe_op op_addP pe_int (pe_pm g_q_off (Room.mono (j := 1) (k := 4) hr' (by decide)) pass0 (pa_cons (pv 1) (pa_cons pe_int pa_nil)))))) pa_nil)))) (pa_cons (pe_strT (l := [116, 97, 112, 101]) (by decide +kernel)) (pa_cons pe_int pa_nil))))
 pss_nil))))))))))), ?_⟩
    refine go_st (σ := [some (.ref a), none, none, none, none, none, none, none, none, none, none, none]) rfl ?_
    refine go_dice rfl hA hl fun d hd0 => ?_
    wtm_at "r"
    refine wp_sets fun s A' B' hs g _ _ => ?_
    have n10 := g.n10
    have eF1 : Ex H (upd H s (.tup [.str (tx A'), .str (tx B')])) := ex_new hs
    have hs1 : (upd H s (.tup [.str (tx A'), .str (tx B')])) s = some (.tup [.str (tx A'), .str (tx B')]) := upd_same
    revert eF1 hs1
    generalize upd H s (.tup [.str (tx A'), .str (tx B')]) = F1
    intro eF1 hs1
    have hS : SetsAt K F1 s A' B' := SqT.of hs1
    wtm_at "r"
    refine wp_lcR (fun _ => rfl) ?_
    wtm_at "r"
    refine ⟨3, rfl, by decide, fun Dl hD => ?_⟩
    refine ⟨fun i acc F2 => ∃ ts : List (Addr × List Int), acc = ts.map (fun t => V.ref t.1) ∧ ts.length = i ∧ Ex F1 F2 ∧ ∀ t ∈ ts, F2 t.1 = some (.lst (il t.2)) ∧ CodesOk A'.length t.2 ∧ t.2.length ≤ 200 ∧ t.1 ≠ Dl, ⟨[], rfl, rfl, ex_new hD, fun t h => by cases h⟩, ?_, ?_⟩
    · rintro i acc F2 hi q2 ⟨ts, rfl, hts, e2, ht⟩
      show Wp _ _ _ _
      wtm_at "r"
      refine ⟨fun _ => ?_, fun z => (by cases z)⟩
      wtm_at "r"
      refine ⟨(by show 2 ≤ 100000; decide), fun p hp => ?_⟩
      wtm_at "r"
      refine wp_off (by omega) (by omega) fun r hr => ?_
      obtain ⟨most, hmo, hm2⟩ : ∃ most : Nat, atI [V.int 20, V.int 200] (r : Int) = some (.int (most : Int)) ∧ most ≤ 200 := by
        match r, hr with
        | 0, _ => exact ⟨20, atI_nat (j := 0) rfl, by decide⟩
        | 1, _ => exact ⟨200, atI_nat (j := 1) rfl, by decide⟩
        | n + 2, h => omega
      wtm_at "r"
      refine wp_ixL (SqL.of upd_same) hmo ?_
      wtm_at "r"
      refine wp_tape (ex_t (e2.trans (ex_new hp)) hS) g.n1 g.n10 (by omega) fun t cs hq hc hcl => ?_
      have q3 := at_ne (v := .lst (il cs)) (at_ne (v := .lst [V.int 20, V.int 200]) q2 hp) hq
      refine ⟨q3, by rw [List.length_map]; omega, ts ++ [(t, cs)], by rw [List.map_append]; rfl, by rw [List.length_append, hts]; rfl, ex_mut ((e2.trans (ex_new hp)).trans (ex_new hq)) hD, fun u hu => ?_⟩
      have ndt : t ≠ Dl := (ne_of_none (at_ne q2 hp) hq).symm
      rcases List.mem_append.mp hu with h | h
      · obtain ⟨h1, h2, h3, h4⟩ := ht u h
        refine ⟨?_, h2, h3, h4⟩
        rw [upd_ne h4]
        exact at_ne (at_ne h1 hp) hq
      · rw [List.mem_singleton.mp h]
        refine ⟨?_, hc, Nat.le_trans hcl hm2, ndt⟩
        rw [upd_ne ndt]
        exact upd_same
    · rintro acc F2 q2 ⟨ts, rfl, hts, e2, ht⟩
      have hs2 := e2 _ _ hs1
      have hS2 := ex_t e2 hS
      have all : ∀ (F3 : Hp), Ex F2 F3 → ∀ t ∈ ts ++ ts.take 1, F3 t.1 = some (.lst (il t.2)) ∧ CodesOk A'.length t.2 ∧ t.2.length ≤ 200 := fun F3 e3 t h => by
        have h2 : t ∈ ts := (List.mem_append.mp h).elim id List.mem_of_mem_take
        obtain ⟨h3, h4, h5, _⟩ := ht t h2
        exact ⟨e3 _ _ h3, h4, h5⟩
      refine go_forLx ?_
      wtm_at "r"
      refine wp_slL (SqL.of q2) fun p hp => ?_
      rw [show (1 : Int) = ((1 : Nat) : Int) from rfl, cutV_take]
      refine wp_addL (at_ne q2 hp) upd_same (by rw [List.length_map, List.length_take, List.length_map]; omega) fun q hq => ?_
      have e3 : Ex F2 _ := (ex_new (u := .lst ((ts.map (fun t => V.ref t.1)).take 1)) hp).trans (ex_new (u := .lst (ts.map (fun t => V.ref t.1) ++ (ts.map (fun t => V.ref t.1)).take 1)) hq)
      have hQ := upd_same (H := upd F2 p (.lst ((ts.map (fun t => V.ref t.1)).take 1))) (a := q) (o := .lst (ts.map (fun t => V.ref t.1) ++ (ts.map (fun t => V.ref t.1)).take 1))
      revert e3 hQ
      generalize upd (upd F2 p _) q _ = F3
      intro e3 hQ
      refine ⟨q, _, rfl, SqL.of hQ, fun i σ F => ∃ (v4 v5 v6 v7 : Option V), σ = [some (.ref a), some (.ref d), some (.ref s), some (.ref Dl), v4, v5, v6, v7, none, none, none, none] ∧ Ex F3 F, ⟨_, _, _, _, rfl, exr F3⟩, fun i σ F _ ⟨_, _, _, _, _, e⟩ => ex_l e (SqL.of hQ), ?_, ?_⟩
      · rintro i y σ F hy ⟨v4, v5, v6, v7, rfl, e⟩
        rw [← List.map_take, ← List.map_append, List.getElem?_map] at hy
        obtain ⟨t, hty, rfl⟩ : ∃ t, (ts ++ ts.take 1)[i]? = some t ∧ y = .ref t.1 := by
          cases hq2 : (ts ++ ts.take 1)[i]? with
          | none => rw [hq2] at hy; cases hy
          | some t => rw [hq2] at hy; exact ⟨t, rfl, (Option.some.inj hy).symm⟩
        obtain ⟨t, cs⟩ := t
        obtain ⟨ht1, ht2, ht3⟩ := all F (e3.trans e) _ (List.mem_of_getElem? hty)
        have ht1 : F t = some (.lst (il cs)) := ht1
        have ht3 : cs.length ≤ 200 := ht3
        have ht2 : CodesOk A'.length cs := ht2
        have hSF := ex_t (e3.trans e) hS2
        wtm_at "r"
        refine wp_listL (SqL.of ht1) ?_
        wtm_at "gz"
        intro h hh F4 q4 e4
        wtm_at "r"
        refine wp_m1 ?_
        wtm_at "r"
        refine ⟨⟨_, rfl⟩, ?_⟩
        refine wp_lcL (fun _ => rfl) ?_
        wtm_at "r"
        refine ⟨t, il cs, rfl, SqL.of (e4 _ _ ht1), fun D2 hD2 => ⟨fun i acc F5 => acc = (cs.take i).map (fun c => V.str (tx (wd c.toNat))) ∧ Ex F4 F5, ⟨rfl, ex_new hD2⟩, fun i acc F5 ⟨_, e5⟩ => SqL.of (e5 _ _ (e4 _ _ ht1)), ?_, ?_⟩⟩
        · rintro i y acc F5 hy hDF ⟨rfl, e5⟩
          obtain ⟨c, hcy, rfl, hmem⟩ := il_at hy
          have hcc := ht2 c hmem
          have hil := (List.getElem?_eq_some_iff.mp hcy).1
          show Wp _ _ _ _
          wtm_at "r"
          refine ⟨fun _ => ?_, fun z => (by cases z)⟩
          wtm_at "r"
          refine wp_strI (n := c.toNat) (by omega) (by omega) ?_
          refine ⟨hDF, by rw [List.length_map, List.length_take]; omega, ?_, ex_mut e5 hD2⟩
          rw [take_more hcy, List.map_append]
          rfl
        · rintro acc F5 hDF ⟨rfl, e5⟩
          rw [List.length_map, List.take_length] at hDF
          refine wp_joinW (ws := cs.map fun c => wd c.toNat) (SqL.of (by rw [List.map_map]; exact hDF)) (by rw [List.length_map]; omega) (fun w hw => ?_) ?_
          · obtain ⟨c, _, rfl⟩ := List.mem_map.mp hw
            exact (wd_len _).2
          · have hj : TL.joinL [32] (cs.map fun c => wd c.toNat) = txtOf cs := rfl
            rw [hj]
            have e45 := e4.trans e5
            have hS5 := ex_t e45 hSF
            wtm_at "r"
            refine wp_written hS5 (SqL.of (e5 _ _ q4)) g ht2 ht3 ?_
            wtm_at "r"
            refine wp_alike (n := 1) (.str _) (.str _) (.inl rfl) ?_
            wtm_at "r"
            refine bF rfl ?_
            wtm_at "r"
            refine wp_neIL (SqL.of (e5 _ _ q4)) (SqL.of (e45 _ _ ht1)) ?_
            wtm_at "r"
            refine bF (by simp) ?_
            wtm_at "r"
            refine wp_read_tape hS5 g ht2 ht3 fun p6 hp6 => ?_
            wtm_at "r"
            refine wp_alike (n := 1) (dp_I (SqL.of upd_same)) (dp_I (SqL.of (at_ne (e45 _ _ ht1) hp6))) (.inr ⟨_, .inl rfl, by rw [List.length_map]; omega, fun e he => by obtain ⟨c, _, rfl⟩ := List.mem_map.mp he; rfl⟩) ?_
            wtm_at "r"
            refine bF rfl ?_
            wtm_at "r"
            refine wp_bmL ?_
            wtm_at "r"
            refine ⟨p6, _, rfl, SqL.of upd_same, ?_⟩
            wtm_at "r"
            refine wp_append upd_same (by rw [List.length_map]; omega) ?_
            wtm_at "r"
            exact go_turn rfl ⟨_, _, _, _, rfl, e.trans (e45.trans (ex_mut (ex_new hp6) hp6))⟩
      · rintro σ F ⟨v4, v5, v6, v7, rfl, e⟩
        obtain ⟨t0, ht0⟩ : ∃ t0, ts[0]? = some t0 := ⟨_, List.getElem?_eq_getElem (by omega)⟩
        obtain ⟨hx1, hc, hcl, _⟩ := ht t0 (List.mem_of_getElem? ht0)
        obtain ⟨t, cs⟩ := t0
        have hx1 : F2 t = some (.lst (il cs)) := hx1
        have hc : CodesOk A'.length cs := hc
        have hcl : cs.length ≤ 200 := hcl
        have e2F := e3.trans e
        have hT := e2F _ _ hx1
        have hSF := e2F _ _ hs2
        have hTabF : Tabs TT F := Tabs.ext hTab (eF1.trans (e2.trans e2F))
        wtm_at "r"
        refine wp_ixL (SqL.of (e2F _ _ q2)) (v := .ref t) (atI_nat (j := 0) (by rw [List.getElem?_map, ht0]; rfl)) ?_
        wtm_at "r"
        rw [List.length_map]
        refine wp_off (by omega) (by omega) fun at_ hat => ?_
        wtm_at "r"
        refine wp_slL (SqL.of hT) ?_
        rw [cutV_take, ← List.map_take]
        wtm_at "gz"
        intro p5 hp5 F5 q5 e5
        wtm_at "r"
        refine wp_ixT (SqT.of (e5 _ _ hSF)) rfl ?_
        wtm_at "r"
        refine wp_off (by omega) (by omega) fun r8 hr8 => ?_
        wtm_at "r"
        refine ⟨(by show 1 ≤ 100000; decide), ?_⟩
        wtm_at "gz"
        intro p6 hp6 F6 q6 e6
        refine wp_addL (e6 _ _ q5) q6 (by rw [List.length_map, List.length_take]; show _ + 1 ≤ _; omega) ?_
        wtm_at "gz"
        intro p7 hp7 F7 q7 e7
        have e47 : Ex F F7 := e5.trans (e6.trans e7)
        wtm_at "r"
        refine wp_slL (SqL.of (e47 _ _ hT)) ?_
        rw [cutV_drop, ← List.map_drop]
        wtm_at "gz"
        intro p8 hp8 F8 q8 e8
        refine wp_addL (e8 _ _ q7) q8 (by
          rw [List.length_append, List.length_map, List.length_map, List.length_take, List.length_drop]
          show _ + 1 + _ ≤ _
          omega) ?_
        wtm_at "gz"
        intro p9 hp9 F9 q9 e9
        wtm_at "r"
        refine ⟨(by show 1 ≤ 100000; decide), ?_⟩
        wtm_at "gz"
        intro p10 hp10 F10 q10 e10
        wtm_at "r"
        refine wp_off (by omega) (by omega) fun r2 hr2 => ?_
        refine wp_rep q10 (by show 1 * r2 ≤ _; omega) (by omega) ?_
        wtm_at "gz"
        intro p11 hp11 F11 q11 e11
        have q911 := (e10.trans e11) _ _ q9
        have hrl : ((List.replicate r2 [V.int 99]).flatten) = il (List.replicate r2 99) := by
          rw [List.flatten_replicate_singleton]
          exact List.map_replicate.symm
        rw [hrl] at q11
        refine wp_addL q911 q11 (by
          rw [List.length_append, List.length_append, List.length_map, List.length_map, List.length_map, List.length_take, List.length_drop, List.length_replicate]
          show _ + 1 + _ + _ ≤ _
          omega) ?_
        wtm_at "gz"
        intro p12 hp12 F12 q12 e12
        have eF12 : Ex F F12 := e47.trans (e8.trans (e9.trans (e10.trans (e11.trans e12))))
        obtain ⟨bs, hbs⟩ : ∃ bs : List Int, bs = cs.take at_ ++ [(A'.length : Int) + 2 + (r8 : Int)] ++ cs.drop at_ ++ List.replicate r2 99 := ⟨_, rfl⟩
        have q12 : F12 p12 = some (.lst (il bs)) := by
          rw [q12, hbs, show ∀ a b : List Int, il (a ++ b) = il a ++ il b from fun a b => List.map_append, show ∀ a b : List Int, il (a ++ b) = il a ++ il b from fun a b => List.map_append, show ∀ a b : List Int, il (a ++ b) = il a ++ il b from fun a b => List.map_append]
          rfl
        have hb100 : ∀ c ∈ bs, 0 ≤ c ∧ c < 100 := fun c hcb => by
          rw [hbs] at hcb
          rcases List.mem_append.mp hcb with h | h
          · rcases List.mem_append.mp h with h | h
            · rcases List.mem_append.mp h with h | h
              · have := hc c (List.mem_of_mem_take h); omega
              · rw [List.mem_singleton.mp h]; omega
            · have := hc c (List.mem_of_mem_drop h); omega
          · rw [(List.mem_replicate.mp h).2]; omega
        have hbl : bs.length ≤ 202 := by
          rw [hbs]
          simp only [List.length_append, List.length_singleton, List.length_take, List.length_drop, List.length_replicate]
          omega
        have hbf : at_ < 200 → FirstB A'.length bs (some at_) := fun h200 => by
          have hat' : at_ ≤ cs.length := by omega
          refine ⟨⟨(A'.length : Int) + 2 + (r8 : Int), ?_, .inr (.inr (by omega))⟩, fun j c hj hcj hb => ?_⟩
          · rw [hbs, List.append_assoc, List.append_assoc, List.getElem?_append_right (by rw [List.length_take]; omega), List.length_take, Nat.min_eq_left hat', Nat.sub_self]
            rfl
          · rw [hbs, List.append_assoc, List.append_assoc, List.getElem?_append_left (by rw [List.length_take]; omega), List.getElem?_take, if_pos hj] at hcj
            have := hc c (List.mem_of_getElem? hcj)
            rcases hb with hb | hb | hb <;> omega
        refine go_cut (fun σ F13 => ∃ (b : Addr) (cs2 : List Int), σ = [some (.ref a), some (.ref d), some (.ref s), some (.ref Dl), some (.ref t), v5, v6, v7, some (.int (at_ : Int)), some (.ref b), none, none] ∧ Ex F12 F13 ∧ F13 b = some (.lst (il cs2)) ∧ cs2.length ≤ 202 ∧ (∀ c ∈ cs2, 0 ≤ c ∧ c < 100) ∧ (at_ < 200 → FirstB A'.length cs2 (some at_))) ?_ ?_
        · wtm_at "r"
          refine ⟨fun h1 => ?_, fun h1 => ?_⟩
          · have h1 := of_decide_eq_true h1
            wtm_at "r"
            exact go_turn rfl ⟨t, cs, rfl, exr F12, eF12 _ _ hT, by omega, fun c h => by have := hc c h; omega, fun z => by omega⟩
          · exact go_turn rfl ⟨p12, bs, rfl, exr F12, q12, hbl, hb100, hbf⟩
        · rintro σ F13 ⟨b, cs2, rfl, e13, q13, hl2, h2, hf2⟩
          wtm_at "r"
          refine wp_m1 ?_
          wtm_at "r"
          refine ⟨⟨_, rfl⟩, ?_⟩
          refine wp_lcL (fun _ => rfl) ?_
          wtm_at "r"
          refine ⟨b, il cs2, rfl, SqL.of q13, fun D2 hD2 => ⟨fun i acc F5 => acc = (cs2.take i).map (fun c => V.str (tx (wd c.toNat))) ∧ Ex F13 F5, ⟨rfl, ex_new hD2⟩, fun i acc F5 ⟨_, e5⟩ => SqL.of (e5 _ _ q13), ?_, ?_⟩⟩
          · rintro i y acc F5 hy hDF ⟨rfl, e5⟩
            obtain ⟨c, hcy, rfl, hmem⟩ := il_at hy
            have hcc := h2 c hmem
            have hil := (List.getElem?_eq_some_iff.mp hcy).1
            show Wp _ _ _ _
            wtm_at "r"
            refine ⟨fun _ => ?_, fun z => (by cases z)⟩
            wtm_at "r"
            refine wp_strI (n := c.toNat) (by omega) (by omega) ?_
            refine ⟨hDF, by rw [List.length_map, List.length_take]; omega, ?_, ex_mut e5 hD2⟩
            rw [take_more hcy, List.map_append]
            rfl
          · rintro acc F14 hDF ⟨rfl, e14⟩
            rw [List.length_map, List.take_length] at hDF
            refine wp_joinW (ws := cs2.map fun c => wd c.toNat) (SqL.of (by rw [List.map_map]; exact hDF)) (by rw [List.length_map]; omega) (fun w hw => ?_) ?_
            · obtain ⟨c, _, rfl⟩ := List.mem_map.mp hw
              exact (wd_len _).2
            · have hj : TL.joinL [32] (cs2.map fun c => wd c.toNat) = txtOf cs2 := rfl
              rw [hj]
              have eFF : Ex F F14 := eF12.trans (e13.trans e14)
              have hs14 := eFF _ _ hSF
              have hT14 : Tabs TT F14 := Tabs.ext hTabF eFF
              have htl := txtOf_len (cs := cs2)
              have ht128 := txtOf_lt h2
              wtm_at "r"
              refine go_cut (fun σ F15 => σ = [some (.ref a), some (.ref d), some (.ref s), some (.ref Dl), some (.ref t), v5, some (.str (tx (txtOf cs2))), v7, some (.int (at_ : Int)), some (.ref b), none, none] ∧ ExtN F14 F15 ∧ Tabs TT F15) ?_ ?_
              · wtm_at "r"
                refine ⟨fun h1 => ?_, fun h1 => ?_⟩
                · have h1 : (at_ : Int) < 200 := of_decide_eq_true h1
                  wtm_at "r"
                  refine wp_refN hT14 fun F15 eN T15 => ⟨.int (at_ : Int), fun H Q q => ⟨_, rfl, q⟩, .inl ⟨_, rfl⟩, fun E' hE => ?_, ?_⟩
                  · show Wp _ _ _ _
                    refine wp_call ?_
                    wtm_at "r"
                    intro H5 w5 Q5 k5
                    exact ⟨s, A', B', txtOf cs2, .tape at_, rfl, w5.t (SqT.of (ext_t eN hs14)), g, by omega, ht128, oc_codes h2 (hf2 (by omega)), RetE.use w5 fun dd H' w' hx' n' no' => hE dd H' w' hx' n' no'⟩
                  · wtm_at "r"
                    refine bF rfl ?_
                    exact go_turn rfl ⟨rfl, eN, T15⟩
                · refine bF rfl ?_
                  exact go_turn rfl ⟨rfl, ExtN.refl F14, hT14⟩
              · rintro σ F15 ⟨rfl, eN, T15⟩
                have hs15 := ext_t eN hs14
                wtm_at "r"
                refine wp_refN T15 fun F16 eN2 T16 => ⟨.int 200, fun H Q q => q, .inl ⟨_, rfl⟩, fun E' hE => ?_, ?_⟩
                · show Wp _ _ _ _
                  have hs16 := ext_t eN2 hs15
                  refine wp_call ?_
                  wtm_at "r"
                  refine wp_m1 ?_
                  wtm_at "r"
                  refine ⟨⟨_, rfl⟩, ?_⟩
                  wtm_at "r"
                  refine ⟨(by show 1 ≤ 100000; decide), ?_⟩
                  wtm_at "gz"
                  intro p1 hp1 F17 q17 e17
                  wtm_at "r"
                  refine wp_off (by omega) (by omega) fun r3 hr3 => ?_
                  wtm_at "r"
                  rw [show (201 : Int) + (r3 : Int) = ((201 + r3 : Nat) : Int) by omega]
                  refine wp_rep q17 (by show 1 * (201 + r3) ≤ _; omega) (by omega) ?_
                  wtm_at "gz"
                  intro p2 hp2 F18 q18 e18
                  have hz : (List.replicate (201 + r3) [V.str (tx [48])]).flatten = (List.replicate (201 + r3) [48]).map fun w => V.str (tx w) := by
                    rw [List.flatten_replicate_singleton, List.map_replicate]
                  rw [hz] at q18
                  refine wp_joinW (ws := List.replicate (201 + r3) [48]) (SqL.of q18) (by rw [List.length_replicate]; omega) (fun w hw => by rw [(List.mem_replicate.mp hw).2]; decide) ?_
                  have hj2 : TL.joinL [32] (List.replicate (201 + r3) [48]) = txtOf (List.replicate (201 + r3) 0) := by
                    unfold txtOf
                    rw [List.map_replicate]
                    rfl
                  rw [hj2]
                  have h0 : ∀ c ∈ List.replicate (201 + r3) (0 : Int), 0 ≤ c ∧ c < 100 := fun c hcb => by rw [(List.mem_replicate.mp hcb).2]; omega
                  have hl0 := txtOf_len (cs := List.replicate (201 + r3) (0 : Int))
                  rw [List.length_replicate] at hl0
                  have hfz : FirstB A'.length (List.replicate (201 + r3) (0 : Int)) (some 200) := by
                    refine ⟨⟨0, by rw [List.getElem?_replicate, if_pos (by omega)], .inl (Nat.le_refl _)⟩, fun j c hj hcj hb => ?_⟩
                    have := (List.mem_replicate.mp (List.mem_of_getElem? hcj)).2
                    rcases hb with hb | hb | hb <;> omega
                  wtm_at "r"
                  intro H5 w5 Q5 k5
                  exact ⟨s, A', B', txtOf (List.replicate (201 + r3) 0), .tape 200, rfl, w5.t (SqT.of ((e17.trans e18) _ _ hs16)), g, by omega, txtOf_lt h0, oc_codes h0 hfz, RetE.use w5 fun dd H' w' hx' n' no' => hE dd H' (w'.down (e17.trans e18)) hx' ((e17.trans e18).free n') no'⟩
                · exact fun H1 _ => k H1
end
/-- no empty table among the written objects -/
def tabFree (K : PySem.W.Frag) : Bool := K.all fun p => !(match p.2.data with | .fields vs => vs.isEmpty | _ => false)
theorem mem_lookA {a : Addr} {u : Obj} : ∀ {l : List (Addr × Obj)}, l.lookup a = some u → (a, u) ∈ l
  | [], h => by cases h
  | (b, v) :: r, h => by
    rw [List.lookup_cons] at h
    cases e : (a == b) with
    | true =>
      rw [e] at h
      have e2 : a = b := beq_iff_eq.mp e
      cases h
      rw [e2]
      exact List.mem_cons_self
    | false =>
      rw [e] at h
      exact List.mem_cons_of_mem _ (mem_lookA h)
open LamX in
theorem walk_ofTab {l : PySem.W.OpenLaw} {n k : Nat} {q : Program} {loose : List Str} {XP : (Str → Option Value) → Heap → Prop} {YP : World → Heap → Prop} {d : DefRec} {K : Params → PySem.W.Frag} {x x0 : Str}
    (hn : l.most = some n) (hn2 : n ≤ sizeLine) (hdf : d.params.defaults = []) (hr : Room k callerA) (hY : ∀ (w : World) (h : Heap), YP w h → (K w.params).In h) (hrec : (PyProof.Rows.recsOf q).find? (fun e => e.name == x0) = some d) (hfree : ∀ w : World, tabFree (K w.params) = true)
    (F : ∀ (w : World) (mg : Str → Option Value) (fa : Addr) (h : Heap), (K w.params).In h → h.Ns mainGlobals mg → mg d.name = some (.ref fa) → ∃ fd : FuncData, (∃ oc od osl, (K w.params).lookup fa = some ⟨oc, od, .func fd, osl⟩) ∧
      (∀ (s : Shared) (u : Value), BindsTo s fd ⟨[u], []⟩ [(x, u)]) ∧ ∀ (c P : Addr), fd.code = .ref c → ∀ base : Heap, (K w.params).In base → base.Ns mainGlobals mg → TabB base mg c P → FnOk l.prog w (K w.params) mg base CX0 k fa fd [x] (spLawT (K w.params) P)) (h63 : n ≤ 63) :
    PySem.W.WalkO q loose XP YP l.row.toRowW d [] (fun f vs => PySem.call f vs) := by
  refine Att.attach_callB hn hdf fun w s₀ s₁ mg mb fa o pm cd doc a vs ns G Y ho hd hcd hmg hobj hints hlen hbits hg => ?_
  have KX := hY w _ Y
  obtain ⟨fd, ⟨oc, od, osl, lk⟩, hb, hF⟩ := F w mg fa _ KX G.T.g hmg
  obtain ⟨a2, o2, fd2, c, P, t1, t2, t3, t4, t5, t6⟩ := G.T.tab d (List.mem_of_find?_eq_some hrec)
  rw [hmg] at t1
  cases t1
  have lk2 := KX _ _ lk
  rw [lk2] at t2
  cases t2
  cases t3
  have hP : s₁.heap.get? P = some { cls := .none, data := .fields #[] } := t6.2
  have nP : (K w.params).lookup P = none := by
    cases e : (K w.params).lookup P with
    | none => rfl
    | some u =>
      have e1 := KX _ _ e
      rw [hP] at e1
      cases e1
      have := List.all_eq_true.mp (hfree w) _ (mem_lookA e)
      simp at this
  have C := PySem.W.CodeHd.of t5 t6
  exact law_callTs (cs := [(c, P)]) (sp := spLawT (K w.params) P) (CX := CX0) KX G.T.g G.T.b G.T.builtins G.T.nolimit hg (fun p hp => by rw [List.mem_singleton.mp hp]; exact hP) (fun p hp => by rw [List.mem_singleton.mp hp]; exact nP) (fun p hp => by rw [List.mem_singleton.mp hp]; exact C)
    G.T.bmain hobj hints (Nat.le_trans hlen hn2) hr (fun base h1 h2 h3 => hF c P t4 base h1 h2 (h3 (c, P) (List.mem_singleton.mpr rfl))) hb (fun H hH hS => ⟨a, ns, rfl, hS, Nat.le_trans hlen h63, hH (c, P) (List.mem_singleton.mpr rfl), fun H1 => rfl⟩) fun H e s' h => h
theorem all_mk {l : PySem.W.OpenLaw} {w : World} {K : PySem.W.Frag} {h : Heap} {mg : Str → Option Value} {fa f0 f1 f2 f3 f4 f5 f6 f7 f8 f9 f10 f11 CT C_BadText N_BadText fxBadText C_BadTape N_BadTape fxBadTape C_BadSets C_NoSign C_BadNumber : Addr} (X : K.In h) (G : h.Ns mainGlobals mg) (hfa : mg "law" = some (.ref fa))
    {od0 an0 od1 an1 od2 an2 od3 an3 od4 an4 od5 an5 od6 an6 od7 an7 od8 an8 od9 an9 od10 an10 od11 an11 odxBadText anxBadText odxBadTape anxBadTape : Option Addr} {sl0 sl1 sl2 sl3 sl4 sl5 sl6 sl7 sl8 sl9 sl10 sl11 slxBadText slxBadTape : Array (Option Value)} {oc0 kV0 dc0 pm0 cd0 ct0 oc1 kV1 dc1 pm1 cd1 ct1 oc2 kV2 dc2 pm2 cd2 ct2 oc3 kV3 dc3 pm3 cd3 ct3 oc4 kV4 dc4 pm4 cd4 ct4 oc5 kV5 dc5 pm5 cd5 ct5 oc6 kV6 dc6 pm6 cd6 ct6 oc7 kV7 dc7 pm7 cd7 ct7 oc8 kV8 dc8 pm8 cd8 ct8 oc9 kV9 dc9 pm9 cd9 ct9 oc10 kV10 dc10 pm10 cd10 ct10 oc11 kV11 dc11 pm11 cd11 ct11 ocxBadText kVxBadText dcxBadText pmxBadText cdxBadText ctxBadText ocxBadTape kVxBadTape dcxBadTape pmxBadTape cdxBadTape ctxBadTape : Value} {t_MOST_SIGNS t_MOST_CODES t_FIGURES : Tok} {nm_BadText q_BadText : Str} {bs_BadText : List Value} {sn_BadText : List Str} {sub_BadText : List Value} {ab_BadText : Bool} {col_BadText : Option Bool} {dd_BadText : Option Addr} {m0_BadText m1_BadText m2_BadText m3_BadText m5_BadText : Option Value} {nm_BadTape q_BadTape : Str} {bs_BadTape : List Value} {sn_BadTape : List Str} {sub_BadTape : List Value} {ab_BadTape : Bool} {col_BadTape : Option Bool} {dd_BadTape : Option Addr} {m0_BadTape m1_BadTape m2_BadTape m3_BadTape m5_BadTape : Option Value}
    (a0 : PySem.W.nsIn K mainGlobals "need_sets" = some (some (.ref f0))) (l0 : K.lookup f0 = some ⟨oc0, od0, .func (PySem.W.fnOf "need_sets" "need_sets" (defArgs s_need_sets) (defBody s_need_sets) (defScope s_need_sets) .none kV0 dc0 pm0 an0 cd0 ct0), sl0⟩) (c0 : PySem.W.codeIn K cd0 "need_sets" = true) (k0 : PySem.W.keepIn K (.ref f0) = true)
    (a1 : PySem.W.nsIn K mainGlobals "need_tape" = some (some (.ref f1))) (l1 : K.lookup f1 = some ⟨oc1, od1, .func (PySem.W.fnOf "need_tape" "need_tape" (defArgs s_need_tape) (defBody s_need_tape) (defScope s_need_tape) .none kV1 dc1 pm1 an1 cd1 ct1), sl1⟩) (c1 : PySem.W.codeIn K cd1 "need_tape" = true) (k1 : PySem.W.keepIn K (.ref f1) = true)
    (a2 : PySem.W.nsIn K mainGlobals "written" = some (some (.ref f2))) (l2 : K.lookup f2 = some ⟨oc2, od2, .func (PySem.W.fnOf "written" "written" (defArgs s_written) (defBody s_written) (defScope s_written) .none kV2 dc2 pm2 an2 cd2 ct2), sl2⟩) (c2 : PySem.W.codeIn K cd2 "written" = true) (k2 : PySem.W.keepIn K (.ref f2) = true)
    (a3 : PySem.W.nsIn K mainGlobals "read_tape" = some (some (.ref f3))) (l3 : K.lookup f3 = some ⟨oc3, od3, .func (PySem.W.fnOf "read_tape" "read_tape" (defArgs s_read_tape) (defBody s_read_tape) (defScope s_read_tape) .none kV3 dc3 pm3 an3 cd3 ct3), sl3⟩) (c3 : PySem.W.codeIn K cd3 "read_tape" = true) (k3 : PySem.W.keepIn K (.ref f3) = true)
    (a4 : PySem.W.nsIn K mainGlobals "_law_dice" = some (some (.ref f4))) (l4 : K.lookup f4 = some ⟨oc4, od4, .func (PySem.W.fnOf "_law_dice" "_law_dice" (defArgs s_q_dice) (defBody s_q_dice) (defScope s_q_dice) .none kV4 dc4 pm4 an4 cd4 ct4), sl4⟩) (c4 : PySem.W.codeIn K cd4 "_law_dice" = true) (k4 : PySem.W.keepIn K (.ref f4) = true)
    (a5 : PySem.W.nsIn K mainGlobals "_law_off" = some (some (.ref f5))) (l5 : K.lookup f5 = some ⟨oc5, od5, .func (PySem.W.fnOf "_law_off" "_law_off" (defArgs s_q_off) (defBody s_q_off) (defScope s_q_off) .none kV5 dc5 pm5 an5 cd5 ct5), sl5⟩) (c5 : PySem.W.codeIn K cd5 "_law_off" = true) (k5 : PySem.W.keepIn K (.ref f5) = true)
    (a6 : PySem.W.nsIn K mainGlobals "_law_alike" = some (some (.ref f6))) (l6 : K.lookup f6 = some ⟨oc6, od6, .func (PySem.W.fnOf "_law_alike" "_law_alike" (defArgs s_q_alike) (defBody s_q_alike) (defScope s_q_alike) .none kV6 dc6 pm6 an6 cd6 ct6), sl6⟩) (c6 : PySem.W.codeIn K cd6 "_law_alike" = true) (k6 : PySem.W.keepIn K (.ref f6) = true)
    (a7 : PySem.W.nsIn K mainGlobals "_law_mixed" = some (some (.ref f7))) (l7 : K.lookup f7 = some ⟨oc7, od7, .func (PySem.W.fnOf "_law_mixed" "_law_mixed" (defArgs s_q_mixed) (defBody s_q_mixed) (defScope s_q_mixed) .none kV7 dc7 pm7 an7 cd7 ct7), sl7⟩) (c7 : PySem.W.codeIn K cd7 "_law_mixed" = true) (k7 : PySem.W.keepIn K (.ref f7) = true)
    (a8 : PySem.W.nsIn K mainGlobals "_law_refused" = some (some (.ref f8))) (l8 : K.lookup f8 = some ⟨oc8, od8, .func (PySem.W.fnOf "_law_refused" "_law_refused" (defArgs s_q_refused) (defBody s_q_refused) (defScope s_q_refused) .none kV8 dc8 pm8 an8 cd8 ct8), sl8⟩) (c8 : PySem.W.codeIn K cd8 "_law_refused" = true) (k8 : PySem.W.keepIn K (.ref f8) = true)
    (a9 : PySem.W.nsIn K mainGlobals "_law_sets" = some (some (.ref f9))) (l9 : K.lookup f9 = some ⟨oc9, od9, .func (PySem.W.fnOf "_law_sets" "_law_sets" (defArgs s_q_sets) (defBody s_q_sets) (defScope s_q_sets) .none kV9 dc9 pm9 an9 cd9 ct9), sl9⟩) (c9 : PySem.W.codeIn K cd9 "_law_sets" = true) (k9 : PySem.W.keepIn K (.ref f9) = true)
    (a10 : PySem.W.nsIn K mainGlobals "_law_tape" = some (some (.ref f10))) (l10 : K.lookup f10 = some ⟨oc10, od10, .func (PySem.W.fnOf "_law_tape" "_law_tape" (defArgs s_q_tape) (defBody s_q_tape) (defScope s_q_tape) .none kV10 dc10 pm10 an10 cd10 ct10), sl10⟩) (c10 : PySem.W.codeIn K cd10 "_law_tape" = true) (k10 : PySem.W.keepIn K (.ref f10) = true)
    (a11 : PySem.W.nsIn K mainGlobals "law" = some (some (.ref f11))) (l11 : K.lookup f11 = some ⟨oc11, od11, .func (PySem.W.fnOf "law" "law" (defArgs s_law) (defBody s_law) (defScope s_law) .none kV11 dc11 pm11 an11 cd11 ct11), sl11⟩) (c11 : PySem.W.codeIn K cd11 "law" = true) (k11 : PySem.W.keepIn K (.ref f11) = true)
    (v_MOST_SIGNS : PySem.W.nsIn K mainGlobals "MOST_SIGNS" = some (some (.int 10 t_MOST_SIGNS)))
    (v_MOST_CODES : PySem.W.nsIn K mainGlobals "MOST_CODES" = some (some (.int 200 t_MOST_CODES)))
    (v_FIGURES : PySem.W.nsIn K mainGlobals "FIGURES" = some (some (.str (tx [48, 49, 50, 51, 52, 53, 54, 55, 56, 57]) t_FIGURES)))
    (z_len : PySem.W.nsIn K mainGlobals "len" = some none)
    (z_list : PySem.W.nsIn K mainGlobals "list" = some none)
    (z_range : PySem.W.nsIn K mainGlobals "range" = some none)
    (z_abs : PySem.W.nsIn K mainGlobals "abs" = some none)
    (z_int_ : PySem.W.nsIn K mainGlobals "int" = some none)
    (z_bool_ : PySem.W.nsIn K mainGlobals "bool" = some none)
    (z_str_ : PySem.W.nsIn K mainGlobals "str" = some none)
    (z_isinstance : PySem.W.nsIn K mainGlobals "isinstance" = some none)
    (z_all : PySem.W.nsIn K mainGlobals "all" = some none)
    (z_enumerate : PySem.W.nsIn K mainGlobals "enumerate" = some none)
    (z_max : PySem.W.nsIn K mainGlobals "max" = some none)
    (z_min : PySem.W.nsIn K mainGlobals "min" = some none)
    (z_set : PySem.W.nsIn K mainGlobals "set" = some none)
    (z_sorted : PySem.W.nsIn K mainGlobals "sorted" = some none)
    (z_tuple : PySem.W.nsIn K mainGlobals "tuple" = some none)
    (aT : PySem.W.nsIn K mainGlobals "TapeError" = some (some (.ref CT)))
    (spT : PySem.W.specialIn K (.ref CT) "__getattribute__" = some (some (.builtin "type.__getattribute__"))) (rdT : PySem.W.readsIn K CT (.type "type") = true) (fcT : PySem.W.findCls K (.ref CT) (.type "type") "__init__" = some (.val (.builtin "ValueError.__init__")))
    (axBadText : PySem.W.nsIn K mainGlobals "BadText" = some (some (.ref C_BadText)))
    (yxBadText : K.lookup C_BadText = some (excClassObj nm_BadText q_BadText C_BadText N_BadText bs_BadText [.ref CT, .type "ValueError", .type "Exception", .type "BaseException", .type "object"] true sn_BadText sub_BadText ab_BadText col_BadText dd_BadText m0_BadText m1_BadText m2_BadText m3_BadText m5_BadText "ValueError.__new__"))
    (saxBadText : PySem.W.findIn K (.ref C_BadText) "__setattr__" = some (some (.builtin "object.__setattr__"))) (eCxBadText : PySem.W.subIn K (.ref C_BadText) (.type "BaseException") = some true) (tCxBadText : PySem.W.typeIn K (.ref C_BadText) = some (.type "type")) (kCxBadText : PySem.W.keepIn K (.ref C_BadText) = true)
    (ixBadText : PySem.W.findIn K (.ref C_BadText) "__init__" = some (some (.ref fxBadText))) (txBadText : PySem.W.typeIn K (.ref fxBadText) = some (.type "function")) (noxBadText : PySem.W.findIn K (.ref C_BadText) "place" = some none)
    (lxBadText : K.lookup fxBadText = some ⟨ocxBadText, odxBadText, .func (PySem.W.fnOf "__init__" "BadText.__init__" (defArgs s_BadText_init) (defBody s_BadText_init) (defScope s_BadText_init) .none kVxBadText dcxBadText pmxBadText anxBadText cdxBadText ctxBadText), slxBadText⟩) (cxBadText : PySem.W.codeIn K cdxBadText "BadText.__init__" = true) (kxBadText : PySem.W.keepIn K (.ref fxBadText) = true)
    (axBadTape : PySem.W.nsIn K mainGlobals "BadTape" = some (some (.ref C_BadTape)))
    (yxBadTape : K.lookup C_BadTape = some (excClassObj nm_BadTape q_BadTape C_BadTape N_BadTape bs_BadTape [.ref CT, .type "ValueError", .type "Exception", .type "BaseException", .type "object"] true sn_BadTape sub_BadTape ab_BadTape col_BadTape dd_BadTape m0_BadTape m1_BadTape m2_BadTape m3_BadTape m5_BadTape "ValueError.__new__"))
    (saxBadTape : PySem.W.findIn K (.ref C_BadTape) "__setattr__" = some (some (.builtin "object.__setattr__"))) (eCxBadTape : PySem.W.subIn K (.ref C_BadTape) (.type "BaseException") = some true) (tCxBadTape : PySem.W.typeIn K (.ref C_BadTape) = some (.type "type")) (kCxBadTape : PySem.W.keepIn K (.ref C_BadTape) = true)
    (ixBadTape : PySem.W.findIn K (.ref C_BadTape) "__init__" = some (some (.ref fxBadTape))) (txBadTape : PySem.W.typeIn K (.ref fxBadTape) = some (.type "function")) (noxBadTape : PySem.W.findIn K (.ref C_BadTape) "at" = some none)
    (lxBadTape : K.lookup fxBadTape = some ⟨ocxBadTape, odxBadTape, .func (PySem.W.fnOf "__init__" "BadTape.__init__" (defArgs s_BadTape_init) (defBody s_BadTape_init) (defScope s_BadTape_init) .none kVxBadTape dcxBadTape pmxBadTape anxBadTape cdxBadTape ctxBadTape), slxBadTape⟩) (cxBadTape : PySem.W.codeIn K cdxBadTape "BadTape.__init__" = true) (kxBadTape : PySem.W.keepIn K (.ref fxBadTape) = true)
    (nVE : PySem.W.nsIn K mainGlobals "ValueError" = some none) (sBT : PySem.W.subIn K (.ref CT) (.type "BaseException") = some true) (hdT : PySem.W.hasDictIn K CT = true) (tyT : PySem.W.typeIn K (.ref CT) = some (.type "type"))
    (oG : PySem.W.specialIn K (.builtin "object.__class__") "__get__" = some (some (.builtin "getset_descriptor.__get__"))) (oT : PySem.W.takesIn K (.builtin "object.__class__") = some true)
    (sTBadTape : PySem.W.subIn K (.ref C_BadTape) (.ref CT) = some true) (gaBadTape : PySem.W.findIn K (.ref C_BadTape) "__getattribute__" = some (some (.builtin "BaseException.__getattribute__"))) (ggBadTape : PySem.W.findIn K (.ref C_BadTape) "__getattr__" = some none) (hdBadTape : PySem.W.hasDictIn K C_BadTape = true) (clBadTape : PySem.W.findIn K (.ref C_BadTape) "__class__" = some (some (.builtin "object.__class__"))) (mrBadTape : PySem.W.mroIn K C_BadTape (.type "object") = some true)
    (axBadSets : PySem.W.nsIn K mainGlobals "BadSets" = some (some (.ref C_BadSets)))
    (axNoSign : PySem.W.nsIn K mainGlobals "NoSign" = some (some (.ref C_NoSign)))
    (axBadNumber : PySem.W.nsIn K mainGlobals "BadNumber" = some (some (.ref C_BadNumber)))
    (kX0 : PySem.W.kitOne K (.ref C_BadTape) (.ref C_BadSets) = some false)
    (kX1 : PySem.W.kitOne K (.ref C_BadTape) (.ref C_BadTape) = some true)
    (kX2 : PySem.W.kitOne K (.ref C_BadTape) (.ref C_NoSign) = some false)
    (kX3 : PySem.W.kitOne K (.ref C_BadTape) (.ref C_BadNumber) = some false)
    (kX4 : PySem.W.kitOne K (.ref C_BadTape) (.ref C_BadText) = some false)
    (kXV : PySem.W.kitOne K (.ref C_BadTape) (.type "ValueError") = some true)
    : ∃ fd : FuncData, (∃ oc od osl, K.lookup fa = some ⟨oc, od, .func fd, osl⟩) ∧ (∀ (s : Shared) (v : Value), BindsTo s fd ⟨[v], []⟩ [("_law_script", v)]) ∧ ∀ (c P : Addr), fd.code = .ref c → ∀ base : Heap, K.In base → base.Ns mainGlobals mg → LamX.TabB base mg c P → FnOk l.prog w K mg base CX0 7 fa fd ["_law_script"] (spLawT K P) := by
  have D_need_sets : DefAt K mg "need_sets" s_need_sets := defAt_mk X G a0 l0 c0 k0
  have D_need_tape : DefAt K mg "need_tape" s_need_tape := defAt_mk X G a1 l1 c1 k1
  have D_written : DefAt K mg "written" s_written := defAt_mk X G a2 l2 c2 k2
  have D_read_tape : DefAt K mg "read_tape" s_read_tape := defAt_mk X G a3 l3 c3 k3
  have D_q_dice : DefAt K mg "_law_dice" s_q_dice := defAt_mk X G a4 l4 c4 k4
  have D_q_off : DefAt K mg "_law_off" s_q_off := defAt_mk X G a5 l5 c5 k5
  have D_q_alike : DefAt K mg "_law_alike" s_q_alike := defAt_mk X G a6 l6 c6 k6
  have D_q_mixed : DefAt K mg "_law_mixed" s_q_mixed := defAt_mk X G a7 l7 c7 k7
  have D_q_refused : DefAt K mg "_law_refused" s_q_refused := defAt_mk X G a8 l8 c8 k8
  have D_q_sets : DefAt K mg "_law_sets" s_q_sets := defAt_mk X G a9 l9 c9 k9
  have D_q_tape : DefAt K mg "_law_tape" s_q_tape := defAt_mk X G a10 l10 c10 k10
  have c_MOST_SIGNS : ∃ t, mg "MOST_SIGNS" = some (.int 10 t) := ⟨t_MOST_SIGNS, PySem.W.mg_of X G v_MOST_SIGNS⟩
  have c_MOST_CODES : ∃ t, mg "MOST_CODES" = some (.int 200 t) := ⟨t_MOST_CODES, PySem.W.mg_of X G v_MOST_CODES⟩
  have c_FIGURES : ∃ t, mg "FIGURES" = some (.str (tx [48, 49, 50, 51, 52, 53, 54, 55, 56, 57]) t) := ⟨t_FIGURES, PySem.W.mg_of X G v_FIGURES⟩
  have B : Bl mg := ⟨PySem.W.mg_none_of X G z_len, PySem.W.mg_none_of X G z_list, PySem.W.mg_none_of X G z_range, PySem.W.mg_none_of X G z_abs, PySem.W.mg_none_of X G z_int_, PySem.W.mg_none_of X G z_bool_, PySem.W.mg_none_of X G z_str_, PySem.W.mg_none_of X G z_isinstance, PySem.W.mg_none_of X G z_all, PySem.W.mg_none_of X G z_enumerate, PySem.W.mg_none_of X G z_max, PySem.W.mg_none_of X G z_min, PySem.W.mg_none_of X G z_set, PySem.W.mg_none_of X G z_sorted, PySem.W.mg_none_of X G z_tuple⟩
  have z_TapeError : TeC K mg "TapeError" CT := ⟨PySem.W.mg_of X G aT, spT, rdT, fcT⟩
  have e := hfa.symm.trans (PySem.W.mg_of X G a11)
  cases e
  refine ⟨PySem.W.fnOf "law" "law" (defArgs s_law) (defBody s_law) (defScope s_law) .none kV11 dc11 pm11 an11 cd11 ct11, ⟨_, _, _, l11⟩, fun s v => .of_eq rfl, fun cL pL hcd base _ _ TB => ?_⟩
  have hcd : cd11 = Value.ref cL := hcd
  subst hcd
  have F_BadText := fun_mk (st := s_BadText_init) lxBadText cxBadText kxBadText
  have O_BadText : OexC K C_BadText := ⟨⟨_, _, _, _, _, _, _, _, _, _, _, _, _, _, _, yxBadText, rfl⟩, saxBadText, eCxBadText, tCxBadText, kCxBadText⟩
  have z_BadText : Rz l.prog w K mg base "BadText" C_BadText "place" := rz_BadText F_BadText z_TapeError O_BadText (PySem.W.mg_of X G axBadText) ixBadText txBadText noxBadText
  have F_BadTape := fun_mk (st := s_BadTape_init) lxBadTape cxBadTape kxBadTape
  have O_BadTape : OexC K C_BadTape := ⟨⟨_, _, _, _, _, _, _, _, _, _, _, _, _, _, _, yxBadTape, rfl⟩, saxBadTape, eCxBadTape, tCxBadTape, kCxBadTape⟩
  have z_BadTape : Rz l.prog w K mg base "BadTape" C_BadTape "at" := rz_BadTape F_BadTape z_TapeError O_BadTape (PySem.W.mg_of X G axBadTape) ixBadTape txBadTape noxBadTape
  have xc_BadTape : XcC K C_BadTape := ⟨gaBadTape, ggBadTape, eCxBadTape, hdBadTape, clBadTape, oG, oT, mrBadTape⟩
  have M : RefC K mg CT C_BadSets C_BadTape C_NoSign C_BadNumber C_BadText C_BadTape _ _ _ _ _ := ⟨PySem.W.mg_of X G aT, PySem.W.mg_of X G axBadSets, PySem.W.mg_of X G axBadTape, PySem.W.mg_of X G axNoSign, PySem.W.mg_of X G axBadNumber, PySem.W.mg_of X G axBadText, PySem.W.mg_none_of X G nVE, PySem.W.exm_ref sBT hdT tyT sTBadTape, xc_BadTape, kX0, kX1, kX2, kX3, kX4, kXV⟩
  have g_q_alike_h := alikeH (P := l.prog) (w := w) (K := K) (mg := mg) (base := base) D_q_alike B
  obtain ⟨gR, fdR, FR, hmR⟩ := D_q_refused
  have g_need_sets := pm_need_sets (P := l.prog) (w := w) (K := K) (mg := mg) (base := base) D_need_sets B c_MOST_SIGNS
  have g_need_tape := pm_need_tape (P := l.prog) (w := w) (K := K) (mg := mg) (base := base) D_need_tape B c_MOST_CODES
  have g_q_dice := pm_dice (P := l.prog) (w := w) (K := K) (mg := mg) (base := base) D_q_dice B
  have g_q_off := pm_off (P := l.prog) (w := w) (K := K) (mg := mg) (base := base) D_q_off B
  have g_q_mixed := pm_mixed (P := l.prog) (w := w) (K := K) (mg := mg) (base := base) D_q_mixed B g_q_off
  have g_q_tape := pm_tape (P := l.prog) (w := w) (K := K) (mg := mg) (base := base) D_q_tape B g_q_off
  have g_q_sets := pm_sets (P := l.prog) (w := w) (K := K) (mg := mg) (base := base) D_q_sets B g_q_off g_q_mixed
  have g_q_alike := pm_alike (P := l.prog) (w := w) (K := K) (mg := mg) (base := base) D_q_alike B 2
  have g_need_tape_x := pm_need_tapeX (P := l.prog) (w := w) (K := K) (mg := mg) (base := base) D_need_tape B c_MOST_CODES z_BadTape
  have g_written := pm_written (P := l.prog) (w := w) (K := K) (mg := mg) (base := base) D_written B g_need_sets g_need_tape
  have g_read_tape := pm_read_tape (P := l.prog) (w := w) (K := K) (mg := mg) (base := base) D_read_tape B c_FIGURES g_need_sets g_need_tape
  have g_read_tape_x := pm_read_tapeX (P := l.prog) (w := w) (K := K) (mg := mg) (base := base) D_read_tape B c_FIGURES g_need_sets g_need_tape_x z_BadText
  exact ok_law l11 c11 TB B M noxBadTape FR hmR g_q_dice g_q_off g_q_sets g_q_tape g_written g_read_tape g_read_tape_x g_q_alike g_q_alike_h
end Sr
open PySem PySem.W PyProof.Rows
set_option maxRecDepth 100000 in
set_option maxHeartbeats 0 in
theorem PySem.Challenge.cw_shiftrow_k12_written_and_read_holds : PySem.Challenge.rw_shiftrow_k12_written_and_read.Holds := by
  w_on; o_law; k_head; (case hw => w_witness2)
  k_fill
  refine Sr.walk_ofTab (l := PySem.Challenge.rw_shiftrow_k12_written_and_read) (n := 63) (k := 7) (x := "_law_script") (x0 := "law") rfl (by decide) rfl ⟨rfl, by decide, by decide⟩ (fun w h Y => PySem.W.km_in_of Y) rfl (fun w => by first | rfl | kernel_rfl) ?F (by decide)
  case F =>
    intro w mg fa h KX G hmg
    refine' Sr.all_mk KX G hmg ?a0 ?l0 ?c0 ?k0 ?a1 ?l1 ?c1 ?k1 ?a2 ?l2 ?c2 ?k2 ?a3 ?l3 ?c3 ?k3 ?a4 ?l4 ?c4 ?k4 ?a5 ?l5 ?c5 ?k5 ?a6 ?l6 ?c6 ?k6 ?a7 ?l7 ?c7 ?k7 ?a8 ?l8 ?c8 ?k8 ?a9 ?l9 ?c9 ?k9 ?a10 ?l10 ?c10 ?k10 ?a11 ?l11 ?c11 ?k11 ?v_MOST_SIGNS ?v_MOST_CODES ?v_FIGURES ?z_len ?z_list ?z_range ?z_abs ?z_int_ ?z_bool_ ?z_str_ ?z_isinstance ?z_all ?z_enumerate ?z_max ?z_min ?z_set ?z_sorted ?z_tuple ?aT ?spT ?rdT ?fcT ?axBadText ?yxBadText ?saxBadText ?eCxBadText ?tCxBadText ?kCxBadText ?ixBadText ?txBadText ?noxBadText ?lxBadText ?cxBadText ?kxBadText ?axBadTape ?yxBadTape ?saxBadTape ?eCxBadTape ?tCxBadTape ?kCxBadTape ?ixBadTape ?txBadTape ?noxBadTape ?lxBadTape ?cxBadTape ?kxBadTape ?nVE ?sBT ?hdT ?tyT ?oG ?oT ?sTBadTape ?gaBadTape ?ggBadTape ?hdBadTape ?clBadTape ?mrBadTape ?axBadSets ?axNoSign ?axBadNumber ?kX0 ?kX1 ?kX2 ?kX3 ?kX4 ?kXV
    (case a0 => k_is)
    (case l0 => k_is)
    (case c0 => k_is)
    (case k0 => k_is)
    (case a1 => k_is)
    (case l1 => k_is)
    (case c1 => k_is)
    (case k1 => k_is)
    (case a2 => k_is)
    (case l2 => k_is)
    (case c2 => k_is)
    (case k2 => k_is)
    (case a3 => k_is)
    (case l3 => k_is)
    (case c3 => k_is)
    (case k3 => k_is)
    (case a4 => k_is)
    (case l4 => k_is)
    (case c4 => k_is)
    (case k4 => k_is)
    (case a5 => k_is)
    (case l5 => k_is)
    (case c5 => k_is)
    (case k5 => k_is)
    (case a6 => k_is)
    (case l6 => k_is)
    (case c6 => k_is)
    (case k6 => k_is)
    (case a7 => k_is)
    (case l7 => k_is)
    (case c7 => k_is)
    (case k7 => k_is)
    (case a8 => k_is)
    (case l8 => k_is)
    (case c8 => k_is)
    (case k8 => k_is)
    (case a9 => k_is)
    (case l9 => k_is)
    (case c9 => k_is)
    (case k9 => k_is)
    (case a10 => k_is)
    (case l10 => k_is)
    (case c10 => k_is)
    (case k10 => k_is)
    (case a11 => k_is)
    (case l11 => k_is)
    (case c11 => k_is)
    (case k11 => k_is)
    (case v_MOST_SIGNS => k_is)
    (case v_MOST_CODES => k_is)
    (case v_FIGURES => k_is)
    (case z_len => k_is)
    (case z_list => k_is)
    (case z_range => k_is)
    (case z_abs => k_is)
    (case z_int_ => k_is)
    (case z_bool_ => k_is)
    (case z_str_ => k_is)
    (case z_isinstance => k_is)
    (case z_all => k_is)
    (case z_enumerate => k_is)
    (case z_max => k_is)
    (case z_min => k_is)
    (case z_set => k_is)
    (case z_sorted => k_is)
    (case z_tuple => k_is)
    (case aT => k_is)
    (case spT => k_is)
    (case rdT => k_is)
    (case fcT => k_is)
    (case axBadText => k_is)
    (case yxBadText => k_is)
    (case saxBadText => k_is)
    (case eCxBadText => k_is)
    (case tCxBadText => k_is)
    (case kCxBadText => k_is)
    (case ixBadText => k_is)
    (case txBadText => k_is)
    (case noxBadText => k_is)
    (case lxBadText => k_is)
    (case cxBadText => k_is)
    (case kxBadText => k_is)
    (case axBadTape => k_is)
    (case yxBadTape => k_is)
    (case saxBadTape => k_is)
    (case eCxBadTape => k_is)
    (case tCxBadTape => k_is)
    (case kCxBadTape => k_is)
    (case ixBadTape => k_is)
    (case txBadTape => k_is)
    (case noxBadTape => k_is)
    (case lxBadTape => k_is)
    (case cxBadTape => k_is)
    (case kxBadTape => k_is)
    (case nVE => k_is)
    (case sBT => k_is)
    (case hdT => k_is)
    (case tyT => k_is)
    (case oG => k_is)
    (case oT => k_is)
    (case sTBadTape => k_is)
    (case gaBadTape => k_is)
    (case ggBadTape => k_is)
    (case hdBadTape => k_is)
    (case clBadTape => k_is)
    (case mrBadTape => k_is)
    (case axBadSets => k_is)
    (case axNoSign => k_is)
    (case axBadNumber => k_is)
    (case kX0 => kit_is)
    (case kX1 => kit_is)
    (case kX2 => kit_is)
    (case kX3 => kit_is)
    (case kX4 => kit_is)
    (case kXV => kit_is)
