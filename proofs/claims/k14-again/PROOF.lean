import PyProof.Rows.All
import Wide.All
import OpenK.AllK
import Wide.FinOn
import HandS.ForMost
import HandS.Walk
import HandS.Strs
import HandS.Conv
import HandS.Evl
import HandS.IsInst
import HandS.Replace
import KE.DataCmp
import KE.DataMinMax
import KE.KDictCopyH
import PyProof.Draws
import PyProof.EnumMake
import PySem.Challenge.RW_shiftrow_k14_asked_again
set_option Elab.async false
set_option linter.all false
set_option maxRecDepth 100000
set_option maxHeartbeats 4000000
/-! own rules over the layer: list(text), len(set(text)) -/
namespace SrX
open PySem PySem.Spec PyProof.Rows L2

/-- the text of these signs -/
def tx (l : List Nat) : Str := ⟨l.toArray⟩
/-- one sign as a text -/
abbrev sg (c : Nat) : V := .str ⟨#[c]⟩
def sgs (z : Str) : List V := z.cps.toList.map sg

theorem call_list_sg {X : Cx} (hc : X.calm = true) : CallR X (.type "list") (fun xs H Q => ∃ z : Str, xs = [.str z] ∧ z.length ≤ sizeLine ∧ ∀ q, H q = none → Q (.ref q) (upd H q (.lst (sgs z)))) := by
  intro pins s σ H xs us Q I r h
  obtain ⟨z, rfl, hz, q⟩ := h
  obtain ⟨u, rfl, rx⟩ := vals1 r
  obtain ⟨t, rfl⟩ := rx
  have hzz : z.cps.size ≤ sizeLine := hz
  refine call_list_str (I.ok.hd hc) z t (fun h1 tk acc c1 hk e hi => ?_) hzz
  refine ⟨.ref s.heap.objs.size, upd H s.heap.objs.size (.lst (sgs z)), I.laid hk (Nat.le_refl _) ⟨?_, acc.toList, c1, ?_, ?_⟩, rfl, q _ (I.hok.fresh (Nat.le_refl _))⟩
  · unfold sgs; rw [List.length_map, Array.length_toList]; exact hzz
  · refine vals_of_at (by unfold sgs; rw [List.length_map, Array.length_toList, Array.length_toList]; exact hi.1.symm) fun j x w h3 h4 => ?_
    obtain ⟨c, t2, hc2, rfl⟩ := hi.2 j w (by rw [← Array.getElem?_toList]; exact h4)
    have e3 : (sgs z)[j]? = some (sg c) := by
      unfold sgs
      rw [List.getElem?_map, Array.getElem?_toList, hc2]; rfl
    rw [e3] at h3
    cases h3
    exact ⟨_, rfl⟩
  · rw [Array.toArray_toList]; exact e

/-! ### sets of a text's signs -/
def stS (a : List Str) (x : Str) : List Str := if a.any (· == x) then a else a ++ [x]
def fmS (val : Nat → Str) (i : Nat) : List Str := ((List.range i).map val).foldl stS []
theorem fmS_succ (val : Nat → Str) (i : Nat) : fmS val (i + 1) = stS (fmS val i) (val i) := by
  unfold fmS
  rw [List.range_succ, List.map_append, List.foldl_append]
  rfl
theorem stS_len (a : List Str) (x : Str) : (stS a x).length = if a.any (· == x) then a.length else a.length + 1 := by
  unfold stS
  split <;> simp
theorem fmS_le (val : Nat → Str) : ∀ i, (fmS val i).length ≤ i
  | 0 => Nat.le_refl _
  | i + 1 => by
    have ih := fmS_le val i
    rw [fmS_succ, stS_len]
    split <;> omega
theorem stS_any (a : List Str) (x k : Str) : (stS a x).any (· == k) = (a.any (· == k) || decide (k = x)) := by
  unfold stS
  by_cases h : a.any (· == x) = true
  · rw [if_pos h]
    by_cases e : k = x
    · subst e; rw [h]; simp
    · simp [e]
  · rw [if_neg h, List.any_append]
    by_cases e : k = x
    · subst e; simp
    · have hb : (x == k) = false := by simpa [beq_iff_eq] using (fun z : x = k => e z.symm)
      simp [hb, e]

section
variable {prog : Program} {w : World} {A : Around} {R : Result → Shared → Prop} {I : Addr} {fp wr : List Addr} {G : Array GenState → Array GenState → Prop} {n : Nat} {P : Nat → Value → Prop} {St : Nat → Shared → Prop}
theorem loopSg (W : WalksS prog w A.in1 I fp wr G n P St) (S : Addr) (hSf : S ∉ fp) (val : Nat → Str) (hn : n + 1 < scanBound) (hval : ∀ i v, P i v → ∃ t, v = .str (val i) t) :
    ∀ (k i : Nat) (s : Shared), n - i = k → i ≤ n → St i s → s.heap.SetOf (PySem.strKind prog w) S (fun q => (fmS val i).any (· == q)) (fmS val i).length →
      (∀ s1, Moved (S :: wr) G s s1 → s1.heap.SetOf (PySem.strKind prog w) S (fun q => (fmS val n).any (· == q)) (fmS val n).length → R (.ok (.ret .none)) s1) →
      codeAny (model prog w) A (.builtin "set.update.loop" ⟨[.ref S, .ref I], []⟩) R s := by
  have hSw : S ∉ wr := fun h => hSf (W.sub _ h)
  have hsub : ∀ b ∈ wr, b ∈ S :: wr := fun b hb => List.mem_cons_of_mem _ hb
  intro k
  induction k with
  | zero =>
    intro i s hk hi hst hS hR
    have hin : i = n := by omega
    subst hin
    refine codeAny_builtin PyProof.Rows.F.entry_set_update_loop ?_
    rw [Around.under_plainId PyProof.Rows.F.plain_set_update_loop _]
    show wpAny _ A.in1 (pyNext (.ref I) >>= _) _ _ s
    refine wpAny_bind (W.done s _ _ hst fun s1 hm => ?_)
    show wpAny _ A.in1 (ret Value.none) _ _ s1
    refine wpAny_pure (hR s1 (hm.mono hsub) ?_)
    obtain ⟨o, es, ep, t, ho, r⟩ := hS
    exact ⟨o, es, ep, t, hm.heap S _ hSw ho, r⟩
  | succ k ih =>
    intro i s hk hi hst hS hR
    have hlt : i < n := by omega
    refine codeAny_builtin PyProof.Rows.F.entry_set_update_loop ?_
    rw [Around.under_plainId PyProof.Rows.F.plain_set_update_loop _]
    show wpAny _ A.in1 (pyNext (.ref I) >>= _) _ _ s
    refine wpAny_bind (W.item i s _ _ hlt hst fun v s1 hP hst1 hm => ?_)
    obtain ⟨t, rfl⟩ := hval i v hP
    have hS1 : s1.heap.SetOf (PySem.strKind prog w) S (fun q => (fmS val i).any (· == q)) (fmS val i).length := by
      obtain ⟨o, es, ep, tb, ho, r⟩ := hS
      exact ⟨o, es, ep, tb, hm.heap S _ hSw ho, r⟩
    show wpAny _ A.in1 (holding [Value.str (val i) t] (setAdd S (.str (val i) t)) >>= _) _ _ s1
    refine wpAny_bind (wpAny_holding ?_)
    unfold setAdd
    refine wpAny_holding ?_
    refine wpAny_bind ((PySem.strKind prog w).pyHash (k := val i) (strKind_is _ _ _ _) ?_)
    have hroom : (fmS val i).length + 1 < scanBound := by have := fmS_le val i; omega
    refine wpAny_setAddHashed_of (knd := PySem.strKind prog w) (s := { s1 with toks := s1.toks + 1 }) (strKind_is _ _ _ _) rfl hS1 hroom fun h2 hsb hS2 => ?_
    have hSi : h2.SetOf (PySem.strKind prog w) S (fun q => (fmS val (i + 1)).any (· == q)) (fmS val (i + 1)).length :=
      SetOf_congr hS2 (fun q => by rw [fmS_succ, stS_any]) (by rw [fmS_succ, stS_len])
    refine wpAny_pure ⟨plainId_quiet PyProof.Rows.F.plain_set_update_loop _, ih (i + 1) _ (by omega) hlt (W.frame _ s1 _ _ hst1 (Nat.le_succ _) fun b hb o e => ?_) hSi fun s3 hm3 hS3 => ?_⟩
    · rw [hsb.2 b (fun z : b = S => hSf (by rw [← z]; exact hb))]; exact e
    · refine hR s3 (Moved.trans W.gtrans ((hm.mono hsub).then_heap (Nat.le_succ _) fun b o hb e => ?_) hm3) hS3
      rw [hsb.2 b (fun z : b = S => hb (by rw [z]; exact List.mem_cons_self))]; exact e
end

def valOf (x : Str) : Nat → Str := fun i => ⟨#[x.cps.getD i 0]⟩
section
variable {prog : Program} {w : World} {A : Around} {E : Value → Shared → Prop} {s : Shared}
theorem call_set_text {x : Str} {tk0 : Tok} {Q : Value → Shared → Prop} (hh : A.handled = none) (hb : x.cps.size + 1 < scanBound)
    (h : ∀ (h1 : Heap) (tk : Nat), h1.SetOf (PySem.strKind prog w) s.heap.objs.size (fun q => (fmS (valOf x) x.cps.size).any (· == q)) (fmS (valOf x) x.cps.size).length →
      (∀ b o, b < s.heap.objs.size → s.heap.get? b = some o → h1.get? b = some o) → Q (.ref s.heap.objs.size) { s with heap := h1, toks := tk }) :
    wpAny (model prog w) A (call (.type "set") [.str x tk0]) Q E s := by
  obtain ⟨c, tl, hmro⟩ := PySem.F.called_set.mro
  have hmade := PySem.F.called_set.made
  have hsub := PySem.F.called_set.sub
  refine wpAny_call (codeAny_of_tree ?_)
  show wpAny _ _ (callAny (.type "set") _) _ _ _
  refine wpAny_pure ⟨Code.quiet_builtin _ (by decide +kernel), codeAny_builtin PySem.F.entry_type_call ?_⟩
  rw [Around.under_plain (weight_type_call_type "set" [.str x tk0] []) rfl]
  have h1 := PySem.F.called_set.notType
  have h2 := PySem.F.called_set.canCreate
  have hct := PySem.F.typeCall_set_1 (.str x tk0)
  repeat (any_goals (first | assumption | wp_step))
  refine codeAny_mono (code_set_new_1 (.str x tk0) (E := E) (Q₁ := fun obj s2 => ∃ led : Bool, obj = .ref s.heap.objs.size ∧ s2 = { s with heap := s.heap.push { cls := .type "set", dict := none, data := .set #[] 0 (.fresh 0 0 led) } }) fun led => ⟨led, rfl, rfl⟩) fun r s2 hr => ?_
  cases r with
  | error e => exact hr
  | ok fl =>
    cases fl with
    | ret obj =>
      obtain ⟨led, rfl, rfl⟩ := hr
      have hS : (s.heap.push { cls := .type "set", dict := none, data := .set #[] 0 (.fresh 0 0 led) }).get? s.heap.objs.size = some { cls := .type "set", dict := none, data := .set #[] 0 (.fresh 0 0 led) } := Heap.get?_push_size _ rfl
      have hT : Shared.TypeIs { s with heap := s.heap.push { cls := .type "set", dict := none, data := .set #[] 0 (.fresh 0 0 led) } } (.ref s.heap.objs.size) "set" := ⟨_, hS, rfl⟩
      have hli := PySem.F.called_set.init.lookup
      have hbi := PySem.F.called_set.init.bind (.ref s.heap.objs.size)
      repeat (any_goals (first | assumption | wp_step))
      refine codeAny_mono (codeAny_call_builtin (R := wants (fun r s3 => r = .none ∧ ∃ h3 tk, s3 = { s with heap := h3, toks := tk } ∧
          h3.SetOf (PySem.strKind prog w) s.heap.objs.size (fun q => (fmS (valOf x) x.cps.size).any (· == q)) (fmS (valOf x) x.cps.size).length ∧
          (∀ b o, b < s.heap.objs.size → s.heap.get? b = some o → h3.get? b = some o)) E) PySem.F.called_set.init.plain PySem.F.entry_set_init (check_set_init_1 hT ?_)) fun r3 s3 hr3 => ?_
      · have hs1 := PySem.F.sub_str_set
        have hs2 := PySem.F.sub_str_frozenset
        have hne : (Value.type "str" == Value.type "dict") = false := by decide
        have hTx : Shared.TypeIs { s with heap := s.heap.push { cls := .type "set", dict := none, data := .set #[] 0 (.fresh 0 0 led) } } (.str x tk0) "str" := rfl
        unfold Builtin.«set.__init__» noKeywords Builtin.Frozenset.updateFrom
        generalize hPI : pyIter = PI
        wp_walk
        subst hPI
        refine wpAny_pyIter_str fun oI St W st0 => ?_
        refine wpAny_bind (wpAny_runValue ?_)
        have hh3 : A.in1.in1.in1.handled = none := by simp [hh]
        have hSf : s.heap.objs.size ∉ [(s.heap.push { cls := .type "set", dict := none, data := .set #[] 0 (.fresh 0 0 led) }).objs.size] := by
          rw [Heap.size_push]
          simp only [List.mem_cons, List.not_mem_nil, or_false]
          exact Nat.ne_of_lt (Nat.lt_succ_self _)
        have hval : ∀ (i : Nat) (v : Value), SignAt x i v → ∃ t, v = .str (valOf x i) t := fun i v ⟨c, u, hc, hv⟩ => ⟨u, by
          rw [hv]
          unfold valOf
          rw [Array.getD_eq_getD_getElem?, hc]
          rfl⟩
        refine loopSg ((W _ hh3).toS) s.heap.objs.size hSf (valOf x) hb hval (x.cps.size - 0) 0 _ (by omega) (Nat.zero_le _) st0 ?hS0 ?hR
        case hS0 =>
          have hget : ((s.heap.push { cls := .type "set", dict := none, data := .set #[] 0 (.fresh 0 0 led) }).push oI).get? s.heap.objs.size
              = some { cls := .type "set", dict := none, data := .set #[] 0 (.fresh 0 0 led) } := Heap.get?_push_of_some _ hS
          exact PyProof.Rows.SetOf_congr ((PyProof.Rows.setObjOf_fresh (knd := PySem.strKind prog w) led).setOf hget (by unfold scanBound; omega)) (fun _ => rfl) rfl
        case hR =>
          intro s4 hm hS4
          obtain ⟨h4, g4, d4, tk4, os4⟩ := s4
          have eg : g4 = s.gens := hm.gens
          have ed : d4 = s.drawn := hm.drawn
          have eo : os4 = s.os := hm.os
          subst eg; subst ed; subst eo
          show wpAny _ _ _ _ _ _
          refine wpAny_pure ?_
          show wpAny _ _ (ret Value.none) _ _ _
          refine wpAny_pure ⟨rfl, h4, tk4, rfl, hS4, fun b o hb e => ?_⟩
          have hb1 : b ≠ s.heap.objs.size := Nat.ne_of_lt hb
          have hb2 : b ≠ (s.heap.push { cls := .type "set", dict := none, data := .set #[] 0 (.fresh 0 0 led) }).objs.size := by
            rw [Heap.size_push]; exact Nat.ne_of_lt (Nat.lt_succ_of_lt hb)
          exact hm.heap b o (by simp only [List.mem_cons, List.mem_singleton, List.not_mem_nil, or_false, not_or]; exact ⟨hb1, hb2⟩) (Heap.get?_push_of_some _ (Heap.get?_push_of_some _ e))
      · cases r3 with
        | error e => exact hr3
        | ok fl3 =>
          cases fl3 with
          | ret r =>
            obtain ⟨rfl, h3, tk, rfl, hS3, hk3⟩ := hr3
            repeat (any_goals (first | assumption | wp_step))
            exact h _ _ hS3 hk3
          | _ => exact hr3.elim
    | _ => exact hr.elim
end

/-- how many signs of a text differ -/
def dd (l : List Nat) : Nat := (fmS (valOf (tx l)) l.length).length
def tLenSg (ta : TE) : TE := fun σ H Q => ta σ H fun x H1 => ∃ l : List Nat, x = .str (tx l) ∧ l.length ≤ 1000 ∧ Q (.int (dd l : Nat)) H1
theorem pe_lenSg {X : Cx} {a : Expr} {ta : TE} {p p2 q pos : Pos} (hc : X.calm = true) (hm : X.mg "len" = none) (hm2 : X.mg "set" = none) (ha : PE X a ta) (hg : Gl X "len" := by rfl) (hg2 : Gl X "set" := by rfl)
    (na : starEach [a] X.env = (false, eval a X.env) :: starEach [] X.env := by rfl) : PE X (.Call (.Name "len" p) [.Call (.Name "set" p2) [a] [] q] [] pos) (tLenSg ta) := by
  refine ⟨fun pins s σ H Q I h => ?_⟩
  refine Call_ (ld_blt I hg hm boot_len ?_)
  refine PyProof.Rows.callWith_builtin1 (PyProof.Rows.args_cons ?_ rfl) rfl rfl
  refine Call_ (ld_blt I hg2 hm2 boot_set ?_)
  refine PyProof.Rows.callWith_type1 (PyProof.Rows.args_cons (thn (ha.run pins s σ H _ I h) fun v s1 ⟨x, H1, I1, r1, q1⟩ => PyProof.Rows.args_nil ?_) na) na rfl
  obtain ⟨l, rfl, hl, q1⟩ := q1
  obtain ⟨t, rfl⟩ := r1
  have hz : (tx l).cps.size = l.length := by unfold tx; simp
  refine call_set_text (I1.ok.hd hc) (by rw [hz]; unfold scanBound; omega) fun h2 tk hS hk => ?_
  refine PyProof.Rows.args_nil ?_
  rw [hz] at hS
  obtain ⟨o, es, ep, t2, ho, hex, hd, r0, r2, r3, hf, hn⟩ := hS
  have I2 : Inv X pins σ H1 { s1 with heap := h2, toks := tk } := I1.kept fun b o e => hk b o (Heap.lt_size e) e
  have hle := fmS_le (valOf (tx l)) l.length
  refine call_len_set ho hex hd hf (by rw [hn]; omega) ⟨.int (dd l : Nat), H1, I2.tok _, ⟨_, by rw [hn]; rfl⟩, q1⟩

theorem any_of_mem {val : Nat → Str} : ∀ (i j : Nat), j < i → (fmS val i).any (· == val j) = true
  | 0, j, h => absurd h (Nat.not_lt_zero _)
  | i + 1, j, h => by
    rw [fmS_succ, stS_any]
    by_cases e : j = i
    · subst e; simp
    · rw [any_of_mem i j (by omega)]; rfl
theorem mem_of_any {val : Nat → Str} (k : Str) : ∀ (i : Nat), (fmS val i).any (· == k) = true → ∃ j, j < i ∧ k = val j
  | 0, h => by simp [fmS] at h
  | i + 1, h => by
    rw [fmS_succ, stS_any, Bool.or_eq_true] at h
    rcases h with h | h
    · obtain ⟨j, hj, e⟩ := mem_of_any k i h
      exact ⟨j, by omega, e⟩
    · exact ⟨i, by omega, of_decide_eq_true h⟩
theorem fmS_full {val : Nat → Str} : ∀ (i : Nat), (fmS val i).length = i ↔ ∀ a b, a < b → b < i → val a ≠ val b
  | 0 => ⟨fun _ a b h1 h2 => absurd h2 (Nat.not_lt_zero _), fun _ => rfl⟩
  | i + 1 => by
    have ih := fmS_full (val := val) i
    have le := fmS_le val i
    rw [fmS_succ, stS_len]
    constructor
    · intro h a b hab hb
      split at h
      · omega
      · rename_i hn
        have hfull : (fmS val i).length = i := by omega
        by_cases e : b = i
        · subst e
          intro z
          apply hn
          rw [← z]
          exact any_of_mem b a hab
        · exact ih.mp hfull a b hab (by omega)
    · intro h
      have hfull : (fmS val i).length = i := ih.mpr fun a b hab hb => h a b hab (by omega)
      split
      · rename_i hn
        obtain ⟨j, hj, e⟩ := mem_of_any (val i) i hn
        exact absurd e.symm (h j i hj (Nat.lt_succ_self _))
      · omega
theorem valOf_at {l : List Nat} {i : Nat} (hi : i < l.length) : valOf (tx l) i = ⟨#[l[i]]⟩ := by
  unfold valOf tx
  rw [Array.getD_eq_getD_getElem?, List.getElem?_toArray, List.getElem?_eq_getElem hi]
  rfl
theorem one_inj {a b : Nat} (h : (⟨#[a]⟩ : Str) = ⟨#[b]⟩) : a = b := by
  have h2 := congrArg (fun s : Str => s.cps.toList) h
  simpa using h2
theorem dd_full (l : List Nat) : dd l = l.length ↔ l.Nodup := by
  unfold dd
  rw [fmS_full]
  show _ ↔ List.Pairwise (· ≠ ·) l
  rw [List.pairwise_iff_getElem]
  constructor
  · intro h i j hi hj hij z
    refine h i j hij hj ?_
    rw [valOf_at hi, valOf_at hj, z]
  · intro h i j hij hj z
    have hi : i < l.length := by omega
    rw [valOf_at hi, valOf_at hj] at z
    exact h i j hi hj hij (one_inj z)
theorem dd_le (l : List Nat) : dd l ≤ l.length := fmS_le _ _
end SrX
/-! walking over what is known of the heap: F is known, the dice's list d apart -/
namespace Sr
open PySem PySem.Spec PyProof.Rows L2 SrX

abbrev Ex (H H1 : Hp) : Prop := L2.Same H H1
theorem exr (H : Hp) : Ex H H := Same.refl H
theorem ex_new {H : Hp} {p : Addr} {u : HO} (h : H p = none) : Ex H (upd H p u) := fun b o e => by
  rw [upd_ne (ne_of_none e h)]; exact e
theorem ex_mut {H H1 : Hp} {p : Addr} {u : HO} (e : Ex H H1) (h : H p = none) : Ex H (upd H1 p u) := fun b o q => by
  rw [upd_ne (ne_of_none q h)]; exact e b o q
theorem ex_upd {H H1 : Hp} {p : Addr} {u : HO} (e : Ex H H1) : Ex (upd H p u) (upd H1 p u) := fun b o q => by
  by_cases hb : b = p
  · subst hb; rw [upd_same] at q ⊢; exact q
  · rw [upd_ne hb] at q ⊢; exact e b o q
theorem ex_l {K : PySem.W.Frag} {H H1 : Hp} {a : Addr} {xs : List V} (e : Ex H H1) (h : SqL K H a xs) : SqL K H1 a xs := e.seq h
theorem ex_t {K : PySem.W.Frag} {H H1 : Hp} {a : Addr} {xs : List V} (e : Ex H H1) (h : SqT K H a xs) : SqT K H1 a xs := by
  rcases h with (h | ⟨o, h⟩) | h
  · exact .inl (.inl (e _ _ h))
  · exact .inl (.inr ⟨o, e _ _ h⟩)
  · exact .inr h
theorem sz {n : Nat} (h : n ≤ 100000) : n ≤ sizeLine := Nat.le_trans h (by decide)
theorem sz1 {n : Nat} (h : n < 100000) : n < sizeLine := Nat.lt_of_lt_of_le h (by decide)

/-- a list of dice stands at d -/
def Dc (H : Hp) (d : Addr) : Prop := ∃ ns : List Int, H d = some (.lst (ns.map V.int)) ∧ 2 ≤ ns.length ∧ ns.length ≤ 70
structure Wd (o : Option Addr) (F H : Hp) : Prop where
  ex : Ex F H
  dc : ∀ d, o = some d → F d = none ∧ Dc H d
theorem Dc.ex {H H1 : Hp} {d : Addr} (h : Dc H d) (e : Ex H H1) : Dc H1 d := by
  obtain ⟨ns, h1, h2⟩ := h
  exact ⟨ns, e _ _ h1, h2⟩
section
variable {o : Option Addr} {F F1 H H1 : Hp} {p : Addr} {u : HO}
theorem Wd.up (w : Wd o F H) (e : Ex H H1) : Wd o F H1 := ⟨w.ex.trans e, fun d h => ⟨(w.dc d h).1, (w.dc d h).2.ex e⟩⟩
theorem Wd.down (w : Wd o F H) (e : Ex F1 F) : Wd o F1 H := ⟨e.trans w.ex, fun d h => ⟨e.free (w.dc d h).1, (w.dc d h).2⟩⟩
theorem Wd.fr (w : Wd o F H) (n : H p = none) : F p = none := w.ex.free n
theorem Wd.ned (w : Wd o F H) (n : H p = none) : ∀ d, o = some d → d ≠ p := fun d h => by
  obtain ⟨ns, h1, _⟩ := (w.dc d h).2
  exact ne_of_none h1 n
theorem Wd.new (w : Wd o F H) (n : H p = none) (e : Ex H H1) (h : H1 p = some u) : Wd o (upd F p u) H1 := by
  refine ⟨fun b v q => ?_, fun d hd => ⟨?_, (w.dc d hd).2.ex e⟩⟩
  · by_cases hb : b = p
    · subst hb; rw [upd_same] at q; rw [← q]; exact h
    · rw [upd_ne hb] at q; exact e _ _ (w.ex _ _ q)
  · rw [upd_ne (w.ned n d hd)]; exact (w.dc d hd).1
theorem Wd.new1 (w : Wd o F H) (n : H p = none) : Wd o (upd F p u) (upd H p u) := w.new n (ex_new n) upd_same
theorem Wd.mut {v : HO} (w : Wd o F H) (h : F p = some v) : Wd o (upd F p u) (upd H p u) := by
  refine ⟨ex_upd w.ex, fun d hd => ?_⟩
  obtain ⟨f, ns, h1, h2⟩ := w.dc d hd
  have ne : d ≠ p := fun z => by rw [z, h] at f; cases f
  exact ⟨by rw [upd_ne ne]; exact f, ns, by rw [upd_ne ne]; exact h1, h2⟩
theorem Wd.l {K : PySem.W.Frag} {a : Addr} {xs : List V} (w : Wd o F H) (h : SqL K F a xs) : SqL K H a xs := ex_l w.ex h
theorem Wd.t {K : PySem.W.Frag} {a : Addr} {xs : List V} (w : Wd o F H) (h : SqT K F a xs) : SqT K H a xs := ex_t w.ex h
theorem Wd.bare (e : Ex F H) : Wd none F H := ⟨e, fun d h => by cases h⟩
end

def Wp {α : Type} (o : Option Addr) (k : Hp → (α → Hp → Prop) → Prop) (F : Hp) (P : α → Hp → Prop) : Prop :=
  ∀ H, Wd o F H → ∀ Q : α → Hp → Prop, (∀ v H1 F1, Wd o F1 H1 → P v F1 → Q v H1) → k H Q
def Go (o : Option Addr) (t : TS) (D : Ends) (σ : L2.St) (F : Hp) : Prop := ∀ H, Wd o F H → t D σ H
/-- what holds behind a turn -/
def Cl (o : Option Addr) (P : L2.St → Hp → Prop) : L2.St → Hp → Prop := fun σ H => ∃ F, Wd o F H ∧ P σ F

section
variable {o : Option Addr} {F : Hp} {σ : L2.St} {K : PySem.W.Frag} {α : Type}
theorem Wp.imp {k : Hp → (α → Hp → Prop) → Prop} {P P1 : α → Hp → Prop} (h : Wp o k F P1) (i : ∀ v F1, P1 v F1 → P v F1) : Wp o k F P := fun H w Q q => h H w Q fun v H1 F1 w1 p => q v H1 F1 w1 (i v F1 p)
theorem go_of {t : TS} {D : Ends} {H : Hp} (g : Go none t D σ H) : t D σ H := g H (Wd.bare (exr H))

theorem go_st {t : TS} {D : Ends} {H : Hp} {σ0 : L2.St} (e : σ0 = σ) (g : Go none t D σ H) : t D σ0 H := by subst e; exact go_of g

/-! ### expressions -/
variable {P : V → Hp → Prop} {ta tb tc te : TE} {x y z v : V} {r r2 : R2}
theorem wp_var {i : Nat} (h : σ[i]? = some (some v)) (q : P v F) : Wp o (tVar i σ) F P := fun H w Q k => ⟨v, h, k v H F w q⟩
theorem wp_c (q : P v F) : Wp o (tC v σ) F P := fun H w Q k => k v H F w q
theorem wp_op (h : Wp o (ta σ) F fun x F1 => Wp o (tb σ) F1 fun y F2 => Wp o (r x y) F2 P) : Wp o (tOp r ta tb σ) F P := fun H w Q k =>
  h H w _ fun x H1 F1 w1 h1 => h1 H1 w1 _ fun y H2 F2 w2 h2 => h2 H2 w2 Q k
theorem wp_un {r : V → Hp → VK → Prop} (h : Wp o (ta σ) F fun x F1 => Wp o (r x) F1 P) : Wp o (tUn r ta σ) F P := fun H w Q k =>
  h H w _ fun x H1 F1 w1 h1 => h1 H1 w1 Q k
theorem wp_chain (h : Wp o (ta σ) F fun x F1 => Wp o (tb σ) F1 fun y F2 => Wp o (r x y) F2 fun z F3 => ∃ k, z = .bl k ∧ (k = true → Wp o (tc σ) F3 fun w F4 => Wp o (r2 y w) F4 P) ∧ (k = false → P (.bl false) F3)) :
    Wp o (tChain r r2 ta tb tc σ) F P := fun H w Q k =>
  h H w _ fun x H1 F1 w1 h1 => h1 H1 w1 _ fun y H2 F2 w2 h2 => h2 H2 w2 _ fun z H3 F3 w3 ⟨b, e, ht, hf⟩ => ⟨b, e, by
    cases b with
    | true => rw [if_pos rfl]; exact ht rfl H3 w3 _ fun x4 H4 F4 w4 h4 => h4 H4 w4 Q k
    | false => rw [if_neg Bool.false_ne_true]; exact k _ H3 F3 w3 (hf rfl)⟩
theorem wp_ifE {tt : TT} (h : Wp o (tt σ) F fun b F1 => (b = true → Wp o (ta σ) F1 P) ∧ (b = false → Wp o (tb σ) F1 P)) : Wp o (tIf tt ta tb σ) F P := fun H w Q k =>
  h H w _ fun b H1 F1 w1 ⟨h1, h2⟩ => by
    cases b with
    | true => rw [if_pos rfl]; exact h1 rfl H1 w1 Q k
    | false => rw [if_neg Bool.false_ne_true]; exact h2 rfl H1 w1 Q k
theorem wp_andV (h : Wp o (ta σ) F fun x F1 => ∃ c, x = .bl c ∧ (c = true → Wp o (tb σ) F1 P) ∧ (c = false → P (.bl false) F1)) : Wp o (tAndV ta tb σ) F P := fun H w Q k =>
  h H w _ fun x H1 F1 w1 ⟨c, e, h1, h2⟩ => ⟨c, e, by
    cases c with
    | true => rw [if_pos rfl]; exact h1 rfl H1 w1 Q k
    | false => rw [if_neg Bool.false_ne_true]; exact k _ H1 F1 w1 (h2 rfl)⟩
theorem wp_orV (h : Wp o (ta σ) F fun x F1 => ∃ c, x = .bl c ∧ (c = true → P (.bl true) F1) ∧ (c = false → Wp o (tb σ) F1 P)) : Wp o (tOrV ta tb σ) F P := fun H w Q k =>
  h H w _ fun x H1 F1 w1 ⟨c, e, h1, h2⟩ => ⟨c, e, by
    cases c with
    | true => rw [if_pos rfl]; exact k _ H1 F1 w1 (h1 rfl)
    | false => rw [if_neg Bool.false_ne_true]; exact h2 rfl H1 w1 Q k⟩
theorem wp_notV (h : Wp o (ta σ) F fun x F1 => ∃ c, x = .bl c ∧ P (.bl (!c)) F1) : Wp o (tNotV ta σ) F P := fun H w Q k =>
  h H w _ fun x H1 F1 w1 ⟨c, e, h1⟩ => ⟨c, e, k _ H1 F1 w1 h1⟩
/-! tests -/
variable {T : Bool → Hp → Prop} {tt tu : TT}
theorem wp_test (h : Wp o (te σ) F fun x F1 => ∃ k, x = .bl k ∧ T k F1) : Wp o (tTest te σ) F T := fun H w Q k => h H w _ fun x H1 F1 w1 ⟨b, e, p⟩ => ⟨b, e, k b H1 F1 w1 p⟩
theorem wp_B (h : Wp o (te σ) F fun x F1 => ∃ k, x = .bl k ∧ T k F1) : Wp o (tB te σ) F T := fun H w Q k => h H w _ fun x H1 F1 w1 ⟨b, e, p⟩ => ⟨b, e, k b H1 F1 w1 p⟩
theorem wp_and (h : Wp o (tt σ) F fun b F1 => (b = true → Wp o (tu σ) F1 T) ∧ (b = false → T false F1)) : Wp o (tAnd tt tu σ) F T := fun H w Q k =>
  h H w _ fun b H1 F1 w1 ⟨h1, h2⟩ => by
    cases b with
    | true => rw [if_pos rfl]; exact h1 rfl H1 w1 Q k
    | false => rw [if_neg Bool.false_ne_true]; exact k _ H1 F1 w1 (h2 rfl)
theorem wp_or (h : Wp o (tt σ) F fun b F1 => (b = true → T true F1) ∧ (b = false → Wp o (tu σ) F1 T)) : Wp o (tOr tt tu σ) F T := fun H w Q k =>
  h H w _ fun b H1 F1 w1 ⟨h1, h2⟩ => by
    cases b with
    | true => rw [if_pos rfl]; exact k _ H1 F1 w1 (h1 rfl)
    | false => rw [if_neg Bool.false_ne_true]; exact h2 rfl H1 w1 Q k
/-- and, or: one way for both noes (yeses) -/
theorem wp_andS {X Y : Hp → Prop} (R : Hp → Prop) (h : Wp o (tt σ) F fun b F1 => R F1 ∧ (b = true → Wp o (tu σ) F1 fun c F2 => R F2 ∧ (c = true → X F2))) (e : ∀ F1, R F1 → Y F1) :
    Wp o (tAnd tt tu σ) F fun b F1 => (b = true → X F1) ∧ (b = false → Y F1) := fun H w Q k => h H w _ fun b H1 F1 w1 ⟨r, h1⟩ => by
  cases b with
  | true => rw [if_pos rfl]; exact h1 rfl H1 w1 Q fun c H2 F2 w2 ⟨r2, x⟩ => k c H2 F2 w2 ⟨x, fun _ => e F2 r2⟩
  | false => rw [if_neg Bool.false_ne_true]; exact k _ H1 F1 w1 ⟨fun z => (by cases z), fun _ => e F1 r⟩
theorem wp_orS {X Y : Hp → Prop} (R : Hp → Prop) (h : Wp o (tt σ) F fun b F1 => R F1 ∧ (b = false → Wp o (tu σ) F1 fun c F2 => R F2 ∧ (c = false → Y F2))) (e : ∀ F1, R F1 → X F1) :
    Wp o (tOr tt tu σ) F fun b F1 => (b = true → X F1) ∧ (b = false → Y F1) := fun H w Q k => h H w _ fun b H1 F1 w1 ⟨r, h1⟩ => by
  cases b with
  | true => rw [if_pos rfl]; exact k _ H1 F1 w1 ⟨fun _ => e F1 r, fun z => (by cases z)⟩
  | false => rw [if_neg Bool.false_ne_true]; exact h1 rfl H1 w1 Q fun c H2 F2 w2 ⟨r2, x⟩ => k c H2 F2 w2 ⟨fun _ => e F2 r2, x⟩
theorem wp_not (h : Wp o (tt σ) F fun b F1 => T (!b) F1) : Wp o (tNot tt σ) F T := fun H w Q k => h H w _ fun b H1 F1 w1 p => k _ H1 F1 w1 p
theorem wp_yes (q : T true F) : Wp o (tYes σ) F T := fun H w Q k => k _ H F w q
/-! arguments, displays, calls -/
variable {L : List V → Hp → Prop} {tl tr : TA}
theorem wp_nil (q : L [] F) : Wp o (tNil σ) F L := fun H w Q k => k _ H F w q
theorem wp_cons (h : Wp o (ta σ) F fun x F1 => Wp o (tr σ) F1 fun xs F2 => L (x :: xs) F2) : Wp o (tCons ta tr σ) F L := fun H w Q k =>
  h H w _ fun x H1 F1 w1 h1 => h1 H1 w1 _ fun xs H2 F2 w2 h2 => k _ H2 F2 w2 h2
theorem wp_tup (h : Wp o (tl σ) F fun vs F1 => vs.length ≤ 100000 ∧ ∀ p, F1 p = none → P (.ref p) (upd F1 p (.tup vs))) : Wp o (tTup tl σ) F P := fun H w Q k =>
  h H w _ fun vs H1 F1 w1 ⟨hl, h1⟩ => ⟨sz hl, fun p hp => k _ _ _ (w1.new1 hp) (h1 p (w1.fr hp))⟩
theorem wp_lst (h : Wp o (tl σ) F fun vs F1 => vs.length ≤ 100000 ∧ ∀ p, F1 p = none → P (.ref p) (upd F1 p (.lst vs))) : Wp o (tLst tl σ) F P := fun H w Q k =>
  h H w _ fun vs H1 F1 w1 ⟨hl, h1⟩ => ⟨sz hl, fun p hp => k _ _ _ (w1.new1 hp) (h1 p (w1.fr hp))⟩
theorem wp_call {sp : Sp} {dvs : List V} {E : XK} (h : Wp o (tl σ) F fun vs F1 => Wp o (fun H Q => sp (vs ++ dvs) H Q E) F1 P) : Wp o (tCall sp dvs E tl σ) F P := fun H w Q k =>
  h H w _ fun vs H1 F1 w1 h1 => h1 H1 w1 Q k
theorem wp_cb {r : List V → Hp → VK → Prop} (h : Wp o (tl σ) F fun vs F1 => Wp o (r vs) F1 P) : Wp o (tCB r tl σ) F P := fun H w Q k =>
  h H w _ fun vs H1 F1 w1 h1 => h1 H1 w1 Q k
/-- x.m(..), x a list -/
theorem wp_bmL {r : V → List V → Hp → VK → Prop} (h : Wp o (ta σ) F fun x F1 => ∃ a xs, x = .ref a ∧ SqL K F1 a xs ∧ Wp o (tl σ) F1 fun vs F2 => Wp o (r (.ref a) vs) F2 P) : Wp o (tBM K "list" r ta tl σ) F P := fun H w Q k =>
  h H w _ fun x H1 F1 w1 ⟨a, xs, e, hs, h1⟩ => by
    subst e
    exact ⟨.inl ⟨rfl, xs, w1.l hs⟩, h1 H1 w1 _ fun vs H2 F2 w2 h2 => h2 H2 w2 Q k⟩
theorem wp_bm0L {r : V → List V → Hp → VK → Prop} (h : Wp o (ta σ) F fun x F1 => ∃ a xs, x = .ref a ∧ SqL K F1 a xs ∧ Wp o (r (.ref a) []) F1 P) : Wp o (tBM0 K "list" r ta σ) F P := fun H w Q k =>
  h H w _ fun x H1 F1 w1 ⟨a, xs, e, hs, h1⟩ => by
    subst e
    exact ⟨.inl ⟨rfl, xs, w1.l hs⟩, h1 H1 w1 Q k⟩
theorem wp_m1 {r : V → List V → Hp → VK → Prop} (h : Wp o (ta σ) F fun x F1 => (∃ a, x = .str a) ∧ Wp o (tb σ) F1 fun y F2 => Wp o (r x [y]) F2 P) : Wp o (tM1 r ta tb σ) F P := fun H w Q k =>
  h H w _ fun x H1 F1 w1 ⟨e, h1⟩ => ⟨e, h1 H1 w1 _ fun y H2 F2 w2 h2 => h2 H2 w2 Q k⟩
theorem wp_bmS {r : V → List V → Hp → VK → Prop} (h : Wp o (ta σ) F fun x F1 => ∃ a, x = .str a ∧ Wp o (tl σ) F1 fun vs F2 => Wp o (r x vs) F2 P) : Wp o (tBM K "str" r ta tl σ) F P := fun H w Q k =>
  h H w _ fun x H1 F1 w1 ⟨a, e, h1⟩ => by
    subst e
    exact ⟨rfl, h1 H1 w1 _ fun vs H2 F2 w2 h2 => h2 H2 w2 Q k⟩
/-! slices -/
variable {O : Option Int → Hp → Prop}
theorem wp_noPart (q : O none F) : Wp o (tNoPart σ) F O := fun H w Q k => k _ H F w q
theorem wp_part (h : Wp o (te σ) F fun x F1 => ∃ i, x = .int i ∧ O (some i) F1) : Wp o (tPart te σ) F O := fun H w Q k => h H w _ fun x H1 F1 w1 ⟨i, e, p⟩ => ⟨i, e, k _ H1 F1 w1 p⟩
theorem wp_sl {r : V → Option Int → Option Int → Hp → VK → Prop} {ll lh : TO} (h : Wp o (te σ) F fun x F1 => Wp o (ll σ) F1 fun a F2 => Wp o (lh σ) F2 fun b F3 => Wp o (r x a b) F3 P) : Wp o (tSl r te ll lh σ) F P := fun H w Q k =>
  h H w _ fun x H1 F1 w1 h1 => h1 H1 w1 _ fun a H2 F2 w2 h2 => h2 H2 w2 _ fun b H3 F3 w3 h3 => h3 H3 w3 Q k

/-! ### operators by values -/
def rAddP : R2 := fun x y H Q => rI0 (fun i j => .int (i + j)) x y H Q ∨ (∃ i j, x = .str i ∧ y = .str j ∧ i.length + j.length ≤ sizeLine ∧ Q (.str (i ++ j)) H) ∨ rCat x y H Q
theorem op_addP {X : Cx} : OpR X (binaryOp .Add) rAddP := op_add.or (op_add_str.or op_cat)
theorem wp_addI {i j : Int} (q : P (.int (i + j)) F) : Wp o (rAddP (.int i) (.int j)) F P := fun H w Q k => .inl ⟨i, j, rfl, rfl, k _ H F w q⟩
theorem tx_app (a b : List Nat) : tx a ++ tx b = tx (a ++ b) := by
  show (⟨a.toArray ++ b.toArray⟩ : Str) = ⟨(a ++ b).toArray⟩
  simp
theorem tx_len (a : List Nat) : (tx a).length = a.length := by
  show a.toArray.size = a.length
  simp
theorem wp_addS {i j : List Nat} (h : i.length + j.length ≤ 100000) (q : P (.str (tx (i ++ j))) F) : Wp o (rAddP (.str (tx i)) (.str (tx j))) F P := fun H w Q k =>
  .inr (.inl ⟨tx i, tx j, rfl, rfl, by rw [tx_len, tx_len]; exact sz h, by rw [tx_app]; exact k _ H F w q⟩)
theorem wp_addL {a b : Addr} {xs ys : List V} (ha : F a = some (.lst xs)) (hb : F b = some (.lst ys)) (h : xs.length + ys.length ≤ 100000) (q : ∀ p, F p = none → P (.ref p) (upd F p (.lst (xs ++ ys)))) : Wp o (rAddP (.ref a) (.ref b)) F P := fun H w Q k =>
  .inr (.inr ⟨a, b, xs, ys, rfl, rfl, w.ex _ _ ha, w.ex _ _ hb, sz h, fun p hp => k _ _ _ (w.new1 hp) (q p (w.fr hp))⟩)
def rMulP : R2 := fun x y H Q => rI CMul (fun i j => .int (i * j)) x y H Q ∨ rRep x y H Q
theorem op_mulP {X : Cx} : OpR X (binaryOp .Mult) rMulP := op_mul.or op_rep
theorem wp_mulI {i j : Int} (h : CMul i j) (q : P (.int (i * j)) F) : Wp o (rMulP (.int i) (.int j)) F P := fun H w Q k => .inl ⟨i, j, rfl, rfl, h, k _ H F w q⟩
theorem wp_rep {a : Addr} {n : Nat} {xs : List V} (ha : F a = some (.lst xs)) (h : xs.length * n ≤ 100000) (hn : n ≤ 100000) (q : ∀ p, F p = none → P (.ref p) (upd F p (.lst (List.replicate n xs).flatten))) : Wp o (rMulP (.ref a) (.int (n : Int))) F P := fun H w Q k =>
  .inr ⟨a, n, xs, rfl, rfl, w.ex _ _ ha, by omega, by omega, by rw [Int.toNat_natCast]; exact sz h, fun p hp => by
    rw [Int.toNat_natCast]
    exact k _ _ _ (w.new1 hp) (q p (w.fr hp))⟩
abbrev rSub : R2 := rI0 fun i j => .int (i - j)
abbrev rLt : R2 := rI0 fun i j => .bl (decide (i < j))
abbrev rLe : R2 := rI0 fun i j => .bl (decide (i ≤ j))
theorem wp_i0 {g : Int → Int → V} {i j : Int} (q : P (g i j) F) : Wp o (rI0 g (.int i) (.int j)) F P := fun H w Q k => ⟨i, j, rfl, rfl, k _ H F w q⟩
theorem wp_i {C : Int → Int → Prop} {g : Int → Int → V} {i j : Int} (h : C i j) (q : P (g i j) F) : Wp o (rI C g (.int i) (.int j)) F P := fun H w Q k => ⟨i, j, rfl, rfl, h, k _ H F w q⟩
theorem wp_u {g : Int → V} {i : Int} (q : P (g i) F) : Wp o (rU g (.int i)) F P := fun H w Q k => ⟨i, rfl, k _ H F w q⟩
def rEqP (K : PySem.W.Frag) : R2 := fun x y H Q => rEq x y H Q ∨ rEqD K x y H Q
def rNeP (K : PySem.W.Frag) : R2 := fun x y H Q => rNe x y H Q ∨ rNeD K x y H Q
theorem op_eqP {X : Cx} (hu : X.A.units + 64 < cLine) : OpR X (compareOp .Eq) (rEqP X.K) := op_eq.or (op_eqD hu)
theorem op_neP {X : Cx} (hu : X.A.units + 64 < cLine) : OpR X (compareOp .NotEq) (rNeP X.K) := op_ne.or (op_neD hu)
theorem decI {i j : Int} : decide (V.int i = V.int j) = decide (i = j) := by simp
theorem decS {i j : List Nat} : decide (V.str (tx i) = V.str (tx j)) = decide (i = j) := by
  have h : (tx i = tx j) ↔ i = j := ⟨fun e => by
    have e2 := congrArg (fun s : Str => s.cps.toList) e
    simpa [tx] using e2, fun e => by rw [e]⟩
  simp [h]
theorem wp_eqI {i j : Int} (q : P (.bl (decide (i = j))) F) : Wp o (rEqP K (.int i) (.int j)) F P := fun H w Q k => .inl ⟨rfl, by rw [decI]; exact k _ H F w q⟩
theorem wp_neI {i j : Int} (q : P (.bl (!decide (i = j))) F) : Wp o (rNeP K (.int i) (.int j)) F P := fun H w Q k => .inl ⟨rfl, by rw [decI]; exact k _ H F w q⟩
theorem wp_eqS {i j : List Nat} (q : P (.bl (decide (i = j))) F) : Wp o (rEqP K (.str (tx i)) (.str (tx j))) F P := fun H w Q k => .inl ⟨rfl, by rw [decS]; exact k _ H F w q⟩
theorem wp_neS {i j : List Nat} (q : P (.bl (!decide (i = j))) F) : Wp o (rNeP K (.str (tx i)) (.str (tx j))) F P := fun H w Q k => .inl ⟨rfl, by rw [decS]; exact k _ H F w q⟩
theorem wp_isN {x : V} (q : P (.bl (decide (x = .non))) F) : Wp o (fun H Q => V.non = .non ∧ Q (.bl (decide (x = .non))) H) F P := fun H w Q k => ⟨rfl, k _ H F w q⟩
/-! data -/
mutual
theorem Dp.up {H H1 : Hp} (e : Ex H H1) : ∀ {v : V} {d : PyData}, Dp K H v d → Dp K H1 v d
  | _, _, .non => .non
  | _, _, .bl b => .bl b
  | _, _, .int i => .int i
  | _, _, .str x => .str x
  | _, _, .lst h a => .lst (ex_l e h) (DpAll.up e a)
  | _, _, .tup h a => .tup (ex_t e h) (DpAll.up e a)
theorem DpAll.up {H H1 : Hp} (e : Ex H H1) : ∀ {vs : List V} {ds : List PyData}, DpAll K H vs ds → DpAll K H1 vs ds
  | _, _, .nil => .nil
  | _, _, .cons a b => .cons (Dp.up e a) (DpAll.up e b)
end
theorem wp_eqD {d e : PyData} (h1 : Dp K F x d) (h2 : Dp K F y e) (s1 : SeqAt.shaped d = true) (s2 : SeqAt.shaped e = true) (q : P (.bl (PyData.eqv d e)) F) : Wp o (rEqP K x y) F P := fun H w Q k =>
  .inr ⟨d, e, Dp.up w.ex h1, Dp.up w.ex h2, s1, s2, k _ H F w q⟩
theorem wp_neD {d e : PyData} (h1 : Dp K F x d) (h2 : Dp K F y e) (s1 : SeqAt.shaped d = true) (s2 : SeqAt.shaped e = true) (q : P (.bl (!PyData.eqv d e)) F) : Wp o (rNeP K x y) F P := fun H w Q k =>
  .inr ⟨d, e, Dp.up w.ex h1, Dp.up w.ex h2, s1, s2, k _ H F w q⟩
def rInP (K : PySem.W.Frag) : R2 := fun x y H Q => (∃ (c : Nat) (z : Str), x = .str ⟨#[c]⟩ ∧ y = .str z ∧ Q (.bl (decide (c ∈ z.cps.toList))) H) ∨ rIn K false x y H Q
def rNiP (K : PySem.W.Frag) : R2 := fun x y H Q => (∃ (c : Nat) (z : Str), x = .str ⟨#[c]⟩ ∧ y = .str z ∧ Q (.bl (!decide (c ∈ z.cps.toList))) H) ∨ rIn K true x y H Q
theorem op_inP {X : Cx} : OpR X (compareOp .In) (rInP X.K) := op_in_sign.or op_in_seq
theorem op_niP {X : Cx} : OpR X (compareOp .NotIn) (rNiP X.K) := op_notIn_sign.or op_notIn_seq
theorem wp_inS {c : Nat} {l : List Nat} (q : P (.bl (decide (c ∈ l))) F) : Wp o (rInP K (sg c) (.str (tx l))) F P := fun H w Q k => .inl ⟨c, tx l, rfl, rfl, k _ H F w q⟩
theorem wp_niS {c : Nat} {l : List Nat} (q : P (.bl (!decide (c ∈ l))) F) : Wp o (rNiP K (sg c) (.str (tx l))) F P := fun H w Q k => .inl ⟨c, tx l, rfl, rfl, k _ H F w q⟩
theorem wp_niT {p : Addr} {xs : List V} (h : SqT K F p xs) (hx : flatV x = true) (ha : xs.all flatV = true) (q : P (.bl (!inV x xs)) F) : Wp o (rNiP K x (.ref p)) F P := fun H w Q k =>
  .inr ⟨p, xs, rfl, .inr (w.t h), hx, ha, k _ H F w q⟩
/-! subscripts -/
theorem wp_ixL {p : Addr} {xs : List V} {i : Int} (h : SqL K F p xs) (ha : atI xs i = some v) (q : P v F) : Wp o (rIx K (.ref p) (.int i)) F P := fun H w Q k => .inl ⟨p, xs, i, v, rfl, rfl, w.l h, ha, k _ H F w q⟩
theorem wp_ixT {p : Addr} {xs : List V} {i : Int} (h : SqT K F p xs) (ha : atI xs i = some v) (q : P v F) : Wp o (rIx K (.ref p) (.int i)) F P := fun H w Q k => .inr (.inl ⟨p, xs, i, v, rfl, rfl, w.t h, ha, k _ H F w q⟩)
theorem wp_ixS {l : List Nat} {i : Int} {c : Nat} (h : l.length ≤ 100000) (ha : atI l i = some c) (q : P (sg c) F) : Wp o (rIx K (.str (tx l)) (.int i)) F P := fun H w Q k =>
  .inr (.inr ⟨tx l, i, c, rfl, rfl, by rw [tx_len]; exact sz h, ha, k _ H F w q⟩)
def cutN (l : List Nat) (lo hi : Option Int) : List Nat := (l.drop (HT.sIx l.length 0 lo)).take (HT.sIx l.length l.length hi - HT.sIx l.length 0 lo)
def rSlP (K : PySem.W.Frag) : V → Option Int → Option Int → Hp → VK → Prop := fun x a b H Q => rSlL K x a b H Q ∨ rSlS x a b H Q
theorem sl_P {X : Cx} : SlR X (rSlP X.K) := sl_list.or sl_str
theorem wp_slL {p : Addr} {xs : List V} {a b : Option Int} (h : SqL K F p xs) (q : ∀ p, F p = none → P (.ref p) (upd F p (.lst (cutV xs a b)))) : Wp o (rSlP K (.ref p) a b) F P := fun H w Q k =>
  .inl ⟨p, xs, rfl, w.l h, fun p hp => k _ _ _ (w.new1 hp) (q p (w.fr hp))⟩
theorem wp_slS {l : List Nat} {a b : Option Int} (h : l.length ≤ 100000) (q : P (.str (tx (cutN l a b))) F) : Wp o (rSlP K (.str (tx l)) a b) F P := fun H w Q k =>
  .inr ⟨tx l, rfl, by rw [tx_len]; exact sz h, by
    have e : cutS (tx l) a b = tx (cutN l a b) := by
      unfold cutS cutN tx
      simp only [Str.length, List.size_toArray]
    rw [e]; exact k _ H F w q⟩
/-! built-ins -/
abbrev rLenV (K : PySem.W.Frag) : List V → Hp → VK → Prop := fun xs H Q => ∃ x n, xs = [x] ∧ LenV K x H n ∧ Q (.int n) H
theorem wp_lenL {p : Addr} {xs : List V} (h : SqL K F p xs) (q : P (.int (xs.length : Nat)) F) : Wp o (rLenV K [.ref p]) F P := fun H w Q k => ⟨_, xs.length, rfl, .inl ⟨xs, w.l h, rfl⟩, k _ H F w q⟩
theorem wp_lenT {p : Addr} {xs : List V} (h : SqT K F p xs) (q : P (.int (xs.length : Nat)) F) : Wp o (rLenV K [.ref p]) F P := fun H w Q k => ⟨_, xs.length, rfl, .inr ⟨xs, w.t h, rfl⟩, k _ H F w q⟩
theorem wp_lenS {l : List Nat} (h : l.length ≤ 100000) (q : P (.int (l.length : Nat)) F) : Wp o (rLenV K [.str (tx l)]) F P := fun H w Q k => ⟨_, l.length, rfl, ⟨by rw [tx_len]; exact sz h, (tx_len l).symm⟩, k _ H F w q⟩
def rListP (K : PySem.W.Frag) : List V → Hp → VK → Prop := fun xs H Q => (∃ p ys, xs = [.ref p] ∧ (SqL K H p ys ∨ SqT K H p ys) ∧ ∀ l, H l = none → Q (.ref l) (upd H l (.lst ys))) ∨
  (∃ z : Str, xs = [.str z] ∧ z.length ≤ sizeLine ∧ ∀ q, H q = none → Q (.ref q) (upd H q (.lst (sgs z))))
theorem call_listP {X : Cx} (hc : X.calm = true) : CallR X (.type "list") (rListP X.K) := call_list_of.or (call_list_sg hc)
theorem wp_listL {p : Addr} {xs : List V} (h : SqL K F p xs) (q : ∀ p, F p = none → P (.ref p) (upd F p (.lst xs))) : Wp o (rListP K [.ref p]) F P := fun H w Q k =>
  .inl ⟨p, xs, rfl, .inl (w.l h), fun p hp => k _ _ _ (w.new1 hp) (q p (w.fr hp))⟩
theorem wp_listS {l : List Nat} (h : l.length ≤ 100000) (q : ∀ p, F p = none → P (.ref p) (upd F p (.lst (l.map sg)))) : Wp o (rListP K [.str (tx l)]) F P := fun H w Q k =>
  .inr ⟨tx l, rfl, by rw [tx_len]; exact sz h, fun p hp => k _ _ _ (w.new1 hp) (q p (w.fr hp))⟩
theorem wp_lenSg (h : Wp o (ta σ) F fun x F1 => ∃ l : List Nat, x = .str (tx l) ∧ l.length ≤ 1000 ∧ P (.int (dd l : Nat)) F1) : Wp o (tLenSg ta σ) F P := fun H w Q k =>
  h H w _ fun x H1 F1 w1 ⟨l, e, hl, p⟩ => ⟨l, e, hl, k _ H1 F1 w1 p⟩
end

/-! ### what a def hands back -/
/-- a new object -/
def RetN (u : HO) (H : Hp) (Q : VK) : Prop := ∀ p H1, H p = none → Ex H H1 → H1 p = some u → Q (.ref p) H1
/-- a value -/
def RetV (v : V) (H : Hp) (Q : VK) : Prop := ∀ H1, Ex H H1 → Q v H1
section
variable {o : Option Addr} {F H : Hp} {P : V → Hp → Prop} {Q : VK} {u : HO} {v : V}
theorem RetN.use (w : Wd o F H) (q : ∀ p, F p = none → P (.ref p) (upd F p u)) (k : ∀ v H1 F1, Wd o F1 H1 → P v F1 → Q v H1) : RetN u H Q := fun p H1 n e h => k _ _ _ (w.new n e h) (q p (w.fr n))
theorem RetV.use (w : Wd o F H) (q : P v F) (k : ∀ v H1 F1, Wd o F1 H1 → P v F1 → Q v H1) : RetV v H Q := fun H1 e => k _ _ _ (w.up e) q
theorem RetN.out {p : Addr} {F1 : Hp} (k : RetN u H Q) (e : Ex H F1) (n : H p = none) (h : F1 p = some u) : ∀ H1, Wd o F1 H1 → Q (.ref p) H1 := fun H1 w => k p H1 n (e.trans w.ex) (w.ex _ _ h)
theorem RetV.out {F1 : Hp} (k : RetV v H Q) (e : Ex H F1) : ∀ H1, Wd o F1 H1 → Q v H1 := fun H1 w => k H1 (e.trans w.ex)
end

/-! ### statements -/
section
variable {o : Option Addr} {F : Hp} {σ : L2.St} {K : PySem.W.Frag} {D : Ends} {te ta tb : TE} {tt : TT} {tu tw tz : TS} {g : TG} {tl : TA}
theorem go_set {i : Nat} (h : Wp o (te σ) F fun v F1 => Go o tz D (σ.set i (some v)) F1) : Go o (tSeq (tAsg te (gName i)) tz) D σ F := fun H w => h H w _ fun v H1 F1 w1 k => k H1 w1
theorem go_asg (h : Wp o (te σ) F fun v F1 => Wp o (g v σ) F1 fun σ1 F2 => Go o tz D σ1 F2) : Go o (tSeq (tAsg te g) tz) D σ F := fun H w => h H w _ fun v H1 F1 w1 k => k H1 w1 _ fun σ1 H2 F2 w2 k2 => k2 H2 w2
theorem go_if (h : Wp o (tt σ) F fun b F1 => (b = true → Go o tu { D with nx := tz D } σ F1) ∧ (b = false → Go o tw { D with nx := tz D } σ F1)) : Go o (tSeq (tIfS tt tu tw) tz) D σ F := fun H w => h H w _ fun b H1 F1 w1 ⟨h1, h2⟩ => by
  cases b with
  | true => rw [if_pos rfl]; exact h1 rfl H1 w1
  | false => rw [if_neg Bool.false_ne_true]; exact h2 rfl H1 w1
theorem go_ret (h : Wp o (te σ) F fun v F1 => ∀ H, Wd o F1 H → D.rt v H) : Go o (tSeq (tRet te) tz) D σ F := fun H w => h H w _ fun v H1 F1 w1 k => k H1 w1
theorem go_drop (h : Wp o (te σ) F fun v F1 => Go o tz D σ F1) : Go o (tSeq (tDrop te) tz) D σ F := fun H w => h H w _ fun v H1 F1 w1 k => k H1 w1
theorem go_never (h : False) : Go o (tSeq tNever tz) D σ F := h.elim
theorem go_next (h : ∀ H, Wd o F H → D.nx σ H) : Go o tNext D σ F := h
/-- the end of a branch: on with what is behind the if -/
theorem go_back {D1 : Ends} (h : Go o tz D1 σ F) : Go o tNext { D with nx := tz D1 } σ F := h
/-- the end of a loop's turn -/
theorem go_turn {P : L2.St → Hp → Prop} (hD : D.nx = Cl o P) (h : P σ F) : Go o tNext D σ F := fun H w => by
  show D.nx σ H
  rw [hD]
  exact ⟨F, w, h⟩
theorem go_turnW {P : L2.St → Hp → Prop} (h : P σ F) : ∀ H, Wd o F H → Cl o P σ H := fun H w => ⟨F, w, h⟩
/-! targets -/
variable {P : L2.St → Hp → Prop} {v : V} {vs : List V} {gs : TGs}
theorem wp_gName {i : Nat} (q : P (σ.set i (some v)) F) : Wp o (gName i v σ) F P := fun H w Q k => k _ H F w q
theorem wp_gTup {n : Nat} {a : Addr} (h : SqT K F a vs) (hl : vs.length = n) (q : Wp o (gs vs σ) F P) : Wp o (gTup K n gs (.ref a) σ) F P := fun H w Q k => ⟨a, vs, rfl, w.t h, hl, q H w Q k⟩
theorem wp_gCons (h : Wp o (g v σ) F fun σ1 F1 => Wp o (gs vs σ1) F1 P) : Wp o (gCons g gs (v :: vs) σ) F P := fun H w Q k => ⟨v, vs, rfl, h H w _ fun σ1 H1 F1 w1 h1 => h1 H1 w1 Q k⟩
theorem wp_gNil (q : P σ F) : Wp o (gNil [] σ) F P := fun H w Q k => ⟨rfl, k _ H F w q⟩
theorem wp_gSetL (h : Wp o (ta σ) F fun x F1 => Wp o (tb σ) F1 fun y F2 => ∃ a xs i j, x = .ref a ∧ y = .int i ∧ F2 a = some (.lst xs) ∧ ixN xs.length i = some j ∧ P σ (upd F2 a (.lst (xs.set j v)))) : Wp o (gSub ta tb rSetL v σ) F P := fun H w Q k =>
  h H w _ fun x H1 F1 w1 h1 => h1 H1 w1 _ fun y H2 F2 w2 ⟨a, xs, i, j, e1, e2, hf, hj, p⟩ => ⟨a, xs, i, j, e1, e2, w2.ex _ _ hf, hj, k _ _ _ (w2.mut hf) p⟩
/-! list methods as statements -/
variable {R : V → Hp → Prop}
theorem wp_append {a : Addr} {xs : List V} {x : V} (h : F a = some (.lst xs)) (hz : xs.length < 100000) (q : R .non (upd F a (.lst (xs ++ [x])))) : Wp o (rAppend (.ref a) [x]) F R := fun H w Q k =>
  ⟨a, xs, x, rfl, rfl, w.ex _ _ h, sz1 hz, k _ _ _ (w.mut h) q⟩
theorem wp_clear {a : Addr} {xs : List V} (h : F a = some (.lst xs)) (q : R .non (upd F a (.lst []))) : Wp o (rClear (.ref a) []) F R := fun H w Q k =>
  ⟨a, xs, rfl, rfl, w.ex _ _ h, k _ _ _ (w.mut h) q⟩
/-! loops -/
/-- over a list -/
theorem go_forL (Iv : Nat → L2.St → Hp → Prop) (h : Wp o (te σ) F fun x F1 => ∃ a xs, x = .ref a ∧ SqL K F1 a xs ∧ Iv 0 σ F1 ∧ (∀ i σ1 F2, i ≤ xs.length → Iv i σ1 F2 → SqL K F2 a xs) ∧
    (∀ i y σ1 F2, xs[i]? = some y → Iv i σ1 F2 → Wp o (g y σ1) F2 fun σ2 F3 => Go o tu { D with nx := Cl o (Iv (i + 1)), ct := Cl o (Iv (i + 1)), bk := tz D } σ2 F3) ∧ (∀ σ1 F2, Iv xs.length σ1 F2 → Go o tz D σ1 F2)) :
    Go o (tSeq (tFor (iList K te) g tu) tz) D σ F := fun H w => h H w _ fun x H1 F1 w1 ⟨a, xs, e, hs, h0, hl, ht, hd⟩ => ⟨a, e, ⟨xs, w1.l hs⟩,
  for_list (D := { D with nx := tz D }) (fun i => Cl o (Iv i)) ⟨F1, w1, h0⟩ (fun i σ1 H2 hi ⟨F2, w2, p⟩ => w2.l (hl i σ1 F2 hi p)) (fun i y σ1 H2 hy ⟨F2, w2, p⟩ => ht i y σ1 F2 hy p H2 w2 _ fun σ2 H3 F3 w3 k => k H3 w3) fun σ1 H2 ⟨F2, w2, p⟩ => hd σ1 F2 p H2 w2⟩
/-- .. the invariant chosen when the list is known -/
theorem go_forLx (h : Wp o (te σ) F fun x F1 => ∃ a xs, x = .ref a ∧ SqL K F1 a xs ∧ ∃ Iv : Nat → L2.St → Hp → Prop, Iv 0 σ F1 ∧ (∀ i σ1 F2, i ≤ xs.length → Iv i σ1 F2 → SqL K F2 a xs) ∧
    (∀ i y σ1 F2, xs[i]? = some y → Iv i σ1 F2 → Wp o (g y σ1) F2 fun σ2 F3 => Go o tu { D with nx := Cl o (Iv (i + 1)), ct := Cl o (Iv (i + 1)), bk := tz D } σ2 F3) ∧ (∀ σ1 F2, Iv xs.length σ1 F2 → Go o tz D σ1 F2)) :
    Go o (tSeq (tFor (iList K te) g tu) tz) D σ F := fun H w => h H w _ fun x H1 F1 w1 ⟨a, xs, e, hs, Iv, h0, hl, ht, hd⟩ => ⟨a, e, ⟨xs, w1.l hs⟩,
  for_list (D := { D with nx := tz D }) (fun i => Cl o (Iv i)) ⟨F1, w1, h0⟩ (fun i σ1 H2 hi ⟨F2, w2, p⟩ => w2.l (hl i σ1 F2 hi p)) (fun i y σ1 H2 hy ⟨F2, w2, p⟩ => ht i y σ1 F2 hy p H2 w2 _ fun σ2 H3 F3 w3 k => k H3 w3) fun σ1 H2 ⟨F2, w2, p⟩ => hd σ1 F2 p H2 w2⟩
theorem go_forT (Iv : Nat → L2.St → Hp → Prop) (h : Wp o (te σ) F fun x F1 => ∃ a xs, x = .ref a ∧ SqT K F1 a xs ∧ Iv 0 σ F1 ∧ (∀ i σ1 F2, i ≤ xs.length → Iv i σ1 F2 → SqT K F2 a xs) ∧
    (∀ i y σ1 F2, xs[i]? = some y → Iv i σ1 F2 → Wp o (g y σ1) F2 fun σ2 F3 => Go o tu { D with nx := Cl o (Iv (i + 1)), ct := Cl o (Iv (i + 1)), bk := tz D } σ2 F3) ∧ (∀ σ1 F2, Iv xs.length σ1 F2 → Go o tz D σ1 F2)) :
    Go o (tSeq (tFor (iTup K te) g tu) tz) D σ F := fun H w => h H w _ fun x H1 F1 w1 ⟨a, xs, e, hs, h0, hl, ht, hd⟩ => ⟨a, e, ⟨xs, w1.t hs⟩,
  for_tup (D := { D with nx := tz D }) (fun i => Cl o (Iv i)) ⟨F1, w1, h0⟩ (fun i σ1 H2 hi ⟨F2, w2, p⟩ => w2.t (hl i σ1 F2 hi p)) (fun i y σ1 H2 hy ⟨F2, w2, p⟩ => ht i y σ1 F2 hy p H2 w2 _ fun σ2 H3 F3 w3 k => k H3 w3) fun σ1 H2 ⟨F2, w2, p⟩ => hd σ1 F2 p H2 w2⟩
/-- over range(n) -/
theorem go_forR {j : Nat} (Iv : Nat → L2.St → Hp → Prop) (h : Wp o (tl σ) F fun vs F1 => ∃ n : Nat, vs = [.int (n : Int)] ∧ n ≤ 1000000 ∧ Iv 0 σ F1 ∧
    (∀ i σ1 F2, i < n → Iv i σ1 F2 → Go o tu { D with nx := Cl o (Iv (i + 1)), ct := Cl o (Iv (i + 1)), bk := tz D } (σ1.set j (some (.int (i : Int)))) F2) ∧ (∀ σ1 F2, Iv n σ1 F2 → Go o tz D σ1 F2)) :
    Go o (tSeq (tFor (iRng1 tl) (gName j) tu) tz) D σ F := fun H w => h H w _ fun vs H1 F1 w1 ⟨n, e, hn, h0, ht, hd⟩ => ⟨(n : Int), e, by omega, by omega, by
  rw [Int.toNat_natCast]
  exact for_range (D := { D with nx := tz D }) (fun i => Cl o (Iv i)) ⟨F1, w1, h0⟩ (fun i σ1 H2 hi ⟨F2, w2, p⟩ => by
    have e0 : (0 : Int) + (i : Int) = (i : Int) := Int.zero_add _
    rw [e0]
    exact ht i σ1 F2 hi p H2 w2) fun σ1 H2 ⟨F2, w2, p⟩ => hd σ1 F2 p H2 w2⟩
/-- over enumerate(list) -/
theorem go_forE (Iv : Nat → L2.St → Hp → Prop) (h : Wp o (tl σ) F fun us F1 => ∃ a xs, us = [.ref a] ∧ SqL K F1 a xs ∧ Iv 0 σ F1 ∧ (∀ i σ1 F2, i ≤ xs.length → Iv i σ1 F2 → SqL K F2 a xs) ∧
    (∀ i y σ1 F2 p, xs[i]? = some y → F2 p = none → Iv i σ1 F2 → Wp o (g (.ref p) σ1) (upd F2 p (.tup [.int (i : Nat), y])) fun σ2 F3 => Go o tu { D with nx := Cl o (Iv (i + 1)), ct := Cl o (Iv (i + 1)), bk := tz D } σ2 F3) ∧ (∀ σ1 F2, Iv xs.length σ1 F2 → Go o tz D σ1 F2)) :
    Go o (tSeq (tFor (iEnum K tl) g tu) tz) D σ F := fun H w => h H w _ fun us H1 F1 w1 ⟨a, xs, e, hs, h0, hl, ht, hd⟩ => ⟨a, xs, e, w1.l hs,
  for_it (D := { D with nx := tz D }) walk_enum (fun i => Cl o (Iv i)) ⟨F1, w1, h0⟩ (fun i σ1 H2 hi ⟨F2, w2, p⟩ => w2.l (hl i σ1 F2 hi p)) (fun i v σ1 H2 H3 hi ⟨F2, w2, p⟩ hy => by
    obtain ⟨T, x, y, e1, e2, e3, e4, e5⟩ := hy
    cases e4
    subst e1; subst e3
    exact ht i y σ1 F2 T e5 (w2.fr e2) p _ (w2.new1 e2) _ fun σ2 H4 F4 w4 k => k H4 w4) fun σ1 H2 ⟨F2, w2, p⟩ => hd σ1 F2 p H2 w2⟩
theorem go_while (Iv : Nat → L2.St → Hp → Prop) (m : Nat) (h0 : Iv m σ F) (h : ∀ m σ1 F1, Iv m σ1 F1 → Wp o (tt σ1) F1 fun b F2 =>
    (b = true → Go o tu { D with nx := Cl o (fun σ2 F3 => ∃ m1, m1 < m ∧ Iv m1 σ2 F3), ct := Cl o (fun σ2 F3 => ∃ m1, m1 < m ∧ Iv m1 σ2 F3), bk := tz D } σ1 F2) ∧ (b = false → Go o tz D σ1 F2)) :
    Go o (tSeq (tWhile tt tu) tz) D σ F := fun H w => ⟨fun m => Cl o (Iv m), ⟨m, F, w, h0⟩, fun m σ1 H1 ⟨F1, w1, p⟩ => h m σ1 F1 p H1 w1 _ fun b H2 F2 w2 ⟨h1, h2⟩ => by
  cases b with
  | true =>
    rw [if_pos rfl]
    exact ⟨_, fun σ2 H3 ⟨F3, w3, m1, hm, q⟩ => ⟨m1, hm, F3, w3, q⟩, h1 rfl H2 w2⟩
  | false =>
    rw [if_neg Bool.false_ne_true]
    exact h2 rfl H2 w2⟩
end

/-! ### comprehensions -/
section
variable {o : Option Addr} {F : Hp} {σ : L2.St} {K : PySem.W.Frag} {P : V → Hp → Prop} {ts te : TE} {tt : TT} {tl : TA} {g : TG} {vs : List Nat}
/-- one turn: the list D so far, what is known -/
def LcT (o : Option Addr) (D : Addr) (acc : List V) (tt : TT) (te : TE) (σ : L2.St) (F : Hp) (N : List V → Hp → Prop) : Prop :=
  Wp o (tt σ) F fun b F1 => (b = true → Wp o (te σ) F1 fun y F2 => F2 D = some (.lst acc) ∧ acc.length < 100000 ∧ N (acc ++ [y]) (upd F2 D (.lst (acc ++ [y])))) ∧ (b = false → F1 D = some (.lst acc) ∧ N acc F1)
theorem lc_turn {D : Addr} {acc : List V} {N : List V → Hp → Prop} {Nx : Hp → Prop} {σ2 : L2.St} {H2 : Hp} {F2 : Hp} (w : Wd o F2 H2) (h : LcT o D acc tt te σ2 F2 N) (n : ∀ acc1 H F3, Wd o F3 H → F3 D = some (.lst acc1) → N acc1 F3 → Nx H) :
    tt σ2 H2 fun b H3 => if b = true then te σ2 H3 fun y H4 => ∃ acc, H4 D = some (.lst acc) ∧ acc.length < sizeLine ∧ Nx (upd H4 D (.lst (acc ++ [y]))) else Nx H3 := h H2 w _ fun b H3 F3 w3 ⟨h1, h2⟩ => by
  cases b with
  | true =>
    rw [if_pos rfl]
    exact h1 rfl H3 w3 _ fun y H4 F4 w4 ⟨hd, hz, hn⟩ => ⟨acc, w4.ex _ _ hd, sz1 hz, n _ _ _ (w4.mut hd) upd_same hn⟩
  | false =>
    rw [if_neg Bool.false_ne_true]
    exact n acc H3 F3 w3 (h2 rfl).1 (h2 rfl).2
theorem wp_lcL {j : Nat} (hw : ∀ x, wipe ((wipe σ vs).set j (some x)) vs = wipe σ vs)
    (h : Wp o (ts σ) F fun x F1 => ∃ a xs, x = .ref a ∧ SqL K F1 a xs ∧ ∀ D, F1 D = none → ∃ Iv : Nat → List V → Hp → Prop, Iv 0 [] (upd F1 D (.lst [])) ∧ (∀ i acc F2, Iv i acc F2 → SqL K F2 a xs) ∧
      (∀ i x acc F2, xs[i]? = some x → F2 D = some (.lst acc) → Iv i acc F2 → LcT o D acc tt te ((wipe σ vs).set j (some x)) F2 (Iv (i + 1))) ∧ (∀ acc F2, F2 D = some (.lst acc) → Iv xs.length acc F2 → P (.ref D) F2)) :
    Wp o (tLc (iList K ts) (gName j) tt te vs σ) F P := fun H w Q k => h H w _ fun x H1 F1 w1 ⟨a, xs, e, hs, hh⟩ => ⟨a, e, ⟨xs, w1.l hs⟩, fun D hD => by
  obtain ⟨Iv, h0, hl, ht, hd⟩ := hh D (w1.fr hD)
  refine lc_list (xs := xs) (fun i H2 => ∃ acc F2, Wd o F2 H2 ∧ F2 D = some (.lst acc) ∧ Iv i acc F2) ⟨[], _, w1.new1 hD, upd_same, h0⟩ (fun i H2 hi ⟨acc, F2, w2, _, p⟩ => w2.l (hl i acc F2 p)) (fun i y H2 hy ⟨acc, F2, w2, q2, p⟩ => ?_) fun H2 ⟨acc, F2, w2, q2, p⟩ => k _ _ _ w2 (hd acc F2 q2 p)
  refine ⟨hw y, ?_⟩
  exact lc_turn w2 (ht i y acc F2 hy q2 p) fun acc1 H3 F3 w3 q3 n => ⟨acc1, F3, w3, q3, n⟩⟩
theorem wp_lcT {j : Nat} (hw : ∀ x, wipe ((wipe σ vs).set j (some x)) vs = wipe σ vs)
    (h : Wp o (ts σ) F fun x F1 => ∃ a xs, x = .ref a ∧ SqT K F1 a xs ∧ ∀ D, F1 D = none → ∃ Iv : Nat → List V → Hp → Prop, Iv 0 [] (upd F1 D (.lst [])) ∧ (∀ i acc F2, Iv i acc F2 → SqT K F2 a xs) ∧
      (∀ i x acc F2, xs[i]? = some x → F2 D = some (.lst acc) → Iv i acc F2 → LcT o D acc tt te ((wipe σ vs).set j (some x)) F2 (Iv (i + 1))) ∧ (∀ acc F2, F2 D = some (.lst acc) → Iv xs.length acc F2 → P (.ref D) F2)) :
    Wp o (tLc (iTup K ts) (gName j) tt te vs σ) F P := fun H w Q k => h H w _ fun x H1 F1 w1 ⟨a, xs, e, hs, hh⟩ => ⟨a, e, ⟨xs, w1.t hs⟩, fun D hD => by
  obtain ⟨Iv, h0, hl, ht, hd⟩ := hh D (w1.fr hD)
  refine lc_tup (xs := xs) (fun i H2 => ∃ acc F2, Wd o F2 H2 ∧ F2 D = some (.lst acc) ∧ Iv i acc F2) ⟨[], _, w1.new1 hD, upd_same, h0⟩ (fun i H2 hi ⟨acc, F2, w2, _, p⟩ => w2.t (hl i acc F2 p)) (fun i y H2 hy ⟨acc, F2, w2, q2, p⟩ => ?_) fun H2 ⟨acc, F2, w2, q2, p⟩ => k _ _ _ w2 (hd acc F2 q2 p)
  refine ⟨hw y, ?_⟩
  exact lc_turn w2 (ht i y acc F2 hy q2 p) fun acc1 H3 F3 w3 q3 n => ⟨acc1, F3, w3, q3, n⟩⟩
theorem wp_lcR {j : Nat} (hw : ∀ x, wipe ((wipe σ vs).set j (some x)) vs = wipe σ vs)
    (h : Wp o (tl σ) F fun us F1 => ∃ n : Nat, us = [.int (n : Int)] ∧ n ≤ 1000000 ∧ ∀ D, F1 D = none → ∃ Iv : Nat → List V → Hp → Prop, Iv 0 [] (upd F1 D (.lst [])) ∧
      (∀ i acc F2, i < n → F2 D = some (.lst acc) → Iv i acc F2 → LcT o D acc tt te ((wipe σ vs).set j (some (.int (i : Int)))) F2 (Iv (i + 1))) ∧ (∀ acc F2, F2 D = some (.lst acc) → Iv n acc F2 → P (.ref D) F2)) :
    Wp o (tLc (iRng1 tl) (gName j) tt te vs σ) F P := fun H w Q k => h H w _ fun us H1 F1 w1 ⟨n, e, hn, hh⟩ => ⟨(n : Int), e, by omega, by omega, fun D hD => by
  obtain ⟨Iv, h0, ht, hd⟩ := hh D (w1.fr hD)
  rw [Int.toNat_natCast]
  refine lc_range (n := n) (fun i H2 => ∃ acc F2, Wd o F2 H2 ∧ F2 D = some (.lst acc) ∧ Iv i acc F2) ⟨[], _, w1.new1 hD, upd_same, h0⟩ (fun i H2 hi ⟨acc, F2, w2, q2, p⟩ => ?_) fun H2 ⟨acc, F2, w2, q2, p⟩ => k _ _ _ w2 (hd acc F2 q2 p)
  have e0 : (0 : Int) + (i : Int) = (i : Int) := Int.zero_add _
  rw [e0]
  refine ⟨hw _, ?_⟩
  exact lc_turn w2 (ht i acc F2 hi q2 p) fun acc1 H3 F3 w3 q3 n => ⟨acc1, F3, w3, q3, n⟩⟩
theorem wp_lcS {j : Nat} (hw : ∀ x, wipe ((wipe σ vs).set j (some x)) vs = wipe σ vs)
    (h : Wp o (ts σ) F fun x F1 => ∃ l : List Nat, x = .str (tx l) ∧ ∀ D, F1 D = none → ∃ Iv : Nat → List V → Hp → Prop, Iv 0 [] (upd F1 D (.lst [])) ∧
      (∀ i c acc F2, l[i]? = some c → F2 D = some (.lst acc) → Iv i acc F2 → LcT o D acc tt te ((wipe σ vs).set j (some (sg c))) F2 (Iv (i + 1))) ∧ (∀ acc F2, F2 D = some (.lst acc) → Iv l.length acc F2 → P (.ref D) F2)) :
    Wp o (tLc (iStr ts) (gName j) tt te vs σ) F P := fun H w Q k => h H w _ fun x H1 F1 w1 ⟨l, e, hh⟩ => ⟨tx l, e, fun D hD => by
  obtain ⟨Iv, h0, ht, hd⟩ := hh D (w1.fr hD)
  have ez : (tx l).cps.size = l.length := by simp [tx]
  refine lc_it (walk_str (z := tx l)) (fun i H2 => ∃ acc F2, Wd o F2 H2 ∧ F2 D = some (.lst acc) ∧ Iv i acc F2) ⟨[], _, w1.new1 hD, upd_same, h0⟩ (fun _ _ _ _ => trivial) (fun i y H2 H3 hi ⟨acc, F2, w2, q2, p⟩ hy => ?_) fun H2 ⟨acc, F2, w2, q2, p⟩ => k _ _ _ w2 (hd acc F2 q2 (by rw [← ez]; exact p))
  obtain ⟨e3, c, hc, ey⟩ := hy
  subst e3; subst ey
  refine ⟨hw _, ?_⟩
  have hc2 : l[i]? = some c := by simpa [tx] using hc
  exact lc_turn w2 (ht i c acc F2 hc2 q2 p) fun acc1 H3 F3 w3 q3 n => ⟨acc1, F3, w3, q3, n⟩⟩
end

/-! ### defs -/
/-- the def x stands as the statement st says -/
def DefAt (K : PySem.W.Frag) (mg : Str → Option Value) (x : Str) (st : Stmt) : Prop := ∃ f fd, Fun K x x st f fd ∧ mg x = some (.ref f)
/-- x keeps its promise, up to the level k -/
def Pm (P : Program) (w : World) (K : PySem.W.Frag) (mg : Str → Option Value) (base : Heap) (CX : CXT) (k : Nat) (x : Str) (ps : List Str) (sp : Sp) : Prop :=
  ∃ f fd, FnOk P w K mg base CX k f fd ps sp ∧ mg x = some (.ref f) ∧ PySem.W.keepIn K (.ref f) = true ∧ Binds K fd ps []
theorem defAt_mk {K : PySem.W.Frag} {h : Heap} {mg : Str → Option Value} {x : Str} {st : Stmt} {f : Addr} {oc : Value} {od an : Option Addr} {osl : Array (Option Value)} {kV doc pm cdv ct : Value} (X : K.In h) (G : h.Ns mainGlobals mg)
    (a : PySem.W.nsIn K mainGlobals x = some (some (.ref f))) (l : K.lookup f = some ⟨oc, od, .func (PySem.W.fnOf x x (defArgs st) (defBody st) (defScope st) .none kV doc pm an cdv ct), osl⟩)
    (c : PySem.W.codeIn K cdv x = true) (k : PySem.W.keepIn K (.ref f) = true) : DefAt K mg x st := ⟨f, _, fun_mk l c k, PySem.W.mg_of X G a⟩
section
variable {X : Cx}
theorem pe_pm {CX : CXT} {k : Nat} {x : Str} {ps : List Str} {sp : Sp} {E : XK} {e : Expr} {es : List Expr} {t : TA} {p pos : Pos} (G : Pm X.prog X.w X.K X.mg X.base CX k x ps sp) (hr : Room k X.A) (hx : Passes CX X E) (ha : PA X (e :: es) t) (hg : Gl X x := by rfl)
    (hd : (x == ("__debug__" : Str)) = false := by decide) (he : starEach (e :: es) X.env = (false, eval e X.env) :: starEach es X.env := by rfl) (hpl : (backTo pos (starEach es X.env)).any (·.1) = false := by rfl) :
    PE X (.Call (.Name x p) (e :: es) [] pos) (tCall sp [] E t) := by
  obtain ⟨f, fd, F, hm, hk, hb⟩ := G
  exact pe_call F hr hg hm hk hb .nil hx ha hd he hpl
/-- a module's number, a module's text -/
theorem pe_cst {x : Str} {i : Int} {pos : Pos} (h : ∃ t, X.mg x = some (.int i t)) (hg : Gl X x := by rfl) (hd : (x == ("__debug__" : Str)) = false := by decide) : PE X (.Name x pos) (tC (.int i)) := by
  obtain ⟨t, h⟩ := h
  exact pe_glob hg h ⟨t, rfl⟩ hd
theorem pe_cstS {x : Str} {l : List Nat} {pos : Pos} (h : ∃ t, X.mg x = some (.str (tx l) t)) (hg : Gl X x := by rfl) (hd : (x == ("__debug__" : Str)) = false := by decide) : PE X (.Name x pos) (tC (.str (tx l))) := by
  obtain ⟨t, h⟩ := h
  exact pe_glob hg h ⟨t, rfl⟩ hd
theorem pe_strT {x : Str} {j : Nat} {pos : Pos} {l : List Nat} (h : x = tx l) : PE X (.Constant (.str x) j pos) (tC (.str (tx l))) := by
  rw [h]; exact pe_str
end
/-- the built-ins' names are the built-ins' -/
structure Bl (mg : Str → Option Value) : Prop where
  len : mg "len" = none
  list : mg "list" = none
  range : mg "range" = none
  abs : mg "abs" = none
  int_ : mg "int" = none
  bool_ : mg "bool" = none
  str_ : mg "str" = none
  isinstance : mg "isinstance" = none
  all : mg "all" = none
  enumerate : mg "enumerate" = none
  max : mg "max" = none
  min : mg "min" = none
  set : mg "set" = none
  sorted : mg "sorted" = none
  tuple : mg "tuple" = none

/-! ### known answers -/
theorem bT {b : Bool} {X Y : Prop} (h : b = true) (x : X) : (b = true → X) ∧ (b = false → Y) := ⟨fun _ => x, fun z => by rw [h] at z; cases z⟩
theorem bF {b : Bool} {X Y : Prop} (h : b = false) (y : Y) : (b = true → X) ∧ (b = false → Y) := ⟨fun z => (by rw [h] at z; cases z), fun _ => y⟩
/-! ### known facts -/
theorem fr_in {F : Hp} {p q : Addr} {u : HO} (h : upd F q u p = none) : F p = none := by
  by_cases e : p = q
  · subst e; rw [upd_same] at h; cases h
  · rw [upd_ne e] at h; exact h
theorem fr_ne {F : Hp} {p q : Addr} {u : HO} (h : upd F q u p = none) : p ≠ q := fun e => by
  rw [e, upd_same] at h; cases h
theorem at_ne {F : Hp} {a p : Addr} {u v : HO} (h : F a = some u) (n : F p = none) : upd F p v a = some u := by
  rw [upd_ne (ne_of_none h n)]; exact h
theorem atNat {α : Type} {l : List α} {i : Int} {x : α} (h0 : 0 ≤ i) (h : l[i.toNat]? = some x) : atI l i = some x := by
  have e : i = ((i.toNat : Nat) : Int) := by omega
  rw [e]
  exact atI_nat h

/-! ### a cut behind a statement -/
section
variable {o : Option Addr} {F : Hp} {σ : L2.St} {D : Ends} {tu tw : TS} {tt : TT}
theorem go_cut (M : L2.St → Hp → Prop) (h : Go o tu { D with nx := Cl o M } σ F) (k : ∀ σ1 F1, M σ1 F1 → Go o tw D σ1 F1) : Go o (Evl.tCut tu tw) D σ F := fun H w => ⟨Cl o M, h H w, fun σ1 H1 ⟨F1, w1, m⟩ => k σ1 F1 m H1 w1⟩
theorem go_ifB (h : Wp o (tt σ) F fun b F1 => (b = true → Go o tu D σ F1) ∧ (b = false → Go o tw D σ F1)) : Go o (tIfS tt tu tw) D σ F := fun H w => h H w _ fun b H1 F1 w1 ⟨h1, h2⟩ => by
  cases b with
  | true => rw [if_pos rfl]; exact h1 rfl H1 w1
  | false => rw [if_neg Bool.false_ne_true]; exact h2 rfl H1 w1
end
/-! ### more operations by values -/
section
variable {o : Option Addr} {F : Hp} {σ : L2.St} {K : PySem.W.Frag} {P : V → Hp → Prop} {x y v : V}
def rIsN : R2 := fun x y H Q => y = .non ∧ Q (.bl (decide (x = .non))) H
def rNotN : R2 := fun x y H Q => y = .non ∧ Q (.bl (!decide (x = .non))) H
theorem op_isNs {X : Cx} : OpR X (compareOp .Is) rIsN := op_isN
theorem op_notNs {X : Cx} : OpR X (compareOp .IsNot) rNotN := op_notN
theorem wp_isNs (q : P (.bl (decide (x = .non))) F) : Wp o (rIsN x .non) F P := fun H w Q k => ⟨rfl, k _ H F w q⟩
theorem wp_notNs (q : P (.bl (!decide (x = .non))) F) : Wp o (rNotN x .non) F P := fun H w Q k => ⟨rfl, k _ H F w q⟩
theorem wp_eq0 (h : scal x y = true) (q : P (.bl (decide (x = y))) F) : Wp o (rEqP K x y) F P := fun H w Q k => .inl ⟨h, k _ H F w q⟩
theorem wp_ne0 (h : scal x y = true) (q : P (.bl (!decide (x = y))) F) : Wp o (rNeP K x y) F P := fun H w Q k => .inl ⟨h, k _ H F w q⟩
abbrev rAbs : List V → Hp → VK → Prop := fun xs H Q => ∃ i, xs = [V.int i] ∧ Q (.int (if i < 0 then -i else i)) H
theorem wp_abs {i : Int} (q : P (.int (if i < 0 then -i else i)) F) : Wp o (fun H Q => ∃ j, [V.int i] = [V.int j] ∧ Q (.int (if j < 0 then -j else j)) H) F P := fun H w Q k => ⟨i, rfl, k _ H F w q⟩
theorem ixN_nat {n j : Nat} (hj : j < n) : ixN n (j : Int) = some j := by
  unfold ixN
  rw [if_pos (by omega), if_pos (by omega)]
  simp
theorem wp_popAt {a : Addr} {xs : List V} {j : Nat} (h : F a = some (.lst xs)) (hz : xs.length ≤ 100000) (hj : xs[j]? = some y) (q : P y (upd F a (.lst (xs.eraseIdx j)))) : Wp o (rPopAt (.ref a) [.int (j : Int)]) F P := fun H w Q k => by
  have hl : j < xs.length := (List.getElem?_eq_some_iff.mp hj).1
  exact ⟨a, xs, j, j, y, rfl, rfl, w.ex _ _ h, by omega, by omega, (ixN_seq (ixN_nat hl)).1, hj, k _ _ _ (w.mut h) q⟩
def rIntP : List V → Hp → VK → Prop := fun xs H Q => ((∃ i, xs = [.int i] ∧ Q (.int i) H) ∨ ∃ k, xs = [.bl k] ∧ Q (.int (if k then 1 else 0)) H) ∨ (∃ a n, xs = [.str a] ∧ PySem.intText? a = some n ∧ a.length ≤ 640 ∧ Q (.int n) H)
theorem call_intP {X : Cx} : CallR X (.type "int") rIntP := call_int1.or call_int_str
theorem wp_intB {b : Bool} (q : P (.int (if b then 1 else 0)) F) : Wp o (rIntP [.bl b]) F P := fun H w Q k => .inl (.inr ⟨b, rfl, k _ H F w q⟩)
/-! isinstance -/
theorem tyX_l {H : Hp} {a : Addr} {xs : List V} (h : SqL K H a xs) : TyX K H (.ref a) (.type "list") := by
  rcases h with (h | ⟨ob, h⟩) | ⟨ob, its, n, h, hc, _⟩
  · exact .base (.lst h)
  · exact .base (.frz h)
  · exact .kList h hc
theorem tyX_t {H : Hp} {a : Addr} {xs : List V} (h : SqT K H a xs) : TyX K H (.ref a) (.type "tuple") := by
  rcases h with (h | ⟨ob, h⟩) | ⟨ob, its, n, h, hc, _⟩
  · exact .base (.tup h)
  · exact .fTuple h
  · exact .kTuple h hc
/-- the built-in type of a plain value -/
inductive TyP (K : PySem.W.Frag) (H : Hp) : V → String → Prop where
  | non : TyP K H .non "NoneType"
  | bl (b : Bool) : TyP K H (.bl b) "bool"
  | int (i : Int) : TyP K H (.int i) "int"
  | str (z : Str) : TyP K H (.str z) "str"
  | lst {a : Addr} {xs : List V} (h : SqL K H a xs) : TyP K H (.ref a) "list"
  | tup {a : Addr} {xs : List V} (h : SqT K H a xs) : TyP K H (.ref a) "tuple"
theorem TyP.ty {H : Hp} {t : String} (h : TyP K H x t) : TyX K H x (.type t) := by
  cases h with
  | non => exact .base .non
  | bl b => exact .base (.bl b)
  | int i => exact .base (.int i)
  | str z => exact .base (.str z)
  | lst h => exact tyX_l h
  | tup h => exact tyX_t h
theorem TyP.up {H H1 : Hp} {t : String} (e : Ex H H1) (h : TyP K H x t) : TyP K H1 x t := by
  cases h with
  | non => exact .non
  | bl b => exact .bl b
  | int i => exact .int i
  | str z => exact .str z
  | lst h => exact .lst (ex_l e h)
  | tup h => exact .tup (ex_t e h)
theorem wp_isi {t c : String} {b : Bool} (h : TyP K F x t) (hk : kitB t c = some b) (q : P (.bl b) F) : Wp o (rIsi K [x, .ty c]) F P := fun H w Q k =>
  ⟨x, .ty c, .type t, .type c, b, rfl, .ty c, (h.up w.ex).ty, kit_ty hk, k _ H F w q⟩
theorem wp_all {a : Addr} {bs : List Bool} (h : SqL K F a (bs.map V.bl)) (q : P (.bl (bs.all id)) F) : Wp o (rAll K [.ref a]) F P := fun H w Q k => ⟨a, bs, rfl, w.l h, k _ H F w q⟩
theorem wp_lenX {p : Addr} {xs : List V} (h : SqL K F p xs ∨ SqT K F p xs) (q : P (.int (xs.length : Nat)) F) : Wp o (rLenV K [.ref p]) F P := h.elim (fun h => wp_lenL h q) fun h => wp_lenT h q
theorem wp_ixX {p : Addr} {xs : List V} {i : Int} (h : SqL K F p xs ∨ SqT K F p xs) (ha : atI xs i = some v) (q : P v F) : Wp o (rIx K (.ref p) (.int i)) F P := h.elim (fun h => wp_ixL h ha q) fun h => wp_ixT h ha q
/-! join of signs -/
abbrev rJoin (K : PySem.W.Frag) : V → List V → Hp → VK → Prop := fun x xs H Q => ∃ a p, ∃ ys : List Str, x = .str a ∧ xs = [.ref p] ∧ (SqL K H p (ys.map V.str) ∨ SqT K H p (ys.map V.str)) ∧
  (ys.map (·.length)).sum + ys.length * a.length ≤ 16777216 ∧ Q (.str (Txt.join a ys)) H
theorem join_sg : ∀ l : List Nat, Str.join (tx []) (l.map fun c => (⟨#[c]⟩ : Str)) = tx l
  | [] => rfl
  | [c] => rfl
  | c :: d :: r => by
    have ih := join_sg (d :: r)
    show (⟨#[c]⟩ : Str) ++ tx [] ++ Str.join (tx []) ((d :: r).map fun c => (⟨#[c]⟩ : Str)) = tx (c :: d :: r)
    rw [ih]
    show tx [c] ++ tx [] ++ tx (d :: r) = _
    rw [tx_app, tx_app]
    rfl
theorem sum_ones : ∀ l : List Nat, ((l.map fun c => (⟨#[c]⟩ : Str)).map (·.length)).sum = l.length
  | [] => rfl
  | c :: r => by
    have ih := sum_ones r
    rw [List.map_cons, List.map_cons, List.sum_cons, ih, List.length_cons]
    show 1 + r.length = r.length + 1
    omega
theorem wp_joinSg {p : Addr} {l : List Nat} (h : SqL K F p (l.map sg)) (hl : l.length ≤ 100000) (q : P (.str (tx l)) F) : Wp o (rJoin K (.str (tx [])) [.ref p]) F P := fun H w Q k =>
  ⟨tx [], p, l.map fun c => ⟨#[c]⟩, rfl, rfl, .inl (by rw [List.map_map]; exact w.l h), by
    rw [sum_ones, List.length_map]
    show l.length + l.length * 0 ≤ _
    omega, by
    rw [show Txt.join (tx []) (l.map fun c => (⟨#[c]⟩ : Str)) = Str.join (tx []) (l.map fun c => (⟨#[c]⟩ : Str)) from PySem.StrLaws.glued_eq_join _ _, join_sg]
    exact k _ H F w q⟩
end
/-! ### dice -/
section
variable {o : Option Addr} {F H : Hp} {d : Addr}
/-- H without d -/
def rm (H : Hp) (d : Addr) : Hp := fun b => if b = d then none else H b
theorem rm_same : rm H d d = none := by unfold rm; rw [if_pos rfl]
theorem rm_ne {b : Addr} (h : b ≠ d) : rm H d b = H b := by unfold rm; rw [if_neg h]
theorem ex_rm : Ex (rm H d) H := fun b u e => by
  by_cases h : b = d
  · rw [h, rm_same] at e; cases e
  · rw [rm_ne h] at e; exact e
theorem ex_to_rm (e : Ex F H) (n : F d = none) : Ex F (rm H d) := fun b u q => by
  rw [rm_ne (ne_of_none q n)]
  exact e b u q
theorem Wd.dice (h : Dc H d) : Wd (some d) (rm H d) H := ⟨ex_rm, fun b e => by cases e; exact ⟨rm_same, h⟩⟩
end

/-! ### data: lists of ints, lists of signs -/
section
variable {o : Option Addr} {F : Hp} {K : PySem.W.Frag} {P : V → Hp → Prop}
theorem lay_all : ∀ {ds : List PyData}, (∀ d ∈ ds, d.canLay0 = true) → PyData.canLayAll0 ds = true
  | [], _ => rfl
  | d :: r, h => by
    show (d.canLay0 && PyData.canLayAll0 r) = true
    rw [h d List.mem_cons_self, lay_all fun e he => h e (List.mem_cons_of_mem _ he)]
    rfl
theorem depth_all {n : Nat} : ∀ {ds : List PyData}, (∀ d ∈ ds, d.depth ≤ n) → PyData.depthAll ds ≤ n
  | [], _ => Nat.zero_le _
  | d :: r, h => by
    show max d.depth (PyData.depthAll r) ≤ n
    exact Nat.max_le.mpr ⟨h d List.mem_cons_self, depth_all fun e he => h e (List.mem_cons_of_mem _ he)⟩
theorem shaped_list {ds : List PyData} (h1 : ∀ d ∈ ds, d.canLay0 = true) (h2 : ∀ d ∈ ds, d.depth ≤ 63) : SeqAt.shaped (.list ds) = true := by
  unfold SeqAt.shaped
  rw [Bool.and_eq_true, decide_eq_true_eq]
  refine ⟨lay_all h1, ?_⟩
  show PyData.depthAll ds + 1 ≤ 64
  have := depth_all h2
  omega
abbrev dI (cs : List Int) : List PyData := cs.map PyData.int
abbrev dSg (l : List Nat) : List PyData := l.map fun c => PyData.str ⟨#[c]⟩
theorem dpa_I : ∀ cs : List Int, DpAll K F (cs.map V.int) (dI cs)
  | [] => .nil
  | c :: r => .cons (.int c) (dpa_I r)
theorem dpa_S : ∀ l : List Nat, DpAll K F (l.map sg) (dSg l)
  | [] => .nil
  | c :: r => .cons (.str _) (dpa_S r)
theorem dp_I {a : Addr} {cs : List Int} (h : SqL K F a (cs.map V.int)) : Dp K F (.ref a) (.list (dI cs)) := .lst h (dpa_I cs)
theorem dp_S {a : Addr} {l : List Nat} (h : SqL K F a (l.map sg)) : Dp K F (.ref a) (.list (dSg l)) := .lst h (dpa_S l)
theorem sh_I (cs : List Int) : SeqAt.shaped (.list (dI cs)) = true := shaped_list (fun d hd => by
  obtain ⟨c, _, rfl⟩ := List.mem_map.mp hd; rfl) fun d hd => by
  obtain ⟨c, _, rfl⟩ := List.mem_map.mp hd; exact Nat.zero_le _
theorem sh_S {l : List Nat} (h : ∀ c ∈ l, c < 128) : SeqAt.shaped (.list (dSg l)) = true := shaped_list (fun d hd => by
  obtain ⟨c, hc, rfl⟩ := List.mem_map.mp hd
  have := h c hc
  simp [PyData.canLay0, PyData.strOk]
  omega) fun d hd => by
  obtain ⟨c, _, rfl⟩ := List.mem_map.mp hd; exact Nat.zero_le _
theorem eqvAll_I : ∀ cs ds : List Int, PyData.eqvAll (dI cs) (dI ds) = decide (cs = ds)
  | [], [] => rfl
  | [], _ :: _ => rfl
  | _ :: _, [] => rfl
  | c :: r, d :: t => by
    show ((c == d) && PyData.eqvAll (dI r) (dI t)) = decide (c :: r = d :: t)
    rw [eqvAll_I r t, Bool.beq_eq_decide_eq]
    by_cases h : c = d <;> by_cases h2 : r = t <;> simp [h, h2]
theorem eqv_I (cs ds : List Int) : PyData.eqv (.list (dI cs)) (.list (dI ds)) = decide (cs = ds) := eqvAll_I cs ds
theorem eqv_S0 (l : List Nat) : PyData.eqv (.list (dSg l)) (.list []) = decide (l = []) := by
  cases l with
  | nil => rfl
  | cons c r => rfl
theorem wp_neIL {a b : Addr} {xs ys : List Int} (ha : SqL K F a (xs.map V.int)) (hb : SqL K F b (ys.map V.int)) (q : P (.bl (!decide (xs = ys))) F) : Wp o (rNeP K (.ref a) (.ref b)) F P :=
  wp_neD (dp_I ha) (dp_I hb) (sh_I xs) (sh_I ys) (by rw [eqv_I]; exact q)
theorem wp_eqIL {a b : Addr} {xs ys : List Int} (ha : SqL K F a (xs.map V.int)) (hb : SqL K F b (ys.map V.int)) (q : P (.bl (decide (xs = ys))) F) : Wp o (rEqP K (.ref a) (.ref b)) F P :=
  wp_eqD (dp_I ha) (dp_I hb) (sh_I xs) (sh_I ys) (by rw [eqv_I]; exact q)
theorem wp_neS0 {a b : Addr} {l : List Nat} (ha : SqL K F a (l.map sg)) (hb : SqL K F b []) (h : ∀ c ∈ l, c < 128) (q : P (.bl (!decide (l = []))) F) : Wp o (rNeP K (.ref a) (.ref b)) F P :=
  wp_neD (dp_S ha) (.lst hb .nil) (sh_S h) rfl (by rw [eqv_S0]; exact q)
end
/-! ### what a def of dice hands back -/
section
variable {o : Option Addr} {F H : Hp} {d : Addr} {P : V → Hp → Prop} {Q : VK} {u : HO} {p : Addr} {H1 F1 : Hp}
theorem Wd.newD (w : Wd (some d) F H) (n : H p = none) (e : Ex (rm H d) H1) (hd : Dc H1 d) (h : H1 p = some u) : Wd (some d) (upd F p u) H1 := by
  have f := (w.dc d rfl).1
  have e2 : Ex F H1 := (ex_to_rm w.ex f).trans e
  refine ⟨fun b v q => ?_, fun b z => ?_⟩
  · by_cases hb : b = p
    · subst hb; rw [upd_same] at q; rw [← q]; exact h
    · rw [upd_ne hb] at q; exact e2 _ _ q
  · cases z
    rw [upd_ne (w.ned n d rfl)]
    exact ⟨f, hd⟩
/-- a new object of which something is told -/
def RetND (d : Addr) (Pu : HO → Prop) (H : Hp) (Q : VK) : Prop := ∀ p H1 u, H p = none → Ex (rm H d) H1 → Dc H1 d → H1 p = some u → Pu u → Q (.ref p) H1
theorem RetND.use {Pu : HO → Prop} (w : Wd (some d) F H) (q : ∀ p u, F p = none → Pu u → P (.ref p) (upd F p u)) (k : ∀ v H1 F1, Wd (some d) F1 H1 → P v F1 → Q v H1) : RetND d Pu H Q :=
  fun p H1 u n e hd h hu => k _ _ _ (w.newD n e hd h) (q p u (w.fr n) hu)
theorem RetND.out {Pu : HO → Prop} (k : RetND d Pu H Q) (e : Ex (rm H d) F1) (n : rm H d p = none) (h : F1 p = some u) (hu : Pu u) : ∀ H1, Wd (some d) F1 H1 → Q (.ref p) H1 := fun H1 w => by
  obtain ⟨f, hd⟩ := w.dc d rfl
  have nd : p ≠ d := ne_of_none h f
  rw [rm_ne nd] at n
  exact k p H1 u n (e.trans w.ex) hd (w.ex _ _ h) hu
theorem go_stD {t : TS} {D : Ends} {σ0 σ : L2.St} (hd : Dc H d) (e : σ0 = σ) (g : Go (some d) t D σ (rm H d)) : t D σ0 H := by
  subst e
  exact g H (Wd.dice hd)
end

/-! ### the rules with the written part by name -/
section
variable {X : Cx} (K : PySem.W.Frag) (hK : X.K = K)
include hK
theorem ixK : IxR X (rIx K) := hK ▸ ix_seq
theorem eqK (hu : X.A.units + 64 < cLine) : OpR X (compareOp .Eq) (rEqP K) := hK ▸ op_eqP hu
theorem neK (hu : X.A.units + 64 < cLine) : OpR X (compareOp .NotEq) (rNeP K) := hK ▸ op_neP hu
theorem inK : OpR X (compareOp .In) (rInP K) := hK ▸ op_inP
theorem niK : OpR X (compareOp .NotIn) (rNiP K) := hK ▸ op_niP
theorem slK : SlR X (rSlP K) := hK ▸ sl_P
theorem lenK : CallR X (.builtin "len") (rLenV K) := hK ▸ call_len
theorem listK (hc : X.calm = true) : CallR X (.type "list") (rListP K) := hK ▸ call_listP hc
theorem isiK : CallR X (.builtin "isinstance") (rIsi K) := hK ▸ call_isi
theorem allK (hc : X.calm = true) : CallR X (.builtin "all") (rAll K) := hK ▸ cr_all hc
theorem maxK (hc : X.calm = true) : CallR X (.builtin "max") (rMax K) := hK ▸ cr_max hc
theorem sortedK : CallR X (.builtin "sorted") (rSorted K) := hK ▸ cr_sorted
theorem joinK : MtR X "str.join" (rJoin K) := hK ▸ mt_join
theorem indexK : MtR X "list.index" (rIndex K) := hK ▸ mt_index
theorem piL {tg l : Expr} {tl : TE} (h : PE X l tl) : PI X tg l (iList K tl) := hK ▸ pi_list h
theorem piT {tg l : Expr} {tl : TE} (h : PE X l tl) : PI X tg l (iTup K tl) := hK ▸ pi_tup h
theorem piE {e : Expr} {ta : TA} {p pos tpos : Pos} {elts : List Expr} {kk : Nat} (hm : X.mg "enumerate" = none) (ha : PA X [e] ta) (hg : Gl X "enumerate" := by rfl) (hs : starEach [e] X.env = [(false, eval e X.env)] := by rfl) :
    PI X (.Tuple elts kk tpos) (.Call (.Name "enumerate" p) [e] [] pos) (iEnum K ta) := hK ▸ pi_enum hg hm ha hs
theorem pgT {es : List Expr} {k : Nat} {pos : Pos} {t : TGs} {n : Nat} (hc : X.calm = true) (h : PGs X es t) (hn : (assignEach es X.env).length = n := by rfl) (hst : (assignEach es X.env).findIdx? (·.1) = none := by rfl) : PG X (.Tuple es k pos) (gTup K n t) := hK ▸ pg_tup hc h hn hst
variable {o e : Expr} {es : List Expr} {to : TE} {t : TA} {name : Str} {apos cpos : Pos} {T id : String} {r : V → List V → Hp → VK → Prop}
theorem bm0K (pa : PlainAttrs T) (slot : Slot T name id) (hty : typeOf (.builtin id) = pure (.type "method_descriptor")) (hm : MtR X id r) (ho : PE X o to)
    (hbase : attributeBase o name X.env (eval o X.env) = eval o X.env := by rfl) (hline : (apos.endLine == cpos.line) = true := by rfl) : PE X (.Call (.Attribute o name apos) [] [] cpos) (tBM0 K T r to) := hK ▸ pe_bm0 pa slot hty hm ho hbase hline
theorem bmK (pa : PlainAttrs T) (slot : Slot T name id) (hty : typeOf (.builtin id) = pure (.type "method_descriptor")) (hm : MtR X id r) (ho : PE X o to) (ha : PA X (e :: es) t)
    (hbase : attributeBase o name X.env (eval o X.env) = eval o X.env := by rfl)
    (hfew : ((backTo cpos (starEach (e :: es) X.env)).all (fun x => !x.1) && (backToKw cpos (keywordEach [] X.env)).all (fun x => x.1.isSome)
      && decide ((e :: es).length + ([] : List Keyword).length + (if ([] : List Keyword).isEmpty then 0 else 1) < 30)) = true := by rfl) (hline : (apos.endLine == cpos.line) = true := by rfl)
    (he : starEach (e :: es) X.env = (false, eval e X.env) :: starEach es X.env := by rfl) (hpl : (backTo cpos (starEach es X.env)).any (·.1) = false := by rfl) :
    PE X (.Call (.Attribute o name apos) (e :: es) [] cpos) (tBM K T r to t) := hK ▸ pe_bm pa slot hty hm ho ha hbase hfew hline he hpl
theorem peJoin {te : TE} (ho : PE X o to) (he : PE X e te) (hs : starEach [e] X.env = [(false, eval e X.env)] := by rfl) (hbase : attributeBase o "join" X.env (eval o X.env) = eval o X.env := by rfl) (hline : (apos.endLine == cpos.line) = true := by rfl) :
    PE X (.Call (.Attribute o "join" apos) [e] [] cpos) (tM1 (rJoin K) to te) := hK ▸ pe_join ho he hs hbase hline
end
theorem gz_l {F F1 : Hp} {p : Addr} {u : HO} (h : upd F p u = F1) (n : F p = none) : Ex F F1 ∧ F1 p = some u := by
  subst h
  exact ⟨ex_new n, upd_same⟩
end Sr
/-! enumerate(text); order of data; the least list -/
namespace Sr
open PySem PySem.Spec PyProof.Rows L2 SrX
/-- a text's signs with their places, in new pairs -/
def ItES (x : Str) : It := ⟨fun i _ => i < x.cps.size, fun i H v H' => ∃ T c, v = .ref T ∧ H T = none ∧ H' = upd H T (.tup [.int (i : Nat), .str ⟨#[c]⟩]) ∧ x.cps[i]? = some c, fun i _ => x.cps.size ≤ i⟩
theorem draws_str {P : Program} {w : World} {A : Around} (hh : A.handled = none) (it : Addr) (x : Str) (t : Tok) : Draws P w A it [it] x.cps.size (fun i v => ∃ c u, x.cps[i]? = some c ∧ v = .str ⟨#[c]⟩ u) (fun i h => h.IsStrIter it (strIterType x) x t i) := by
  have e : strIterType x = "str_ascii_iterator" ∨ strIterType x = "str_iterator" := by
    unfold strIterType
    split
    · exact .inl rfl
    · exact .inr rfl
  rcases e with e | e
  · rw [e]; exact Draws.strAscii hh it x t
  · rw [e]; exact Draws.strWide hh it x t
theorem turn_enumS {P : Program} {w : World} {K : PySem.W.Frag} {elts : List Expr} {kk : Nat} {tpos : Pos} (e it : Addr) (x : Str) (t : Tok) :
    Turn P w K (.Tuple elts kk tpos) (ItES x) [e, it] e (fun i h => (∃ old, IsEnum h e it ((i : Nat) : Int) old) ∧ h.IsStrIter it (strIterType x) x t i ∧ e ≠ it) where
  mem := by simp
  obj := fun i h st b hb => by
    obtain ⟨⟨old, he⟩, ⟨o, ho, hc, hd⟩, _⟩ := st
    have e' : b = e ∨ b = it := by simpa using hb
    rcases e' with z | z
    · rw [z]; exact ⟨_, he, fun v q => nomatch q⟩
    · rw [z]; exact ⟨o, ho, fun v q => by rw [hd] at q; cases q⟩
  keep := fun i h h' st k => by
    obtain ⟨⟨old, he⟩, ⟨o, ho, r⟩, hne⟩ := st
    exact ⟨⟨old, k e (by simp) _ he⟩, ⟨o, k it (by simp) o ho, r⟩, hne⟩
  item := by
    intro X hP hw hK hc i pins s σ H E I hf st hg
    subst hP hw hK
    obtain ⟨⟨old, he⟩, hit, hne⟩ := st
    have hel : e < s.heap.objs.size := Heap.lt_size he
    have hil : it < s.heap.objs.size := by obtain ⟨_, q, _⟩ := hit; exact Heap.lt_size q
    refine wpAny_pyNext_enum_itemD (fp := [it]) (draws_str (A := X.A.in1) (I.ok.hd hc) it x t) he hit hg hne (by simpa using hne) fun v h' tk hP ho hit' hT hsz hk => ?_
    obtain ⟨c, u, hc2, rfl⟩ := hP
    refine ⟨_, rfl, wpAny_letOwnedTupleGo_enum (s := { s with heap := h', toks := tk + 1 }) ho fun h'' he' sb => ?_⟩
    have hT2 : h''.get? s.heap.objs.size = some { cls := .type "tuple", data := .seq #[.int i tk, .str ⟨#[c]⟩ u] } := (sb.2 _ (Nat.ne_of_gt hel)).trans hT
    have new : ObjOk X.prog X.w (upd H s.heap.objs.size (.tup [.int (i : Nat), .str ⟨#[c]⟩])) h'' s.heap.objs.size (.tup [.int (i : Nat), .str ⟨#[c]⟩]) :=
      ⟨by show 2 ≤ sizeLine; decide, [.int i tk, .str ⟨#[c]⟩ u], .cons ⟨_, rfl⟩ (.cons ⟨_, rfl⟩ .nil), ⟨_, hT2, rfl, _, rfl⟩⟩
    have I1 : Inv X pins σ (upd H s.heap.objs.size (.tup [.int (i : Nat), .str ⟨#[c]⟩])) { s with heap := h'', toks := tk + 1 } :=
      I.turnedNew (ch := [e, it]) (fun b ob hb q => (sb.2 b (fun z => hb (by simp [z]))).trans (hk b ob (fun z => hb (by simp [z])) (fun z => hb (by simp [z])) q)) hf (Nat.le_refl _) new
    refine ⟨.ref s.heap.objs.size, _, I1, rfl, ⟨_, c, rfl, I.hok.fresh (Nat.le_refl _), rfl, hc2⟩, ⟨⟨.str ⟨#[c]⟩ u, ?_⟩, ?_, hne⟩, fun b hb => ?_⟩
    · have e1 : ((i + 1 : Nat) : Int) = (i : Int) + 1 := by omega
      rw [e1]; exact he'
    · obtain ⟨o, ho2, r⟩ := hit'
      exact ⟨o, (sb.2 it (Ne.symm hne)).trans ho2, r⟩
    · have hb' : b < s.heap.objs.size := by
        have e' : b = e ∨ b = it := by simpa using hb
        rcases e' with z | z
        · rw [z]; exact hel
        · rw [z]; exact hil
      rw [upd_ne (Nat.ne_of_lt hb')]
      exact (hf b hb).1
  done := by
    intro X hP hw hK hc i pins s σ H E I hf st hg
    subst hP hw hK
    obtain ⟨⟨old, he⟩, hit, hne⟩ := st
    obtain ⟨f0, f1, f2, f3, f4, f5⟩ := hf it (by simp)
    by_cases hi : i = x.cps.size
    · subst hi
      exact wpAny_pyNext_enum_endD (draws_str (A := X.A.in1) (I.ok.hd hc) it x t) he hit fun h' eb => ⟨rfl, I.turned (t' := s.toks) (fun b o hb q => eb b o hb q) f0 f1 f3 f4 f5⟩
    · have hlt : x.cps.size < i := Nat.lt_of_le_of_ne hg (Ne.symm hi)
      have D : Draws X.prog X.w X.A.in1 it [it] i (fun _ _ => False) (fun j h => j = i ∧ h.IsStrIter it (strIterType x) x t i) := {
        live := fun _ _ st => let ⟨_, o, ho, _⟩ := st; ⟨o, ho⟩
        frame := fun _ _ _ st hk => let ⟨e, o, ho, r⟩ := st; ⟨e, o, hk it (by simp) o ho, r⟩
        item := fun j s Q E hj st _ => absurd st.1 (Nat.ne_of_lt hj)
        done := fun s Q E st hE => by
          have hx : x.cps[i]? = none := Array.getElem?_eq_none (Nat.le_of_lt hlt)
          have e : strIterType x = "str_ascii_iterator" ∨ strIterType x = "str_iterator" := by
            unfold strIterType
            split
            · exact .inl rfl
            · exact .inr rfl
          obtain ⟨_, st⟩ := st
          rcases e with e | e
          · rw [e] at st; exact wpAny_nextOf_ascii_end (I.ok.hd hc) st hx hE
          · rw [e] at st; exact wpAny_nextOf_wide_end (I.ok.hd hc) st hx hE }
      exact wpAny_pyNext_enum_endD D he ⟨rfl, hit⟩ fun h' eb => ⟨rfl, I.turned (t' := s.toks) (fun b o hb q => eb b o hb q) f0 f1 f3 f4 f5⟩
  self := fun A i s Q E st h => let ⟨⟨_, he⟩, _⟩ := st; wpAny_pyIter_enum he h
def iEnumS (ta : TA) : TI := fun σ H R => ta σ H fun vs H1 => ∃ x, vs = [.str x] ∧ R (ItES x) H1
theorem pi_enumS {X : Cx} {e : Expr} {ta : TA} {p pos tpos : Pos} {elts : List Expr} {kk : Nat} (hm : X.mg "enumerate" = none) (ha : PA X [e] ta) (hg : Gl X "enumerate" := by rfl) (hs : starEach [e] X.env = [(false, eval e X.env)] := by rfl) :
    PI X (.Tuple elts kk tpos) (.Call (.Name "enumerate" p) [e] [] pos) (iEnumS ta) := by
  refine ⟨fun pins s σ H R I h => ?_⟩
  refine Call_ (ld_blt I hg hm boot_enumerate (PyProof.Rows.callWith_type1 (thn (ha.run pos pins s σ H _ I h) fun us s1 ⟨vs, H1, I1, r1, q1⟩ => ?_) hs rfl))
  obtain ⟨x, ex, q⟩ := q1
  subst ex
  cases r1 with
  | cons r rr =>
    cases rr
    obtain ⟨t, rfl⟩ := r
    refine call_enumerate_str fun h' he hit hsz hk => wpAny_pyIter_enum he ?_
    have I2 : Inv X pins σ H1 { s1 with heap := h' } := I1.kept (t' := s1.toks) hk
    refine ⟨s1.heap.objs.size + 1, [s1.heap.objs.size + 1, s1.heap.objs.size], _, _, H1, rfl, I2, turn_enumS (s1.heap.objs.size + 1) s1.heap.objs.size x t, ⟨⟨.none, he⟩, hit, Nat.succ_ne_self _⟩, fun b hb => ?_, q⟩
    have e' : b = s1.heap.objs.size + 1 ∨ b = s1.heap.objs.size := by simpa using hb
    have hle : s1.heap.objs.size ≤ b := by
      rcases e' with z | z
      · rw [z]; exact Nat.le_add_right _ _
      · rw [z]; exact Nat.le_refl _
    exact I1.fpOk hle (I1.hok.fresh hle)
theorem walk_enumS {x : Str} : Walk (ItES x) x.cps.size (fun _ => True) (YPair (fun i => some (.int (i : Nat))) (fun i => x.cps[i]?.map fun c => V.str ⟨#[c]⟩)) := by
  refine ⟨fun i _ hi _ => hi, fun _ _ => Nat.le_refl _, fun i H v H' _ _ y => ?_⟩
  obtain ⟨T, c, h1, h2, h3, h4⟩ := y
  exact ⟨T, .int (i : Nat), .str ⟨#[c]⟩, h1, h2, h3, rfl, by simp [h4]⟩
section
variable {o : Option Addr} {F : Hp} {σ : L2.St} {K : PySem.W.Frag} {D : Ends} {tu tz : TS} {g : TG} {tl : TA}
theorem go_forES (Iv : Nat → L2.St → Hp → Prop) (h : Wp o (tl σ) F fun us F1 => ∃ l : List Nat, us = [.str (tx l)] ∧ Iv 0 σ F1 ∧
    (∀ i c σ1 F2 p, l[i]? = some c → F2 p = none → Iv i σ1 F2 → Wp o (g (.ref p) σ1) (upd F2 p (.tup [.int (i : Nat), sg c])) fun σ2 F3 => Go o tu { D with nx := Cl o (Iv (i + 1)), ct := Cl o (Iv (i + 1)), bk := tz D } σ2 F3) ∧ (∀ σ1 F2, Iv l.length σ1 F2 → Go o tz D σ1 F2)) :
    Go o (tSeq (tFor (iEnumS tl) g tu) tz) D σ F := fun H w => h H w _ fun us H1 F1 w1 ⟨l, e, h0, ht, hd⟩ => ⟨tx l, e, by
  have ez : (tx l).cps.size = l.length := by simp [tx]
  refine for_it (D := { D with nx := tz D }) walk_enumS (fun i => Cl o (Iv i)) ⟨F1, w1, h0⟩ (fun _ _ _ _ _ => trivial) (fun i v σ1 H2 H3 hi ⟨F2, w2, p⟩ hy => ?_) (fun σ1 H2 ⟨F2, w2, p⟩ => hd σ1 F2 (by rw [← ez]; exact p) H2 w2)
  obtain ⟨T, x, y, e1, e2, e3, e4, e5⟩ := hy
  cases e4
  subst e1; subst e3
  obtain ⟨c, hc, rfl⟩ := Option.map_eq_some_iff.mp e5
  have hc2 : l[i]? = some c := by simpa [tx] using hc
  exact ht i c σ1 F2 T hc2 (w2.fr e2) p _ (w2.new1 e2) _ fun σ2 H4 F4 w4 k => k H4 w4⟩
end
/-! ### order of data -/
open PySem.W PySem.SeqAt in
def rLeD (K : PySem.W.Frag) : R2 := fun x y H Q => ∃ d e, Dp K H x d ∧ Dp K H y e ∧ alike d e = true ∧ d ≠ .none ∧ min d.depth e.depth ≤ 60 ∧ Q (.bl (!dataLt e d)) H
open PySem.W PySem.SeqAt in
def rLtD (K : PySem.W.Frag) : R2 := fun x y H Q => ∃ d e, Dp K H x d ∧ Dp K H y e ∧ alike d e = true ∧ d ≠ .none ∧ min d.depth e.depth ≤ 60 ∧ Q (.bl (dataLt d e)) H
section
variable {X : Cx} (K : PySem.W.Frag) (hK : X.K = K)
include hK
open PySem.W PySem.SeqAt in
theorem leDK (hu : X.A.units + 64 < cLine) : OpR X (compareOp .LtE) (rLeD K) := by
  subst hK
  intro pins s σ H x y v u Q I rx ry h
  obtain ⟨d, e, h1, h2, h3, h4, h5, q⟩ := h
  obtain ⟨as, r1⟩ := Dp.reads I d x v h1 rx
  obtain ⟨bs, r2⟩ := Dp.reads I e y u h2 ry
  exact le_data r1 r2 h3 h4 (by omega) ⟨.bl _, H, I, rfl, q⟩
open PySem.W PySem.SeqAt in
theorem ltDK (hu : X.A.units + 64 < cLine) : OpR X (compareOp .Lt) (rLtD K) := by
  subst hK
  intro pins s σ H x y v u Q I rx ry h
  obtain ⟨d, e, h1, h2, h3, h4, h5, q⟩ := h
  obtain ⟨as, r1⟩ := Dp.reads I d x v h1 rx
  obtain ⟨bs, r2⟩ := Dp.reads I e y u h2 ry
  exact lt_data r1 r2 h3 h4 (by omega) ⟨.bl _, H, I, rfl, q⟩
end
/-- lists of numbers: the lesser one -/
def llt : List Int → List Int → Bool
  | _, [] => false
  | [], _ :: _ => true
  | x :: xs, y :: ys => if x = y then llt xs ys else decide (x < y)
section
open PySem.W PySem.SeqAt
theorem alike_I : ∀ a b : List Int, alikeAll (dI a) (dI b) = true
  | [], [] => rfl
  | [], _ :: _ => rfl
  | _ :: _, [] => rfl
  | x :: xs, y :: ys => by
    show (alike (.int x) (.int y) && alikeAll (dI xs) (dI ys)) = true
    rw [alike_I xs ys]
    rfl
theorem toks_I : ∀ a b : List Int, PyProof.Rows.lexLt itemOrd (keyToksAll (dI a)) (keyToksAll (dI b)) = llt a b
  | [], [] => by rfl
  | [], y :: ys => by
    show PyProof.Rows.lexLt itemOrd (keyToksAll []) (keyToksAll (.int y :: dI ys)) = true
    rw [toks_all_cons]
    rfl
  | x :: xs, [] => by
    show PyProof.Rows.lexLt itemOrd (keyToksAll (.int x :: dI xs)) (keyToksAll []) = false
    rw [toks_all_cons]
    rfl
  | x :: xs, y :: ys => by
    show PyProof.Rows.lexLt itemOrd (keyToksAll (.int x :: dI xs)) (keyToksAll (.int y :: dI ys)) = if x = y then llt xs ys else decide (x < y)
    by_cases h : x = y
    · rw [if_pos h, dataLt_all_yes rfl (by subst h; simp [PyData.eqv])]
      exact toks_I xs ys
    · rw [if_neg h, dataLt_all_no rfl (by simp [PyData.eqv, h]), dataLt_int]
theorem lt_I (a b : List Int) : dataLt (.list (dI a)) (.list (dI b)) = llt a b := by
  rw [dataLt_list, toks_I]
/-- (the length, the list) of two lists -/
def lenLt (a b : List Int) : Bool := if a.length = b.length then llt a b else decide (a.length < b.length)
theorem lt_LI (a b : List Int) : dataLt (.tuple [.int a.length, .list (dI a)]) (.tuple [.int b.length, .list (dI b)]) = lenLt a b := by
  rw [dataLt_tuple]
  unfold lenLt
  by_cases h : a.length = b.length
  · rw [if_pos h, dataLt_all_yes rfl (by rw [h]; simp [PyData.eqv])]
    by_cases e : a = b
    · subst e
      rw [dataLt_all_yes (by show alikeAll (dI a) (dI a) = true; exact alike_I _ _) (by rw [eqv_I]; simp)]
      have : llt a a = false := by
        clear h
        induction a with
        | nil => rfl
        | cons x r ih => unfold llt; rw [if_pos rfl]; exact ih
      rw [this]
      rfl
    · rw [dataLt_all_no (by show alikeAll (dI a) (dI b) = true; exact alike_I _ _) (by rw [eqv_I]; simpa using e), lt_I]
  · rw [if_neg h, dataLt_all_no rfl (by simp [PyData.eqv]; omega), dataLt_int]
    by_cases h2 : a.length < b.length
    · rw [decide_eq_true h2, decide_eq_true (by omega)]
    · rw [decide_eq_false h2, decide_eq_false (by omega)]
end
/-! ### text.index(sign) -/
section
open PySem.StrLaws Builtin Builtin.Str
theorem occ_full (x y : Str) (hi : Nat) : ∀ (l : List Nat) (st : Array Nat × Nat), st.fst.size = 1 → (forIn (m := Id) l st (occBody x y hi 1)).run.fst = st.fst
  | [], _, _ => rfl
  | a :: l, st, h => by
    have hi : ¬ (((st.fst.size < 1 ∧ st.snd ≤ a) ∧ a + y.length ≤ hi) ∧ subAt x y a = true) := fun c => by omega
    simp only [List.forIn_cons, occBody, if_neg hi]
    exact occ_full x y _ l st h
theorem occ_first (x y : Str) (hi : Nat) {i : Nat} (h1 : i + y.length ≤ hi) (h2 : subAt x y i = true) : ∀ (m cur : Nat), cur ≤ i → i < cur + m → (∀ k, cur ≤ k → k < i → subAt x y k = false) →
    (forIn (m := Id) (List.range' cur m) ((#[] : Array Nat), 0) (occBody x y hi 1)).run.fst = #[i]
  | 0, cur, ha, hb, _ => by omega
  | m + 1, cur, ha, hb, hn => by
    rw [List.range'_succ]
    by_cases e : cur = i
    · subst e
      have hc : ((((#[] : Array Nat).size < 1 ∧ 0 ≤ cur) ∧ cur + y.length ≤ hi) ∧ subAt x y cur = true) := ⟨⟨⟨by simp, Nat.zero_le _⟩, h1⟩, h2⟩
      simp only [List.forIn_cons, occBody, if_pos hc]
      exact occ_full x y hi _ _ rfl
    · have hc : ¬ ((((#[] : Array Nat).size < 1 ∧ 0 ≤ cur) ∧ cur + y.length ≤ hi) ∧ subAt x y cur = true) := fun c => by
        rw [hn cur (Nat.le_refl _) (by omega)] at c
        cases c.2
      simp only [List.forIn_cons, occBody, if_neg hc]
      exact occ_first x y hi h1 h2 m (cur + 1) (by omega) (by omega) fun k hk1 hk2 => hn k (by omega) hk2
theorem occ_sg {l : List Nat} {c : Nat} (h : c ∈ l) : occurrences (tx l) ⟨#[c]⟩ 0 (tx l).length 1 = [l.idxOf c] := by
  have hl : l.idxOf c < l.length := List.idxOf_lt_length_iff.mpr h
  have hx : (tx l).cps.toList = l := by simp [tx]
  have a1 := (subAt_one (tx l) c (l.idxOf c)).mpr (by rw [hx, List.getElem?_eq_getElem hl, List.getElem_idxOf])
  rw [occ_eq]
  have e := occ_first (tx l) ⟨#[c]⟩ (tx l).length a1.1 a1.2 ((tx l).length + 1 - 0) 0 (Nat.zero_le _) (by rw [tx_len]; omega) fun k _ hk => by
    cases q : subAt (tx l) ⟨#[c]⟩ k with
    | false => rfl
    | true =>
      have hkl : k < l.length := by omega
      have a2 := (subAt_one (tx l) c k).mp ⟨by show k + 1 ≤ _; rw [tx_len]; omega, q⟩
      rw [hx] at a2
      have ek : l[k] = c := by
        rw [List.getElem?_eq_getElem hkl] at a2
        exact Option.some.inj a2
      have := List.not_of_lt_findIdx (p := fun x => x == c) (xs := l) (i := k) hk
      rw [ek] at this
      simp at this
  rw [e]
end
abbrev rIndexS : V → List V → Hp → VK → Prop := fun x xs H Q => ∃ a b i rest, x = .str a ∧ xs = [.str b] ∧ Builtin.Str.occurrences a b 0 a.length 1 = i :: rest ∧ Q (.int (i : Nat)) H
theorem mt_indexS {X : Cx} : MtR X "str.index" rIndexS := mt_sindex
theorem wp_indexS {o : Option Addr} {F : Hp} {P : V → Hp → Prop} {l : List Nat} {c : Nat} (h : c ∈ l) (q : P (.int (l.idxOf c : Nat)) F) : Wp o (rIndexS (.str (tx l)) [sg c]) F P := fun H w Q k => ⟨tx l, ⟨#[c]⟩, l.idxOf c, [], rfl, rfl, occ_sg h, k _ H F w q⟩
end Sr
/-! dicts whose keys are tuples of whole numbers and None -/
namespace Sr
open PySem PySem.Spec PyProof.Rows L2 SrX

abbrev LKey := List Leaf
def lV : Leaf → V
  | .none => .non
  | .num i => .int i
  | .text x => .str x
theorem lV_is {P : Program} {w : World} {k : Leaf} {u : Value} (r : RelV (lV k) u) : (leafKind P w).is k u = true := by
  cases k with
  | none =>
    have e : u = Value.none := r
    subst e
    rfl
  | num i =>
    obtain ⟨t, e⟩ := (show ∃ t, u = Value.int i t from r)
    subst e
    exact decide_eq_true rfl
  | text x =>
    obtain ⟨t, e⟩ := (show ∃ t, u = Value.str x t from r)
    subst e
    show (x == x) = true
    simp
theorem litems_are {P : Program} {w : World} : ∀ {ks : List Leaf} {us : List Value}, Vals (ks.map lV) us → ItemsAre (leafKind P w) ks us
  | [], _, r => by rw [List.map_nil] at r; cases r; exact .nil
  | k :: ks, _, r => by
    rw [List.map_cons] at r
    cases r with
    | cons h t => exact .cons (lV_is h) (litems_are t)
/-- the entries as they are told, and as they stand -/
abbrev LP : List (LKey × Addr × V) → List (LKey × Addr × Value) → Prop := Paired fun p q => p.1 = q.1 ∧ p.2.1 = q.2.1 ∧ RelV p.2.2 q.2.2
/-- a dict at d -/
def LD (P : Program) (w : World) (d : Addr) (xs : List (LKey × Addr × V)) : HO := .ext fun h => xs.length ≤ sizeLine ∧ (d == sysModules) = false ∧ ∃ ys, LP xs ys ∧
  ∃ o es ep, h.get? d = some o ∧ o.ExactDict ∧ o.data = .dict es ep ∧ es.toList = ys.map (entryOfKey (tupleKind (leafKind P w))) ∧ (ys.map (·.1)).Nodup
def LKeys (H : Hp) (xs : List (LKey × Addr × V)) : Prop := ∀ e ∈ xs, H e.2.1 = some (.tup (e.1.map lV))
def valX (xs : List (LKey × Addr × V)) (k : LKey) : Option V := (xs.find? fun e => decide (e.1 = k)).map (·.2.2)
def putX (xs : List (LKey × Addr × V)) (k : LKey) (b : Addr) (v : V) : List (LKey × Addr × V) := if (valX xs k).isSome then xs.map fun e => if e.1 = k then (e.1, e.2.1, v) else e else xs ++ [(k, b, v)]
theorem LP.val {xs : List (LKey × Addr × V)} {ys : List (LKey × Addr × Value)} (r : LP xs ys) (k : LKey) : RelO (valX xs k) ((atKey ys k).map (·.2)) := by
  induction r with
  | nil => exact True.intro
  | @cons p q ps qs h t ih =>
    obtain ⟨h1, _, h2⟩ := h
    by_cases e : p.1 = k
    · have e' : q.1 = k := h1.symm.trans e
      have b : atKey (q :: qs) k = some q.2 := by simp [atKey, List.find?_cons, e']
      have b2 : valX (p :: ps) k = some p.2.2 := by simp [valX, List.find?_cons, e]
      rw [b2, b]; exact h2
    · have e' : ¬ q.1 = k := fun z => e (h1.trans z)
      have b : atKey (q :: qs) k = atKey qs k := by simp [atKey, List.find?_cons, e']
      have b2 : valX (p :: ps) k = valX ps k := by simp [valX, List.find?_cons, e]
      rw [b2, b]; exact ih
theorem LP.repl {xs : List (LKey × Addr × V)} {ys : List (LKey × Addr × Value)} (r : LP xs ys) (k : LKey) {v : V} {u : Value} (rv : RelV v u) : LP (xs.map fun e => if e.1 = k then (e.1, e.2.1, v) else e) (ys.map (putAt k u)) := by
  induction r with
  | nil => exact .nil
  | @cons p q ps qs h t ih =>
    rw [List.map_cons, List.map_cons]
    refine .cons ?_ ih
    obtain ⟨h1, h2, h3⟩ := h
    unfold putAt
    by_cases e : p.1 = k
    · rw [if_pos e, if_pos (h1.symm.trans e)]; exact ⟨h1, h2, rv⟩
    · rw [if_neg e, if_neg (fun z => e (h1.trans z))]; exact ⟨h1, h2, h3⟩
theorem LP.put {xs : List (LKey × Addr × V)} {ys : List (LKey × Addr × Value)} (r : LP xs ys) (k : LKey) (b : Addr) {v : V} {u : Value} (rv : RelV v u) : LP (putX xs k b v) (storedH ys k b u) := by
  have e : (valX xs k).isSome = (atKey ys k).isSome := by
    have q := (r.val k).isSome_eq
    rw [Option.isSome_map] at q
    exact q
  unfold putX storedH
  rw [e]
  by_cases q : (atKey ys k).isSome = true
  · rw [if_pos q, if_pos q]; exact r.repl k rv
  · rw [if_neg q, if_neg q]; exact Paired.snoc r ⟨rfl, rfl, rv⟩
theorem LP.keys {H : Hp} {xs : List (LKey × Addr × V)} {ys : List (LKey × Addr × Value)} (r : LP xs ys) (h : LKeys H xs) : ∀ y ∈ ys, H y.2.1 = some (.tup (y.1.map lV)) := by
  induction r with
  | nil => intro y hy; exact nomatch hy
  | @cons p q ps qs hh t ih =>
    intro y hy
    rcases List.mem_cons.mp hy with e | hy
    · subst e
      obtain ⟨h1, h2, _⟩ := hh
      rw [← h1, ← h2]
      exact h p List.mem_cons_self
    · exact ih (fun e he => h e (List.mem_cons_of_mem _ he)) y hy
theorem putX_len (xs : List (LKey × Addr × V)) (k : LKey) (b : Addr) (v : V) : (putX xs k b v).length ≤ xs.length + 1 := by
  unfold putX
  split
  · rw [List.length_map]; omega
  · rw [List.length_append]; exact Nat.le_refl _
section
variable {P : Program} {w : World} {H : Hp} {h : Heap} {a b : Addr}
theorem lkey_of {ks : LKey} (ok : HOk P w H h) (e : H a = some (.tup (ks.map lV))) : (tupleKind (leafKind P w)).is h ks a := by
  obtain ⟨_, its, r, o, h1, h2, n, h3⟩ := (show ObjOk P w H h a (.tup (ks.map lV)) from ok a _ e)
  exact ⟨o, its.toArray, n, h1, h2, h3, by simpa using litems_are r⟩
theorem ld_of {xs : List (LKey × Addr × V)} (ok : HOk P w H h) (e : H a = some (LD P w a xs)) (hk : LKeys H xs) : xs.length ≤ sizeLine ∧ (a == sysModules) = false ∧ ∃ ys, LP xs ys ∧ h.DictOfH (tupleKind (leafKind P w)) a ys := by
  obtain ⟨⟨z, y, ys, r, o, es, ep, h1, h2, h3, h4, h5⟩, _, _⟩ := (show ObjOk P w H h a (LD P w a xs) from ok a _ e)
  exact ⟨z, y, ys, r, o, es, ep, h1, h2, h3, h4, fun x hx => lkey_of ok (r.keys hk x hx), h5⟩
theorem ld_ok {xs : List (LKey × Addr × V)} {ys : List (LKey × Addr × Value)} (z : xs.length ≤ sizeLine) (hd : (a == sysModules) = false) (r : LP xs ys)
    (dd : ∃ o es ep, h.get? a = some o ∧ o.ExactDict ∧ o.data = .dict es ep ∧ es.toList = ys.map (entryOfKey (tupleKind (leafKind P w))) ∧ (ys.map (·.1)).Nodup) : ObjOk P w H h a (LD P w a xs) := by
  obtain ⟨o, es, ep, h1, h2, h3, h4, h5⟩ := dd
  refine ⟨⟨z, hd, ys, r, o, es, ep, h1, h2, h3, h4, h5⟩, ⟨o, h1⟩, fun g1 g2 p k => ?_⟩
  obtain ⟨z, hd, ys, r, o, es, ep, h1, h2, h3, h4, h5⟩ := p
  exact ⟨z, hd, ys, r, o, es, ep, k o h1, h2, h3, h4, h5⟩
end
/-- what is asked for a look at the dict: it, its keys, the key asked for -/
def LGet (P : Program) (w : World) (H : Hp) (a : Addr) (y : V) (r : Option V) : Prop := ∃ xs k b, H a = some (LD P w a xs) ∧ LKeys H xs ∧ y = .ref b ∧ H b = some (.tup (k.map lV)) ∧ r = valX xs k
section
variable {X : Cx} {pins : List (Addr × Obj)} {σ : L2.St} {H : Hp} {s : Shared} {a : Addr} {y v : V} {u r : Value} {o : Option V} {A : Around} {E : Value → Shared → Prop}
theorem l_getItem {Q : Value → Shared → Prop} (hu : A.units + 1 < cLine) (I : Inv X pins σ H s) (g : LGet X.prog X.w H a y (some v)) (ry : RelV y u) (h : ∀ w' s', Inv X pins σ H s' → RelV v w' → Q w' s') : wpAny (model X.prog X.w) A (getItem (.ref a) u) Q E s := by
  obtain ⟨xs, k, b, e, hk, ey, eb, l⟩ := g
  subst ey
  cases (show u = Value.ref b from ry)
  obtain ⟨z, hd, ys, rel, dd⟩ := ld_of I.hok e hk
  obtain ⟨w', hw, rw'⟩ := RelO.some_of (v := v) (o := (atKey ys k).map (·.2)) (by rw [l]; exact rel.val k)
  obtain ⟨p, hp, hp2⟩ := Option.map_eq_some_iff.mp hw
  refine wpAny_getItem_heap (tupleKind_room_in1 hu) (lkey_of I.hok eb) dd hp ?_
  rw [hp2]
  exact h w' _ (I.tok _) rw'
theorem l_notIn {Q : Value → Shared → Prop} (hu : A.units + 1 < cLine) (I : Inv X pins σ H s) (g : LGet X.prog X.w H a y o) (ry : RelV y u) (h : ∀ s', Inv X pins σ H s' → Q (.bool (!o.isSome)) s') : wpAny (model X.prog X.w) A (compareOp .NotIn u (.ref a)) Q E s := by
  obtain ⟨xs, k, b, e, hk, ey, eb, l⟩ := g
  subst ey
  cases (show u = Value.ref b from ry)
  obtain ⟨z, hd, ys, rel, dd⟩ := ld_of I.hok e hk
  refine wpAny_notIn_heap (tupleKind_room_in1 hu) (lkey_of I.hok eb) hd dd ?_
  have q := (rel.val k).isSome_eq
  rw [Option.isSome_map] at q
  rw [← q, ← l]
  exact h _ (I.tok _)
/-- a[y] = v -/
def LPut (P : Program) (w : World) (H : Hp) (a : Addr) (y v : V) (H1 : Hp) : Prop := ∃ xs k b, H a = some (LD P w a xs) ∧ LKeys H xs ∧ y = .ref b ∧ H b = some (.tup (k.map lV)) ∧ xs.length < sizeLine ∧ H1 = upd H a (LD P w a (putX xs k b v))
theorem l_setItem {H1 : Hp} {Q : Unit → Shared → Prop} (hu : A.units + 1 < cLine) (I : Inv X pins σ H s) (g : LPut X.prog X.w H a y v H1) (ry : RelV y u) (rv : RelV v r) (h : ∀ s', Inv X pins σ H1 s' → Q () s') : wpAny (model X.prog X.w) A (setItem (.ref a) u r) Q E s := by
  obtain ⟨xs, k, b, e, hk, ey, eb, l, eH⟩ := g
  subst ey eH
  cases (show u = Value.ref b from ry)
  obtain ⟨z, hd, ys, rel, dd⟩ := ld_of I.hok e hk
  have hz : ys.length ≤ sizeLine := by rw [← Paired.length rel]; exact z
  have hl : (putX xs k b v).length ≤ sizeLine := by have := putX_len xs k b v; omega
  refine wpAny_setItem_heap (hsz := hz) (tupleKind_room_in1 hu) (lkey_of I.hok eb) dd fun h' dd' hs => h _ ?_
  obtain ⟨q, es, ep, hq, h2, h3, h4, _, h5⟩ := dd'
  exact d_write I (by rw [e]; exact True.intro) hs ⟨q, hq⟩ (ld_ok hl hd (rel.put k b rv) ⟨q, es, ep, hq, h2, h3, h4, h5⟩)
theorem lget_ty (I : Inv X pins σ H s) (g : LGet X.prog X.w H a y o) : s.TypeIs (.ref a) "dict" := by
  obtain ⟨xs, k, b, e, hk, _⟩ := g
  obtain ⟨_, _, ys, _, dd⟩ := ld_of I.hok e hk
  exact dd.typeIs
end
def tLGet (P : Program) (w : World) (td ty : TE) : TE := fun σ H Q => td σ H fun x H1 => ty σ H1 fun y H2 => ∃ a v, x = .ref a ∧ LGet P w H2 a y (some v) ∧ Q v H2
def tLNotIn (P : Program) (w : World) (ty td : TE) : TE := fun σ H Q => ty σ H fun y H1 => td σ H1 fun x H2 => ∃ a o, x = .ref a ∧ LGet P w H2 a y o ∧ Q (.bl (!o.isSome)) H2
def sLPut (P : Program) (w : World) (td ty tv : TE) : TS := fun D σ H => tv σ H fun v H1 => td σ H1 fun x H2 => ty σ H2 fun y H3 => ∃ a H4, x = .ref a ∧ LPut P w H3 a y v H4 ∧ D.nx σ H4
def tLNew (P : Program) (w : World) : TE := fun _ H Q => ∀ p, H p = none → Q (.ref p) (upd H p (LD P w p []))
section
variable {X : Cx} {o i e value : Expr} {pos pos' tpos : Pos} {td ty tv : TE} {P : Program} {w : World}
theorem pe_lget (hp : X.prog = P) (hw : X.w = w) (hu : X.A.units + 1 < cLine) (ho : PE X o td) (hi : PE X i ty) (hs : NoSl i) : PE X (.Subscript o i pos) (tLGet P w td ty) := by
  subst hp hw
  refine ⟨fun pins s σ H Q I h => ?_⟩
  refine subD_of PySem.F.slot_dict_getitem.lookup hs (thn (ho.run pins s σ H _ I h) fun u s1 ⟨x, H1, I1, rx, q1⟩ => thn (hi.run pins s1 σ H1 _ I1 q1) fun iv s2 ⟨y, H2, I2, ry, a, v, ex, g, q2⟩ => ?_)
  subst ex
  obtain rfl : u = Value.ref a := rx
  exact ⟨lget_ty I2 g, l_getItem hu I2 g ry fun w' s3 I3 rw' => ⟨v, H2, I3, rw', q2⟩⟩
theorem pc_lnotin (hp : X.prog = P) (hw : X.w = w) (hu : X.A.units + 1 < cLine) (hi : PE X i ty) (ho : PE X o td) : PC X .NotIn i o (tLNotIn P w ty td) := by
  subst hp hw
  refine ⟨fun pins s σ H Q I h => ?_⟩
  refine thn (hi.run pins s σ H _ I h) fun iv s1 ⟨y, H1, I1, ry, q1⟩ => thn (ho.run pins s1 σ H1 _ I1 q1) fun u s2 ⟨x, H2, I2, rx, a, ov, ex, g, q2⟩ => ?_
  subst ex
  obtain rfl : u = Value.ref a := rx
  exact l_notIn hu I2 g ry fun s3 I3 => ⟨.bl (!ov.isSome), H2, I3, rfl, q2⟩
theorem ps_lput (hp : X.prog = P) (hw : X.w = w) (hu : X.A.units + 1 < cLine) (ho : PE X o td) (hi : PE X i ty) (hv : PE X value tv) (hs : swapsWith value (some (.Subscript o i pos')) pos.line X.env = pure false) :
    PS X (.Assign [.Subscript o i pos'] value pos) (sLPut P w td ty tv) := by
  subst hp hw
  refine ⟨fun pins s σ H D I h => ?_⟩
  refine wpAny_Assign_Subscript (thn (hv.run pins s σ H _ I h) fun r s1 ⟨v, H1, I1, rv, q1⟩ => thn (ho.run pins s1 σ H1 _ I1 q1) fun u s2 ⟨x, H2, I2, rx, q2⟩ => thn (hi.run pins s2 σ H2 _ I2 q2) fun iv s3 ⟨y, H3, I3, ry, a, H4, ex, g, q3⟩ => ?_) hs
  subst ex
  obtain rfl : u = Value.ref a := rx
  exact l_setItem hu I3 g ry rv fun s4 I4 => ⟨σ, H4, I4, q3⟩
theorem pe_lnew (hp : X.prog = P) (hw : X.w = w) : PE X (.Dict [] [] pos) (tLNew P w) := by
  subst hp hw
  exact ⟨fun pins s σ H Q I h => wpAny_Dict_empty ⟨.ref s.heap.objs.size, _, I.laid (a := s.heap.objs.size) (o := LD X.prog X.w s.heap.objs.size []) (t' := s.toks) (fun _ _ q => Heap.get?_push_of_some _ q) (Nat.le_refl _)
    (ld_ok (Nat.zero_le _) (beq_eq_false_iff_ne.mpr (Ne.symm (Nat.ne_of_lt I.big))) .nil ⟨_, #[], 0, Heap.get?_push_size _ rfl, ⟨rfl, rfl, rfl⟩, rfl, rfl, List.nodup_nil⟩), rfl, h _ (I.hok.fresh (Nat.le_refl _))⟩⟩
end
end Sr
/-! methods, fields, the dict: promises and ways -/
namespace Sr
open PySem PySem.Spec PyProof.Rows L2 SrX
theorem u1 {A : Around} (h : A.units + 64 < cLine) : A.units + 1 < cLine := by omega
/-- the def of a class's method -/
def DefAtM (K : PySem.W.Frag) (C : Addr) (m q : Str) (st : Stmt) : Prop := ∃ f fd, Fun K m q st f fd ∧ Meth K C m f
def MPm (P : Program) (w : World) (K : PySem.W.Frag) (mg : Str → Option Value) (base : Heap) (CX : CXT) (k : Nat) (C : Addr) (m : Str) (ps : List Str) (sp : Sp) : Prop :=
  ∃ f fd, FnOk P w K mg base CX k f fd ps sp ∧ Meth K C m f ∧ Binds K fd ps []
def Made (P : Program) (w : World) (K : PySem.W.Frag) (mg : Str → Option Value) (base : Heap) (CX : CXT) (k : Nat) (C : Addr) (x : Str) (ps : List Str) (sp : Sp) : Prop :=
  ∃ f fd, FnOk P w K mg base CX k f fd ps sp ∧ Mk K C f ∧ Binds K fd ps [] ∧ mg x = some (.ref C)
theorem defAtM_mk {K : PySem.W.Frag} {C : Addr} {m q : Str} {st : Stmt} {f : Addr} {oc : Value} {od an : Option Addr} {osl : Array (Option Value)} {kV doc pm cdv ct : Value}
    (a : PySem.W.findIn K (.ref C) m = some (some (.ref f))) (i : PySem.W.isFn K (.ref f) = true) (l : K.lookup f = some ⟨oc, od, .func (PySem.W.fnOf m q (defArgs st) (defBody st) (defScope st) .none kV doc pm an cdv ct), osl⟩)
    (c : PySem.W.codeIn K cdv q = true) (k : PySem.W.keepIn K (.ref f) = true) : DefAtM K C m q st := ⟨f, _, fun_mk l c k, ⟨a, i, k⟩⟩
section
variable {X : Cx} {CX : CXT} {k : Nat} {C : Addr} {m x : Str} {ps : List Str} {sp : Sp} {E : XK} {o e : Expr} {es : List Expr} {ta : TE} {t : TA} {apos pos p : Pos}
theorem pe_mpm {pl : Sem Bool} (c : Cls X.K C) (G : MPm X.prog X.w X.K X.mg X.base CX k C m ps sp) (hr : Room k X.A) (hx : Passes CX X E) (he : PE X o ta) (ha : PA X (e :: es) t)
    (hst : starEach (e :: es) X.env = (false, eval e X.env) :: starEach es X.env := by rfl) (hpl : (backTo pos (starEach es X.env)).any (·.1) = false := by rfl)
    (ht : eval (.Call (.Attribute o m apos) (e :: es) [] pos) X.env = (do
      let ov ← eval o X.env
      standAt apos.atName
      let (f, first) ← holding [ov] (getMethod ov m pl)
      callWith pos f first (backTo pos (starEach (e :: es) X.env)) (backToKw pos (keywordEach [] X.env))) := by rfl) :
    PE X (.Call (.Attribute o m apos) (e :: es) [] pos) (tMeth C m sp [] E ta t) := by
  obtain ⟨f, fd, F, hm, hb⟩ := G
  exact pe_meth he c hm F hr hb .nil hx ha hst hpl ht
theorem pe_mk (G : Made X.prog X.w X.K X.mg X.base CX k C x ps sp) (hr : Room (k + 1) X.A) (hx : Passes CX X E) (ha : PA X (e :: es) t) (hg : Gl X x := by rfl)
    (hdb : (x == ("__debug__" : Str)) = false := by decide) (he : starEach (e :: es) X.env = (false, eval e X.env) :: starEach es X.env := by rfl) (hpl : (backTo pos (starEach es X.env)).any (·.1) = false := by rfl) :
    PE X (.Call (.Name x p) (e :: es) [] pos) (tMake C sp [] E t) := by
  obtain ⟨f, fd, F, M, hb, hm⟩ := G
  exact pe_make M F hr hg hm hb .nil hx ha hdb he hpl
end
section
variable {X : Cx} (K : PySem.W.Frag) (hK : X.K = K) {e value : Expr} {f : Str} {pos pos' : Pos} {ta tv : TE}
include hK
theorem pe_fldK (he : PE X e ta) (hb : attributeBase e f X.env (eval e X.env) = eval e X.env) : PE X (.Attribute e f pos) (tFld K ta f) := hK ▸ pe_fld he hb
theorem ps_fldK (ha : PE X e ta) (hv : PE X value tv) (hs : swapsWith value (some (.Attribute e f pos')) pos.line X.env = pure false) : PS X (.Assign [.Attribute e f pos'] value pos) (sFld K ta tv f) := hK ▸ ps_fld ha hv hs
end
section
variable {o : Option Addr} {F : Hp} {σ : L2.St} {K : PySem.W.Frag} {P : V → Hp → Prop} {D : Ends} {ta tb td ty tv : TE} {tl : TA} {tz : TS} {C : Addr} {Pg : Program} {w : World}
theorem wp_fld {f : Str} (h : Wp o (ta σ) F fun x F1 => ∃ a C dx fs v, x = .ref a ∧ F1 a = some (.ins C dx fs) ∧ Cls K C ∧ NoAttr K C f ∧ fs.lookup f = some v ∧ P v F1) : Wp o (tFld K ta f σ) F P := fun H w Q k =>
  h H w _ fun x H1 F1 w1 ⟨a, C, dx, fs, v, e, h1, c, n, l, p⟩ => ⟨a, C, dx, fs, v, e, w1.ex _ _ h1, c, n, l, k v H1 F1 w1 p⟩
theorem go_sfld {f : Str} (h : Wp o (tv σ) F fun y F1 => Wp o (ta σ) F1 fun x F2 => ∃ a C dx fs, x = .ref a ∧ F2 a = some (.ins C dx fs) ∧ Cls K C ∧ NoAttr K C f ∧ fs.length < 1000 ∧ Go o tz D σ (upd F2 a (.ins C dx (putF f y fs)))) : Go o (tSeq (sFld K ta tv f) tz) D σ F := fun H w =>
  h H w _ fun y H1 F1 w1 h1 => h1 H1 w1 _ fun x H2 F2 w2 ⟨a, C, dx, fs, e, h2, c, n, l, g⟩ => ⟨a, C, dx, fs, e, w2.ex _ _ h2, c, n, l, g _ (w2.mut h2)⟩
theorem wp_meth {m : Str} {sp : Sp} {dvs : List V} {E : XK} (h : Wp o (ta σ) F fun x F1 => ∃ a dx fs, x = .ref a ∧ F1 a = some (.ins C dx fs) ∧ fs.lookup m = none ∧ Wp o (tl σ) F1 fun vs F2 => Wp o (fun H Q => sp (.ref a :: (vs ++ dvs)) H Q E) F2 P) : Wp o (tMeth C m sp dvs E ta tl σ) F P := fun H w Q k =>
  h H w _ fun x H1 F1 w1 ⟨a, dx, fs, e, h1, l, h2⟩ => by
    subst e
    exact ⟨a, dx, fs, rfl, w1.ex _ _ h1, l, h2 H1 w1 _ fun vs H2 F2 w2 h3 => h3 H2 w2 Q k⟩
theorem wp_make {sp : Sp} {dvs : List V} {E : XK} (h : Wp o (tl σ) F fun vs F1 => ∀ x dx, F1 x = none → F1 dx = none → dx ≠ x → Wp o (fun H Q => sp (.ref x :: (vs ++ dvs)) H Q E) (upd (upd F1 dx (.own x)) x (.ins C dx [])) fun v F2 => v = .non ∧ P (.ref x) F2) :
    Wp o (tMake C sp dvs E tl σ) F P := fun H w Q k => h H w _ fun vs H1 F1 w1 h1 x dx nx ndx ne => by
  have w2 : Wd o (upd (upd F1 dx (.own x)) x (.ins C dx [])) (upd (upd H1 dx (.own x)) x (.ins C dx [])) := (w1.new1 ndx).new1 (by rw [upd_ne (Ne.symm ne)]; exact nx)
  exact h1 x dx (w1.fr nx) (w1.fr ndx) ne _ w2 _ fun v H2 F2 w3 ⟨e, p⟩ => ⟨e, k _ H2 F2 w3 p⟩
theorem LKeys.up {H H1 : Hp} {xs : List (LKey × Addr × V)} (e : Ex H H1) (h : LKeys H xs) : LKeys H1 xs := fun x hx => e _ _ (h x hx)
theorem wp_lget (h : Wp o (td σ) F fun x F1 => Wp o (ty σ) F1 fun y F2 => ∃ a v, x = .ref a ∧ LGet Pg w F2 a y (some v) ∧ P v F2) : Wp o (tLGet Pg w td ty σ) F P := fun H wd Q k =>
  h H wd _ fun x H1 F1 w1 h1 => h1 H1 w1 _ fun y H2 F2 w2 ⟨a, v, e, ⟨xs, kk, b, g1, g2, g3, g4, g5⟩, p⟩ => ⟨a, v, e, ⟨xs, kk, b, w2.ex _ _ g1, g2.up w2.ex, g3, w2.ex _ _ g4, g5⟩, k v H2 F2 w2 p⟩
theorem wp_lnotin (h : Wp o (ty σ) F fun y F1 => Wp o (td σ) F1 fun x F2 => ∃ a r, x = .ref a ∧ LGet Pg w F2 a y r ∧ P (.bl (!r.isSome)) F2) : Wp o (tLNotIn Pg w ty td σ) F P := fun H wd Q k =>
  h H wd _ fun y H1 F1 w1 h1 => h1 H1 w1 _ fun x H2 F2 w2 ⟨a, r, e, ⟨xs, kk, b, g1, g2, g3, g4, g5⟩, p⟩ => ⟨a, r, e, ⟨xs, kk, b, w2.ex _ _ g1, g2.up w2.ex, g3, w2.ex _ _ g4, g5⟩, k _ H2 F2 w2 p⟩
theorem go_lput (h : Wp o (tv σ) F fun v F1 => Wp o (td σ) F1 fun x F2 => Wp o (ty σ) F2 fun y F3 => ∃ a xs kk b, x = .ref a ∧ F3 a = some (LD Pg w a xs) ∧ LKeys F3 xs ∧ y = .ref b ∧ F3 b = some (.tup (kk.map lV)) ∧ xs.length < 100000 ∧ Go o tz D σ (upd F3 a (LD Pg w a (putX xs kk b v)))) :
    Go o (tSeq (sLPut Pg w td ty tv) tz) D σ F := fun H wd =>
  h H wd _ fun v H1 F1 w1 h1 => h1 H1 w1 _ fun x H2 F2 w2 h2 => h2 H2 w2 _ fun y H3 F3 w3 ⟨a, xs, kk, b, e1, g1, g2, e2, g3, l, g⟩ => ⟨a, _, e1, ⟨xs, kk, b, w3.ex _ _ g1, g2.up w3.ex, e2, w3.ex _ _ g3, sz1 l, rfl⟩, g _ (w3.mut g1)⟩
theorem wp_lnew (q : ∀ p, F p = none → P (.ref p) (upd F p (LD Pg w p []))) : Wp o (tLNew Pg w σ) F P := fun H wd Q k p hp => k _ _ _ (wd.new1 hp) (q p (wd.fr hp))
end
end Sr
local macro_rules | `(tactic| wtm_at "dec") => `(tactic| first
  | exact decide_eq_true (by omega)
  | exact decide_eq_false (by omega)
  | (simp only [Bool.not_eq_true', Bool.not_eq_false', Bool.not_true, Bool.not_false, decide_eq_true_eq, decide_eq_false_iff_not]; omega)
  | (simp; done)
  | (simp; omega))
local macro_rules | `(tactic| wtm_at "sz") => `(tactic| first
  | omega
  | (simp only [List.length_append, List.length_cons, List.length_nil, List.length_map, List.length_take, List.length_drop, List.length_singleton]; omega)
  | (show _ ≤ _; decide)
  | decide)
local macro_rules | `(tactic| wtm_at "fr") => `(tactic| first
  | assumption
  | (refine Sr.fr_in (q := _) (u := _) ?_; assumption)
  | (refine L2.Same.free ?_ ?_ <;> assumption))
local macro_rules | `(tactic| wtm_at "ne") => `(tactic| first
  | assumption
  | (exact Sr.fr_ne (by assumption))
  | (exact (Sr.fr_ne (by assumption)).symm)
  | (exact L2.ne_of_none (by assumption) (by wtm_at "fr"))
  | (exact (L2.ne_of_none (by assumption) (by wtm_at "fr")).symm))
local macro_rules | `(tactic| wtm_at "at") => `(tactic| first
  | assumption
  | ((with_reducible exact L2.upd_same))
  | ((with_reducible apply Sr.at_ne); wtm_at "at"; wtm_at "fr")
  | ((with_reducible refine' Eq.trans (L2.upd_ne ?_) ?_); wtm_at "ne"; wtm_at "at")
  | ((with_reducible exact (by assumption : L2.Same _ _) _ _ (by assumption))))
local macro_rules | `(tactic| wtm_at "kn") => `(tactic| first
  | assumption
  | ((with_reducible apply L2.SqL.of); wtm_at "at")
  | ((with_reducible apply L2.SqT.of); wtm_at "at")
  | ((with_reducible refine' Sr.ex_t (Sr.ex_new ?_) ?_); wtm_at "fr"; wtm_at "kn")
  | ((with_reducible refine' Sr.ex_l (Sr.ex_new ?_) ?_); wtm_at "fr"; wtm_at "kn")
  | ((with_reducible refine' Sr.ex_t (by assumption) ?_); wtm_at "kn")
  | ((with_reducible refine' Sr.ex_l (by assumption) ?_); wtm_at "kn"))
local macro_rules | `(tactic| wtm_at "s") => `(tactic| first
  | ((with_reducible refine Sr.go_set ?_))
  | ((with_reducible refine Sr.go_ret ?_))
  | ((with_reducible refine Sr.go_if ?_))
  | ((with_reducible refine Sr.go_drop ?_))
  | ((with_reducible refine Sr.go_asg ?_))
  | ((with_reducible apply Sr.wp_var); exact rfl)
  | ((with_reducible refine Sr.wp_c ?_))
  | ((with_reducible refine Sr.wp_op ?_))
  | ((with_reducible refine Sr.wp_un ?_))
  | ((with_reducible refine Sr.wp_chain ?_))
  | ((with_reducible refine Sr.wp_ifE ?_))
  | ((with_reducible refine Sr.wp_andV ?_))
  | ((with_reducible refine Sr.wp_orV ?_))
  | ((with_reducible refine Sr.wp_notV ?_))
  | ((with_reducible refine Sr.wp_test ?_))
  | ((with_reducible refine Sr.wp_B ?_))
  | ((with_reducible refine Sr.wp_and ?_))
  | ((with_reducible refine Sr.wp_or ?_))
  | ((with_reducible refine Sr.wp_not ?_))
  | ((with_reducible refine Sr.wp_yes ?_))
  | ((with_reducible refine Sr.wp_nil ?_))
  | ((with_reducible refine Sr.wp_cons ?_))
  | ((with_reducible refine Sr.wp_tup ?_))
  | ((with_reducible refine Sr.wp_lst ?_))
  | ((with_reducible refine Sr.wp_call ?_))
  | ((with_reducible refine Sr.wp_cb ?_))
  | ((with_reducible refine Sr.wp_sl ?_))
  | ((with_reducible refine Sr.wp_noPart ?_))
  | ((with_reducible refine Sr.wp_part ?_))
  | ((with_reducible refine Sr.wp_addI ?_))
  | ((with_reducible refine Sr.wp_addS ?_ ?_); wtm_at "sz")
  | ((with_reducible refine Sr.wp_i0 ?_))
  | ((with_reducible refine Sr.wp_isNs ?_))
  | ((with_reducible refine Sr.wp_notNs ?_))
  | ((with_reducible refine Sr.go_ifB ?_))
  | ((with_reducible refine Sr.wp_u ?_))
  | ((with_reducible refine Sr.wp_eqI ?_))
  | ((with_reducible refine Sr.wp_neI ?_))
  | ((with_reducible refine Sr.wp_eqS ?_))
  | ((with_reducible refine Sr.wp_neS ?_))
  | ((with_reducible refine Sr.wp_inS ?_))
  | ((with_reducible refine Sr.wp_niS ?_))
  | ((with_reducible refine Sr.wp_lenS ?_ ?_); wtm_at "sz")
  | ((with_reducible apply Sr.wp_lenL); wtm_at "kn")
  | ((with_reducible apply Sr.wp_lenT); wtm_at "kn")
  | ((with_reducible apply Sr.wp_ixT); wtm_at "kn"; exact rfl)
  | ((with_reducible refine Sr.wp_slS ?_ ?_); wtm_at "sz")
  | ((with_reducible refine Sr.wp_gName ?_))
  | ((with_reducible apply Sr.wp_gTup); wtm_at "kn"; exact rfl)
  | ((with_reducible refine Sr.wp_gCons ?_))
  | ((with_reducible refine Sr.wp_gNil ?_))
  | ((with_reducible refine ⟨_, (rfl : @Eq L2.V _ _), ?_⟩))
  | ((with_reducible refine Sr.go_back ?_)))
local macro_rules | `(tactic| wtm_at "r") => `(tactic| repeat wtm_at "s")
local macro_rules | `(tactic| wtm_at "gz") => `(tactic| (
  intro p hp
  generalize hG : L2.upd _ p _ = F
  have h := (Sr.gz_l hG hp).2
  have e := (Sr.gz_l hG hp).1
  clear hG
  revert h e
  revert F
  revert hp
  revert p))
namespace Sr
open PySem PySem.Spec PyProof.Rows L2 SrX
/-! ### sets, tapes -/
abbrev il (cs : List Int) : List V := cs.map V.int
/-- two sets of signs stand at s -/
abbrev SetsAt (K : PySem.W.Frag) (H : Hp) (s : Addr) (A B : List Nat) : Prop := SqT K H s [.str (tx A), .str (tx B)]
structure Good (A B : List Nat) : Prop where
  n1 : 1 ≤ A.length
  n10 : A.length ≤ 10
  eq : B.length = A.length
  ndA : A.Nodup
  ndB : B.Nodup
def CodesOk (n : Nat) (cs : List Int) : Prop := ∀ c ∈ cs, 0 ≤ c ∧ c < (n : Int) + 2
def StOk (st : Int) : Prop := st = 0 ∨ st = 1
/-- the row of a state -/
def rowS (A B : List Nat) (st : Int) : List Nat := if st = 0 then A else B
def sgn (A B : List Nat) (st c : Int) : Nat := (rowS A B st).getD c.toNat 0
def gst (A B : List Nat) (x : List Nat × Int) (c : Int) : List Nat × Int := if c < (A.length : Int) then (x.1 ++ [sgn A B x.2 c], x.2) else (x.1, c - (A.length : Int))
/-- what a tape reads as, the state behind it -/
def gon (A B : List Nat) (cs : List Int) (st : Int) : List Nat × Int := cs.foldl (gst A B) ([], st)
theorem take_more {α : Type} {l : List α} {i : Nat} {x : α} (h : l[i]? = some x) : l.take (i + 1) = l.take i ++ [x] := by
  rw [List.take_add_one, h]; rfl
theorem gon_take {A B : List Nat} {cs : List Int} {st : Int} {i : Nat} {c : Int} (h : cs[i]? = some c) : gon A B (cs.take (i + 1)) st = gst A B (gon A B (cs.take i) st) c := by
  unfold gon
  rw [take_more h, List.foldl_append]
  rfl
theorem gst_len {A B : List Nat} (x : List Nat × Int) (c : Int) : (gst A B x c).1.length ≤ x.1.length + 1 := by
  unfold gst
  split
  · simp
  · simp
theorem gon_len (A B : List Nat) (st : Int) (cs : List Int) : (gon A B cs st).1.length ≤ cs.length := by
  have key : ∀ (cs : List Int) (x : List Nat × Int), (cs.foldl (gst A B) x).1.length ≤ x.1.length + cs.length := by
    intro cs
    induction cs with
    | nil => intro x; exact Nat.le_refl _
    | cons c r ih =>
      intro x
      have h1 := ih (gst A B x c)
      have h2 := gst_len (A := A) (B := B) x c
      rw [List.foldl_cons, List.length_cons]
      omega
  have h := key cs ([], st)
  simpa [gon] using h
theorem gst_st {A B : List Nat} {x : List Nat × Int} {c : Int} (hx : StOk x.2) (hc : 0 ≤ c ∧ c < (A.length : Int) + 2) : StOk (gst A B x c).2 := by
  unfold gst
  split
  · exact hx
  · show c - (A.length : Int) = 0 ∨ c - (A.length : Int) = 1
    omega
theorem gon_st {A B : List Nat} {cs : List Int} {st : Int} (hs : StOk st) (hc : CodesOk A.length cs) : StOk (gon A B cs st).2 := by
  have key : ∀ (cs : List Int) (x : List Nat × Int), StOk x.2 → CodesOk A.length cs → StOk (cs.foldl (gst A B) x).2 := by
    intro cs
    induction cs with
    | nil => intro x h _; exact h
    | cons c r ih =>
      intro x h hc
      exact ih _ (gst_st h (hc c List.mem_cons_self)) fun d hd => hc d (List.mem_cons_of_mem _ hd)
  exact key cs ([], st) hs hc
theorem CodesOk.take {n : Nat} {cs : List Int} (h : CodesOk n cs) (i : Nat) : CodesOk n (cs.take i) := fun c hc => h c (List.mem_of_mem_take hc)
theorem CodesOk.drop {n : Nat} {cs : List Int} (h : CodesOk n cs) (i : Nat) : CodesOk n (cs.drop i) := fun c hc => h c (List.mem_of_mem_drop hc)
theorem CodesOk.app {n : Nat} {cs ds : List Int} (h : CodesOk n cs) (h2 : CodesOk n ds) : CodesOk n (cs ++ ds) := fun c hc => (List.mem_append.mp hc).elim (h c) (h2 c)
theorem row_len {A B : List Nat} (h : B.length = A.length) (st : Int) : (rowS A B st).length = A.length := by
  unfold rowS
  split
  · rfl
  · exact h
theorem at_row {A B : List Nat} {st : Int} (h : StOk st) : atI [V.str (tx A), V.str (tx B)] st = some (.str (tx (rowS A B st))) := by
  rcases h with h | h
  · subst h; exact atI_nat (j := 0) rfl
  · subst h; exact atI_nat (j := 1) rfl
theorem at_sgn {A B : List Nat} {st c : Int} (h : B.length = A.length) (h0 : 0 ≤ c) (h1 : c < (A.length : Int)) : atI (rowS A B st) c = some (sgn A B st c) := by
  have hl : c.toNat < (rowS A B st).length := by rw [row_len h]; omega
  refine atNat h0 ?_
  unfold sgn
  rw [List.getElem?_eq_getElem hl, List.getD_eq_getElem?_getD, List.getElem?_eq_getElem hl]
  rfl
theorem il_at {cs : List Int} {i : Nat} {y : V} (h : (il cs)[i]? = some y) : ∃ c, cs[i]? = some c ∧ y = .int c ∧ c ∈ cs := by
  rw [List.getElem?_map] at h
  cases e : cs[i]? with
  | none => rw [e] at h; cases h
  | some c =>
    rw [e] at h
    exact ⟨c, rfl, (Option.some.inj h).symm, List.mem_of_getElem? e⟩
def topS (i : Nat) : Stmt := PySem.Challenge.pw_shiftrow_k14_asked_again.main.body.getD i (.Pass ⟨0, 0, 0, 0⟩)
section
variable {P : Program} {w : World} {K : PySem.W.Frag} {mg : Str → Option Value} {base : Heap}
abbrev s_gone : Stmt := topS 15
abbrev n_gone : List Str := ["sets", "tape", "state", "many", "found", "code"]
theorem sc_gone : FnScope n_gone ["sets", "tape", "state"] (defScope s_gone) := ⟨rfl, rfl, rfl, by decide +kernel, rfl, by decide +kernel, by decide +kernel⟩

def sp_gone (K : PySem.W.Frag) : Sp := fun vs H Q _ => ∃ (s t : Addr) (A B : List Nat) (cs : List Int) (st : Int), vs = [.ref s, .ref t, .int st] ∧ SetsAt K H s A B ∧ SqL K H t (il cs) ∧ B.length = A.length ∧ A.length ≤ 10 ∧ CodesOk A.length cs ∧ cs.length ≤ 1000 ∧ StOk st ∧
  RetN (.tup [.str (tx (gon A B cs st).1), .int (gon A B cs st).2]) H Q
theorem pm_gone (D : DefAt K mg "gone" s_gone) (B : Bl mg) : Pm P w K mg base CX0 1 "gone" ["sets", "tape", "state"] (sp_gone K) := by
  obtain ⟨f, fd, F, hm⟩ := D
  refine ⟨f, fd, ?_, hm, F.kp, F.binds fun _ _ _ _ _ _ us hl => match us, hl with | [_, _, _], _ => rfl⟩
  refine F.ok sc_gone (fun vs H Q E h => ?_) (fun cdv A outer s H vs Q E hr h => ?_)
  · obtain ⟨_, _, _, _, _, _, rfl, _⟩ := h
    rfl
  · obtain ⟨s, t, A', B', cs, st, rfl, hS, hT, eL, nL, hc, cl, hst, k⟩ := h
    refine ⟨_, (pss_cons (ps_set (i := 3) sc_gone.nd rfl (Or.inl rfl) (pe_callB (lenK K rfl) (by rfl) B.len PySem.boot_len (pa_cons (pe_ix (ixK K rfl) (pv 0) pe_int (fun _ _ => rfl)) pa_nil)))
 (pss_cons (ps_set (i := 4) sc_gone.nd rfl (Or.inl rfl) (pe_strT (l := []) (by decide +kernel)))
 (pss_cons (ps_for PassesOwn.never rfl (piL K rfl (pv 1)) (pg_name (i := 5) sc_gone.nd rfl (Or.inl rfl))
 (pss_cons (ps_if (pt_cmpR op_lt (pv 5) (pv 3) (nomark _))
 (pss_cons (ps_set (i := 4) sc_gone.nd rfl (Or.inl rfl) (pe_op op_addP (pv 4) (pe_ix (ixK K rfl) (pe_ix (ixK K rfl) (pv 0) (pv 2) (fun _ _ => rfl)) (pv 5) (fun _ _ => rfl))))
 pss_nil)
 (pss_cons (ps_set (i := 2) sc_gone.nd rfl (Or.inl rfl) (pe_op op_sub (pv 5) (pv 3)))
 pss_nil))
 pss_nil))
 (pss_cons (ps_ret (pe_tup (pa_cons (pv 4) (pa_cons (pv 2) pa_nil))))
 pss_nil)))), ?_⟩
    refine go_st (σ := [some (.ref s), some (.ref t), some (.int st), none, none, none]) rfl ?_
    wtm_at "r"
    refine go_forL (fun i σ F => ∃ y, σ = [some (.ref s), some (.ref t), some (.int (gon A' B' (cs.take i) st).2), some (.int (A'.length : Nat)), some (.str (tx (gon A' B' (cs.take i) st).1)), y] ∧ Ex H F) ?_
    wtm_at "r"
    refine ⟨t, il cs, rfl, hT, ⟨none, rfl, exr H⟩, fun i σ F hi ⟨_, _, e⟩ => ex_l e hT, ?_, ?_⟩
    · rintro i y σ F hy ⟨y0, rfl, e⟩
      obtain ⟨c, hcy, rfl, hmem⟩ := il_at hy
      have hcc := hc c hmem
      have hs2 := gon_st hst (hc.take i) (B := B')
      have hS2 := ex_t e hS
      have hl := gon_len A' B' st (cs.take i)
      have hl2 : (cs.take i).length ≤ cs.length := List.length_take_le' _ _
      have step := gon_take (A := A') (B := B') (st := st) hcy
      wtm_at "r"
      refine ⟨fun hlt => ?_, fun hlt => ?_⟩
      · have hlt := of_decide_eq_true hlt
        wtm_at "r"
        refine wp_ixT hS2 (at_row hs2) ?_
        wtm_at "r"
        refine wp_ixS (by rw [row_len eL]; omega) (at_sgn eL hcc.1 hlt) ?_
        refine wp_addS (j := [sgn A' B' (gon A' B' (cs.take i) st).2 c]) (by wtm_at "sz") ?_
        wtm_at "r"
        refine go_turn rfl ⟨some (.int c), ?_, e⟩
        rw [step]
        unfold gst
        rw [if_pos hlt]
        rfl
      · have hlt := of_decide_eq_false hlt
        wtm_at "r"
        refine go_turn rfl ⟨some (.int c), ?_, e⟩
        rw [step]
        unfold gst
        rw [if_neg hlt]
        rfl
    · rintro σ F ⟨y0, rfl, e⟩
      rw [List.length_map, List.take_length]
      wtm_at "r"
      refine ⟨(by show 2 ≤ 100000; decide), fun p hp => k.out (e.trans (ex_new hp)) (e.free hp) upd_same⟩

abbrev s_need_sets : Stmt := topS 10
abbrev n_need_sets : List Str := ["sets", "one", "other"]
theorem sc_need_sets : FnScope n_need_sets ["sets"] (defScope s_need_sets) := ⟨rfl, rfl, rfl, by decide +kernel, rfl, by decide +kernel, by decide +kernel⟩

def sp_need_sets (K : PySem.W.Frag) : Sp := fun vs H Q _ => ∃ (s : Addr) (A B : List Nat), vs = [.ref s] ∧ SetsAt K H s A B ∧ Good A B ∧ RetV .non H Q
theorem pm_need_sets (D : DefAt K mg "need_sets" s_need_sets) (B : Bl mg) (c_MOST_SIGNS : ∃ t, mg "MOST_SIGNS" = some (.int 10 t)) : Pm P w K mg base CX0 1 "need_sets" ["sets"] (sp_need_sets K) := by
  obtain ⟨f, fd, F, hm⟩ := D
  refine ⟨f, fd, ?_, hm, F.kp, F.binds fun _ _ _ _ _ _ us hl => match us, hl with | [_], _ => rfl⟩
  refine F.ok sc_need_sets (fun vs H Q E h => ?_) (fun cdv A outer s H vs Q E hr h => ?_)
  · obtain ⟨_, _, _, rfl, _⟩ := h
    rfl
  · obtain ⟨s, A', B', rfl, hS, g, k⟩ := h
    obtain ⟨n1, n10, eL, ndA, ndB⟩ := g
    have eA := (dd_full A').mpr ndA
    have eB := (dd_full B').mpr ndB
    refine ⟨_, (pss_cons (ps_asg (pv 0) (pgT K rfl (n := 2) rfl (pgs_cons (pg_name (i := 1) sc_need_sets.nd rfl (Or.inl rfl)) (pgs_cons (pg_name (i := 2) sc_need_sets.nd rfl (Or.inl rfl)) pgs_nil))))
 (pss_cons (ps_if (pt_not (pt_chain op_le op_le pe_int (pe_callB (lenK K rfl) (by rfl) B.len PySem.boot_len (pa_cons (pv 1) pa_nil)) (pe_cst c_MOST_SIGNS)))
 (pss_cons ps_never
 pss_nil)
 pss_nil)
 (pss_cons (ps_if (pt_cmpR (neK K rfl hr.units) (pe_lenSg rfl B.len B.set (pv 1)) (pe_callB (lenK K rfl) (by rfl) B.len PySem.boot_len (pa_cons (pv 1) pa_nil)) (nomark _))
 (pss_cons ps_never
 pss_nil)
 pss_nil)
 (pss_cons (ps_if (PW.pt (pw_or (pt_cmpR (neK K rfl hr.units) (pe_callB (lenK K rfl) (by rfl) B.len PySem.boot_len (pa_cons (pv 2) pa_nil)) (pe_callB (lenK K rfl) (by rfl) B.len PySem.boot_len (pa_cons (pv 1) pa_nil)) (nomark _)) (pw_or1 (pt_cmpR (neK K rfl hr.units) (pe_lenSg rfl B.len B.set (pv 2)) (pe_callB (lenK K rfl) (by rfl) B.len PySem.boot_len (pa_cons (pv 2) pa_nil)) (nomark _)))))
 (pss_cons ps_never
 pss_nil)
 pss_nil)
 pss_nil)))), ?_⟩
    refine go_st (σ := [some (.ref s), none, none]) rfl ?_
    wtm_at "r"
    refine bT (by wtm_at "dec") ?_
    wtm_at "r"
    refine bF (by wtm_at "dec") ?_
    wtm_at "r"
    refine wp_lenSg ?_
    wtm_at "r"
    refine ⟨by omega, ?_⟩
    wtm_at "r"
    refine bF (by wtm_at "dec") ?_
    wtm_at "r"
    refine bF (by wtm_at "dec") ?_
    wtm_at "r"
    refine wp_lenSg ?_
    wtm_at "r"
    refine ⟨by omega, ?_⟩
    wtm_at "r"
    refine bF (by wtm_at "dec") ?_
    wtm_at "r"
    exact k.out (exr H)
abbrev s_need_tape : Stmt := topS 11
abbrev n_need_tape : List Str := ["sets", "tape", "at", "code"]
theorem sc_need_tape : FnScope n_need_tape ["sets", "tape"] (defScope s_need_tape) := ⟨rfl, rfl, rfl, by decide +kernel, rfl, by decide +kernel, by decide +kernel⟩

def sp_need_tape (K : PySem.W.Frag) : Sp := fun vs H Q _ => ∃ (s t : Addr) (A B : List Nat) (cs : List Int), vs = [.ref s, .ref t] ∧ SetsAt K H s A B ∧ SqL K H t (il cs) ∧ A.length ≤ 10 ∧ CodesOk A.length cs ∧ cs.length ≤ 200 ∧ RetV .non H Q
theorem pm_need_tape (D : DefAt K mg "need_tape" s_need_tape) (B : Bl mg) (c_MOST_CODES : ∃ t, mg "MOST_CODES" = some (.int 200 t)) : Pm P w K mg base CX0 1 "need_tape" ["sets", "tape"] (sp_need_tape K) := by
  obtain ⟨f, fd, F, hm⟩ := D
  refine ⟨f, fd, ?_, hm, F.kp, F.binds fun _ _ _ _ _ _ us hl => match us, hl with | [_, _], _ => rfl⟩
  refine F.ok sc_need_tape (fun vs H Q E h => ?_) (fun cdv A outer s H vs Q E hr h => ?_)
  · obtain ⟨_, _, _, _, _, rfl, _⟩ := h
    rfl
  · obtain ⟨s, t, A', B', cs, rfl, hS, hT, nL, hc, cl, k⟩ := h
    refine ⟨_, (pss_cons (ps_for PassesOwn.never rfl (piE K rfl B.enumerate (pa_cons (pv 1) pa_nil)) (pgT K rfl (n := 2) rfl (pgs_cons (pg_name (i := 2) sc_need_tape.nd rfl (Or.inl rfl)) (pgs_cons (pg_name (i := 3) sc_need_tape.nd rfl (Or.inl rfl)) pgs_nil)))
 (pss_cons (ps_if (PW.pt (pw_or (pt_cmpR op_ge (pv 2) (pe_cst c_MOST_CODES) (nomark _)) (pw_or1 (pt_not (pt_chain op_le op_lt pe_int (pv 3) (pe_op op_addP (pe_callB (lenK K rfl) (by rfl) B.len PySem.boot_len (pa_cons (pe_ix (ixK K rfl) (pv 0) pe_int (fun _ _ => rfl)) pa_nil)) pe_int))))))
 (pss_cons ps_never
 pss_nil)
 pss_nil)
 pss_nil))
 pss_nil), ?_⟩
    refine go_st (σ := [some (.ref s), some (.ref t), none, none]) rfl ?_
    refine go_forE (fun i σ F => ∃ x y, σ = [some (.ref s), some (.ref t), x, y] ∧ Ex H F) ?_
    wtm_at "r"
    refine ⟨t, il cs, rfl, hT, ⟨none, none, rfl, exr H⟩, fun i σ F hi ⟨_, _, _, e⟩ => ex_l e hT, ?_, ?_⟩
    · rintro i y σ F p hy hp ⟨x0, y0, rfl, e⟩
      obtain ⟨c, hcy, rfl, hmem⟩ := il_at hy
      have hcc := hc c hmem
      have hi : i < cs.length := (List.getElem?_eq_some_iff.mp hcy).1
      have hS2 := ex_t (e.trans (ex_new (u := .tup [.int (i : Nat), .int c]) hp)) hS
      wtm_at "r"
      refine bF (by wtm_at "dec") ?_
      wtm_at "r"
      refine bT (by wtm_at "dec") ?_
      wtm_at "r"
      refine bF (by wtm_at "dec") ?_
      wtm_at "r"
      exact go_turn rfl ⟨_, _, rfl, e.trans (ex_new hp)⟩
    · rintro σ F ⟨_, _, rfl, e⟩
      exact k.out e
abbrev s_need_state : Stmt := topS 12
abbrev n_need_state : List Str := ["state"]
theorem sc_need_state : FnScope n_need_state ["state"] (defScope s_need_state) := ⟨rfl, rfl, rfl, by decide +kernel, rfl, by decide +kernel, by decide +kernel⟩

def sp_need_state (K : PySem.W.Frag) : Sp := fun vs H Q _ => ∃ (st : Int), vs = [.int st] ∧ StOk st ∧ RetV .non H Q
theorem pm_need_state (D : DefAt K mg "need_state" s_need_state) : Pm P w K mg base CX0 1 "need_state" ["state"] (sp_need_state K) := by
  obtain ⟨f, fd, F, hm⟩ := D
  refine ⟨f, fd, ?_, hm, F.kp, F.binds fun _ _ _ _ _ _ us hl => match us, hl with | [_], _ => rfl⟩
  refine F.ok sc_need_state (fun vs H Q E h => ?_) (fun cdv A outer s H vs Q E hr h => ?_)
  · obtain ⟨_, rfl, _⟩ := h
    rfl
  · obtain ⟨st, rfl, hst, k⟩ := h
    refine ⟨_, (pss_cons (ps_if (pt_cmpR (niK K rfl) (pv 0) (pe_tup (pa_cons pe_int (pa_cons pe_int pa_nil))) (by rfl))
 (pss_cons ps_never
 pss_nil)
 pss_nil)
 pss_nil), ?_⟩
    refine go_st (σ := [some (.int st)]) rfl ?_
    wtm_at "r"
    refine ⟨(by show 2 ≤ 100000; decide), fun p hp => ?_⟩
    refine wp_niT (SqT.of upd_same) rfl rfl ?_
    wtm_at "r"
    refine bF ?_ ?_
    · rcases hst with h | h <;> subst h <;> rfl
    wtm_at "r"
    exact k.out (ex_new hp)
abbrev s_need_all : Stmt := topS 13
abbrev n_need_all : List Str := ["sets", "tape", "state"]
theorem sc_need_all : FnScope n_need_all ["sets", "tape", "state"] (defScope s_need_all) := ⟨rfl, rfl, rfl, by decide +kernel, rfl, by decide +kernel, by decide +kernel⟩

def sp_need_all (K : PySem.W.Frag) : Sp := fun vs H Q _ => ∃ (s t : Addr) (A B : List Nat) (cs : List Int) (st : Int), vs = [.ref s, .ref t, .int st] ∧ SetsAt K H s A B ∧ SqL K H t (il cs) ∧ Good A B ∧ CodesOk A.length cs ∧ cs.length ≤ 200 ∧ StOk st ∧ RetV .non H Q
theorem wp_need_sets {o : Option Addr} {F : Hp} {Pq : V → Hp → Prop} {s : Addr} {A B : List Nat} {E : XK} (hS : SetsAt K F s A B) (g : Good A B) (q : Pq .non F) : Wp o (fun H Q => sp_need_sets K ([.ref s] ++ []) H Q E) F Pq :=
  fun H w Q k => ⟨s, A, B, rfl, w.t hS, g, RetV.use w q k⟩
theorem wp_need_tape {o : Option Addr} {F : Hp} {Pq : V → Hp → Prop} {s t : Addr} {A B : List Nat} {cs : List Int} {E : XK} (hS : SetsAt K F s A B) (hT : SqL K F t (il cs)) (g : A.length ≤ 10) (hc : CodesOk A.length cs) (cl : cs.length ≤ 200) (q : Pq .non F) :
    Wp o (fun H Q => sp_need_tape K ([.ref s, .ref t] ++ []) H Q E) F Pq := fun H w Q k => ⟨s, t, A, B, cs, rfl, w.t hS, w.l hT, g, hc, cl, RetV.use w q k⟩
theorem wp_need_state {o : Option Addr} {F : Hp} {Pq : V → Hp → Prop} {st : Int} {E : XK} (h : StOk st) (q : Pq .non F) : Wp o (fun H Q => sp_need_state K ([.int st] ++ []) H Q E) F Pq :=
  fun H w Q k => ⟨st, rfl, h, RetV.use w q k⟩
theorem wp_need_all {o : Option Addr} {F : Hp} {Pq : V → Hp → Prop} {s t : Addr} {A B : List Nat} {cs : List Int} {st : Int} {E : XK} (hS : SetsAt K F s A B) (hT : SqL K F t (il cs)) (g : Good A B) (hc : CodesOk A.length cs) (cl : cs.length ≤ 200) (h : StOk st) (q : Pq .non F) :
    Wp o (fun H Q => sp_need_all K ([.ref s, .ref t, .int st] ++ []) H Q E) F Pq := fun H w Q k => ⟨s, t, A, B, cs, st, rfl, w.t hS, w.l hT, g, hc, cl, h, RetV.use w q k⟩
theorem wp_gone {o : Option Addr} {F : Hp} {Pq : V → Hp → Prop} {s t : Addr} {A B : List Nat} {cs : List Int} {st : Int} {E : XK} (hS : SetsAt K F s A B) (hT : SqL K F t (il cs)) (eL : B.length = A.length) (nL : A.length ≤ 10) (hc : CodesOk A.length cs) (cl : cs.length ≤ 1000) (h : StOk st)
    (q : ∀ p, F p = none → Pq (.ref p) (upd F p (.tup [.str (tx (gon A B cs st).1), .int (gon A B cs st).2]))) :
    Wp o (fun H Q => sp_gone K ([.ref s, .ref t, .int st] ++ []) H Q E) F Pq := fun H w Q k => ⟨s, t, A, B, cs, st, rfl, w.t hS, w.l hT, eL, nL, hc, cl, h, RetN.use w q k⟩
theorem pm_need_all (D : DefAt K mg "need_all" s_need_all) (g_need_sets : Pm P w K mg base CX0 1 "need_sets" ["sets"] (sp_need_sets K)) (g_need_tape : Pm P w K mg base CX0 1 "need_tape" ["sets", "tape"] (sp_need_tape K))
    (g_need_state : Pm P w K mg base CX0 1 "need_state" ["state"] (sp_need_state K)) : Pm P w K mg base CX0 2 "need_all" ["sets", "tape", "state"] (sp_need_all K) := by
  obtain ⟨f, fd, F, hm⟩ := D
  refine ⟨f, fd, ?_, hm, F.kp, F.binds fun _ _ _ _ _ _ us hl => match us, hl with | [_, _, _], _ => rfl⟩
  refine F.ok sc_need_all (fun vs H Q E h => ?_) (fun cdv A outer s H vs Q E hr h => ?_)
  · obtain ⟨_, _, _, _, _, _, rfl, _⟩ := h
    rfl
  · obtain ⟨s, t, A', B', cs, st, rfl, hS, hT, g, hc, cl, hst, k⟩ := h
    refine ⟨_, (pss_cons (ps_expr (pe_pm g_need_sets (hr.mono (by decide)) pass0 (pa_cons (pv 0) pa_nil)))
 (pss_cons (ps_expr (pe_pm g_need_tape (hr.mono (by decide)) pass0 (pa_cons (pv 0) (pa_cons (pv 1) pa_nil))))
 (pss_cons (ps_expr (pe_pm g_need_state (hr.mono (by decide)) pass0 (pa_cons (pv 2) pa_nil)))
 pss_nil))), ?_⟩
    refine go_st (σ := [some (.ref s), some (.ref t), some (.int st)]) rfl ?_
    wtm_at "r"
    refine wp_need_sets hS g ?_
    wtm_at "r"
    refine wp_need_tape hS hT g.n10 hc cl ?_
    wtm_at "r"
    refine wp_need_state hst ?_
    wtm_at "r"
    exact k.out (exr H)
abbrev s_read : Stmt := topS 16
abbrev n_read : List Str := ["sets", "tape", "state"]
theorem sc_read : FnScope n_read ["sets", "tape", "state"] (defScope s_read) := ⟨rfl, rfl, rfl, by decide +kernel, rfl, by decide +kernel, by decide +kernel⟩

def sp_read (K : PySem.W.Frag) : Sp := fun vs H Q _ => ∃ (s t : Addr) (A B : List Nat) (cs : List Int) (st : Int), vs = [.ref s, .ref t, .int st] ∧ SetsAt K H s A B ∧ SqL K H t (il cs) ∧ Good A B ∧ CodesOk A.length cs ∧ cs.length ≤ 200 ∧ StOk st ∧
  RetN (.tup [.str (tx (gon A B cs st).1), .int (gon A B cs st).2]) H Q
theorem wp_read {o : Option Addr} {F : Hp} {Pq : V → Hp → Prop} {s t : Addr} {A B : List Nat} {cs : List Int} {st : Int} {E : XK} (hS : SetsAt K F s A B) (hT : SqL K F t (il cs)) (g : Good A B) (hc : CodesOk A.length cs) (cl : cs.length ≤ 200) (h : StOk st)
    (q : ∀ p, F p = none → Pq (.ref p) (upd F p (.tup [.str (tx (gon A B cs st).1), .int (gon A B cs st).2]))) :
    Wp o (fun H Q => sp_read K ([.ref s, .ref t, .int st] ++ []) H Q E) F Pq := fun H w Q k => ⟨s, t, A, B, cs, st, rfl, w.t hS, w.l hT, g, hc, cl, h, RetN.use w q k⟩
theorem pm_read (D : DefAt K mg "read" s_read) (g_need_all : Pm P w K mg base CX0 2 "need_all" ["sets", "tape", "state"] (sp_need_all K)) (g_gone : Pm P w K mg base CX0 1 "gone" ["sets", "tape", "state"] (sp_gone K)) :
    Pm P w K mg base CX0 3 "read" ["sets", "tape", "state"] (sp_read K) := by
  obtain ⟨f, fd, F, hm⟩ := D
  refine ⟨f, fd, ?_, hm, F.kp, F.binds fun _ _ _ _ _ _ us hl => match us, hl with | [_, _, _], _ => rfl⟩
  refine F.ok sc_read (fun vs H Q E h => ?_) (fun cdv A outer s H vs Q E hr h => ?_)
  · obtain ⟨_, _, _, _, _, _, rfl, _⟩ := h
    rfl
  · obtain ⟨s, t, A', B', cs, st, rfl, hS, hT, g, hc, cl, hst, k⟩ := h
    refine ⟨_, (pss_cons (ps_expr (pe_pm g_need_all (hr.mono (by decide)) pass0 (pa_cons (pv 0) (pa_cons (pv 1) (pa_cons (pv 2) pa_nil)))))
 (pss_cons (ps_ret (pe_pm g_gone (hr.mono (by decide)) pass0 (pa_cons (pv 0) (pa_cons (pv 1) (pa_cons (pv 2) pa_nil)))))
 pss_nil)), ?_⟩
    refine go_st (σ := [some (.ref s), some (.ref t), some (.int st)]) rfl ?_
    wtm_at "r"
    refine wp_need_all hS hT g hc cl hst ?_
    wtm_at "r"
    refine wp_gone hS hT g.eq g.n10 hc (by omega) hst fun p hp => ?_
    exact k.out (ex_new hp) hp upd_same
end
section
variable {P : Program} {w : World} {K : PySem.W.Frag} {mg : Str → Option Value} {base : Heap}
abbrev s_q_dice : Stmt := topS 40
abbrev n_q_dice : List Str := ["_law_script", "_law_k", "_law_found", "_law_cell"]
theorem sc_q_dice : FnScope n_q_dice ["_law_script", "_law_k"] (defScope s_q_dice) := ⟨rfl, rfl, rfl, by decide +kernel, rfl, by decide +kernel, by decide +kernel⟩

def sp_dice (K : PySem.W.Frag) : Sp := fun vs H Q _ => ∃ (a : Addr) (k : Int) (ns : List Int), vs = [.ref a, .int k] ∧ SqL K H a (il ns) ∧ ns.length ≤ 63 ∧ ∀ p H1, H p = none → Ex H H1 → Dc H1 p → Q (.ref p) H1
theorem il_take (ms : List Int) (c : Int) : il ms ++ [V.int c] = il (ms ++ [c]) := by simp
theorem pm_dice (D : DefAt K mg "_law_dice" s_q_dice) (B : Bl mg) : Pm P w K mg base CX0 1 "_law_dice" ["_law_script", "_law_k"] (sp_dice K) := by
  obtain ⟨f, fd, F, hm⟩ := D
  refine ⟨f, fd, ?_, hm, F.kp, F.binds fun _ _ _ _ _ _ us hl => match us, hl with | [_, _], _ => rfl⟩
  refine F.ok sc_q_dice (fun vs H Q E h => ?_) (fun cdv A outer s H vs Q E hr h => ?_)
  · obtain ⟨_, _, _, rfl, _⟩ := h
    rfl
  · obtain ⟨a, k0, ns, rfl, hA, hl, k⟩ := h
    refine ⟨_, (pss_cons (ps_set (i := 2) sc_q_dice.nd rfl (Or.inl rfl) (pv 1))
 (pss_cons (ps_for PassesOwn.never rfl (piL K rfl (pv 0)) (pg_name (i := 3) sc_q_dice.nd rfl (Or.inl rfl))
 (pss_cons (ps_set (i := 2) sc_q_dice.nd rfl (Or.inl rfl) (pe_op op_modN (pe_op op_addP (pe_op op_mulP (pv 2) pe_int) (pe_callB call_abs (by rfl) B.abs (by decide +kernel) (pa_cons (pv 3) pa_nil))) pe_int))
 pss_nil))
 (pss_cons (ps_ret (pe_op op_addP (pe_lst (pa_cons (pv 2) (pa_cons pe_int pa_nil))) (pe_lc (own := [("_law_cell", 3)]) (g := gName 3) rfl sc_q_dice.nd (piL K rfl (pv 0)) (blkOk_by (N := n_q_dice) (sc := defScope s_q_dice) (by decide +kernel)) (fun _ _ _ _ _ => pg_name (i := 3) sc_q_dice.nd rfl (Or.inl rfl)) (fun _ _ _ _ _ => (pts_one (pt_cmpR op_ge (pv 3) (pe_op op_pow pe_int pe_int) (nomark _)))) (fun _ _ _ _ _ => (pv 3)))))
 pss_nil))), ?_⟩
    refine go_st (σ := [some (.ref a), some (.int k0), none, none]) rfl ?_
    wtm_at "r"
    refine go_forL (fun i σ F => ∃ (x : Int) (y : Option V), σ = [some (.ref a), some (.int k0), some (.int x), y] ∧ Ex H F) ?_
    wtm_at "r"
    refine ⟨a, il ns, rfl, hA, ⟨k0, none, rfl, exr H⟩, fun i σ F hi ⟨_, _, _, e⟩ => ex_l e hA, ?_, ?_⟩
    · rintro i y σ F hy ⟨x, y0, rfl, e⟩
      obtain ⟨c, hcy, rfl, hmem⟩ := il_at hy
      wtm_at "r"
      refine wp_mulI (.inr ⟨by decide, by decide⟩) ?_
      wtm_at "r"
      refine wp_abs ?_
      wtm_at "r"
      refine wp_i (by decide) ?_
      wtm_at "r"
      exact go_turn rfl ⟨_, _, rfl, e⟩
    · rintro σ F ⟨x, y0, rfl, e⟩
      wtm_at "r"
      refine ⟨(by show 2 ≤ 100000; decide), fun p hp => ?_⟩
      refine wp_lcL (fun _ => rfl) ?_
      wtm_at "r"
      refine ⟨a, il ns, rfl, ex_l (e.trans (ex_new hp)) hA, fun Dl hD => ?_⟩
      have npd := fr_ne hD
      refine ⟨fun i acc F2 => ∃ ms : List Int, acc = il ms ∧ ms.length ≤ i ∧ Ex H F2 ∧ F2 p = some (.lst [.int x, .int 0]), ⟨[], rfl, Nat.le_refl _, (e.trans (ex_new hp)).trans (ex_new hD), by wtm_at "at"⟩, fun i acc F2 ⟨_, _, _, e2, _⟩ => ex_l e2 hA, ?_, ?_⟩
      · rintro i y acc F2 hy q2 ⟨ms, rfl, hms, e2, hp2⟩
        obtain ⟨c, hcy, rfl, hmem⟩ := il_at hy
        have hi : i < ns.length := (List.getElem?_eq_some_iff.mp hcy).1
        show Wp _ _ _ _
        wtm_at "r"
        refine wp_i ⟨by decide, by decide, by decide⟩ ?_
        wtm_at "r"
        refine ⟨fun _ => ?_, fun _ => ⟨q2, ms, rfl, by omega, e2, hp2⟩⟩
        wtm_at "r"
        have hDH : H Dl = none := (e.trans (ex_new hp)).free hD
        refine ⟨q2, by rw [List.length_map]; omega, ms ++ [c], il_take ms c, by rw [List.length_append, List.length_singleton]; omega, ex_mut e2 hDH, ?_⟩
        rw [upd_ne npd.symm]
        exact hp2
      · rintro acc F2 q2 ⟨ms, rfl, hms, e2, hp2⟩
        rw [List.length_map] at hms
        refine wp_addL hp2 q2 (by rw [List.length_map]; show 2 + _ ≤ _; omega) fun r hr2 => ?_
        intro H3 w3
        refine k r H3 (e2.free hr2) (e2.trans ((ex_new hr2).trans w3.ex)) ⟨x :: 0 :: ms, ?_, ?_, ?_⟩
        · exact w3.ex _ _ upd_same
        · simp
        · simp only [List.length_cons]; omega
abbrev s_q_off : Stmt := topS 41
abbrev n_q_off : List Str := ["_law_d", "_law_most", "_law_found"]
theorem sc_q_off : FnScope n_q_off ["_law_d", "_law_most"] (defScope s_q_off) := ⟨rfl, rfl, rfl, by decide +kernel, rfl, by decide +kernel, by decide +kernel⟩

def sp_off : Sp := fun vs H Q _ => ∃ (d : Addr) (m : Int), vs = [.ref d, .int m] ∧ 0 < m ∧ m < 1000000 ∧ Dc H d ∧ ∀ (r : Nat) (H1 : Hp), (r : Int) < m → Ex (rm H d) H1 → Dc H1 d → Q (.int (r : Int)) H1
theorem wp_off {d : Addr} {F : Hp} {Pq : V → Hp → Prop} {m : Int} {E : XK} (h0 : 0 < m) (h1 : m < 1000000) (q : ∀ r : Nat, (r : Int) < m → Pq (.int (r : Int)) F) : Wp (some d) (fun H Q => sp_off ([.ref d, .int m] ++ []) H Q E) F Pq := fun H w Q k =>
  ⟨d, m, rfl, h0, h1, (w.dc d rfl).2, fun r H1 hr e hu => k _ _ F ⟨(ex_to_rm w.ex (w.dc d rfl).1).trans e, fun b z => by cases z; exact ⟨(w.dc d rfl).1, hu⟩⟩ (q r hr)⟩
theorem fmod_nat {x m : Int} (h : 0 < m) : ∃ r : Nat, Int.fmod x m = (r : Int) ∧ (r : Int) < m := by
  refine ⟨(x % m).toNat, ?_, ?_⟩
  · rw [Int.fmod_eq_emod_of_nonneg _ (by omega)]
    have := Int.emod_nonneg x (show m ≠ 0 by omega)
    omega
  · have h1 := Int.emod_lt_of_pos x h
    have h2 := Int.emod_nonneg x (show m ≠ 0 by omega)
    omega
theorem pm_off (D : DefAt K mg "_law_off" s_q_off) (B : Bl mg) : Pm P w K mg base CX0 1 "_law_off" ["_law_d", "_law_most"] sp_off := by
  obtain ⟨f, fd, F, hm⟩ := D
  refine ⟨f, fd, ?_, hm, F.kp, F.binds fun _ _ _ _ _ _ us hl => match us, hl with | [_, _], _ => rfl⟩
  refine F.ok sc_q_off (fun vs H Q E h => ?_) (fun cdv A outer s H vs Q E hr h => ?_)
  · obtain ⟨_, _, rfl, _⟩ := h
    rfl
  · obtain ⟨d, m, rfl, m0, m1, hd, k⟩ := h
    obtain ⟨ns, hd, l2, l70⟩ := hd
    obtain ⟨n0, n1, ns, rfl⟩ : ∃ n0 n1 r, ns = n0 :: n1 :: r := by
      match ns, l2 with
      | a :: b :: r, _ => exact ⟨a, b, r, rfl⟩
    refine ⟨_, (Evl.pss_cut (ps_if (PW.pt (pw_and (pt_cmpR (eqK K rfl hr.units) (pe_ix (ixK K rfl) (pv 0) pe_int (fun _ _ => rfl)) pe_int (nomark _)) (pw_and1 (pt_cmpR op_gt (pe_callB (lenK K rfl) (by rfl) B.len PySem.boot_len (pa_cons (pv 0) pa_nil)) pe_int (nomark _)))))
 (pss_cons (ps_asg (bmK K rfl PySem.F.plainAttrs_list PySem.F.slot_list_pop PySem.F.type_list_pop mt_popAt (pv 0) (pa_cons pe_int pa_nil)) (pg_sub (pv 0) pe_int set_list))
 pss_nil)
 pss_nil)
 (pss_cons (ps_if (pt_cmpR op_gt (pe_ix (ixK K rfl) (pv 0) pe_int (fun _ _ => rfl)) pe_int (nomark _))
 (pss_cons (ps_set (i := 2) sc_q_off.nd rfl (Or.inl rfl) (pe_op op_modN (pe_ix (ixK K rfl) (pv 0) pe_int (fun _ _ => rfl)) (pv 1)))
 (pss_cons (ps_asg (pe_op op_fdivN (pe_ix (ixK K rfl) (pv 0) pe_int (fun _ _ => rfl)) (pv 1)) (pg_sub (pv 0) pe_int set_list))
 (pss_cons (ps_ret (pv 2))
 pss_nil)))
 pss_nil)
 (pss_cons (ps_asg (pe_op op_modN (pe_op op_addP (pe_op op_mulP (pe_ix (ixK K rfl) (pv 0) pe_int (fun _ _ => rfl)) pe_int) pe_int) pe_int) (pg_sub (pv 0) pe_int set_list))
 (pss_cons (ps_ret (pe_op op_modN (pe_op op_fdivN (pe_ix (ixK K rfl) (pv 0) pe_int (fun _ _ => rfl)) pe_int) (pv 1)))
 pss_nil)))), ?_⟩
    refine go_st (σ := [some (.ref d), some (.int m), none]) rfl ?_
    refine go_cut (fun σ F => ∃ n0 n1 ns, σ = [some (.ref d), some (.int m), none] ∧ F = upd H d (.lst (il (n0 :: n1 :: ns))) ∧ ns.length ≤ 68) ?_ ?_
    · wtm_at "r"
      have fin : ∀ F1, F1 = H → Go none tNext { nx := Cl none fun σ F => ∃ n0 n1 ns, σ = [some (.ref d), some (.int m), none] ∧ F = upd H d (.lst (il (n0 :: n1 :: ns))) ∧ ns.length ≤ 68, rt := Q } [some (.ref d), some (.int m), none] F1 := by
        rintro F1 rfl
        refine go_turn rfl ⟨n0, n1, ns, rfl, ?_, by simp only [List.length_cons] at l70; omega⟩
        funext b
        by_cases e : b = d
        · subst e; rw [upd_same]; exact hd
        · rw [upd_ne e]
      refine wp_ixL (SqL.of hd) (atNat (by decide) rfl) ?_
      wtm_at "r"
      refine ⟨fun _ => ?_, fun _ => bF rfl (fin _ rfl)⟩
      wtm_at "r"
      refine ⟨fun h2 => ?_, fun _ => fin _ rfl⟩
      have h2 := of_decide_eq_true h2
      obtain ⟨n2, ns, rfl⟩ : ∃ n2 r, ns = n2 :: r := by
        match ns, h2 with
        | [], h2 => simp at h2
        | a :: r, _ => exact ⟨a, r, rfl⟩
      wtm_at "r"
      refine wp_bmL ?_
      wtm_at "r"
      refine ⟨d, _, rfl, SqL.of hd, ?_⟩
      wtm_at "r"
      refine wp_popAt (j := 2) (y := .int n2) hd (by simp only [List.length_map]; omega) rfl ?_
      refine wp_gSetL ?_
      wtm_at "r"
      refine ⟨d, _, 1, 1, rfl, rfl, upd_same, ?_, ?_⟩
      · exact ixN_nat (j := 1) (by simp)
      · refine go_turn rfl ⟨n0, n2, ns, rfl, ?_, by simp only [List.length_cons] at l70; omega⟩
        rw [upd_upd]
        rfl
    · rintro σ F ⟨n0, n1, ns, rfl, rfl, hl⟩
      have kk : ∀ (r : Nat) (a b : Int) (F1 : Hp), (r : Int) < m → F1 = upd H d (.lst (il (a :: b :: ns))) → ∀ H1, Wd none F1 H1 → Q (.int (r : Int)) H1 := by
        rintro r a b F1 hr rfl H1 w1
        refine k r H1 hr (fun c u e => ?_) ⟨a :: b :: ns, w1.ex _ _ upd_same, by simp, by simp only [List.length_cons]; omega⟩
        have nd : c ≠ d := fun z => by rw [z, rm_same] at e; cases e
        rw [rm_ne nd] at e
        refine w1.ex _ _ ?_
        rw [upd_ne nd]
        exact e
      obtain ⟨r1, e1, l1⟩ := fmod_nat (x := n1) m0
      wtm_at "r"
      refine wp_ixL (SqL.of upd_same) (atNat (by decide) rfl) ?_
      wtm_at "r"
      refine ⟨fun _ => ?_, fun _ => ?_⟩
      · wtm_at "r"
        refine wp_ixL (SqL.of upd_same) (atNat (by decide) rfl) ?_
        wtm_at "r"
        refine wp_i (by omega) ?_
        wtm_at "r"
        refine wp_ixL (SqL.of upd_same) (atNat (by decide) rfl) ?_
        wtm_at "r"
        refine wp_i ⟨by omega, by omega⟩ ?_
        refine wp_gSetL ?_
        wtm_at "r"
        refine ⟨d, _, 1, 1, rfl, rfl, upd_same, ixN_nat (j := 1) (by simp), ?_⟩
        wtm_at "r"
        rw [e1]
        exact kk r1 n0 (n1.fdiv m) _ l1 (by rw [upd_upd]; rfl)
      · wtm_at "r"
        refine wp_ixL (SqL.of upd_same) (atNat (by decide) rfl) ?_
        wtm_at "r"
        refine wp_mulI (.inr ⟨by decide, by decide⟩) ?_
        wtm_at "r"
        refine wp_i (by decide) ?_
        refine wp_gSetL ?_
        wtm_at "r"
        refine ⟨d, _, 0, 0, rfl, rfl, upd_same, ixN_nat (j := 0) (by simp), ?_⟩
        wtm_at "r"
        refine wp_ixL (SqL.of upd_same) (atNat (by decide) rfl) ?_
        wtm_at "r"
        refine wp_i ⟨by decide, by decide⟩ ?_
        wtm_at "r"
        refine wp_i (by omega) ?_
        obtain ⟨r2, e2, l2⟩ := fmod_nat (x := Int.fdiv (Int.fmod (n0 * 48271 + 11) 2147483647) 64) m0
        rw [e2]
        exact kk r2 (Int.fmod (n0 * 48271 + 11) 2147483647) n1 _ l2 (by rw [upd_upd]; rfl)
end
section
variable {P : Program} {w : World} {K : PySem.W.Frag} {mg : Str → Option Value} {base : Heap}
theorem map_erase {α β : Type} (f : α → β) : ∀ (l : List α) (i : Nat), (l.map f).eraseIdx i = (l.eraseIdx i).map f
  | [], _ => rfl
  | _ :: _, 0 => rfl
  | a :: r, i + 1 => by
    show f a :: (r.map f).eraseIdx i = f a :: (r.eraseIdx i).map f
    rw [map_erase f r i]
theorem perm_erase {α : Type} : ∀ {l : List α} {i : Nat} (h : i < l.length), (l[i] :: l.eraseIdx i).Perm l
  | a :: r, 0, _ => List.Perm.refl _
  | a :: r, i + 1, h => by
    have h2 : i < r.length := by simpa using h
    exact (List.Perm.swap a r[i] _).trans ((perm_erase h2).cons a)
abbrev s_q_mixed : Stmt := topS 43
abbrev n_q_mixed : List Str := ["_law_d", "_law_row", "_law_left", "_law_found"]
theorem sc_q_mixed : FnScope n_q_mixed ["_law_d", "_law_row"] (defScope s_q_mixed) := ⟨rfl, rfl, rfl, by decide +kernel, rfl, by decide +kernel, by decide +kernel⟩

def permOf (l : List Nat) (u : HO) : Prop := ∃ l1 : List Nat, l1.Perm l ∧ u = .lst (l1.map sg)
def sp_mixed (K : PySem.W.Frag) : Sp := fun vs H Q _ => ∃ (d r : Addr) (l : List Nat), vs = [.ref d, .ref r] ∧ Dc H d ∧ SqL K (rm H d) r (l.map sg) ∧ l.length ≤ 1000 ∧ (∀ c ∈ l, c < 128) ∧ RetND d (permOf l) H Q
theorem wp_mixed {d r : Addr} {F : Hp} {Pq : V → Hp → Prop} {l : List Nat} {E : XK} (h : SqL K F r (l.map sg)) (hl : l.length ≤ 1000) (hc : ∀ c ∈ l, c < 128) (q : ∀ (p : Addr) (l1 : List Nat), F p = none → l1.Perm l → Pq (.ref p) (upd F p (.lst (l1.map sg)))) :
    Wp (some d) (fun H Q => sp_mixed K ([.ref d, .ref r] ++ []) H Q E) F Pq := fun H w Q k =>
  ⟨d, r, l, rfl, (w.dc d rfl).2, ex_l (ex_to_rm w.ex (w.dc d rfl).1) h, hl, hc, RetND.use w (fun p u n ⟨l1, hp, e⟩ => by subst e; exact q p l1 n hp) k⟩
theorem pm_mixed (D : DefAt K mg "_law_mixed" s_q_mixed) (B : Bl mg) (g_q_off : Pm P w K mg base CX0 1 "_law_off" ["_law_d", "_law_most"] sp_off) : Pm P w K mg base CX0 2 "_law_mixed" ["_law_d", "_law_row"] (sp_mixed K) := by
  obtain ⟨f, fd, F, hm⟩ := D
  refine ⟨f, fd, ?_, hm, F.kp, F.binds fun _ _ _ _ _ _ us hl => match us, hl with | [_, _], _ => rfl⟩
  refine F.ok sc_q_mixed (fun vs H Q E h => ?_) (fun cdv A outer s H vs Q E hr h => ?_)
  · obtain ⟨_, _, _, rfl, _⟩ := h
    rfl
  · obtain ⟨d, r, l, rfl, hd, hR, hl, hc, k⟩ := h
    refine ⟨_, (pss_cons (ps_set (i := 2) sc_q_mixed.nd rfl (Or.inl rfl) (pe_callTy (listK K rfl rfl) (by rfl) B.list (by decide +kernel) (pa_cons (pv 1) pa_nil)))
 (pss_cons (ps_set (i := 3) sc_q_mixed.nd rfl (Or.inl rfl) (pe_lst pa_nil))
 (pss_cons (ps_while PassesOwn.never (pt_cmpR (neK K rfl hr.units) (pv 2) (pe_lst pa_nil) (nomark _))
 (pss_cons (ps_expr (bmK K rfl PySem.F.plainAttrs_list PySem.F.slot_list_append PySem.F.type_list_append mt_append (pv 3) (pa_cons (bmK K rfl PySem.F.plainAttrs_list PySem.F.slot_list_pop PySem.F.type_list_pop mt_popAt (pv 2) (pa_cons (pe_pm g_q_off (hr.mono (by decide)) pass0 (pa_cons (pv 0) (pa_cons (pe_callB (lenK K rfl) (by rfl) B.len PySem.boot_len (pa_cons (pv 2) pa_nil)) pa_nil))) pa_nil)) pa_nil)))
 pss_nil))
 (pss_cons (ps_ret (pv 3))
 pss_nil)))), ?_⟩
    refine go_stD (σ := [some (.ref d), some (.ref r), none, none]) hd rfl ?_
    wtm_at "r"
    refine wp_listL hR fun p hp => ?_
    wtm_at "r"
    refine ⟨Nat.zero_le _, fun q hq => ?_⟩
    wtm_at "r"
    have npq := fr_ne hq
    refine go_while (fun m σ F => ∃ la lf : List Nat, σ = [some (.ref d), some (.ref r), some (.ref p), some (.ref q)] ∧ Ex (rm H d) F ∧ F p = some (.lst (la.map sg)) ∧ F q = some (.lst (lf.map sg)) ∧ (la ++ lf).Perm l ∧ m = la.length)
      l.length ⟨l, [], rfl, (ex_new hp).trans (ex_new hq), by wtm_at "at", upd_same, by rw [List.append_nil], rfl⟩ ?_
    rintro m σ F ⟨la, lf, rfl, e, h1, h2, pe, rfl⟩
    have lsum : la.length + lf.length = l.length := by rw [← List.length_append]; exact pe.length_eq
    wtm_at "r"
    refine ⟨Nat.zero_le _, fun z hz => ?_⟩
    refine wp_neS0 (SqL.of (at_ne h1 hz)) (SqL.of upd_same) (fun c h => hc c (pe.mem_iff.mp (List.mem_append_left _ h))) ?_
    wtm_at "r"
    refine ⟨fun hne => ?_, fun heq => ?_⟩
    · have hne : la ≠ [] := by simpa using hne
      have hpos : 0 < la.length := List.length_pos_iff.mpr hne
      wtm_at "r"
      refine wp_bmL ?_
      wtm_at "r"
      refine ⟨q, _, rfl, SqL.of (at_ne h2 hz), ?_⟩
      wtm_at "r"
      refine wp_bmL ?_
      wtm_at "r"
      refine ⟨p, _, rfl, SqL.of (at_ne h1 hz), ?_⟩
      wtm_at "r"
      rw [List.length_map]
      refine wp_off (by omega) (by omega) fun i hi => ?_
      have hi : i < la.length := by omega
      wtm_at "r"
      refine wp_popAt (y := sg la[i]) (at_ne h1 hz) (by rw [List.length_map]; omega) (by rw [List.getElem?_map, List.getElem?_eq_getElem hi]; rfl) ?_
      wtm_at "r"
      refine wp_append (xs := lf.map sg) (by rw [upd_ne npq]; exact at_ne h2 hz) (by rw [List.length_map]; omega) ?_
      wtm_at "r"
      have rp : rm H d p = none := hp
      have rq : rm H d q = none := (ex_new hp).free hq
      refine go_turn rfl ⟨(la.eraseIdx i).length, by rw [List.length_eraseIdx, if_pos hi]; omega, la.eraseIdx i, lf ++ [la[i]], rfl, ex_mut (ex_mut (e.trans (ex_new hz)) rp) rq, ?_, ?_, ?_, rfl⟩
      · rw [upd_ne npq.symm, upd_same, map_erase]
      · rw [upd_same, List.map_append]; rfl
      · refine List.Perm.trans ?_ pe
        refine List.Perm.trans (List.perm_append_comm_assoc _ _ _) ?_
        refine List.Perm.trans (List.Perm.append_left lf ?_) List.perm_append_comm
        refine List.Perm.trans List.perm_append_comm ?_
        exact perm_erase hi
    · have heq : la = [] := by simpa using heq
      subst heq
      wtm_at "r"
      rw [List.nil_append] at pe
      refine RetND.out k (e.trans (ex_new hz)) ((ex_new hp).free hq) (u := .lst (lf.map sg)) (at_ne h2 hz) ⟨lf, pe, rfl⟩
abbrev s_q_tape : Stmt := topS 46
abbrev n_q_tape : List Str := ["_law_d", "_law_sets_here", "_law_most", "_law_often", "_law_found", "_law_k", "_law_code"]
theorem sc_q_tape : FnScope n_q_tape ["_law_d", "_law_sets_here", "_law_most"] (defScope s_q_tape) := ⟨rfl, rfl, rfl, by decide +kernel, rfl, by decide +kernel, by decide +kernel⟩

def tapeOf (n most : Nat) (u : HO) : Prop := ∃ cs : List Int, CodesOk n cs ∧ cs.length ≤ most ∧ u = .lst (il cs)
def sp_tape (K : PySem.W.Frag) : Sp := fun vs H Q _ => ∃ (d s : Addr) (A B : List Nat) (most : Nat), vs = [.ref d, .ref s, .int (most : Int)] ∧ Dc H d ∧ SetsAt K (rm H d) s A B ∧ 1 ≤ A.length ∧ A.length ≤ 10 ∧ most ≤ 1000 ∧ RetND d (tapeOf A.length most) H Q
theorem wp_tape {d s : Addr} {F : Hp} {Pq : V → Hp → Prop} {A B : List Nat} {most : Nat} {E : XK} (h : SetsAt K F s A B) (h1 : 1 ≤ A.length) (h2 : A.length ≤ 10) (hm : most ≤ 1000)
    (q : ∀ (p : Addr) (cs : List Int), F p = none → CodesOk A.length cs → cs.length ≤ most → Pq (.ref p) (upd F p (.lst (il cs)))) :
    Wp (some d) (fun H Q => sp_tape K ([.ref d, .ref s, .int (most : Int)] ++ []) H Q E) F Pq := fun H w Q k =>
  ⟨d, s, A, B, most, rfl, (w.dc d rfl).2, ex_t (ex_to_rm w.ex (w.dc d rfl).1) h, h1, h2, hm, RetND.use w (fun p u n ⟨cs, hc, hl, e⟩ => by subst e; exact q p cs n hc hl) k⟩
theorem pm_tape (D : DefAt K mg "_law_tape" s_q_tape) (B : Bl mg) (g_q_off : Pm P w K mg base CX0 1 "_law_off" ["_law_d", "_law_most"] sp_off) : Pm P w K mg base CX0 2 "_law_tape" ["_law_d", "_law_sets_here", "_law_most"] (sp_tape K) := by
  obtain ⟨f, fd, F, hm⟩ := D
  refine ⟨f, fd, ?_, hm, F.kp, F.binds fun _ _ _ _ _ _ us hl => match us, hl with | [_, _, _], _ => rfl⟩
  refine F.ok sc_q_tape (fun vs H Q E h => ?_) (fun cdv A outer s H vs Q E hr h => ?_)
  · obtain ⟨_, _, _, _, _, rfl, _⟩ := h
    rfl
  · obtain ⟨d, s, A', B', most, rfl, hd, hS, n1, n10, hm, k⟩ := h
    refine ⟨_, (pss_cons (ps_set (i := 3) sc_q_tape.nd rfl (Or.inl rfl) (pe_op op_addP pe_int (pe_pm g_q_off (hr.mono (by decide)) pass0 (pa_cons (pv 0) (pa_cons pe_int pa_nil)))))
 (pss_cons (ps_set (i := 4) sc_q_tape.nd rfl (Or.inl rfl) (pe_lst pa_nil))
 (pss_cons (ps_for PassesOwn.never rfl (pi_range1 (by rfl) B.range (pa_cons (pe_pm g_q_off (hr.mono (by decide)) pass0 (pa_cons (pv 0) (pa_cons (pe_op op_addP (pv 2) pe_int) pa_nil))) pa_nil)) (pg_name (i := 5) sc_q_tape.nd rfl (Or.inl rfl))
 (pss_cons (ps_set (i := 6) sc_q_tape.nd rfl (Or.inl rfl) (pe_pm g_q_off (hr.mono (by decide)) pass0 (pa_cons (pv 0) (pa_cons (pe_callB (lenK K rfl) (by rfl) B.len PySem.boot_len (pa_cons (pe_ix (ixK K rfl) (pv 1) pe_int (fun _ _ => rfl)) pa_nil)) pa_nil))))
 (Evl.pss_cut (ps_if (pt_cmpR (eqK K rfl hr.units) (pe_pm g_q_off (hr.mono (by decide)) pass0 (pa_cons (pv 0) (pa_cons (pv 3) pa_nil))) pe_int (nomark _))
 (pss_cons (ps_set (i := 6) sc_q_tape.nd rfl (Or.inl rfl) (pe_op op_addP (pe_callB (lenK K rfl) (by rfl) B.len PySem.boot_len (pa_cons (pe_ix (ixK K rfl) (pv 1) pe_int (fun _ _ => rfl)) pa_nil)) (pe_pm g_q_off (hr.mono (by decide)) pass0 (pa_cons (pv 0) (pa_cons pe_int pa_nil)))))
 pss_nil)
 pss_nil)
 (pss_cons (ps_expr (bmK K rfl PySem.F.plainAttrs_list PySem.F.slot_list_append PySem.F.type_list_append mt_append (pv 4) (pa_cons (pv 6) pa_nil)))
 pss_nil))))
 (pss_cons (ps_ret (pv 4))
 pss_nil)))), ?_⟩
    refine go_stD (σ := [some (.ref d), some (.ref s), some (.int (most : Int)), none, none, none, none]) hd rfl ?_
    wtm_at "r"
    refine wp_off (by omega) (by omega) fun r0 hr0 => ?_
    wtm_at "r"
    refine ⟨Nat.zero_le _, fun q hq => ?_⟩
    wtm_at "r"
    refine go_forR (fun i σ F => ∃ (cs : List Int) (x y : Option V), σ = [some (.ref d), some (.ref s), some (.int (most : Int)), some (.int (2 + (r0 : Int))), some (.ref q), x, y] ∧ Ex (rm H d) F ∧ F q = some (.lst (il cs)) ∧ CodesOk A'.length cs ∧ cs.length ≤ i) ?_
    wtm_at "r"
    refine wp_off (by omega) (by omega) fun n hn => ?_
    wtm_at "r"
    refine ⟨n, rfl, by omega, ⟨[], none, none, rfl, ex_new hq, upd_same, (fun c h => by cases h), Nat.le_refl _⟩, ?_, ?_⟩
    · rintro i σ F hi ⟨cs, x, y, rfl, e, hf, hc, hl⟩
      have hS2 := ex_t e hS
      wtm_at "r"
      refine wp_off (by omega) (by omega) fun c hc1 => ?_
      wtm_at "r"
      refine go_cut (fun σ F => ∃ c2 : Int, (0 ≤ c2 ∧ c2 < (A'.length : Int) + 2) ∧ σ = [some (.ref d), some (.ref s), some (.int (most : Int)), some (.int (2 + (r0 : Int))), some (.ref q), some (.int (i : Int)), some (.int c2)] ∧ Ex (rm H d) F ∧ F q = some (.lst (il cs))) ?_ ?_
      · wtm_at "r"
        refine wp_off (by omega) (by omega) fun r1 _ => ?_
        wtm_at "r"
        refine ⟨fun _ => ?_, fun _ => ?_⟩
        · wtm_at "r"
          refine wp_off (by omega) (by omega) fun r2 h2 => ?_
          wtm_at "r"
          exact go_turn rfl ⟨(A'.length : Int) + (r2 : Int), ⟨by omega, by omega⟩, rfl, e, hf⟩
        · exact go_turn rfl ⟨(c : Int), ⟨by omega, by omega⟩, rfl, e, hf⟩
      · rintro σ F ⟨c2, hc2, rfl, e, hf⟩
        wtm_at "r"
        refine wp_bmL ?_
        wtm_at "r"
        refine ⟨q, _, rfl, SqL.of hf, ?_⟩
        wtm_at "r"
        refine wp_append hf (by rw [List.length_map]; omega) ?_
        wtm_at "r"
        refine go_turn rfl ⟨cs ++ [c2], _, _, rfl, ex_mut e hq, ?_, hc.app fun z hz => ?_, by rw [List.length_append, List.length_singleton]; omega⟩
        · rw [upd_same, il_take]
        · rw [List.mem_singleton.mp hz]; exact hc2
    · rintro σ F ⟨cs, x, y, rfl, e, hf, hc, hl⟩
      wtm_at "r"
      exact RetND.out k e hq hf ⟨cs, hc, by omega, rfl⟩
end
section
variable {P : Program} {w : World} {K : PySem.W.Frag} {mg : Str → Option Value} {base : Heap}
theorem cutV_take (xs : List V) (n : Nat) : cutV xs none (some (n : Int)) = xs.take n := by
  unfold cutV
  rw [HT.sIx_nat, HT.sIx_none, List.drop_zero, Nat.sub_zero]
  by_cases h : n ≤ xs.length
  · rw [Nat.min_eq_left h]
  · rw [Nat.min_eq_right (by omega), List.take_length, List.take_of_length_le (by omega)]
theorem cutV_drop (xs : List V) (n : Nat) : cutV xs (some (n : Int)) none = xs.drop n := by
  unfold cutV
  rw [HT.sIx_nat, HT.sIx_none]
  by_cases h : n ≤ xs.length
  · rw [Nat.min_eq_left h, List.take_of_length_le (by rw [List.length_drop]; omega)]
  · rw [Nat.min_eq_right (by omega), List.drop_of_length_le (by omega), List.drop_of_length_le (by omega)]
    simp
theorem cutN_take (xs : List Nat) (n : Nat) : cutN xs none (some (n : Int)) = xs.take n := by
  unfold cutN
  rw [HT.sIx_nat, HT.sIx_none, List.drop_zero, Nat.sub_zero]
  by_cases h : n ≤ xs.length
  · rw [Nat.min_eq_left h]
  · rw [Nat.min_eq_right (by omega), List.take_length, List.take_of_length_le (by omega)]
theorem cutN_drop (xs : List Nat) (n : Nat) : cutN xs (some (n : Int)) none = xs.drop n := by
  unfold cutN
  rw [HT.sIx_nat, HT.sIx_none]
  by_cases h : n ≤ xs.length
  · rw [Nat.min_eq_left h, List.take_of_length_le (by rw [List.length_drop]; omega)]
  · rw [Nat.min_eq_right (by omega), List.drop_of_length_le (by omega), List.drop_of_length_le (by omega)]
    simp
theorem nd_sub_len : ∀ {l m : List Nat}, l.Nodup → (∀ x ∈ l, x ∈ m) → l.length ≤ m.length
  | [], _, _, _ => Nat.zero_le _
  | a :: r, m, h, hs => by
    obtain ⟨h1, h2⟩ := List.nodup_cons.mp h
    have hm : a ∈ m := hs a List.mem_cons_self
    have ih : r.length ≤ (m.erase a).length := nd_sub_len h2 fun x hx => by
      have ne : x ≠ a := fun e => h1 (e ▸ hx)
      exact (List.mem_erase_of_ne ne).mpr (hs x (List.mem_cons_of_mem _ hx))
    rw [List.length_erase_of_mem hm] at ih
    have : 0 < m.length := List.length_pos_of_mem hm
    simp only [List.length_cons]
    omega
theorem ex_out {l m : List Nat} (h : l.Nodup) (hl : m.length < l.length) : l.filter (fun x => !decide (x ∈ m)) ≠ [] := fun e => by
  have : l.length ≤ m.length := nd_sub_len h fun x hx => by
    by_cases hm : x ∈ m
    · exact hm
    · have : x ∈ l.filter (fun x => !decide (x ∈ m)) := List.mem_filter.mpr ⟨hx, by simp [hm]⟩
      rw [e] at this
      cases this
  omega
/-- 22 signs, each once -/
def Pool (l : List Nat) : Prop := l.length = 22 ∧ l.Nodup ∧ ∀ c ∈ l, c < 128
theorem snoc_nd {l : List Nat} {c : Nat} (h : l.Nodup) (n : c ∉ l) : (l ++ [c]).Nodup := L2.nd_snoc h n
def Asc (l : List Nat) : Prop := ∀ c ∈ l, c < 128
def every : List Nat := [32, 33, 35, 36, 38, 39, 40, 41, 42, 43, 44, 45, 46, 47, 48, 49, 50, 51, 52, 53, 54, 55, 56, 57, 58, 59, 60, 61, 62, 63, 64, 65, 66, 67, 68, 69, 70, 71, 72, 73, 74, 75, 76, 77, 78, 79, 80, 81, 82, 83, 84, 85, 86, 87, 88, 89, 90, 91, 93, 94, 95, 96, 97, 98, 99, 100, 101, 102, 103, 104, 105, 106, 107, 108, 109, 110, 111, 112, 113, 114, 115, 116, 117, 118, 119, 120, 121, 122, 123, 124, 125, 126]
def setsOf (u : HO) : Prop := ∃ A B : List Nat, Good A B ∧ Asc A ∧ Asc B ∧ u = .tup [.str (tx A), .str (tx B)]
abbrev s_q_sets : Stmt := topS 44
abbrev n_q_sets : List Str := ["_law_d", "_law_many", "_law_signs", "_law_every", "_law_turn", "_law_one", "_law_often", "_law_other", "_law_left", "_law_k", "_law_some", "_law_sign"]
theorem sc_q_sets : FnScope n_q_sets ["_law_d"] (defScope s_q_sets) := ⟨rfl, rfl, rfl, by decide +kernel, rfl, by decide +kernel, by decide +kernel⟩

def sp_sets (K : PySem.W.Frag) : Sp := fun vs H Q _ => ∃ (d : Addr), vs = [.ref d] ∧ Dc H d ∧ RetND d setsOf H Q
theorem wp_sets {d : Addr} {F : Hp} {Pq : V → Hp → Prop} {E : XK} (q : ∀ (p : Addr) (A B : List Nat), F p = none → Good A B → Asc A → Asc B → Pq (.ref p) (upd F p (.tup [.str (tx A), .str (tx B)]))) :
    Wp (some d) (fun H Q => sp_sets K ([.ref d] ++ []) H Q E) F Pq := fun H w Q k =>
  ⟨d, rfl, (w.dc d rfl).2, RetND.use w (fun p u n ⟨A, B, hg, ha, hb, e⟩ => by subst e; exact q p A B n hg ha hb) k⟩
theorem pm_sets (D : DefAt K mg "_law_sets" s_q_sets) (B : Bl mg) (g_q_off : Pm P w K mg base CX0 1 "_law_off" ["_law_d", "_law_most"] sp_off) (g_q_mixed : Pm P w K mg base CX0 2 "_law_mixed" ["_law_d", "_law_row"] (sp_mixed K)) :
    Pm P w K mg base CX0 3 "_law_sets" ["_law_d"] (sp_sets K) := by
  obtain ⟨f, fd, F, hm⟩ := D
  refine ⟨f, fd, ?_, hm, F.kp, F.binds fun _ _ _ _ _ _ us hl => match us, hl with | [_], _ => rfl⟩
  refine F.ok sc_q_sets (fun vs H Q E h => ?_) (fun cdv A outer s H vs Q E hr h => ?_)
  · obtain ⟨_, rfl, _⟩ := h
    rfl
  · obtain ⟨d, rfl, hd, k⟩ := h
    refine ⟨_, (pss_cons (ps_set (i := 1) sc_q_sets.nd rfl (Or.inl rfl) (pe_ix (ixK K rfl) (pe_lst (pa_cons pe_int (pa_cons pe_int (pa_cons pe_int (pa_cons (pe_op op_addP pe_int (pe_pm g_q_off (hr.mono (by decide)) pass0 (pa_cons (pv 0) (pa_cons pe_int pa_nil)))) pa_nil))))) (pe_pm g_q_off (hr.mono (by decide)) pass0 (pa_cons (pv 0) (pa_cons pe_int pa_nil))) (fun _ _ => rfl)))
 (pss_cons (ps_set (i := 2) sc_q_sets.nd rfl (Or.inl rfl) (pe_strT (l := [97, 98, 99, 100, 101, 102, 103, 104, 105, 106, 32, 48, 49, 50, 51, 52, 53, 54, 46, 44, 45, 120]) (by decide +kernel)))
 (Evl.pss_cut (ps_if (pt_cmpR (eqK K rfl hr.units) (pe_pm g_q_off (hr.mono (by decide)) pass0 (pa_cons (pv 0) (pa_cons pe_int pa_nil))) pe_int (nomark _))
 (pss_cons (ps_set (i := 3) sc_q_sets.nd rfl (Or.inl rfl) (pe_strT (l := [32, 33, 35, 36, 38, 39, 40, 41, 42, 43, 44, 45, 46, 47, 48, 49, 50, 51, 52, 53, 54, 55, 56, 57, 58, 59, 60, 61, 62, 63, 64, 65, 66, 67, 68, 69, 70, 71, 72, 73, 74, 75, 76, 77, 78, 79, 80, 81, 82, 83, 84, 85, 86, 87, 88, 89, 90, 91, 93, 94, 95, 96, 97, 98, 99, 100, 101, 102, 103, 104, 105, 106, 107, 108, 109, 110, 111, 112, 113, 114, 115, 116, 117, 118, 119, 120, 121, 122, 123, 124, 125, 126]) (by decide +kernel)))
 (pss_cons (ps_set (i := 2) sc_q_sets.nd rfl (Or.inl rfl) (peJoin K rfl (pe_strT (l := []) (by decide +kernel)) (pe_slice (slK K rfl) (pe_pm g_q_mixed (hr.mono (by decide)) pass0 (pa_cons (pv 0) (pa_cons (pe_callTy (listK K rfl rfl) (by rfl) B.list (by decide +kernel) (pa_cons (pv 3) pa_nil)) pa_nil))) po_none (po_some pe_int))))
 pss_nil))
 pss_nil)
 (pss_cons (ps_set (i := 4) sc_q_sets.nd rfl (Or.inl rfl) (pe_pm g_q_off (hr.mono (by decide)) pass0 (pa_cons (pv 0) (pa_cons pe_int pa_nil))))
 (pss_cons (ps_set (i := 2) sc_q_sets.nd rfl (Or.inl rfl) (pe_op op_addP (pe_slice (slK K rfl) (pv 2) (po_some (pv 4)) po_none) (pe_slice (slK K rfl) (pv 2) po_none (po_some (pv 4)))))
 (pss_cons (ps_set (i := 5) sc_q_sets.nd rfl (Or.inl rfl) (peJoin K rfl (pe_strT (l := []) (by decide +kernel)) (pe_slice (slK K rfl) (pe_pm g_q_mixed (hr.mono (by decide)) pass0 (pa_cons (pv 0) (pa_cons (pe_callTy (listK K rfl rfl) (by rfl) B.list (by decide +kernel) (pa_cons (pe_slice (slK K rfl) (pv 2) po_none (po_some (pe_op op_addP (pv 1) (pe_pm g_q_off (hr.mono (by decide)) pass0 (pa_cons (pv 0) (pa_cons pe_int pa_nil)))))) pa_nil)) pa_nil))) po_none (po_some (pv 1)))))
 (pss_cons (ps_set (i := 6) sc_q_sets.nd rfl (Or.inl rfl) (pe_op op_addP pe_int (pe_pm g_q_off (hr.mono (by decide)) pass0 (pa_cons (pv 0) (pa_cons pe_int pa_nil)))))
 (pss_cons (ps_set (i := 7) sc_q_sets.nd rfl (Or.inr rfl) (pe_strT (l := []) (by decide +kernel)))
 (pss_cons (ps_set (i := 8) sc_q_sets.nd rfl (Or.inl rfl) (pe_pm g_q_mixed (hr.mono (by decide)) pass0 (pa_cons (pv 0) (pa_cons (pe_callTy (listK K rfl rfl) (by rfl) B.list (by decide +kernel) (pa_cons (pv 2) pa_nil)) pa_nil))))
 (pss_cons (ps_for PassesOwn.never rfl (pi_range1 (by rfl) B.range (pa_cons (pv 1) pa_nil)) (pg_name (i := 9) sc_q_sets.nd rfl (Or.inl rfl))
 (Evl.pss_cut (ps_if (PW.pt (pw_and (pt_cmpR (eqK K rfl hr.units) (pe_pm g_q_off (hr.mono (by decide)) pass0 (pa_cons (pv 0) (pa_cons (pv 6) pa_nil))) pe_int (nomark _)) (pw_and1 (pt_cmpR (niK K rfl) (pe_ix (ixK K rfl) (pv 5) (pv 9) (fun _ _ => rfl)) (pv 7) (by rfl)))))
 (pss_cons (ps_set (i := 7) sc_q_sets.nd rfl (Or.inr rfl) (pe_op op_addP (pv 7) (pe_ix (ixK K rfl) (pv 5) (pv 9) (fun _ _ => rfl))))
 pss_nil)
 (pss_cons (ps_setLc (i := 10) (own := [("_law_sign", 11)]) (g := gName 11) rfl sc_q_sets.nd rfl rfl (sw_true rfl rfl rfl (by decide +kernel)) (piL K rfl (pv 8)) (blkOk_by (N := n_q_sets) (sc := defScope s_q_sets) (by decide +kernel)) (fun _ _ _ _ _ => pg_name (i := 11) sc_q_sets.nd rfl (Or.inl rfl)) (fun _ _ _ _ _ => (pts_one (pt_cmpR (niK K rfl) (pv 11) (pv 7) (by rfl)))) (fun _ _ _ _ _ => (pv 11)))
 (pss_cons (ps_set (i := 7) sc_q_sets.nd rfl (Or.inr rfl) (pe_op op_addP (pv 7) (pe_ix (ixK K rfl) (pv 10) pe_int (fun _ _ => rfl))))
 pss_nil)))
 pss_nil))
 (pss_cons (ps_ret (pe_tup (pa_cons (pv 5) (pa_cons (pv 7) pa_nil))))
 pss_nil))))))))))), ?_⟩
    refine go_stD (σ := [some (.ref d), none, none, none, none, none, none, none, none, none, none, none]) hd rfl ?_
    wtm_at "r"
    refine wp_off (by omega) (by omega) fun r0 hr0 => ?_
    wtm_at "r"
    refine ⟨(by show 4 ≤ 100000; decide), fun p0 hp0 => ?_⟩
    wtm_at "r"
    refine wp_off (by omega) (by omega) fun r1 hr1 => ?_
    obtain ⟨many, hmany, hm1, hm10⟩ : ∃ many : Nat, atI [V.int 3, V.int 4, V.int 6, V.int (1 + (r0 : Int))] (r1 : Int) = some (.int (many : Int)) ∧ 1 ≤ many ∧ many ≤ 10 := by
      match r1, hr1 with
      | 0, _ => exact ⟨3, atI_nat (j := 0) rfl, by decide, by decide⟩
      | 1, _ => exact ⟨4, atI_nat (j := 1) rfl, by decide, by decide⟩
      | 2, _ => exact ⟨6, atI_nat (j := 2) rfl, by decide, by decide⟩
      | 3, _ => exact ⟨1 + r0, by rw [atI_nat (j := 3) rfl]; simp, by omega, by omega⟩
      | n + 4, h => omega
    wtm_at "r"
    refine wp_ixL (SqL.of upd_same) hmany ?_
    wtm_at "r"
    have e0 : Ex (rm H d) (upd (rm H d) p0 (.lst [V.int 3, V.int 4, V.int 6, V.int (1 + (r0 : Int))])) := ex_new hp0
    refine go_cut (fun σ F => ∃ (sl : List Nat) (ev : Option V), σ = [some (.ref d), some (.int (many : Int)), some (.str (tx sl)), ev, none, none, none, none, none, none, none, none] ∧ Ex (rm H d) F ∧ Pool sl) ?_ ?_
    · wtm_at "r"
      refine wp_off (by omega) (by omega) fun r2 _ => ?_
      wtm_at "r"
      refine ⟨fun _ => ?_, fun _ => ?_⟩
      · wtm_at "r"
        refine wp_m1 ?_
        wtm_at "r"
        refine ⟨⟨_, rfl⟩, ?_⟩
        wtm_at "r"
        refine wp_listS (by decide) fun p1 hp1 => ?_
        wtm_at "r"
        refine wp_mixed (l := every) (SqL.of upd_same) (by decide) (by decide) fun p2 l1 hp2 pe => ?_
        wtm_at "r"
        refine wp_slL (SqL.of upd_same) fun p3 hp3 => ?_
        rw [show (22 : Int) = ((22 : Nat) : Int) from rfl, cutV_take, ← List.map_take]
        wtm_at "r"
        refine wp_joinSg (SqL.of upd_same) (by rw [List.length_take]; omega) ?_
        wtm_at "r"
        refine go_turn rfl ⟨l1.take 22, _, rfl, ((e0.trans (ex_new hp1)).trans (ex_new hp2)).trans (ex_new hp3), ?_, ?_, ?_⟩
        · rw [List.length_take, pe.length_eq]; rfl
        · exact (pe.nodup_iff.mpr (by decide : every.Nodup)).sublist (List.take_sublist _ _)
        · intro c hc
          exact (by decide : ∀ c ∈ every, c < 128) c (pe.mem_iff.mp (List.mem_of_mem_take hc))
      · exact go_turn rfl ⟨[97, 98, 99, 100, 101, 102, 103, 104, 105, 106, 32, 48, 49, 50, 51, 52, 53, 54, 46, 44, 45, 120], none, rfl, e0, rfl, by decide, by decide⟩
    · rintro σ F ⟨sl, ev, rfl, e, hl, hn, ha⟩
      wtm_at "r"
      refine wp_off (by omega) (by omega) fun tn htn => ?_
      wtm_at "r"
      rw [cutN_drop, cutN_take]
      refine wp_addS (by wtm_at "sz") ?_
      wtm_at "r"
      obtain ⟨sg2, hsg2⟩ : ∃ s2, s2 = sl.drop tn ++ sl.take tn := ⟨_, rfl⟩
      rw [← hsg2]
      have pr : sg2.Perm sl := by
        rw [hsg2]
        exact List.perm_append_comm.trans (by rw [List.take_append_drop])
      have hl2 : sg2.length = 22 := pr.length_eq.trans hl
      have hn2 : sg2.Nodup := pr.nodup_iff.mpr hn
      have ha2 : ∀ c ∈ sg2, c < 128 := fun c hc => ha c (pr.mem_iff.mp hc)
      refine wp_m1 ?_
      wtm_at "r"
      refine ⟨⟨_, rfl⟩, ?_⟩
      wtm_at "r"
      refine wp_off (by omega) (by omega) fun r3 h3 => ?_
      wtm_at "r"
      rw [show ((many : Int) + (r3 : Int)) = ((many + r3 : Nat) : Int) by omega, cutN_take]
      refine wp_listS (by rw [List.length_take]; omega) fun p1 hp1 => ?_
      wtm_at "r"
      refine wp_mixed (l := sg2.take (many + r3)) (SqL.of upd_same) (by rw [List.length_take]; omega) (fun c hc => ha2 c (List.mem_of_mem_take hc)) fun p2 l1 hp2 pe => ?_
      wtm_at "r"
      refine wp_slL (SqL.of upd_same) fun p3 hp3 => ?_
      rw [cutV_take, ← List.map_take]
      wtm_at "r"
      have hl1 : l1.length = many + r3 := by rw [pe.length_eq, List.length_take]; omega
      refine wp_joinSg (SqL.of upd_same) (by rw [List.length_take]; omega) ?_
      wtm_at "r"
      obtain ⟨one, hone⟩ : ∃ x, x = l1.take many := ⟨_, rfl⟩
      rw [← hone]
      have hlo : one.length = many := by rw [hone, List.length_take]; omega
      have hno : one.Nodup := by
        rw [hone]
        exact (pe.nodup_iff.mpr (hn2.sublist (List.take_sublist _ _))).sublist (List.take_sublist _ _)
      have hao : ∀ c ∈ one, c < 128 := fun c hc => by
        rw [hone] at hc
        exact ha2 c (List.mem_of_mem_take (pe.mem_iff.mp (List.mem_of_mem_take hc)))
      have e3 := ((e.trans (ex_new (u := .lst ((sg2.take (many + r3)).map sg)) hp1)).trans (ex_new (u := .lst (l1.map sg)) hp2)).trans (ex_new (u := .lst (one.map sg)) hp3)
      refine wp_off (by omega) (by omega) fun r4 h4 => ?_
      wtm_at "r"
      refine wp_listS (by omega) fun p4 hp4 => ?_
      wtm_at "r"
      refine wp_mixed (l := sg2) (SqL.of upd_same) (by omega) ha2 fun p5 left hp5 pl => ?_
      wtm_at "r"
      have hll : left.length = 22 := pl.length_eq.trans hl2
      have hnl : left.Nodup := pl.nodup_iff.mpr hn2
      have hal : ∀ c ∈ left, c < 128 := fun c hc => ha2 c (pl.mem_iff.mp hc)
      refine go_forR (fun i σ F => ∃ (ot : List Nat) (kk so : Option V) (tu ofn : V) (ev2 : Option V), σ = [some (.ref d), some (.int (many : Int)), some (.str (tx sg2)), ev2, some tu, some (.str (tx one)), some (.int (1 + (r4 : Int))), some (.str (tx ot)), some (.ref p5), kk, so, none] ∧
        Ex (rm H d) F ∧ F p5 = some (.lst (left.map sg)) ∧ ot.length = i ∧ ot.Nodup ∧ ∀ c ∈ ot, c < 128) ?_
      wtm_at "r"
      refine ⟨many, rfl, by omega, ⟨[], none, none, _, .non, _, rfl, (e3.trans (ex_new hp4)).trans (ex_new hp5), upd_same, rfl, List.nodup_nil, (fun c h => by cases h)⟩, ?_, ?_⟩
      · rintro i σ F hi ⟨ot, kk, so, tu, ofn, ev2, rfl, e4, h5, ho, hno2, hao2⟩
        have hi1 : i < one.length := by omega
        wtm_at "r"
        refine go_cut (fun σ F => ∃ (c : Nat) (so1 : Option V), c ∉ ot ∧ c < 128 ∧ σ = [some (.ref d), some (.int (many : Int)), some (.str (tx sg2)), ev2, some tu, some (.str (tx one)), some (.int (1 + (r4 : Int))), some (.str (tx (ot ++ [c]))), some (.ref p5), some (.int (i : Int)), so1, none] ∧
          Ex (rm H d) F ∧ F p5 = some (.lst (left.map sg))) ?_ ?_
        · refine go_ifB ?_
          refine wp_andS (fun F1 => F1 = F) ?_ ?_
          · wtm_at "r"
            refine wp_off (by omega) (by omega) fun r5 _ => ?_
            wtm_at "r"
            refine ⟨rfl, fun _ => ?_⟩
            wtm_at "r"
            refine wp_ixS (by omega) (atI_nat (List.getElem?_eq_getElem hi1)) ?_
            wtm_at "r"
            refine ⟨rfl, fun hin => ?_⟩
            have hin : one[i] ∉ ot := by simpa using hin
            wtm_at "r"
            refine wp_ixS (by omega) (atI_nat (List.getElem?_eq_getElem hi1)) ?_
            refine wp_addS (j := [one[i]]) (by wtm_at "sz") ?_
            wtm_at "r"
            exact go_turn rfl ⟨one[i], so, hin, hao _ (List.getElem_mem hi1), rfl, e4, h5⟩
          · rintro F1 rfl
            refine go_set ?_
            refine wp_lcL (fun _ => rfl) ?_
            wtm_at "r"
            refine ⟨p5, _, rfl, SqL.of h5, fun Dl hD => ?_⟩
            have npd := (ne_of_none h5 hD)
            refine ⟨fun j acc F2 => ∃ ms : List Nat, acc = ms.map sg ∧ ms = (left.take j).filter (fun x => !decide (x ∈ ot)) ∧ Ex (rm H d) F2 ∧ F2 p5 = some (.lst (left.map sg)), ⟨[], rfl, rfl, e4.trans (ex_new hD), at_ne h5 hD⟩, fun j acc F2 ⟨_, _, _, _, h6⟩ => SqL.of h6, ?_, ?_⟩
            · rintro j y acc F2 hy q2 ⟨ms, rfl, hms, e5, h6⟩
              rw [List.getElem?_map] at hy
              obtain ⟨c, hc, rfl⟩ : ∃ c, left[j]? = some c ∧ y = sg c := by
                cases hq : left[j]? with
                | none => rw [hq] at hy; cases hy
                | some c => rw [hq] at hy; exact ⟨c, rfl, (Option.some.inj hy).symm⟩
              have hmsl : ms.length ≤ 22 := by
                rw [hms]
                refine Nat.le_trans (List.length_filter_le _ _) ?_
                rw [List.length_take]
                omega
              have stp := take_more hc
              show Wp _ _ _ _
              wtm_at "r"
              refine ⟨fun hin => ?_, fun hin => ⟨q2, ms, rfl, ?_, e5, h6⟩⟩
              · wtm_at "r"
                have hDH : rm H d Dl = none := e4.free hD
                refine ⟨q2, by rw [List.length_map]; omega, ms ++ [c], by rw [List.map_append]; rfl, ?_, ex_mut e5 hDH, ?_⟩
                · rw [stp, List.filter_append, ← hms, List.filter_cons, if_pos hin]
                  rfl
                · rw [upd_ne npd]
                  exact h6
              · rw [stp, List.filter_append, ← hms, List.filter_cons, if_neg (by rw [hin]; decide), List.filter_nil, List.append_nil]
            · rintro acc F2 q2 ⟨ms, rfl, hms, e5, h6⟩
              rw [List.length_map, List.take_length] at hms
              have hne := ex_out (l := left) (m := ot) hnl (by omega)
              rw [← hms] at hne
              obtain ⟨c, r, hcr⟩ : ∃ c r, ms = c :: r := by
                cases ms with
                | nil => exact absurd rfl hne
                | cons c r => exact ⟨c, r, rfl⟩
              have hcm : c ∈ left ∧ c ∉ ot := by
                have hx : c ∈ ms := by rw [hcr]; exact List.mem_cons_self
                rw [hms] at hx
                obtain ⟨h1, h2⟩ := List.mem_filter.mp hx
                exact ⟨h1, by simpa using h2⟩
              subst hcr
              wtm_at "r"
              refine wp_ixL (SqL.of q2) (atI_nat (j := 0) rfl) ?_
              refine wp_addS (j := [c]) (by wtm_at "sz") ?_
              wtm_at "r"
              exact go_turn rfl ⟨c, _, hcm.2, hal c hcm.1, rfl, e5, h6⟩
        · rintro σ F ⟨c, so1, hc1, hc2, rfl, e5, h6⟩
          refine go_turn rfl ⟨ot ++ [c], _, so1, tu, ofn, ev2, rfl, e5, h6, by rw [List.length_append, List.length_singleton, ho], snoc_nd hno2 hc1, fun x hx => ?_⟩
          rcases List.mem_append.mp hx with h | h
          · exact hao2 x h
          · rw [List.mem_singleton.mp h]; exact hc2
      · rintro σ F ⟨ot, kk, so, tu, ofn, ev2, rfl, e4, h5, ho, hno2, hao2⟩
        wtm_at "r"
        refine ⟨(by show 2 ≤ 100000; decide), fun p hp => ?_⟩
        exact RetND.out k (e4.trans (ex_new hp)) (e4.free hp) upd_same ⟨one, ot, ⟨by omega, by omega, by omega, hno, hno2⟩, hao, hao2, rfl⟩
end
section
variable {P : Program} {w : World} {K : PySem.W.Frag} {mg : Str → Option Value} {base : Heap}
def flatD : PyData → Bool
  | .none => true
  | .bool _ => true
  | .int _ => true
  | .str _ => true
  | _ => false
/-- flat, or n deep -/
def DpN : Nat → PyData → Prop
  | 0, d => flatD d = true
  | n + 1, d => flatD d = true ∨ ∃ ds, (d = .list ds ∨ d = .tuple ds) ∧ ds.length ≤ 1000 ∧ ∀ e ∈ ds, DpN n e
theorem dpa_len {H : Hp} : ∀ {xs : List V} {ds : List PyData}, DpAll K H xs ds → xs.length = ds.length
  | _, _, .nil => rfl
  | _, _, .cons _ b => congrArg (· + 1) (dpa_len b)
theorem dpa_at {H : Hp} : ∀ {xs : List V} {ds : List PyData} {i : Nat} {d : PyData}, DpAll K H xs ds → ds[i]? = some d → ∃ x, xs[i]? = some x ∧ Dp K H x d
  | _, _, _, _, .nil, h => by simp at h
  | _, _, 0, _, .cons a _, h => by
    rw [List.getElem?_cons_zero] at h
    cases h
    exact ⟨_, rfl, a⟩
  | _, _, i + 1, _, .cons _ b, h => by
    obtain ⟨x, h1, h2⟩ := dpa_at (i := i) b (by simpa using h)
    exact ⟨x, by simpa using h1, h2⟩
abbrev s_q_alike : Stmt := topS 42
abbrev n_q_alike : List Str := ["_law_found", "_law_due", "_law_k"]
theorem sc_q_alike : FnScope n_q_alike ["_law_found", "_law_due"] (defScope s_q_alike) := ⟨rfl, rfl, rfl, by decide +kernel, rfl, by decide +kernel, by decide +kernel⟩

def spA (K : PySem.W.Frag) : Nat → Sp
  | 0 => fun _ _ _ _ => False
  | n + 1 => fun vs H Q _ => ∃ (x y : V) (d : PyData), vs = [x, y] ∧ Dp K H x d ∧ Dp K H y d ∧ DpN n d ∧ RetV (.bl true) H Q
theorem wp_alike {o : Option Addr} {F : Hp} {Pq : V → Hp → Prop} {x y : V} {d : PyData} {n : Nat} {E : XK} (hx : Dp K F x d) (hy : Dp K F y d) (hd : DpN n d) (q : Pq (.bl true) F) : Wp o (fun H Q => spA K (n + 1) ([x, y] ++ []) H Q E) F Pq :=
  fun H w Q k => ⟨x, y, d, rfl, Dp.up w.ex hx, Dp.up w.ex hy, hd, RetV.use w q k⟩
theorem pm_alike (D : DefAt K mg "_law_alike" s_q_alike) (B : Bl mg) : ∀ n, Pm P w K mg base CX0 n "_law_alike" ["_law_found", "_law_due"] (spA K n) := by
  obtain ⟨f, fd, F, hm⟩ := D
  have hb : Binds K fd ["_law_found", "_law_due"] [] := F.binds fun _ _ _ _ _ _ us hl => match us, hl with | [_, _], _ => rfl
  intro n
  induction n with
  | zero => exact ⟨f, fd, ⟨fun vs H Q E h => h.elim, fun A outer s H args us vs Q E _ _ _ _ h => h.elim⟩, hm, F.kp, hb⟩
  | succ n ih =>
    have g_q_alike := ih
    refine ⟨f, fd, ?_, hm, F.kp, hb⟩
    refine F.ok sc_q_alike (fun vs H Q E h => ?_) (fun cdv A outer s H vs Q E hr h => ?_)
    · obtain ⟨_, _, _, rfl, _⟩ := h
      rfl
    · obtain ⟨x, y, d, rfl, hx, hy, hd, k⟩ := h
      refine ⟨_, (pss_cons (ps_if (pt_cmpR op_isNs (pv 1) pe_non (nomark _))
 (pss_cons (ps_ret (pe_cmpR op_isNs (pv 0) pe_non (nomark _)))
 pss_nil)
 pss_nil)
 (pss_cons (ps_if (pt_val (pe_callB (isiK K rfl) (by rfl) B.isinstance (by decide +kernel) (pa_cons (pv 1) (pa_cons (pe_bltn (v := .ty "bool") (by rfl) B.bool_ (by decide +kernel) rfl) pa_nil))))
 (pss_cons (ps_ret (pe_and (pe_callB (isiK K rfl) (by rfl) B.isinstance (by decide +kernel) (pa_cons (pv 0) (pa_cons (pe_bltn (v := .ty "bool") (by rfl) B.bool_ (by decide +kernel) rfl) pa_nil))) (pe_one (pe_cmpR (eqK K rfl hr.units) (pv 0) (pv 1) (nomark _)))))
 pss_nil)
 pss_nil)
 (pss_cons (ps_if (pt_val (pe_callB (isiK K rfl) (by rfl) B.isinstance (by decide +kernel) (pa_cons (pv 1) (pa_cons (pe_bltn (v := .ty "int") (by rfl) B.int_ (by decide +kernel) rfl) pa_nil))))
 (pss_cons (ps_ret (pe_and (pe_callB (isiK K rfl) (by rfl) B.isinstance (by decide +kernel) (pa_cons (pv 0) (pa_cons (pe_bltn (v := .ty "int") (by rfl) B.int_ (by decide +kernel) rfl) pa_nil))) (pe_and (pe_not (pe_callB (isiK K rfl) (by rfl) B.isinstance (by decide +kernel) (pa_cons (pv 0) (pa_cons (pe_bltn (v := .ty "bool") (by rfl) B.bool_ (by decide +kernel) rfl) pa_nil)))) (pe_one (pe_cmpR (eqK K rfl hr.units) (pv 0) (pv 1) (nomark _))))))
 pss_nil)
 pss_nil)
 (pss_cons (ps_if (pt_val (pe_callB (isiK K rfl) (by rfl) B.isinstance (by decide +kernel) (pa_cons (pv 1) (pa_cons (pe_bltn (v := .ty "str") (by rfl) B.str_ (by decide +kernel) rfl) pa_nil))))
 (pss_cons (ps_ret (pe_and (pe_callB (isiK K rfl) (by rfl) B.isinstance (by decide +kernel) (pa_cons (pv 0) (pa_cons (pe_bltn (v := .ty "str") (by rfl) B.str_ (by decide +kernel) rfl) pa_nil))) (pe_one (pe_cmpR (eqK K rfl hr.units) (pv 0) (pv 1) (nomark _)))))
 pss_nil)
 pss_nil)
 (pss_cons (ps_if (PW.pt (pw_or (pt_cmpR (neK K rfl hr.units) (pe_callB (isiK K rfl) (by rfl) B.isinstance (by decide +kernel) (pa_cons (pv 1) (pa_cons (pe_bltn (v := .ty "tuple") (by rfl) B.tuple (by decide +kernel) rfl) pa_nil))) (pe_callB (isiK K rfl) (by rfl) B.isinstance (by decide +kernel) (pa_cons (pv 0) (pa_cons (pe_bltn (v := .ty "tuple") (by rfl) B.tuple (by decide +kernel) rfl) pa_nil))) (nomark _)) (pw_or1 (pt_cmpR (neK K rfl hr.units) (pe_callB (isiK K rfl) (by rfl) B.isinstance (by decide +kernel) (pa_cons (pv 1) (pa_cons (pe_bltn (v := .ty "list") (by rfl) B.list (by decide +kernel) rfl) pa_nil))) (pe_callB (isiK K rfl) (by rfl) B.isinstance (by decide +kernel) (pa_cons (pv 0) (pa_cons (pe_bltn (v := .ty "list") (by rfl) B.list (by decide +kernel) rfl) pa_nil))) (nomark _)))))
 (pss_cons (ps_ret pe_bl)
 pss_nil)
 pss_nil)
 (pss_cons (ps_if (pt_cmpR (neK K rfl hr.units) (pe_callB (lenK K rfl) (by rfl) B.len PySem.boot_len (pa_cons (pv 0) pa_nil)) (pe_callB (lenK K rfl) (by rfl) B.len PySem.boot_len (pa_cons (pv 1) pa_nil)) (nomark _))
 (pss_cons (ps_ret pe_bl)
 pss_nil)
 pss_nil)
 (pss_cons (ps_ret (pe_callB (allK K rfl rfl) (by rfl) B.all (by decide +kernel) (pa_cons (pe_lc (own := [("_law_k", 2)]) (g := gName 2) (tt := tYes) rfl sc_q_alike.nd (pi_range1 (by rfl) B.range (pa_cons (pe_callB (lenK K rfl) (by rfl) B.len PySem.boot_len (pa_cons (pv 1) pa_nil)) pa_nil)) (blkOk_by (N := n_q_alike) (sc := defScope s_q_alike) (by decide +kernel)) (fun _ _ _ _ _ => pg_name (i := 2) sc_q_alike.nd rfl (Or.inl rfl)) (fun _ _ _ _ _ => pts_nil) (fun _ _ _ _ _ => (pe_pm g_q_alike hr pass0 (pa_cons (pe_ix (ixK K rfl) (pv 0) (pv 2) (fun _ _ => rfl)) (pa_cons (pe_ix (ixK K rfl) (pv 1) (pv 2) (fun _ _ => rfl)) pa_nil))))) pa_nil)))
 pss_nil))))))), ?_⟩
      refine go_st (σ := [some (x), some (y), none]) rfl ?_
      have kinds : (∃ b, x = .bl b ∧ y = .bl b) ∨ (∃ i, x = .int i ∧ y = .int i) ∨ (∃ z, x = .str z ∧ y = .str z) ∨ (x = .non ∧ y = .non) ∨
          ∃ (T : String) (a b : Addr) (xs ys : List V) (ds : List PyData) (m : Nat), x = .ref a ∧ y = .ref b ∧ (T = "list" ∨ T = "tuple") ∧ TyP K H (.ref a) T ∧ TyP K H (.ref b) T ∧ (SqL K H a xs ∨ SqT K H a xs) ∧ (SqL K H b ys ∨ SqT K H b ys) ∧
            DpAll K H xs ds ∧ DpAll K H ys ds ∧ ds.length ≤ 1000 ∧ n = m + 1 ∧ ∀ e ∈ ds, DpN m e := by
        have nof : ∀ ds, (d = .list ds ∨ d = .tuple ds) → flatD d = false := fun ds h => by rcases h with h | h <;> subst h <;> rfl
        cases hx with
        | non => cases hy; exact .inr (.inr (.inr (.inl ⟨rfl, rfl⟩)))
        | bl b => cases hy; exact .inl ⟨b, rfl, rfl⟩
        | int i => cases hy; exact .inr (.inl ⟨i, rfl, rfl⟩)
        | str z => cases hy; exact .inr (.inr (.inl ⟨z, rfl, rfl⟩))
        | lst h1 h2 =>
          cases hy with
          | lst h3 h4 =>
            cases n with
            | zero => cases (show flatD _ = true from hd)
            | succ m =>
              rcases hd with hf | ⟨ds, hds, hl, hi⟩
              · cases hf
              · rcases hds with e | e
                · cases e
                  exact .inr (.inr (.inr (.inr ⟨"list", _, _, _, _, _, m, rfl, rfl, .inl rfl, .lst h1, .lst h3, .inl h1, .inl h3, h2, h4, hl, rfl, hi⟩)))
                · cases e
        | tup h1 h2 =>
          cases hy with
          | tup h3 h4 =>
            cases n with
            | zero => cases (show flatD _ = true from hd)
            | succ m =>
              rcases hd with hf | ⟨ds, hds, hl, hi⟩
              · cases hf
              · rcases hds with e | e
                · cases e
                · cases e
                  exact .inr (.inr (.inr (.inr ⟨"tuple", _, _, _, _, _, m, rfl, rfl, .inr rfl, .tup h1, .tup h3, .inr h1, .inr h3, h2, h4, hl, rfl, hi⟩)))
      wtm_at "r"
      rcases kinds with ⟨b, rfl, rfl⟩ | ⟨i, rfl, rfl⟩ | ⟨z, rfl, rfl⟩ | ⟨rfl, rfl⟩ | ⟨T, a, b, xs, ys, ds, m, rfl, rfl, hT, ta, tb, sa, sb, da, db, dl, rfl, di⟩
      · refine bF (by simp) ?_
        wtm_at "r"
        refine wp_isi (.bl b) (b := true) (by decide +kernel) ?_
        wtm_at "r"
        refine bT rfl ?_
        wtm_at "r"
        refine wp_isi (.bl b) (b := true) (by decide +kernel) ?_
        wtm_at "r"
        refine bT rfl ?_
        wtm_at "r"
        refine wp_eq0 rfl ?_
        rw [decide_eq_true rfl]
        exact k.out (exr H)
      · refine bF (by simp) ?_
        wtm_at "r"
        refine wp_isi (.int i) (b := false) (by decide +kernel) ?_
        wtm_at "r"
        refine bF rfl ?_
        wtm_at "r"
        refine wp_isi (.int i) (b := true) (by decide +kernel) ?_
        wtm_at "r"
        refine bT rfl ?_
        wtm_at "r"
        refine wp_isi (.int i) (b := true) (by decide +kernel) ?_
        wtm_at "r"
        refine bT rfl ?_
        wtm_at "r"
        refine wp_isi (.int i) (b := false) (by decide +kernel) ?_
        wtm_at "r"
        refine bT rfl ?_
        wtm_at "r"
        rw [decide_eq_true rfl]
        exact k.out (exr H)
      · refine bF (by simp) ?_
        wtm_at "r"
        refine wp_isi (.str z) (b := false) (by decide +kernel) ?_
        wtm_at "r"
        refine bF rfl ?_
        wtm_at "r"
        refine wp_isi (.str z) (b := false) (by decide +kernel) ?_
        wtm_at "r"
        refine bF rfl ?_
        wtm_at "r"
        refine wp_isi (.str z) (b := true) (by decide +kernel) ?_
        wtm_at "r"
        refine bT rfl ?_
        wtm_at "r"
        refine wp_isi (.str z) (b := true) (by decide +kernel) ?_
        wtm_at "r"
        refine bT rfl ?_
        wtm_at "r"
        refine wp_eq0 rfl ?_
        rw [decide_eq_true rfl]
        exact k.out (exr H)
      · refine bT (by simp) ?_
        wtm_at "r"
        rw [decide_eq_true rfl]
        exact k.out (exr H)
      · refine bF (by simp) ?_
        obtain ⟨bt, ht⟩ : ∃ bt, kitB T "tuple" = some bt := by
          rcases hT with rfl | rfl
          · exact ⟨false, by decide +kernel⟩
          · exact ⟨true, by decide +kernel⟩
        obtain ⟨bl, hl⟩ : ∃ bl, kitB T "list" = some bl := by
          rcases hT with rfl | rfl
          · exact ⟨true, by decide +kernel⟩
          · exact ⟨false, by decide +kernel⟩
        have la := dpa_len da
        have lb := dpa_len db
        wtm_at "r"
        refine wp_isi tb (b := false) (by rcases hT with rfl | rfl <;> decide +kernel) ?_
        wtm_at "r"
        refine bF rfl ?_
        wtm_at "r"
        refine wp_isi tb (b := false) (by rcases hT with rfl | rfl <;> decide +kernel) ?_
        wtm_at "r"
        refine bF rfl ?_
        wtm_at "r"
        refine wp_isi tb (b := false) (by rcases hT with rfl | rfl <;> decide +kernel) ?_
        wtm_at "r"
        refine bF rfl ?_
        wtm_at "r"
        refine wp_isi tb ht ?_
        wtm_at "r"
        refine wp_isi ta ht ?_
        wtm_at "r"
        refine wp_ne0 rfl ?_
        wtm_at "r"
        refine bF (by simp) ?_
        wtm_at "r"
        refine wp_isi tb hl ?_
        wtm_at "r"
        refine wp_isi ta hl ?_
        wtm_at "r"
        refine wp_ne0 rfl ?_
        wtm_at "r"
        refine bF (by simp) ?_
        wtm_at "r"
        refine wp_lenX sa ?_
        wtm_at "r"
        refine wp_lenX sb ?_
        wtm_at "r"
        refine bF (by rw [la, lb]; simp) ?_
        wtm_at "r"
        refine wp_lcR (fun _ => rfl) ?_
        wtm_at "r"
        refine wp_lenX sb ?_
        wtm_at "r"
        refine ⟨ys.length, rfl, by omega, fun Dl hD => ?_⟩
        refine ⟨fun i acc F => acc = (List.replicate i true).map V.bl ∧ Ex H F, ⟨rfl, ex_new hD⟩, ?_, ?_⟩
        · rintro i acc F hi q2 ⟨rfl, e⟩
          have hi2 : i < ds.length := by omega
          have hdi : ds[i]? = some ds[i] := List.getElem?_eq_getElem hi2
          obtain ⟨xa, hxa, dxa⟩ := dpa_at da hdi
          obtain ⟨xb, hxb, dxb⟩ := dpa_at db hdi
          show Wp _ _ _ _
          wtm_at "r"
          refine ⟨fun _ => ?_, fun z => (by cases z)⟩
          wtm_at "r"
          refine wp_ixX (sa.imp (ex_l e) (ex_t e)) (atI_nat hxa) ?_
          wtm_at "r"
          refine wp_ixX (sb.imp (ex_l e) (ex_t e)) (atI_nat hxb) ?_
          wtm_at "r"
          refine wp_alike (Dp.up e dxa) (Dp.up e dxb) (di _ (List.getElem_mem hi2)) ?_
          refine ⟨q2, by rw [List.length_map, List.length_replicate]; omega, ?_, ex_mut e hD⟩
          rw [List.replicate_succ', List.map_append]
          rfl
        · rintro acc F q2 ⟨rfl, e⟩
          wtm_at "r"
          refine wp_all (bs := List.replicate ys.length true) (SqL.of q2) ?_
          have ea : (List.replicate ys.length true).all id = true := by
            rw [List.all_eq_true]
            intro z hz
            exact (List.mem_replicate.mp hz).2
          rw [ea]
          exact k.out e
end
/-! ### reading by pieces -/
theorem fold_gst (A B : List Nat) : ∀ (cs : List Int) (pre : List Nat) (st : Int), cs.foldl (gst A B) (pre, st) = (pre ++ (gon A B cs st).1, (gon A B cs st).2)
  | [], pre, st => by simp [gon]
  | c :: r, pre, st => by
    unfold gon
    rw [List.foldl_cons, List.foldl_cons]
    by_cases h : c < (A.length : Int)
    · have e : ∀ q : List Nat, gst A B (q, st) c = (q ++ [sgn A B st c], st) := fun q => by unfold gst; rw [if_pos h]
      rw [e, e, fold_gst A B r, fold_gst A B r]
      simp
    · have e : ∀ q : List Nat, gst A B (q, st) c = (q, c - (A.length : Int)) := fun q => by unfold gst; rw [if_neg h]
      rw [e, e, fold_gst A B r, fold_gst A B r]
      simp
theorem gon_app (A B : List Nat) (x y : List Int) (st : Int) : gon A B (x ++ y) st = ((gon A B x st).1 ++ (gon A B y (gon A B x st).2).1, (gon A B y (gon A B x st).2).2) := by
  have h := fold_gst A B y (gon A B x st).1 (gon A B x st).2
  rw [← h]
  unfold gon
  rw [List.foldl_append]
theorem gon_nil (A B : List Nat) (st : Int) : gon A B [] st = ([], st) := rfl
theorem gon_sign {A B : List Nat} {c : Int} (h : c < (A.length : Int)) (r : List Int) (st : Int) : gon A B (c :: r) st = (sgn A B st c :: (gon A B r st).1, (gon A B r st).2) := by
  have e := gon_app A B [c] r st
  have e1 : gon A B [c] st = ([sgn A B st c], st) := by
    show gst A B ([], st) c = _
    unfold gst
    rw [if_pos h]
    rfl
  rw [e1] at e
  exact e
theorem gon_shift {A B : List Nat} {c : Int} (h : ¬ c < (A.length : Int)) (r : List Int) (st : Int) : gon A B (c :: r) st = gon A B r (c - (A.length : Int)) := by
  have e := gon_app A B [c] r st
  have e1 : gon A B [c] st = ([], c - (A.length : Int)) := by
    show gst A B ([], st) c = _
    unfold gst
    rw [if_neg h]
  rw [e1] at e
  simpa using e
theorem wp_slTake {K : PySem.W.Frag} {o : Option Addr} {F : Hp} {Pq : V → Hp → Prop} {p : Addr} {cs : List Int} {n : Nat} {z : Int} (h : SqL K F p (il cs)) (hz : z = (n : Int)) (q : ∀ p, F p = none → Pq (.ref p) (upd F p (.lst (il (cs.take n))))) : Wp o (rSlP K (.ref p) none (some z)) F Pq :=
  wp_slL h fun p hp => by rw [hz, cutV_take, ← List.map_take]; exact q p hp
theorem wp_slDrop {K : PySem.W.Frag} {o : Option Addr} {F : Hp} {Pq : V → Hp → Prop} {p : Addr} {cs : List Int} {n : Nat} {z : Int} (h : SqL K F p (il cs)) (hz : z = (n : Int)) (q : ∀ p, F p = none → Pq (.ref p) (upd F p (.lst (il (cs.drop n))))) : Wp o (rSlP K (.ref p) (some z) none) F Pq :=
  wp_slL h fun p hp => by rw [hz, cutV_drop, ← List.map_drop]; exact q p hp
/-! ### trimmed -/
def cmn (A B : List Nat) (c : Int) : Bool := decide (sgn A B 0 c = sgn A B 1 c)
/-- the same codes of signs, a shift just ahead of each that needs one -/
def trimR (A B : List Nat) : List Int → Int → Int → List Int
  | [], _, _ => []
  | c :: r, st, here => if c < (A.length : Int) then (if st ≠ here ∧ cmn A B c = false then ((A.length : Int) + st) :: c :: trimR A B r st st else c :: trimR A B r st here) else trimR A B r (c - (A.length : Int)) here
def tst (A B : List Nat) (x : List Int × Int × Int) (c : Int) : List Int × Int × Int :=
  if c < (A.length : Int) then (if x.2.1 ≠ x.2.2 ∧ cmn A B c = false then (x.1 ++ [(A.length : Int) + x.2.1] ++ [c], x.2.1, x.2.1) else (x.1 ++ [c], x.2.1, x.2.2)) else (x.1, c - (A.length : Int), x.2.2)
def tfo (A B : List Nat) (cs : List Int) (st : Int) : List Int × Int × Int := cs.foldl (tst A B) ([], st, st)
theorem tfo_take {A B : List Nat} {cs : List Int} {st : Int} {i : Nat} {c : Int} (h : cs[i]? = some c) : tfo A B (cs.take (i + 1)) st = tst A B (tfo A B (cs.take i) st) c := by
  unfold tfo
  rw [take_more h, List.foldl_append]
  rfl
theorem fold_tst (A B : List Nat) : ∀ (cs : List Int) (pre : List Int) (st here : Int), (cs.foldl (tst A B) (pre, st, here)).1 = pre ++ trimR A B cs st here
  | [], pre, st, here => by simp [trimR]
  | c :: r, pre, st, here => by
    rw [List.foldl_cons, show tst A B (pre, st, here) c = if c < (A.length : Int) then (if st ≠ here ∧ cmn A B c = false then (pre ++ [(A.length : Int) + st] ++ [c], st, st) else (pre ++ [c], st, here)) else (pre, c - (A.length : Int), here) from rfl]
    unfold trimR
    by_cases h : c < (A.length : Int)
    · rw [if_pos h, if_pos h]
      by_cases h2 : st ≠ here ∧ cmn A B c = false
      · rw [if_pos h2, if_pos h2, fold_tst A B r]
        simp
      · rw [if_neg h2, if_neg h2, fold_tst A B r]
        simp
    · rw [if_neg h, if_neg h, fold_tst A B r]
theorem tfo_trim (A B : List Nat) (cs : List Int) (st : Int) : (tfo A B cs st).1 = trimR A B cs st st := by
  have h := fold_tst A B cs [] st st
  simpa [tfo] using h
theorem tst_st {A B : List Nat} {x : List Int × Int × Int} {c : Int} (h1 : StOk x.2.1) (h2 : StOk x.2.2) (hc : 0 ≤ c ∧ c < (A.length : Int) + 2) : StOk (tst A B x c).2.1 ∧ StOk (tst A B x c).2.2 := by
  unfold tst
  split
  · split
    · exact ⟨h1, h1⟩
    · exact ⟨h1, h2⟩
  · refine ⟨?_, h2⟩
    show c - (A.length : Int) = 0 ∨ c - (A.length : Int) = 1
    omega
theorem tfo_st {A B : List Nat} {st : Int} (h : StOk st) {cs : List Int} (hc : CodesOk A.length cs) : StOk (tfo A B cs st).2.1 ∧ StOk (tfo A B cs st).2.2 := by
  have key : ∀ (cs : List Int) (x : List Int × Int × Int), StOk x.2.1 → StOk x.2.2 → CodesOk A.length cs → StOk (cs.foldl (tst A B) x).2.1 ∧ StOk (cs.foldl (tst A B) x).2.2 := by
    intro cs
    induction cs with
    | nil => intro x h1 h2 _; exact ⟨h1, h2⟩
    | cons c r ih =>
      intro x h1 h2 hc
      obtain ⟨h3, h4⟩ := tst_st h1 h2 (hc c List.mem_cons_self)
      exact ih _ h3 h4 fun d hd => hc d (List.mem_cons_of_mem _ hd)
  exact key cs _ h h hc
theorem trimR_len (A B : List Nat) : ∀ (cs : List Int) (st here : Int), (trimR A B cs st here).length ≤ cs.length + (if st = here then 0 else 1)
  | [], st, here => by simp [trimR]
  | c :: r, st, here => by
    unfold trimR
    by_cases h : c < (A.length : Int)
    · rw [if_pos h]
      by_cases h2 : st ≠ here ∧ cmn A B c = false
      · rw [if_pos h2, if_neg h2.1]
        have ih := trimR_len A B r st st
        rw [if_pos rfl] at ih
        simp only [List.length_cons]
        omega
      · rw [if_neg h2]
        have ih := trimR_len A B r st here
        simp only [List.length_cons]
        omega
    · rw [if_neg h]
      have ih := trimR_len A B r (c - (A.length : Int)) here
      rw [List.length_cons]
      split at ih <;> split <;> omega
theorem trim_len (A B : List Nat) (cs : List Int) (st : Int) : (trimR A B cs st st).length ≤ cs.length := by
  have h := trimR_len A B cs st st
  rw [if_pos rfl] at h
  exact h
theorem tfo_len (A B : List Nat) (cs : List Int) (st : Int) : (tfo A B cs st).1.length ≤ cs.length := by
  rw [tfo_trim]
  exact trim_len A B cs st
theorem trim_ok {A B : List Nat} : ∀ {cs : List Int} {st here : Int}, CodesOk A.length cs → StOk st → CodesOk A.length (trimR A B cs st here)
  | [], st, here, _, _ => by
    intro c hc
    cases hc
  | c :: r, st, here, hc, hs => by
    have h0 := hc c List.mem_cons_self
    have hr : CodesOk A.length r := fun d hd => hc d (List.mem_cons_of_mem _ hd)
    unfold trimR
    by_cases h : c < (A.length : Int)
    · rw [if_pos h]
      by_cases h2 : st ≠ here ∧ cmn A B c = false
      · rw [if_pos h2]
        have ih := trim_ok (A := A) (B := B) (st := st) (here := st) hr hs
        intro d hd
        unfold StOk at hs
        rcases List.mem_cons.mp hd with e | hd
        · omega
        · rcases List.mem_cons.mp hd with e | hd
          · omega
          · exact ih d hd
      · rw [if_neg h2]
        have ih := trim_ok (A := A) (B := B) (st := st) (here := here) hr hs
        intro d hd
        rcases List.mem_cons.mp hd with e | hd
        · omega
        · exact ih d hd
    · rw [if_neg h]
      exact trim_ok hr (by unfold StOk; omega)
/-- the same codes of signs -/
theorem trim_signs {A B : List Nat} : ∀ {cs : List Int} {st here : Int}, CodesOk A.length cs → StOk st → (trimR A B cs st here).filter (fun c => decide (c < (A.length : Int))) = cs.filter (fun c => decide (c < (A.length : Int)))
  | [], st, here, _, _ => rfl
  | c :: r, st, here, hc, hs => by
    have h0 := hc c List.mem_cons_self
    have hr : CodesOk A.length r := fun d hd => hc d (List.mem_cons_of_mem _ hd)
    unfold trimR
    by_cases h : c < (A.length : Int)
    · rw [if_pos h]
      by_cases h2 : st ≠ here ∧ cmn A B c = false
      · rw [if_pos h2, List.filter_cons, if_neg (by unfold StOk at hs; simp; omega), List.filter_cons, if_pos (decide_eq_true h), List.filter_cons, if_pos (decide_eq_true h), trim_signs hr hs]
      · rw [if_neg h2, List.filter_cons, if_pos (decide_eq_true h), List.filter_cons, if_pos (decide_eq_true h), trim_signs hr hs]
    · rw [if_neg h, trim_signs hr (by unfold StOk; omega), List.filter_cons (x := c), if_neg (by simpa using h)]
theorem sgn_cm {A B : List Nat} {c st here : Int} (hs : StOk st) (hh : StOk here) (h : ¬ (st ≠ here ∧ cmn A B c = false)) : sgn A B here c = sgn A B st c := by
  by_cases e : st = here
  · rw [e]
  · have e2 : cmn A B c = true := by
      cases h3 : cmn A B c with
      | true => rfl
      | false => exact absurd ⟨e, h3⟩ h
    have e3 : sgn A B 0 c = sgn A B 1 c := of_decide_eq_true e2
    rcases hs with rfl | rfl <;> rcases hh with rfl | rfl
    · rfl
    · exact e3.symm
    · exact e3
    · rfl
theorem sgn_nc {A B : List Nat} {c st here : Int} (hs : StOk st) (hh : StOk here) (h : st ≠ here ∧ cmn A B c = false) : sgn A B here c ≠ sgn A B st c := by
  obtain ⟨h1, h2⟩ := h
  have e3 : sgn A B 0 c ≠ sgn A B 1 c := of_decide_eq_false h2
  rcases hs with rfl | rfl <;> rcases hh with rfl | rfl
  · exact absurd rfl h1
  · exact e3.symm
  · exact e3
  · exact absurd rfl h1
/-- read alike -/
theorem trim_read {A B : List Nat} : ∀ {cs : List Int} {st here : Int}, CodesOk A.length cs → StOk st → StOk here → (gon A B (trimR A B cs st here) here).1 = (gon A B cs st).1
  | [], st, here, _, _, _ => rfl
  | c :: r, st, here, hc, hs, hh => by
    have h0 := hc c List.mem_cons_self
    have hr : CodesOk A.length r := fun d hd => hc d (List.mem_cons_of_mem _ hd)
    unfold trimR
    by_cases h : c < (A.length : Int)
    · rw [if_pos h, gon_sign h r st]
      by_cases h2 : st ≠ here ∧ cmn A B c = false
      · rw [if_pos h2, gon_shift (by unfold StOk at hs; omega), show (A.length : Int) + st - (A.length : Int) = st by omega, gon_sign h, trim_read hr hs hs]
      · rw [if_neg h2, gon_sign h, trim_read hr hs hh, sgn_cm hs hh h2]
    · rw [if_neg h, gon_shift h, trim_read hr (by unfold StOk; omega) hh]
/-- trimmed again it stays -/
theorem trim_again {A B : List Nat} : ∀ {cs : List Int} {st here : Int}, CodesOk A.length cs → StOk st → StOk here → trimR A B (trimR A B cs st here) here here = trimR A B cs st here
  | [], st, here, _, _, _ => rfl
  | c :: r, st, here, hc, hs, hh => by
    have h0 := hc c List.mem_cons_self
    have hr : CodesOk A.length r := fun d hd => hc d (List.mem_cons_of_mem _ hd)
    rw [show trimR A B (c :: r) st here = if c < (A.length : Int) then (if st ≠ here ∧ cmn A B c = false then ((A.length : Int) + st) :: c :: trimR A B r st st else c :: trimR A B r st here) else trimR A B r (c - (A.length : Int)) here from rfl]
    by_cases h : c < (A.length : Int)
    · rw [if_pos h]
      by_cases h2 : st ≠ here ∧ cmn A B c = false
      · rw [if_pos h2]
        have ih := trim_again (A := A) (B := B) (st := st) (here := st) hr hs hs
        rw [show ∀ z t, trimR A B (z :: t) here here = if z < (A.length : Int) then (if here ≠ here ∧ cmn A B z = false then ((A.length : Int) + here) :: z :: trimR A B t here here else z :: trimR A B t here here) else trimR A B t (z - (A.length : Int)) here from fun _ _ => rfl,
          if_neg (by unfold StOk at hs; omega), show (A.length : Int) + st - (A.length : Int) = st by omega,
          show ∀ z t, trimR A B (z :: t) st here = if z < (A.length : Int) then (if st ≠ here ∧ cmn A B z = false then ((A.length : Int) + st) :: z :: trimR A B t st st else z :: trimR A B t st here) else trimR A B t (z - (A.length : Int)) here from fun _ _ => rfl,
          if_pos h, if_pos h2, ih]
      · rw [if_neg h2]
        have ih := trim_again (A := A) (B := B) (st := st) (here := here) hr hs hh
        rw [show ∀ z t, trimR A B (z :: t) here here = if z < (A.length : Int) then (if here ≠ here ∧ cmn A B z = false then ((A.length : Int) + here) :: z :: trimR A B t here here else z :: trimR A B t here here) else trimR A B t (z - (A.length : Int)) here from fun _ _ => rfl,
          if_pos h, if_neg (fun z => z.1 rfl), ih]
    · rw [if_neg h]
      exact trim_again hr (by unfold StOk; omega) hh
/-- a tape without its i-th code -/
def cutAt (cs : List Int) (i : Nat) : List Int := cs.take i ++ cs.drop (i + 1)
/-- without any of its shifts it is read otherwise -/
theorem trim_needs {A B : List Nat} : ∀ {cs : List Int} {st here : Int} {i : Nat} {z : Int}, CodesOk A.length cs → StOk st → StOk here → (trimR A B cs st here)[i]? = some z → ¬ z < (A.length : Int) → (gon A B (cutAt (trimR A B cs st here) i) here).1 ≠ (gon A B (trimR A B cs st here) here).1
  | [], st, here, i, z, _, _, _, hi, _ => by simp [trimR] at hi
  | c :: r, st, here, i, z, hc, hs, hh, hi, hz => by
    have h0 := hc c List.mem_cons_self
    have hr : CodesOk A.length r := fun d hd => hc d (List.mem_cons_of_mem _ hd)
    revert hi
    rw [show trimR A B (c :: r) st here = if c < (A.length : Int) then (if st ≠ here ∧ cmn A B c = false then ((A.length : Int) + st) :: c :: trimR A B r st st else c :: trimR A B r st here) else trimR A B r (c - (A.length : Int)) here from rfl]
    by_cases h : c < (A.length : Int)
    · rw [if_pos h]
      have ns : ¬ (A.length : Int) + st < (A.length : Int) := by unfold StOk at hs; omega
      by_cases h2 : st ≠ here ∧ cmn A B c = false
      · rw [if_pos h2]
        intro hi
        match i, hi with
        | 0, hi =>
          rw [show cutAt (((A.length : Int) + st) :: c :: trimR A B r st st) 0 = c :: trimR A B r st st from rfl, gon_sign h, gon_shift ns, show (A.length : Int) + st - (A.length : Int) = st by omega, gon_sign h]
          intro e
          exact sgn_nc hs hh h2 (List.cons.inj e).1
        | 1, hi =>
          have hi : some c = some z := hi
          cases hi
          exact absurd h hz
        | j + 2, hi =>
          have ih := trim_needs (A := A) (B := B) (st := st) (here := st) (i := j) hr hs hs (by simpa using hi) hz
          rw [show cutAt (((A.length : Int) + st) :: c :: trimR A B r st st) (j + 2) = ((A.length : Int) + st) :: c :: cutAt (trimR A B r st st) j from rfl, gon_shift ns, gon_shift ns, show (A.length : Int) + st - (A.length : Int) = st by omega, gon_sign h, gon_sign h]
          intro e
          exact ih (List.cons.inj e).2
      · rw [if_neg h2]
        intro hi
        match i, hi with
        | 0, hi =>
          have hi : some c = some z := hi
          cases hi
          exact absurd h hz
        | j + 1, hi =>
          have ih := trim_needs (A := A) (B := B) (st := st) (here := here) (i := j) hr hs hh (by simpa using hi) hz
          rw [show cutAt (c :: trimR A B r st here) (j + 1) = c :: cutAt (trimR A B r st here) j from rfl, gon_sign h, gon_sign h]
          intro e
          exact ih (List.cons.inj e).2
    · rw [if_neg h]
      intro hi
      exact trim_needs hr (by unfold StOk; omega) hh hi hz
/-- the law's own going: codes with the wanted state, then the shifts -/
def ndL (n : Nat) : List Int → Int → List (Int × Int)
  | [], _ => []
  | c :: r, st => if c < (n : Int) then (c, st) :: ndL n r st else ndL n r (c - (n : Int))
def nst (n : Nat) (x : List (Int × Int) × Int) (c : Int) : List (Int × Int) × Int := if c < (n : Int) then (x.1 ++ [(c, x.2)], x.2) else (x.1, c - (n : Int))
def nfo (n : Nat) (cs : List Int) (st : Int) : List (Int × Int) × Int := cs.foldl (nst n) ([], st)
theorem nfo_take {n : Nat} {cs : List Int} {st : Int} {i : Nat} {c : Int} (h : cs[i]? = some c) : nfo n (cs.take (i + 1)) st = nst n (nfo n (cs.take i) st) c := by
  unfold nfo
  rw [take_more h, List.foldl_append]
  rfl
theorem fold_nst (n : Nat) : ∀ (cs : List Int) (pre : List (Int × Int)) (st : Int), (cs.foldl (nst n) (pre, st)).1 = pre ++ ndL n cs st
  | [], pre, st => by simp [ndL]
  | c :: r, pre, st => by
    rw [List.foldl_cons, show nst n (pre, st) c = if c < (n : Int) then (pre ++ [(c, st)], st) else (pre, c - (n : Int)) from rfl]
    unfold ndL
    by_cases h : c < (n : Int)
    · rw [if_pos h, if_pos h, fold_nst n r]
      simp
    · rw [if_neg h, if_neg h, fold_nst n r]
theorem nfo_nd (n : Nat) (cs : List Int) (st : Int) : (nfo n cs st).1 = ndL n cs st := by
  have h := fold_nst n cs [] st
  simpa [nfo] using h
def tr2 (A B : List Nat) : List (Int × Int) → Int → List Int
  | [], _ => []
  | c :: r, here => if c.2 ≠ here ∧ cmn A B c.1 = false then ((A.length : Int) + c.2) :: c.1 :: tr2 A B r c.2 else c.1 :: tr2 A B r here
def t2s (A B : List Nat) (x : List Int × Int) (c : Int × Int) : List Int × Int := if c.2 ≠ x.2 ∧ cmn A B c.1 = false then (x.1 ++ [(A.length : Int) + c.2] ++ [c.1], c.2) else (x.1 ++ [c.1], x.2)
def t2o (A B : List Nat) (cs : List (Int × Int)) (st : Int) : List Int × Int := cs.foldl (t2s A B) ([], st)
theorem t2o_take {A B : List Nat} {cs : List (Int × Int)} {st : Int} {i : Nat} {c : Int × Int} (h : cs[i]? = some c) : t2o A B (cs.take (i + 1)) st = t2s A B (t2o A B (cs.take i) st) c := by
  unfold t2o
  rw [take_more h, List.foldl_append]
  rfl
theorem fold_t2s (A B : List Nat) : ∀ (cs : List (Int × Int)) (pre : List Int) (st : Int), (cs.foldl (t2s A B) (pre, st)).1 = pre ++ tr2 A B cs st
  | [], pre, st => by simp [tr2]
  | c :: r, pre, st => by
    rw [List.foldl_cons, show t2s A B (pre, st) c = if c.2 ≠ st ∧ cmn A B c.1 = false then (pre ++ [(A.length : Int) + c.2] ++ [c.1], c.2) else (pre ++ [c.1], st) from rfl]
    unfold tr2
    by_cases h2 : c.2 ≠ st ∧ cmn A B c.1 = false
    · rw [if_pos h2, if_pos h2, fold_t2s A B r]
      simp
    · rw [if_neg h2, if_neg h2, fold_t2s A B r]
      simp
theorem tr2_nd (A B : List Nat) : ∀ (cs : List Int) (st here : Int), tr2 A B (ndL A.length cs st) here = trimR A B cs st here
  | [], _, _ => rfl
  | c :: r, st, here => by
    unfold ndL trimR
    by_cases h : c < (A.length : Int)
    · rw [if_pos h, if_pos h]
      unfold tr2
      by_cases h2 : st ≠ here ∧ cmn A B c = false
      · rw [if_pos h2, if_pos h2, tr2_nd A B r]
      · rw [if_neg h2, if_neg h2, tr2_nd A B r]
    · rw [if_neg h, if_neg h, tr2_nd A B r]
theorem t2o_trim (A B : List Nat) (cs : List Int) (st : Int) : (t2o A B (ndL A.length cs st) st).1 = trimR A B cs st st := by
  have h := fold_t2s A B (ndL A.length cs st) [] st
  rw [tr2_nd] at h
  simpa [t2o] using h
theorem nd_ok {n : Nat} : ∀ {cs : List Int} {st : Int}, CodesOk n cs → StOk st → (∀ c ∈ ndL n cs st, 0 ≤ c.1 ∧ c.1 < (n : Int) ∧ StOk c.2) ∧ (ndL n cs st).length ≤ cs.length
  | [], st, _, _ => ⟨fun c hc => (by cases hc), Nat.le_refl _⟩
  | c :: r, st, hc, hs => by
    have h0 := hc c List.mem_cons_self
    have hr : CodesOk n r := fun d hd => hc d (List.mem_cons_of_mem _ hd)
    unfold ndL
    by_cases h : c < (n : Int)
    · rw [if_pos h]
      obtain ⟨h1, h2⟩ := nd_ok (st := st) hr hs
      refine ⟨fun d hd => ?_, by simp only [List.length_cons]; omega⟩
      rcases List.mem_cons.mp hd with e | hd
      · subst e
        exact ⟨h0.1, h, hs⟩
      · exact h1 d hd
    · rw [if_neg h]
      obtain ⟨h1, h2⟩ := nd_ok (n := n) (st := c - (n : Int)) hr (by unfold StOk; omega)
      exact ⟨h1, by rw [List.length_cons]; omega⟩
theorem il_snoc (xs : List Int) (c : Int) : il xs ++ [V.int c] = il (xs ++ [c]) := by simp [il]
section
variable {P : Program} {w : World} {K : PySem.W.Frag} {mg : Str → Option Value} {base : Heap}
abbrev s_is_common : Stmt := topS 14
abbrev n_is_common : List Str := ["sets", "code"]
theorem sc_is_common : FnScope n_is_common ["sets", "code"] (defScope s_is_common) := ⟨rfl, rfl, rfl, by decide +kernel, rfl, by decide +kernel, by decide +kernel⟩

def sp_common (K : PySem.W.Frag) : Sp := fun vs H Q _ => ∃ (s : Addr) (A B : List Nat) (c : Int), vs = [.ref s, .int c] ∧ SetsAt K H s A B ∧ Good A B ∧ 0 ≤ c ∧ c < (A.length : Int) ∧ RetV (.bl (cmn A B c)) H Q
theorem wp_common {o : Option Addr} {F : Hp} {Pq : V → Hp → Prop} {s : Addr} {A B : List Nat} {c : Int} {E : XK} (hS : SetsAt K F s A B) (g : Good A B) (h0 : 0 ≤ c) (h1 : c < (A.length : Int)) (q : Pq (.bl (cmn A B c)) F) : Wp o (fun H Q => sp_common K ([.ref s, .int c] ++ []) H Q E) F Pq :=
  fun H w Q k => ⟨s, A, B, c, rfl, w.t hS, g, h0, h1, RetV.use w q k⟩
theorem pm_common (D : DefAt K mg "is_common" s_is_common) (B : Bl mg) : Pm P w K mg base CX0 1 "is_common" ["sets", "code"] (sp_common K) := by
  obtain ⟨f, fd, F, hm⟩ := D
  refine ⟨f, fd, ?_, hm, F.kp, F.binds fun _ _ _ _ _ _ us hl => match us, hl with | [_, _], _ => rfl⟩
  refine F.ok sc_is_common (fun vs H Q E h => ?_) (fun cdv A outer s H vs Q E hr h => ?_)
  · obtain ⟨_, _, _, _, rfl, _⟩ := h
    rfl
  · obtain ⟨s, A', B', c, rfl, hS, g, h0, h1, k⟩ := h
    have n10 := g.n10
    have a0 := at_sgn (A := A') (B := B') (st := 0) g.eq h0 h1
    have a1 := at_sgn (A := A') (B := B') (st := 1) g.eq h0 h1
    have ge := g.eq
    refine ⟨_, (pss_cons (ps_ret (pe_cmpR (eqK K rfl hr.units) (pe_ix (ixK K rfl) (pe_ix (ixK K rfl) (pv 0) pe_int (fun _ _ => rfl)) (pv 1) (fun _ _ => rfl)) (pe_ix (ixK K rfl) (pe_ix (ixK K rfl) (pv 0) pe_int (fun _ _ => rfl)) (pv 1) (fun _ _ => rfl)) (nomark _)))
 pss_nil), ?_⟩
    refine go_st (σ := [some (.ref s), some (.int c)]) rfl ?_
    wtm_at "r"
    refine wp_ixS (l := A') (by omega) a0 ?_
    wtm_at "r"
    refine wp_ixS (l := B') (by omega) a1 ?_
    refine wp_eqS (i := [sgn A' B' 0 c]) (j := [sgn A' B' 1 c]) ?_
    have e : decide ([sgn A' B' 0 c] = [sgn A' B' 1 c]) = cmn A' B' c := by
      unfold cmn
      simp
    rw [e]
    exact k.out (exr H)
abbrev s_trimmed : Stmt := topS 27
abbrev n_trimmed : List Str := ["sets", "tape", "state", "many", "found", "here", "code"]
theorem sc_trimmed : FnScope n_trimmed ["sets", "tape", "state"] (defScope s_trimmed) := ⟨rfl, rfl, rfl, by decide +kernel, rfl, by decide +kernel, by decide +kernel⟩

def sp_trimmed (K : PySem.W.Frag) : Sp := fun vs H Q _ => ∃ (s t : Addr) (A B : List Nat) (cs : List Int) (st : Int), vs = [.ref s, .ref t, .int st] ∧ SetsAt K H s A B ∧ SqL K H t (il cs) ∧ Good A B ∧ CodesOk A.length cs ∧ cs.length ≤ 200 ∧ StOk st ∧
  RetN (.lst (il (trimR A B cs st st))) H Q
theorem wp_trimmed {o : Option Addr} {F : Hp} {Pq : V → Hp → Prop} {s t : Addr} {A B : List Nat} {cs : List Int} {st : Int} {E : XK} (hS : SetsAt K F s A B) (hT : SqL K F t (il cs)) (g : Good A B) (hc : CodesOk A.length cs) (cl : cs.length ≤ 200) (h : StOk st)
    (q : ∀ p, F p = none → Pq (.ref p) (upd F p (.lst (il (trimR A B cs st st))))) : Wp o (fun H Q => sp_trimmed K ([.ref s, .ref t, .int st] ++ []) H Q E) F Pq := fun H w Q k => ⟨s, t, A, B, cs, st, rfl, w.t hS, w.l hT, g, hc, cl, h, RetN.use w q k⟩
theorem pm_trimmed (D : DefAt K mg "trimmed" s_trimmed) (B : Bl mg) (g_need_all : Pm P w K mg base CX0 2 "need_all" ["sets", "tape", "state"] (sp_need_all K)) (g_is_common : Pm P w K mg base CX0 1 "is_common" ["sets", "code"] (sp_common K)) :
    Pm P w K mg base CX0 3 "trimmed" ["sets", "tape", "state"] (sp_trimmed K) := by
  obtain ⟨f, fd, F, hm⟩ := D
  refine ⟨f, fd, ?_, hm, F.kp, F.binds fun _ _ _ _ _ _ us hl => match us, hl with | [_, _, _], _ => rfl⟩
  refine F.ok sc_trimmed (fun vs H Q E h => ?_) (fun cdv A outer s H vs Q E hr h => ?_)
  · obtain ⟨_, _, _, _, _, _, rfl, _⟩ := h
    rfl
  · obtain ⟨s, t, A', B', cs, st, rfl, hS, hT, g, hc, cl, hst, k⟩ := h
    have n10 := g.n10
    refine ⟨_, (pss_cons (ps_expr (pe_pm g_need_all (hr.mono (by decide)) pass0 (pa_cons (pv 0) (pa_cons (pv 1) (pa_cons (pv 2) pa_nil)))))
 (pss_cons (ps_set (i := 3) sc_trimmed.nd rfl (Or.inl rfl) (pe_callB (lenK K rfl) (by rfl) B.len PySem.boot_len (pa_cons (pe_ix (ixK K rfl) (pv 0) pe_int (fun _ _ => rfl)) pa_nil)))
 (pss_cons (ps_set (i := 4) sc_trimmed.nd rfl (Or.inl rfl) (pe_lst pa_nil))
 (pss_cons (ps_set (i := 5) sc_trimmed.nd rfl (Or.inl rfl) (pv 2))
 (pss_cons (ps_for PassesOwn.never rfl (piL K rfl (pv 1)) (pg_name (i := 6) sc_trimmed.nd rfl (Or.inl rfl))
 (pss_cons (ps_if (pt_cmpR op_ge (pv 6) (pv 3) (nomark _))
 (pss_cons (ps_set (i := 2) sc_trimmed.nd rfl (Or.inl rfl) (pe_op op_sub (pv 6) (pv 3)))
 pss_nil)
 (Evl.pss_cut (ps_if (PW.pt (pw_and (pt_cmpR (neK K rfl hr.units) (pv 2) (pv 5) (nomark _)) (pw_and1 (pt_not (pt_val (pe_pm g_is_common (hr.mono (by decide)) pass0 (pa_cons (pv 0) (pa_cons (pv 6) pa_nil))))))))
 (pss_cons (ps_expr (bmK K rfl PySem.F.plainAttrs_list PySem.F.slot_list_append PySem.F.type_list_append mt_append (pv 4) (pa_cons (pe_op op_addP (pv 3) (pv 2)) pa_nil)))
 (pss_cons (ps_set (i := 5) sc_trimmed.nd rfl (Or.inl rfl) (pv 2))
 pss_nil))
 pss_nil)
 (pss_cons (ps_expr (bmK K rfl PySem.F.plainAttrs_list PySem.F.slot_list_append PySem.F.type_list_append mt_append (pv 4) (pa_cons (pv 6) pa_nil)))
 pss_nil)))
 pss_nil))
 (pss_cons (ps_ret (pv 4))
 pss_nil)))))), ?_⟩
    refine go_st (σ := [some (.ref s), some (.ref t), some (.int st), none, none, none, none]) rfl ?_
    wtm_at "r"
    refine wp_need_all hS hT g hc cl hst ?_
    wtm_at "r"
    refine ⟨Nat.zero_le _, fun q hq => ?_⟩
    wtm_at "r"
    refine go_forL (fun i σ F => ∃ y, σ = [some (.ref s), some (.ref t), some (.int (tfo A' B' (cs.take i) st).2.1), some (.int (A'.length : Nat)), some (.ref q), some (.int (tfo A' B' (cs.take i) st).2.2), y] ∧ Ex H F ∧ F q = some (.lst (il (tfo A' B' (cs.take i) st).1))) ?_
    wtm_at "r"
    refine ⟨t, il cs, rfl, ex_l (ex_new hq) hT, ⟨none, rfl, ex_new hq, upd_same⟩, fun i σ F hi ⟨_, _, e, _⟩ => ex_l e hT, ?_, ?_⟩
    · rintro i y σ F hy ⟨y0, rfl, e, hF⟩
      obtain ⟨c, hcy, rfl, hmem⟩ := il_at hy
      have hcc := hc c hmem
      obtain ⟨o1, o2⟩ := tfo_st (A := A') (B := B') hst (hc.take i)
      have hl := tfo_len A' B' (cs.take i) st
      have hl2 : (cs.take i).length ≤ cs.length := List.length_take_le' _ _
      have step := tfo_take (A := A') (B := B') (st := st) hcy
      revert step o1 o2 hl hF
      generalize tfo A' B' (cs.take i) st = X
      obtain ⟨fo, st1, here⟩ := X
      intro hF o1 o2 hl step
      wtm_at "r"
      refine ⟨fun hge => ?_, fun hlt => ?_⟩
      · have hge : ¬ c < (A'.length : Int) := by have := of_decide_eq_true hge; omega
        wtm_at "r"
        refine go_turn rfl ⟨some (.int c), ?_, e, ?_⟩
        · rw [step]
          unfold tst
          rw [if_neg hge]
          rfl
        · rw [step]
          unfold tst
          rw [if_neg hge]
          exact hF
      · have hlt : c < (A'.length : Int) := by have := of_decide_eq_false hlt; omega
        have step : tfo A' B' (cs.take (i + 1)) st = if st1 ≠ here ∧ cmn A' B' c = false then (fo ++ [(A'.length : Int) + st1] ++ [c], st1, st1) else (fo ++ [c], st1, here) := by
          rw [step]
          unfold tst
          rw [if_pos hlt]
        wtm_at "r"
        refine go_cut (fun σ F1 => ∃ h2 fo2, tfo A' B' (cs.take (i + 1)) st = (fo2 ++ [c], st1, h2) ∧ fo2.length ≤ 401 ∧ σ = [some (.ref s), some (.ref t), some (.int st1), some (.int (A'.length : Nat)), some (.ref q), some (.int h2), some (.int c)] ∧ Ex H F1 ∧ F1 q = some (.lst (il fo2))) ?_ ?_
        · wtm_at "r"
          refine ⟨fun hne => ?_, fun heq => ?_⟩
          · have hne : st1 ≠ here := by simpa using hne
            wtm_at "r"
            refine wp_common (ex_t e hS) g hcc.1 hlt ?_
            wtm_at "r"
            refine ⟨fun hb => ?_, fun hb => ?_⟩
            · have hb : cmn A' B' c = false := by simpa using hb
              wtm_at "r"
              refine wp_bmL ?_
              wtm_at "r"
              refine ⟨q, _, rfl, SqL.of hF, ?_⟩
              wtm_at "r"
              refine wp_append hF (by rw [List.length_map]; show fo.length < _; have : fo.length ≤ _ := hl; omega) ?_
              wtm_at "r"
              refine go_turn rfl ⟨st1, fo ++ [(A'.length : Int) + st1], ?_, ?_, rfl, ex_mut e hq, ?_⟩
              · rw [step, if_pos ⟨hne, hb⟩]
              · have : fo.length ≤ _ := hl
                rw [List.length_append, List.length_singleton]
                omega
              · rw [upd_same]
                exact congrArg (fun z => some (HO.lst z)) (il_snoc fo _)
            · have hb : cmn A' B' c = true := by simpa using hb
              wtm_at "r"
              apply go_turn rfl
              refine ⟨here, fo, ?_, ?_, rfl, e, hF⟩
              · rw [step, if_neg fun z => by rw [hb] at z; cases z.2]
              · have : fo.length ≤ _ := hl
                omega
          · have heq : st1 = here := by simpa using heq
            refine bF rfl ?_
            refine go_turn rfl ⟨here, fo, ?_, ?_, rfl, e, hF⟩
            · rw [step, if_neg fun z => z.1 heq]
            · have : fo.length ≤ _ := hl
              omega
        · rintro σ F1 ⟨h2, fo2, es, el, rfl, e1, q1⟩
          wtm_at "r"
          refine wp_bmL ?_
          wtm_at "r"
          refine ⟨q, _, rfl, SqL.of q1, ?_⟩
          wtm_at "r"
          refine wp_append q1 (by rw [List.length_map]; omega) ?_
          wtm_at "r"
          refine go_turn rfl ⟨some (.int c), ?_, ex_mut e1 hq, ?_⟩
          · rw [es]
          · rw [es, upd_same]
            exact congrArg (fun z => some (HO.lst z)) (il_snoc fo2 _)
    · rintro σ F ⟨y0, rfl, e, hF⟩
      rw [List.length_map, List.take_length, tfo_trim] at hF
      wtm_at "r"
      exact k.out e hq hF
end
/-! ### what the writer computes -/
def codeOf (A B : List Nat) (st : Int) (t : Nat) : Option Int := if t ∈ rowS A B st then some (((rowS A B st).idxOf t : Nat) : Int) else none
def pickF : Option (List Int) → Option (List Int) → Bool
  | none, _ => true
  | some _, none => false
  | some a, some b => lenLt b a
/-- the shorter, the lesser of two as short -/
def shF (a b : Option (List Int)) : Option (List Int) := if pickF a b = true then b else a
def ahF (cs : List Int) (r : Option (List Int)) : Option (List Int) := r.map fun l => cs ++ l
def sgF (A B : List Nat) (most : Int) (t : Nat) (rest : Int → Option Int → Option (List Int)) (st : Int) (op : Option Int) : Option (List Int) :=
  match codeOf A B st t with
  | none => none
  | some c => match op with
    | none => ahF [c] (rest st none)
    | some k => if cmn A B c = true then ahF [c] (rest st (some k)) else if most < k + 1 then none else ahF [c] (rest st (some (k + 1)))
def reF (A B : List Nat) (most : Int) : List Nat → Int → Option Int → Option (List Int)
  | [], _, _ => some []
  | t :: r, st, op =>
    shF (let b := shF (sgF A B most t (reF A B most r) st op) (ahF [(A.length : Int) + 1 - st] (sgF A B most t (reF A B most r) (1 - st) (some 0)))
      if op = none then b else shF b (ahF [(A.length : Int) + st] (sgF A B most t (reF A B most r) st none)))
      (ahF [(A.length : Int) + 1 - st, (A.length : Int) + 1 - st] (sgF A B most t (reF A B most r) (1 - st) none))
def LenLe (m : Nat) (r : Option (List Int)) : Prop := ∀ l, r = some l → l.length ≤ m
theorem shF_le {m : Nat} {a b : Option (List Int)} (ha : LenLe m a) (hb : LenLe m b) : LenLe m (shF a b) := by
  unfold shF
  split
  · exact hb
  · exact ha
theorem ahF_le {m : Nat} {cs : List Int} {r : Option (List Int)} (h : LenLe m r) : LenLe (m + cs.length) (ahF cs r) := fun l e => by
  unfold ahF at e
  obtain ⟨x, h1, rfl⟩ := Option.map_eq_some_iff.mp e
  have := h x h1
  rw [List.length_append]
  omega
theorem LenLe.mono {m n : Nat} {r : Option (List Int)} (h : LenLe m r) (hn : m ≤ n) : LenLe n r := fun l e => Nat.le_trans (h l e) hn
theorem sgF_le {A B : List Nat} {most : Int} {t : Nat} {rest : Int → Option Int → Option (List Int)} {m : Nat} (h : ∀ st op, LenLe m (rest st op)) (st : Int) (op : Option Int) : LenLe (m + 1) (sgF A B most t rest st op) := by
  unfold sgF
  cases codeOf A B st t with
  | none => intro l e; cases e
  | some c =>
    cases op with
    | none => exact ahF_le (cs := [c]) (h _ _)
    | some k =>
      show LenLe _ (if _ then _ else _)
      split
      · exact ahF_le (cs := [c]) (h _ _)
      · split
        · intro l e; cases e
        · exact ahF_le (cs := [c]) (h _ _)
theorem reF_le (A B : List Nat) (most : Int) : ∀ (l : List Nat) (st : Int) (op : Option Int), LenLe (3 * l.length) (reF A B most l st op)
  | [], st, op => fun l e => by
    have e : some [] = some l := e
    cases e
    exact Nat.le_refl _
  | t :: r, st, op => by
    have ih := reF_le A B most r
    have s1 := fun st op => sgF_le (A := A) (B := B) (most := most) (t := t) ih st op
    unfold reF
    rw [List.length_cons]
    refine shF_le ?_ ((ahF_le (s1 _ _)).mono (by simp only [List.length_cons, List.length_nil]; omega))
    show LenLe _ (if op = none then _ else _)
    have b2 : LenLe (3 * (r.length + 1)) (shF (sgF A B most t (reF A B most r) st op) (ahF [(A.length : Int) + 1 - st] (sgF A B most t (reF A B most r) (1 - st) (some 0)))) := shF_le ((s1 _ _).mono (by omega)) ((ahF_le (s1 _ _)).mono (by simp only [List.length_cons, List.length_nil]; omega))
    split
    · exact b2
    · exact shF_le b2 ((ahF_le (s1 _ _)).mono (by simp only [List.length_cons, List.length_nil]; omega))
/-- the text's signs stand in some set -/
def InSets (A B : List Nat) (l : List Nat) : Prop := ∀ t ∈ l, t ∈ A ∨ t ∈ B
theorem codeOf_some {A B : List Nat} {st : Int} {t : Nat} (h : t ∈ rowS A B st) : codeOf A B st t = some (((rowS A B st).idxOf t : Nat) : Int) := by
  unfold codeOf
  rw [if_pos h]
theorem codeOf_lt {A B : List Nat} (hB : B.length = A.length) {st : Int} {t : Nat} {c : Int} (h : codeOf A B st t = some c) : 0 ≤ c ∧ c < (A.length : Int) ∧ sgn A B st c = t := by
  unfold codeOf at h
  split at h
  · rename_i hm
    cases h
    have h2 := List.idxOf_lt_length_iff.mpr hm
    have h3 := row_len (A := A) (B := B) hB st
    refine ⟨by omega, by omega, ?_⟩
    unfold sgn
    rw [Int.toNat_natCast, List.getD_eq_getElem?_getD, List.getElem?_eq_getElem h2, List.getElem_idxOf]
    rfl
  · cases h
theorem shF_some_r {a b : Option (List Int)} (h : b.isSome = true) : (shF a b).isSome = true := by
  unfold shF
  split
  · exact h
  · rename_i h2
    cases a with
    | none => exact absurd rfl h2
    | some x => rfl
theorem shF_some_l {a b : Option (List Int)} (h : a.isSome = true) : (shF a b).isSome = true := by
  unfold shF
  split
  · rename_i h2
    cases a with
    | none => cases h
    | some x =>
      cases b with
      | none => cases h2
      | some y => rfl
  · exact h
theorem ahF_some {cs : List Int} {r : Option (List Int)} (h : r.isSome = true) : (ahF cs r).isSome = true := by
  unfold ahF
  rw [Option.isSome_map]
  exact h
theorem reF_some {A B : List Nat} {most : Int} : ∀ {l : List Nat} {st : Int} {op : Option Int}, InSets A B l → StOk st → (reF A B most l st op).isSome = true
  | [], _, _, _, _ => rfl
  | t :: r, st, op, h, hs => by
    have ih : ∀ {st : Int} {op : Option Int}, StOk st → (reF A B most r st op).isSome = true := fun hs => reF_some (fun x hx => h x (List.mem_cons_of_mem _ hx)) hs
    have sg : ∀ st, StOk st → t ∈ rowS A B st → (sgF A B most t (reF A B most r) st none).isSome = true := fun st hs hm => by
      unfold sgF
      rw [codeOf_some hm]
      exact ahF_some (ih hs)
    unfold reF
    have hs2 : StOk (1 - st) := by unfold StOk at hs ⊢; omega
    have two : t ∈ rowS A B st ∨ t ∈ rowS A B (1 - st) := by
      rcases h t List.mem_cons_self with h | h
      · rcases hs with e | e
        · left; rw [e]; exact h
        · right; rw [e]; exact h
      · rcases hs with e | e
        · right; rw [e]; exact h
        · left; rw [e]; exact h
    rcases two with hm | hm
    · refine shF_some_l ?_
      show (if op = none then _ else _ : Option (List Int)).isSome = true
      by_cases e : op = none
      · rw [if_pos e]
        refine shF_some_l ?_
        rw [e]
        exact sg st hs hm
      · rw [if_neg e]
        exact shF_some_r (ahF_some (sg st hs hm))
    · exact shF_some_r (ahF_some (sg _ hs2 hm))
section
variable {P : Program} {w : World} {K : PySem.W.Frag} {mg : Str → Option Value} {base : Heap}
abbrev s_q_text : Stmt := topS 45
abbrev n_q_text : List Str := ["_law_d", "_law_sets_here", "_law_most", "_law_found", "_law_row", "_law_k"]
theorem sc_q_text : FnScope n_q_text ["_law_d", "_law_sets_here", "_law_most"] (defScope s_q_text) := ⟨rfl, rfl, rfl, by decide +kernel, rfl, by decide +kernel, by decide +kernel⟩

def sp_text (K : PySem.W.Frag) : Sp := fun vs H Q _ => ∃ (d s : Addr) (A B : List Nat) (most : Nat), vs = [.ref d, .ref s, .int (most : Int)] ∧ Dc H d ∧ SetsAt K (rm H d) s A B ∧ Good A B ∧ most ≤ 1000 ∧
  ∀ (T : List Nat) (H1 : Hp), InSets A B T → T.length ≤ most → Ex (rm H d) H1 → Dc H1 d → Q (.str (tx T)) H1
theorem wp_text {d s : Addr} {F : Hp} {Pq : V → Hp → Prop} {A B : List Nat} {most : Nat} {E : XK} (h : SetsAt K F s A B) (g : Good A B) (hm : most ≤ 1000) (q : ∀ T : List Nat, InSets A B T → T.length ≤ most → Pq (.str (tx T)) F) :
    Wp (some d) (fun H Q => sp_text K ([.ref d, .ref s, .int (most : Int)] ++ []) H Q E) F Pq := fun H w Q k =>
  ⟨d, s, A, B, most, rfl, (w.dc d rfl).2, ex_t (ex_to_rm w.ex (w.dc d rfl).1) h, g, hm, fun T H1 h1 h2 e hu => k _ _ F ⟨(ex_to_rm w.ex (w.dc d rfl).1).trans e, fun b z => by cases z; exact ⟨(w.dc d rfl).1, hu⟩⟩ (q T h1 h2)⟩
theorem row_in {A B : List Nat} {st : Int} {t : Nat} (h : t ∈ rowS A B st) : t ∈ A ∨ t ∈ B := by
  unfold rowS at h
  split at h
  · exact .inl h
  · exact .inr h
theorem pm_text (D : DefAt K mg "_law_text" s_q_text) (B : Bl mg) (g_q_off : Pm P w K mg base CX0 1 "_law_off" ["_law_d", "_law_most"] sp_off) : Pm P w K mg base CX0 2 "_law_text" ["_law_d", "_law_sets_here", "_law_most"] (sp_text K) := by
  obtain ⟨f, fd, F, hm⟩ := D
  refine ⟨f, fd, ?_, hm, F.kp, F.binds fun _ _ _ _ _ _ us hl => match us, hl with | [_, _, _], _ => rfl⟩
  refine F.ok sc_q_text (fun vs H Q E h => ?_) (fun cdv A outer s H vs Q E hr h => ?_)
  · obtain ⟨_, _, _, _, _, rfl, _⟩ := h
    rfl
  · obtain ⟨d, s, A', B', most, rfl, hd, hS, g, hm, k⟩ := h
    have n1 := g.n1
    have n10 := g.n10
    have ge := g.eq
    refine ⟨_, (pss_cons (ps_set (i := 3) sc_q_text.nd rfl (Or.inl rfl) (pe_strT (l := []) (by decide +kernel)))
 (pss_cons (ps_set (i := 4) sc_q_text.nd rfl (Or.inl rfl) (pe_ix (ixK K rfl) (pv 1) pe_int (fun _ _ => rfl)))
 (pss_cons (ps_for PassesOwn.never rfl (pi_range1 (by rfl) B.range (pa_cons (pe_pm g_q_off (hr.mono (by decide)) pass0 (pa_cons (pv 0) (pa_cons (pe_op op_addP (pv 2) pe_int) pa_nil))) pa_nil)) (pg_name (i := 5) sc_q_text.nd rfl (Or.inl rfl))
 (Evl.pss_cut (ps_if (pt_cmpR (eqK K rfl hr.units) (pe_pm g_q_off (hr.mono (by decide)) pass0 (pa_cons (pv 0) (pa_cons pe_int pa_nil))) pe_int (nomark _))
 (pss_cons (ps_set (i := 4) sc_q_text.nd rfl (Or.inl rfl) (pe_ix (ixK K rfl) (pv 1) (pe_pm g_q_off (hr.mono (by decide)) pass0 (pa_cons (pv 0) (pa_cons pe_int pa_nil))) (fun _ _ => rfl)))
 pss_nil)
 pss_nil)
 (pss_cons (ps_set (i := 3) sc_q_text.nd rfl (Or.inl rfl) (pe_op op_addP (pv 3) (pe_ix (ixK K rfl) (pv 4) (pe_pm g_q_off (hr.mono (by decide)) pass0 (pa_cons (pv 0) (pa_cons (pe_callB (lenK K rfl) (by rfl) B.len PySem.boot_len (pa_cons (pv 4) pa_nil)) pa_nil))) (fun _ _ => rfl))))
 pss_nil)))
 (pss_cons (ps_ret (pv 3))
 pss_nil)))), ?_⟩
    refine go_stD (σ := [some (.ref d), some (.ref s), some (.int (most : Int)), none, none, none]) hd rfl ?_
    wtm_at "r"
    refine go_forR (fun i σ F => ∃ (T : List Nat) (st : Int) (x : Option V), σ = [some (.ref d), some (.ref s), some (.int (most : Int)), some (.str (tx T)), some (.str (tx (rowS A' B' st))), x] ∧ Ex (rm H d) F ∧ InSets A' B' T ∧ T.length ≤ i) ?_
    wtm_at "r"
    refine wp_off (by omega) (by omega) fun n hn => ?_
    wtm_at "r"
    refine ⟨n, rfl, by omega, ⟨[], 0, none, rfl, exr _, (fun c h => by cases h), Nat.le_refl _⟩, ?_, ?_⟩
    · rintro i σ F hi ⟨T, st, x, rfl, e, hT, hl⟩
      have hS2 := ex_t e hS
      refine go_cut (fun σ F => ∃ st2 : Int, σ = [some (.ref d), some (.ref s), some (.int (most : Int)), some (.str (tx T)), some (.str (tx (rowS A' B' st2))), some (.int (i : Int))] ∧ Ex (rm H d) F) ?_ ?_
      · wtm_at "r"
        refine wp_off (by omega) (by omega) fun r1 _ => ?_
        wtm_at "r"
        refine ⟨fun _ => ?_, fun _ => ?_⟩
        · wtm_at "r"
          refine wp_off (by omega) (by omega) fun r2 h2 => ?_
          wtm_at "r"
          have h3 : StOk (r2 : Int) := by unfold StOk; omega
          refine wp_ixT hS2 (at_row h3) ?_
          wtm_at "r"
          exact go_turn rfl ⟨(r2 : Int), rfl, e⟩
        · exact go_turn rfl ⟨st, rfl, e⟩
      · rintro σ F ⟨st2, rfl, e⟩
        have rl := row_len (A := A') (B := B') g.eq st2
        wtm_at "r"
        refine wp_off (by omega) (by omega) fun c hc => ?_
        wtm_at "r"
        have hc2 : c < (rowS A' B' st2).length := by omega
        refine wp_ixS (by omega) (atI_nat (List.getElem?_eq_getElem hc2)) ?_
        refine wp_addS (j := [(rowS A' B' st2)[c]]) (by simp only [List.length_singleton]; omega) ?_
        wtm_at "r"
        refine go_turn rfl ⟨T ++ [(rowS A' B' st2)[c]], st2, _, rfl, e, fun t ht => ?_, by rw [List.length_append, List.length_singleton]; omega⟩
        rcases List.mem_append.mp ht with h | h
        · exact hT t h
        · rw [List.mem_singleton.mp h]
          exact row_in (List.getElem_mem hc2)
    · rintro σ F ⟨T, st, x, rfl, e, hT, hl⟩
      wtm_at "r"
      intro H1 w1
      exact k T H1 hT (by omega) (e.trans w1.ex) (w1.dc d rfl).2
end
/-- a result: a list, or None -/
def RsAt (H : Hp) (v : V) (r : Option (List Int)) : Prop := match r with
  | none => v = .non
  | some l => ∃ p, v = .ref p ∧ H p = some (.lst (il l))
/-- .. a list that H0 does not hold -/
def RsNew (H0 H : Hp) (v : V) (r : Option (List Int)) : Prop := match r with
  | none => v = .non
  | some l => ∃ p, v = .ref p ∧ H0 p = none ∧ H p = some (.lst (il l))
theorem RsNew.at {H0 H : Hp} {v : V} {r : Option (List Int)} (h : RsNew H0 H v r) : RsAt H v r := by
  cases r with
  | none => exact h
  | some l =>
    obtain ⟨p, e, _, h⟩ := h
    exact ⟨p, e, h⟩
theorem RsAt.up {H H1 : Hp} {v : V} {r : Option (List Int)} (e : Ex H H1) (h : RsAt H v r) : RsAt H1 v r := by
  cases r with
  | none => exact h
  | some l =>
    obtain ⟨p, e1, h⟩ := h
    exact ⟨p, e1, e _ _ h⟩
theorem RsNew.up {H0 H H1 : Hp} {v : V} {r : Option (List Int)} (e : Ex H H1) (h : RsNew H0 H v r) : RsNew H0 H1 v r := by
  cases r with
  | none => exact h
  | some l =>
    obtain ⟨p, e1, e2, h⟩ := h
    exact ⟨p, e1, e2, e _ _ h⟩
theorem RsNew.down {H0 H00 H : Hp} {v : V} {r : Option (List Int)} (e : Ex H00 H0) (h : RsNew H0 H v r) : RsNew H00 H v r := by
  cases r with
  | none => exact h
  | some l =>
    obtain ⟨p, e1, e2, h⟩ := h
    exact ⟨p, e1, e.free e2, h⟩
theorem RsNew.pick {H0 H : Hp} {x y : V} {a b : Option (List Int)} (hx : RsNew H0 H x a) (hy : RsNew H0 H y b) : RsNew H0 H (if pickF a b = true then y else x) (shF a b) := by
  unfold shF
  split
  · exact hy
  · exact hx
def cV : Option Int → V
  | none => .non
  | some c => .int c
section
variable {P : Program} {w : World} {K : PySem.W.Frag} {mg : Str → Option Value} {base : Heap}
abbrev s_shorter : Stmt := topS 22
abbrev n_shorter : List Str := ["one", "other"]
theorem sc_shorter : FnScope n_shorter ["one", "other"] (defScope s_shorter) := ⟨rfl, rfl, rfl, by decide +kernel, rfl, by decide +kernel, by decide +kernel⟩

def sp_shorter : Sp := fun vs H Q _ => ∃ (x y : V) (a b : Option (List Int)), vs = [x, y] ∧ RsAt H x a ∧ RsAt H y b ∧ RetV (if pickF a b = true then y else x) H Q
theorem wp_shorter {o : Option Addr} {F : Hp} {Pq : V → Hp → Prop} {x y : V} {a b : Option (List Int)} {E : XK} (hx : RsAt F x a) (hy : RsAt F y b) (q : Pq (if pickF a b = true then y else x) F) : Wp o (fun H Q => sp_shorter ([x, y] ++ []) H Q E) F Pq :=
  fun H w Q k => ⟨x, y, a, b, rfl, hx.up w.ex, hy.up w.ex, RetV.use w q k⟩
theorem wp_leD {o : Option Addr} {F : Hp} {Pq : V → Hp → Prop} {x y : Addr} {p q : Addr} {a b : List Int} (h1 : F x = some (.tup [.int a.length, .ref p])) (h2 : F p = some (.lst (il a))) (h3 : F y = some (.tup [.int b.length, .ref q])) (h4 : F q = some (.lst (il b)))
    (k : Pq (.bl (!lenLt b a)) F) : Wp o (rLeD K (.ref x) (.ref y)) F Pq := fun H w Q kk =>
  ⟨.tuple [.int a.length, .list (dI a)], .tuple [.int b.length, .list (dI b)], Dp.up w.ex (.tup (SqT.of h1) (.cons (.int _) (.cons (dp_I (SqL.of h2)) .nil))), Dp.up w.ex (.tup (SqT.of h3) (.cons (.int _) (.cons (dp_I (SqL.of h4)) .nil))),
    (by
      show (true && (PySem.W.alikeAll (dI a) (dI b) && true)) = true
      rw [alike_I]
      rfl), (fun z => by cases z), (by
      refine Nat.le_trans (Nat.min_le_left _ _) ?_
      show PyData.depthAll [.int a.length, .list (dI a)] + 1 ≤ 60
      have h0 : PyData.depthAll (dI a) ≤ 0 := depth_all fun d hd => by
        obtain ⟨c, _, rfl⟩ := List.mem_map.mp hd; exact Nat.le_refl _
      have : PyData.depthAll [.int a.length, .list (dI a)] ≤ 1 := depth_all fun d hd => by
        simp only [List.mem_cons, List.not_mem_nil, or_false] at hd
        rcases hd with rfl | rfl
        · exact Nat.zero_le _
        · show PyData.depthAll (dI a) + 1 ≤ 1
          omega
      omega), by rw [lt_LI]; exact kk _ H F w k⟩
theorem pm_shorter (D : DefAt K mg "shorter" s_shorter) (B : Bl mg) : Pm P w K mg base CX0 1 "shorter" ["one", "other"] sp_shorter := by
  obtain ⟨f, fd, F, hm⟩ := D
  refine ⟨f, fd, ?_, hm, F.kp, F.binds fun _ _ _ _ _ _ us hl => match us, hl with | [_, _], _ => rfl⟩
  refine F.ok sc_shorter (fun vs H Q E h => ?_) (fun cdv A outer s H vs Q E hr h => ?_)
  · obtain ⟨_, _, _, _, rfl, _⟩ := h
    rfl
  · obtain ⟨x, y, a, b, rfl, hx, hy, k⟩ := h
    refine ⟨_, (pss_cons (ps_if (PW.pt (pw_or (pt_cmpR op_isNs (pv 0) pe_non (nomark _)) (pw_or1 (pt_cmpR op_isNs (pv 1) pe_non (nomark _)))))
 (pss_cons (ps_ret (pe_ifExp (pt_cmpR op_isNs (pv 1) pe_non (nomark _)) (pv 0) (pv 1)))
 pss_nil)
 pss_nil)
 (pss_cons (ps_ret (pe_ifExp (pt_cmpR (leDK K rfl hr.units) (pe_tup (pa_cons (pe_callB (lenK K rfl) (by rfl) B.len PySem.boot_len (pa_cons (pv 0) pa_nil)) (pa_cons (pv 0) pa_nil))) (pe_tup (pa_cons (pe_callB (lenK K rfl) (by rfl) B.len PySem.boot_len (pa_cons (pv 1) pa_nil)) (pa_cons (pv 1) pa_nil))) (nomark _)) (pv 0) (pv 1)))
 pss_nil)), ?_⟩
    refine go_st (σ := [some (x), some (y)]) rfl ?_
    cases a with
    | none =>
      have hx : x = .non := hx
      subst hx
      wtm_at "r"
      refine bT rfl ?_
      wtm_at "r"
      refine bT rfl ?_
      wtm_at "r"
      refine ⟨fun h => ?_, fun h => ?_⟩
      · have h : y = .non := of_decide_eq_true h
        wtm_at "r"
        have k2 := k.out (o := none) (exr H)
        rw [h] at k2
        exact k2
      · wtm_at "r"
        exact k.out (exr H)
    | some l1 =>
      obtain ⟨p, rfl, hp⟩ := hx
      cases b with
      | none =>
        have hy : y = .non := hy
        subst hy
        wtm_at "r"
        refine bF rfl ?_
        wtm_at "r"
        refine bT rfl ?_
        wtm_at "r"
        refine bT rfl ?_
        wtm_at "r"
        exact k.out (exr H)
      | some l2 =>
        obtain ⟨q, rfl, hq⟩ := hy
        wtm_at "r"
        refine bF rfl ?_
        wtm_at "r"
        refine bF rfl ?_
        wtm_at "r"
        try (refine wp_lenL (SqL.of hp) ?_)
        wtm_at "r"
        refine ⟨(by show 2 ≤ 100000; decide), ?_⟩
        wtm_at "gz"
        intro t1 ht1 F1 q1 e1
        wtm_at "r"
        try (refine wp_lenL (SqL.of (e1 _ _ hq)) ?_)
        wtm_at "r"
        refine ⟨(by show 2 ≤ 100000; decide), ?_⟩
        wtm_at "gz"
        intro t2 ht2 F2 q2 e2
        rw [List.length_map] at q1 q2
        refine wp_leD (e2 _ _ q1) (e2 _ _ (e1 _ _ hp)) q2 (e2 _ _ (e1 _ _ hq)) ?_
        wtm_at "r"
        refine ⟨fun h => ?_, fun h => ?_⟩
        · wtm_at "r"
          have h : lenLt l2 l1 = false := by simpa using h
          have k2 := k.out (o := none) (e1.trans e2)
          rw [show pickF (some l1) (some l2) = lenLt l2 l1 from rfl, h] at k2
          exact k2
        · wtm_at "r"
          have h : lenLt l2 l1 = true := by simpa using h
          have k2 := k.out (o := none) (e1.trans e2)
          rw [show pickF (some l1) (some l2) = lenLt l2 l1 from rfl, h] at k2
          exact k2
abbrev s_codes_of : Stmt := topS 17
abbrev n_codes_of : List Str := ["sets", "sign", "row"]
theorem sc_codes_of : FnScope n_codes_of ["sets", "sign"] (defScope s_codes_of) := ⟨rfl, rfl, rfl, by decide +kernel, rfl, by decide +kernel, by decide +kernel⟩

def sp_codes_of (K : PySem.W.Frag) : Sp := fun vs H Q _ => ∃ (s : Addr) (A B : List Nat) (t : Nat), vs = [.ref s, sg t] ∧ SetsAt K H s A B ∧ A.length ≤ 100 ∧ B.length ≤ 100 ∧ RetN (.lst [cV (codeOf A B 0 t), cV (codeOf A B 1 t)]) H Q
theorem wp_codes_of {o : Option Addr} {F : Hp} {Pq : V → Hp → Prop} {s : Addr} {A B : List Nat} {t : Nat} {E : XK} (hS : SetsAt K F s A B) (n1 : A.length ≤ 100) (n2 : B.length ≤ 100) (q : ∀ p, F p = none → Pq (.ref p) (upd F p (.lst [cV (codeOf A B 0 t), cV (codeOf A B 1 t)]))) :
    Wp o (fun H Q => sp_codes_of K ([.ref s, sg t] ++ []) H Q E) F Pq := fun H w Q k => ⟨s, A, B, t, rfl, w.t hS, n1, n2, RetN.use w q k⟩
theorem pm_codes_of (D : DefAt K mg "codes_of" s_codes_of) (B : Bl mg) : Pm P w K mg base CX0 1 "codes_of" ["sets", "sign"] (sp_codes_of K) := by
  obtain ⟨f, fd, F, hm⟩ := D
  refine ⟨f, fd, ?_, hm, F.kp, F.binds fun _ _ _ _ _ _ us hl => match us, hl with | [_, _], _ => rfl⟩
  refine F.ok sc_codes_of (fun vs H Q E h => ?_) (fun cdv A outer s H vs Q E hr h => ?_)
  · obtain ⟨_, _, _, _, rfl, _⟩ := h
    rfl
  · obtain ⟨s, A', B', t, rfl, hS, n1, n2, k⟩ := h
    refine ⟨_, (pss_cons (ps_ret (pe_lc (own := [("row", 2)]) (g := gName 2) (tt := tYes) rfl sc_codes_of.nd (piT K rfl (pv 0)) (blkOk_by (N := n_codes_of) (sc := defScope s_codes_of) (by decide +kernel)) (fun _ _ _ _ _ => pg_name (i := 2) sc_codes_of.nd rfl (Or.inl rfl)) (fun _ _ _ _ _ => pts_nil) (fun _ _ _ _ _ => (pe_ifExp (pt_cmpR (inK K rfl) (pv 1) (pv 2) (by rfl)) (bmK K rfl PySem.F.plainAttrs_str PySem.F.slot_str_index PySem.F.type_str_index mt_indexS (pv 2) (pa_cons (pv 1) pa_nil)) pe_non))))
 pss_nil), ?_⟩
    refine go_st (σ := [some (.ref s), some (sg t), none]) rfl ?_
    wtm_at "r"
    refine wp_lcT (fun _ => rfl) ?_
    wtm_at "r"
    refine ⟨s, _, rfl, hS, fun Dl hD => ⟨fun i acc F => acc = [cV (codeOf A' B' 0 t), cV (codeOf A' B' 1 t)].take i ∧ Ex H F, ⟨rfl, ex_new hD⟩, fun i acc F ⟨_, e⟩ => ex_t e hS, ?_, ?_⟩⟩
    · rintro i x acc F hx q2 ⟨rfl, e⟩
      have hi : i < 2 := (List.getElem?_eq_some_iff.mp hx).1
      obtain ⟨l, st, rfl, hl, hrow, hn⟩ : ∃ (l : List Nat) (st : Int), x = .str (tx l) ∧ l.length ≤ 100 ∧ rowS A' B' st = l ∧ [cV (codeOf A' B' 0 t), cV (codeOf A' B' 1 t)].take (i + 1) = [cV (codeOf A' B' 0 t), cV (codeOf A' B' 1 t)].take i ++ [cV (codeOf A' B' st t)] := by
        match i, hi, hx with
        | 0, _, hx => cases hx; exact ⟨A', 0, rfl, n1, rfl, rfl⟩
        | 1, _, hx => cases hx; exact ⟨B', 1, rfl, n2, rfl, rfl⟩
      show Wp _ _ _ _
      wtm_at "r"
      refine ⟨fun _ => ?_, fun z => (by cases z)⟩
      wtm_at "r"
      have hlt : ([cV (codeOf A' B' 0 t), cV (codeOf A' B' 1 t)].take i).length < 100000 := by rw [List.length_take]; show min i 2 < _; omega
      refine ⟨fun hm => ?_, fun hm => ?_⟩
      · have hm : t ∈ l := of_decide_eq_true hm
        wtm_at "r"
        refine wp_bmS ?_
        wtm_at "r"
        refine wp_indexS hm ?_
        refine ⟨q2, hlt, ?_, ex_mut e hD⟩
        have ec : codeOf A' B' st t = some ((l.idxOf t : Nat) : Int) := by
          rw [codeOf_some (by rw [hrow]; exact hm), hrow]
        rw [hn, ec]
        rfl
      · have hm : t ∉ l := of_decide_eq_false hm
        wtm_at "r"
        refine ⟨q2, hlt, ?_, ex_mut e hD⟩
        have ec : codeOf A' B' st t = none := by
          unfold codeOf
          rw [if_neg (by rw [hrow]; exact hm)]
        rw [hn, ec]
        rfl
    · rintro acc F q2 ⟨rfl, e⟩
      exact k.out e hD q2
abbrev s_need_text : Stmt := topS 18
abbrev n_need_text : List Str := ["sets", "text", "at", "sign"]
theorem sc_need_text : FnScope n_need_text ["sets", "text"] (defScope s_need_text) := ⟨rfl, rfl, rfl, by decide +kernel, rfl, by decide +kernel, by decide +kernel⟩

def sp_need_text (K : PySem.W.Frag) : Sp := fun vs H Q _ => ∃ (s : Addr) (A B l : List Nat), vs = [.ref s, .str (tx l)] ∧ SetsAt K H s A B ∧ A.length ≤ 100 ∧ B.length ≤ 100 ∧ InSets A B l ∧ RetV .non H Q
theorem wp_need_text {o : Option Addr} {F : Hp} {Pq : V → Hp → Prop} {s : Addr} {A B l : List Nat} {E : XK} (hS : SetsAt K F s A B) (n1 : A.length ≤ 100) (n2 : B.length ≤ 100) (hl : InSets A B l) (q : Pq .non F) : Wp o (fun H Q => sp_need_text K ([.ref s, .str (tx l)] ++ []) H Q E) F Pq :=
  fun H w Q k => ⟨s, A, B, l, rfl, w.t hS, n1, n2, hl, RetV.use w q k⟩
theorem dp_cV {F : Hp} (c : Option Int) : Dp K F (cV c) (match c with | none => .none | some c => .int c) := by
  cases c with
  | none => exact .non
  | some c => exact .int c
theorem pm_need_text (D : DefAt K mg "need_text" s_need_text) (B : Bl mg) (g_codes_of : Pm P w K mg base CX0 1 "codes_of" ["sets", "sign"] (sp_codes_of K)) : Pm P w K mg base CX0 2 "need_text" ["sets", "text"] (sp_need_text K) := by
  obtain ⟨f, fd, F, hm⟩ := D
  refine ⟨f, fd, ?_, hm, F.kp, F.binds fun _ _ _ _ _ _ us hl => match us, hl with | [_, _], _ => rfl⟩
  refine F.ok sc_need_text (fun vs H Q E h => ?_) (fun cdv A outer s H vs Q E hr h => ?_)
  · obtain ⟨_, _, _, _, rfl, _⟩ := h
    rfl
  · obtain ⟨s, A', B', l, rfl, hS, n1, n2, hl, k⟩ := h
    refine ⟨_, (pss_cons (ps_for PassesOwn.never rfl (pi_enumS B.enumerate (pa_cons (pv 1) pa_nil)) (pgT K rfl (n := 2) rfl (pgs_cons (pg_name (i := 2) sc_need_text.nd rfl (Or.inl rfl)) (pgs_cons (pg_name (i := 3) sc_need_text.nd rfl (Or.inl rfl)) pgs_nil)))
 (pss_cons (ps_if (pt_cmpR (eqK K rfl hr.units) (pe_pm g_codes_of (hr.mono (by decide)) pass0 (pa_cons (pv 0) (pa_cons (pv 3) pa_nil))) (pe_lst (pa_cons pe_non (pa_cons pe_non pa_nil))) (nomark _))
 (pss_cons ps_never
 pss_nil)
 pss_nil)
 pss_nil))
 pss_nil), ?_⟩
    refine go_st (σ := [some (.ref s), some (.str (tx l)), none, none]) rfl ?_
    refine go_forES (fun i σ F => ∃ x y, σ = [some (.ref s), some (.str (tx l)), x, y] ∧ Ex H F) ?_
    wtm_at "r"
    refine ⟨l, rfl, ⟨_, _, rfl, exr H⟩, ?_, ?_⟩
    · rintro i c σ F p hc hp ⟨x, y, rfl, e⟩
      have hmem := List.mem_of_getElem? hc
      wtm_at "r"
      try (refine wp_gTup (SqT.of upd_same) rfl ?_)
      wtm_at "r"
      have e1 := e.trans (ex_new (u := .tup [.int (i : Nat), sg c]) hp)
      refine wp_codes_of (ex_t e1 hS) n1 n2 ?_
      wtm_at "gz"
      intro p1 hp1 F1 q1 e2
      wtm_at "r"
      refine ⟨(by show 2 ≤ 100000; decide), ?_⟩
      wtm_at "gz"
      intro p2 hp2 F2 q2 e3
      refine wp_eqD (.lst (SqL.of (e3 _ _ q1)) (.cons (dp_cV _) (.cons (dp_cV _) .nil))) (.lst (SqL.of q2) (.cons .non (.cons .non .nil))) ?_ rfl ?_
      · cases codeOf A' B' 0 c <;> cases codeOf A' B' 1 c <;> rfl
      · wtm_at "r"
        refine bF ?_ ?_
        · rcases hl c hmem with h | h
          · have e0 : codeOf A' B' 0 c = some _ := codeOf_some (A := A') (B := B') (st := 0) h
            rw [e0]
            rfl
          · have e0 : codeOf A' B' 1 c = some _ := codeOf_some (A := A') (B := B') (st := 1) h
            rw [e0]
            cases codeOf A' B' 0 c <;> rfl
        · wtm_at "r"
          exact go_turn rfl ⟨_, _, rfl, e1.trans (e2.trans e3)⟩
    · rintro σ F ⟨x, y, rfl, e⟩
      exact k.out e
end
/-! ### the writer -/
def fsW (s : Addr) (T : List Nat) (m : Int) (d : Addr) : List (Str × V) := putF "known" (.ref d) (putF "most" (.int m) (putF "text" (.str (tx T)) (putF "sets" (.ref s) [])))
theorem putF_len (f : Str) (v : V) : ∀ fs : List (Str × V), (putF f v fs).length ≤ fs.length + 1
  | [] => Nat.le_refl _
  | (g, x) :: r => by
    unfold putF
    split
    · simp
    · have := putF_len f v r
      simp only [List.length_cons]
      omega
theorem lk_sets (s : Addr) (T : List Nat) (m : Int) (d : Addr) : (fsW s T m d).lookup ("sets" : Str) = some (.ref s) := by
  unfold fsW
  rw [lookup_putF, if_neg (by decide +kernel), lookup_putF, if_neg (by decide +kernel), lookup_putF, if_neg (by decide +kernel), lookup_putF, if_pos rfl]
theorem lk_text (s : Addr) (T : List Nat) (m : Int) (d : Addr) : (fsW s T m d).lookup ("text" : Str) = some (.str (tx T)) := by
  unfold fsW
  rw [lookup_putF, if_neg (by decide +kernel), lookup_putF, if_neg (by decide +kernel), lookup_putF, if_pos rfl]
theorem lk_most (s : Addr) (T : List Nat) (m : Int) (d : Addr) : (fsW s T m d).lookup ("most" : Str) = some (.int m) := by
  unfold fsW
  rw [lookup_putF, if_neg (by decide +kernel), lookup_putF, if_pos rfl]
theorem lk_known (s : Addr) (T : List Nat) (m : Int) (d : Addr) : (fsW s T m d).lookup ("known" : Str) = some (.ref d) := by
  unfold fsW
  rw [lookup_putF, if_pos rfl]
theorem lk_no (s : Addr) (T : List Nat) (m : Int) (d : Addr) {x : Str} (h1 : ¬ x = "known") (h2 : ¬ x = "most") (h3 : ¬ x = "text") (h4 : ¬ x = "sets") : (fsW s T m d).lookup x = none := by
  unfold fsW
  rw [lookup_putF, if_neg h1, lookup_putF, if_neg h2, lookup_putF, if_neg h3, lookup_putF, if_neg h4]
  rfl
structure WTxt (K : PySem.W.Frag) (C : Addr) : Prop where
  cl : Cls K C
  n1 : NoAttr K C "sets"
  n2 : NoAttr K C "text"
  n3 : NoAttr K C "most"
  n4 : NoAttr K C "known"
def opL : Option Int → Leaf
  | none => .none
  | some k => .num k
def keyL (i : Nat) (st : Int) (op : Option Int) : LKey := [.num (i : Int), .num st, opL op]
theorem keyL_V (i : Nat) (st : Int) (op : Option Int) : (keyL i st op).map lV = [.int (i : Int), .int st, cV op] := by
  cases op <;> rfl
def OpOk (most : Int) : Option Int → Prop
  | none => True
  | some k => 0 ≤ k ∧ k ≤ most
theorem keyL_inj {i j : Nat} {st st2 : Int} {op op2 : Option Int} (h : keyL i st op = keyL j st2 op2) : i = j ∧ st = st2 ∧ op = op2 := by
  unfold keyL at h
  obtain ⟨h1, h2⟩ := List.cons.inj h
  obtain ⟨h3, h4⟩ := List.cons.inj h2
  obtain ⟨h5, _⟩ := List.cons.inj h4
  injection h1 with h1
  injection h3 with h3
  refine ⟨by omega, h3, ?_⟩
  cases op <;> cases op2
  · rfl
  · cases h5
  · cases h5
  · injection h5 with h5
    rw [h5]
/-- a key's number -/
def encL : LKey → Nat
  | [.num i, .num st, .none] => i.toNat * 1000 + st.toNat * 500
  | [.num i, .num st, .num k] => i.toNat * 1000 + st.toNat * 500 + k.toNat + 1
  | _ => 0
theorem encL_lt {i : Nat} {st most : Int} {op : Option Int} (hi : i ≤ 60) (hs : StOk st) (hm : most ≤ 100) (ho : OpOk most op) : encL (keyL i st op) < 70000 := by
  unfold StOk at hs
  cases op with
  | none =>
    show (i : Int).toNat * 1000 + st.toNat * 500 < _
    omega
  | some k =>
    obtain ⟨h1, h2⟩ := ho
    show (i : Int).toNat * 1000 + st.toNat * 500 + k.toNat + 1 < _
    omega
theorem encL_inj {i j : Nat} {st st2 most : Int} {op op2 : Option Int} (hs : StOk st) (hs2 : StOk st2) (hm : most ≤ 100) (ho : OpOk most op) (ho2 : OpOk most op2) (h : encL (keyL i st op) = encL (keyL j st2 op2)) : keyL i st op = keyL j st2 op2 := by
  unfold StOk at hs hs2
  cases op with
  | none =>
    cases op2 with
    | none =>
      have h : (i : Int).toNat * 1000 + st.toNat * 500 = (j : Int).toNat * 1000 + st2.toNat * 500 := h
      rw [show i = j by omega, show st = st2 by omega]
    | some k2 =>
      obtain ⟨h1, h2⟩ := ho2
      have h : (i : Int).toNat * 1000 + st.toNat * 500 = (j : Int).toNat * 1000 + st2.toNat * 500 + k2.toNat + 1 := h
      omega
  | some k =>
    obtain ⟨h1, h2⟩ := ho
    cases op2 with
    | none =>
      have h : (i : Int).toNat * 1000 + st.toNat * 500 + k.toNat + 1 = (j : Int).toNat * 1000 + st2.toNat * 500 := h
      omega
    | some k2 =>
      obtain ⟨h3, h4⟩ := ho2
      have h : (i : Int).toNat * 1000 + st.toNat * 500 + k.toNat + 1 = (j : Int).toNat * 1000 + st2.toNat * 500 + k2.toNat + 1 := h
      rw [show i = j by omega, show st = st2 by omega, show k = k2 by omega]
/-- what is known is right -/
structure Kn (A B : List Nat) (most : Int) (T : List Nat) (H0 H : Hp) (xs : List (LKey × Addr × V)) : Prop where
  keys : LKeys H xs
  nd : (xs.map fun e => encL e.1).Nodup
  ok : ∀ e ∈ xs, ∃ (i : Nat) (st : Int) (op : Option Int), e.1 = keyL i st op ∧ i ≤ T.length ∧ StOk st ∧ OpOk most op ∧ RsNew H0 H e.2.2 (reF A B most (T.drop i) st op)
theorem Kn.up {A B : List Nat} {most : Int} {T : List Nat} {H0 H H1 : Hp} {xs : List (LKey × Addr × V)} (e : Ex H H1) (h : Kn A B most T H0 H xs) : Kn A B most T H0 H1 xs := ⟨h.keys.up e, h.nd, fun x hx => by
  obtain ⟨i, st, op, h1, h2, h3, h4, h5⟩ := h.ok x hx
  exact ⟨i, st, op, h1, h2, h3, h4, h5.up e⟩⟩
theorem Kn.len {A B : List Nat} {most : Int} {T : List Nat} {H0 H : Hp} {xs : List (LKey × Addr × V)} (h : Kn A B most T H0 H xs) (hT : T.length ≤ 60) (hm : most ≤ 100) : xs.length ≤ 70000 := by
  have h1 : (xs.map fun e => encL e.1).length ≤ (List.range 70000).length := nd_sub_len h.nd fun n hn => by
    obtain ⟨e, he, rfl⟩ := List.mem_map.mp hn
    obtain ⟨i, st, op, h1, h2, h3, h4, _⟩ := h.ok e he
    rw [List.mem_range, h1]
    exact encL_lt (by omega) h3 hm h4
  rw [List.length_map, List.length_range] at h1
  exact h1
theorem ex_rm_rm {F H : Hp} {d : Addr} (e : Ex F H) : Ex (rm F d) (rm H d) := fun b u q => by
  by_cases h : b = d
  · rw [h, rm_same] at q; cases q
  · rw [rm_ne h] at q ⊢; exact e _ _ q
theorem ex_rm_ne {H H1 : Hp} {d b : Addr} {u : HO} (e : Ex (rm H d) H1) (h : H b = some u) (n : b ≠ d) : H1 b = some u := e _ _ (by rw [rm_ne n]; exact h)
/-- the writer at work: H0 is what stood before it -/
structure Wr (P : Program) (w : World) (K : PySem.W.Frag) (C : Addr) (A B : List Nat) (most : Int) (T : List Nat) (H0 : Hp) (me s d dx : Addr) (H : Hp) (xs : List (LKey × Addr × V)) : Prop where
  e : Ex H0 H
  nd : H0 d = none
  obj : H me = some (.ins C dx (fsW s T most d))
  sets : SetsAt K H s A B
  dict : H d = some (LD P w d xs)
  kn : Kn A B most T H0 H xs
section
variable {P : Program} {w : World} {K : PySem.W.Frag} {C : Addr} {A B : List Nat} {most : Int} {T : List Nat} {H0 H H1 : Hp} {me s d dx : Addr} {xs ys : List (LKey × Addr × V)}
theorem Wr.up (h : Wr P w K C A B most T H0 me s d dx H xs) (e : Ex H H1) : Wr P w K C A B most T H0 me s d dx H1 xs := ⟨h.e.trans e, h.nd, e _ _ h.obj, ex_t e h.sets, e _ _ h.dict, h.kn.up e⟩
theorem sqT_rm {x : Addr} {vs : List V} (h : SqT K H x vs) (n : ∃ u, H d = some u ∧ ∀ vs o, u ≠ .tup vs ∧ u ≠ .frz o (.tup vs)) : SqT K (rm H d) x vs := by
  obtain ⟨u, hu, ne⟩ := n
  rcases h with (h | ⟨ob, h⟩) | h
  · refine .inl (.inl ?_)
    rw [rm_ne fun z => by rw [z, hu] at h; exact (ne vs default).1 (Option.some.inj h)]
    exact h
  · refine .inl (.inr ⟨ob, ?_⟩)
    rw [rm_ne fun z => by rw [z, hu] at h; exact (ne vs ob).2 (Option.some.inj h)]
    exact h
  · exact .inr h
theorem Wr.next (h : Wr P w K C A B most T H0 me s d dx H xs) (e : Ex (rm H d) H1) (hd : H1 d = some (LD P w d ys)) (k : Kn A B most T H0 H1 ys) : Wr P w K C A B most T H0 me s d dx H1 ys := by
  refine ⟨(ex_to_rm h.e h.nd).trans e, h.nd, ex_rm_ne e h.obj fun z => ?_, ex_t e (sqT_rm h.sets ⟨_, h.dict, fun vs o => ⟨fun z => (by cases z), fun z => (by cases z)⟩⟩), hd, k⟩
  have := h.obj
  rw [z, h.dict] at this
  cases this
theorem RsNew.over {v : V} {r : Option (List Int)} {u : HO} (h : RsNew H0 H v r) (hd : H d = some u) (n : ∀ l, u ≠ .lst l) (e : Ex (rm H d) H1) : RsNew H0 H1 v r := by
  cases r with
  | none => exact h
  | some l =>
    obtain ⟨p, e1, e2, h3⟩ := h
    exact ⟨p, e1, e2, ex_rm_ne e h3 fun z => by rw [z, hd] at h3; exact n _ (Option.some.inj h3)⟩
end
/-- the parameters can be -/
structure Par (A B : List Nat) (most : Int) (T : List Nat) : Prop where
  g : Good A B
  hT : T.length ≤ 60
  m0 : 0 ≤ most
  m1 : most ≤ 100
def RetW (P : Program) (w : World) (A B : List Nat) (most : Int) (T : List Nat) (H0 : Hp) (d : Addr) (r : Option (List Int)) (H : Hp) (Q : VK) : Prop :=
  ∀ v H1 ys, Ex (rm H d) H1 → H1 d = some (LD P w d ys) → Kn A B most T H0 H1 ys → RsNew H0 H1 v r → Q v H1
def sp_rest (P : Program) (w : World) (K : PySem.W.Frag) (C : Addr) (n : Nat) : Sp := fun vs H Q _ => ∃ (A B : List Nat) (most : Int) (T : List Nat) (H0 : Hp) (me s d dx : Addr) (xs : List (LKey × Addr × V)) (i : Nat) (st : Int) (op : Option Int),
  vs = [.ref me, .int (i : Int), .int st, cV op] ∧ Wr P w K C A B most T H0 me s d dx H xs ∧ Par A B most T ∧ i ≤ T.length ∧ T.length ≤ i + n ∧ StOk st ∧ OpOk most op ∧ RetW P w A B most T H0 d (reF A B most (T.drop i) st op) H Q
def sp_signed (P : Program) (w : World) (K : PySem.W.Frag) (C : Addr) (n : Nat) : Sp := fun vs H Q _ => ∃ (A B : List Nat) (most : Int) (T : List Nat) (H0 : Hp) (me s d dx : Addr) (xs : List (LKey × Addr × V)) (i t : Nat) (st : Int) (op : Option Int),
  vs = [.ref me, .int (i : Int), .int st, cV op] ∧ Wr P w K C A B most T H0 me s d dx H xs ∧ Par A B most T ∧ T[i]? = some t ∧ T.length ≤ i + n ∧ StOk st ∧ OpOk most op ∧ RetW P w A B most T H0 d (sgF A B most t (reF A B most (T.drop (i + 1))) st op) H Q
section
variable {P : Program} {w : World} {K : PySem.W.Frag} {C : Addr} {A B : List Nat} {most : Int} {T : List Nat} {H0 F : Hp} {me s d dx : Addr} {xs : List (LKey × Addr × V)} {Pq : V → Hp → Prop} {i t n : Nat} {st : Int} {op : Option Int} {E : XK}
theorem RetW.use {r : Option (List Int)} {H : Hp} {Q : VK} (W : Wr P w K C A B most T H0 me s d dx F xs) (w0 : Wd none F H) (q : ∀ v F1 ys, Ex (rm F d) F1 → Wr P w K C A B most T H0 me s d dx F1 ys → RsNew H0 F1 v r → Pq v F1) (k : ∀ v H1 F1, Wd none F1 H1 → Pq v F1 → Q v H1) :
    RetW P w A B most T H0 d r H Q := fun v H1 ys e hd kn rs => k v H1 H1 (Wd.bare (exr _)) (q v H1 ys ((ex_rm_rm w0.ex).trans e) ((W.up w0.ex).next e hd kn) rs)
theorem RetW.out {r : Option (List Int)} {H F1 : Hp} {Q : VK} {v : V} {ys : List (LKey × Addr × V)} (k : RetW P w A B most T H0 d r H Q) (e : Ex (rm H d) F1) (W : Wr P w K C A B most T H0 me s d dx F1 ys) (rs : RsNew H0 F1 v r) : ∀ H1, Wd none F1 H1 → Q v H1 := fun H1 w1 =>
  k v H1 ys (e.trans w1.ex) (w1.ex _ _ W.dict) (W.kn.up w1.ex) (rs.up w1.ex)
theorem wp_rest (W : Wr P w K C A B most T H0 me s d dx F xs) (p : Par A B most T) (hi : i ≤ T.length) (hn : T.length ≤ i + n) (hs : StOk st) (ho : OpOk most op)
    (q : ∀ v F1 ys, Ex (rm F d) F1 → Wr P w K C A B most T H0 me s d dx F1 ys → RsNew H0 F1 v (reF A B most (T.drop i) st op) → Pq v F1) : Wp none (fun H Q => sp_rest P w K C n (.ref me :: ([.int (i : Int), .int st, cV op] ++ [])) H Q E) F Pq :=
  fun H w0 Q k => ⟨A, B, most, T, H0, me, s, d, dx, xs, i, st, op, rfl, W.up w0.ex, p, hi, hn, hs, ho, RetW.use W w0 q k⟩
theorem wp_signed (W : Wr P w K C A B most T H0 me s d dx F xs) (p : Par A B most T) (hi : T[i]? = some t) (hn : T.length ≤ i + n) (hs : StOk st) (ho : OpOk most op)
    (q : ∀ v F1 ys, Ex (rm F d) F1 → Wr P w K C A B most T H0 me s d dx F1 ys → RsNew H0 F1 v (sgF A B most t (reF A B most (T.drop (i + 1))) st op) → Pq v F1) : Wp none (fun H Q => sp_signed P w K C n (.ref me :: ([.int (i : Int), .int st, cV op] ++ [])) H Q E) F Pq :=
  fun H w0 Q k => ⟨A, B, most, T, H0, me, s, d, dx, xs, i, t, st, op, rfl, W.up w0.ex, p, hi, hn, hs, ho, RetW.use W w0 q k⟩
end
section
variable {P : Program} {w : World} {K : PySem.W.Frag} {mg : Str → Option Value} {base : Heap} {C : Addr}
abbrev s_Writer_ahead : Stmt := inClass (topS 24) 3
abbrev n_Writer_ahead : List Str := ["self", "codes", "rest"]
theorem sc_Writer_ahead : FnScope n_Writer_ahead ["self", "codes", "rest"] (defScope s_Writer_ahead) := ⟨rfl, rfl, rfl, by decide +kernel, rfl, by decide +kernel, by decide +kernel⟩

def sp_ahead : Sp := fun vs H Q _ => ∃ (me c : Addr) (y : V) (cs : List Int) (r : Option (List Int)), vs = [.ref me, .ref c, y] ∧ H c = some (.lst (il cs)) ∧ RsAt H y r ∧ LenLe 1000 r ∧ cs.length ≤ 10 ∧ ∀ v H1, Ex H H1 → RsNew H H1 v (ahF cs r) → Q v H1
theorem wp_ahead {F : Hp} {Pq : V → Hp → Prop} {me c : Addr} {y : V} {cs : List Int} {r : Option (List Int)} {E : XK} (hc : F c = some (.lst (il cs))) (hy : RsAt F y r) (hr : LenLe 1000 r) (hl : cs.length ≤ 10) (q : ∀ v F1, Ex F F1 → RsNew F F1 v (ahF cs r) → Pq v F1) :
    Wp none (fun H Q => sp_ahead (.ref me :: ([.ref c, y] ++ [])) H Q E) F Pq := fun H w Q k => ⟨me, c, y, cs, r, rfl, w.ex _ _ hc, hy.up w.ex, hr, hl, fun v H1 e rs => k v H1 H1 (Wd.bare (exr _)) (q v H1 (w.ex.trans e) (rs.down w.ex))⟩
theorem pm_ahead (D : DefAtM K C "ahead" "Writer.ahead" s_Writer_ahead) (B : Bl mg) : MPm P w K mg base CX0 1 C "ahead" ["self", "codes", "rest"] sp_ahead := by
  obtain ⟨f, fd, F, hm⟩ := D
  refine ⟨f, fd, ?_, hm, F.binds fun _ _ _ _ _ _ us hl => match us, hl with | [_, _, _], _ => rfl⟩
  refine F.ok sc_Writer_ahead (fun vs H Q E h => ?_) (fun cdv A outer s H vs Q E hr h => ?_)
  · obtain ⟨_, _, _, _, _, rfl, _⟩ := h
    rfl
  · obtain ⟨me, c, y, cs, r, rfl, hc, hy, hl, hcs, k⟩ := h
    refine ⟨_, (pss_cons (ps_ret (pe_ifExp (pt_cmpR op_isNs (pv 2) pe_non (nomark _)) pe_non (pe_op op_addP (pv 1) (pv 2))))
 pss_nil), ?_⟩
    refine go_st (σ := [some (.ref me), some (.ref c), some (y)]) rfl ?_
    cases r with
    | none =>
      have hy : y = .non := hy
      subst hy
      wtm_at "r"
      refine bT rfl ?_
      wtm_at "r"
      exact fun H1 w1 => k .non H1 w1.ex rfl
    | some l =>
      obtain ⟨p, rfl, hp⟩ := hy
      have := hl l rfl
      wtm_at "r"
      refine bF rfl ?_
      wtm_at "r"
      refine wp_addL hc hp (by rw [List.length_map, List.length_map]; omega) ?_
      wtm_at "gz"
      intro q hq F1 h1 e1
      rw [← List.map_append] at h1
      exact fun H1 w1 => k (.ref q) H1 (e1.trans w1.ex) ⟨q, rfl, hq, w1.ex _ _ h1⟩
abbrev s_Writer_init : Stmt := inClass (topS 24) 0
abbrev n_Writer_init : List Str := ["self", "sets", "text", "most"]
theorem sc_Writer_init : FnScope n_Writer_init ["self", "sets", "text", "most"] (defScope s_Writer_init) := ⟨rfl, rfl, rfl, by decide +kernel, rfl, by decide +kernel, by decide +kernel⟩

def sp_init (P : Program) (w : World) (C : Addr) : Sp := fun vs H Q _ => ∃ (me s dx : Addr) (T : List Nat) (m : Int), vs = [.ref me, .ref s, .str (tx T), .int m] ∧ H me = some (.ins C dx []) ∧
  ∀ d H1, H d = none → Ex (rm H me) H1 → H1 me = some (.ins C dx (fsW s T m d)) → H1 d = some (LD P w d []) → Q .non H1
theorem ok_init {f : Addr} {fd : FuncData} (F : Fun K "__init__" "Writer.__init__" s_Writer_init f fd) (T : WTxt K C) : FnOk P w K mg base CX0 1 f fd ["self", "sets", "text", "most"] (sp_init P w C) := by
  refine F.ok sc_Writer_init (fun vs H Q E h => ?_) (fun cdv A outer s H vs Q E hr h => ?_)
  · obtain ⟨_, _, _, _, _, rfl, _⟩ := h
    rfl
  · obtain ⟨me, st, dx, Tx, m, rfl, h0, k⟩ := h
    refine ⟨_, (pss_cons (ps_fldK K rfl (pv 0) (pv 1) rfl)
 (pss_cons (ps_fldK K rfl (pv 0) (pv 2) rfl)
 (pss_cons (ps_fldK K rfl (pv 0) (pv 3) rfl)
 (pss_cons (ps_fldK K rfl (pv 0) (pe_lnew (P := P) (w := w) rfl rfl) rfl)
 pss_nil)))), ?_⟩
    refine go_st (σ := [some (.ref me), some (.ref st), some (.str (tx Tx)), some (.int m)]) rfl ?_
    refine go_sfld ?_
    wtm_at "r"
    refine ⟨me, C, dx, _, rfl, h0, T.cl, T.n1, (by show 0 < 1000; decide), ?_⟩
    refine go_sfld ?_
    wtm_at "r"
    refine ⟨me, C, dx, _, rfl, upd_same, T.cl, T.n2, Nat.lt_of_le_of_lt (putF_len _ _ _) (by show 1 < 1000; decide), ?_⟩
    rw [upd_upd]
    refine go_sfld ?_
    wtm_at "r"
    have l2 := putF_len "text" (.str (tx Tx)) (putF "sets" (.ref st) [])
    have l1 := putF_len "sets" (.ref st) []
    have l3 := putF_len "most" (.int m) (putF "text" (.str (tx Tx)) (putF "sets" (.ref st) []))
    have l0 : ([] : List (Str × V)).length = 0 := rfl
    refine ⟨me, C, dx, _, rfl, upd_same, T.cl, T.n3, by omega, ?_⟩
    rw [upd_upd]
    refine go_sfld ?_
    refine wp_lnew fun d hd => ?_
    wtm_at "r"
    have nd : me ≠ d := (fr_ne hd).symm
    refine ⟨me, C, dx, _, rfl, at_ne upd_same hd, T.cl, T.n4, by omega, ?_⟩
    have hdH : H d = none := fr_in hd
    refine fun H1 w1 => k d H1 hdH (fun b u q => w1.ex _ _ ?_) (w1.ex _ _ upd_same) (w1.ex _ _ ?_)
    · have nb : b ≠ me := fun z => by rw [z, rm_same] at q; cases q
      rw [rm_ne nb] at q
      rw [upd_ne nb, upd_ne (ne_of_none q hdH), upd_ne nb]
      exact q
    · rw [upd_ne nd.symm, upd_same]
abbrev s_Writer_rest : Stmt := inClass (topS 24) 1
abbrev n_Writer_rest : List Str := ["self", "at", "state", "open_for", "key"]
theorem sc_Writer_rest : FnScope n_Writer_rest ["self", "at", "state", "open_for"] (defScope s_Writer_rest) := ⟨rfl, rfl, rfl, by decide +kernel, rfl, by decide +kernel, by decide +kernel⟩

abbrev s_Writer_found : Stmt := inClass (topS 24) 2
abbrev n_Writer_found : List Str := ["self", "at", "state", "open_for", "many", "same", "turn", "best"]
theorem sc_Writer_found : FnScope n_Writer_found ["self", "at", "state", "open_for"] (defScope s_Writer_found) := ⟨rfl, rfl, rfl, by decide +kernel, rfl, by decide +kernel, by decide +kernel⟩

abbrev s_Writer_signed : Stmt := inClass (topS 24) 4
abbrev n_Writer_signed : List Str := ["self", "at", "state", "open_for", "code"]
theorem sc_Writer_signed : FnScope n_Writer_signed ["self", "at", "state", "open_for"] (defScope s_Writer_signed) := ⟨rfl, rfl, rfl, by decide +kernel, rfl, by decide +kernel, by decide +kernel⟩

theorem valX_put (xs : List (LKey × Addr × V)) (k : LKey) (b : Addr) (v : V) : valX (putX xs k b v) k = some v := by
  unfold putX
  by_cases h : (valX xs k).isSome = true
  · rw [if_pos h]
    unfold valX at h ⊢
    induction xs with
    | nil => cases h
    | cons e r ih =>
      rw [List.map_cons]
      by_cases he : e.1 = k
      · rw [if_pos he, List.find?_cons, he]
        simp
      · rw [if_neg he, List.find?_cons]
        have hd : decide (e.1 = k) = false := decide_eq_false he
        rw [hd]
        refine ih ?_
        rw [List.find?_cons, hd] at h
        exact h
  · rw [if_neg h]
    unfold valX at h ⊢
    rw [List.find?_append]
    cases q : xs.find? (fun e => decide (e.1 = k)) with
    | some e => rw [q] at h; exact absurd rfl h
    | none => simp
theorem valX_mem {xs : List (LKey × Addr × V)} {k : LKey} {v : V} (h : valX xs k = some v) : ∃ e ∈ xs, e.1 = k ∧ e.2.2 = v := by
  unfold valX at h
  obtain ⟨e, h1, h2⟩ := Option.map_eq_some_iff.mp h
  exact ⟨e, List.mem_of_find?_eq_some h1, by have := List.find?_some h1; simpa using this, h2⟩
theorem valX_no {xs : List (LKey × Addr × V)} {k : LKey} (h : ¬ (valX xs k).isSome = true) : ∀ e ∈ xs, e.1 ≠ k := fun e he z => by
  unfold valX at h
  rw [Option.isSome_map] at h
  have : (xs.find? fun e => decide (e.1 = k)).isSome = true := List.find?_isSome.mpr ⟨e, he, decide_eq_true z⟩
  exact h this
section
variable {A B : List Nat} {most : Int} {T : List Nat} {H0 H H1 : Hp} {d : Addr} {xs : List (LKey × Addr × V)} {i : Nat} {st : Int} {op : Option Int} {v : V} {b : Addr}
theorem Kn.val (h : Kn A B most T H0 H xs) (hv : valX xs (keyL i st op) = some v) : RsNew H0 H v (reF A B most (T.drop i) st op) := by
  obtain ⟨e, he, h1, h2⟩ := valX_mem hv
  obtain ⟨i2, st2, op2, h3, _, _, _, h4⟩ := h.ok e he
  obtain ⟨rfl, rfl, rfl⟩ := keyL_inj (h1.symm.trans h3)
  rw [← h2]
  exact h4
theorem Kn.put (h : Kn A B most T H0 H xs) (hm : most ≤ 100) (hd : H d = some (LD P w d xs)) (hb : H b = some (.tup ((keyL i st op).map lV))) (hi : i ≤ T.length) (hs : StOk st) (ho : OpOk most op) (hv : RsNew H0 H v (reF A B most (T.drop i) st op)) :
    Kn A B most T H0 (upd H d (LD P w d (putX xs (keyL i st op) b v))) (putX xs (keyL i st op) b v) := by
  have nl : ∀ {p : Addr} {vs : List V}, H p = some (.tup vs) → p ≠ d := fun h z => by rw [z, hd] at h; cases h
  have nl2 : ∀ {p : Addr} {vs : List V}, H p = some (.lst vs) → p ≠ d := fun h z => by rw [z, hd] at h; cases h
  have rs : ∀ {v : V} {r : Option (List Int)}, RsNew H0 H v r → RsNew H0 (upd H d (LD P w d (putX xs (keyL i st op) b v))) v r := fun {v r} h => by
    cases r with
    | none => exact h
    | some l =>
      obtain ⟨p, e1, e2, h3⟩ := h
      exact ⟨p, e1, e2, by rw [upd_ne (nl2 h3)]; exact h3⟩
  have rs2 : ∀ {v2 : V} {r : Option (List Int)}, RsNew H0 H v2 r → RsNew H0 (upd H d (LD P w d (putX xs (keyL i st op) b v))) v2 r := fun {v2 r} h => by
    cases r with
    | none => exact h
    | some l =>
      obtain ⟨p, e1, e2, h3⟩ := h
      exact ⟨p, e1, e2, by rw [upd_ne (nl2 h3)]; exact h3⟩
  by_cases q : (valX xs (keyL i st op)).isSome = true
  · have e0 : putX xs (keyL i st op) b v = xs.map fun e => if e.1 = keyL i st op then (e.1, e.2.1, v) else e := by unfold putX; rw [if_pos q]
    refine ⟨fun e he => ?_, ?_, fun e he => ?_⟩
    · rw [e0] at he
      obtain ⟨e2, h2, rfl⟩ := List.mem_map.mp he
      have hk := h.keys e2 h2
      split
      · rw [upd_ne (nl hk)]; exact hk
      · rw [upd_ne (nl hk)]; exact hk
    · rw [e0, List.map_map]
      have : (fun e : LKey × Addr × V => encL e.1) ∘ (fun e => if e.1 = keyL i st op then (e.1, e.2.1, v) else e) = fun e => encL e.1 := by
        funext e
        show encL (if e.1 = keyL i st op then (e.1, e.2.1, v) else e).1 = encL e.1
        split <;> rfl
      rw [this]
      exact h.nd
    · rw [e0] at he
      obtain ⟨e2, h2, rfl⟩ := List.mem_map.mp he
      by_cases q2 : e2.1 = keyL i st op
      · rw [if_pos q2]
        exact ⟨i, st, op, q2, hi, hs, ho, rs2 hv⟩
      · rw [if_neg q2]
        obtain ⟨i2, st2, op2, g1, g2, g3, g4, g5⟩ := h.ok e2 h2
        exact ⟨i2, st2, op2, g1, g2, g3, g4, rs2 g5⟩
  · have e0 : putX xs (keyL i st op) b v = xs ++ [(keyL i st op, b, v)] := by unfold putX; rw [if_neg q]
    refine ⟨fun e he => ?_, ?_, fun e he => ?_⟩
    · rw [e0] at he
      rcases List.mem_append.mp he with h2 | h2
      · have hk := h.keys e h2
        rw [upd_ne (nl hk)]; exact hk
      · rw [List.mem_singleton.mp h2]
        show upd H d _ b = _
        rw [upd_ne (nl hb)]; exact hb
    · rw [e0, List.map_append]
      refine snoc_nd h.nd fun hm2 => ?_
      obtain ⟨e, he, he2⟩ := List.mem_map.mp hm2
      obtain ⟨i2, st2, op2, g1, g2, g3, g4, _⟩ := h.ok e he
      rw [g1] at he2
      exact valX_no q e he (g1.trans (encL_inj g3 hs hm g4 ho he2))
    · rw [e0] at he
      rcases List.mem_append.mp he with h2 | h2
      · obtain ⟨i2, st2, op2, g1, g2, g3, g4, g5⟩ := h.ok e h2
        exact ⟨i2, st2, op2, g1, g2, g3, g4, rs2 g5⟩
      · rw [List.mem_singleton.mp h2]
        exact ⟨i, st, op, rfl, hi, hs, ho, rs2 hv⟩
end
theorem ok_rest (D : DefAtM K C "rest" "Writer.rest" s_Writer_rest) (T : WTxt K C) (B : Bl mg) (n : Nat) (g_Writer_found : MPm P w K mg base CX0 (3 * n + 3) C "found" ["self", "at", "state", "open_for"] (sp_rest P w K C n)) :
    MPm P w K mg base CX0 (3 * n + 4) C "rest" ["self", "at", "state", "open_for"] (sp_rest P w K C n) := by
  obtain ⟨f, fd, F, hm⟩ := D
  refine ⟨f, fd, ?_, hm, F.binds fun _ _ _ _ _ _ us hl => match us, hl with | [_, _, _, _], _ => rfl⟩
  have TX := T
  have T := T.cl
  refine F.ok sc_Writer_rest (fun vs H Q E h => ?_) (fun cdv A outer s H vs Q E hr h => ?_)
  · obtain ⟨_, _, _, _, _, _, _, _, _, _, _, _, _, rfl, _⟩ := h
    rfl
  · obtain ⟨A', B', most, Tx, H0, me, se, d, dx, xs, i, st, op, rfl, W, p, hi, hn, hs, ho, k⟩ := h
    refine ⟨_, (pss_cons (ps_set (i := 4) sc_Writer_rest.nd rfl (Or.inl rfl) (pe_tup (pa_cons (pv 1) (pa_cons (pv 2) (pa_cons (pv 3) pa_nil)))))
 (Evl.pss_cut (ps_if (pt_cmp (pc_lnotin (P := P) (w := w) rfl rfl (u1 hr.units) (pv 4) (pe_fldK K rfl (pv 0) rfl)) rfl)
 (pss_cons (ps_lput (P := P) (w := w) rfl rfl (u1 hr.units) (pe_fldK K rfl (pv 0) rfl) (pv 4) (pe_mpm T g_Writer_found (hr.mono (by omega)) pass0 (pv 0) (pa_cons (pv 1) (pa_cons (pv 2) (pa_cons (pv 3) pa_nil)))) rfl)
 pss_nil)
 pss_nil)
 (pss_cons (ps_ret (pe_lget (P := P) (w := w) rfl rfl (u1 hr.units) (pe_fldK K rfl (pv 0) rfl) (pv 4) (fun _ _ => rfl)))
 pss_nil))), ?_⟩
    refine go_st (σ := [some (.ref me), some (.int (i : Int)), some (.int st), some (cV op), none]) rfl ?_
    wtm_at "r"
    refine ⟨(by show 3 ≤ 100000; decide), fun b hb => ?_⟩
    rw [← keyL_V]
    have W1 := W.up (ex_new (u := .tup ((keyL i st op).map lV)) hb)
    have hB : upd H b (.tup ((keyL i st op).map lV)) b = some (.tup ((keyL i st op).map lV)) := upd_same
    have e0 : Ex (rm H d) (upd H b (.tup ((keyL i st op).map lV))) := Same.trans ex_rm (ex_new hb)
    revert W1 hB e0
    generalize upd H b (.tup ((keyL i st op).map lV)) = F
    intro W1 hB e0
    have nbd : b ≠ d := fun z => by rw [z, W1.dict] at hB; cases hB
    wtm_at "r"
    refine go_cut (fun σ F1 => ∃ zs v, σ = [some (.ref me), some (.int (i : Int)), some (.int st), some (cV op), some (.ref b)] ∧ Ex (rm H d) F1 ∧ Wr P w K C A' B' most Tx H0 me se d dx F1 zs ∧ F1 b = some (.tup ((keyL i st op).map lV)) ∧ valX zs (keyL i st op) = some v) ?_ ?_
    · refine go_ifB ?_
      refine wp_B ?_
      refine wp_lnotin ?_
      wtm_at "r"
      refine wp_fld ?_
      wtm_at "r"
      refine ⟨me, C, dx, _, _, rfl, W1.obj, T, TX.n4, lk_known _ _ _ _, ?_⟩
      refine ⟨d, _, rfl, ⟨xs, keyL i st op, b, W1.dict, W1.kn.keys, rfl, hB, rfl⟩, _, rfl, ?_⟩
      refine ⟨fun hno => ?_, fun hyes => ?_⟩
      · refine go_lput ?_
        refine wp_meth ?_
        wtm_at "r"
        refine ⟨me, dx, _, rfl, W1.obj, lk_no _ _ _ _ (by decide +kernel) (by decide +kernel) (by decide +kernel) (by decide +kernel), ?_⟩
        wtm_at "r"
        refine wp_rest W1 p hi hn hs ho fun v F1 ys e1 W2 rs => ?_
        refine wp_fld ?_
        wtm_at "r"
        refine ⟨me, C, dx, _, _, rfl, W2.obj, T, TX.n4, lk_known _ _ _ _, ?_⟩
        wtm_at "r"
        have hB2 := ex_rm_ne e1 hB nbd
        have len := W2.kn.len p.hT p.m1
        refine ⟨d, ys, keyL i st op, b, rfl, W2.dict, W2.kn.keys, rfl, hB2, by omega, ?_⟩
        have kn3 := W2.kn.put p.m1 W2.dict hB2 hi hs ho rs
        have e2 : Ex (rm H d) (upd F1 d (LD P w d (putX ys (keyL i st op) b v))) := fun b2 u q => by
          have nb : b2 ≠ d := fun z => by rw [z, rm_same] at q; cases q
          rw [upd_ne nb]
          refine e1 _ _ ?_
          rw [rm_ne nb]
          exact e0 _ _ q
        have e3 : Ex (rm F1 d) (upd F1 d (LD P w d (putX ys (keyL i st op) b v))) := fun b2 u q => by
          have nb : b2 ≠ d := fun z => by rw [z, rm_same] at q; cases q
          rw [upd_ne nb]
          rw [rm_ne nb] at q
          exact q
        exact go_turn rfl ⟨_, v, rfl, e2, W2.next e3 upd_same kn3, by rw [upd_ne nbd]; exact hB2, valX_put _ _ _ _⟩
      · obtain ⟨v, hv⟩ : ∃ v, valX xs (keyL i st op) = some v := by
          cases q : valX xs (keyL i st op) with
          | none => rw [q] at hyes; cases hyes
          | some v => exact ⟨v, rfl⟩
        exact go_turn rfl ⟨xs, v, rfl, e0, W1, hB, hv⟩
    · rintro σ F1 ⟨zs, v, rfl, e1, W2, hB2, hv⟩
      refine go_ret ?_
      refine wp_lget ?_
      refine wp_fld ?_
      wtm_at "r"
      refine ⟨me, C, dx, _, _, rfl, W2.obj, T, TX.n4, lk_known _ _ _ _, ?_⟩
      wtm_at "r"
      refine ⟨d, v, rfl, ⟨zs, keyL i st op, b, W2.dict, W2.kn.keys, rfl, hB2, hv.symm⟩, ?_⟩
      exact k.out e1 W2 (W2.kn.val hv)
end
section
variable {P : Program} {w : World} {K : PySem.W.Frag} {mg : Str → Option Value} {base : Heap} {C : Addr}
theorem at_cV {c0 c1 : Option Int} {A B : List Nat} {st : Int} {t : Nat} (h : StOk st) : atI [cV (codeOf A B 0 t), cV (codeOf A B 1 t)] st = some (cV (codeOf A B st t)) := by
  rcases h with h | h
  · subst h; exact atI_nat (j := 0) rfl
  · subst h; exact atI_nat (j := 1) rfl
theorem sgF_no {A B : List Nat} {most : Int} {t : Nat} {R : Int → Option Int → Option (List Int)} {st : Int} {op : Option Int} (h : codeOf A B st t = none) : sgF A B most t R st op = none := by
  unfold sgF
  rw [h]
theorem sgF_none {A B : List Nat} {most : Int} {t : Nat} {st c : Int} (h : codeOf A B st t = some c) (R : Int → Option Int → Option (List Int)) : sgF A B most t R st none = ahF [c] (R st none) := by
  unfold sgF
  rw [h]
theorem sgF_some {A B : List Nat} {most : Int} {t : Nat} {st c : Int} (h : codeOf A B st t = some c) (R : Int → Option Int → Option (List Int)) (k : Int) : sgF A B most t R st (some k) = if cmn A B c = true then ahF [c] (R st (some k)) else if most < k + 1 then none else ahF [c] (R st (some (k + 1))) := by
  unfold sgF
  rw [h]
theorem exL {H F : Hp} {d : Addr} (x : Ex (rm H d) F) : Ex (rm H d) (rm F d) := fun b u q => by
  have nb : b ≠ d := fun z => by rw [z, rm_same] at q; cases q
  rw [rm_ne nb]
  exact x b u q
theorem ok_signed (D : DefAtM K C "signed" "Writer.signed" s_Writer_signed) (T : WTxt K C) (B : Bl mg) (n : Nat) (g_codes_of : Pm P w K mg base CX0 1 "codes_of" ["sets", "sign"] (sp_codes_of K)) (g_is_common : Pm P w K mg base CX0 1 "is_common" ["sets", "code"] (sp_common K))
    (g_Writer_ahead : MPm P w K mg base CX0 1 C "ahead" ["self", "codes", "rest"] sp_ahead) (g_Writer_rest : MPm P w K mg base CX0 (3 * n + 4) C "rest" ["self", "at", "state", "open_for"] (sp_rest P w K C n)) :
    MPm P w K mg base CX0 (3 * n + 5) C "signed" ["self", "at", "state", "open_for"] (sp_signed P w K C (n + 1)) := by
  obtain ⟨f, fd, F, hm⟩ := D
  refine ⟨f, fd, ?_, hm, F.binds fun _ _ _ _ _ _ us hl => match us, hl with | [_, _, _, _], _ => rfl⟩
  have TX := T
  have T := T.cl
  refine F.ok sc_Writer_signed (fun vs H Q E h => ?_) (fun cdv A outer s H vs Q E hr h => ?_)
  · obtain ⟨_, _, _, _, _, _, _, _, _, _, _, _, _, _, rfl, _⟩ := h
    rfl
  · obtain ⟨A', B', most, Tx, H0, me, se, d, dx, xs, i, t, st, op, rfl, W, p, ht, hn, hs, ho, k⟩ := h
    have n10 := p.g.n10
    have geq := p.g.eq
    have hTl := p.hT
    have hi : i < Tx.length := (List.getElem?_eq_some_iff.mp ht).1
    refine ⟨_, (pss_cons (ps_set (i := 4) sc_Writer_signed.nd rfl (Or.inl rfl) (pe_ix (ixK K rfl) (pe_pm g_codes_of (hr.mono (by omega)) pass0 (pa_cons (pe_fldK K rfl (pv 0) rfl) (pa_cons (pe_ix (ixK K rfl) (pe_fldK K rfl (pv 0) rfl) (pv 1) (fun _ _ => rfl)) pa_nil))) (pv 2) (fun _ _ => rfl)))
 (pss_cons (ps_if (pt_cmpR op_isNs (pv 4) pe_non (nomark _))
 (pss_cons (ps_ret pe_non)
 pss_nil)
 pss_nil)
 (Evl.pss_cut (ps_if (PW.pt (pw_and (pt_cmpR op_notNs (pv 3) pe_non (nomark _)) (pw_and1 (pt_not (pt_val (pe_pm g_is_common (hr.mono (by omega)) pass0 (pa_cons (pe_fldK K rfl (pv 0) rfl) (pa_cons (pv 4) pa_nil))))))))
 (pss_cons (ps_set (i := 3) sc_Writer_signed.nd rfl (Or.inl rfl) (pe_op op_addP (pv 3) pe_int))
 (pss_cons (ps_if (pt_cmpR op_gt (pv 3) (pe_fldK K rfl (pv 0) rfl) (nomark _))
 (pss_cons (ps_ret pe_non)
 pss_nil)
 pss_nil)
 pss_nil))
 pss_nil)
 (pss_cons (ps_ret (pe_mpm T g_Writer_ahead (hr.mono (by omega)) pass0 (pv 0) (pa_cons (pe_lst (pa_cons (pv 4) pa_nil)) (pa_cons (pe_mpm T g_Writer_rest (hr.mono (by omega)) pass0 (pv 0) (pa_cons (pe_op op_addP (pv 1) pe_int) (pa_cons (pv 2) (pa_cons (pv 3) pa_nil)))) pa_nil))))
 pss_nil)))), ?_⟩
    refine go_st (σ := [some (.ref me), some (.int (i : Int)), some (.int st), some (cV op), none]) rfl ?_
    wtm_at "r"
    refine wp_fld ?_
    wtm_at "r"
    refine ⟨me, C, dx, _, _, rfl, W.obj, T, TX.n1, lk_sets _ _ _ _, ?_⟩
    wtm_at "r"
    refine wp_fld ?_
    wtm_at "r"
    refine ⟨me, C, dx, _, _, rfl, W.obj, T, TX.n2, lk_text _ _ _ _, ?_⟩
    wtm_at "r"
    refine wp_ixS (by omega) (atI_nat ht) ?_
    wtm_at "r"
    refine wp_codes_of W.sets (by omega) (by omega) ?_
    wtm_at "gz"
    intro p1 hp1 F1 q1 e1
    have W1 := W.up e1
    have x1 : Ex (rm H d) F1 := Same.trans ex_rm e1
    wtm_at "r"
    refine wp_ixL (SqL.of q1) (at_cV (c0 := none) (c1 := none) hs) ?_
    wtm_at "r"
    cases hc : codeOf A' B' st t with
    | none =>
      refine bT rfl ?_
      wtm_at "r"
      refine k.out x1 W1 ?_
      rw [sgF_no hc]
      rfl
    | some c =>
      obtain ⟨c0, c1, _⟩ := codeOf_lt p.g.eq hc
      refine bF rfl ?_
      wtm_at "r"
      refine go_cut (fun σ F2 => ∃ op2, sgF A' B' most t (reF A' B' most (Tx.drop (i + 1))) st op = ahF [c] (reF A' B' most (Tx.drop (i + 1)) st op2) ∧ OpOk most op2 ∧ σ = [some (.ref me), some (.int (i : Int)), some (.int st), some (cV op2), some (.int c)] ∧ F2 = F1) ?_ ?_
      · cases op with
        | none =>
          wtm_at "r"
          refine bF rfl ?_
          refine bF rfl ?_
          exact go_turn rfl ⟨none, sgF_none hc _, trivial, rfl, rfl⟩
        | some kk =>
          have esg : sgF A' B' most t (reF A' B' most (Tx.drop (i + 1))) st (some kk) = (if cmn A' B' c = true then ahF [c] (reF A' B' most (Tx.drop (i + 1)) st (some kk)) else if most < kk + 1 then none else ahF [c] (reF A' B' most (Tx.drop (i + 1)) st (some (kk + 1)))) := sgF_some hc _ kk
          obtain ⟨k0, k1⟩ := ho
          wtm_at "r"
          refine bT rfl ?_
          wtm_at "r"
          refine wp_fld ?_
          wtm_at "r"
          refine ⟨me, C, dx, _, _, rfl, W1.obj, T, TX.n1, lk_sets _ _ _ _, ?_⟩
          wtm_at "r"
          refine wp_common W1.sets p.g c0 c1 ?_
          wtm_at "r"
          refine ⟨fun hb => ?_, fun hb => ?_⟩
          · have hb : cmn A' B' c = false := by simpa using hb
            rw [if_neg (by rw [hb]; decide)] at esg
            wtm_at "r"
            refine wp_addI (i := kk) (j := 1) ?_
            wtm_at "r"
            refine wp_fld ?_
            wtm_at "r"
            refine ⟨me, C, dx, _, _, rfl, W1.obj, T, TX.n3, lk_most _ _ _ _, ?_⟩
            wtm_at "r"
            refine ⟨fun hgt => ?_, fun hle => ?_⟩
            · have hgt := of_decide_eq_true hgt
              wtm_at "r"
              refine k.out x1 W1 ?_
              rw [esg, if_pos hgt]
              rfl
            · have hle := of_decide_eq_false hle
              rw [if_neg hle] at esg
              wtm_at "r"
              exact go_turn rfl ⟨some (kk + 1), esg, ⟨by omega, by omega⟩, rfl, rfl⟩
          · have hb : cmn A' B' c = true := by simpa using hb
            rw [if_pos hb] at esg
            exact go_turn rfl ⟨some kk, esg, ⟨k0, k1⟩, rfl, rfl⟩
      · rintro σ F2 ⟨op2, es2, ho2, rfl, rfl⟩
        wtm_at "r"
        refine wp_meth ?_
        wtm_at "r"
        refine ⟨me, dx, _, rfl, W1.obj, lk_no _ _ _ _ (by decide +kernel) (by decide +kernel) (by decide +kernel) (by decide +kernel), ?_⟩
        wtm_at "r"
        refine ⟨(by show 1 ≤ 100000; decide), ?_⟩
        wtm_at "gz"
        intro q hq F3 q3 e3
        have W3 := W1.up e3
        have nqd : q ≠ d := fun z => by rw [z, W3.dict] at q3; cases q3
        wtm_at "r"
        refine wp_meth ?_
        wtm_at "r"
        refine ⟨me, dx, _, rfl, W3.obj, lk_no _ _ _ _ (by decide +kernel) (by decide +kernel) (by decide +kernel) (by decide +kernel), ?_⟩
        wtm_at "r"
        refine wp_rest (i := i + 1) W3 p (by omega) (by omega) hs ho2 fun v F4 ys e4 W4 rs => ?_
        wtm_at "r"
        have lr := reF_le A' B' most (Tx.drop (i + 1)) st op2
        refine wp_ahead (cs := [c]) (ex_rm_ne e4 q3 nqd) rs.at (lr.mono (by rw [List.length_drop]; omega)) (by show 1 ≤ 10; decide) fun u F5 e5 rt => ?_
        have rt := rt.down W4.e
        rw [← es2] at rt
        exact k.out (((exL x1).trans (ex_rm_rm e3)).trans (e4.trans e5)) (W4.up e5) rt
end
section
variable {P : Program} {w : World} {K : PySem.W.Frag} {mg : Str → Option Value} {base : Heap} {C : Addr}
theorem ok_found (D : DefAtM K C "found" "Writer.found" s_Writer_found) (T : WTxt K C) (B : Bl mg) (n : Nat) (g_shorter : Pm P w K mg base CX0 1 "shorter" ["one", "other"] sp_shorter)
    (g_Writer_ahead : MPm P w K mg base CX0 1 C "ahead" ["self", "codes", "rest"] sp_ahead) (g_Writer_signed : MPm P w K mg base CX0 (3 * n + 2) C "signed" ["self", "at", "state", "open_for"] (sp_signed P w K C n)) :
    MPm P w K mg base CX0 (3 * n + 3) C "found" ["self", "at", "state", "open_for"] (sp_rest P w K C n) := by
  obtain ⟨f, fd, F, hm⟩ := D
  refine ⟨f, fd, ?_, hm, F.binds fun _ _ _ _ _ _ us hl => match us, hl with | [_, _, _, _], _ => rfl⟩
  have TX := T
  have T := T.cl
  refine F.ok sc_Writer_found (fun vs H Q E h => ?_) (fun cdv A outer s H vs Q E hr h => ?_)
  · obtain ⟨_, _, _, _, _, _, _, _, _, _, _, _, _, rfl, _⟩ := h
    rfl
  · obtain ⟨A', B', most, Tx, H0, me, se, d, dx, xs, i, st, op, rfl, W, p, hi, hn, hs, ho, k⟩ := h
    have n10 := p.g.n10
    have geq := p.g.eq
    have hTl := p.hT
    have p0 := p.m0
    refine ⟨_, (pss_cons (ps_if (pt_cmpR (eqK K rfl hr.units) (pv 1) (pe_callB (lenK K rfl) (by rfl) B.len PySem.boot_len (pa_cons (pe_fldK K rfl (pv 0) rfl) pa_nil)) (nomark _))
 (pss_cons (ps_ret (pe_lst pa_nil))
 pss_nil)
 pss_nil)
 (pss_cons (ps_set (i := 4) sc_Writer_found.nd rfl (Or.inl rfl) (pe_callB (lenK K rfl) (by rfl) B.len PySem.boot_len (pa_cons (pe_ix (ixK K rfl) (pe_fldK K rfl (pv 0) rfl) pe_int (fun _ _ => rfl)) pa_nil)))
 (pss_cons (ps_set (i := 5) sc_Writer_found.nd rfl (Or.inl rfl) (pe_op op_addP (pv 4) (pv 2)))
 (pss_cons (ps_set (i := 6) sc_Writer_found.nd rfl (Or.inl rfl) (pe_op op_sub (pe_op op_addP (pv 4) pe_int) (pv 2)))
 (pss_cons (ps_set (i := 7) sc_Writer_found.nd rfl (Or.inl rfl) (pe_mpm T g_Writer_signed (hr.mono (by omega)) pass0 (pv 0) (pa_cons (pv 1) (pa_cons (pv 2) (pa_cons (pv 3) pa_nil)))))
 (pss_cons (ps_set (i := 7) sc_Writer_found.nd rfl (Or.inl rfl) (pe_pm g_shorter (hr.mono (by omega)) pass0 (pa_cons (pv 7) (pa_cons (pe_mpm T g_Writer_ahead (hr.mono (by omega)) pass0 (pv 0) (pa_cons (pe_lst (pa_cons (pv 6) pa_nil)) (pa_cons (pe_mpm T g_Writer_signed (hr.mono (by omega)) pass0 (pv 0) (pa_cons (pv 1) (pa_cons (pe_op op_sub pe_int (pv 2)) (pa_cons pe_int pa_nil)))) pa_nil))) pa_nil))))
 (Evl.pss_cut (ps_if (pt_cmpR op_notNs (pv 3) pe_non (nomark _))
 (pss_cons (ps_set (i := 7) sc_Writer_found.nd rfl (Or.inl rfl) (pe_pm g_shorter (hr.mono (by omega)) pass0 (pa_cons (pv 7) (pa_cons (pe_mpm T g_Writer_ahead (hr.mono (by omega)) pass0 (pv 0) (pa_cons (pe_lst (pa_cons (pv 5) pa_nil)) (pa_cons (pe_mpm T g_Writer_signed (hr.mono (by omega)) pass0 (pv 0) (pa_cons (pv 1) (pa_cons (pv 2) (pa_cons pe_non pa_nil)))) pa_nil))) pa_nil))))
 pss_nil)
 pss_nil)
 (pss_cons (ps_ret (pe_pm g_shorter (hr.mono (by omega)) pass0 (pa_cons (pv 7) (pa_cons (pe_mpm T g_Writer_ahead (hr.mono (by omega)) pass0 (pv 0) (pa_cons (pe_lst (pa_cons (pv 6) (pa_cons (pv 6) pa_nil))) (pa_cons (pe_mpm T g_Writer_signed (hr.mono (by omega)) pass0 (pv 0) (pa_cons (pv 1) (pa_cons (pe_op op_sub pe_int (pv 2)) (pa_cons pe_non pa_nil)))) pa_nil))) pa_nil))))
 pss_nil)))))))), ?_⟩
    refine go_st (σ := [some (.ref me), some (.int (i : Int)), some (.int st), some (cV op), none, none, none, none]) rfl ?_
    wtm_at "r"
    refine wp_fld ?_
    wtm_at "r"
    refine ⟨me, C, dx, _, _, rfl, W.obj, T, TX.n2, lk_text _ _ _ _, ?_⟩
    wtm_at "r"
    refine ⟨fun hend => ?_, fun hmore => ?_⟩
    · have hend : i = Tx.length := by have := of_decide_eq_true hend; omega
      wtm_at "r"
      refine ⟨Nat.zero_le _, ?_⟩
      wtm_at "gz"
      intro q hq F1 q1 e1
      refine k.out (Same.trans ex_rm e1) (W.up e1) ?_
      rw [hend, List.drop_length]
      exact ⟨q, rfl, W.e.free hq, q1⟩
    · have hlt : i < Tx.length := by have := of_decide_eq_false hmore; omega
      obtain ⟨t, ht⟩ : ∃ t, Tx[i]? = some t := ⟨_, List.getElem?_eq_getElem hlt⟩
      have hdrop : Tx.drop i = t :: Tx.drop (i + 1) := by
        obtain ⟨h1, h2⟩ := List.getElem?_eq_some_iff.mp ht
        rw [← h2]
        exact List.drop_eq_getElem_cons h1
      have lsg := fun st op => sgF_le (A := A') (B := B') (most := most) (t := t) (reF_le A' B' most (Tx.drop (i + 1))) st op
      have ldr : (Tx.drop (i + 1)).length ≤ 60 := by rw [List.length_drop]; omega
      have hs2 : StOk (1 - st) := by unfold StOk at hs ⊢; omega
      have x0 : Ex (rm H d) H := ex_rm
      have ere : reF A' B' most (Tx.drop i) st op = shF (if op = none then shF (sgF A' B' most t (reF A' B' most (Tx.drop (i + 1))) st op) (ahF [(A'.length : Int) + 1 - st] (sgF A' B' most t (reF A' B' most (Tx.drop (i + 1))) (1 - st) (some 0)))
          else shF (shF (sgF A' B' most t (reF A' B' most (Tx.drop (i + 1))) st op) (ahF [(A'.length : Int) + 1 - st] (sgF A' B' most t (reF A' B' most (Tx.drop (i + 1))) (1 - st) (some 0)))) (ahF [(A'.length : Int) + st] (sgF A' B' most t (reF A' B' most (Tx.drop (i + 1))) st none)))
          (ahF [(A'.length : Int) + 1 - st, (A'.length : Int) + 1 - st] (sgF A' B' most t (reF A' B' most (Tx.drop (i + 1))) (1 - st) none)) := by
        rw [hdrop]
        rfl
      wtm_at "r"
      refine wp_fld ?_
      wtm_at "r"
      refine ⟨me, C, dx, _, _, rfl, W.obj, T, TX.n1, lk_sets _ _ _ _, ?_⟩
      wtm_at "r"
      refine wp_ixT W.sets rfl ?_
      wtm_at "r"
      refine wp_meth ?_
      wtm_at "r"
      refine ⟨me, dx, _, rfl, W.obj, lk_no _ _ _ _ (by decide +kernel) (by decide +kernel) (by decide +kernel) (by decide +kernel), ?_⟩
      wtm_at "r"
      refine wp_signed W p ht hn hs ho fun v0 F0 ys0 e0 W0 rb0 => ?_
      have x0 := e0
      wtm_at "r"
      refine wp_meth ?_
      wtm_at "r"
      refine ⟨me, dx, _, rfl, W0.obj, lk_no _ _ _ _ (by decide +kernel) (by decide +kernel) (by decide +kernel) (by decide +kernel), ?_⟩
      wtm_at "r"
      refine ⟨(by show 1 ≤ 100000; decide), ?_⟩
      wtm_at "gz"
      intro c1 hc1 F1a q1 e1a
      have W1a := W0.up e1a
      have rb1a := rb0.up e1a
      have nc1 : c1 ≠ d := fun z => by rw [z, W1a.dict] at q1; cases q1
      wtm_at "r"
      refine wp_meth ?_
      wtm_at "r"
      refine ⟨me, dx, _, rfl, W1a.obj, lk_no _ _ _ _ (by decide +kernel) (by decide +kernel) (by decide +kernel) (by decide +kernel), ?_⟩
      wtm_at "r"
      refine wp_signed (op := some 0) W1a p ht hn hs2 ⟨Int.le_refl _, p0⟩ fun v1 F1b ys1 e1b W1b rs1 => ?_
      have rb1b := rb1a.over W1a.dict (fun l z => by cases z) e1b
      have q1b := ex_rm_ne e1b q1 nc1
      wtm_at "r"
      refine wp_ahead (cs := [(A'.length : Int) + 1 - st]) q1b rs1.at ((lsg _ _).mono (by omega)) (by show 1 ≤ 10; decide) fun u1 F1 e1 rt1 => ?_
      have W1 := W1b.up e1
      have x1 : Ex (rm H d) F1 := ((exL x0).trans (ex_rm_rm e1a)).trans (e1b.trans e1)
      wtm_at "r"
      refine wp_shorter (rb1b.up e1).at rt1.at ?_
      have rb1 := (rb1b.up e1).pick (rt1.down W1b.e)
      wtm_at "r"
      refine go_cut (fun σ F2 => ∃ v ys, σ = [some (.ref me), some (.int (i : Int)), some (.int st), some (cV op), some (.int (A'.length : Nat)), some (.int ((A'.length : Int) + st)), some (.int ((A'.length : Int) + 1 - st)), some v] ∧ Ex (rm H d) F2 ∧ Wr P w K C A' B' most Tx H0 me se d dx F2 ys ∧
        RsNew H0 F2 v (if op = none then shF (sgF A' B' most t (reF A' B' most (Tx.drop (i + 1))) st op) (ahF [(A'.length : Int) + 1 - st] (sgF A' B' most t (reF A' B' most (Tx.drop (i + 1))) (1 - st) (some 0)))
          else shF (shF (sgF A' B' most t (reF A' B' most (Tx.drop (i + 1))) st op) (ahF [(A'.length : Int) + 1 - st] (sgF A' B' most t (reF A' B' most (Tx.drop (i + 1))) (1 - st) (some 0)))) (ahF [(A'.length : Int) + st] (sgF A' B' most t (reF A' B' most (Tx.drop (i + 1))) st none)))) ?_ ?_
      · revert rb1
        generalize (if pickF _ _ = true then u1 else v0) = best1
        intro rb1
        cases op with
        | none =>
          wtm_at "r"
          refine bF rfl ?_
          exact go_turn rfl ⟨_, _, rfl, x1, W1, by rw [if_pos rfl]; exact rb1⟩
        | some kk =>
          wtm_at "r"
          refine bT rfl ?_
          wtm_at "r"
          refine wp_meth ?_
          wtm_at "r"
          refine ⟨me, dx, _, rfl, W1.obj, lk_no _ _ _ _ (by decide +kernel) (by decide +kernel) (by decide +kernel) (by decide +kernel), ?_⟩
          wtm_at "r"
          refine ⟨(by show 1 ≤ 100000; decide), ?_⟩
          wtm_at "gz"
          intro c2 hc2 F2a q2 e2a
          have W2a := W1.up e2a
          have rb2a := rb1.up e2a
          have nc2 : c2 ≠ d := fun z => by rw [z, W2a.dict] at q2; cases q2
          wtm_at "r"
          refine wp_meth ?_
          wtm_at "r"
          refine ⟨me, dx, _, rfl, W2a.obj, lk_no _ _ _ _ (by decide +kernel) (by decide +kernel) (by decide +kernel) (by decide +kernel), ?_⟩
          wtm_at "r"
          refine wp_signed (op := none) W2a p ht hn hs trivial fun v2 F2b ys2 e2b W2b rs2 => ?_
          have rb2b := rb2a.over W2a.dict (fun l z => by cases z) e2b
          have q2b := ex_rm_ne e2b q2 nc2
          wtm_at "r"
          refine wp_ahead (cs := [(A'.length : Int) + st]) q2b rs2.at ((lsg _ _).mono (by omega)) (by show 1 ≤ 10; decide) fun u2 F2 e2 rt2 => ?_
          have W2 := W2b.up e2
          have x2 : Ex (rm H d) F2 := ((exL x1).trans (ex_rm_rm e2a)).trans (e2b.trans e2)
          wtm_at "r"
          refine wp_shorter (rb2b.up e2).at rt2.at ?_
          have rb2 := (rb2b.up e2).pick (rt2.down W2b.e)
          wtm_at "r"
          have hne : ¬ (some kk = (none : Option Int)) := fun z => by cases z
          exact go_turn rfl ⟨_, _, rfl, x2, W2, by rw [if_neg hne]; exact rb2⟩
      · rintro σ F2 ⟨v2, ys2, rfl, x2, W2, rb2⟩
        wtm_at "r"
        refine wp_meth ?_
        wtm_at "r"
        refine ⟨me, dx, _, rfl, W2.obj, lk_no _ _ _ _ (by decide +kernel) (by decide +kernel) (by decide +kernel) (by decide +kernel), ?_⟩
        wtm_at "r"
        refine ⟨(by show 2 ≤ 100000; decide), ?_⟩
        wtm_at "gz"
        intro c3 hc3 F3a q3 e3a
        have W3a := W2.up e3a
        have rb3a := rb2.up e3a
        have nc3 : c3 ≠ d := fun z => by rw [z, W3a.dict] at q3; cases q3
        wtm_at "r"
        refine wp_meth ?_
        wtm_at "r"
        refine ⟨me, dx, _, rfl, W3a.obj, lk_no _ _ _ _ (by decide +kernel) (by decide +kernel) (by decide +kernel) (by decide +kernel), ?_⟩
        wtm_at "r"
        refine wp_signed (op := none) W3a p ht hn hs2 trivial fun v3 F3b ys3 e3b W3b rs3 => ?_
        have rb3b := rb3a.over W3a.dict (fun l z => by cases z) e3b
        have q3b := ex_rm_ne e3b q3 nc3
        wtm_at "r"
        refine wp_ahead (cs := [(A'.length : Int) + 1 - st, (A'.length : Int) + 1 - st]) q3b rs3.at ((lsg _ _).mono (by omega)) (by show 2 ≤ 10; decide) fun u3 F3 e3 rt3 => ?_
        have W3 := W3b.up e3
        have x3 : Ex (rm H d) F3 := ((exL x2).trans (ex_rm_rm e3a)).trans (e3b.trans e3)
        wtm_at "r"
        refine wp_shorter (rb3b.up e3).at rt3.at ?_
        have rb3 := (rb3b.up e3).pick (rt3.down W3b.e)
        rw [← ere] at rb3
        exact k.out x3 W3 rb3
end
section
variable {P : Program} {w : World} {K : PySem.W.Frag} {mg : Str → Option Value} {base : Heap} {C : Addr}
theorem signed0 {vs : List V} {H : Hp} {Q : VK} {E : XK} (h : sp_signed P w K C 0 vs H Q E) : False := by
  obtain ⟨_, _, _, T, _, _, _, _, _, _, i, t, _, _, _, _, _, ht, hn, _⟩ := h
  have := (List.getElem?_eq_some_iff.mp ht).1
  omega
theorem all_rest (D1 : DefAtM K C "ahead" "Writer.ahead" s_Writer_ahead) (D2 : DefAtM K C "rest" "Writer.rest" s_Writer_rest) (D3 : DefAtM K C "found" "Writer.found" s_Writer_found) (D4 : DefAtM K C "signed" "Writer.signed" s_Writer_signed) (T : WTxt K C) (B : Bl mg)
    (g_codes_of : Pm P w K mg base CX0 1 "codes_of" ["sets", "sign"] (sp_codes_of K)) (g_is_common : Pm P w K mg base CX0 1 "is_common" ["sets", "code"] (sp_common K)) (g_shorter : Pm P w K mg base CX0 1 "shorter" ["one", "other"] sp_shorter) :
    ∀ n, MPm P w K mg base CX0 (3 * n + 4) C "rest" ["self", "at", "state", "open_for"] (sp_rest P w K C n) := by
  have ga : MPm P w K mg base CX0 1 C "ahead" ["self", "codes", "rest"] sp_ahead := pm_ahead D1 B
  intro n
  induction n with
  | zero =>
    have g0 : MPm P w K mg base CX0 (3 * 0 + 2) C "signed" ["self", "at", "state", "open_for"] (sp_signed P w K C 0) := by
      obtain ⟨f, fd, F, hm⟩ := D4
      exact ⟨f, fd, ⟨fun vs H Q E h => (signed0 h).elim, fun A outer s H args us vs Q E _ _ _ _ h => (signed0 h).elim⟩, hm, F.binds fun _ _ _ _ _ _ us hl => match us, hl with | [_, _, _, _], _ => rfl⟩
    exact ok_rest D2 T B 0 (ok_found D3 T B 0 g_shorter ga g0)
  | succ n ih =>
    have g1 : MPm P w K mg base CX0 (3 * (n + 1) + 2) C "signed" ["self", "at", "state", "open_for"] (sp_signed P w K C (n + 1)) := ok_signed D4 T B n g_codes_of g_is_common ga ih
    exact ok_rest D2 T B (n + 1) (ok_found D3 T B (n + 1) g_shorter ga g1)
theorem rest_41 (D1 : DefAtM K C "ahead" "Writer.ahead" s_Writer_ahead) (D2 : DefAtM K C "rest" "Writer.rest" s_Writer_rest) (D3 : DefAtM K C "found" "Writer.found" s_Writer_found) (D4 : DefAtM K C "signed" "Writer.signed" s_Writer_signed) (T : WTxt K C) (B : Bl mg)
    (g_codes_of : Pm P w K mg base CX0 1 "codes_of" ["sets", "sign"] (sp_codes_of K)) (g_is_common : Pm P w K mg base CX0 1 "is_common" ["sets", "code"] (sp_common K)) (g_shorter : Pm P w K mg base CX0 1 "shorter" ["one", "other"] sp_shorter) :
    MPm P w K mg base CX0 127 C "rest" ["self", "at", "state", "open_for"] (sp_rest P w K C 41) := all_rest D1 D2 D3 D4 T B g_codes_of g_is_common g_shorter 41
theorem made_writer {f : Addr} {fd : FuncData} (F : Fun K "__init__" "Writer.__init__" s_Writer_init f fd) (T : WTxt K C) (mk : PySem.W.makesIn K C = true) (a : PySem.W.findIn K (.ref C) "__init__" = some (some (.ref f))) (i : PySem.W.isFn K (.ref f) = true) (kc : PySem.W.keepIn K (.ref C) = true) (hm : mg "Writer" = some (.ref C)) :
    Made P w K mg base CX0 1 C "Writer" ["self", "sets", "text", "most"] (sp_init P w C) := ⟨f, fd, ok_init F T, ⟨mk, a, i, kc⟩, F.binds fun _ _ _ _ _ _ us hl => match us, hl with | [_, _, _, _], _ => rfl, hm⟩
abbrev s_guarded_of : Stmt := topS 25
abbrev n_guarded_of : List Str := ["sets", "text", "state", "most"]
theorem sc_guarded_of : FnScope n_guarded_of ["sets", "text", "state", "most"] (defScope s_guarded_of) := ⟨rfl, rfl, rfl, by decide +kernel, rfl, by decide +kernel, by decide +kernel⟩

/-- the least tape: most signs spoilt -/
def leaF (A B : List Nat) (most : Int) (T : List Nat) (st : Int) : List Int := (reF A B most T st none).getD []
theorem leaF_eq {A B : List Nat} {most : Int} {T : List Nat} {st : Int} (h : InSets A B T) (hs : StOk st) : reF A B most T st none = some (leaF A B most T st) := by
  unfold leaF
  have := reF_some (most := most) (op := none) h hs
  cases e : reF A B most T st none with
  | none => rw [e] at this; cases this
  | some l => rfl
theorem leaF_len {A B : List Nat} {most : Int} {T : List Nat} {st : Int} (h : InSets A B T) (hs : StOk st) : (leaF A B most T st).length ≤ 3 * T.length := reF_le A B most T st none _ (leaF_eq h hs)
def sp_guarded_of (K : PySem.W.Frag) : Sp := fun vs H Q _ => ∃ (s : Addr) (A B T : List Nat) (st most : Int), vs = [.ref s, .str (tx T), .int st, .int most] ∧ SetsAt K H s A B ∧ Good A B ∧ InSets A B T ∧ T.length ≤ 41 ∧ StOk st ∧ 0 ≤ most ∧ most ≤ 100 ∧ RetN (.lst (il (leaF A B most T st))) H Q
theorem wp_guarded_of {o : Option Addr} {F : Hp} {Pq : V → Hp → Prop} {s : Addr} {A B T : List Nat} {st most : Int} {E : XK} (hS : SetsAt K F s A B) (g : Good A B) (h1 : InSets A B T) (h2 : T.length ≤ 41) (h3 : StOk st) (h4 : 0 ≤ most) (h5 : most ≤ 100)
    (q : ∀ p, F p = none → Pq (.ref p) (upd F p (.lst (il (leaF A B most T st))))) : Wp o (fun H Q => sp_guarded_of K ([.ref s, .str (tx T), .int st, .int most] ++ []) H Q E) F Pq := fun H w Q k => ⟨s, A, B, T, st, most, rfl, w.t hS, g, h1, h2, h3, h4, h5, RetN.use w q k⟩
theorem pm_guarded_of (D : DefAt K mg "guarded_of" s_guarded_of) (T : Cls K C) (B : Bl mg) (g_Writer : Made P w K mg base CX0 1 C "Writer" ["self", "sets", "text", "most"] (sp_init P w C)) (g_Writer_rest : MPm P w K mg base CX0 127 C "rest" ["self", "at", "state", "open_for"] (sp_rest P w K C 41)) :
    Pm P w K mg base CX0 128 "guarded_of" ["sets", "text", "state", "most"] (sp_guarded_of K) := by
  obtain ⟨f, fd, F, hm⟩ := D
  refine ⟨f, fd, ?_, hm, F.kp, F.binds fun _ _ _ _ _ _ us hl => match us, hl with | [_, _, _, _], _ => rfl⟩
  refine F.ok sc_guarded_of (fun vs H Q E h => ?_) (fun cdv A outer s H vs Q E hr h => ?_)
  · obtain ⟨_, _, _, _, _, _, rfl, _⟩ := h
    rfl
  · obtain ⟨se, A', B', Tx, st, most, rfl, hS, g, hin, hl, hs, m0, m1, k⟩ := h
    refine ⟨_, (pss_cons (ps_ret (pe_mpm T g_Writer_rest (hr.mono (by decide)) pass0 (pe_mk g_Writer (hr.mono (by decide)) pass0 (pa_cons (pv 0) (pa_cons (pv 1) (pa_cons (pv 3) pa_nil)))) (pa_cons pe_int (pa_cons (pv 2) (pa_cons pe_non pa_nil)))))
 pss_nil), ?_⟩
    refine go_st (σ := [some (.ref se), some (.str (tx Tx)), some (.int st), some (.int most)]) rfl ?_
    wtm_at "r"
    refine wp_meth ?_
    wtm_at "r"
    refine wp_make ?_
    wtm_at "r"
    intro x dx nx ndx ne
    intro H1 w1 Q1 k1
    refine ⟨x, se, dx, Tx, most, rfl, w1.ex _ _ upd_same, fun d H2 hd e2 hx hdd => ?_⟩
    have eH : Ex H H2 := fun b u q => by
      have nb : b ≠ x := ne_of_none q nx
      refine e2 _ _ ?_
      rw [rm_ne nb]
      refine w1.ex _ _ ?_
      rw [upd_ne nb, upd_ne (ne_of_none q ndx)]
      exact q
    have hdH : H d = none := by
      have := w1.fr hd
      exact fr_in (fr_in this)
    have W : Wr P w K C A' B' most Tx H x se d dx H2 [] := ⟨eH, hdH, hx, ex_t eH hS, hdd, ⟨fun e he => (by cases he), List.nodup_nil, fun e he => (by cases he)⟩⟩
    refine k1 _ H2 H2 (Wd.bare (exr _)) ⟨rfl, ?_⟩
    refine ⟨x, dx, _, rfl, W.obj, lk_no _ _ _ _ (by decide +kernel) (by decide +kernel) (by decide +kernel) (by decide +kernel), ?_⟩
    wtm_at "r"
    refine wp_rest (i := 0) (op := none) W ⟨g, by omega, m0, m1⟩ (Nat.zero_le _) (by omega) hs trivial fun v F1 ys e1 W1 rs => ?_
    rw [List.drop_zero, leaF_eq hin hs] at rs
    obtain ⟨p, rfl, hp, hp1⟩ := rs
    exact k.out W1.e hp hp1
def leaT (A B T : List Nat) (st : Int) : List Int := leaF A B ((T.length : Int) + 1) T st
def sp_least (K : PySem.W.Frag) : Sp := fun vs H Q _ => ∃ (s : Addr) (A B T : List Nat) (st : Int), vs = [.ref s, .str (tx T), .int st] ∧ SetsAt K H s A B ∧ Good A B ∧ InSets A B T ∧ T.length ≤ 41 ∧ StOk st ∧ RetN (.lst (il (leaT A B T st))) H Q
theorem wp_least {o : Option Addr} {F : Hp} {Pq : V → Hp → Prop} {s : Addr} {A B T : List Nat} {st : Int} {E : XK} (hS : SetsAt K F s A B) (g : Good A B) (h1 : InSets A B T) (h2 : T.length ≤ 41) (h3 : StOk st)
    (q : ∀ p, F p = none → Pq (.ref p) (upd F p (.lst (il (leaT A B T st))))) : Wp o (fun H Q => sp_least K ([.ref s, .str (tx T), .int st] ++ []) H Q E) F Pq := fun H w Q k => ⟨s, A, B, T, st, rfl, w.t hS, g, h1, h2, h3, RetN.use w q k⟩
abbrev s_least : Stmt := topS 23
abbrev n_least : List Str := ["sets", "text", "state"]
theorem sc_least : FnScope n_least ["sets", "text", "state"] (defScope s_least) := ⟨rfl, rfl, rfl, by decide +kernel, rfl, by decide +kernel, by decide +kernel⟩

theorem pm_least (D : DefAt K mg "least" s_least) (B : Bl mg) (g_need_sets : Pm P w K mg base CX0 1 "need_sets" ["sets"] (sp_need_sets K)) (g_need_text : Pm P w K mg base CX0 2 "need_text" ["sets", "text"] (sp_need_text K)) (g_need_state : Pm P w K mg base CX0 1 "need_state" ["state"] (sp_need_state K))
    (g_guarded_of : Pm P w K mg base CX0 128 "guarded_of" ["sets", "text", "state", "most"] (sp_guarded_of K)) : Pm P w K mg base CX0 129 "least" ["sets", "text", "state"] (sp_least K) := by
  obtain ⟨f, fd, F, hm⟩ := D
  refine ⟨f, fd, ?_, hm, F.kp, F.binds fun _ _ _ _ _ _ us hl => match us, hl with | [_, _, _], _ => rfl⟩
  refine F.ok sc_least (fun vs H Q E h => ?_) (fun cdv A outer s H vs Q E hr h => ?_)
  · obtain ⟨_, _, _, _, _, rfl, _⟩ := h
    rfl
  · obtain ⟨se, A', B', Tx, st, rfl, hS, g, hin, hl, hs, k⟩ := h
    have n10 := g.n10
    have ge := g.eq
    refine ⟨_, (pss_cons (ps_expr (pe_pm g_need_sets (hr.mono (by decide)) pass0 (pa_cons (pv 0) pa_nil)))
 (pss_cons (ps_expr (pe_pm g_need_text (hr.mono (by decide)) pass0 (pa_cons (pv 0) (pa_cons (pv 1) pa_nil))))
 (pss_cons (ps_expr (pe_pm g_need_state (hr.mono (by decide)) pass0 (pa_cons (pv 2) pa_nil)))
 (pss_cons (ps_ret (pe_pm g_guarded_of (hr.mono (by decide)) pass0 (pa_cons (pv 0) (pa_cons (pv 1) (pa_cons (pv 2) (pa_cons (pe_op op_addP (pe_callB (lenK K rfl) (by rfl) B.len PySem.boot_len (pa_cons (pv 1) pa_nil)) pe_int) pa_nil))))))
 pss_nil)))), ?_⟩
    refine go_st (σ := [some (.ref se), some (.str (tx Tx)), some (.int st)]) rfl ?_
    wtm_at "r"
    refine wp_need_sets hS g ?_
    wtm_at "r"
    refine wp_need_text hS (by omega) (by omega) hin ?_
    wtm_at "r"
    refine wp_need_state hs ?_
    wtm_at "r"
    refine wp_guarded_of hS g hin hl hs (by omega) (by omega) fun p hp => ?_
    exact k.out (ex_new hp) hp upd_same
abbrev s_guarded : Stmt := topS 26
abbrev n_guarded : List Str := ["sets", "text", "state", "most"]
theorem sc_guarded : FnScope n_guarded ["sets", "text", "state", "most"] (defScope s_guarded) := ⟨rfl, rfl, rfl, by decide +kernel, rfl, by decide +kernel, by decide +kernel⟩

def sp_guarded (K : PySem.W.Frag) : Sp := fun vs H Q _ => ∃ (s : Addr) (A B T : List Nat) (st most : Int), vs = [.ref s, .str (tx T), .int st, .int most] ∧ SetsAt K H s A B ∧ Good A B ∧ InSets A B T ∧ T.length ≤ 41 ∧ StOk st ∧ 0 ≤ most ∧ most ≤ 20 ∧ RetN (.lst (il (leaF A B most T st))) H Q
theorem wp_guarded {o : Option Addr} {F : Hp} {Pq : V → Hp → Prop} {s : Addr} {A B T : List Nat} {st most : Int} {E : XK} (hS : SetsAt K F s A B) (g : Good A B) (h1 : InSets A B T) (h2 : T.length ≤ 41) (h3 : StOk st) (h4 : 0 ≤ most) (h5 : most ≤ 20)
    (q : ∀ p, F p = none → Pq (.ref p) (upd F p (.lst (il (leaF A B most T st))))) : Wp o (fun H Q => sp_guarded K ([.ref s, .str (tx T), .int st, .int most] ++ []) H Q E) F Pq := fun H w Q k => ⟨s, A, B, T, st, most, rfl, w.t hS, g, h1, h2, h3, h4, h5, RetN.use w q k⟩
theorem pm_guarded (D : DefAt K mg "guarded" s_guarded) (B : Bl mg) (c_MOST_SPOILT : ∃ t, mg "MOST_SPOILT" = some (.int 20 t)) (g_need_sets : Pm P w K mg base CX0 1 "need_sets" ["sets"] (sp_need_sets K)) (g_need_text : Pm P w K mg base CX0 2 "need_text" ["sets", "text"] (sp_need_text K)) (g_need_state : Pm P w K mg base CX0 1 "need_state" ["state"] (sp_need_state K))
    (g_guarded_of : Pm P w K mg base CX0 128 "guarded_of" ["sets", "text", "state", "most"] (sp_guarded_of K)) : Pm P w K mg base CX0 129 "guarded" ["sets", "text", "state", "most"] (sp_guarded K) := by
  obtain ⟨f, fd, F, hm⟩ := D
  refine ⟨f, fd, ?_, hm, F.kp, F.binds fun _ _ _ _ _ _ us hl => match us, hl with | [_, _, _, _], _ => rfl⟩
  refine F.ok sc_guarded (fun vs H Q E h => ?_) (fun cdv A outer s H vs Q E hr h => ?_)
  · obtain ⟨_, _, _, _, _, _, rfl, _⟩ := h
    rfl
  · obtain ⟨se, A', B', Tx, st, most, rfl, hS, g, hin, hl, hs, m0, m1, k⟩ := h
    have n10 := g.n10
    have ge := g.eq
    refine ⟨_, (pss_cons (ps_expr (pe_pm g_need_sets (hr.mono (by decide)) pass0 (pa_cons (pv 0) pa_nil)))
 (pss_cons (ps_expr (pe_pm g_need_text (hr.mono (by decide)) pass0 (pa_cons (pv 0) (pa_cons (pv 1) pa_nil))))
 (pss_cons (ps_expr (pe_pm g_need_state (hr.mono (by decide)) pass0 (pa_cons (pv 2) pa_nil)))
 (pss_cons (ps_if (pt_not (pt_chain op_le op_le pe_int (pv 3) (pe_cst c_MOST_SPOILT)))
 (pss_cons ps_never
 pss_nil)
 pss_nil)
 (pss_cons (ps_ret (pe_pm g_guarded_of (hr.mono (by decide)) pass0 (pa_cons (pv 0) (pa_cons (pv 1) (pa_cons (pv 2) (pa_cons (pv 3) pa_nil))))))
 pss_nil))))), ?_⟩
    refine go_st (σ := [some (.ref se), some (.str (tx Tx)), some (.int st), some (.int most)]) rfl ?_
    wtm_at "r"
    refine wp_need_sets hS g ?_
    wtm_at "r"
    refine wp_need_text hS (by omega) (by omega) hin ?_
    wtm_at "r"
    refine wp_need_state hs ?_
    wtm_at "r"
    refine ⟨fun _ => ?_, fun z => (by simp at z; omega)⟩
    wtm_at "r"
    refine bF (by simp; omega) ?_
    wtm_at "r"
    refine wp_guarded_of hS g hin hl hs m0 (by omega) fun p hp => ?_
    exact k.out (ex_new hp) hp upd_same
end
/-! ### the order of tapes -/
theorem llt_irr : ∀ a : List Int, llt a a = false
  | [] => rfl
  | x :: r => by
    unfold llt
    rw [if_pos rfl]
    exact llt_irr r
theorem llt_trans : ∀ {a b c : List Int}, llt a b = true → llt b c = true → llt a c = true
  | _, [], _, h, _ => by unfold llt at h; cases h
  | [], _ :: _, [], _, h => by unfold llt at h; cases h
  | _ :: _, _ :: _, [], _, h => by unfold llt at h; cases h
  | [], _ :: _, _ :: _, _, _ => rfl
  | x :: a, y :: b, z :: c, h1, h2 => by
    unfold llt at h1 h2 ⊢
    split at h1
    · rename_i e1
      split at h2
      · rename_i e2
        rw [if_pos (e1.trans e2)]
        exact llt_trans h1 h2
      · rename_i e2
        rw [if_neg (by omega)]
        have := of_decide_eq_true h2
        exact decide_eq_true (by omega)
    · rename_i e1
      have g1 := of_decide_eq_true h1
      split at h2
      · rename_i e2
        rw [if_neg (by omega)]
        exact decide_eq_true (by omega)
      · have g2 := of_decide_eq_true h2
        rw [if_neg (by omega)]
        exact decide_eq_true (by omega)
theorem llt_tri : ∀ {a b : List Int}, llt a b = false → llt b a = false → a = b
  | [], [], _, _ => rfl
  | [], _ :: _, h, _ => by unfold llt at h; cases h
  | _ :: _, [], _, h => by unfold llt at h; cases h
  | x :: a, y :: b, h1, h2 => by
    unfold llt at h1 h2
    by_cases e : x = y
    · rw [if_pos e] at h1
      rw [if_pos e.symm] at h2
      rw [e, llt_tri h1 h2]
    · rw [if_neg e] at h1
      rw [if_neg (Ne.symm e)] at h2
      have g1 := of_decide_eq_false h1
      have g2 := of_decide_eq_false h2
      omega
/-- a is no more than b -/
def LLe (a b : List Int) : Prop := lenLt b a = false
theorem lle_refl (a : List Int) : LLe a a := by
  unfold LLe lenLt
  rw [if_pos rfl]
  exact llt_irr a
theorem lle_len {a b : List Int} (h : LLe a b) : a.length ≤ b.length := by
  unfold LLe lenLt at h
  split at h
  · omega
  · have := of_decide_eq_false h
    omega
theorem lle_short {a b : List Int} (h : a.length < b.length) : LLe a b := by
  unfold LLe lenLt
  rw [if_neg (by omega)]
  exact decide_eq_false (by omega)
theorem lle_trans {a b c : List Int} (h1 : LLe a b) (h2 : LLe b c) : LLe a c := by
  have l1 := lle_len h1
  have l2 := lle_len h2
  by_cases e : a.length < c.length
  · exact lle_short e
  · have e1 : a.length = b.length := by omega
    have e2 : b.length = c.length := by omega
    unfold LLe lenLt at h1 h2 ⊢
    rw [if_pos e1.symm] at h1
    rw [if_pos e2.symm] at h2
    rw [if_pos (by omega)]
    cases q : llt c a with
    | false => rfl
    | true =>
      exfalso
      by_cases q2 : a = b
      · rw [q2] at q
        rw [q] at h2
        cases h2
      · have q3 : llt a b = true := by
          cases z : llt a b with
          | true => rfl
          | false => exact absurd (llt_tri z h1) q2
        have := llt_trans q q3
        rw [this] at h2
        cases h2
theorem lle_anti {a b : List Int} (h1 : LLe a b) (h2 : LLe b a) : a = b := by
  have l1 := lle_len h1
  have l2 := lle_len h2
  unfold LLe lenLt at h1 h2
  rw [if_pos (by omega)] at h1 h2
  exact llt_tri h2 h1
theorem lle_of_lt {a b : List Int} (h : lenLt a b = true) : LLe a b := by
  unfold LLe
  cases q : lenLt b a with
  | false => rfl
  | true =>
    exfalso
    unfold lenLt at h q
    by_cases e : a.length = b.length
    · rw [if_pos e] at h
      rw [if_pos e.symm] at q
      have := llt_trans h q
      rw [llt_irr] at this
      cases this
    · rw [if_neg e] at h
      rw [if_neg (Ne.symm e)] at q
      have g1 := of_decide_eq_true h
      have g2 := of_decide_eq_true q
      omega
theorem lle_cons {a b : List Int} (c : Int) (h : LLe a b) : LLe (c :: a) (c :: b) := by
  unfold LLe lenLt at h ⊢
  simp only [List.length_cons, Nat.add_right_cancel_iff]
  split at h
  · rename_i e
    rw [if_pos e]
    unfold llt
    rw [if_pos rfl]
    exact h
  · rename_i e
    rw [if_neg e]
    have := of_decide_eq_false h
    exact decide_eq_false (by omega)
/-! ### the tapes that can be -/
/-- a tape is read as T; no shift spoils more; op: how many signs the latest shift would have spoilt -/
def acc (A B : List Nat) (most : Int) : List Int → List Nat → Int → Option Int → Prop
  | [], T, _, _ => T = []
  | c :: w, T, st, op =>
    if c < (A.length : Int) then (match T with
      | [] => False
      | t :: r => sgn A B st c = t ∧ (match op with
        | none => acc A B most w r st none
        | some k => if cmn A B c = true then acc A B most w r st (some k) else k + 1 ≤ most ∧ acc A B most w r st (some (k + 1))))
    else acc A B most w T (c - (A.length : Int)) (if c - (A.length : Int) = st then none else some 0)
theorem acc_shift {A B : List Nat} {most c : Int} {w : List Int} {T : List Nat} {st : Int} {op : Option Int} (h : ¬ c < (A.length : Int)) : acc A B most (c :: w) T st op ↔ acc A B most w T (c - (A.length : Int)) (if c - (A.length : Int) = st then none else some 0) := by
  rw [show acc A B most (c :: w) T st op = (if c < (A.length : Int) then _ else acc A B most w T (c - (A.length : Int)) (if c - (A.length : Int) = st then none else some 0)) from rfl, if_neg h]
theorem acc_sign {A B : List Nat} {most c : Int} {w : List Int} {T : List Nat} {st : Int} {op : Option Int} (h : c < (A.length : Int)) : acc A B most (c :: w) T st op ↔ ∃ t r, T = t :: r ∧ sgn A B st c = t ∧ (match op with
        | none => acc A B most w r st none
        | some k => if cmn A B c = true then acc A B most w r st (some k) else k + 1 ≤ most ∧ acc A B most w r st (some (k + 1))) := by
  cases T with
  | nil =>
    rw [show acc A B most (c :: w) [] st op = (if c < (A.length : Int) then False else _) from rfl, if_pos h]
    constructor
    · intro z; exact z.elim
    · rintro ⟨_, _, z, _⟩
      cases z
  | cons t r =>
    rw [show acc A B most (c :: w) (t :: r) st op = (if c < (A.length : Int) then (sgn A B st c = t ∧ (match op with
        | none => acc A B most w r st none
        | some k => if cmn A B c = true then acc A B most w r st (some k) else k + 1 ≤ most ∧ acc A B most w r st (some (k + 1)))) else _) from rfl, if_pos h]
    constructor
    · rintro ⟨h1, h2⟩
      exact ⟨t, r, rfl, h1, h2⟩
    · rintro ⟨t2, r2, e, h1, h2⟩
      cases e
      exact ⟨h1, h2⟩
/-- what is read -/
theorem acc_read {A B : List Nat} {most : Int} : ∀ {w : List Int} {T : List Nat} {st : Int} {op : Option Int}, acc A B most w T st op → (gon A B w st).1 = T
  | [], T, st, op, h => by
    have h : T = [] := h
    rw [h]
    rfl
  | c :: w, T, st, op, h => by
    by_cases hc : c < (A.length : Int)
    · obtain ⟨t, r, rfl, h1, h2⟩ := (acc_sign hc).mp h
      rw [gon_sign hc, h1]
      show t :: (gon A B w st).1 = t :: r
      congr 1
      cases op with
      | none => exact acc_read h2
      | some k =>
        have h2 : if cmn A B c = true then acc A B most w r st (some k) else k + 1 ≤ most ∧ acc A B most w r st (some (k + 1)) := h2
        split at h2
        · exact acc_read h2
        · exact acc_read h2.2
    · rw [gon_shift hc]
      exact acc_read ((acc_shift hc).mp h)
/-- where a shift spoils, closed it does too -/
theorem acc_closed {A B : List Nat} {most : Int} : ∀ {w : List Int} {T : List Nat} {st k : Int}, acc A B most w T st (some k) → acc A B most w T st none
  | [], T, st, k, h => h
  | c :: w, T, st, k, h => by
    by_cases hc : c < (A.length : Int)
    · obtain ⟨t, r, rfl, h1, h2⟩ := (acc_sign hc).mp h
      refine (acc_sign hc).mpr ⟨t, r, rfl, h1, ?_⟩
      have h2 : if cmn A B c = true then acc A B most w r st (some k) else k + 1 ≤ most ∧ acc A B most w r st (some (k + 1)) := h2
      show acc A B most w r st none
      split at h2
      · exact acc_closed h2
      · exact acc_closed h2.2
    · exact (acc_shift hc).mpr ((acc_shift hc).mp h)
/-- r is there and no more than w -/
def OLe (r : Option (List Int)) (w : List Int) : Prop := ∃ l, r = some l ∧ LLe l w
theorem OLe.l {a b : Option (List Int)} {w : List Int} (h : OLe a w) : OLe (shF a b) w := by
  obtain ⟨l, rfl, h⟩ := h
  unfold shF
  cases b with
  | none => exact ⟨l, rfl, h⟩
  | some m =>
    show OLe (if lenLt m l = true then some m else some l) w
    by_cases q : lenLt m l = true
    · rw [if_pos q]
      exact ⟨m, rfl, lle_trans (lle_of_lt q) h⟩
    · rw [if_neg q]
      exact ⟨l, rfl, h⟩
theorem OLe.r {a b : Option (List Int)} {w : List Int} (h : OLe b w) : OLe (shF a b) w := by
  obtain ⟨m, rfl, h⟩ := h
  unfold shF
  cases a with
  | none => exact ⟨m, rfl, h⟩
  | some l =>
    show OLe (if lenLt m l = true then some m else some l) w
    by_cases q : lenLt m l = true
    · rw [if_pos q]
      exact ⟨m, rfl, h⟩
    · rw [if_neg q]
      have q : lenLt m l = false := by simpa using q
      exact ⟨l, rfl, lle_trans q h⟩
theorem OLe.mono {a : Option (List Int)} {v w : List Int} (h : OLe a v) (q : LLe v w) : OLe a w := by
  obtain ⟨l, e, h⟩ := h
  exact ⟨l, e, lle_trans h q⟩
theorem OLe.cons {a : Option (List Int)} {w : List Int} (c : Int) (h : OLe a w) : OLe (ahF [c] a) (c :: w) := by
  obtain ⟨l, rfl, h⟩ := h
  exact ⟨c :: l, rfl, lle_cons c h⟩
/-- the code of a sign is one -/
theorem code_one {A B : List Nat} (g : Good A B) {st c : Int} (h0 : 0 ≤ c) (h1 : c < (A.length : Int)) : codeOf A B st (sgn A B st c) = some c := by
  have hl : c.toNat < (rowS A B st).length := by rw [row_len g.eq]; omega
  have hm : sgn A B st c = (rowS A B st)[c.toNat] := by
    unfold sgn
    rw [List.getD_eq_getElem?_getD, List.getElem?_eq_getElem hl]
    rfl
  have nd : (rowS A B st).Nodup := by
    unfold rowS
    split
    · exact g.ndA
    · exact g.ndB
  rw [codeOf_some (by rw [hm]; exact List.getElem_mem hl), hm]
  have h2 : (rowS A B st).idxOf (rowS A B st)[c.toNat] < (rowS A B st).length := List.idxOf_lt_length_iff.mpr (List.getElem_mem hl)
  have e : (rowS A B st).idxOf (rowS A B st)[c.toNat] = c.toNat := (List.getElem_inj (h₀ := h2) (h₁ := hl) nd).mp (List.getElem_idxOf h2)
  rw [e]
  congr 1
  omega
/-- what the writer finds can be -/
theorem ahF_eq {cs : List Int} {r : Option (List Int)} {l : List Int} (h : ahF cs r = some l) : ∃ m, r = some m ∧ l = cs ++ m := by
  unfold ahF at h
  obtain ⟨m, h1, h2⟩ := Option.map_eq_some_iff.mp h
  exact ⟨m, h1, h2.symm⟩
theorem shF_or (a b : Option (List Int)) : shF a b = a ∨ shF a b = b := by
  unfold shF
  split
  · exact .inr rfl
  · exact .inl rfl
theorem sgF_acc {A B : List Nat} (g : Good A B) {most : Int} {t : Nat} {r : List Nat} {R : Int → Option Int → Option (List Int)} (ih : ∀ {st : Int} {op : Option Int} {l : List Int}, StOk st → R st op = some l → acc A B most l r st op ∧ CodesOk A.length l)
    {st : Int} {op : Option Int} {l : List Int} (hs : StOk st) (h : sgF A B most t R st op = some l) : acc A B most l (t :: r) st op ∧ CodesOk A.length l := by
  cases hc : codeOf A B st t with
  | none =>
    unfold sgF at h
    rw [hc] at h
    cases h
  | some c =>
    obtain ⟨c0, c1, c2⟩ := codeOf_lt g.eq hc
    have co : ∀ {m : List Int}, CodesOk A.length m → CodesOk A.length ([c] ++ m) := fun hm => CodesOk.app (fun z hz => by rw [List.mem_singleton.mp hz]; omega) hm
    unfold sgF at h
    rw [hc] at h
    cases op with
    | none =>
      obtain ⟨m, h1, rfl⟩ := ahF_eq h
      obtain ⟨a1, a2⟩ := ih hs h1
      exact ⟨(acc_sign c1).mpr ⟨t, r, rfl, c2, a1⟩, co a2⟩
    | some k =>
      have h : (if cmn A B c = true then ahF [c] (R st (some k)) else if most < k + 1 then none else ahF [c] (R st (some (k + 1)))) = some l := h
      split at h
      · rename_i hcm
        obtain ⟨m, h1, rfl⟩ := ahF_eq h
        obtain ⟨a1, a2⟩ := ih hs h1
        refine ⟨(acc_sign c1).mpr ⟨t, r, rfl, c2, ?_⟩, co a2⟩
        show if cmn A B c = true then _ else _
        rw [if_pos hcm]
        exact a1
      · rename_i hcm
        split at h
        · cases h
        · rename_i hm
          obtain ⟨m, h1, rfl⟩ := ahF_eq h
          obtain ⟨a1, a2⟩ := ih hs h1
          refine ⟨(acc_sign c1).mpr ⟨t, r, rfl, c2, ?_⟩, co a2⟩
          show if cmn A B c = true then _ else _
          rw [if_neg hcm]
          exact ⟨by omega, a1⟩
theorem reF_acc {A B : List Nat} (g : Good A B) {most : Int} : ∀ {T : List Nat} {st : Int} {op : Option Int} {l : List Int}, StOk st → reF A B most T st op = some l → acc A B most l T st op ∧ CodesOk A.length l
  | [], st, op, l, hs, h => by
    have h : some [] = some l := h
    cases h
    exact ⟨rfl, fun c hc => by cases hc⟩
  | t :: r, st, op, l, hs, h => by
    have hs2 : StOk (1 - st) := by unfold StOk at hs ⊢; omega
    have sg : ∀ {st : Int} {op : Option Int} {l : List Int}, StOk st → sgF A B most t (reF A B most r) st op = some l → acc A B most l (t :: r) st op ∧ CodesOk A.length l := fun hs h => sgF_acc g (fun hs h => reF_acc g hs h) hs h
    have n1 : ¬ (A.length : Int) + 1 - st < (A.length : Int) := by unfold StOk at hs; omega
    have n2 : ¬ (A.length : Int) + st < (A.length : Int) := by unfold StOk at hs; omega
    have e1 : (A.length : Int) + 1 - st - (A.length : Int) = 1 - st := by omega
    have e2 : (A.length : Int) + st - (A.length : Int) = st := by omega
    have ne1 : ¬ (1 - st = st) := by unfold StOk at hs; omega
    have k1 : 0 ≤ (A.length : Int) + 1 - st ∧ (A.length : Int) + 1 - st < (A.length : Int) + 2 := by unfold StOk at hs; omega
    have k2 : 0 ≤ (A.length : Int) + st ∧ (A.length : Int) + st < (A.length : Int) + 2 := by unfold StOk at hs; omega
    have c2 : ∀ {l : List Int}, ahF [(A.length : Int) + 1 - st] (sgF A B most t (reF A B most r) (1 - st) (some 0)) = some l → acc A B most l (t :: r) st op ∧ CodesOk A.length l := fun h => by
      obtain ⟨m, h1, rfl⟩ := ahF_eq h
      obtain ⟨a1, a2⟩ := sg hs2 h1
      refine ⟨(acc_shift n1).mpr ?_, CodesOk.app (fun z hz => by rw [List.mem_singleton.mp hz]; exact k1) a2⟩
      rw [e1, if_neg ne1]
      exact a1
    have c3 : ∀ {l : List Int}, ahF [(A.length : Int) + st] (sgF A B most t (reF A B most r) st none) = some l → acc A B most l (t :: r) st op ∧ CodesOk A.length l := fun h => by
      obtain ⟨m, h1, rfl⟩ := ahF_eq h
      obtain ⟨a1, a2⟩ := sg hs h1
      refine ⟨(acc_shift n2).mpr ?_, CodesOk.app (fun z hz => by rw [List.mem_singleton.mp hz]; exact k2) a2⟩
      rw [e2, if_pos rfl]
      exact a1
    have c4 : ∀ {l : List Int}, ahF [(A.length : Int) + 1 - st, (A.length : Int) + 1 - st] (sgF A B most t (reF A B most r) (1 - st) none) = some l → acc A B most l (t :: r) st op ∧ CodesOk A.length l := fun h => by
      obtain ⟨m, h1, rfl⟩ := ahF_eq h
      obtain ⟨a1, a2⟩ := sg hs2 h1
      refine ⟨(acc_shift n1).mpr ?_, CodesOk.app (fun z hz => ?_) a2⟩
      · rw [e1, if_neg ne1]
        refine (acc_shift n1).mpr ?_
        rw [e1, if_pos rfl]
        exact a1
      · have : z = (A.length : Int) + 1 - st := by simpa using hz
        rw [this]
        exact k1
    unfold reF at h
    rcases shF_or (let b := shF (sgF A B most t (reF A B most r) st op) (ahF [(A.length : Int) + 1 - st] (sgF A B most t (reF A B most r) (1 - st) (some 0)))
      if op = none then b else shF b (ahF [(A.length : Int) + st] (sgF A B most t (reF A B most r) st none))) (ahF [(A.length : Int) + 1 - st, (A.length : Int) + 1 - st] (sgF A B most t (reF A B most r) (1 - st) none)) with e | e
    · rw [e] at h
      have b2 : ∀ {l : List Int}, shF (sgF A B most t (reF A B most r) st op) (ahF [(A.length : Int) + 1 - st] (sgF A B most t (reF A B most r) (1 - st) (some 0))) = some l → acc A B most l (t :: r) st op ∧ CodesOk A.length l := fun h => by
        rcases shF_or (sgF A B most t (reF A B most r) st op) (ahF [(A.length : Int) + 1 - st] (sgF A B most t (reF A B most r) (1 - st) (some 0))) with e | e
        · rw [e] at h
          exact sg hs h
        · rw [e] at h
          exact c2 h
      have h : (if op = none then shF (sgF A B most t (reF A B most r) st op) (ahF [(A.length : Int) + 1 - st] (sgF A B most t (reF A B most r) (1 - st) (some 0)))
        else shF (shF (sgF A B most t (reF A B most r) st op) (ahF [(A.length : Int) + 1 - st] (sgF A B most t (reF A B most r) (1 - st) (some 0)))) (ahF [(A.length : Int) + st] (sgF A B most t (reF A B most r) st none))) = some l := h
      split at h
      · exact b2 h
      · rcases shF_or (shF (sgF A B most t (reF A B most r) st op) (ahF [(A.length : Int) + 1 - st] (sgF A B most t (reF A B most r) (1 - st) (some 0)))) (ahF [(A.length : Int) + st] (sgF A B most t (reF A B most r) st none)) with e | e
        · rw [e] at h
          exact b2 h
        · rw [e] at h
          exact c3 h
    · rw [e] at h
      exact c4 h
/-- the four ways ahead of a sign -/
theorem ole_1 {A B : List Nat} {most : Int} {t : Nat} {r : List Nat} {st : Int} {op : Option Int} {w : List Int} (h : OLe (sgF A B most t (reF A B most r) st op) w) : OLe (reF A B most (t :: r) st op) w := by
  unfold reF
  refine OLe.l ?_
  show OLe (if op = none then _ else _) w
  split
  · exact h.l
  · exact h.l.l
theorem ole_2 {A B : List Nat} {most : Int} {t : Nat} {r : List Nat} {st : Int} {op : Option Int} {w : List Int} (h : OLe (ahF [(A.length : Int) + 1 - st] (sgF A B most t (reF A B most r) (1 - st) (some 0))) w) : OLe (reF A B most (t :: r) st op) w := by
  unfold reF
  refine OLe.l ?_
  show OLe (if op = none then _ else _) w
  split
  · exact h.r
  · exact h.r.l
theorem ole_3 {A B : List Nat} {most : Int} {t : Nat} {r : List Nat} {st : Int} {op : Option Int} {w : List Int} (ho : op ≠ none) (h : OLe (ahF [(A.length : Int) + st] (sgF A B most t (reF A B most r) st none)) w) : OLe (reF A B most (t :: r) st op) w := by
  unfold reF
  refine OLe.l ?_
  show OLe (if op = none then _ else _) w
  rw [if_neg ho]
  exact h.r
theorem ole_4 {A B : List Nat} {most : Int} {t : Nat} {r : List Nat} {st : Int} {op : Option Int} {w : List Int} (h : OLe (ahF [(A.length : Int) + 1 - st, (A.length : Int) + 1 - st] (sgF A B most t (reF A B most r) (1 - st) none)) w) : OLe (reF A B most (t :: r) st op) w := by
  unfold reF
  exact h.r
theorem sg_ole {A B : List Nat} (g : Good A B) {most : Int} {c : Int} {w : List Int} {t : Nat} {r : List Nat} {st : Int} {op : Option Int} (h0 : 0 ≤ c) (hc : c < (A.length : Int)) (h : acc A B most (c :: w) (t :: r) st op)
    (ih : ∀ {op : Option Int}, acc A B most w r st op → OLe (reF A B most r st op) w) : OLe (sgF A B most t (reF A B most r) st op) (c :: w) := by
  obtain ⟨t2, r2, e, h1, h2⟩ := (acc_sign hc).mp h
  cases e
  have e1 := code_one g (st := st) h0 hc
  rw [h1] at e1
  cases op with
  | none =>
    rw [sgF_none e1]
    exact (ih h2).cons c
  | some k =>
    rw [sgF_some e1]
    have h2 : if cmn A B c = true then acc A B most w r st (some k) else k + 1 ≤ most ∧ acc A B most w r st (some (k + 1)) := h2
    split at h2
    · rename_i q
      rw [if_pos q]
      exact (ih h2).cons c
    · rename_i q
      rw [if_neg q, if_neg (by omega)]
      exact (ih h2.2).cons c
theorem ahF_two (a : Int) (r : Option (List Int)) : ahF [a, a] r = ahF [a] (ahF [a] r) := by
  cases r <;> rfl
/-- none is less than what the writer finds -/
theorem reF_opt {A B : List Nat} (g : Good A B) {most : Int} : ∀ (n : Nat) {w : List Int} {T : List Nat} {st : Int} {op : Option Int}, w.length ≤ n → StOk st → CodesOk A.length w → acc A B most w T st op → OLe (reF A B most T st op) w
  | _, [], T, st, op, _, _, _, h => by
    have h : T = [] := h
    subst h
    exact ⟨[], rfl, lle_refl _⟩
  | 0, c :: w, T, st, op, hn, _, _, _ => by
    simp at hn
  | n + 1, c :: w, [], st, op, _, _, _, _ => ⟨[], rfl, lle_short (by simp)⟩
  | n + 1, c :: w, t :: r, st, op, hn, hs, hok, h => by
    have hn : w.length ≤ n := by simp only [List.length_cons] at hn; omega
    have hc := hok c List.mem_cons_self
    have okw : CodesOk A.length w := fun z hz => hok z (List.mem_cons_of_mem _ hz)
    have ih : ∀ {v : List Int} {T : List Nat} {st : Int} {op : Option Int}, v.length ≤ n → StOk st → CodesOk A.length v → acc A B most v T st op → OLe (reF A B most T st op) v := fun h1 h2 h3 h4 => reF_opt g n h1 h2 h3 h4
    have hs2 : StOk (1 - st) := by unfold StOk at hs ⊢; omega
    have n2 : ¬ (A.length : Int) + st < (A.length : Int) := by unfold StOk at hs; omega
    have e2 : (A.length : Int) + st - (A.length : Int) = st := by omega
    have k2 : 0 ≤ (A.length : Int) + st ∧ (A.length : Int) + st < (A.length : Int) + 2 := by unfold StOk at hs; omega
    -- what may begin closed in the state: no more than a shift is wanted
    have closed : ∀ {v : List Int}, v.length + 1 ≤ n → CodesOk A.length v → acc A B most v (t :: r) st none → v.length + 1 < (c :: w).length → OLe (reF A B most (t :: r) st op) (c :: w) := fun {v} hv okv hav hl => by
      by_cases ho : op = none
      · rw [ho]
        exact (ih (by omega) hs okv hav).mono (lle_short (by omega))
      · have a1 : acc A B most (((A.length : Int) + st) :: v) (t :: r) st op := by
          refine (acc_shift n2).mpr ?_
          rw [e2, if_pos rfl]
          exact hav
        refine (ih (by simpa using hv) hs ?_ a1).mono (lle_short (by simpa using hl))
        intro z hz
        rcases List.mem_cons.mp hz with e | hz
        · rw [e]; exact k2
        · exact okv z hz
    by_cases hcl : c < (A.length : Int)
    · exact ole_1 (sg_ole g hc.1 hcl h fun ha => ih hn hs okw ha)
    · have h1 := (acc_shift hcl).mp h
      have hk : StOk (c - (A.length : Int)) := by unfold StOk; omega
      match w, hn, okw, h1 with
      | [], _, _, h1 => cases (show t :: r = [] from h1)
      | c2 :: w2, hn, okw, h1 =>
        have hn : w2.length + 1 ≤ n := by simpa using hn
        have hc2 := okw c2 List.mem_cons_self
        have okw2 : CodesOk A.length w2 := fun z hz => okw z (List.mem_cons_of_mem _ hz)
        by_cases hc2l : c2 < (A.length : Int)
        · by_cases hks : c - (A.length : Int) = st
          · rw [hks, if_pos rfl] at h1
            by_cases ho : op = none
            · rw [ho]
              exact (ih (by simpa using hn) hs okw h1).mono (lle_short (by simp))
            · refine ole_3 ho ?_
              rw [show (A.length : Int) + st = c by omega]
              exact (sg_ole g hc2.1 hc2l h1 fun ha => ih (by omega) hs okw2 ha).cons c
          · have e3 : c - (A.length : Int) = 1 - st := by unfold StOk at hk hs; omega
            rw [if_neg hks, e3] at h1
            refine ole_2 ?_
            rw [show (A.length : Int) + 1 - st = c by omega]
            exact (sg_ole g hc2.1 hc2l h1 fun ha => ih (by omega) hs2 okw2 ha).cons c
        · have h2 := (acc_shift hc2l).mp h1
          have hk2 : StOk (c2 - (A.length : Int)) := by unfold StOk; omega
          by_cases hk2s : c2 - (A.length : Int) = st
          · have hcl3 : acc A B most w2 (t :: r) st none := by
              rw [hk2s] at h2
              split at h2
              · exact h2
              · exact acc_closed h2
            exact closed hn okw2 hcl3 (by simp)
          · have e4 : c2 - (A.length : Int) = 1 - st := by unfold StOk at hk2 hs; omega
            by_cases hkk : c2 - (A.length : Int) = c - (A.length : Int)
            · rw [if_pos hkk, e4] at h2
              match w2, hn, okw2, h2 with
              | [], _, _, h2 => cases (show t :: r = [] from h2)
              | c3 :: w3, hn, okw2, h2 =>
                have hc3 := okw2 c3 List.mem_cons_self
                have okw3 : CodesOk A.length w3 := fun z hz => okw2 z (List.mem_cons_of_mem _ hz)
                have hn : w3.length + 1 + 1 ≤ n := by simpa using hn
                by_cases hc3l : c3 < (A.length : Int)
                · refine ole_4 ?_
                  rw [ahF_two, show (A.length : Int) + 1 - st = c by omega]
                  have := ((sg_ole g hc3.1 hc3l h2 fun ha => ih (by omega) hs2 okw3 ha).cons c2).cons c
                  rw [show c2 = c by omega] at this ⊢
                  exact this
                · have h3 := (acc_shift hc3l).mp h2
                  have hk3 : StOk (c3 - (A.length : Int)) := by unfold StOk; omega
                  by_cases hk3s : c3 - (A.length : Int) = st
                  · have hcl4 : acc A B most w3 (t :: r) st none := by
                      rw [hk3s] at h3
                      split at h3
                      · exact h3
                      · exact acc_closed h3
                    exact closed (by omega) okw3 hcl4 (by simp)
                  · have e5 : c3 - (A.length : Int) = 1 - st := by unfold StOk at hk3 hs; omega
                    rw [e5, if_pos rfl] at h3
                    have a2 : acc A B most (c :: c2 :: w3) (t :: r) st op := by
                      refine (acc_shift hcl).mpr ((acc_shift hc2l).mpr ?_)
                      rw [if_pos hkk, e4]
                      exact h3
                    refine (ih (by simpa using hn) hs ?_ a2).mono (lle_short (by simp))
                    intro z hz
                    rcases List.mem_cons.mp hz with e | hz
                    · rw [e]; exact hc
                    · rcases List.mem_cons.mp hz with e | hz
                      · rw [e]; exact hc2
                      · exact okw3 z hz
            · have a2 : acc A B most (c2 :: w2) (t :: r) st op := by
                refine (acc_shift hc2l).mpr ?_
                rw [if_neg hk2s]
                rw [if_neg hkk] at h2
                exact h2
              exact (ih (by simpa using hn) hs okw a2).mono (lle_short (by simp))
/-- every tape that can be is no less -/
theorem leaF_opt {A B : List Nat} (g : Good A B) {most : Int} {w : List Int} {T : List Nat} {st : Int} (hT : InSets A B T) (hs : StOk st) (hc : CodesOk A.length w) (h : acc A B most w T st none) : LLe (leaF A B most T st) w := by
  obtain ⟨l, e, h1⟩ := reF_opt g w.length (Nat.le_refl _) hs hc h
  rw [leaF_eq hT hs] at e
  cases e
  exact h1
theorem leaF_acc {A B : List Nat} (g : Good A B) {most : Int} {T : List Nat} {st : Int} (hT : InSets A B T) (hs : StOk st) : acc A B most (leaF A B most T st) T st none ∧ CodesOk A.length (leaF A B most T st) := reF_acc g hs (leaF_eq hT hs)
/-! ### more of the tapes that can be -/
theorem acc_mono {A B : List Nat} {m m2 : Int} (hm : m ≤ m2) : ∀ {w : List Int} {T : List Nat} {st : Int} {op : Option Int}, acc A B m w T st op → acc A B m2 w T st op
  | [], T, st, op, h => h
  | c :: w, T, st, op, h => by
    by_cases hc : c < (A.length : Int)
    · obtain ⟨t, r, rfl, h1, h2⟩ := (acc_sign hc).mp h
      refine (acc_sign hc).mpr ⟨t, r, rfl, h1, ?_⟩
      cases op with
      | none => exact acc_mono hm h2
      | some k =>
        have h2 : if cmn A B c = true then acc A B m w r st (some k) else k + 1 ≤ m ∧ acc A B m w r st (some (k + 1)) := h2
        show if cmn A B c = true then acc A B m2 w r st (some k) else k + 1 ≤ m2 ∧ acc A B m2 w r st (some (k + 1))
        split at h2
        · rename_i q
          rw [if_pos q]
          exact acc_mono hm h2
        · rename_i q
          rw [if_neg q]
          exact ⟨by omega, acc_mono hm h2.2⟩
    · exact (acc_shift hc).mpr (acc_mono hm ((acc_shift hc).mp h))
/-- a tape that is read as T can be, where as much may be spoilt as T has signs -/
theorem acc_of {A B : List Nat} {m : Int} : ∀ {w : List Int} {T : List Nat} {st : Int} {op : Option Int}, (gon A B w st).1 = T → (T.length : Int) ≤ m → (∀ k, op = some k → k + (T.length : Int) ≤ m) → acc A B m w T st op
  | [], T, st, op, h, _, _ => h.symm
  | c :: w, T, st, op, h, hm, ho => by
    by_cases hc : c < (A.length : Int)
    · rw [gon_sign hc] at h
      have h : sgn A B st c :: (gon A B w st).1 = T := h
      subst h
      simp only [List.length_cons] at hm ho
      refine (acc_sign hc).mpr ⟨_, _, rfl, rfl, ?_⟩
      cases op with
      | none => exact acc_of rfl (by omega) fun k z => by cases z
      | some k =>
        have h1 := ho k rfl
        show if cmn A B c = true then _ else _
        split
        · exact acc_of rfl (by omega) fun k2 z => by cases z; omega
        · exact ⟨by omega, acc_of rfl (by omega) fun k2 z => by cases z; omega⟩
    · rw [gon_shift hc] at h
      refine (acc_shift hc).mpr (acc_of h hm fun k z => ?_)
      split at z
      · cases z
      · cases z
        omega
/-- a sign fewer -/
theorem acc_less {A B : List Nat} {m : Int} {t : Nat} : ∀ {w : List Int} {T : List Nat} {st : Int} {op : Option Int}, CodesOk A.length w → acc A B m w (T ++ [t]) st op → ∃ u, u.length < w.length ∧ CodesOk A.length u ∧ acc A B m u T st op
  | [], T, st, op, _, h => by
    have h : T ++ [t] = [] := h
    simp at h
  | c :: w, T, st, op, hok, h => by
    have okw : CodesOk A.length w := fun z hz => hok z (List.mem_cons_of_mem _ hz)
    have okc : ∀ {u : List Int}, CodesOk A.length u → CodesOk A.length (c :: u) := fun hu z hz => (List.mem_cons.mp hz).elim (fun e => by rw [e]; exact hok c List.mem_cons_self) (hu z)
    by_cases hc : c < (A.length : Int)
    · obtain ⟨t2, r, e, h1, h2⟩ := (acc_sign hc).mp h
      cases T with
      | nil => exact ⟨[], by simp, fun z hz => (by cases hz), rfl⟩
      | cons a T =>
        have e : a :: (T ++ [t]) = t2 :: r := e
        cases e
        cases op with
        | none =>
          obtain ⟨u, u1, u2, u3⟩ := acc_less okw h2
          exact ⟨c :: u, by simpa using u1, okc u2, (acc_sign hc).mpr ⟨_, _, rfl, h1, u3⟩⟩
        | some k =>
          have h2 : if cmn A B c = true then acc A B m w (T ++ [t]) st (some k) else k + 1 ≤ m ∧ acc A B m w (T ++ [t]) st (some (k + 1)) := h2
          split at h2
          · rename_i q
            obtain ⟨u, u1, u2, u3⟩ := acc_less okw h2
            refine ⟨c :: u, by simpa using u1, okc u2, (acc_sign hc).mpr ⟨_, _, rfl, h1, ?_⟩⟩
            show if cmn A B c = true then _ else _
            rw [if_pos q]
            exact u3
          · rename_i q
            obtain ⟨u, u1, u2, u3⟩ := acc_less okw h2.2
            refine ⟨c :: u, by simpa using u1, okc u2, (acc_sign hc).mpr ⟨_, _, rfl, h1, ?_⟩⟩
            show if cmn A B c = true then _ else _
            rw [if_neg q]
            exact ⟨h2.1, u3⟩
    · obtain ⟨u, u1, u2, u3⟩ := acc_less okw ((acc_shift hc).mp h)
      exact ⟨c :: u, by simpa using u1, okc u2, (acc_shift hc).mpr u3⟩
section
variable {A B : List Nat} {T : List Nat} {st m m2 : Int}
theorem leaF_read (g : Good A B) (hT : InSets A B T) (hs : StOk st) : (gon A B (leaF A B m T st) st).1 = T := acc_read (leaF_acc g hT hs).1
theorem leaF_mono (g : Good A B) (hT : InSets A B T) (hs : StOk st) (h : m ≤ m2) : LLe (leaF A B m2 T st) (leaF A B m T st) :=
  leaF_opt g hT hs (leaF_acc g hT hs).2 (acc_mono h (leaF_acc g hT hs).1)
theorem leaF_any (g : Good A B) (hT : InSets A B T) (hs : StOk st) (h : (T.length : Int) ≤ m) {w : List Int} (hw : CodesOk A.length w) (hr : (gon A B w st).1 = T) : LLe (leaF A B m T st) w :=
  leaF_opt g hT hs hw (acc_of hr h fun k z => by cases z)
theorem leaF_same (g : Good A B) (hT : InSets A B T) (hs : StOk st) (h : (T.length : Int) ≤ m) (h2 : (T.length : Int) ≤ m2) : leaF A B m T st = leaF A B m2 T st :=
  lle_anti (leaF_any g hT hs h (leaF_acc g hT hs).2 (leaF_read g hT hs)) (leaF_any g hT hs h2 (leaF_acc g hT hs).2 (leaF_read g hT hs))
theorem leaF_more (g : Good A B) {t : Nat} (hT : InSets A B (T ++ [t])) (hs : StOk st) : (leaF A B m T st).length < (leaF A B m (T ++ [t]) st).length := by
  obtain ⟨a1, a2⟩ := leaF_acc g (most := m) hT hs
  obtain ⟨u, u1, u2, u3⟩ := acc_less a2 a1
  have h := lle_len (leaF_opt g (fun x hx => hT x (List.mem_append_left _ hx)) hs u2 u3)
  omega
theorem leaT_trim (g : Good A B) (hT : InSets A B T) (hs : StOk st) : (trimR A B (leaT A B T st) st st).length = (leaT A B T st).length := by
  have a2 : CodesOk A.length (leaT A B T st) := (leaF_acc g (most := (T.length : Int) + 1) hT hs).2
  have h1 := trim_len A B (leaT A B T st) st
  have h2 : LLe (leaT A B T st) (trimR A B (leaT A B T st) st st) := leaF_any g hT hs (by omega) (trim_ok a2 hs) (by rw [trim_read a2 hs hs]; exact leaF_read g hT hs)
  have h3 := lle_len h2
  omega
end
/-! ### what is spoilt -/
def cnt (n : Nat) (p : Nat → Bool) : Nat := ((List.range n).filter p).length
theorem cnt_succ (n : Nat) (p : Nat → Bool) : cnt (n + 1) p = cnt n p + if p n = true then 1 else 0 := by
  unfold cnt
  rw [List.range_succ, List.filter_append, List.length_append, List.filter_cons, List.filter_nil]
  split <;> rfl
theorem cnt_le (n : Nat) (p : Nat → Bool) : cnt n p ≤ n := by
  unfold cnt
  have h := List.length_filter_le p (List.range n)
  rw [List.length_range] at h
  exact h
/-- how many signs are unlike -/
def dif (a b : List Nat) : Nat := cnt a.length fun i => !decide (a.getD i 0 = b.getD i 0)
/-- how many codes are signs' -/
def nsig (n : Nat) (cs : List Int) : Nat := (cs.filter fun c => decide (c < (n : Int))).length
theorem gon_nsig (A B : List Nat) (st : Int) (cs : List Int) : (gon A B cs st).1.length = nsig A.length cs := by
  have key : ∀ (cs : List Int) (x : List Nat × Int), (cs.foldl (gst A B) x).1.length = x.1.length + nsig A.length cs := by
    intro cs
    induction cs with
    | nil => intro x; rfl
    | cons c r ih =>
      intro x
      rw [List.foldl_cons, ih]
      unfold nsig gst
      rw [List.filter_cons]
      by_cases h : c < (A.length : Int)
      · rw [if_pos h, if_pos (decide_eq_true h), List.length_append, List.length_singleton, List.length_cons]
        omega
      · rw [if_neg h, if_neg (by rw [decide_eq_false h]; decide)]
  have h := key cs ([], st)
  simpa [gon] using h
/-- a tape without its i-th code -/
def lost (cs : List Int) (i : Nat) : List Int := cs.take i ++ cs.drop (i + 1)
theorem nsig_app (n : Nat) (a b : List Int) : nsig n (a ++ b) = nsig n a + nsig n b := by
  unfold nsig
  rw [List.filter_append, List.length_append]
theorem nsig_lost {n : Nat} {cs : List Int} {i : Nat} {c : Int} (h : cs[i]? = some c) (hc : ¬ c < (n : Int)) : nsig n (lost cs i) = nsig n cs := by
  have e : cs = cs.take i ++ c :: cs.drop (i + 1) := by
    obtain ⟨hi, e⟩ := List.getElem?_eq_some_iff.mp h
    rw [← e, List.getElem_cons_drop, List.take_append_drop]
  have e2 : nsig n cs = nsig n (cs.take i ++ c :: cs.drop (i + 1)) := by rw [← e]
  rw [e2]
  unfold lost
  rw [nsig_app, nsig_app]
  congr 1
  unfold nsig
  rw [List.filter_cons, if_neg (by rw [decide_eq_false hc]; decide)]
theorem lost_ok {n : Nat} {cs : List Int} (h : CodesOk n cs) (i : Nat) : CodesOk n (lost cs i) := (h.take i).app (h.drop (i + 1))
theorem lost_len (cs : List Int) (i : Nat) : (lost cs i).length ≤ cs.length := by
  unfold lost
  rw [List.length_append, List.length_take, List.length_drop]
  omega
/-- how many signs the loss of the i-th code spoils -/
def lossAt (A B : List Nat) (cs : List Int) (st : Int) (i : Nat) : Nat := if cs.getD i 0 < (A.length : Int) then 0 else dif (gon A B cs st).1 (gon A B (lost cs i) st).1
def lossL (A B : List Nat) (cs : List Int) (st : Int) : List Int := (List.range cs.length).map fun i => (lossAt A B cs st i : Int)
section
variable {P : Program} {w : World} {K : PySem.W.Frag} {mg : Str → Option Value} {base : Heap}
abbrev s_unlike : Stmt := topS 19
abbrev n_unlike : List Str := ["one", "other", "at"]
theorem sc_unlike : FnScope n_unlike ["one", "other"] (defScope s_unlike) := ⟨rfl, rfl, rfl, by decide +kernel, rfl, by decide +kernel, by decide +kernel⟩

def sp_unlike : Sp := fun vs H Q _ => ∃ (a b : List Nat), vs = [.str (tx a), .str (tx b)] ∧ a.length = b.length ∧ a.length ≤ 1000 ∧ RetV (.int (dif a b : Nat)) H Q
theorem wp_unlike {o : Option Addr} {F : Hp} {Pq : V → Hp → Prop} {a b : List Nat} {E : XK} (h : a.length = b.length) (hl : a.length ≤ 1000) (q : Pq (.int (dif a b : Nat)) F) : Wp o (fun H Q => sp_unlike ([.str (tx a), .str (tx b)] ++ []) H Q E) F Pq :=
  fun H w Q k => ⟨a, b, rfl, h, hl, RetV.use w q k⟩
theorem pm_unlike (D : DefAt K mg "unlike" s_unlike) (B : Bl mg) : Pm P w K mg base CX0 1 "unlike" ["one", "other"] sp_unlike := by
  obtain ⟨f, fd, F, hm⟩ := D
  refine ⟨f, fd, ?_, hm, F.kp, F.binds fun _ _ _ _ _ _ us hl => match us, hl with | [_, _], _ => rfl⟩
  refine F.ok sc_unlike (fun vs H Q E h => ?_) (fun cdv A outer s H vs Q E hr h => ?_)
  · obtain ⟨_, _, rfl, _⟩ := h
    rfl
  · obtain ⟨a, b, rfl, hl, h1, k⟩ := h
    refine ⟨_, (pss_cons (ps_ret (pe_callB (lenK K rfl) (by rfl) B.len PySem.boot_len (pa_cons (pe_lc (own := [("at", 2)]) (g := gName 2) rfl sc_unlike.nd (pi_range1 (by rfl) B.range (pa_cons (pe_callB (lenK K rfl) (by rfl) B.len PySem.boot_len (pa_cons (pv 0) pa_nil)) pa_nil)) (blkOk_by (N := n_unlike) (sc := defScope s_unlike) (by decide +kernel)) (fun _ _ _ _ _ => pg_name (i := 2) sc_unlike.nd rfl (Or.inl rfl)) (fun _ _ _ _ _ => (pts_one (pt_cmpR (neK K rfl hr.units) (pe_ix (ixK K rfl) (pv 0) (pv 2) (fun _ _ => rfl)) (pe_ix (ixK K rfl) (pv 1) (pv 2) (fun _ _ => rfl)) (nomark _)))) (fun _ _ _ _ _ => (pv 2))) pa_nil)))
 pss_nil), ?_⟩
    refine go_st (σ := [some (.str (tx a)), some (.str (tx b)), none]) rfl ?_
    wtm_at "r"
    refine wp_lcR (fun _ => rfl) ?_
    wtm_at "r"
    refine ⟨a.length, rfl, by omega, fun Dl hD => ?_⟩
    refine ⟨fun i acc F => acc.length = cnt i (fun i => !decide (a.getD i 0 = b.getD i 0)) ∧ Ex H F, ⟨rfl, ex_new hD⟩, ?_, ?_⟩
    · rintro i acc F hi q2 ⟨ha, e⟩
      have hi2 : i < b.length := by omega
      have hc := cnt_le i fun i => !decide (a.getD i 0 = b.getD i 0)
      have ga : a.getD i 0 = a[i] := by rw [List.getD_eq_getElem?_getD, List.getElem?_eq_getElem hi]; rfl
      have gb : b.getD i 0 = b[i] := by rw [List.getD_eq_getElem?_getD, List.getElem?_eq_getElem hi2]; rfl
      show Wp _ _ _ _
      wtm_at "r"
      refine wp_ixS (by omega) (atI_nat (List.getElem?_eq_getElem hi)) ?_
      wtm_at "r"
      refine wp_ixS (by omega) (atI_nat (List.getElem?_eq_getElem hi2)) ?_
      refine wp_neS (i := [a[i]]) (j := [b[i]]) ?_
      wtm_at "r"
      refine ⟨fun ht => ?_, fun hf => ⟨q2, ?_, e⟩⟩
      · wtm_at "r"
        refine ⟨q2, by omega, ?_, ex_mut e hD⟩
        rw [List.length_append, List.length_singleton, ha, cnt_succ, if_pos]
        rw [ga, gb]
        simpa using ht
      · rw [ha, cnt_succ, if_neg, Nat.add_zero]
        rw [ga, gb]
        simpa using hf
    · rintro acc F q2 ⟨ha, e⟩
      wtm_at "r"
      rw [ha]
      exact k.out e
abbrev s_spoilt_by : Stmt := topS 31
abbrev n_spoilt_by : List Str := ["sets", "tape", "state", "at"]
theorem sc_spoilt_by : FnScope n_spoilt_by ["sets", "tape", "state", "at"] (defScope s_spoilt_by) := ⟨rfl, rfl, rfl, by decide +kernel, rfl, by decide +kernel, by decide +kernel⟩

def sp_spoilt (K : PySem.W.Frag) : Sp := fun vs H Q _ => ∃ (s t : Addr) (A B : List Nat) (cs : List Int) (st : Int) (i : Nat), vs = [.ref s, .ref t, .int st, .int (i : Int)] ∧ SetsAt K H s A B ∧ SqL K H t (il cs) ∧ Good A B ∧ CodesOk A.length cs ∧ cs.length ≤ 200 ∧ StOk st ∧ i < cs.length ∧
  RetV (.int (lossAt A B cs st i : Nat)) H Q
theorem wp_spoilt {o : Option Addr} {F : Hp} {Pq : V → Hp → Prop} {s t : Addr} {A B : List Nat} {cs : List Int} {st : Int} {i : Nat} {E : XK} (hS : SetsAt K F s A B) (hT : SqL K F t (il cs)) (g : Good A B) (hc : CodesOk A.length cs) (cl : cs.length ≤ 200) (h : StOk st) (hi : i < cs.length)
    (q : Pq (.int (lossAt A B cs st i : Nat)) F) : Wp o (fun H Q => sp_spoilt K ([.ref s, .ref t, .int st, .int (i : Int)] ++ []) H Q E) F Pq := fun H w Q k => ⟨s, t, A, B, cs, st, i, rfl, w.t hS, w.l hT, g, hc, cl, h, hi, RetV.use w q k⟩
theorem pm_spoilt (D : DefAt K mg "spoilt_by" s_spoilt_by) (B : Bl mg) (g_gone : Pm P w K mg base CX0 1 "gone" ["sets", "tape", "state"] (sp_gone K)) (g_unlike : Pm P w K mg base CX0 1 "unlike" ["one", "other"] sp_unlike) : Pm P w K mg base CX0 2 "spoilt_by" ["sets", "tape", "state", "at"] (sp_spoilt K) := by
  obtain ⟨f, fd, F, hm⟩ := D
  refine ⟨f, fd, ?_, hm, F.kp, F.binds fun _ _ _ _ _ _ us hl => match us, hl with | [_, _, _, _], _ => rfl⟩
  refine F.ok sc_spoilt_by (fun vs H Q E h => ?_) (fun cdv A outer s H vs Q E hr h => ?_)
  · obtain ⟨_, _, _, _, _, _, _, rfl, _⟩ := h
    rfl
  · obtain ⟨s, t, A', B', cs, st, i, rfl, hS, hT, g, hc, cl, hst, hi, k⟩ := h
    have hci : cs[i]? = some cs[i] := List.getElem?_eq_getElem hi
    have n10 := g.n10
    have gci : cs.getD i 0 = cs[i] := by rw [List.getD_eq_getElem?_getD, hci]; rfl
    refine ⟨_, (pss_cons (ps_if (pt_cmpR op_lt (pe_ix (ixK K rfl) (pv 1) (pv 3) (fun _ _ => rfl)) (pe_callB (lenK K rfl) (by rfl) B.len PySem.boot_len (pa_cons (pe_ix (ixK K rfl) (pv 0) pe_int (fun _ _ => rfl)) pa_nil)) (nomark _))
 (pss_cons (ps_ret pe_int)
 pss_nil)
 pss_nil)
 (pss_cons (ps_ret (pe_pm g_unlike (hr.mono (by decide)) pass0 (pa_cons (pe_ix (ixK K rfl) (pe_pm g_gone (hr.mono (by decide)) pass0 (pa_cons (pv 0) (pa_cons (pv 1) (pa_cons (pv 2) pa_nil)))) pe_int (fun _ _ => rfl)) (pa_cons (pe_ix (ixK K rfl) (pe_pm g_gone (hr.mono (by decide)) pass0 (pa_cons (pv 0) (pa_cons (pe_op op_addP (pe_slice (slK K rfl) (pv 1) po_none (po_some (pv 3))) (pe_slice (slK K rfl) (pv 1) (po_some (pe_op op_addP (pv 3) pe_int)) po_none)) (pa_cons (pv 2) pa_nil)))) pe_int (fun _ _ => rfl)) pa_nil))))
 pss_nil)), ?_⟩
    refine go_st (σ := [some (.ref s), some (.ref t), some (.int st), some (.int (i : Int))]) rfl ?_
    wtm_at "r"
    refine wp_ixL hT (v := .int cs[i]) (atI_nat (by rw [List.getElem?_map, hci]; rfl)) ?_
    wtm_at "r"
    refine ⟨fun hlt => ?_, fun hlt => ?_⟩
    · have hlt := of_decide_eq_true hlt
      wtm_at "r"
      have e0 : lossAt A' B' cs st i = 0 := by unfold lossAt; rw [gci, if_pos hlt]
      have k2 := k.out (o := none) (exr H)
      rw [e0] at k2
      exact k2
    · have hlt := of_decide_eq_false hlt
      have e0 : lossAt A' B' cs st i = dif (gon A' B' cs st).1 (gon A' B' (lost cs i) st).1 := by unfold lossAt; rw [gci, if_neg hlt]
      wtm_at "r"
      refine wp_gone hS hT g.eq g.n10 hc (by omega) hst fun p hp => ?_
      wtm_at "r"
      have e1 := ex_new (u := .tup [.str (tx (gon A' B' cs st).1), .int (gon A' B' cs st).2]) hp
      refine wp_slTake (n := i) (ex_l e1 hT) rfl fun q hq => ?_
      wtm_at "r"
      refine wp_slDrop (n := i + 1) (ex_l (e1.trans (ex_new hq)) hT) (by omega) fun r hr2 => ?_
      refine wp_addL (at_ne upd_same hr2) upd_same (by rw [List.length_map, List.length_map, List.length_take, List.length_drop]; omega) fun z hz => ?_
      rw [← List.map_append, show cs.take i ++ cs.drop (i + 1) = lost cs i from rfl]
      wtm_at "r"
      have e2 := ((e1.trans (ex_new (u := .lst (il (cs.take i))) hq)).trans (ex_new (u := .lst (il (cs.drop (i + 1)))) hr2)).trans (ex_new (u := .lst (il (lost cs i))) hz)
      have hll := lost_len cs i
      refine wp_gone (ex_t e2 hS) (SqL.of upd_same) g.eq g.n10 (lost_ok hc i) (by omega) hst fun y hy => ?_
      wtm_at "r"
      have hg := gon_nsig A' B' st cs
      have hg2 := gon_nsig A' B' st (lost cs i)
      rw [nsig_lost hci hlt] at hg2
      have hgl := gon_len A' B' st cs
      refine wp_unlike (by rw [hg, hg2]) (by omega) ?_
      rw [← e0]
      exact k.out (e2.trans (ex_new hy))
def sp_losses (K : PySem.W.Frag) : Sp := fun vs H Q _ => ∃ (s t : Addr) (A B : List Nat) (cs : List Int) (st : Int), vs = [.ref s, .ref t, .int st] ∧ SetsAt K H s A B ∧ SqL K H t (il cs) ∧ Good A B ∧ CodesOk A.length cs ∧ cs.length ≤ 200 ∧ StOk st ∧
  RetN (.lst (il (lossL A B cs st))) H Q
theorem wp_losses {o : Option Addr} {F : Hp} {Pq : V → Hp → Prop} {s t : Addr} {A B : List Nat} {cs : List Int} {st : Int} {E : XK} (hS : SetsAt K F s A B) (hT : SqL K F t (il cs)) (g : Good A B) (hc : CodesOk A.length cs) (cl : cs.length ≤ 200) (h : StOk st)
    (q : ∀ p, F p = none → Pq (.ref p) (upd F p (.lst (il (lossL A B cs st))))) : Wp o (fun H Q => sp_losses K ([.ref s, .ref t, .int st] ++ []) H Q E) F Pq := fun H w Q k => ⟨s, t, A, B, cs, st, rfl, w.t hS, w.l hT, g, hc, cl, h, RetN.use w q k⟩
abbrev s_losses : Stmt := topS 32
abbrev n_losses : List Str := ["sets", "tape", "state", "at"]
theorem sc_losses : FnScope n_losses ["sets", "tape", "state"] (defScope s_losses) := ⟨rfl, rfl, rfl, by decide +kernel, rfl, by decide +kernel, by decide +kernel⟩

theorem pm_losses (D : DefAt K mg "losses" s_losses) (B : Bl mg) (g_need_all : Pm P w K mg base CX0 2 "need_all" ["sets", "tape", "state"] (sp_need_all K)) (g_spoilt_by : Pm P w K mg base CX0 2 "spoilt_by" ["sets", "tape", "state", "at"] (sp_spoilt K)) :
    Pm P w K mg base CX0 3 "losses" ["sets", "tape", "state"] (sp_losses K) := by
  obtain ⟨f, fd, F, hm⟩ := D
  refine ⟨f, fd, ?_, hm, F.kp, F.binds fun _ _ _ _ _ _ us hl => match us, hl with | [_, _, _], _ => rfl⟩
  refine F.ok sc_losses (fun vs H Q E h => ?_) (fun cdv A outer s H vs Q E hr h => ?_)
  · obtain ⟨_, _, _, _, _, _, rfl, _⟩ := h
    rfl
  · obtain ⟨s, t, A', B', cs, st, rfl, hS, hT, g, hc, cl, hst, k⟩ := h
    refine ⟨_, (pss_cons (ps_expr (pe_pm g_need_all (hr.mono (by decide)) pass0 (pa_cons (pv 0) (pa_cons (pv 1) (pa_cons (pv 2) pa_nil)))))
 (pss_cons (ps_ret (pe_lc (own := [("at", 3)]) (g := gName 3) (tt := tYes) rfl sc_losses.nd (pi_range1 (by rfl) B.range (pa_cons (pe_callB (lenK K rfl) (by rfl) B.len PySem.boot_len (pa_cons (pv 1) pa_nil)) pa_nil)) (blkOk_by (N := n_losses) (sc := defScope s_losses) (by decide +kernel)) (fun _ _ _ _ _ => pg_name (i := 3) sc_losses.nd rfl (Or.inl rfl)) (fun _ _ _ _ _ => pts_nil) (fun _ _ _ _ _ => (pe_pm g_spoilt_by (hr.mono (by decide)) pass0 (pa_cons (pv 0) (pa_cons (pv 1) (pa_cons (pv 2) (pa_cons (pv 3) pa_nil))))))))
 pss_nil)), ?_⟩
    refine go_st (σ := [some (.ref s), some (.ref t), some (.int st), none]) rfl ?_
    wtm_at "r"
    refine wp_need_all hS hT g hc cl hst ?_
    wtm_at "r"
    refine wp_lcR (fun _ => rfl) ?_
    wtm_at "r"
    refine ⟨cs.length, by rw [List.length_map], by omega, fun Dl hD => ?_⟩
    refine ⟨fun i acc F => acc = il ((List.range i).map fun i => (lossAt A' B' cs st i : Int)) ∧ Ex H F, ⟨rfl, ex_new hD⟩, ?_, ?_⟩
    · rintro i acc F hi q2 ⟨rfl, e⟩
      show Wp _ _ _ _
      wtm_at "r"
      refine ⟨fun _ => ?_, fun z => (by cases z)⟩
      wtm_at "r"
      refine wp_spoilt (ex_t e hS) (ex_l e hT) g hc cl hst hi ?_
      refine ⟨q2, by rw [List.length_map, List.length_map, List.length_range]; omega, ?_, ex_mut e hD⟩
      rw [List.range_succ, List.map_append, il_take]
      rfl
    · rintro acc F q2 ⟨rfl, e⟩
      exact k.out e hD q2
abbrev s_by_state : Stmt := topS 34
abbrev n_by_state : List Str := ["sets", "tape"]
theorem sc_by_state : FnScope n_by_state ["sets", "tape"] (defScope s_by_state) := ⟨rfl, rfl, rfl, by decide +kernel, rfl, by decide +kernel, by decide +kernel⟩

def byS (A B : List Nat) (cs : List Int) : Nat := dif (gon A B cs 0).1 (gon A B cs 1).1
def sp_by_state (K : PySem.W.Frag) : Sp := fun vs H Q _ => ∃ (s t : Addr) (A B : List Nat) (cs : List Int), vs = [.ref s, .ref t] ∧ SetsAt K H s A B ∧ SqL K H t (il cs) ∧ Good A B ∧ CodesOk A.length cs ∧ cs.length ≤ 200 ∧ RetV (.int (byS A B cs : Nat)) H Q
theorem wp_by_state {o : Option Addr} {F : Hp} {Pq : V → Hp → Prop} {s t : Addr} {A B : List Nat} {cs : List Int} {E : XK} (hS : SetsAt K F s A B) (hT : SqL K F t (il cs)) (g : Good A B) (hc : CodesOk A.length cs) (cl : cs.length ≤ 200)
    (q : Pq (.int (byS A B cs : Nat)) F) : Wp o (fun H Q => sp_by_state K ([.ref s, .ref t] ++ []) H Q E) F Pq := fun H w Q k => ⟨s, t, A, B, cs, rfl, w.t hS, w.l hT, g, hc, cl, RetV.use w q k⟩
theorem pm_by_state (D : DefAt K mg "by_state" s_by_state) (B : Bl mg) (g_need_sets : Pm P w K mg base CX0 1 "need_sets" ["sets"] (sp_need_sets K)) (g_need_tape : Pm P w K mg base CX0 1 "need_tape" ["sets", "tape"] (sp_need_tape K))
    (g_gone : Pm P w K mg base CX0 1 "gone" ["sets", "tape", "state"] (sp_gone K)) (g_unlike : Pm P w K mg base CX0 1 "unlike" ["one", "other"] sp_unlike) : Pm P w K mg base CX0 2 "by_state" ["sets", "tape"] (sp_by_state K) := by
  obtain ⟨f, fd, F, hm⟩ := D
  refine ⟨f, fd, ?_, hm, F.kp, F.binds fun _ _ _ _ _ _ us hl => match us, hl with | [_, _], _ => rfl⟩
  refine F.ok sc_by_state (fun vs H Q E h => ?_) (fun cdv A outer s H vs Q E hr h => ?_)
  · obtain ⟨_, _, _, _, _, rfl, _⟩ := h
    rfl
  · obtain ⟨s, t, A', B', cs, rfl, hS, hT, g, hc, cl, k⟩ := h
    refine ⟨_, (pss_cons (ps_expr (pe_pm g_need_sets (hr.mono (by decide)) pass0 (pa_cons (pv 0) pa_nil)))
 (pss_cons (ps_expr (pe_pm g_need_tape (hr.mono (by decide)) pass0 (pa_cons (pv 0) (pa_cons (pv 1) pa_nil))))
 (pss_cons (ps_ret (pe_pm g_unlike (hr.mono (by decide)) pass0 (pa_cons (pe_ix (ixK K rfl) (pe_pm g_gone (hr.mono (by decide)) pass0 (pa_cons (pv 0) (pa_cons (pv 1) (pa_cons pe_int pa_nil)))) pe_int (fun _ _ => rfl)) (pa_cons (pe_ix (ixK K rfl) (pe_pm g_gone (hr.mono (by decide)) pass0 (pa_cons (pv 0) (pa_cons (pv 1) (pa_cons pe_int pa_nil)))) pe_int (fun _ _ => rfl)) pa_nil))))
 pss_nil))), ?_⟩
    refine go_st (σ := [some (.ref s), some (.ref t)]) rfl ?_
    wtm_at "r"
    refine wp_need_sets hS g ?_
    wtm_at "r"
    refine wp_need_tape hS hT g.n10 hc cl ?_
    wtm_at "r"
    refine wp_gone hS hT g.eq g.n10 hc (by omega) (.inl rfl) fun p hp => ?_
    wtm_at "r"
    have e1 := ex_new (u := .tup [.str (tx (gon A' B' cs 0).1), .int (gon A' B' cs 0).2]) hp
    refine wp_gone (ex_t e1 hS) (ex_l e1 hT) g.eq g.n10 hc (by omega) (.inr rfl) fun q hq => ?_
    wtm_at "r"
    have hg := gon_nsig A' B' 0 cs
    have hg2 := gon_nsig A' B' 1 cs
    have hgl := gon_len A' B' 0 cs
    refine wp_unlike (by rw [hg, hg2]) (by omega) ?_
    exact k.out (e1.trans (ex_new hq))
end
/-! ### losses of the tapes that can be -/
theorem cnt_shift (n : Nat) (p : Nat → Bool) : cnt (n + 1) p = (if p 0 = true then 1 else 0) + cnt n (fun i => p (i + 1)) := by
  unfold cnt
  rw [List.range_succ_eq_map, List.filter_cons, List.filter_map, apply_ite List.length, List.length_cons, List.length_map]
  have e : (p ∘ Nat.succ) = fun i => p (i + 1) := rfl
  rw [e]
  split <;> omega
theorem dif_cons (a b : Nat) (x y : List Nat) : dif (a :: x) (b :: y) = (if a = b then 0 else 1) + dif x y := by
  unfold dif
  rw [List.length_cons, cnt_shift]
  congr 1
  simp only [List.getD_cons_zero]
  by_cases h : a = b
  · rw [if_pos h, decide_eq_true h]
    rfl
  · rw [if_neg h, decide_eq_false h]
    rfl
theorem dif_self : ∀ x : List Nat, dif x x = 0
  | [] => rfl
  | a :: x => by rw [dif_cons, if_pos rfl, dif_self x]
theorem dif_app : ∀ (u x y : List Nat), dif (u ++ x) (u ++ y) = dif x y
  | [], x, y => rfl
  | a :: u, x, y => by
    show dif (a :: (u ++ x)) (a :: (u ++ y)) = _
    rw [dif_cons, if_pos rfl, dif_app u, Nat.zero_add]
/-- how many signs ahead of the next shift read otherwise -/
def ncs (A B : List Nat) : List Int → Nat
  | [] => 0
  | c :: w => if c < (A.length : Int) then (if cmn A B c = true then ncs A B w else ncs A B w + 1) else 0
theorem ncs_cons (A B : List Nat) (c : Int) (w : List Int) : ncs A B (c :: w) = if c < (A.length : Int) then (if cmn A B c = true then ncs A B w else ncs A B w + 1) else 0 := rfl
theorem dif_ncs {A B : List Nat} : ∀ {v : List Int} {k s : Int}, StOk k → StOk s → dif (gon A B v k).1 (gon A B v s).1 = if k = s then 0 else ncs A B v
  | [], k, s, _, _ => by
    show 0 = _
    split <;> rfl
  | c :: v, k, s, hk, hs => by
    by_cases hc : c < (A.length : Int)
    · rw [gon_sign hc, gon_sign hc, dif_cons, dif_ncs hk hs]
      by_cases e : k = s
      · rw [if_pos e, if_pos e, e, if_pos rfl]
      · rw [if_neg e, if_neg e]
        rw [ncs_cons, if_pos hc]
        by_cases q : cmn A B c = true
        · rw [if_pos q, if_pos (sgn_cm hs hk (fun z => by rw [q] at z; cases z.2)), Nat.zero_add]
        · have q : cmn A B c = false := by simpa using q
          have q2 : ¬ (cmn A B c = true) := by rw [q]; decide
          rw [if_neg q2, if_neg (sgn_nc hs hk ⟨fun z => e z.symm, q⟩)]
          omega
    · rw [gon_shift hc, gon_shift hc, dif_self]
      rw [ncs_cons, if_neg hc]
      split <;> rfl
theorem split_at {cs : List Int} {i : Nat} {c : Int} (h : cs[i]? = some c) : cs = cs.take i ++ c :: cs.drop (i + 1) := by
  obtain ⟨hi, e⟩ := List.getElem?_eq_some_iff.mp h
  rw [← e, List.getElem_cons_drop, List.take_append_drop]
theorem loss_ncs {A B : List Nat} {cs : List Int} {st c : Int} {i : Nat} (hs : StOk st) (hok : CodesOk A.length cs) (h : cs[i]? = some c) (hc : ¬ c < (A.length : Int)) :
    lossAt A B cs st i = if c - (A.length : Int) = (gon A B (cs.take i) st).2 then 0 else ncs A B (cs.drop (i + 1)) := by
  have hcm := hok c (List.mem_of_getElem? h)
  have hk : StOk (c - (A.length : Int)) := by unfold StOk; omega
  have hs1 := gon_st (B := B) hs (hok.take i)
  unfold lossAt
  rw [List.getD_eq_getElem?_getD, h]
  show (if c < (A.length : Int) then 0 else _) = _
  rw [if_neg hc]
  have e1 : (gon A B cs st).1 = (gon A B (cs.take i) st).1 ++ (gon A B (cs.drop (i + 1)) (c - (A.length : Int))).1 := by
    conv => lhs; rw [split_at h]
    rw [gon_app, gon_shift hc]
  have e2 : (gon A B (lost cs i) st).1 = (gon A B (cs.take i) st).1 ++ (gon A B (cs.drop (i + 1)) (gon A B (cs.take i) st).2).1 := by
    unfold lost
    rw [gon_app]
  rw [e1, e2, dif_app, dif_ncs hk hs1]
theorem acc_ncs {A B : List Nat} {m : Int} : ∀ {w : List Int} {T : List Nat} {st k : Int}, k ≤ m → acc A B m w T st (some k) → k + (ncs A B w : Int) ≤ m
  | [], T, st, k, hk, _ => by
    show k + ((0 : Nat) : Int) ≤ m
    omega
  | c :: w, T, st, k, hk, h => by
    rw [ncs_cons]
    by_cases hc : c < (A.length : Int)
    · rw [if_pos hc]
      obtain ⟨t, r, rfl, h1, h2⟩ := (acc_sign hc).mp h
      have h2 : if cmn A B c = true then acc A B m w r st (some k) else k + 1 ≤ m ∧ acc A B m w r st (some (k + 1)) := h2
      split at h2
      · rename_i q
        rw [if_pos q]
        exact acc_ncs hk h2
      · rename_i q
        rw [if_neg q]
        have := acc_ncs h2.1 h2.2
        omega
    · rw [if_neg hc]
      omega
theorem acc_behind {A B : List Nat} {m : Int} : ∀ {u v : List Int} {T : List Nat} {st : Int} {op : Option Int}, acc A B m (u ++ v) T st op → ∃ T2 op2, acc A B m v T2 (gon A B u st).2 op2
  | [], v, T, st, op, h => ⟨T, op, h⟩
  | c :: u, v, T, st, op, h => by
    by_cases hc : c < (A.length : Int)
    · obtain ⟨t, r, rfl, h1, h2⟩ := (acc_sign hc).mp h
      rw [gon_sign hc]
      cases op with
      | none => exact acc_behind h2
      | some k =>
        have h2 : if cmn A B c = true then acc A B m (u ++ v) r st (some k) else k + 1 ≤ m ∧ acc A B m (u ++ v) r st (some (k + 1)) := h2
        split at h2
        · exact acc_behind h2
        · exact acc_behind h2.2
    · rw [gon_shift hc]
      exact acc_behind ((acc_shift hc).mp h)
/-- no lost code spoils more -/
theorem acc_loss {A B : List Nat} {m : Int} (hm : 0 ≤ m) {cs : List Int} {T : List Nat} {st : Int} {op : Option Int} (hs : StOk st) (hok : CodesOk A.length cs) (h : acc A B m cs T st op) (i : Nat) : (lossAt A B cs st i : Int) ≤ m := by
  by_cases hi : i < cs.length
  · have hci : cs[i]? = some cs[i] := List.getElem?_eq_getElem hi
    by_cases hc : cs[i] < (A.length : Int)
    · unfold lossAt
      rw [List.getD_eq_getElem?_getD, hci]
      show ((if cs[i] < (A.length : Int) then 0 else _ : Nat) : Int) ≤ m
      rw [if_pos hc]
      exact hm
    · rw [loss_ncs hs hok hci hc]
      rw [split_at hci] at h
      obtain ⟨T2, op2, h2⟩ := acc_behind h
      have h3 := (acc_shift hc).mp h2
      split
      · exact hm
      · rename_i ne
        rw [if_neg ne] at h3
        have := acc_ncs hm h3
        omega
  · unfold lossAt
    rw [List.getD_eq_getElem?_getD, List.getElem?_eq_none (by omega)]
    have e : lost cs i = cs := by
      unfold lost
      rw [List.take_of_length_le (by omega), List.drop_of_length_le (by omega), List.append_nil]
    rw [e, dif_self]
    split <;> exact hm
/-- a tape of which no lost code spoils more can be -/
theorem acc_of_ncs {A B : List Nat} {m : Int} : ∀ {w : List Int} {T : List Nat} {st : Int} {op : Option Int}, (gon A B w st).1 = T → (∀ k, op = some k → k + (ncs A B w : Int) ≤ m) →
    (∀ (u : List Int) (c : Int) (v : List Int), w = u ++ c :: v → ¬ c < (A.length : Int) → c - (A.length : Int) ≠ (gon A B u st).2 → (ncs A B v : Int) ≤ m) → acc A B m w T st op
  | [], T, st, op, h, _, _ => h.symm
  | c :: w, T, st, op, h, ho, hl => by
    by_cases hc : c < (A.length : Int)
    · rw [gon_sign hc] at h
      have h : sgn A B st c :: (gon A B w st).1 = T := h
      subst h
      have hl2 : ∀ (u : List Int) (c2 : Int) (v : List Int), w = u ++ c2 :: v → ¬ c2 < (A.length : Int) → c2 - (A.length : Int) ≠ (gon A B u st).2 → (ncs A B v : Int) ≤ m := fun u c2 v e h1 h2 => hl (c :: u) c2 v (by rw [e]; rfl) h1 (by rw [gon_sign hc]; exact h2)
      refine (acc_sign hc).mpr ⟨_, _, rfl, rfl, ?_⟩
      cases op with
      | none => exact acc_of_ncs rfl (fun k z => by cases z) hl2
      | some k =>
        have h1 := ho k rfl
        rw [ncs_cons, if_pos hc] at h1
        show if cmn A B c = true then _ else _
        split
        · rename_i q
          rw [if_pos q] at h1
          exact acc_of_ncs rfl (fun k2 z => by cases z; exact h1) hl2
        · rename_i q
          rw [if_neg q] at h1
          exact ⟨by omega, acc_of_ncs rfl (fun k2 z => by cases z; omega) hl2⟩
    · rw [gon_shift hc] at h
      refine (acc_shift hc).mpr (acc_of_ncs h (fun k z => ?_) fun u c2 v e h1 h2 => hl (c :: u) c2 v (by rw [e]; rfl) h1 (by rw [gon_shift hc]; exact h2))
      split at z
      · cases z
      · rename_i ne
        cases z
        have := hl [] c w rfl hc ne
        omega
theorem acc_of_loss {A B : List Nat} {m : Int} {cs : List Int} {T : List Nat} {st : Int} (hs : StOk st) (hok : CodesOk A.length cs) (hr : (gon A B cs st).1 = T) (hl : ∀ i, i < cs.length → (lossAt A B cs st i : Int) ≤ m) : acc A B m cs T st none :=
  acc_of_ncs hr (fun k z => by cases z) fun u c v e h1 h2 => by
    have hi : u.length < cs.length := by rw [e]; simp
    have hcu : cs[u.length]? = some c := by rw [e]; simp
    have h3 := hl u.length hi
    have e1 : cs.take u.length = u := by rw [e]; simp
    have e2 : cs.drop (u.length + 1) = v := by rw [e]; simp
    rw [loss_ncs hs hok hcu h1, e1, e2, if_neg h2] at h3
    exact h3
def mx : List Int → Int
  | [] => 0
  | a :: r => r.foldl max a
theorem foldmax : ∀ (r : List Int) (a : Int), (r.foldl max a = a ∨ r.foldl max a ∈ r) ∧ a ≤ r.foldl max a ∧ ∀ y ∈ r, y ≤ r.foldl max a
  | [], a => ⟨.inl rfl, Int.le_refl _, fun y h => by cases h⟩
  | b :: r, a => by
    obtain ⟨h1, h2, h3⟩ := foldmax r (max a b)
    rw [List.foldl_cons]
    refine ⟨?_, by omega, fun y hy => ?_⟩
    · rcases h1 with h | h
      · by_cases hab : a ≤ b
        · right
          rw [h, show max a b = b by omega]
          exact List.mem_cons_self
        · left
          rw [h]
          omega
      · right
        exact List.mem_cons_of_mem _ h
    · rcases List.mem_cons.mp hy with e | e
      · rw [e]; omega
      · exact h3 y e
theorem mx_mem {ls : List Int} (h : ls ≠ []) : mx ls ∈ ls := by
  cases ls with
  | nil => exact absurd rfl h
  | cons a r =>
    rcases (foldmax r a).1 with e | e
    · show r.foldl max a ∈ _
      rw [e]
      exact List.mem_cons_self
    · exact List.mem_cons_of_mem _ e
theorem mx_le {ls : List Int} {y : Int} (h : y ∈ ls) : y ≤ mx ls := by
  cases ls with
  | nil => cases h
  | cons a r =>
    rcases List.mem_cons.mp h with e | e
    · rw [e]; exact (foldmax r a).2.1
    · exact (foldmax r a).2.2 y e
theorem mx_one {ls : List Int} {m : Int} (h : m ∈ ls) (hu : ∀ y ∈ ls, y ≤ m) : m = mx ls := by
  have h1 := mx_le h
  have h2 := hu _ (mx_mem (List.ne_nil_of_mem h))
  omega
section
variable {o : Option Addr} {F : Hp} {K : PySem.W.Frag} {Pq : V → Hp → Prop}
theorem wp_max {a : Addr} {ns : List Int} (h : SqL K F a (il ns)) (hne : ns ≠ []) (q : Pq (.int (mx ns)) F) : Wp o (rMax K [.ref a]) F Pq := fun H w Q k =>
  ⟨a, ns, rfl, w.l h, List.length_pos_iff.mpr hne, fun m hm hu => by rw [mx_one hm hu]; exact k _ H F w q⟩
theorem wp_index {a : Addr} {ns : List Int} {m : Int} (h : SqL K F a (il ns)) (hm : m ∈ ns) (q : Pq (.int (ns.idxOf m : Nat)) F) : Wp o (rIndex K (.ref a) [.int m]) F Pq := fun H w Q k => by
  have hl : ns.idxOf m < ns.length := List.idxOf_lt_length_iff.mpr hm
  refine ⟨a, il ns, .int m, ns.idxOf m, .int m, rfl, rfl, w.l h, rfl, ?_, ?_, ?_, ?_, k _ H F w q⟩
  · rw [List.all_eq_true]
    intro v hv
    obtain ⟨c, _, rfl⟩ := List.mem_map.mp hv
    rfl
  · rw [List.getElem?_map, List.getElem?_eq_getElem hl, List.getElem_idxOf]
    rfl
  · show (m == m) = true
    simp
  · intro j z hj hz
    rw [List.getElem?_map] at hz
    have hj2 : j < ns.length := by omega
    rw [List.getElem?_eq_getElem hj2] at hz
    cases hz
    show (ns[j] == m) = false
    have := List.not_of_lt_findIdx (p := fun x => x == m) (xs := ns) (i := j) hj
    simpa using this
end
theorem wp_min2 {o : Option Addr} {F : Hp} {Pq : V → Hp → Prop} {i j : Int} (q : Pq (.int (if j < i then j else i)) F) : Wp o (fun H Q => ∃ i2 j2, [V.int i, V.int j] = [.int i2, .int j2] ∧ Q (.int (if j2 < i2 then j2 else i2)) H) F Pq := fun H w Q k => ⟨i, j, rfl, k _ H F w q⟩
def worstV (ls : List Int) : List V := if ls = [] then [.int 0, .non] else [.int (mx ls), .int (ls.idxOf (mx ls) : Nat)]
def worstD (ls : List Int) : PyData := .tuple (if ls = [] then [.int 0, .none] else [.int (mx ls), .int (ls.idxOf (mx ls) : Nat)])
theorem dp_worst {K : PySem.W.Frag} {F : Hp} {p : Addr} {ls : List Int} (h : F p = some (.tup (worstV ls))) : Dp K F (.ref p) (worstD ls) := by
  unfold worstV at h
  unfold worstD
  by_cases e : ls = []
  · rw [if_pos e] at h ⊢
    exact .tup (SqT.of h) (.cons (.int _) (.cons .non .nil))
  · rw [if_neg e] at h ⊢
    exact .tup (SqT.of h) (.cons (.int _) (.cons (.int _) .nil))
theorem dn_worst (ls : List Int) : DpN 1 (worstD ls) := by
  unfold worstD
  by_cases e : ls = []
  · rw [if_pos e]
    refine .inr ⟨_, .inr rfl, by simp, fun d hd => ?_⟩
    simp only [List.mem_cons, List.not_mem_nil, or_false] at hd
    rcases hd with rfl | rfl <;> rfl
  · rw [if_neg e]
    refine .inr ⟨_, .inr rfl, by simp, fun d hd => ?_⟩
    simp only [List.mem_cons, List.not_mem_nil, or_false] at hd
    rcases hd with rfl | rfl <;> rfl
theorem dn_I {cs : List Int} (h : cs.length ≤ 1000) : DpN 1 (.list (dI cs)) := .inr ⟨_, .inl rfl, by rw [List.length_map]; exact h, fun d hd => by
  obtain ⟨c, _, rfl⟩ := List.mem_map.mp hd
  rfl⟩
theorem lossL_len (A B : List Nat) (cs : List Int) (st : Int) : (lossL A B cs st).length = cs.length := by
  unfold lossL
  rw [List.length_map, List.length_range]
section
variable {P : Program} {w : World} {K : PySem.W.Frag} {mg : Str → Option Value} {base : Heap}
abbrev s_worst : Stmt := topS 33
abbrev n_worst : List Str := ["sets", "tape", "state", "found"]
theorem sc_worst : FnScope n_worst ["sets", "tape", "state"] (defScope s_worst) := ⟨rfl, rfl, rfl, by decide +kernel, rfl, by decide +kernel, by decide +kernel⟩

def sp_worst (K : PySem.W.Frag) : Sp := fun vs H Q _ => ∃ (s t : Addr) (A B : List Nat) (cs : List Int) (st : Int), vs = [.ref s, .ref t, .int st] ∧ SetsAt K H s A B ∧ SqL K H t (il cs) ∧ Good A B ∧ CodesOk A.length cs ∧ cs.length ≤ 200 ∧ StOk st ∧
  RetN (.tup (worstV (lossL A B cs st))) H Q
theorem wp_worst {o : Option Addr} {F : Hp} {Pq : V → Hp → Prop} {s t : Addr} {A B : List Nat} {cs : List Int} {st : Int} {E : XK} (hS : SetsAt K F s A B) (hT : SqL K F t (il cs)) (g : Good A B) (hc : CodesOk A.length cs) (cl : cs.length ≤ 200) (h : StOk st)
    (q : ∀ p, F p = none → Pq (.ref p) (upd F p (.tup (worstV (lossL A B cs st))))) : Wp o (fun H Q => sp_worst K ([.ref s, .ref t, .int st] ++ []) H Q E) F Pq := fun H w Q k => ⟨s, t, A, B, cs, st, rfl, w.t hS, w.l hT, g, hc, cl, h, RetN.use w q k⟩
theorem pm_worst (D : DefAt K mg "worst" s_worst) (B : Bl mg) (g_losses : Pm P w K mg base CX0 3 "losses" ["sets", "tape", "state"] (sp_losses K)) : Pm P w K mg base CX0 4 "worst" ["sets", "tape", "state"] (sp_worst K) := by
  obtain ⟨f, fd, F, hm⟩ := D
  refine ⟨f, fd, ?_, hm, F.kp, F.binds fun _ _ _ _ _ _ us hl => match us, hl with | [_, _, _], _ => rfl⟩
  refine F.ok sc_worst (fun vs H Q E h => ?_) (fun cdv A outer s H vs Q E hr h => ?_)
  · obtain ⟨_, _, _, _, _, _, rfl, _⟩ := h
    rfl
  · obtain ⟨s, t, A', B', cs, st, rfl, hS, hT, g, hc, cl, hst, k⟩ := h
    refine ⟨_, (pss_cons (ps_set (i := 3) sc_worst.nd rfl (Or.inl rfl) (pe_pm g_losses (hr.mono (by decide)) pass0 (pa_cons (pv 0) (pa_cons (pv 1) (pa_cons (pv 2) pa_nil)))))
 (pss_cons (ps_ret (pe_ifExp (pt_cmpR (neK K rfl hr.units) (pv 3) (pe_lst pa_nil) (nomark _)) (pe_tup (pa_cons (pe_callB (maxK K rfl rfl) (by rfl) B.max (by decide +kernel) (pa_cons (pv 3) pa_nil)) (pa_cons (bmK K rfl PySem.F.plainAttrs_list PySem.F.slot_list_index PySem.F.type_list_index (indexK K rfl) (pv 3) (pa_cons (pe_callB (maxK K rfl rfl) (by rfl) B.max (by decide +kernel) (pa_cons (pv 3) pa_nil)) pa_nil)) pa_nil))) (pe_tup (pa_cons pe_int (pa_cons pe_non pa_nil)))))
 pss_nil)), ?_⟩
    refine go_st (σ := [some (.ref s), some (.ref t), some (.int st), none]) rfl ?_
    wtm_at "r"
    refine wp_losses hS hT g hc cl hst fun p hp => ?_
    wtm_at "r"
    refine ⟨Nat.zero_le _, fun q hq => ?_⟩
    have e1 := (ex_new (u := .lst (il (lossL A' B' cs st))) hp).trans (ex_new (u := .lst []) hq)
    have hL := at_ne (v := .lst []) (upd_same (H := H) (a := p) (o := .lst (il (lossL A' B' cs st)))) hq
    refine wp_neIL (ys := []) (SqL.of hL) (SqL.of upd_same) ?_
    wtm_at "r"
    have ew : worstV (lossL A' B' cs st) = if lossL A' B' cs st = [] then [.int 0, .non] else [.int (mx (lossL A' B' cs st)), .int ((lossL A' B' cs st).idxOf (mx (lossL A' B' cs st)) : Nat)] := rfl
    refine ⟨fun hne => ?_, fun hem => ?_⟩
    · have hne : lossL A' B' cs st ≠ [] := by simpa using hne
      rw [if_neg hne] at ew
      wtm_at "r"
      refine wp_max (SqL.of hL) hne ?_
      wtm_at "r"
      refine wp_bmL ?_
      wtm_at "r"
      refine ⟨p, _, rfl, SqL.of hL, ?_⟩
      wtm_at "r"
      refine wp_max (SqL.of hL) hne ?_
      wtm_at "r"
      refine wp_index (SqL.of hL) (mx_mem hne) ?_
      wtm_at "r"
      refine ⟨(by show 2 ≤ 100000; decide), fun r hr2 => ?_⟩
      rw [← ew]
      exact k.out (e1.trans (ex_new hr2)) (e1.free hr2) upd_same
    · have hem : lossL A' B' cs st = [] := by simpa using hem
      rw [if_pos hem] at ew
      wtm_at "r"
      refine ⟨(by show 2 ≤ 100000; decide), fun r hr2 => ?_⟩
      rw [← ew]
      exact k.out (e1.trans (ex_new hr2)) (e1.free hr2) upd_same
end
/-! ### joined, cut -/
def needJ (A B : List Nat) (c1 c2 : List Int) : Bool := !decide ((gon A B c2 (gon A B c1 0).2).1 = (gon A B c2 0).1)
def joinL (A B : List Nat) (c1 c2 : List Int) : List Int := c1 ++ (if needJ A B c1 c2 = true then [(A.length : Int)] else []) ++ c2
def cutR (A B : List Nat) (cs : List Int) (n : Nat) : List Int := (if needJ A B (cs.take n) (cs.drop n) = true then [(A.length : Int) + (gon A B (cs.take n) 0).2] else []) ++ cs.drop n
theorem joinL_len (A B : List Nat) (c1 c2 : List Int) : (joinL A B c1 c2).length ≤ c1.length + c2.length + 1 := by
  unfold joinL
  split <;> simp <;> omega
theorem cutR_len (A B : List Nat) (cs : List Int) (n : Nat) : (cutR A B cs n).length ≤ cs.length + 1 := by
  unfold cutR
  split <;> simp <;> omega
theorem joinL_ok {A B : List Nat} {c1 c2 : List Int} (h1 : CodesOk A.length c1) (h2 : CodesOk A.length c2) : CodesOk A.length (joinL A B c1 c2) := by
  unfold joinL
  refine (h1.app ?_).app h2
  intro c hc
  split at hc
  · rw [List.mem_singleton] at hc
    omega
  · cases hc
theorem cutR_ok {A B : List Nat} {cs : List Int} (h : CodesOk A.length cs) (n : Nat) : CodesOk A.length (cutR A B cs n) := by
  unfold cutR
  refine CodesOk.app ?_ (h.drop n)
  have hs := gon_st (A := A) (B := B) (st := 0) (.inl rfl) (h.take n)
  unfold StOk at hs
  intro c hc
  split at hc
  · rw [List.mem_singleton] at hc
    omega
  · cases hc
/-- the joined tape is read as both in turn -/
theorem joinL_read (A B : List Nat) (c1 c2 : List Int) : (gon A B (joinL A B c1 c2) 0).1 = (gon A B c1 0).1 ++ (gon A B c2 0).1 := by
  unfold joinL
  by_cases h : needJ A B c1 c2 = true
  · rw [if_pos h, List.append_assoc, gon_app]
    congr 1
    rw [List.singleton_append, gon_shift (by omega), Int.sub_self]
  · rw [if_neg h, List.append_nil, gon_app]
    congr 1
    unfold needJ at h
    simpa using h
/-- the piece behind is read in state 0 as it was -/
theorem cutR_read {A B : List Nat} {cs : List Int} (hc : CodesOk A.length cs) (n : Nat) (z : Int) (hz : z = 0 ∨ z = (gon A B (cs.take n) 0).2) : (gon A B (cutR A B cs n) z).1 = (gon A B (cs.drop n) (gon A B (cs.take n) 0).2).1 := by
  unfold cutR
  have key : ∀ st : Int, 0 ≤ st → ∀ z : Int, gon A B ([(A.length : Int) + st] ++ cs.drop n) z = gon A B (cs.drop n) st := fun st hs z => by
    rw [List.singleton_append, gon_shift (by omega)]
    congr 1
    omega
  by_cases h : needJ A B (cs.take n) (cs.drop n) = true
  · rw [if_pos h]
    have hst := gon_st (A := A) (B := B) (st := 0) (.inl rfl) (hc.take n)
    unfold StOk at hst
    rw [key _ (by omega)]
  · rw [if_neg h, List.nil_append]
    have h : (gon A B (cs.drop n) (gon A B (cs.take n) 0).2).1 = (gon A B (cs.drop n) 0).1 := by
      unfold needJ at h
      simpa using h
    rcases hz with e | e
    · rw [e, h]
    · rw [e]
/-- joined again -/
theorem needJ_back {A B : List Nat} {cs : List Int} (hc : CodesOk A.length cs) (n : Nat) : needJ A B (cs.take n) (cutR A B cs n) = false := by
  unfold needJ
  rw [cutR_read hc n _ (.inl rfl), cutR_read hc n _ (.inr rfl)]
  simp
theorem back_read {A B : List Nat} {cs : List Int} (hc : CodesOk A.length cs) (n : Nat) : (gon A B (cs.take n) 0).1 ++ (gon A B (cutR A B cs n) 0).1 = (gon A B cs 0).1 := by
  rw [cutR_read hc n _ (.inl rfl)]
  have e := gon_app A B (cs.take n) (cs.drop n) 0
  rw [List.take_append_drop] at e
  rw [e]
theorem back_len {A B : List Nat} {cs : List Int} (hc : CodesOk A.length cs) (n : Nat) : (joinL A B (cs.take n) (cutR A B cs n)).length ≤ cs.length + 1 := by
  unfold joinL
  rw [needJ_back hc, if_neg (by decide)]
  have : (cutR A B cs n).length ≤ (cs.drop n).length + 1 := by
    unfold cutR
    split <;> simp
  have e := congrArg List.length (List.take_append_drop n cs)
  rw [List.length_append] at e
  simp only [List.length_append, List.length_nil]
  omega
section
variable {P : Program} {w : World} {K : PySem.W.Frag} {mg : Str → Option Value} {base : Heap}
abbrev s_joined : Stmt := topS 28
abbrev n_joined : List Str := ["sets", "one", "other", "state"]
theorem sc_joined : FnScope n_joined ["sets", "one", "other"] (defScope s_joined) := ⟨rfl, rfl, rfl, by decide +kernel, rfl, by decide +kernel, by decide +kernel⟩

def sp_joined (K : PySem.W.Frag) : Sp := fun vs H Q _ => ∃ (s t u : Addr) (A B : List Nat) (c1 c2 : List Int), vs = [.ref s, .ref t, .ref u] ∧ SetsAt K H s A B ∧ SqL K H t (il c1) ∧ SqL K H u (il c2) ∧ H t = some (.lst (il c1)) ∧ H u = some (.lst (il c2)) ∧ Good A B ∧ CodesOk A.length c1 ∧ CodesOk A.length c2 ∧ c1.length ≤ 200 ∧ c2.length ≤ 200 ∧
  RetN (.lst (il (joinL A B c1 c2))) H Q
theorem wp_joined {o : Option Addr} {F : Hp} {Pq : V → Hp → Prop} {s t u : Addr} {A B : List Nat} {c1 c2 : List Int} {E : XK} (hS : SetsAt K F s A B) (hT : F t = some (.lst (il c1))) (hU : F u = some (.lst (il c2))) (g : Good A B) (h1 : CodesOk A.length c1) (h2 : CodesOk A.length c2) (l1 : c1.length ≤ 200) (l2 : c2.length ≤ 200)
    (q : ∀ p, F p = none → Pq (.ref p) (upd F p (.lst (il (joinL A B c1 c2))))) : Wp o (fun H Q => sp_joined K ([.ref s, .ref t, .ref u] ++ []) H Q E) F Pq := fun H w Q k => ⟨s, t, u, A, B, c1, c2, rfl, w.t hS, w.l (SqL.of hT), w.l (SqL.of hU), w.ex _ _ hT, w.ex _ _ hU, g, h1, h2, l1, l2, RetN.use w q k⟩
theorem pm_joined (D : DefAt K mg "joined" s_joined) (B : Bl mg) (g_need_sets : Pm P w K mg base CX0 1 "need_sets" ["sets"] (sp_need_sets K)) (g_need_tape : Pm P w K mg base CX0 1 "need_tape" ["sets", "tape"] (sp_need_tape K)) (g_gone : Pm P w K mg base CX0 1 "gone" ["sets", "tape", "state"] (sp_gone K)) :
    Pm P w K mg base CX0 2 "joined" ["sets", "one", "other"] (sp_joined K) := by
  obtain ⟨f, fd, F, hm⟩ := D
  refine ⟨f, fd, ?_, hm, F.kp, F.binds fun _ _ _ _ _ _ us hl => match us, hl with | [_, _, _], _ => rfl⟩
  refine F.ok sc_joined (fun vs H Q E h => ?_) (fun cdv A outer s H vs Q E hr h => ?_)
  · obtain ⟨_, _, _, _, _, _, _, rfl, _⟩ := h
    rfl
  · obtain ⟨s, t, u, A', B', c1, c2, rfl, hS, hT, hU, hTl, hUl, g, h1, h2, l1, l2, k⟩ := h
    refine ⟨_, (pss_cons (ps_expr (pe_pm g_need_sets (hr.mono (by decide)) pass0 (pa_cons (pv 0) pa_nil)))
 (pss_cons (ps_expr (pe_pm g_need_tape (hr.mono (by decide)) pass0 (pa_cons (pv 0) (pa_cons (pv 1) pa_nil))))
 (pss_cons (ps_expr (pe_pm g_need_tape (hr.mono (by decide)) pass0 (pa_cons (pv 0) (pa_cons (pv 2) pa_nil))))
 (pss_cons (ps_set (i := 3) sc_joined.nd rfl (Or.inl rfl) (pe_ix (ixK K rfl) (pe_pm g_gone (hr.mono (by decide)) pass0 (pa_cons (pv 0) (pa_cons (pv 1) (pa_cons pe_int pa_nil)))) pe_int (fun _ _ => rfl)))
 (pss_cons (ps_if (pt_cmpR (eqK K rfl hr.units) (pe_ix (ixK K rfl) (pe_pm g_gone (hr.mono (by decide)) pass0 (pa_cons (pv 0) (pa_cons (pv 2) (pa_cons (pv 3) pa_nil)))) pe_int (fun _ _ => rfl)) (pe_ix (ixK K rfl) (pe_pm g_gone (hr.mono (by decide)) pass0 (pa_cons (pv 0) (pa_cons (pv 2) (pa_cons pe_int pa_nil)))) pe_int (fun _ _ => rfl)) (nomark _))
 (pss_cons (ps_ret (pe_op op_addP (pv 1) (pv 2)))
 pss_nil)
 pss_nil)
 (pss_cons (ps_ret (pe_op op_addP (pe_op op_addP (pv 1) (pe_lst (pa_cons (pe_callB (lenK K rfl) (by rfl) B.len PySem.boot_len (pa_cons (pe_ix (ixK K rfl) (pv 0) pe_int (fun _ _ => rfl)) pa_nil)) pa_nil))) (pv 2)))
 pss_nil)))))), ?_⟩
    refine go_st (σ := [some (.ref s), some (.ref t), some (.ref u), none]) rfl ?_
    wtm_at "r"
    refine wp_need_sets hS g ?_
    wtm_at "r"
    refine wp_need_tape hS hT g.n10 h1 l1 ?_
    wtm_at "r"
    refine wp_need_tape hS hU g.n10 h2 l2 ?_
    wtm_at "r"
    refine wp_gone hS hT g.eq g.n10 h1 (by omega) (.inl rfl) ?_
    wtm_at "gz"
    intro p hp F1 q1 e1
    wtm_at "r"
    have hst := gon_st (A := A') (B := B') (st := 0) (.inl rfl) h1
    refine wp_gone (ex_t e1 hS) (ex_l e1 hU) g.eq g.n10 h2 (by omega) hst ?_
    wtm_at "gz"
    intro p2 hp2 F2 q2 e2
    have e2 := e1.trans e2
    wtm_at "r"
    refine wp_gone (ex_t e2 hS) (ex_l e2 hU) g.eq g.n10 h2 (by omega) (.inl rfl) ?_
    wtm_at "gz"
    intro p3 hp3 F3 q3 e3
    have e3 := e2.trans e3
    wtm_at "r"
    refine ⟨fun hy => ?_, fun hn => ?_⟩
    · have ej : joinL A' B' c1 c2 = c1 ++ c2 := by
        unfold joinL needJ
        rw [if_neg (by simpa using hy), List.append_nil]
      wtm_at "r"
      refine wp_addL (e3 _ _ hTl) (e3 _ _ hUl) (by simp only [List.length_map]; omega) ?_
      wtm_at "gz"
      intro p4 hp4 F4 q4 e4
      rw [← List.map_append, ← ej] at q4
      exact k.out (e3.trans e4) (e3.free hp4) q4
    · have ej : joinL A' B' c1 c2 = c1 ++ [(A'.length : Int)] ++ c2 := by
        unfold joinL needJ
        rw [if_pos (by simpa using hn)]
      wtm_at "r"
      refine wp_ixT (ex_t e3 hS) rfl ?_
      have n10 := g.n10
      wtm_at "r"
      refine ⟨(by show 1 ≤ 100000; decide), ?_⟩
      wtm_at "gz"
      intro p4 hp4 F4 q4 e4
      have e4 := e3.trans e4
      refine wp_addL (e4 _ _ hTl) (ys := il [(A'.length : Int)]) q4 (by simp only [List.length_map, List.length_singleton]; omega) ?_
      wtm_at "gz"
      intro p5 hp5 F5 q5 e5
      have e5 := e4.trans e5
      rw [← List.map_append] at q5
      wtm_at "r"
      refine wp_addL q5 (e5 _ _ hUl) (by simp only [List.length_map, List.length_append, List.length_singleton]; omega) ?_
      wtm_at "gz"
      intro p6 hp6 F6 q6 e6
      rw [← List.map_append, ← ej] at q6
      exact k.out (e5.trans e6) (e5.free hp6) q6
abbrev s_cut : Stmt := topS 29
abbrev n_cut : List Str := ["sets", "tape", "at", "state", "rest"]
theorem sc_cut : FnScope n_cut ["sets", "tape", "at"] (defScope s_cut) := ⟨rfl, rfl, rfl, by decide +kernel, rfl, by decide +kernel, by decide +kernel⟩

/-- two new lists, and their pair -/
def RetP (xs ys : List V) (H : Hp) (Q : VK) : Prop := ∀ p x y H1, H p = none → H x = none → H y = none → x ≠ y → Ex H H1 → H1 x = some (.lst xs) → H1 y = some (.lst ys) → H1 p = some (.tup [.ref x, .ref y]) → Q (.ref p) H1
theorem Wd.more {o : Option Addr} {F H : Hp} {p : Addr} {u : HO} (w : Wd o F H) (n : ∀ d, o = some d → d ≠ p) (h : H p = some u) : Wd o (upd F p u) H := by
  refine ⟨fun b v q => ?_, fun d hd => ⟨?_, (w.dc d hd).2⟩⟩
  · by_cases hb : b = p
    · subst hb; rw [upd_same] at q; rw [← q]; exact h
    · rw [upd_ne hb] at q; exact w.ex _ _ q
  · rw [upd_ne (n d hd)]; exact (w.dc d hd).1
theorem RetP.use {o : Option Addr} {F H : Hp} {Pq : V → Hp → Prop} {Q : VK} {xs ys : List V} (w : Wd o F H) (q : ∀ p x y F1, F p = none → F x = none → F y = none → x ≠ y → Ex F F1 → F1 x = some (.lst xs) → F1 y = some (.lst ys) → F1 p = some (.tup [.ref x, .ref y]) → Pq (.ref p) F1)
    (k : ∀ v H1 F1, Wd o F1 H1 → Pq v F1 → Q v H1) : RetP xs ys H Q := fun p x y H1 np nx ny ne e hx hy hp => by
  have nepx : p ≠ x := fun z => by rw [z, hx] at hp; cases hp
  have nepy : p ≠ y := fun z => by rw [z, hy] at hp; cases hp
  have w1 := ((((w.up e).more (w.ned nx) hx).more (w.ned ny) hy).more (w.ned np) hp)
  refine k _ _ _ w1 (q p x y _ (w.fr np) (w.fr nx) (w.fr ny) ne ?_ ?_ ?_ upd_same)
  · exact ex_mut (ex_mut (ex_new (w.fr nx)) (w.fr ny)) (w.fr np)
  · rw [upd_ne (Ne.symm nepx), upd_ne ne, upd_same]
  · rw [upd_ne (Ne.symm nepy), upd_same]
theorem RetP.out {o : Option Addr} {H F1 : Hp} {Q : VK} {xs ys : List V} {p x y : Addr} (k : RetP xs ys H Q) (e : Ex H F1) (np : H p = none) (nx : H x = none) (ny : H y = none) (ne : x ≠ y) (hx : F1 x = some (.lst xs)) (hy : F1 y = some (.lst ys)) (hp : F1 p = some (.tup [.ref x, .ref y])) :
    ∀ H1, Wd o F1 H1 → Q (.ref p) H1 := fun H1 w => k p x y H1 np nx ny ne (e.trans w.ex) (w.ex _ _ hx) (w.ex _ _ hy) (w.ex _ _ hp)
def sp_cut (K : PySem.W.Frag) : Sp := fun vs H Q _ => ∃ (s t : Addr) (A B : List Nat) (cs : List Int) (n : Nat), vs = [.ref s, .ref t, .int (n : Int)] ∧ SetsAt K H s A B ∧ SqL K H t (il cs) ∧ Good A B ∧ CodesOk A.length cs ∧ cs.length ≤ 200 ∧ n ≤ cs.length ∧
  RetP (il (cs.take n)) (il (cutR A B cs n)) H Q
theorem wp_cut {o : Option Addr} {F : Hp} {Pq : V → Hp → Prop} {s t : Addr} {A B : List Nat} {cs : List Int} {n : Nat} {E : XK} (hS : SetsAt K F s A B) (hT : SqL K F t (il cs)) (g : Good A B) (h1 : CodesOk A.length cs) (l1 : cs.length ≤ 200) (hn : n ≤ cs.length)
    (q : ∀ p x y F1, F p = none → F x = none → F y = none → x ≠ y → Ex F F1 → F1 x = some (.lst (il (cs.take n))) → F1 y = some (.lst (il (cutR A B cs n))) → F1 p = some (.tup [.ref x, .ref y]) → Pq (.ref p) F1) : Wp o (fun H Q => sp_cut K ([.ref s, .ref t, .int (n : Int)] ++ []) H Q E) F Pq :=
  fun H w Q k => ⟨s, t, A, B, cs, n, rfl, w.t hS, w.l hT, g, h1, l1, hn, RetP.use w q k⟩
theorem pm_cut (D : DefAt K mg "cut" s_cut) (B : Bl mg) (g_need_sets : Pm P w K mg base CX0 1 "need_sets" ["sets"] (sp_need_sets K)) (g_need_tape : Pm P w K mg base CX0 1 "need_tape" ["sets", "tape"] (sp_need_tape K)) (g_gone : Pm P w K mg base CX0 1 "gone" ["sets", "tape", "state"] (sp_gone K)) :
    Pm P w K mg base CX0 2 "cut" ["sets", "tape", "at"] (sp_cut K) := by
  obtain ⟨f, fd, F, hm⟩ := D
  refine ⟨f, fd, ?_, hm, F.kp, F.binds fun _ _ _ _ _ _ us hl => match us, hl with | [_, _, _], _ => rfl⟩
  refine F.ok sc_cut (fun vs H Q E h => ?_) (fun cdv A outer s H vs Q E hr h => ?_)
  · obtain ⟨_, _, _, _, _, _, rfl, _⟩ := h
    rfl
  · obtain ⟨s, t, A', B', cs, n, rfl, hS, hT, g, hc, cl, hn, k⟩ := h
    refine ⟨_, (pss_cons (ps_expr (pe_pm g_need_sets (hr.mono (by decide)) pass0 (pa_cons (pv 0) pa_nil)))
 (pss_cons (ps_expr (pe_pm g_need_tape (hr.mono (by decide)) pass0 (pa_cons (pv 0) (pa_cons (pv 1) pa_nil))))
 (pss_cons (ps_if (pt_not (pt_chain op_le op_le pe_int (pv 2) (pe_callB (lenK K rfl) (by rfl) B.len PySem.boot_len (pa_cons (pv 1) pa_nil))))
 (pss_cons ps_never
 pss_nil)
 pss_nil)
 (pss_cons (ps_set (i := 3) sc_cut.nd rfl (Or.inl rfl) (pe_ix (ixK K rfl) (pe_pm g_gone (hr.mono (by decide)) pass0 (pa_cons (pv 0) (pa_cons (pe_slice (slK K rfl) (pv 1) po_none (po_some (pv 2))) (pa_cons pe_int pa_nil)))) pe_int (fun _ _ => rfl)))
 (pss_cons (ps_set (i := 4) sc_cut.nd rfl (Or.inl rfl) (pe_slice (slK K rfl) (pv 1) (po_some (pv 2)) po_none))
 (pss_cons (ps_if (pt_cmpR (neK K rfl hr.units) (pe_ix (ixK K rfl) (pe_pm g_gone (hr.mono (by decide)) pass0 (pa_cons (pv 0) (pa_cons (pv 4) (pa_cons (pv 3) pa_nil)))) pe_int (fun _ _ => rfl)) (pe_ix (ixK K rfl) (pe_pm g_gone (hr.mono (by decide)) pass0 (pa_cons (pv 0) (pa_cons (pv 4) (pa_cons pe_int pa_nil)))) pe_int (fun _ _ => rfl)) (nomark _))
 (pss_cons (ps_set (i := 4) sc_cut.nd rfl (Or.inl rfl) (pe_op op_addP (pe_lst (pa_cons (pe_op op_addP (pe_callB (lenK K rfl) (by rfl) B.len PySem.boot_len (pa_cons (pe_ix (ixK K rfl) (pv 0) pe_int (fun _ _ => rfl)) pa_nil)) (pv 3)) pa_nil)) (pv 4)))
 pss_nil)
 pss_nil)
 (pss_cons (ps_ret (pe_tup (pa_cons (pe_slice (slK K rfl) (pv 1) po_none (po_some (pv 2))) (pa_cons (pv 4) pa_nil))))
 pss_nil))))))), ?_⟩
    refine go_st (σ := [some (.ref s), some (.ref t), some (.int (n : Int)), none, none]) rfl ?_
    wtm_at "r"
    refine wp_need_sets hS g ?_
    wtm_at "r"
    refine wp_need_tape hS hT g.n10 hc cl ?_
    wtm_at "r"
    refine ⟨fun _ => ?_, fun z => (by simp at z)⟩
    wtm_at "r"
    refine bF (by simp; omega) ?_
    wtm_at "r"
    have hst := gon_st (A := A') (B := B') (st := 0) (.inl rfl) (hc.take n)
    have hst0 : 0 ≤ (gon A' B' (cs.take n) 0).2 ∧ (gon A' B' (cs.take n) 0).2 ≤ 1 := by unfold StOk at hst; omega
    have htl : (cs.take n).length ≤ cs.length := List.length_take_le' _ _
    refine wp_slTake (n := n) hT rfl ?_
    wtm_at "gz"
    intro p1 hp1 F1 q1 e1
    wtm_at "r"
    refine wp_gone (ex_t e1 hS) (SqL.of q1) g.eq g.n10 (hc.take n) (by omega) (.inl rfl) ?_
    wtm_at "gz"
    intro p2 hp2 F2 q2 e2
    have e2 := e1.trans e2
    wtm_at "r"
    refine wp_slDrop (n := n) (ex_l e2 hT) rfl ?_
    wtm_at "gz"
    intro x hx F3 q3 e3
    have nx := e2.free hx
    have e3 := e2.trans e3
    wtm_at "r"
    have hdl : (cs.drop n).length ≤ cs.length := by rw [List.length_drop]; omega
    refine wp_gone (ex_t e3 hS) (SqL.of q3) g.eq g.n10 (hc.drop n) (by omega) hst ?_
    wtm_at "gz"
    intro p4 hp4 F4 q4 e4
    have q3 := e4 _ _ q3
    have e4 := e3.trans e4
    wtm_at "r"
    refine wp_gone (ex_t e4 hS) (SqL.of q3) g.eq g.n10 (hc.drop n) (by omega) (.inl rfl) ?_
    wtm_at "gz"
    intro p5 hp5 F5 q5 e5
    have q3 := e5 _ _ q3
    have e5 := e4.trans e5
    wtm_at "r"
    refine ⟨fun hy => ?_, fun hn2 => ?_⟩
    · have ej : cutR A' B' cs n = [(A'.length : Int) + (gon A' B' (cs.take n) 0).2] ++ cs.drop n := by
        unfold cutR needJ
        rw [if_pos (by simpa using hy)]
      wtm_at "r"
      refine wp_ixT (ex_t e5 hS) rfl ?_
      have n10 := g.n10
      wtm_at "r"
      refine ⟨(by show 1 ≤ 100000; decide), ?_⟩
      wtm_at "gz"
      intro p6 hp6 F6 q6 e6
      have q3 := e6 _ _ q3
      have e6 := e5.trans e6
      wtm_at "r"
      refine wp_addL (xs := il [(A'.length : Int) + (gon A' B' (cs.take n) 0).2]) q6 q3 (by simp only [List.length_map, List.length_singleton]; omega) ?_
      wtm_at "gz"
      intro y hy2 F7 q7 e7
      have ny := e6.free hy2
      have e7 := e6.trans e7
      rw [← List.map_append, ← ej] at q7
      wtm_at "r"
      refine wp_slTake (n := n) (ex_l e7 hT) rfl ?_
      wtm_at "gz"
      intro x2 hx2 F8 q8 e8
      have nx2 := e7.free hx2
      have nxy := ne_of_none q7 hx2
      have q7 := e8 _ _ q7
      have e8 := e7.trans e8
      wtm_at "r"
      refine ⟨(by show 2 ≤ 100000; decide), ?_⟩
      wtm_at "gz"
      intro z hz F9 q9 e9
      exact k.out (e8.trans e9) (e8.free hz) nx2 ny nxy.symm (e9 _ _ q8) (e9 _ _ q7) q9
    · have ej : cutR A' B' cs n = cs.drop n := by
        unfold cutR needJ
        rw [if_neg (by simpa using hn2)]
        rfl
      wtm_at "r"
      refine wp_slTake (n := n) (ex_l e5 hT) rfl ?_
      wtm_at "gz"
      intro x2 hx2 F8 q8 e8
      have nx2 := e5.free hx2
      have nxy := ne_of_none q3 hx2
      have q3 := e8 _ _ q3
      have e8 := e5.trans e8
      wtm_at "r"
      refine ⟨(by show 2 ≤ 100000; decide), ?_⟩
      wtm_at "gz"
      intro z hz F9 q9 e9
      rw [← ej] at q3
      exact k.out (e8.trans e9) (e8.free hz) nx2 nx nxy.symm (e9 _ _ q8) (e9 _ _ q3) q9
end
/-! ### tapes as texts -/
section
open TL
def wd (n : Nat) : List Nat := if n < 10 then [48 + n] else [48 + n / 10, 48 + n % 10]
def txtOf (cs : List Int) : List Nat := TL.joinL [32] (cs.map fun c => wd c.toNat)
theorem wd_len (n : Nat) : 1 ≤ (wd n).length ∧ (wd n).length ≤ 2 := by
  unfold wd
  by_cases h : n < 10
  · rw [if_pos h]
    simp
  · rw [if_neg h]
    simp
theorem str_wd : ∀ n, n < 100 → Str.ofString (toString ((n : Nat) : Int)) = tx (wd n) := by decide +kernel
theorem int_wd : ∀ n, n < 100 → PySem.intText? (tx (wd n)) = some ((n : Nat) : Int) := by decide +kernel
theorem wd_fig : ∀ n, n < 100 → ∀ c ∈ wd n, 48 ≤ c ∧ c ≤ 57 := by decide +kernel
theorem wd_zero : ∀ n, n < 100 → (wd n)[0]? = some 48 → wd n = [48] := by decide +kernel
theorem joinW_len (S : List Nat) : ∀ (ws : List (List Nat)), (∀ w ∈ ws, w.length ≤ 2) → (TL.joinL S ws).length ≤ ws.length * (2 + S.length)
  | [], _ => Nat.zero_le _
  | [p], h => by
    have := h p List.mem_cons_self
    show p.length ≤ 1 * (2 + S.length)
    omega
  | p :: q :: r, h => by
    have h1 := h p List.mem_cons_self
    have ih := joinW_len S (q :: r) fun w hw => h w (List.mem_cons_of_mem _ hw)
    show (p ++ (S ++ TL.joinL S (q :: r))).length ≤ (r.length + 1 + 1) * (2 + S.length)
    rw [List.length_append, List.length_append]
    have e : (r.length + 1 + 1) * (2 + S.length) = (r.length + 1) * (2 + S.length) + (2 + S.length) := Nat.succ_mul _ _
    have e2 : (q :: r).length = r.length + 1 := rfl
    rw [e2] at ih
    omega
theorem tl_tx (l : List Nat) : tl (tx l) = l := by
  show (tx l).cps.toList = l
  simp [tx]
theorem join_tx (ws : List (List Nat)) : Txt.join (tx [32]) (ws.map tx) = tx (TL.joinL [32] ws) := by
  refine ext_tl ?_
  rw [join_eq, tl_join, tl_tx, tl_tx, List.map_map]
  congr 1
  rw [show (tl ∘ tx) = id from funext fun l => tl_tx l, List.map_id]
theorem split_tx {ws : List (List Nat)} (hne : ws ≠ []) (h : ∀ w ∈ ws, 32 ∉ w) : Txt.split (tx (TL.joinL [32] ws)) (tx [32]) = ws.map tx := by
  rw [← join_tx]
  refine split_join (s := 32) (S := []) (tl_tx [32]) (by decide +kernel) (by simpa using hne) fun p hp => ?_
  obtain ⟨w, hw, rfl⟩ := List.mem_map.mp hp
  rw [tl_tx]
  exact h w hw
theorem joinW_nil (S : List Nat) : ∀ {ws : List (List Nat)}, (∀ w ∈ ws, w ≠ []) → TL.joinL S ws = [] → ws = []
  | [], _, _ => rfl
  | [p], h, e => absurd e (h p List.mem_cons_self)
  | p :: q :: r, h, e => by
    have e : p ++ (S ++ TL.joinL S (q :: r)) = [] := e
    exact absurd (List.append_eq_nil_iff.mp e).1 (h p List.mem_cons_self)
theorem sum_le2 : ∀ ws : List (List Nat), (∀ w ∈ ws, w.length ≤ 2) → ((ws.map tx).map (·.length)).sum ≤ 2 * ws.length
  | [], _ => Nat.le_refl _
  | w :: r, h => by
    have ih := sum_le2 r fun x hx => h x (List.mem_cons_of_mem _ hx)
    have h1 := h w List.mem_cons_self
    rw [List.map_cons, List.map_cons, List.sum_cons, List.length_cons]
    have e : (tx w).length = w.length := tx_len w
    omega
section
variable {K : PySem.W.Frag} {o : Option Addr} {F : Hp} {Pq : V → Hp → Prop}
theorem wp_strI {i : Int} {n : Nat} (h : i = (n : Int)) (hn : n < 100) (q : Pq (.str (tx (wd n))) F) : Wp o (fun H Q => ∃ j, [V.int i] = [V.int j] ∧ j.natAbs.log2 < 1920 ∧ Q (.str (toString j)) H) F Pq := fun H w Q k => by
  subst h
  refine ⟨_, rfl, ?_, ?_⟩
  · exact (by decide +kernel : ∀ n, n < 100 → ((n : Nat) : Int).natAbs.log2 < 1920) n hn
  · have e : ((toString ((n : Nat) : Int) : String) : Str) = tx (wd n) := str_wd n hn
    rw [e]
    exact k _ H F w q
theorem wp_joinW {p : Addr} {ws : List (List Nat)} (h : SqL K F p (ws.map fun w => V.str (tx w))) (hl : ws.length ≤ 1000) (h2 : ∀ w ∈ ws, w.length ≤ 2) (q : Pq (.str (tx (TL.joinL [32] ws))) F) : Wp o (rJoin K (.str (tx [32])) [.ref p]) F Pq := fun H w Q k =>
  ⟨tx [32], p, ws.map tx, rfl, rfl, .inl (by rw [List.map_map]; exact w.l h), by
    have := sum_le2 ws h2
    rw [List.length_map, tx_len]
    simp only [List.length_cons, List.length_nil]
    omega, by rw [join_tx]; exact k _ H F w q⟩
theorem wp_intS {w : List Nat} {n : Int} (h : PySem.intText? (tx w) = some n) (hl : w.length ≤ 600) (q : Pq (.int n) F) : Wp o (rIntP [.str (tx w)]) F Pq := fun H wd Q k => .inr ⟨tx w, n, rfl, h, by rw [tx_len]; omega, k _ H F wd q⟩
theorem wp_splitW {T : List Nat} {ws : List (List Nat)} (h : Txt.split (tx T) (tx [32]) = ws.map tx) (hl : T.length ≤ 100000) (q : ∀ p, F p = none → Pq (.ref p) (upd F p (.lst (ws.map fun w => V.str (tx w))))) :
    Wp o (fun H Q => ∃ a b, V.str (tx T) = .str a ∧ [V.str (tx [32])] = [.str b] ∧ (b.length == 0) = false ∧ a.length + 2 ≤ sizeLine ∧ rNewStrs (Txt.split a b) H Q) F Pq := fun H w Q k =>
  ⟨tx T, tx [32], rfl, rfl, by rw [tx_len]; rfl, by
    have := (by decide : 100002 ≤ sizeLine)
    rw [tx_len]; omega, fun p hp => by
    rw [h, List.map_map]
    exact k _ _ _ (w.new1 hp) (q p (w.fr hp))⟩
end
section
variable {P : Program} {w : World} {K : PySem.W.Frag} {mg : Str → Option Value} {base : Heap}
abbrev s_written : Stmt := topS 37
abbrev n_written : List Str := ["sets", "tape", "code"]
theorem sc_written : FnScope n_written ["sets", "tape"] (defScope s_written) := ⟨rfl, rfl, rfl, by decide +kernel, rfl, by decide +kernel, by decide +kernel⟩

def sp_written (K : PySem.W.Frag) : Sp := fun vs H Q _ => ∃ (s t : Addr) (A B : List Nat) (cs : List Int), vs = [.ref s, .ref t] ∧ SetsAt K H s A B ∧ SqL K H t (il cs) ∧ Good A B ∧ CodesOk A.length cs ∧ cs.length ≤ 200 ∧ RetV (.str (tx (txtOf cs))) H Q
theorem wp_written {o : Option Addr} {F : Hp} {Pq : V → Hp → Prop} {s t : Addr} {A B : List Nat} {cs : List Int} {E : XK} (hS : SetsAt K F s A B) (hT : SqL K F t (il cs)) (g : Good A B) (hc : CodesOk A.length cs) (cl : cs.length ≤ 200) (q : Pq (.str (tx (txtOf cs))) F) :
    Wp o (fun H Q => sp_written K ([.ref s, .ref t] ++ []) H Q E) F Pq := fun H w Q k => ⟨s, t, A, B, cs, rfl, w.t hS, w.l hT, g, hc, cl, RetV.use w q k⟩
theorem pm_written (D : DefAt K mg "written" s_written) (B : Bl mg) (g_need_sets : Pm P w K mg base CX0 1 "need_sets" ["sets"] (sp_need_sets K)) (g_need_tape : Pm P w K mg base CX0 1 "need_tape" ["sets", "tape"] (sp_need_tape K)) :
    Pm P w K mg base CX0 2 "written" ["sets", "tape"] (sp_written K) := by
  obtain ⟨f, fd, F, hm⟩ := D
  refine ⟨f, fd, ?_, hm, F.kp, F.binds fun _ _ _ _ _ _ us hl => match us, hl with | [_, _], _ => rfl⟩
  refine F.ok sc_written (fun vs H Q E h => ?_) (fun cdv A outer s H vs Q E hr h => ?_)
  · obtain ⟨_, _, _, _, _, rfl, _⟩ := h
    rfl
  · obtain ⟨s, t, A', B', cs, rfl, hS, hT, g, hc, cl, k⟩ := h
    have n10 := g.n10
    refine ⟨_, (pss_cons (ps_expr (pe_pm g_need_sets (hr.mono (by decide)) pass0 (pa_cons (pv 0) pa_nil)))
 (pss_cons (ps_expr (pe_pm g_need_tape (hr.mono (by decide)) pass0 (pa_cons (pv 0) (pa_cons (pv 1) pa_nil))))
 (pss_cons (ps_ret (peJoin K rfl (pe_strT (l := [32]) (by decide +kernel)) (pe_lc (own := [("code", 2)]) (g := gName 2) (tt := tYes) rfl sc_written.nd (piL K rfl (pv 1)) (blkOk_by (N := n_written) (sc := defScope s_written) (by decide +kernel)) (fun _ _ _ _ _ => pg_name (i := 2) sc_written.nd rfl (Or.inl rfl)) (fun _ _ _ _ _ => pts_nil) (fun _ _ _ _ _ => (pe_callTy call_str_int (by rfl) B.str_ (by decide +kernel) (pa_cons (pv 2) pa_nil))))))
 pss_nil))), ?_⟩
    refine go_st (σ := [some (.ref s), some (.ref t), none]) rfl ?_
    wtm_at "r"
    refine wp_need_sets hS g ?_
    wtm_at "r"
    refine wp_need_tape hS hT g.n10 hc cl ?_
    wtm_at "r"
    refine wp_m1 ?_
    wtm_at "r"
    refine ⟨⟨_, rfl⟩, ?_⟩
    refine wp_lcL (fun _ => rfl) ?_
    wtm_at "r"
    refine ⟨t, il cs, rfl, hT, fun Dl hD => ⟨fun i acc F => acc = (cs.take i).map (fun c => V.str (tx (wd c.toNat))) ∧ Ex H F, ⟨rfl, ex_new hD⟩, fun i acc F ⟨_, e⟩ => ex_l e hT, ?_, ?_⟩⟩
    · rintro i y acc F hy hDF ⟨rfl, e⟩
      obtain ⟨c, hcy, rfl, hmem⟩ := il_at hy
      have hcc := hc c hmem
      have hil := (List.getElem?_eq_some_iff.mp hcy).1
      show Wp _ _ _ _
      wtm_at "r"
      refine ⟨fun _ => ?_, fun z => (by cases z)⟩
      wtm_at "r"
      refine wp_strI (n := c.toNat) (by omega) (by omega) ?_
      refine ⟨hDF, by rw [List.length_map, List.length_take]; omega, ?_, ex_mut e hD⟩
      rw [take_more hcy, List.map_append]
      rfl
    · rintro acc F hDF ⟨rfl, e⟩
      rw [List.length_map, List.take_length] at hDF
      refine wp_joinW (ws := cs.map fun c => wd c.toNat) (SqL.of (by rw [List.map_map]; exact hDF)) (by rw [List.length_map]; omega) (fun w hw => ?_) ?_
      · obtain ⟨c, _, rfl⟩ := List.mem_map.mp hw
        exact (wd_len _).2
      · exact k.out e
abbrev s_read_tape : Stmt := topS 38
abbrev n_read_tape : List Str := ["sets", "text", "found", "words", "place", "word", "sign"]
theorem sc_read_tape : FnScope n_read_tape ["sets", "text"] (defScope s_read_tape) := ⟨rfl, rfl, rfl, by decide +kernel, rfl, by decide +kernel, by decide +kernel⟩

def sp_read_tape (K : PySem.W.Frag) : Sp := fun vs H Q _ => ∃ (s : Addr) (A B : List Nat) (cs : List Int), vs = [.ref s, .str (tx (txtOf cs))] ∧ SetsAt K H s A B ∧ Good A B ∧ CodesOk A.length cs ∧ cs.length ≤ 200 ∧ RetN (.lst (il cs)) H Q
theorem wp_read_tape {o : Option Addr} {F : Hp} {Pq : V → Hp → Prop} {s : Addr} {A B : List Nat} {cs : List Int} {E : XK} (hS : SetsAt K F s A B) (g : Good A B) (hc : CodesOk A.length cs) (cl : cs.length ≤ 200) (q : ∀ p, F p = none → Pq (.ref p) (upd F p (.lst (il cs)))) :
    Wp o (fun H Q => sp_read_tape K ([.ref s, .str (tx (txtOf cs))] ++ []) H Q E) F Pq := fun H w Q k => ⟨s, A, B, cs, rfl, w.t hS, g, hc, cl, RetN.use w q k⟩
theorem pm_read_tape (D : DefAt K mg "read_tape" s_read_tape) (B : Bl mg) (c_FIGURES : ∃ t, mg "FIGURES" = some (.str (tx [48, 49, 50, 51, 52, 53, 54, 55, 56, 57]) t)) (g_need_sets : Pm P w K mg base CX0 1 "need_sets" ["sets"] (sp_need_sets K)) (g_need_tape : Pm P w K mg base CX0 1 "need_tape" ["sets", "tape"] (sp_need_tape K)) :
    Pm P w K mg base CX0 2 "read_tape" ["sets", "text"] (sp_read_tape K) := by
  obtain ⟨f, fd, F, hm⟩ := D
  refine ⟨f, fd, ?_, hm, F.kp, F.binds fun _ _ _ _ _ _ us hl => match us, hl with | [_, _], _ => rfl⟩
  refine F.ok sc_read_tape (fun vs H Q E h => ?_) (fun cdv A outer s H vs Q E hr h => ?_)
  · obtain ⟨_, _, _, _, rfl, _⟩ := h
    rfl
  · obtain ⟨s, A', B', cs, rfl, hS, g, hc, cl, k⟩ := h
    have n10 := g.n10
    obtain ⟨ws, hws⟩ : ∃ ws, ws = cs.map fun c => wd c.toNat := ⟨_, rfl⟩
    have hwl : ∀ w ∈ ws, w.length ≤ 2 := fun w hw => by
      rw [hws] at hw
      obtain ⟨c, _, rfl⟩ := List.mem_map.mp hw
      exact (wd_len _).2
    have hw32 : ∀ w ∈ ws, 32 ∉ w := fun w hw h32 => by
      rw [hws] at hw
      obtain ⟨c, hcm, rfl⟩ := List.mem_map.mp hw
      have h1 := hc c hcm
      have := wd_fig c.toNat (by omega) 32 h32
      omega
    have hTl := joinW_len [32] ws hwl
    have hwsl : ws.length = cs.length := by rw [hws, List.length_map]
    have hTx : txtOf cs = TL.joinL [32] ws := by rw [hws]; rfl
    rw [hTx]
    simp only [List.length_cons, List.length_nil] at hTl
    refine ⟨_, (pss_cons (ps_expr (pe_pm g_need_sets (hr.mono (by decide)) pass0 (pa_cons (pv 0) pa_nil)))
 (pss_cons (ps_set (i := 2) sc_read_tape.nd rfl (Or.inl rfl) (pe_lst pa_nil))
 (pss_cons (ps_set (i := 3) sc_read_tape.nd rfl (Or.inl rfl) (pe_ifExp (pt_cmpR (neK K rfl hr.units) (pv 1) (pe_strT (l := []) (by decide +kernel)) (nomark _)) (pe_split (pv 1) (pe_strT (l := [32]) (by decide +kernel))) (pe_lst pa_nil)))
 (pss_cons (ps_for PassesOwn.never rfl (piE K rfl B.enumerate (pa_cons (pv 3) pa_nil)) (pgT K rfl (n := 2) rfl (pgs_cons (pg_name (i := 4) sc_read_tape.nd rfl (Or.inl rfl)) (pgs_cons (pg_name (i := 5) sc_read_tape.nd rfl (Or.inl rfl)) pgs_nil)))
 (pss_cons (ps_if (PW.pt (pw_or (pt_not (pt_chain op_le op_le pe_int (pe_callB (lenK K rfl) (by rfl) B.len PySem.boot_len (pa_cons (pv 5) pa_nil)) pe_int)) (pw_or1 (pt_cmpR (neK K rfl hr.units) (pe_lc (own := [("sign", 6)]) (g := gName 6) rfl sc_read_tape.nd (pi_str (pv 5)) (blkOk_by (N := n_read_tape) (sc := defScope s_read_tape) (by decide +kernel)) (fun _ _ _ _ _ => pg_name (i := 6) sc_read_tape.nd rfl (Or.inl rfl)) (fun _ _ _ _ _ => (pts_one (pt_cmpR (niK K rfl) (pv 6) (pe_cstS c_FIGURES) (by rfl)))) (fun _ _ _ _ _ => (pv 6))) (pe_lst pa_nil) (nomark _)))))
 (pss_cons ps_never
 pss_nil)
 pss_nil)
 (pss_cons (ps_if (PW.pt (pw_and (pt_cmpR (eqK K rfl hr.units) (pe_ix (ixK K rfl) (pv 5) pe_int (fun _ _ => rfl)) (pe_strT (l := [48]) (by decide +kernel)) (nomark _)) (pw_and1 (pt_cmpR (neK K rfl hr.units) (pv 5) (pe_strT (l := [48]) (by decide +kernel)) (nomark _)))))
 (pss_cons ps_never
 pss_nil)
 pss_nil)
 (pss_cons (ps_expr (bmK K rfl PySem.F.plainAttrs_list PySem.F.slot_list_append PySem.F.type_list_append mt_append (pv 2) (pa_cons (pe_callTy call_intP (by rfl) B.int_ (by decide +kernel) (pa_cons (pv 5) pa_nil)) pa_nil)))
 pss_nil))))
 (pss_cons (ps_expr (pe_pm g_need_tape (hr.mono (by decide)) pass0 (pa_cons (pv 0) (pa_cons (pv 2) pa_nil))))
 (pss_cons (ps_ret (pv 2))
 pss_nil)))))), ?_⟩
    refine go_st (σ := [some (.ref s), some (.str (tx (TL.joinL [32] ws))), none, none, none, none, none]) rfl ?_
    wtm_at "r"
    refine wp_need_sets hS g ?_
    wtm_at "r"
    refine ⟨Nat.zero_le _, ?_⟩
    wtm_at "gz"
    intro Fd hFd F1 q1 e1
    wtm_at "r"
    refine ⟨fun hne => ?g1, fun hem => ?g2⟩
    case' g1 =>
      have hne : TL.joinL [32] ws ≠ [] := by simpa using hne
      have hwne : ws ≠ [] := fun z => hne (by rw [z]; rfl)
      refine wp_m1 ?_
      wtm_at "r"
      refine ⟨⟨_, rfl⟩, ?_⟩
      wtm_at "r"
      refine wp_splitW (split_tx hwne hw32) (by omega) ?_
      wtm_at "gz"
      intro W hW F2 q2 e2
    case' g2 =>
      have hem : TL.joinL [32] ws = [] := by simpa using hem
      have hws0 : ws = [] := joinW_nil [32] (fun w hw z => by
        rw [hws] at hw
        obtain ⟨c, _, rfl⟩ := List.mem_map.mp hw
        have := (wd_len c.toNat).1
        rw [z] at this
        exact absurd this (by decide)) hem
      refine wp_lst ?_
      refine wp_nil ?_
      refine ⟨Nat.zero_le _, ?_⟩
      wtm_at "gz"
      intro W hW F2 q2 e2
      have q2 : F2 W = some (.lst (ws.map fun w => V.str (tx w))) := by rw [hws0]; exact q2
    all_goals
      have nwf : W ≠ Fd := (ne_of_none q1 hW).symm
      wtm_at "r"
      refine go_forE (fun i σ F => ∃ (x4 x5 x6 : Option V) (G : Hp), σ = [some (.ref s), some (.str (tx (TL.joinL [32] ws))), some (.ref Fd), some (.ref W), x4, x5, x6] ∧ Ex H G ∧ G Fd = none ∧ Ex G F ∧ F Fd = some (.lst (il (cs.take i))) ∧ F W = some (.lst (ws.map fun w => V.str (tx w)))) ?_
      wtm_at "r"
      refine ⟨W, ws.map (fun w => V.str (tx w)), rfl, SqL.of q2, ⟨_, _, _, H, rfl, exr H, hFd, e1.trans e2, e2 _ _ q1, q2⟩, fun i σ F hi ⟨_, _, _, _, _, _, _, _, _, e⟩ => SqL.of e, ?_, ?_⟩
      · rintro i y σ F p hy hp ⟨x4, x5, x6, G, rfl, eG, gFd, eF, hF, hFW⟩
        obtain ⟨c, hcy, rfl⟩ : ∃ c, cs[i]? = some c ∧ y = .str (tx (wd c.toNat)) := by
          rw [List.getElem?_map, hws, List.getElem?_map] at hy
          cases q : cs[i]? with
          | none => rw [q] at hy; cases hy
          | some c => rw [q] at hy; exact ⟨c, rfl, (Option.some.inj hy).symm⟩
        have hcc := hc c (List.mem_of_getElem? hcy)
        have hil := (List.getElem?_eq_some_iff.mp hcy).1
        have hn : c.toNat < 100 := by omega
        obtain ⟨l1, l2⟩ := wd_len c.toNat
        wtm_at "r"
        refine bT (by wtm_at "dec") ?_
        wtm_at "r"
        refine bF (by simp; omega) ?_
        refine wp_test ?_
        refine wp_op ?_
        refine wp_lcS (fun _ => rfl) ?_
        wtm_at "r"
        refine fun Dl hD => ⟨fun j acc F2 => acc = [] ∧ Ex F F2, ⟨rfl, (ex_new hp).trans (ex_new hD)⟩, ?_, ?_⟩
        · rintro j ch acc F2 hj hDF ⟨rfl, e⟩
          have hch := wd_fig _ hn ch (List.mem_of_getElem? hj)
          show Wp _ _ _ _
          wtm_at "r"
          refine bF ?_ ⟨hDF, rfl, e⟩
          have := (by decide : ∀ k, k < 58 → 48 ≤ k → k ∈ [48, 49, 50, 51, 52, 53, 54, 55, 56, 57]) ch (by omega) hch.1
          rw [decide_eq_true this]
          rfl
        · rintro acc F2 hDF ⟨rfl, e⟩
          wtm_at "r"
          refine ⟨Nat.zero_le _, ?_⟩
          wtm_at "gz"
          intro p2 hp2 F3 q3 e3
          refine wp_neIL (xs := []) (ys := []) (SqL.of (e3 _ _ hDF)) (SqL.of q3) ?_
          wtm_at "r"
          refine bF (by simp) ?_
          obtain ⟨c0, hc0⟩ : ∃ c0, (wd c.toNat)[0]? = some c0 := ⟨_, List.getElem?_eq_getElem (by omega)⟩
          have x03 := e.trans e3
          have hF3 := x03 _ _ hF
          wtm_at "r"
          refine wp_ixS (by omega) (atI_nat (j := 0) hc0) ?_
          wtm_at "r"
          refine wp_eqS (i := [c0]) (j := [48]) ?_
          wtm_at "r"
          constructor
          case' left =>
            intro h0
            have h0 : c0 = 48 := by simpa using h0
            have hz := wd_zero _ hn (by rw [hc0, h0])
            wtm_at "r"
            refine bF (by rw [hz]; simp) ?_
          case' right =>
            intro h0
            refine ⟨fun z => (by cases z), fun _ => ?_⟩
          all_goals
            wtm_at "r"
            refine wp_bmL ?_
            wtm_at "r"
            refine ⟨Fd, _, rfl, SqL.of hF3, ?_⟩
            wtm_at "r"
            refine wp_intS (int_wd _ hn) (by omega) ?_
            wtm_at "r"
            refine wp_append hF3 (by rw [List.length_map, List.length_take]; omega) ?_
            wtm_at "r"
            refine go_turn rfl ⟨_, _, _, G, rfl, eG, gFd, ex_mut (eF.trans x03) gFd, ?_, by rw [upd_ne nwf]; exact x03 _ _ hFW⟩
            rw [upd_same, take_more hcy, show il (cs.take i ++ [c]) = il (cs.take i) ++ il [c] from List.map_append, show ((c.toNat : Nat) : Int) = c by omega]
            rfl
      · rintro σ F ⟨x4, x5, x6, G, rfl, eG, gFd, eF, hF, hFW⟩
        rw [List.length_map, hwsl, List.take_length] at hF
        wtm_at "r"
        refine wp_need_tape (ex_t (eG.trans eF) hS) (SqL.of hF) g.n10 hc cl ?_
        wtm_at "r"
        exact k.out (eG.trans eF) hFd hF
end
end
/-! ### all that is told, in a list -/
section
variable {K : PySem.W.Frag}
/-- scalars alone -/
def FlatD (K : PySem.W.Frag) (xs : List V) (ds : List PyData) : Prop := DpAll K (fun _ => none) xs ds ∧ ds.length ≤ 4 ∧ ∀ d ∈ ds, flatD d = true
theorem ex_none (H : Hp) : Ex (fun _ => none) H := fun b o e => by cases e
/-- a part of what is told: H0: what stood before, p: the list of the parts -/
def Pt (K : PySem.W.Frag) (H0 H1 : Hp) (p : Addr) (v : V) (d : PyData) : Prop :=
  (∃ (q : Addr) (cs : List Int), v = .ref q ∧ H0 q = none ∧ q ≠ p ∧ H1 q = some (.lst (il cs)) ∧ cs.length ≤ 900 ∧ d = .list (dI cs)) ∨
  (∃ (q : Addr) (xs : List V) (ds : List PyData), v = .ref q ∧ H1 q = some (.tup xs) ∧ FlatD K xs ds ∧ d = .tuple ds) ∨ (∃ i, v = .int i ∧ d = .int i) ∨ (∃ T, v = .str (tx T) ∧ d = .str (tx T))
inductive Pts (K : PySem.W.Frag) (H0 H1 : Hp) (p : Addr) : List V → List PyData → Prop where
  | nil : Pts K H0 H1 p [] []
  | cons {v : V} {d : PyData} {vs : List V} {ds : List PyData} : Pt K H0 H1 p v d → Pts K H0 H1 p vs ds → Pts K H0 H1 p (v :: vs) (d :: ds)
theorem Pt.up {H0 H1 H2 : Hp} {p : Addr} {v : V} {d : PyData} (e : Ex H1 H2) (h : Pt K H0 H1 p v d) : Pt K H0 H2 p v d := by
  rcases h with ⟨q, cs, h1, h2, h3, h4, h5⟩ | ⟨q, xs, ds, h1, h2, h3⟩ | h | h
  · exact .inl ⟨q, cs, h1, h2, h3, e _ _ h4, h5⟩
  · exact .inr (.inl ⟨q, xs, ds, h1, e _ _ h2, h3⟩)
  · exact .inr (.inr (.inl h))
  · exact .inr (.inr (.inr h))
theorem Pts.up {H0 H1 H2 : Hp} {p : Addr} {vs : List V} {ds : List PyData} (e : Ex H1 H2) (h : Pts K H0 H1 p vs ds) : Pts K H0 H2 p vs ds := by
  induction h with
  | nil => exact .nil
  | cons a _ ih => exact .cons (a.up e) ih
theorem Pts.len {H0 H1 : Hp} {p : Addr} {vs : List V} {ds : List PyData} (h : Pts K H0 H1 p vs ds) : vs.length = ds.length := by
  induction h with
  | nil => rfl
  | cons _ _ ih => simp only [List.length_cons, ih]
theorem Pt.dp {H0 H1 : Hp} {p : Addr} {v : V} {d : PyData} (h : Pt K H0 H1 p v d) : Dp K H1 v d := by
  rcases h with ⟨q, cs, rfl, _, _, h4, _, rfl⟩ | ⟨q, xs, ds, rfl, h2, h3, rfl⟩ | ⟨i, rfl, rfl⟩ | ⟨T, rfl, rfl⟩
  · exact dp_I (SqL.of h4)
  · exact .tup (SqT.of h2) (DpAll.up (ex_none H1) h3.1)
  · exact .int i
  · exact .str _
theorem Pts.dp {H0 H1 : Hp} {p : Addr} {vs : List V} {ds : List PyData} (h : Pts K H0 H1 p vs ds) : DpAll K H1 vs ds := by
  induction h with
  | nil => exact .nil
  | cons a _ ih => exact .cons a.dp ih
theorem Pt.dn {H0 H1 : Hp} {p : Addr} {v : V} {d : PyData} (h : Pt K H0 H1 p v d) : DpN 1 d := by
  rcases h with ⟨q, cs, rfl, _, _, h4, h5, rfl⟩ | ⟨q, xs, ds, rfl, h2, h3, rfl⟩ | ⟨i, rfl, rfl⟩ | ⟨T, rfl, rfl⟩
  · exact dn_I (by omega)
  · exact .inr ⟨ds, .inr rfl, by have := h3.2.1; omega, h3.2.2⟩
  · exact .inl rfl
  · exact .inl rfl
theorem Pts.dn {H0 H1 : Hp} {p : Addr} {vs : List V} {ds : List PyData} (h : Pts K H0 H1 p vs ds) : ∀ d ∈ ds, DpN 1 d := by
  induction h with
  | nil => intro d hd; cases hd
  | cons a _ ih =>
    intro d hd
    rcases List.mem_cons.mp hd with e | hd
    · rw [e]; exact a.dn
    · exact ih d hd
/-- without the dice -/
theorem Pts.rm {H0 F0 H1 : Hp} {p d : Addr} {vs : List V} {ds : List PyData} (e : Ex F0 H0) (hd : ∃ xs, H0 d = some (.lst xs)) (hd1 : ∃ xs, H1 d = some (.lst xs)) (h : Pts K H0 H1 p vs ds) : Pts K F0 (Sr.rm H1 d) p vs ds := by
  obtain ⟨xd, hd⟩ := hd
  obtain ⟨xd1, hd1⟩ := hd1
  induction h with
  | nil => exact .nil
  | cons a _ ih =>
    refine .cons ?_ ih
    rcases a with ⟨q, cs, h1, h2, h3, h4, h5⟩ | ⟨q, xs, ds, h1, h2, h3⟩ | h | h
    · exact .inl ⟨q, cs, h1, e.free h2, h3, by rw [rm_ne (fun z => by rw [z, hd] at h2; cases h2)]; exact h4, h5⟩
    · exact .inr (.inl ⟨q, xs, ds, h1, by rw [rm_ne (fun z => by rw [z, hd1] at h2; cases h2)]; exact h2, h3⟩)
    · exact .inr (.inr (.inl h))
    · exact .inr (.inr (.inr h))
end
/-- what is told -/
def AnsF (A B : List Nat) (c1 c2 : List Int) (T : List Nat) (kind : Nat) : List PyData :=
  if kind = 0 then [.tuple [.str (tx (gon A B c1 1).1), .int (gon A B c1 1).2], .int (byS A B c1 : Nat), worstD (lossL A B c1 0), .str (tx (txtOf c1))]
  else if kind = 1 then [.list (dI (lossL A B c1 0)), .list (dI (trimR A B c1 1 1)), .list (dI (joinL A B c1 c2))]
  else if kind = 2 then [.list (dI (c1.take (c1.length / 2))), .list (dI (cutR A B c1 (c1.length / 2)))]
  else [.list (dI (leaT A B T 0)), .list (dI (leaF A B 1 T 1)), .list (dI c2)]
section
variable {P : Program} {w : World} {K : PySem.W.Frag} {mg : Str → Option Value} {base : Heap}
abbrev s_q_asked : Stmt := topS 47
abbrev n_q_asked : List Str := ["_law_kind", "_law_sets_here", "_law_one", "_law_other", "_law_text_here"]
theorem sc_q_asked : FnScope n_q_asked ["_law_kind", "_law_sets_here", "_law_one", "_law_other", "_law_text_here"] (defScope s_q_asked) := ⟨rfl, rfl, rfl, by decide +kernel, rfl, by decide +kernel, by decide +kernel⟩

def sp_asked (K : PySem.W.Frag) : Sp := fun vs H Q _ => ∃ (kind : Nat) (s t u : Addr) (A B : List Nat) (c1 c2 : List Int) (T : List Nat), vs = [.int (kind : Int), .ref s, .ref t, .ref u, .str (tx T)] ∧ kind < 4 ∧ SetsAt K H s A B ∧ H t = some (.lst (il c1)) ∧ H u = some (.lst (il c2)) ∧ Good A B ∧
  CodesOk A.length c1 ∧ CodesOk A.length c2 ∧ c1.length ≤ 90 ∧ c2.length ≤ 90 ∧ InSets A B T ∧ T.length ≤ 40 ∧
  ∀ (p : Addr) (H1 : Hp) (xs : List V), H p = none → Ex H H1 → H1 p = some (.lst xs) → Pts K H H1 p xs (AnsF A B c1 c2 T kind) → Q (.ref p) H1
theorem wp_asked {d : Addr} {F : Hp} {Pq : V → Hp → Prop} {kind : Nat} {s t u : Addr} {A B : List Nat} {c1 c2 : List Int} {T : List Nat} {E : XK} (hk : kind < 4) (hS : SetsAt K F s A B) (ht : F t = some (.lst (il c1))) (hu : F u = some (.lst (il c2))) (g : Good A B)
    (h1 : CodesOk A.length c1) (h2 : CodesOk A.length c2) (l1 : c1.length ≤ 90) (l2 : c2.length ≤ 90) (hT : InSets A B T) (hl : T.length ≤ 40)
    (q : ∀ (p : Addr) (F1 : Hp) (xs : List V), F p = none → Ex F F1 → F1 p = some (.lst xs) → Pts K F F1 p xs (AnsF A B c1 c2 T kind) → Pq (.ref p) F1) :
    Wp (some d) (fun H Q => sp_asked K ([.int (kind : Int), .ref s, .ref t, .ref u, .str (tx T)] ++ []) H Q E) F Pq := fun H w Q k =>
  ⟨kind, s, t, u, A, B, c1, c2, T, rfl, hk, w.t hS, w.ex _ _ ht, w.ex _ _ hu, g, h1, h2, l1, l2, hT, hl, fun p H1 xs hp e h1 h2 => by
    obtain ⟨nd, hnd, _⟩ := (w.dc d rfl).2
    exact k _ H1 (rm H1 d) (Wd.dice ((w.dc d rfl).2.ex e)) (q p (rm H1 d) xs (w.fr hp) (ex_to_rm (w.ex.trans e) (w.dc d rfl).1) (by rw [rm_ne (w.ned hp d rfl).symm]; exact h1) (h2.rm w.ex ⟨_, hnd⟩ ⟨_, e _ _ hnd⟩))⟩
theorem wp_listT {o : Option Addr} {F : Hp} {Pq : V → Hp → Prop} {p : Addr} {xs : List V} (h : SqT K F p xs) (q : ∀ p, F p = none → Pq (.ref p) (upd F p (.lst xs))) : Wp o (rListP K [.ref p]) F Pq := fun H w Q k =>
  .inl ⟨p, xs, rfl, .inr (w.t h), fun p hp => k _ _ _ (w.new1 hp) (q p (w.fr hp))⟩
theorem flat_2 {l : List Nat} {i : Int} : FlatD K [.str (tx l), .int i] [.str (tx l), .int i] := ⟨.cons (.str _) (.cons (.int _) .nil), (by show 2 ≤ 4; decide), fun d hd => by
  simp only [List.mem_cons, List.not_mem_nil, or_false] at hd
  rcases hd with rfl | rfl <;> rfl⟩
theorem flat_worst (ls : List Int) : ∃ ds, worstD ls = .tuple ds ∧ FlatD K (worstV ls) ds := by
  unfold worstD worstV
  by_cases e : ls = []
  · rw [if_pos e, if_pos e]
    refine ⟨_, rfl, .cons (.int _) (.cons .non .nil), (by show 2 ≤ 4; decide), fun d hd => ?_⟩
    simp only [List.mem_cons, List.not_mem_nil, or_false] at hd
    rcases hd with rfl | rfl <;> rfl
  · rw [if_neg e, if_neg e]
    refine ⟨_, rfl, .cons (.int _) (.cons (.int _) .nil), (by show 2 ≤ 4; decide), fun d hd => ?_⟩
    simp only [List.mem_cons, List.not_mem_nil, or_false] at hd
    rcases hd with rfl | rfl <;> rfl
theorem pm_asked (D : DefAt K mg "_law_asked" s_q_asked) (B : Bl mg) (g_read : Pm P w K mg base CX0 3 "read" ["sets", "tape", "state"] (sp_read K)) (g_by_state : Pm P w K mg base CX0 2 "by_state" ["sets", "tape"] (sp_by_state K)) (g_worst : Pm P w K mg base CX0 4 "worst" ["sets", "tape", "state"] (sp_worst K)) (g_written : Pm P w K mg base CX0 2 "written" ["sets", "tape"] (sp_written K))
    (g_losses : Pm P w K mg base CX0 3 "losses" ["sets", "tape", "state"] (sp_losses K)) (g_trimmed : Pm P w K mg base CX0 3 "trimmed" ["sets", "tape", "state"] (sp_trimmed K)) (g_joined : Pm P w K mg base CX0 2 "joined" ["sets", "one", "other"] (sp_joined K)) (g_cut : Pm P w K mg base CX0 2 "cut" ["sets", "tape", "at"] (sp_cut K))
    (g_least : Pm P w K mg base CX0 129 "least" ["sets", "text", "state"] (sp_least K)) (g_guarded : Pm P w K mg base CX0 129 "guarded" ["sets", "text", "state", "most"] (sp_guarded K)) (g_read_tape : Pm P w K mg base CX0 2 "read_tape" ["sets", "text"] (sp_read_tape K)) :
    Pm P w K mg base CX0 130 "_law_asked" ["_law_kind", "_law_sets_here", "_law_one", "_law_other", "_law_text_here"] (sp_asked K) := by
  obtain ⟨f, fd, F, hm⟩ := D
  refine ⟨f, fd, ?_, hm, F.kp, F.binds fun _ _ _ _ _ _ us hl => match us, hl with | [_, _, _, _, _], _ => rfl⟩
  refine F.ok sc_q_asked (fun vs H Q E h => ?_) (fun cdv A outer s H vs Q E hr h => ?_)
  · obtain ⟨_, _, _, _, _, _, _, _, _, rfl, _⟩ := h
    rfl
  · obtain ⟨kind, s, t, u, A', B', c1, c2, T, rfl, hk, hS, hT1, hT2, g, hc1, hc2, l1, l2, hT, hl, k⟩ := h
    have n10 := g.n10
    have s0 : StOk 0 := .inl rfl
    have s1 : StOk 1 := .inr rfl
    refine ⟨_, (pss_cons (ps_if (pt_cmpR (eqK K rfl hr.units) (pv 0) pe_int (nomark _))
 (pss_cons (ps_ret (pe_lst (pa_cons (pe_pm g_read (hr.mono (by decide)) pass0 (pa_cons (pv 1) (pa_cons (pv 2) (pa_cons pe_int pa_nil)))) (pa_cons (pe_pm g_by_state (hr.mono (by decide)) pass0 (pa_cons (pv 1) (pa_cons (pv 2) pa_nil))) (pa_cons (pe_pm g_worst (hr.mono (by decide)) pass0 (pa_cons (pv 1) (pa_cons (pv 2) (pa_cons pe_int pa_nil)))) (pa_cons (pe_pm g_written (hr.mono (by decide)) pass0 (pa_cons (pv 1) (pa_cons (pv 2) pa_nil))) pa_nil))))))
 pss_nil)
 pss_nil)
 (pss_cons (ps_if (pt_cmpR (eqK K rfl hr.units) (pv 0) pe_int (nomark _))
 (pss_cons (ps_ret (pe_lst (pa_cons (pe_pm g_losses (hr.mono (by decide)) pass0 (pa_cons (pv 1) (pa_cons (pv 2) (pa_cons pe_int pa_nil)))) (pa_cons (pe_pm g_trimmed (hr.mono (by decide)) pass0 (pa_cons (pv 1) (pa_cons (pv 2) (pa_cons pe_int pa_nil)))) (pa_cons (pe_pm g_joined (hr.mono (by decide)) pass0 (pa_cons (pv 1) (pa_cons (pv 2) (pa_cons (pv 3) pa_nil)))) pa_nil)))))
 pss_nil)
 pss_nil)
 (pss_cons (ps_if (pt_cmpR (eqK K rfl hr.units) (pv 0) pe_int (nomark _))
 (pss_cons (ps_ret (pe_callTy (listK K rfl rfl) (by rfl) B.list (by decide +kernel) (pa_cons (pe_pm g_cut (hr.mono (by decide)) pass0 (pa_cons (pv 1) (pa_cons (pv 2) (pa_cons (pe_op op_fdivN (pe_callB (lenK K rfl) (by rfl) B.len PySem.boot_len (pa_cons (pv 2) pa_nil)) pe_int) pa_nil)))) pa_nil)))
 pss_nil)
 pss_nil)
 (pss_cons (ps_ret (pe_lst (pa_cons (pe_pm g_least (hr.mono (by decide)) pass0 (pa_cons (pv 1) (pa_cons (pv 4) (pa_cons pe_int pa_nil)))) (pa_cons (pe_pm g_guarded (hr.mono (by decide)) pass0 (pa_cons (pv 1) (pa_cons (pv 4) (pa_cons pe_int (pa_cons pe_int pa_nil))))) (pa_cons (pe_pm g_read_tape (hr.mono (by decide)) pass0 (pa_cons (pv 1) (pa_cons (pe_pm g_written (hr.mono (by decide)) pass0 (pa_cons (pv 1) (pa_cons (pv 3) pa_nil))) pa_nil))) pa_nil)))))
 pss_nil)))), ?_⟩
    refine go_st (σ := [some (.int (kind : Int)), some (.ref s), some (.ref t), some (.ref u), some (.str (tx T))]) rfl ?_
    wtm_at "r"
    refine ⟨fun h0 => ?_, fun h0 => ?_⟩
    · have h0 : kind = 0 := by have := of_decide_eq_true h0; omega
      subst h0
      wtm_at "r"
      refine wp_read hS (SqL.of hT1) g hc1 (by omega) s1 ?_
      wtm_at "gz"
      intro p1 hp1 F1 q1 e1
      wtm_at "r"
      refine wp_by_state (ex_t e1 hS) (SqL.of (e1 _ _ hT1)) g hc1 (by omega) ?_
      wtm_at "r"
      refine wp_worst (ex_t e1 hS) (SqL.of (e1 _ _ hT1)) g hc1 (by omega) s0 ?_
      wtm_at "gz"
      intro p2 hp2 F2 q2 e2
      have e12 := e1.trans e2
      wtm_at "r"
      refine wp_written (ex_t e12 hS) (SqL.of (e12 _ _ hT1)) g hc1 (by omega) ?_
      wtm_at "r"
      refine ⟨(by show 4 ≤ 100000; decide), fun p hp => ?_⟩
      intro H1 w1
      obtain ⟨ds, ed, hds⟩ := flat_worst (K := K) (lossL A' B' c1 0)
      have e3 := (ex_new hp).trans w1.ex
      refine k p H1 _ (e12.free hp) (e12.trans e3) (w1.ex _ _ upd_same) ?_
      show Pts _ _ _ _ _ [_, _, worstD _, _]
      rw [ed]
      exact .cons (.inr (.inl ⟨p1, _, _, rfl, e3 _ _ (e2 _ _ q1), flat_2, rfl⟩)) (.cons (.inr (.inr (.inl ⟨_, rfl, rfl⟩))) (.cons (.inr (.inl ⟨p2, _, _, rfl, e3 _ _ q2, hds, rfl⟩)) (.cons (.inr (.inr (.inr ⟨_, rfl, rfl⟩))) .nil)))
    · have h0 : kind ≠ 0 := by have := of_decide_eq_false h0; omega
      wtm_at "r"
      refine ⟨fun h1 => ?_, fun h1 => ?_⟩
      · have h1 : kind = 1 := by have := of_decide_eq_true h1; omega
        subst h1
        wtm_at "r"
        refine wp_losses hS (SqL.of hT1) g hc1 (by omega) s0 ?_
        wtm_at "gz"
        intro p1 hp1 F1 q1 e1
        wtm_at "r"
        refine wp_trimmed (ex_t e1 hS) (SqL.of (e1 _ _ hT1)) g hc1 (by omega) s1 ?_
        wtm_at "gz"
        intro p2 hp2 F2 q2 e2
        have e12 := e1.trans e2
        wtm_at "r"
        refine wp_joined (ex_t e12 hS) (e12 _ _ hT1) (e12 _ _ hT2) g hc1 hc2 (by omega) (by omega) ?_
        wtm_at "gz"
        intro p3 hp3 F3 q3 e3
        have e13 := e12.trans e3
        wtm_at "r"
        refine ⟨(by show 3 ≤ 100000; decide), fun p hp => ?_⟩
        intro H1 w1
        have e4 := (ex_new hp).trans w1.ex
        have q1 := (e2.trans e3) _ _ q1
        have q2 := e3 _ _ q2
        have tl := trim_len A' B' c1 1
        have jl : (joinL A' B' c1 c2).length ≤ 900 := by
          have := joinL_len A' B' c1 c2
          omega
        refine k p H1 _ (e13.free hp) (e13.trans e4) (w1.ex _ _ upd_same) ?_
        exact .cons (.inl ⟨p1, _, rfl, hp1, ne_of_none q1 hp, e4 _ _ q1, by rw [lossL_len]; omega, rfl⟩) (.cons (.inl ⟨p2, _, rfl, e1.free hp2, ne_of_none q2 hp, e4 _ _ q2, by omega, rfl⟩) (.cons (.inl ⟨p3, _, rfl, e12.free hp3, ne_of_none q3 hp, e4 _ _ q3, jl, rfl⟩) .nil))
      · have h1 : kind ≠ 1 := by have := of_decide_eq_false h1; omega
        wtm_at "r"
        refine ⟨fun h2 => ?_, fun h2 => ?_⟩
        · have h2 : kind = 2 := by have := of_decide_eq_true h2; omega
          subst h2
          wtm_at "r"
          refine wp_i ⟨by decide, by decide⟩ ?_
          rw [show Int.fdiv (((il c1).length : Nat) : Int) 2 = ((c1.length / 2 : Nat) : Int) by rw [Int.fdiv_eq_ediv_of_nonneg _ (by decide), List.length_map]; omega]
          wtm_at "r"
          refine wp_cut hS (SqL.of hT1) g hc1 (by omega) (by omega) fun p1 x y F1 hp1 hx hy hxy e1 hx1 hy1 hp11 => ?_
          wtm_at "r"
          refine wp_listT (SqT.of hp11) fun p hp => ?_
          intro H1 w1
          have e4 := (ex_new hp).trans w1.ex
          have cl := cutR_len A' B' c1 (c1.length / 2)
          refine k p H1 _ (e1.free hp) (e1.trans e4) (w1.ex _ _ upd_same) ?_
          exact .cons (.inl ⟨x, _, rfl, hx, ne_of_none hx1 hp, e4 _ _ hx1, by rw [List.length_take]; omega, rfl⟩) (.cons (.inl ⟨y, _, rfl, hy, ne_of_none hy1 hp, e4 _ _ hy1, by omega, rfl⟩) .nil)
        · have h2 : kind = 3 := by have := of_decide_eq_false h2; omega
          subst h2
          wtm_at "r"
          refine wp_least hS g hT (by omega) s0 ?_
          wtm_at "gz"
          intro p1 hp1 F1 q1 e1
          wtm_at "r"
          refine wp_guarded (ex_t e1 hS) g hT (by omega) s1 (by decide) (by decide) ?_
          wtm_at "gz"
          intro p2 hp2 F2 q2 e2
          have e12 := e1.trans e2
          wtm_at "r"
          refine wp_written (ex_t e12 hS) (SqL.of (e12 _ _ hT2)) g hc2 (by omega) ?_
          wtm_at "r"
          refine wp_read_tape (ex_t e12 hS) g hc2 (by omega) ?_
          wtm_at "gz"
          intro p3 hp3 F3 q3 e3
          have e13 := e12.trans e3
          wtm_at "r"
          refine ⟨(by show 3 ≤ 100000; decide), fun p hp => ?_⟩
          intro H1 w1
          have e4 := (ex_new hp).trans w1.ex
          have q1 := (e2.trans e3) _ _ q1
          have q2 := e3 _ _ q2
          have la := leaF_len (most := (T.length : Int) + 1) hT s0
          have lb := leaF_len (most := 1) hT s1
          refine k p H1 _ (e13.free hp) (e13.trans e4) (w1.ex _ _ upd_same) ?_
          exact .cons (.inl ⟨p1, _, rfl, hp1, ne_of_none q1 hp, e4 _ _ q1, by show (leaF _ _ _ _ _).length ≤ 900; omega, rfl⟩) (.cons (.inl ⟨p2, _, rfl, e1.free hp2, ne_of_none q2 hp, e4 _ _ q2, by omega, rfl⟩) (.cons (.inl ⟨p3, _, rfl, e12.free hp3, ne_of_none q3 hp, e4 _ _ q3, by omega, rfl⟩) .nil))
end
section
variable {K : PySem.W.Frag} {F : Hp} {σ : L2.St} {D : Ends} {tz : TS}
/-- what the law is asked -/
def spLaw (K : PySem.W.Frag) : Sp := fun vs H Q _ => ∃ (a : Addr) (ns : List Int), vs = [.ref a] ∧ SqL K H a (il ns) ∧ ns.length ≤ 63 ∧ ∀ H1, Q (.bl true) H1
/-- the dice are made: from here on they stand apart -/
theorem go_dice {i : Nat} {E : XK} {a : Addr} {ns : List Int} (h0 : σ[0]? = some (some (.ref a))) (hA : SqL K F a (il ns)) (hl : ns.length ≤ 63) (k : ∀ d, F d = none → Go (some d) tz D (σ.set i (some (.ref d))) F) :
    Go none (tSeq (tAsg (tCall (sp_dice K) [] E (tCons (tVar 0) (tCons (tC (.int 0)) tNil))) (gName i)) tz) D σ F := fun H w =>
  ⟨.ref a, h0, a, 0, ns, rfl, w.l hA, hl, fun p H1 n e dc => k p (w.fr n) H1 ⟨w.ex.trans e, fun b z => by cases z; exact ⟨w.fr n, dc⟩⟩⟩
/-- data of what reading tells -/
theorem dp_pair {p : Addr} {l : List Nat} {st : Int} (h : F p = some (.tup [.str (tx l), .int st])) : Dp K F (.ref p) (.tuple [.str (tx l), .int st]) := .tup (SqT.of h) (.cons (.str _) (.cons (.int _) .nil))
theorem dn_pair (l : List Nat) (st : Int) : DpN 1 (.tuple [.str (tx l), .int st]) := .inr ⟨_, .inr rfl, by simp, fun e he => by
  simp only [List.mem_cons, List.not_mem_nil, or_false] at he
  rcases he with rfl | rfl <;> rfl⟩
end
/-! ### told again -/
structure Cd where
  A : List Nat
  B : List Nat
  c1 : List Int
  c2 : List Int
  T : List Nat
def Cd.ans (x : Cd) (kind : Nat) : List PyData := AnsF x.A x.B x.c1 x.c2 x.T kind
def CaseAt (K : PySem.W.Frag) (G : Hp) (c : Addr) (x : Cd) : Prop := ∃ s t u : Addr, G c = some (.tup [.ref s, .ref t, .ref u, .str (tx x.T)]) ∧ SetsAt K G s x.A x.B ∧ G t = some (.lst (il x.c1)) ∧ G u = some (.lst (il x.c2)) ∧ Good x.A x.B ∧
  CodesOk x.A.length x.c1 ∧ CodesOk x.A.length x.c2 ∧ x.c1.length ≤ 20 ∧ x.c2.length ≤ 20 ∧ InSets x.A x.B x.T ∧ x.T.length ≤ 8
theorem CaseAt.up {K : PySem.W.Frag} {G G1 : Hp} {c : Addr} {x : Cd} (e : Ex G G1) (h : CaseAt K G c x) : CaseAt K G1 c x := by
  obtain ⟨s, t, u, h1, h2, h3, h4, h5⟩ := h
  exact ⟨s, t, u, e _ _ h1, ex_t e h2, e _ _ h3, e _ _ h4, h5⟩
theorem Pts.at {K : PySem.W.Frag} {H0 H1 : Hp} {p : Addr} {vs : List V} {ds : List PyData} (h : Pts K H0 H1 p vs ds) : ∀ {i : Nat} {v : V}, vs[i]? = some v → ∃ d, ds[i]? = some d ∧ Pt K H0 H1 p v d := by
  induction h with
  | nil => intro i v e; simp at e
  | @cons v d vs ds a _ ih =>
    intro i w e
    cases i with
    | zero =>
      simp only [List.getElem?_cons_zero, Option.some.injEq] at e
      subst e
      exact ⟨d, rfl, a⟩
    | succ i =>
      simp only [List.getElem?_cons_succ] at e ⊢
      exact ih e
theorem dpa_snoc {K : PySem.W.Frag} {G : Hp} {v : V} {d : PyData} (hd : Dp K G v d) : ∀ {vs : List V} {ds : List PyData}, DpAll K G vs ds → DpAll K G (vs ++ [v]) (ds ++ [d])
  | _, _, .nil => .cons hd .nil
  | _, _, .cons a b => .cons a (dpa_snoc hd b)
theorem ans_len (x : Cd) (kind : Nat) : (x.ans kind).length ≤ 4 := by
  unfold Cd.ans AnsF
  split
  · exact Nat.le_refl _
  · split
    · simp
    · split
      · simp
      · simp
theorem dep_I (cs : List Int) : PyData.depth (.list (dI cs)) ≤ 1 := by
  show PyData.depthAll (dI cs) + 1 ≤ 1
  have : PyData.depthAll (dI cs) ≤ 0 := depth_all fun d hd => by
    obtain ⟨c, _, rfl⟩ := List.mem_map.mp hd
    exact Nat.le_refl 0
  omega
theorem lay_I (cs : List Int) : PyData.canLay0 (.list (dI cs)) = true := lay_all fun d hd => by
  obtain ⟨c, _, rfl⟩ := List.mem_map.mp hd
  rfl
theorem sh_2 (a b : List Int) : SeqAt.shaped (.list [.list (dI a), .list (dI b)]) = true := shaped_list (fun d hd => by
  simp only [List.mem_cons, List.not_mem_nil, or_false] at hd
  rcases hd with rfl | rfl
  · exact lay_I a
  · exact lay_I b) fun d hd => by
  simp only [List.mem_cons, List.not_mem_nil, or_false] at hd
  rcases hd with rfl | rfl
  · exact Nat.le_trans (dep_I a) (by decide)
  · exact Nat.le_trans (dep_I b) (by decide)
theorem eqv_2 (a b : List Int) : PyData.eqv (.list [.list (dI a), .list (dI b)]) (.list [.list (dI a), .list (dI b)]) = true := by
  show (PyData.eqv (.list (dI a)) (.list (dI a)) && (PyData.eqv (.list (dI b)) (.list (dI b)) && true)) = true
  rw [eqv_I, eqv_I]
  simp
section
variable {P : Program} {w : World} {K : PySem.W.Frag} {mg : Str → Option Value} {base : Heap}
abbrev s_law : Stmt := topS 48
abbrev n_law : List Str := ["_law_script", "_law_d", "_law_cases", "_law_k", "_law_sets_here", "_law_kept", "_law_one", "_law_other", "_law_text_here", "_law_kind", "_law_told", "_law_turn", "_law_handed", "_law_part"]
theorem sc_law : FnScope n_law ["_law_script"] (defScope s_law) := ⟨rfl, rfl, rfl, by decide +kernel, rfl, by decide +kernel, by decide +kernel⟩

theorem ok_law {f : Addr} {fd : FuncData} (F : Fun K "law" "law" s_law f fd) (B : Bl mg) (g_q_dice : Pm P w K mg base CX0 1 "_law_dice" ["_law_script", "_law_k"] (sp_dice K)) (g_q_off : Pm P w K mg base CX0 1 "_law_off" ["_law_d", "_law_most"] sp_off)
    (g_q_sets : Pm P w K mg base CX0 3 "_law_sets" ["_law_d"] (sp_sets K)) (g_q_tape : Pm P w K mg base CX0 2 "_law_tape" ["_law_d", "_law_sets_here", "_law_most"] (sp_tape K)) (g_q_text : Pm P w K mg base CX0 2 "_law_text" ["_law_d", "_law_sets_here", "_law_most"] (sp_text K))
    (g_q_asked : Pm P w K mg base CX0 130 "_law_asked" ["_law_kind", "_law_sets_here", "_law_one", "_law_other", "_law_text_here"] (sp_asked K)) (g_q_alike : Pm P w K mg base CX0 3 "_law_alike" ["_law_found", "_law_due"] (spA K 3)) : FnOk P w K mg base CX0 131 f fd ["_law_script"] (spLaw K) := by
  refine F.ok sc_law (fun vs H Q E h => ?_) (fun cdv A outer s H vs Q E hr h => ?_)
  · obtain ⟨_, _, rfl, _⟩ := h
    rfl
  · obtain ⟨a, ns, rfl, hA, hl, k⟩ := h
    refine ⟨_, (pss_cons (ps_set (i := 1) sc_law.nd rfl (Or.inl rfl) (pe_pm g_q_dice (hr.mono (by decide)) pass0 (pa_cons (pv 0) (pa_cons pe_int pa_nil))))
 (pss_cons (ps_set (i := 2) sc_law.nd rfl (Or.inl rfl) (pe_lst pa_nil))
 (pss_cons (ps_for PassesOwn.never rfl (pi_range1 (by rfl) B.range (pa_cons pe_int pa_nil)) (pg_name (i := 3) sc_law.nd rfl (Or.inl rfl))
 (pss_cons (ps_set (i := 4) sc_law.nd rfl (Or.inl rfl) (pe_pm g_q_sets (hr.mono (by decide)) pass0 (pa_cons (pv 1) pa_nil)))
 (pss_cons (ps_expr (bmK K rfl PySem.F.plainAttrs_list PySem.F.slot_list_append PySem.F.type_list_append mt_append (pv 2) (pa_cons (pe_tup (pa_cons (pv 4) (pa_cons (pe_pm g_q_tape (hr.mono (by decide)) pass0 (pa_cons (pv 1) (pa_cons (pv 4) (pa_cons pe_int pa_nil)))) (pa_cons (pe_pm g_q_tape (hr.mono (by decide)) pass0 (pa_cons (pv 1) (pa_cons (pv 4) (pa_cons pe_int pa_nil)))) (pa_cons (pe_pm g_q_text (hr.mono (by decide)) pass0 (pa_cons (pv 1) (pa_cons (pv 4) (pa_cons pe_int pa_nil)))) pa_nil))))) pa_nil)))
 pss_nil)))
 (pss_cons (ps_set (i := 5) sc_law.nd rfl (Or.inl rfl) (pe_lst pa_nil))
 (pss_cons (ps_for PassesOwn.never rfl (piL K rfl (pv 2)) (pgT K rfl (n := 4) rfl (pgs_cons (pg_name (i := 4) sc_law.nd rfl (Or.inl rfl)) (pgs_cons (pg_name (i := 6) sc_law.nd rfl (Or.inl rfl)) (pgs_cons (pg_name (i := 7) sc_law.nd rfl (Or.inl rfl)) (pgs_cons (pg_name (i := 8) sc_law.nd rfl (Or.inl rfl)) pgs_nil)))))
 (pss_cons (ps_for PassesOwn.never rfl (pi_range1 (by rfl) B.range (pa_cons pe_int pa_nil)) (pg_name (i := 9) sc_law.nd rfl (Or.inl rfl))
 (pss_cons (ps_set (i := 10) sc_law.nd rfl (Or.inl rfl) (pe_pm g_q_asked (hr.mono (by decide)) pass0 (pa_cons (pv 9) (pa_cons (pv 4) (pa_cons (pv 6) (pa_cons (pv 7) (pa_cons (pv 8) pa_nil)))))))
 (pss_cons (ps_expr (bmK K rfl PySem.F.plainAttrs_list PySem.F.slot_list_append PySem.F.type_list_append mt_append (pv 5) (pa_cons (pe_lc (own := [("_law_part", 13)]) (g := gName 13) (tt := tYes) rfl sc_law.nd (piL K rfl (pv 10)) (blkOk_by (N := n_law) (sc := defScope s_law) (by decide +kernel)) (fun _ _ _ _ _ => pg_name (i := 13) sc_law.nd rfl (Or.inl rfl)) (fun _ _ _ _ _ => pts_nil) (fun _ _ _ _ _ => (pe_ifExp (pt_val (pe_callB (isiK K rfl) (by rfl) B.isinstance (by decide +kernel) (pa_cons (pv 13) (pa_cons (pe_bltn (v := .ty "list") (by rfl) B.list (by decide +kernel) rfl) pa_nil)))) (pe_callTy (listK K rfl rfl) (by rfl) B.list (by decide +kernel) (pa_cons (pv 13) pa_nil)) (pv 13)))) pa_nil)))
 pss_nil)))
 pss_nil))
 (pss_cons (ps_for PassesOwn.never rfl (pi_range1 (by rfl) B.range (pa_cons pe_int pa_nil)) (pg_name (i := 11) sc_law.nd rfl (Or.inl rfl))
 (pss_cons (ps_set (i := 3) sc_law.nd rfl (Or.inl rfl) (pe_pm g_q_off (hr.mono (by decide)) pass0 (pa_cons (pv 1) (pa_cons pe_int pa_nil))))
 (pss_cons (ps_set (i := 9) sc_law.nd rfl (Or.inl rfl) (pe_pm g_q_off (hr.mono (by decide)) pass0 (pa_cons (pv 1) (pa_cons pe_int pa_nil))))
 (pss_cons (ps_asg (pe_ix (ixK K rfl) (pv 2) (pv 3) (fun _ _ => rfl)) (pgT K rfl (n := 4) rfl (pgs_cons (pg_name (i := 4) sc_law.nd rfl (Or.inl rfl)) (pgs_cons (pg_name (i := 6) sc_law.nd rfl (Or.inl rfl)) (pgs_cons (pg_name (i := 7) sc_law.nd rfl (Or.inl rfl)) (pgs_cons (pg_name (i := 8) sc_law.nd rfl (Or.inl rfl)) pgs_nil))))))
 (pss_cons (ps_set (i := 12) sc_law.nd rfl (Or.inl rfl) (pe_lst (pa_cons (pe_callTy (listK K rfl rfl) (by rfl) B.list (by decide +kernel) (pa_cons (pv 6) pa_nil)) (pa_cons (pe_callTy (listK K rfl rfl) (by rfl) B.list (by decide +kernel) (pa_cons (pv 7) pa_nil)) pa_nil))))
 (pss_cons (ps_set (i := 10) sc_law.nd rfl (Or.inl rfl) (pe_pm g_q_asked (hr.mono (by decide)) pass0 (pa_cons (pv 9) (pa_cons (pv 4) (pa_cons (pe_ix (ixK K rfl) (pv 12) pe_int (fun _ _ => rfl)) (pa_cons (pe_ix (ixK K rfl) (pv 12) pe_int (fun _ _ => rfl)) (pa_cons (pv 8) pa_nil)))))))
 (pss_cons (ps_if (PW.pt (pw_or (pt_not (pt_val (pe_pm g_q_alike (hr.mono (by decide)) pass0 (pa_cons (pv 10) (pa_cons (pe_ix (ixK K rfl) (pv 5) (pe_op op_addP (pe_op op_mulP pe_int (pv 3)) (pv 9)) (fun _ _ => rfl)) pa_nil))))) (pw_or1 (pt_cmpR (neK K rfl hr.units) (pv 12) (pe_lst (pa_cons (pv 6) (pa_cons (pv 7) pa_nil))) (nomark _)))))
 (pss_cons (ps_ret pe_bl)
 pss_nil)
 pss_nil)
 (pss_cons (ps_for PassesOwn.never rfl (piL K rfl (pv 10)) (pg_name (i := 13) sc_law.nd rfl (Or.inl rfl))
 (pss_cons (ps_if (pt_val (pe_callB (isiK K rfl) (by rfl) B.isinstance (by decide +kernel) (pa_cons (pv 13) (pa_cons (pe_bltn (v := .ty "list") (by rfl) B.list (by decide +kernel) rfl) pa_nil))))
 (pss_cons (ps_expr (bmK K rfl PySem.F.plainAttrs_list PySem.F.slot_list_append PySem.F.type_list_append mt_append (pv 13) (pa_cons pe_int pa_nil)))
 pss_nil)
 pss_nil)
 pss_nil))
 (pss_cons (ps_expr (bm0K K rfl PySem.F.plainAttrs_list PySem.F.slot_list_clear PySem.F.type_list_clear mt_clear (pe_ix (ixK K rfl) (pv 12) pe_int (fun _ _ => rfl))))
 (pss_cons (ps_expr (bmK K rfl PySem.F.plainAttrs_list PySem.F.slot_list_append PySem.F.type_list_append mt_append (pe_ix (ixK K rfl) (pv 12) pe_int (fun _ _ => rfl)) (pa_cons pe_int pa_nil)))
 pss_nil))))))))))
 (pss_cons (ps_ret pe_bl)
 pss_nil))))))), ?_⟩
    refine go_st (σ := [some (.ref a), none, none, none, none, none, none, none, none, none, none, none, none, none]) rfl ?_
    refine go_dice rfl hA hl fun d hd0 => ?_
    wtm_at "r"
    refine ⟨Nat.zero_le _, ?_⟩
    wtm_at "gz"
    intro Cl hCl F1 q1 e1
    wtm_at "r"
    refine go_forR (fun i σ F => ∃ (cs : List Addr) (xs : List Cd) (G : Hp) (x3 x4 : Option V), σ = [some (.ref a), some (.ref d), some (.ref Cl), x3, x4, none, none, none, none, none, none, none, none, none] ∧ cs.length = i ∧ xs.length = i ∧ Ex H G ∧ G Cl = none ∧ Ex G F ∧
      F Cl = some (.lst (cs.map V.ref)) ∧ ∀ (j : Nat) (c : Addr) (x : Cd), cs[j]? = some c → xs[j]? = some x → CaseAt K G c x) ?_
    wtm_at "r"
    refine ⟨2, rfl, by decide, ⟨[], [], H, _, _, rfl, rfl, rfl, exr H, hCl, e1, q1, fun j c x h => by simp at h⟩, ?_, ?_⟩
    · rintro i σ F hi ⟨cs, xs, G, x3, x4, rfl, hcl, hxl, eG, gC, eF, hF, hcs⟩
      wtm_at "r"
      refine wp_sets fun s A' B' hs g _ _ => ?_
      have n1 := g.n1
      have n10 := g.n10
      have hS0 : (upd F s (.tup [.str (tx A'), .str (tx B')])) s = some (.tup [.str (tx A'), .str (tx B')]) := upd_same
      have eF2 : Ex F (upd F s (.tup [.str (tx A'), .str (tx B')])) := ex_new hs
      revert hS0 eF2
      generalize upd F s (.tup [.str (tx A'), .str (tx B')]) = F2
      intro hs2 e2
      have hS2 : SetsAt K F2 s A' B' := SqT.of hs2
      have ne_s : s ≠ Cl := (ne_of_none hF hs).symm
      wtm_at "r"
      refine wp_bmL ?_
      wtm_at "r"
      refine ⟨Cl, _, rfl, SqL.of (e2 _ _ hF), ?_⟩
      wtm_at "r"
      refine wp_tape (most := 20) hS2 n1 n10 (by decide) ?_
      intro t c1 ht hc1 l1
      have q3 : (upd F2 t (.lst (il c1))) t = some (.lst (il c1)) := upd_same
      have e3 : Ex F2 (upd F2 t (.lst (il c1))) := ex_new ht
      revert q3 e3
      generalize upd F2 t (.lst (il c1)) = F3
      intro q3 e3
      wtm_at "r"
      refine wp_tape (most := 20) (ex_t e3 hS2) n1 n10 (by decide) ?_
      intro u c2 hu hc2 l2
      have q4 : (upd F3 u (.lst (il c2))) u = some (.lst (il c2)) := upd_same
      have e4 : Ex F3 (upd F3 u (.lst (il c2))) := ex_new hu
      revert q4 e4
      generalize upd F3 u (.lst (il c2)) = F4
      intro q4 e4
      have hS4 := ex_t (e3.trans e4) hS2
      wtm_at "r"
      refine wp_text (most := 8) hS4 g (by decide) fun T hT hTl => ?_
      wtm_at "r"
      refine ⟨(by show 4 ≤ 100000; decide), ?_⟩
      wtm_at "gz"
      intro cp hcp F5 q5 e5
      have e25 := e2.trans (e3.trans (e4.trans e5))
      have hF5 := e25 _ _ hF
      wtm_at "r"
      refine wp_append hF5 (by rw [List.length_map]; omega) ?_
      wtm_at "r"
      have eG5 := ex_to_rm (eF.trans e25) gC
      have ne_t : t ≠ Cl := (ne_of_none (e2 _ _ hF) ht).symm
      have ne_u : u ≠ Cl := (ne_of_none ((e2.trans e3) _ _ hF) hu).symm
      have ne_c : cp ≠ Cl := (ne_of_none ((e2.trans (e3.trans e4)) _ _ hF) hcp).symm
      have hSr : SetsAt K (rm F5 Cl) s A' B' := SqT.of (by rw [rm_ne ne_s]; exact (e3.trans (e4.trans e5)) _ _ hs2)
      refine go_turn rfl ⟨cs ++ [cp], xs ++ [⟨A', B', c1, c2, T⟩], rm F5 Cl, _, _, rfl, by rw [List.length_append, List.length_singleton, hcl], by rw [List.length_append, List.length_singleton, hxl], eG.trans eG5, rm_same, ex_mut ex_rm rm_same, by rw [upd_same, List.map_append]; rfl, fun j c x hc hx => ?_⟩
      by_cases hj : j < i
      · rw [List.getElem?_append_left (by omega)] at hc hx
        exact (hcs j c x hc hx).up eG5
      · have hj2 : j = i := by
          have := (List.getElem?_eq_some_iff.mp hc).1
          rw [List.length_append, List.length_singleton] at this
          omega
        subst hj2
        rw [List.getElem?_append_right (by omega), hcl, Nat.sub_self] at hc
        rw [List.getElem?_append_right (by omega), hxl, Nat.sub_self] at hx
        cases hc
        cases hx
        exact ⟨s, t, u, by rw [rm_ne ne_c]; exact q5, hSr, by rw [rm_ne ne_t]; exact e5 _ _ (e4 _ _ q3), by rw [rm_ne ne_u]; exact e5 _ _ q4, g, hc1, hc2, l1, l2, hT, hTl⟩
    · rintro σ F ⟨cs, xs, G, x3, x4, rfl, hcl, hxl, eG, gC, eF, hF, hcs⟩
      have hcs : ∀ (j : Nat) (c : Addr) (x : Cd), cs[j]? = some c → xs[j]? = some x → CaseAt K F c x := fun j c x h1 h2 => (hcs j c x h1 h2).up eF
      wtm_at "r"
      refine ⟨Nat.zero_le _, ?_⟩
      wtm_at "gz"
      intro Kp hKp F2 q2 e2
      wtm_at "r"
      refine go_forL (fun i σ F3 => ∃ (ks : List Addr) (G : Hp) (x4 x6 x7 x8 x9 x10 : Option V), σ = [some (.ref a), some (.ref d), some (.ref Cl), x3, x4, some (.ref Kp), x6, x7, x8, x9, x10, none, none, none] ∧ ks.length = 4 * i ∧ Ex F G ∧ G Kp = none ∧ Ex G F3 ∧
        F3 Kp = some (.lst (ks.map V.ref)) ∧ ∀ (j : Nat) (kk : Addr) (x : Cd), ks[j]? = some kk → xs[j / 4]? = some x → Dp K G (.ref kk) (.list (x.ans (j % 4)))) ?_
      wtm_at "r"
      refine ⟨Cl, cs.map V.ref, rfl, SqL.of (e2 _ _ hF), ⟨[], F, _, _, _, _, _, _, rfl, rfl, exr F, hKp, e2, q2, fun j kk x h => by simp at h⟩, fun i σ F3 _ ⟨_, _, _, _, _, _, _, _, _, _, z1, _, z2, _⟩ => SqL.of (z2 _ _ (z1 _ _ hF)), ?_, ?_⟩
      · rintro i y σ F3 hy ⟨ks, G, x4, x6, x7, x8, x9, x10, rfl, hkl, eG3, gK, eF3, hK, hks⟩
        obtain ⟨cp, hcp, rfl⟩ : ∃ cp, cs[i]? = some cp ∧ y = .ref cp := by
          rw [List.getElem?_map] at hy
          cases q : cs[i]? with
          | none => rw [q] at hy; cases hy
          | some e => rw [q] at hy; exact ⟨e, rfl, (Option.some.inj hy).symm⟩
        have hic := (List.getElem?_eq_some_iff.mp hcp).1
        obtain ⟨x, hx⟩ : ∃ x, xs[i]? = some x := ⟨_, List.getElem?_eq_getElem (by omega)⟩
        have hca := (hcs i cp x hcp hx).up eG3
        obtain ⟨s, t, u, hc0, hc1, hc2, hc3, g, ok1, ok2, l1, l2, hT, hTl⟩ := hca
        refine wp_gTup (SqT.of (eF3 _ _ hc0)) rfl ?_
        wtm_at "r"
        refine go_forR (fun kind σ F4 => ∃ (ks : List Addr) (G4 : Hp) (x9 x10 : Option V), σ = [some (.ref a), some (.ref d), some (.ref Cl), x3, some (.ref s), some (.ref Kp), some (.ref t), some (.ref u), some (.str (tx x.T)), x9, x10, none, none, none] ∧ ks.length = 4 * i + kind ∧ Ex G G4 ∧ G4 Kp = none ∧ Ex G4 F4 ∧
          F4 Kp = some (.lst (ks.map V.ref)) ∧ ∀ (j : Nat) (kk : Addr) (x : Cd), ks[j]? = some kk → xs[j / 4]? = some x → Dp K G4 (.ref kk) (.list (x.ans (j % 4)))) ?_
        wtm_at "r"
        refine ⟨4, rfl, by decide, ⟨ks, G, _, _, rfl, hkl, exr G, gK, eF3, hK, hks⟩, ?_, ?_⟩
        · rintro kind σ F4 hkind ⟨ks, G4, x9, x10, rfl, hkl, eG4, g4K, eF4, h4K, hks⟩
          have eGF := eG4.trans eF4
          wtm_at "r"
          refine wp_asked hkind (ex_t eGF hc1) (eGF _ _ hc2) (eGF _ _ hc3) g ok1 ok2 (by omega) (by omega) hT (by omega) ?_
          intro p F5 vs hp e5 hp5 hpts
          have hpts2 := hpts.rm (d := Kp) (exr F4) ⟨_, h4K⟩ ⟨_, e5 _ _ h4K⟩
          have h5K := e5 _ _ h4K
          have npk : p ≠ Kp := (ne_of_none h4K hp).symm
          have hdl : (x.ans kind).length ≤ 4 := ans_len x kind
          have hvl : vs.length = (x.ans kind).length := hpts.len
          wtm_at "r"
          refine wp_bmL ?_
          wtm_at "r"
          refine ⟨Kp, _, rfl, SqL.of h5K, ?_⟩
          refine wp_cons ?_
          refine wp_lcL (fun _ => rfl) ?_
          wtm_at "r"
          refine ⟨p, vs, rfl, SqL.of hp5, fun Dl hD => ?_⟩
          have nkd : Kp ≠ Dl := ne_of_none h5K hD
          refine ⟨fun n acc F6 => ∃ G6 : Hp, acc.length = n ∧ Ex (rm F5 Kp) G6 ∧ G6 Dl = none ∧ G6 Kp = none ∧ Ex G6 F6 ∧ F6 Kp = some (.lst (ks.map V.ref)) ∧ DpAll K G6 acc ((x.ans kind).take n),
            ⟨rm F5 Kp, rfl, exr _, by rw [rm_ne nkd.symm]; exact hD, rm_same, ex_mut ex_rm (by rw [rm_ne nkd.symm]; exact hD), at_ne h5K hD, .nil⟩, fun n acc F6 ⟨_, _, z1, _, _, z2, _⟩ => SqL.of (z2 _ _ (z1 _ _ (by rw [rm_ne npk]; exact hp5))), ?_, ?_⟩
          · rintro n v acc F6 hv hD6 ⟨G6, hal, eG6, g6D, g6K, eF6, h6K, hda⟩
            obtain ⟨dd, hdd, hpt⟩ := hpts2.at hv
            have hpt6 := hpt.up (eG6.trans eF6)
            have hnv := (List.getElem?_eq_some_iff.mp hv).1
            show Wp _ _ _ _
            wtm_at "r"
            refine ⟨fun _ => ?_, fun z => (by cases z)⟩
            wtm_at "r"
            have dl : (x.ans kind)[n]? = some dd := hdd
            have fin : ∀ (v2 : V) (F7 : Hp), F7 Dl = some (.lst acc) → Ex F6 F7 → (∃ G7, Ex G6 G7 ∧ G7 Dl = none ∧ G7 Kp = none ∧ Ex G7 F7 ∧ Dp K G7 v2 dd) → F7 Dl = some (.lst acc) ∧ acc.length < 100000 ∧ ∃ G6 : Hp, (acc ++ [v2]).length = n + 1 ∧ Ex (rm F5 Kp) G6 ∧ G6 Dl = none ∧ G6 Kp = none ∧ Ex G6 (upd F7 Dl (.lst (acc ++ [v2]))) ∧ (upd F7 Dl (.lst (acc ++ [v2]))) Kp = some (.lst (ks.map V.ref)) ∧ DpAll K G6 (acc ++ [v2]) ((x.ans kind).take (n + 1)) := fun v2 F7 h7 e67 ⟨G7, e1', e2', e3', e4', e5'⟩ =>
              ⟨h7, by omega, G7, by rw [List.length_append, List.length_singleton, hal], eG6.trans e1', e2', e3', ex_mut e4' e2', by rw [upd_ne nkd]; exact e67 _ _ h6K, by rw [take_more dl]; exact dpa_snoc e5' (DpAll.up e1' hda)⟩
            rcases hpt with ⟨q, cs', rfl, h2, h3, h4, h5, rfl⟩ | ⟨q, xs', ds', rfl, h2, h3, rfl⟩ | ⟨z, rfl, rfl⟩ | ⟨z, rfl, rfl⟩
            · have h46 := eF6 _ _ (eG6 _ _ h4)
              refine wp_isi (.lst (SqL.of h46)) (b := true) (by decide +kernel) ?_
              wtm_at "r"
              refine bT rfl ?_
              wtm_at "r"
              refine wp_listL (SqL.of h46) ?_
              wtm_at "gz"
              intro p7 hp7 F7 q7 e7
              have np7K : p7 ≠ Kp := (ne_of_none h6K hp7).symm
              have np7D : p7 ≠ Dl := (ne_of_none hD6 hp7).symm
              refine fin _ _ (e7 _ _ hD6) e7 ⟨rm (rm F7 Kp) Dl, ex_to_rm (ex_to_rm (eF6.trans e7) g6K) g6D, rm_same, by rw [rm_ne nkd]; exact rm_same, ex_rm.trans ex_rm, dp_I (SqL.of ?_)⟩
              rw [rm_ne np7D, rm_ne np7K]
              exact q7
            · have h26 := eF6 _ _ (eG6 _ _ h2)
              refine wp_isi (.tup (SqT.of h26)) (b := false) (by decide +kernel) ?_
              wtm_at "r"
              refine bF rfl ?_
              wtm_at "r"
              exact fin _ _ hD6 (exr F6) ⟨G6, exr G6, g6D, g6K, eF6, .tup (SqT.of (eG6 _ _ h2)) (DpAll.up (ex_none G6) h3.1)⟩
            · refine wp_isi (.int z) (b := false) (by decide +kernel) ?_
              wtm_at "r"
              refine bF rfl ?_
              wtm_at "r"
              exact fin _ _ hD6 (exr F6) ⟨G6, exr G6, g6D, g6K, eF6, .int z⟩
            · refine wp_isi (.str _) (b := false) (by decide +kernel) ?_
              wtm_at "r"
              refine bF rfl ?_
              wtm_at "r"
              exact fin _ _ hD6 (exr F6) ⟨G6, exr G6, g6D, g6K, eF6, .str _⟩
          · rintro acc F6 hD6 ⟨G6, hal, eG6, g6D, g6K, eF6, h6K, hda⟩
            rw [hvl, List.take_length] at hda
            wtm_at "r"
            refine wp_append h6K (by rw [List.length_map]; omega) ?_
            wtm_at "r"
            have e4r : Ex G4 (rm F5 Kp) := ex_to_rm (eF4.trans e5) g4K
            have eGr : Ex G6 (rm F6 Kp) := ex_to_rm eF6 g6K
            have hDr : (rm F6 Kp) Dl = some (.lst acc) := by rw [rm_ne nkd.symm]; exact hD6
            refine go_turn rfl ⟨ks ++ [Dl], rm F6 Kp, _, _, rfl, by rw [List.length_append, List.length_singleton, hkl]; omega, eG4.trans (e4r.trans (eG6.trans eGr)), rm_same, ex_mut ex_rm rm_same, by rw [upd_same, List.map_append]; rfl, fun j kk x2 hj hx2 => ?_⟩
            by_cases hjl : j < 4 * i + kind
            · rw [List.getElem?_append_left (by omega)] at hj
              exact Dp.up (e4r.trans (eG6.trans eGr)) (hks j kk x2 hj hx2)
            · have hj2 : j = 4 * i + kind := by
                have := (List.getElem?_eq_some_iff.mp hj).1
                rw [List.length_append, List.length_singleton] at this
                omega
              rw [hj2, List.getElem?_append_right (by omega), hkl, Nat.sub_self] at hj
              cases hj
              have ej4 : j / 4 = i := by omega
              have ejm : j % 4 = kind := by omega
              rw [ej4, hx] at hx2
              cases hx2
              rw [ejm]
              exact .lst (SqL.of hDr) (DpAll.up eGr hda)
        · rintro σ F4 ⟨ks, G4, x9, x10, rfl, hkl, eG4, g4K, eF4, h4K, hks⟩
          wtm_at "r"
          exact go_turn rfl ⟨ks, G4, _, _, _, _, _, _, rfl, by omega, eG3.trans eG4, g4K, eF4, h4K, hks⟩
      · rintro σ F3 ⟨ks, G, x4, x6, x7, x8, x9, x10, rfl, hkl, eG3, gK, eF3, hK, hks⟩
        rw [List.length_map] at hkl
        have hks : ∀ (j : Nat) (kk : Addr) (x : Cd), ks[j]? = some kk → xs[j / 4]? = some x → Dp K F3 (.ref kk) (.list (x.ans (j % 4))) := fun j kk x h1 h2 => Dp.up eF3 (hks j kk x h1 h2)
        have hcs : ∀ (j : Nat) (c : Addr) (x : Cd), cs[j]? = some c → xs[j]? = some x → CaseAt K F3 c x := fun j c x h1 h2 => (hcs j c x h1 h2).up (eG3.trans eF3)
        have hF3 := (eG3.trans eF3) _ _ hF
        wtm_at "r"
        refine go_forR (fun i σ F4 => ∃ (x3 x4 x6 x7 x8 x9 x10 x11 x12 x13 : Option V), σ = [some (.ref a), some (.ref d), some (.ref Cl), x3, x4, some (.ref Kp), x6, x7, x8, x9, x10, x11, x12, x13] ∧ Ex F3 F4) ?_
        wtm_at "r"
        refine ⟨14, rfl, by decide, ⟨_, _, _, _, _, _, _, _, _, _, rfl, exr F3⟩, ?_, ?_⟩
        · rintro i σ F4 hi ⟨x3, x4, x6, x7, x8, x9, x10, x11, x12, x13, rfl, e4⟩
          wtm_at "r"
          refine wp_off (by omega) (by omega) fun kq hkq => ?_
          wtm_at "r"
          refine wp_off (by omega) (by omega) fun kind hkind => ?_
          wtm_at "r"
          obtain ⟨cp, hcp⟩ : ∃ cp, cs[kq]? = some cp := ⟨_, List.getElem?_eq_getElem (by omega)⟩
          obtain ⟨x, hx⟩ : ∃ x, xs[kq]? = some x := ⟨_, List.getElem?_eq_getElem (by omega)⟩
          obtain ⟨s, t, u, hc0, hc1, hc2, hc3, g, ok1, ok2, l1, l2, hT, hTl⟩ := (hcs kq cp x hcp hx).up e4
          obtain ⟨kk, hkk⟩ : ∃ kk, ks[4 * kq + kind]? = some kk := ⟨_, List.getElem?_eq_getElem (by omega)⟩
          have hdk := hks (4 * kq + kind) kk x hkk (by rw [show (4 * kq + kind) / 4 = kq by omega]; exact hx)
          rw [show (4 * kq + kind) % 4 = kind by omega] at hdk
          refine wp_ixL (SqL.of (e4 _ _ hF3)) (v := .ref cp) (atI_nat (by rw [List.getElem?_map, hcp]; rfl)) ?_
          refine wp_gTup (SqT.of hc0) rfl ?_
          wtm_at "r"
          refine wp_listL (SqL.of hc2) ?_
          wtm_at "gz"
          intro h1 hh1 F5 q5 e5
          wtm_at "r"
          refine wp_listL (SqL.of (e5 _ _ hc3)) ?_
          wtm_at "gz"
          intro h2 hh2 F6 q6 e6
          wtm_at "r"
          refine ⟨(by show 2 ≤ 100000; decide), ?_⟩
          wtm_at "gz"
          intro hd hhd F7 q7 e7
          have e47 := e5.trans (e6.trans e7)
          have q57 := e7 _ _ (e6 _ _ q5)
          have q67 := e7 _ _ q6
          have n12 : h1 ≠ h2 := ne_of_none q5 hh2
          have n1d : h1 ≠ hd := ne_of_none (e6 _ _ q5) hhd
          have n2d : h2 ≠ hd := ne_of_none q6 hhd
          wtm_at "r"
          refine wp_ixL (SqL.of q7) rfl ?_
          wtm_at "r"
          refine wp_ixL (SqL.of q7) rfl ?_
          wtm_at "r"
          refine wp_asked (by omega) (ex_t e47 hc1) q57 q67 g ok1 ok2 (by omega) (by omega) hT (by omega) ?_
          intro p F8 vs hp e8 hp8 hpts
          have e38 := e4.trans (e47.trans e8)
          wtm_at "r"
          refine wp_mulI (.inl ⟨by decide, by decide⟩) ?_
          wtm_at "r"
          refine wp_ixL (SqL.of (e38 _ _ hK)) (v := .ref kk) (by rw [show (4 * (kq : Int) + (kind : Int)) = ((4 * kq + kind : Nat) : Int) by omega]; exact atI_nat (by rw [List.getElem?_map, hkk]; rfl)) ?_
          wtm_at "r"
          refine wp_alike (n := 2) (d := .list (x.ans kind)) (.lst (SqL.of hp8) hpts.dp) (Dp.up e38 hdk) (.inr ⟨_, .inl rfl, by have := ans_len x kind; omega, hpts.dn⟩) ?_
          wtm_at "r"
          refine bF rfl ?_
          wtm_at "r"
          refine ⟨(by show 2 ≤ 100000; decide), ?_⟩
          wtm_at "gz"
          intro p9 hp9 F9 q9 e9
          have e79 := e8.trans e9
          have e49 := e47.trans e79
          refine wp_neD (d := .list [.list (dI x.c1), .list (dI x.c2)]) (e := .list [.list (dI x.c1), .list (dI x.c2)]) (.lst (SqL.of (e79 _ _ q7)) (.cons (dp_I (SqL.of (e79 _ _ q57))) (.cons (dp_I (SqL.of (e79 _ _ q67))) .nil)))
            (.lst (SqL.of q9) (.cons (dp_I (SqL.of (e49 _ _ hc2))) (.cons (dp_I (SqL.of (e49 _ _ hc3))) .nil))) (sh_2 _ _) (sh_2 _ _) ?_
          rw [eqv_2]
          wtm_at "r"
          refine bF rfl ?_
          wtm_at "r"
          have hp9v : F9 p = some (.lst vs) := e9 _ _ hp8
          refine go_forL (fun j σ F10 => ∃ (x13 : Option V), σ = [some (.ref a), some (.ref d), some (.ref Cl), some (.int (kq : Int)), some (.ref s), some (.ref Kp), some (.ref t), some (.ref u), some (.str (tx x.T)), some (.int (kind : Int)), some (.ref p), some (.int (i : Int)), some (.ref hd), x13] ∧
            Ex F7 F10 ∧ F10 p = some (.lst vs) ∧ ∀ q, V.ref q ∈ vs → (∃ ys, F10 q = some (.lst ys) ∧ ys.length ≤ 900 + j ∧ F7 q = none ∧ q ≠ p) ∨ ∃ ys, F10 q = some (.tup ys)) ?_
          wtm_at "r"
          have hvl := hpts.len
          have hal := ans_len x kind
          have hvl : vs.length ≤ 4 := by rw [hvl]; exact hal
          refine ⟨p, vs, rfl, SqL.of hp9v, ⟨_, rfl, e79, hp9v, fun q hq => ?_⟩, fun j σ F10 _ ⟨_, _, _, z, _⟩ => SqL.of z, ?_, ?_⟩
          · obtain ⟨n, hn, en⟩ := List.getElem_of_mem hq
            obtain ⟨dd, _, hpt⟩ := hpts.at (i := n) (v := .ref q) (by rw [List.getElem?_eq_getElem hn, en])
            rcases hpt with ⟨q', cs', h1, h2, h3, h4, h5, _⟩ | ⟨q', xs', ds', h1, h2, _⟩ | ⟨z, h1, _⟩ | ⟨z, h1, _⟩
            · cases h1
              exact .inl ⟨_, e9 _ _ h4, by rw [List.length_map]; omega, h2, h3⟩
            · cases h1
              exact .inr ⟨_, e9 _ _ h2⟩
            · cases h1
            · cases h1
          · rintro j v σ F10 hv ⟨x13, rfl, e10, h10p, h10⟩
            have hjl := (List.getElem?_eq_some_iff.mp hv).1
            have hvm := List.mem_of_getElem? hv
            obtain ⟨dd, _, hpt⟩ := hpts.at hv
            have keep : ∃ (x13 : Option V), ((([some (.ref a), some (.ref d), some (.ref Cl), some (.int (kq : Int)), some (.ref s), some (.ref Kp), some (.ref t), some (.ref u), some (.str (tx x.T)), some (.int (kind : Int)), some (.ref p), some (.int (i : Int)), some (.ref hd), x13] : L2.St).set 13 (some v)) = [some (.ref a), some (.ref d), some (.ref Cl), some (.int (kq : Int)), some (.ref s), some (.ref Kp), some (.ref t), some (.ref u), some (.str (tx x.T)), some (.int (kind : Int)), some (.ref p), some (.int (i : Int)), some (.ref hd), x13]) ∧
              Ex F7 F10 ∧ F10 p = some (.lst vs) ∧ ∀ q, V.ref q ∈ vs → (∃ ys, F10 q = some (.lst ys) ∧ ys.length ≤ 900 + (j + 1) ∧ F7 q = none ∧ q ≠ p) ∨ ∃ ys, F10 q = some (.tup ys) := ⟨_, rfl, e10, h10p, fun q hq => by
              rcases h10 q hq with ⟨ys, z1, z2, z3⟩ | h
              · exact .inl ⟨ys, z1, by omega, z3⟩
              · exact .inr h⟩
            wtm_at "r"
            rcases hpt with ⟨q, cs', rfl, _⟩ | ⟨q, xs', ds', rfl, _⟩ | ⟨z, rfl, _⟩ | ⟨z, rfl, _⟩
            · rcases h10 q hvm with ⟨ys, z1, z2, z3, z4⟩ | ⟨ys, z1⟩
              · refine wp_isi (.lst (SqL.of z1)) (b := true) (by decide +kernel) ?_
                wtm_at "r"
                refine bT rfl ?_
                wtm_at "r"
                refine wp_bmL ?_
                wtm_at "r"
                refine ⟨q, _, rfl, SqL.of z1, ?_⟩
                wtm_at "r"
                refine wp_append z1 (by omega) ?_
                wtm_at "r"
                refine go_turn rfl ⟨_, rfl, ex_mut e10 z3, by rw [upd_ne z4.symm]; exact h10p, fun q2 hq2 => ?_⟩
                by_cases e2 : q2 = q
                · subst e2
                  exact .inl ⟨_, upd_same, by rw [List.length_append, List.length_singleton]; omega, z3, z4⟩
                · rw [upd_ne e2]
                  rcases h10 q2 hq2 with ⟨ys2, y1, y2, y3⟩ | h
                  · exact .inl ⟨ys2, y1, by omega, y3⟩
                  · exact .inr h
              · refine wp_isi (.tup (SqT.of z1)) (b := false) (by decide +kernel) ?_
                wtm_at "r"
                refine bF rfl ?_
                wtm_at "r"
                exact go_turn rfl keep
            · rcases h10 q hvm with ⟨ys, z1, z2, z3, z4⟩ | ⟨ys, z1⟩
              · refine wp_isi (.lst (SqL.of z1)) (b := true) (by decide +kernel) ?_
                wtm_at "r"
                refine bT rfl ?_
                wtm_at "r"
                refine wp_bmL ?_
                wtm_at "r"
                refine ⟨q, _, rfl, SqL.of z1, ?_⟩
                wtm_at "r"
                refine wp_append z1 (by omega) ?_
                wtm_at "r"
                refine go_turn rfl ⟨_, rfl, ex_mut e10 z3, by rw [upd_ne z4.symm]; exact h10p, fun q2 hq2 => ?_⟩
                by_cases e2 : q2 = q
                · subst e2
                  exact .inl ⟨_, upd_same, by rw [List.length_append, List.length_singleton]; omega, z3, z4⟩
                · rw [upd_ne e2]
                  rcases h10 q2 hq2 with ⟨ys2, y1, y2, y3⟩ | h
                  · exact .inl ⟨ys2, y1, by omega, y3⟩
                  · exact .inr h
              · refine wp_isi (.tup (SqT.of z1)) (b := false) (by decide +kernel) ?_
                wtm_at "r"
                refine bF rfl ?_
                wtm_at "r"
                exact go_turn rfl keep
            · refine wp_isi (.int z) (b := false) (by decide +kernel) ?_
              wtm_at "r"
              refine bF rfl ?_
              wtm_at "r"
              exact go_turn rfl keep
            · refine wp_isi (.str _) (b := false) (by decide +kernel) ?_
              wtm_at "r"
              refine bF rfl ?_
              wtm_at "r"
              exact go_turn rfl keep
          · rintro σ F10 ⟨x13, rfl, e10, h10p, h10⟩
            have a7 := e10 _ _ q7
            have a5 := e10 _ _ q57
            have a6 := e10 _ _ q67
            have n3h1 : F3 h1 = none := e4.free hh1
            have n3h2 : F3 h2 = none := (e4.trans e5).free hh2
            have e310 : Ex F3 F10 := e4.trans (e47.trans e10)
            wtm_at "r"
            refine wp_bm0L ?_
            wtm_at "r"
            refine wp_ixL (SqL.of a7) rfl ?_
            refine ⟨h1, _, rfl, SqL.of a5, ?_⟩
            refine wp_clear a5 ?_
            have a7 : (upd F10 h1 (.lst [])) hd = some (.lst [.ref h1, .ref h2]) := by rw [upd_ne n1d.symm]; exact a7
            have a6 : (upd F10 h1 (.lst [])) h2 = some (.lst (il x.c2)) := by rw [upd_ne n12.symm]; exact a6
            wtm_at "r"
            refine wp_bmL ?_
            wtm_at "r"
            refine wp_ixL (SqL.of a7) rfl ?_
            refine ⟨h2, _, rfl, SqL.of a6, ?_⟩
            wtm_at "r"
            refine wp_append a6 (by rw [List.length_map]; omega) ?_
            wtm_at "r"
            exact go_turn rfl ⟨_, _, _, _, _, _, _, _, _, _, rfl, ex_mut (ex_mut e310 n3h1) n3h2⟩
        · rintro σ F4 ⟨x3, x4, x6, x7, x8, x9, x10, x11, x12, x13, rfl, e4⟩
          wtm_at "r"
          exact fun H1 _ => k H1
end
theorem all_mk {l : PySem.W.OpenLaw} {w : World} {K : PySem.W.Frag} {h : Heap} {mg : Str → Option Value} {fa f0 f1 f2 f3 f4 f5 f6 f7 f8 f9 f10 f11 f12 f13 f14 f15 f16 f17 f18 f19 f20 f21 f22 f23 f24 f25 f26 f27 f28 f29 f30 f31 CW f32 f33 f34 f35 f36 : Addr} (X : K.In h) (G : h.Ns mainGlobals mg) (hfa : mg "law" = some (.ref fa))
    {od0 an0 od1 an1 od2 an2 od3 an3 od4 an4 od5 an5 od6 an6 od7 an7 od8 an8 od9 an9 od10 an10 od11 an11 od12 an12 od13 an13 od14 an14 od15 an15 od16 an16 od17 an17 od18 an18 od19 an19 od20 an20 od21 an21 od22 an22 od23 an23 od24 an24 od25 an25 od26 an26 od27 an27 od28 an28 od29 an29 od30 an30 od31 an31 od32 an32 od33 an33 od34 an34 od35 an35 od36 an36 : Option Addr} {sl0 sl1 sl2 sl3 sl4 sl5 sl6 sl7 sl8 sl9 sl10 sl11 sl12 sl13 sl14 sl15 sl16 sl17 sl18 sl19 sl20 sl21 sl22 sl23 sl24 sl25 sl26 sl27 sl28 sl29 sl30 sl31 sl32 sl33 sl34 sl35 sl36 : Array (Option Value)} {oc0 kV0 dc0 pm0 cd0 ct0 oc1 kV1 dc1 pm1 cd1 ct1 oc2 kV2 dc2 pm2 cd2 ct2 oc3 kV3 dc3 pm3 cd3 ct3 oc4 kV4 dc4 pm4 cd4 ct4 oc5 kV5 dc5 pm5 cd5 ct5 oc6 kV6 dc6 pm6 cd6 ct6 oc7 kV7 dc7 pm7 cd7 ct7 oc8 kV8 dc8 pm8 cd8 ct8 oc9 kV9 dc9 pm9 cd9 ct9 oc10 kV10 dc10 pm10 cd10 ct10 oc11 kV11 dc11 pm11 cd11 ct11 oc12 kV12 dc12 pm12 cd12 ct12 oc13 kV13 dc13 pm13 cd13 ct13 oc14 kV14 dc14 pm14 cd14 ct14 oc15 kV15 dc15 pm15 cd15 ct15 oc16 kV16 dc16 pm16 cd16 ct16 oc17 kV17 dc17 pm17 cd17 ct17 oc18 kV18 dc18 pm18 cd18 ct18 oc19 kV19 dc19 pm19 cd19 ct19 oc20 kV20 dc20 pm20 cd20 ct20 oc21 kV21 dc21 pm21 cd21 ct21 oc22 kV22 dc22 pm22 cd22 ct22 oc23 kV23 dc23 pm23 cd23 ct23 oc24 kV24 dc24 pm24 cd24 ct24 oc25 kV25 dc25 pm25 cd25 ct25 oc26 kV26 dc26 pm26 cd26 ct26 oc27 kV27 dc27 pm27 cd27 ct27 oc28 kV28 dc28 pm28 cd28 ct28 oc29 kV29 dc29 pm29 cd29 ct29 oc30 kV30 dc30 pm30 cd30 ct30 oc31 kV31 dc31 pm31 cd31 ct31 oc32 kV32 dc32 pm32 cd32 ct32 oc33 kV33 dc33 pm33 cd33 ct33 oc34 kV34 dc34 pm34 cd34 ct34 oc35 kV35 dc35 pm35 cd35 ct35 oc36 kV36 dc36 pm36 cd36 ct36 : Value} {t_MOST_SIGNS t_MOST_CODES t_MOST_SPOILT t_FIGURES : Tok}
    (a0 : PySem.W.nsIn K mainGlobals "need_sets" = some (some (.ref f0))) (l0 : K.lookup f0 = some ⟨oc0, od0, .func (PySem.W.fnOf "need_sets" "need_sets" (defArgs s_need_sets) (defBody s_need_sets) (defScope s_need_sets) .none kV0 dc0 pm0 an0 cd0 ct0), sl0⟩) (c0 : PySem.W.codeIn K cd0 "need_sets" = true) (k0 : PySem.W.keepIn K (.ref f0) = true)
    (a1 : PySem.W.nsIn K mainGlobals "need_tape" = some (some (.ref f1))) (l1 : K.lookup f1 = some ⟨oc1, od1, .func (PySem.W.fnOf "need_tape" "need_tape" (defArgs s_need_tape) (defBody s_need_tape) (defScope s_need_tape) .none kV1 dc1 pm1 an1 cd1 ct1), sl1⟩) (c1 : PySem.W.codeIn K cd1 "need_tape" = true) (k1 : PySem.W.keepIn K (.ref f1) = true)
    (a2 : PySem.W.nsIn K mainGlobals "need_state" = some (some (.ref f2))) (l2 : K.lookup f2 = some ⟨oc2, od2, .func (PySem.W.fnOf "need_state" "need_state" (defArgs s_need_state) (defBody s_need_state) (defScope s_need_state) .none kV2 dc2 pm2 an2 cd2 ct2), sl2⟩) (c2 : PySem.W.codeIn K cd2 "need_state" = true) (k2 : PySem.W.keepIn K (.ref f2) = true)
    (a3 : PySem.W.nsIn K mainGlobals "need_all" = some (some (.ref f3))) (l3 : K.lookup f3 = some ⟨oc3, od3, .func (PySem.W.fnOf "need_all" "need_all" (defArgs s_need_all) (defBody s_need_all) (defScope s_need_all) .none kV3 dc3 pm3 an3 cd3 ct3), sl3⟩) (c3 : PySem.W.codeIn K cd3 "need_all" = true) (k3 : PySem.W.keepIn K (.ref f3) = true)
    (a4 : PySem.W.nsIn K mainGlobals "is_common" = some (some (.ref f4))) (l4 : K.lookup f4 = some ⟨oc4, od4, .func (PySem.W.fnOf "is_common" "is_common" (defArgs s_is_common) (defBody s_is_common) (defScope s_is_common) .none kV4 dc4 pm4 an4 cd4 ct4), sl4⟩) (c4 : PySem.W.codeIn K cd4 "is_common" = true) (k4 : PySem.W.keepIn K (.ref f4) = true)
    (a5 : PySem.W.nsIn K mainGlobals "gone" = some (some (.ref f5))) (l5 : K.lookup f5 = some ⟨oc5, od5, .func (PySem.W.fnOf "gone" "gone" (defArgs s_gone) (defBody s_gone) (defScope s_gone) .none kV5 dc5 pm5 an5 cd5 ct5), sl5⟩) (c5 : PySem.W.codeIn K cd5 "gone" = true) (k5 : PySem.W.keepIn K (.ref f5) = true)
    (a6 : PySem.W.nsIn K mainGlobals "read" = some (some (.ref f6))) (l6 : K.lookup f6 = some ⟨oc6, od6, .func (PySem.W.fnOf "read" "read" (defArgs s_read) (defBody s_read) (defScope s_read) .none kV6 dc6 pm6 an6 cd6 ct6), sl6⟩) (c6 : PySem.W.codeIn K cd6 "read" = true) (k6 : PySem.W.keepIn K (.ref f6) = true)
    (a7 : PySem.W.nsIn K mainGlobals "codes_of" = some (some (.ref f7))) (l7 : K.lookup f7 = some ⟨oc7, od7, .func (PySem.W.fnOf "codes_of" "codes_of" (defArgs s_codes_of) (defBody s_codes_of) (defScope s_codes_of) .none kV7 dc7 pm7 an7 cd7 ct7), sl7⟩) (c7 : PySem.W.codeIn K cd7 "codes_of" = true) (k7 : PySem.W.keepIn K (.ref f7) = true)
    (a8 : PySem.W.nsIn K mainGlobals "need_text" = some (some (.ref f8))) (l8 : K.lookup f8 = some ⟨oc8, od8, .func (PySem.W.fnOf "need_text" "need_text" (defArgs s_need_text) (defBody s_need_text) (defScope s_need_text) .none kV8 dc8 pm8 an8 cd8 ct8), sl8⟩) (c8 : PySem.W.codeIn K cd8 "need_text" = true) (k8 : PySem.W.keepIn K (.ref f8) = true)
    (a9 : PySem.W.nsIn K mainGlobals "unlike" = some (some (.ref f9))) (l9 : K.lookup f9 = some ⟨oc9, od9, .func (PySem.W.fnOf "unlike" "unlike" (defArgs s_unlike) (defBody s_unlike) (defScope s_unlike) .none kV9 dc9 pm9 an9 cd9 ct9), sl9⟩) (c9 : PySem.W.codeIn K cd9 "unlike" = true) (k9 : PySem.W.keepIn K (.ref f9) = true)
    (a10 : PySem.W.nsIn K mainGlobals "shorter" = some (some (.ref f10))) (l10 : K.lookup f10 = some ⟨oc10, od10, .func (PySem.W.fnOf "shorter" "shorter" (defArgs s_shorter) (defBody s_shorter) (defScope s_shorter) .none kV10 dc10 pm10 an10 cd10 ct10), sl10⟩) (c10 : PySem.W.codeIn K cd10 "shorter" = true) (k10 : PySem.W.keepIn K (.ref f10) = true)
    (a11 : PySem.W.nsIn K mainGlobals "least" = some (some (.ref f11))) (l11 : K.lookup f11 = some ⟨oc11, od11, .func (PySem.W.fnOf "least" "least" (defArgs s_least) (defBody s_least) (defScope s_least) .none kV11 dc11 pm11 an11 cd11 ct11), sl11⟩) (c11 : PySem.W.codeIn K cd11 "least" = true) (k11 : PySem.W.keepIn K (.ref f11) = true)
    (a12 : PySem.W.nsIn K mainGlobals "guarded_of" = some (some (.ref f12))) (l12 : K.lookup f12 = some ⟨oc12, od12, .func (PySem.W.fnOf "guarded_of" "guarded_of" (defArgs s_guarded_of) (defBody s_guarded_of) (defScope s_guarded_of) .none kV12 dc12 pm12 an12 cd12 ct12), sl12⟩) (c12 : PySem.W.codeIn K cd12 "guarded_of" = true) (k12 : PySem.W.keepIn K (.ref f12) = true)
    (a13 : PySem.W.nsIn K mainGlobals "guarded" = some (some (.ref f13))) (l13 : K.lookup f13 = some ⟨oc13, od13, .func (PySem.W.fnOf "guarded" "guarded" (defArgs s_guarded) (defBody s_guarded) (defScope s_guarded) .none kV13 dc13 pm13 an13 cd13 ct13), sl13⟩) (c13 : PySem.W.codeIn K cd13 "guarded" = true) (k13 : PySem.W.keepIn K (.ref f13) = true)
    (a14 : PySem.W.nsIn K mainGlobals "trimmed" = some (some (.ref f14))) (l14 : K.lookup f14 = some ⟨oc14, od14, .func (PySem.W.fnOf "trimmed" "trimmed" (defArgs s_trimmed) (defBody s_trimmed) (defScope s_trimmed) .none kV14 dc14 pm14 an14 cd14 ct14), sl14⟩) (c14 : PySem.W.codeIn K cd14 "trimmed" = true) (k14 : PySem.W.keepIn K (.ref f14) = true)
    (a15 : PySem.W.nsIn K mainGlobals "joined" = some (some (.ref f15))) (l15 : K.lookup f15 = some ⟨oc15, od15, .func (PySem.W.fnOf "joined" "joined" (defArgs s_joined) (defBody s_joined) (defScope s_joined) .none kV15 dc15 pm15 an15 cd15 ct15), sl15⟩) (c15 : PySem.W.codeIn K cd15 "joined" = true) (k15 : PySem.W.keepIn K (.ref f15) = true)
    (a16 : PySem.W.nsIn K mainGlobals "cut" = some (some (.ref f16))) (l16 : K.lookup f16 = some ⟨oc16, od16, .func (PySem.W.fnOf "cut" "cut" (defArgs s_cut) (defBody s_cut) (defScope s_cut) .none kV16 dc16 pm16 an16 cd16 ct16), sl16⟩) (c16 : PySem.W.codeIn K cd16 "cut" = true) (k16 : PySem.W.keepIn K (.ref f16) = true)
    (a17 : PySem.W.nsIn K mainGlobals "spoilt_by" = some (some (.ref f17))) (l17 : K.lookup f17 = some ⟨oc17, od17, .func (PySem.W.fnOf "spoilt_by" "spoilt_by" (defArgs s_spoilt_by) (defBody s_spoilt_by) (defScope s_spoilt_by) .none kV17 dc17 pm17 an17 cd17 ct17), sl17⟩) (c17 : PySem.W.codeIn K cd17 "spoilt_by" = true) (k17 : PySem.W.keepIn K (.ref f17) = true)
    (a18 : PySem.W.nsIn K mainGlobals "losses" = some (some (.ref f18))) (l18 : K.lookup f18 = some ⟨oc18, od18, .func (PySem.W.fnOf "losses" "losses" (defArgs s_losses) (defBody s_losses) (defScope s_losses) .none kV18 dc18 pm18 an18 cd18 ct18), sl18⟩) (c18 : PySem.W.codeIn K cd18 "losses" = true) (k18 : PySem.W.keepIn K (.ref f18) = true)
    (a19 : PySem.W.nsIn K mainGlobals "worst" = some (some (.ref f19))) (l19 : K.lookup f19 = some ⟨oc19, od19, .func (PySem.W.fnOf "worst" "worst" (defArgs s_worst) (defBody s_worst) (defScope s_worst) .none kV19 dc19 pm19 an19 cd19 ct19), sl19⟩) (c19 : PySem.W.codeIn K cd19 "worst" = true) (k19 : PySem.W.keepIn K (.ref f19) = true)
    (a20 : PySem.W.nsIn K mainGlobals "by_state" = some (some (.ref f20))) (l20 : K.lookup f20 = some ⟨oc20, od20, .func (PySem.W.fnOf "by_state" "by_state" (defArgs s_by_state) (defBody s_by_state) (defScope s_by_state) .none kV20 dc20 pm20 an20 cd20 ct20), sl20⟩) (c20 : PySem.W.codeIn K cd20 "by_state" = true) (k20 : PySem.W.keepIn K (.ref f20) = true)
    (a21 : PySem.W.nsIn K mainGlobals "written" = some (some (.ref f21))) (l21 : K.lookup f21 = some ⟨oc21, od21, .func (PySem.W.fnOf "written" "written" (defArgs s_written) (defBody s_written) (defScope s_written) .none kV21 dc21 pm21 an21 cd21 ct21), sl21⟩) (c21 : PySem.W.codeIn K cd21 "written" = true) (k21 : PySem.W.keepIn K (.ref f21) = true)
    (a22 : PySem.W.nsIn K mainGlobals "read_tape" = some (some (.ref f22))) (l22 : K.lookup f22 = some ⟨oc22, od22, .func (PySem.W.fnOf "read_tape" "read_tape" (defArgs s_read_tape) (defBody s_read_tape) (defScope s_read_tape) .none kV22 dc22 pm22 an22 cd22 ct22), sl22⟩) (c22 : PySem.W.codeIn K cd22 "read_tape" = true) (k22 : PySem.W.keepIn K (.ref f22) = true)
    (a23 : PySem.W.nsIn K mainGlobals "_law_dice" = some (some (.ref f23))) (l23 : K.lookup f23 = some ⟨oc23, od23, .func (PySem.W.fnOf "_law_dice" "_law_dice" (defArgs s_q_dice) (defBody s_q_dice) (defScope s_q_dice) .none kV23 dc23 pm23 an23 cd23 ct23), sl23⟩) (c23 : PySem.W.codeIn K cd23 "_law_dice" = true) (k23 : PySem.W.keepIn K (.ref f23) = true)
    (a24 : PySem.W.nsIn K mainGlobals "_law_off" = some (some (.ref f24))) (l24 : K.lookup f24 = some ⟨oc24, od24, .func (PySem.W.fnOf "_law_off" "_law_off" (defArgs s_q_off) (defBody s_q_off) (defScope s_q_off) .none kV24 dc24 pm24 an24 cd24 ct24), sl24⟩) (c24 : PySem.W.codeIn K cd24 "_law_off" = true) (k24 : PySem.W.keepIn K (.ref f24) = true)
    (a25 : PySem.W.nsIn K mainGlobals "_law_alike" = some (some (.ref f25))) (l25 : K.lookup f25 = some ⟨oc25, od25, .func (PySem.W.fnOf "_law_alike" "_law_alike" (defArgs s_q_alike) (defBody s_q_alike) (defScope s_q_alike) .none kV25 dc25 pm25 an25 cd25 ct25), sl25⟩) (c25 : PySem.W.codeIn K cd25 "_law_alike" = true) (k25 : PySem.W.keepIn K (.ref f25) = true)
    (a26 : PySem.W.nsIn K mainGlobals "_law_mixed" = some (some (.ref f26))) (l26 : K.lookup f26 = some ⟨oc26, od26, .func (PySem.W.fnOf "_law_mixed" "_law_mixed" (defArgs s_q_mixed) (defBody s_q_mixed) (defScope s_q_mixed) .none kV26 dc26 pm26 an26 cd26 ct26), sl26⟩) (c26 : PySem.W.codeIn K cd26 "_law_mixed" = true) (k26 : PySem.W.keepIn K (.ref f26) = true)
    (a27 : PySem.W.nsIn K mainGlobals "_law_sets" = some (some (.ref f27))) (l27 : K.lookup f27 = some ⟨oc27, od27, .func (PySem.W.fnOf "_law_sets" "_law_sets" (defArgs s_q_sets) (defBody s_q_sets) (defScope s_q_sets) .none kV27 dc27 pm27 an27 cd27 ct27), sl27⟩) (c27 : PySem.W.codeIn K cd27 "_law_sets" = true) (k27 : PySem.W.keepIn K (.ref f27) = true)
    (a28 : PySem.W.nsIn K mainGlobals "_law_text" = some (some (.ref f28))) (l28 : K.lookup f28 = some ⟨oc28, od28, .func (PySem.W.fnOf "_law_text" "_law_text" (defArgs s_q_text) (defBody s_q_text) (defScope s_q_text) .none kV28 dc28 pm28 an28 cd28 ct28), sl28⟩) (c28 : PySem.W.codeIn K cd28 "_law_text" = true) (k28 : PySem.W.keepIn K (.ref f28) = true)
    (a29 : PySem.W.nsIn K mainGlobals "_law_tape" = some (some (.ref f29))) (l29 : K.lookup f29 = some ⟨oc29, od29, .func (PySem.W.fnOf "_law_tape" "_law_tape" (defArgs s_q_tape) (defBody s_q_tape) (defScope s_q_tape) .none kV29 dc29 pm29 an29 cd29 ct29), sl29⟩) (c29 : PySem.W.codeIn K cd29 "_law_tape" = true) (k29 : PySem.W.keepIn K (.ref f29) = true)
    (a30 : PySem.W.nsIn K mainGlobals "_law_asked" = some (some (.ref f30))) (l30 : K.lookup f30 = some ⟨oc30, od30, .func (PySem.W.fnOf "_law_asked" "_law_asked" (defArgs s_q_asked) (defBody s_q_asked) (defScope s_q_asked) .none kV30 dc30 pm30 an30 cd30 ct30), sl30⟩) (c30 : PySem.W.codeIn K cd30 "_law_asked" = true) (k30 : PySem.W.keepIn K (.ref f30) = true)
    (a31 : PySem.W.nsIn K mainGlobals "law" = some (some (.ref f31))) (l31 : K.lookup f31 = some ⟨oc31, od31, .func (PySem.W.fnOf "law" "law" (defArgs s_law) (defBody s_law) (defScope s_law) .none kV31 dc31 pm31 an31 cd31 ct31), sl31⟩) (c31 : PySem.W.codeIn K cd31 "law" = true) (k31 : PySem.W.keepIn K (.ref f31) = true)
    (v_MOST_SIGNS : PySem.W.nsIn K mainGlobals "MOST_SIGNS" = some (some (.int 10 t_MOST_SIGNS)))
    (v_MOST_CODES : PySem.W.nsIn K mainGlobals "MOST_CODES" = some (some (.int 200 t_MOST_CODES)))
    (v_MOST_SPOILT : PySem.W.nsIn K mainGlobals "MOST_SPOILT" = some (some (.int 20 t_MOST_SPOILT)))
    (v_FIGURES : PySem.W.nsIn K mainGlobals "FIGURES" = some (some (.str (tx [48, 49, 50, 51, 52, 53, 54, 55, 56, 57]) t_FIGURES)))
    (z_len : PySem.W.nsIn K mainGlobals "len" = some none)
    (z_list : PySem.W.nsIn K mainGlobals "list" = some none)
    (z_range : PySem.W.nsIn K mainGlobals "range" = some none)
    (z_abs : PySem.W.nsIn K mainGlobals "abs" = some none)
    (z_int_ : PySem.W.nsIn K mainGlobals "int" = some none)
    (z_bool_ : PySem.W.nsIn K mainGlobals "bool" = some none)
    (z_str_ : PySem.W.nsIn K mainGlobals "str" = some none)
    (z_isinstance : PySem.W.nsIn K mainGlobals "isinstance" = some none)
    (z_all : PySem.W.nsIn K mainGlobals "all" = some none)
    (z_enumerate : PySem.W.nsIn K mainGlobals "enumerate" = some none)
    (z_max : PySem.W.nsIn K mainGlobals "max" = some none)
    (z_min : PySem.W.nsIn K mainGlobals "min" = some none)
    (z_set : PySem.W.nsIn K mainGlobals "set" = some none)
    (z_sorted : PySem.W.nsIn K mainGlobals "sorted" = some none)
    (z_tuple : PySem.W.nsIn K mainGlobals "tuple" = some none)
    (aC : PySem.W.nsIn K mainGlobals "Writer" = some (some (.ref CW)))
    (a32 : PySem.W.findIn K (.ref CW) "__init__" = some (some (.ref f32))) (i32 : PySem.W.isFn K (.ref f32) = true) (l32 : K.lookup f32 = some ⟨oc32, od32, .func (PySem.W.fnOf "__init__" "Writer.__init__" (defArgs s_Writer_init) (defBody s_Writer_init) (defScope s_Writer_init) .none kV32 dc32 pm32 an32 cd32 ct32), sl32⟩) (c32 : PySem.W.codeIn K cd32 "Writer.__init__" = true) (k32 : PySem.W.keepIn K (.ref f32) = true)
    (a33 : PySem.W.findIn K (.ref CW) "rest" = some (some (.ref f33))) (i33 : PySem.W.isFn K (.ref f33) = true) (l33 : K.lookup f33 = some ⟨oc33, od33, .func (PySem.W.fnOf "rest" "Writer.rest" (defArgs s_Writer_rest) (defBody s_Writer_rest) (defScope s_Writer_rest) .none kV33 dc33 pm33 an33 cd33 ct33), sl33⟩) (c33 : PySem.W.codeIn K cd33 "Writer.rest" = true) (k33 : PySem.W.keepIn K (.ref f33) = true)
    (a34 : PySem.W.findIn K (.ref CW) "found" = some (some (.ref f34))) (i34 : PySem.W.isFn K (.ref f34) = true) (l34 : K.lookup f34 = some ⟨oc34, od34, .func (PySem.W.fnOf "found" "Writer.found" (defArgs s_Writer_found) (defBody s_Writer_found) (defScope s_Writer_found) .none kV34 dc34 pm34 an34 cd34 ct34), sl34⟩) (c34 : PySem.W.codeIn K cd34 "Writer.found" = true) (k34 : PySem.W.keepIn K (.ref f34) = true)
    (a35 : PySem.W.findIn K (.ref CW) "ahead" = some (some (.ref f35))) (i35 : PySem.W.isFn K (.ref f35) = true) (l35 : K.lookup f35 = some ⟨oc35, od35, .func (PySem.W.fnOf "ahead" "Writer.ahead" (defArgs s_Writer_ahead) (defBody s_Writer_ahead) (defScope s_Writer_ahead) .none kV35 dc35 pm35 an35 cd35 ct35), sl35⟩) (c35 : PySem.W.codeIn K cd35 "Writer.ahead" = true) (k35 : PySem.W.keepIn K (.ref f35) = true)
    (a36 : PySem.W.findIn K (.ref CW) "signed" = some (some (.ref f36))) (i36 : PySem.W.isFn K (.ref f36) = true) (l36 : K.lookup f36 = some ⟨oc36, od36, .func (PySem.W.fnOf "signed" "Writer.signed" (defArgs s_Writer_signed) (defBody s_Writer_signed) (defScope s_Writer_signed) .none kV36 dc36 pm36 an36 cd36 ct36), sl36⟩) (c36 : PySem.W.codeIn K cd36 "Writer.signed" = true) (k36 : PySem.W.keepIn K (.ref f36) = true)
    (pg : PySem.W.plainGet K CW Str.empty = true) (hd : PySem.W.hasDictIn K CW = true) (po : PySem.W.plainOver K CW = true) (sa : PySem.W.findIn K (.ref CW) "__setattr__" = some (some (.builtin "object.__setattr__"))) (mk : PySem.W.makesIn K CW = true) (kc : PySem.W.keepIn K (.ref CW) = true)
    (nf1 : PySem.W.findIn K (.ref CW) "sets" = some none) (nf2 : PySem.W.findIn K (.ref CW) "text" = some none) (nf3 : PySem.W.findIn K (.ref CW) "most" = some none) (nf4 : PySem.W.findIn K (.ref CW) "known" = some none)
    : ∃ fd : FuncData, (∀ (s : Shared) (v : Value), BindsTo s fd ⟨[v], []⟩ [("_law_script", v)]) ∧ ∀ base : Heap, K.In base → base.Ns mainGlobals mg → FnOk l.prog w K mg base CX0 131 fa fd ["_law_script"] (spLaw K) := by
  have D_need_sets : DefAt K mg "need_sets" s_need_sets := defAt_mk X G a0 l0 c0 k0
  have D_need_tape : DefAt K mg "need_tape" s_need_tape := defAt_mk X G a1 l1 c1 k1
  have D_need_state : DefAt K mg "need_state" s_need_state := defAt_mk X G a2 l2 c2 k2
  have D_need_all : DefAt K mg "need_all" s_need_all := defAt_mk X G a3 l3 c3 k3
  have D_is_common : DefAt K mg "is_common" s_is_common := defAt_mk X G a4 l4 c4 k4
  have D_gone : DefAt K mg "gone" s_gone := defAt_mk X G a5 l5 c5 k5
  have D_read : DefAt K mg "read" s_read := defAt_mk X G a6 l6 c6 k6
  have D_codes_of : DefAt K mg "codes_of" s_codes_of := defAt_mk X G a7 l7 c7 k7
  have D_need_text : DefAt K mg "need_text" s_need_text := defAt_mk X G a8 l8 c8 k8
  have D_unlike : DefAt K mg "unlike" s_unlike := defAt_mk X G a9 l9 c9 k9
  have D_shorter : DefAt K mg "shorter" s_shorter := defAt_mk X G a10 l10 c10 k10
  have D_least : DefAt K mg "least" s_least := defAt_mk X G a11 l11 c11 k11
  have D_guarded_of : DefAt K mg "guarded_of" s_guarded_of := defAt_mk X G a12 l12 c12 k12
  have D_guarded : DefAt K mg "guarded" s_guarded := defAt_mk X G a13 l13 c13 k13
  have D_trimmed : DefAt K mg "trimmed" s_trimmed := defAt_mk X G a14 l14 c14 k14
  have D_joined : DefAt K mg "joined" s_joined := defAt_mk X G a15 l15 c15 k15
  have D_cut : DefAt K mg "cut" s_cut := defAt_mk X G a16 l16 c16 k16
  have D_spoilt_by : DefAt K mg "spoilt_by" s_spoilt_by := defAt_mk X G a17 l17 c17 k17
  have D_losses : DefAt K mg "losses" s_losses := defAt_mk X G a18 l18 c18 k18
  have D_worst : DefAt K mg "worst" s_worst := defAt_mk X G a19 l19 c19 k19
  have D_by_state : DefAt K mg "by_state" s_by_state := defAt_mk X G a20 l20 c20 k20
  have D_written : DefAt K mg "written" s_written := defAt_mk X G a21 l21 c21 k21
  have D_read_tape : DefAt K mg "read_tape" s_read_tape := defAt_mk X G a22 l22 c22 k22
  have D_q_dice : DefAt K mg "_law_dice" s_q_dice := defAt_mk X G a23 l23 c23 k23
  have D_q_off : DefAt K mg "_law_off" s_q_off := defAt_mk X G a24 l24 c24 k24
  have D_q_alike : DefAt K mg "_law_alike" s_q_alike := defAt_mk X G a25 l25 c25 k25
  have D_q_mixed : DefAt K mg "_law_mixed" s_q_mixed := defAt_mk X G a26 l26 c26 k26
  have D_q_sets : DefAt K mg "_law_sets" s_q_sets := defAt_mk X G a27 l27 c27 k27
  have D_q_text : DefAt K mg "_law_text" s_q_text := defAt_mk X G a28 l28 c28 k28
  have D_q_tape : DefAt K mg "_law_tape" s_q_tape := defAt_mk X G a29 l29 c29 k29
  have D_q_asked : DefAt K mg "_law_asked" s_q_asked := defAt_mk X G a30 l30 c30 k30
  have c_MOST_SIGNS : ∃ t, mg "MOST_SIGNS" = some (.int 10 t) := ⟨t_MOST_SIGNS, PySem.W.mg_of X G v_MOST_SIGNS⟩
  have c_MOST_CODES : ∃ t, mg "MOST_CODES" = some (.int 200 t) := ⟨t_MOST_CODES, PySem.W.mg_of X G v_MOST_CODES⟩
  have c_MOST_SPOILT : ∃ t, mg "MOST_SPOILT" = some (.int 20 t) := ⟨t_MOST_SPOILT, PySem.W.mg_of X G v_MOST_SPOILT⟩
  have c_FIGURES : ∃ t, mg "FIGURES" = some (.str (tx [48, 49, 50, 51, 52, 53, 54, 55, 56, 57]) t) := ⟨t_FIGURES, PySem.W.mg_of X G v_FIGURES⟩
  have B : Bl mg := ⟨PySem.W.mg_none_of X G z_len, PySem.W.mg_none_of X G z_list, PySem.W.mg_none_of X G z_range, PySem.W.mg_none_of X G z_abs, PySem.W.mg_none_of X G z_int_, PySem.W.mg_none_of X G z_bool_, PySem.W.mg_none_of X G z_str_, PySem.W.mg_none_of X G z_isinstance, PySem.W.mg_none_of X G z_all, PySem.W.mg_none_of X G z_enumerate, PySem.W.mg_none_of X G z_max, PySem.W.mg_none_of X G z_min, PySem.W.mg_none_of X G z_set, PySem.W.mg_none_of X G z_sorted, PySem.W.mg_none_of X G z_tuple⟩
  have D_Writer_rest : DefAtM K CW "rest" "Writer.rest" s_Writer_rest := defAtM_mk a33 i33 l33 c33 k33
  have D_Writer_found : DefAtM K CW "found" "Writer.found" s_Writer_found := defAtM_mk a34 i34 l34 c34 k34
  have D_Writer_ahead : DefAtM K CW "ahead" "Writer.ahead" s_Writer_ahead := defAtM_mk a35 i35 l35 c35 k35
  have D_Writer_signed : DefAtM K CW "signed" "Writer.signed" s_Writer_signed := defAtM_mk a36 i36 l36 c36 k36
  have WT : WTxt K CW := ⟨⟨pg, hd, po, sa⟩, nf1, nf2, nf3, nf4⟩
  have F_Writer := fun_mk (st := s_Writer_init) l32 c32 k32
  have e := hfa.symm.trans (PySem.W.mg_of X G a31)
  cases e
  have F_law := fun_mk (st := s_law) l31 c31 k31
  refine ⟨PySem.W.fnOf "law" "law" (defArgs s_law) (defBody s_law) (defScope s_law) .none kV31 dc31 pm31 an31 cd31 ct31, fun s v => .of_eq rfl, fun base _ _ => ?_⟩
  have g_gone := pm_gone (P := l.prog) (w := w) (K := K) (mg := mg) (base := base) D_gone B
  have g_need_sets := pm_need_sets (P := l.prog) (w := w) (K := K) (mg := mg) (base := base) D_need_sets B c_MOST_SIGNS
  have g_need_tape := pm_need_tape (P := l.prog) (w := w) (K := K) (mg := mg) (base := base) D_need_tape B c_MOST_CODES
  have g_need_state := pm_need_state (P := l.prog) (w := w) (K := K) (mg := mg) (base := base) D_need_state
  have g_need_all := pm_need_all (P := l.prog) (w := w) (K := K) (mg := mg) (base := base) D_need_all g_need_sets g_need_tape g_need_state
  have g_read := pm_read (P := l.prog) (w := w) (K := K) (mg := mg) (base := base) D_read g_need_all g_gone
  have g_q_dice := pm_dice (P := l.prog) (w := w) (K := K) (mg := mg) (base := base) D_q_dice B
  have g_q_off := pm_off (P := l.prog) (w := w) (K := K) (mg := mg) (base := base) D_q_off B
  have g_q_mixed := pm_mixed (P := l.prog) (w := w) (K := K) (mg := mg) (base := base) D_q_mixed B g_q_off
  have g_q_tape := pm_tape (P := l.prog) (w := w) (K := K) (mg := mg) (base := base) D_q_tape B g_q_off
  have g_q_sets := pm_sets (P := l.prog) (w := w) (K := K) (mg := mg) (base := base) D_q_sets B g_q_off g_q_mixed
  have g_q_alike := pm_alike (P := l.prog) (w := w) (K := K) (mg := mg) (base := base) D_q_alike B 3
  have g_is_common := pm_common (P := l.prog) (w := w) (K := K) (mg := mg) (base := base) D_is_common B
  have g_trimmed := pm_trimmed (P := l.prog) (w := w) (K := K) (mg := mg) (base := base) D_trimmed B g_need_all g_is_common
  have g_q_text := pm_text (P := l.prog) (w := w) (K := K) (mg := mg) (base := base) D_q_text B g_q_off
  have g_shorter := pm_shorter (P := l.prog) (w := w) (K := K) (mg := mg) (base := base) D_shorter B
  have g_codes_of := pm_codes_of (P := l.prog) (w := w) (K := K) (mg := mg) (base := base) D_codes_of B
  have g_need_text := pm_need_text (P := l.prog) (w := w) (K := K) (mg := mg) (base := base) D_need_text B g_codes_of
  have g_unlike := pm_unlike (P := l.prog) (w := w) (K := K) (mg := mg) (base := base) D_unlike B
  have g_spoilt_by := pm_spoilt (P := l.prog) (w := w) (K := K) (mg := mg) (base := base) D_spoilt_by B g_gone g_unlike
  have g_losses := pm_losses (P := l.prog) (w := w) (K := K) (mg := mg) (base := base) D_losses B g_need_all g_spoilt_by
  have g_by_state := pm_by_state (P := l.prog) (w := w) (K := K) (mg := mg) (base := base) D_by_state B g_need_sets g_need_tape g_gone g_unlike
  have g_worst := pm_worst (P := l.prog) (w := w) (K := K) (mg := mg) (base := base) D_worst B g_losses
  have g_joined := pm_joined (P := l.prog) (w := w) (K := K) (mg := mg) (base := base) D_joined B g_need_sets g_need_tape g_gone
  have g_cut := pm_cut (P := l.prog) (w := w) (K := K) (mg := mg) (base := base) D_cut B g_need_sets g_need_tape g_gone
  have g_written := pm_written (P := l.prog) (w := w) (K := K) (mg := mg) (base := base) D_written B g_need_sets g_need_tape
  have g_read_tape := pm_read_tape (P := l.prog) (w := w) (K := K) (mg := mg) (base := base) D_read_tape B c_FIGURES g_need_sets g_need_tape
  have g_Writer := made_writer (P := l.prog) (w := w) (K := K) (mg := mg) (base := base) F_Writer WT mk a32 i32 kc (PySem.W.mg_of X G aC)
  have g_Writer_rest := rest_41 (P := l.prog) (w := w) (K := K) (mg := mg) (base := base) D_Writer_ahead D_Writer_rest D_Writer_found D_Writer_signed WT B g_codes_of g_is_common g_shorter
  have g_guarded_of := pm_guarded_of (P := l.prog) (w := w) (K := K) (mg := mg) (base := base) D_guarded_of WT.cl B g_Writer g_Writer_rest
  have g_least := pm_least (P := l.prog) (w := w) (K := K) (mg := mg) (base := base) D_least B g_need_sets g_need_text g_need_state g_guarded_of
  have g_guarded := pm_guarded (P := l.prog) (w := w) (K := K) (mg := mg) (base := base) D_guarded B c_MOST_SPOILT g_need_sets g_need_text g_need_state g_guarded_of
  have g_q_asked := pm_asked (P := l.prog) (w := w) (K := K) (mg := mg) (base := base) D_q_asked B g_read g_by_state g_worst g_written g_losses g_trimmed g_joined g_cut g_least g_guarded g_read_tape
  exact ok_law F_law B g_q_dice g_q_off g_q_sets g_q_tape g_q_text g_q_asked g_q_alike
end Sr
open PySem PySem.W PyProof.Rows
set_option maxRecDepth 100000 in
set_option maxHeartbeats 0 in
theorem PySem.Challenge.cw_shiftrow_k14_asked_again_holds : PySem.Challenge.rw_shiftrow_k14_asked_again.Holds := by
  w_on; o_law; k_head; (case hw => w_witness2)
  k_fill
  refine L2.walk_of (l := PySem.Challenge.rw_shiftrow_k14_asked_again) (n := 63) (k := 131) (x := "_law_script") (CX := fun _ => L2.CX0) (sp := fun w => Sr.spLaw _) rfl (by decide) rfl ⟨rfl, by decide, by decide⟩ (fun w h Y => PySem.W.kIn_of Y) ?F (fun _ _ a ns hl _ hS => ⟨a, ns, rfl, hS, hl, fun _ => rfl⟩) (fun _ _ _ _ _ h => h)
  case F =>
    intro w mg fa h KX G hmg
    refine' Sr.all_mk KX G hmg ?a0 ?l0 ?c0 ?k0 ?a1 ?l1 ?c1 ?k1 ?a2 ?l2 ?c2 ?k2 ?a3 ?l3 ?c3 ?k3 ?a4 ?l4 ?c4 ?k4 ?a5 ?l5 ?c5 ?k5 ?a6 ?l6 ?c6 ?k6 ?a7 ?l7 ?c7 ?k7 ?a8 ?l8 ?c8 ?k8 ?a9 ?l9 ?c9 ?k9 ?a10 ?l10 ?c10 ?k10 ?a11 ?l11 ?c11 ?k11 ?a12 ?l12 ?c12 ?k12 ?a13 ?l13 ?c13 ?k13 ?a14 ?l14 ?c14 ?k14 ?a15 ?l15 ?c15 ?k15 ?a16 ?l16 ?c16 ?k16 ?a17 ?l17 ?c17 ?k17 ?a18 ?l18 ?c18 ?k18 ?a19 ?l19 ?c19 ?k19 ?a20 ?l20 ?c20 ?k20 ?a21 ?l21 ?c21 ?k21 ?a22 ?l22 ?c22 ?k22 ?a23 ?l23 ?c23 ?k23 ?a24 ?l24 ?c24 ?k24 ?a25 ?l25 ?c25 ?k25 ?a26 ?l26 ?c26 ?k26 ?a27 ?l27 ?c27 ?k27 ?a28 ?l28 ?c28 ?k28 ?a29 ?l29 ?c29 ?k29 ?a30 ?l30 ?c30 ?k30 ?a31 ?l31 ?c31 ?k31 ?v_MOST_SIGNS ?v_MOST_CODES ?v_MOST_SPOILT ?v_FIGURES ?z_len ?z_list ?z_range ?z_abs ?z_int_ ?z_bool_ ?z_str_ ?z_isinstance ?z_all ?z_enumerate ?z_max ?z_min ?z_set ?z_sorted ?z_tuple ?aC ?a32 ?i32 ?l32 ?c32 ?k32 ?a33 ?i33 ?l33 ?c33 ?k33 ?a34 ?i34 ?l34 ?c34 ?k34 ?a35 ?i35 ?l35 ?c35 ?k35 ?a36 ?i36 ?l36 ?c36 ?k36 ?pg ?hd ?po ?sa ?mk ?kc ?nf1 ?nf2 ?nf3 ?nf4
    (case a0 => k_is)
    (case l0 => k_is)
    (case c0 => k_is)
    (case k0 => k_is)
    (case a1 => k_is)
    (case l1 => k_is)
    (case c1 => k_is)
    (case k1 => k_is)
    (case a2 => k_is)
    (case l2 => k_is)
    (case c2 => k_is)
    (case k2 => k_is)
    (case a3 => k_is)
    (case l3 => k_is)
    (case c3 => k_is)
    (case k3 => k_is)
    (case a4 => k_is)
    (case l4 => k_is)
    (case c4 => k_is)
    (case k4 => k_is)
    (case a5 => k_is)
    (case l5 => k_is)
    (case c5 => k_is)
    (case k5 => k_is)
    (case a6 => k_is)
    (case l6 => k_is)
    (case c6 => k_is)
    (case k6 => k_is)
    (case a7 => k_is)
    (case l7 => k_is)
    (case c7 => k_is)
    (case k7 => k_is)
    (case a8 => k_is)
    (case l8 => k_is)
    (case c8 => k_is)
    (case k8 => k_is)
    (case a9 => k_is)
    (case l9 => k_is)
    (case c9 => k_is)
    (case k9 => k_is)
    (case a10 => k_is)
    (case l10 => k_is)
    (case c10 => k_is)
    (case k10 => k_is)
    (case a11 => k_is)
    (case l11 => k_is)
    (case c11 => k_is)
    (case k11 => k_is)
    (case a12 => k_is)
    (case l12 => k_is)
    (case c12 => k_is)
    (case k12 => k_is)
    (case a13 => k_is)
    (case l13 => k_is)
    (case c13 => k_is)
    (case k13 => k_is)
    (case a14 => k_is)
    (case l14 => k_is)
    (case c14 => k_is)
    (case k14 => k_is)
    (case a15 => k_is)
    (case l15 => k_is)
    (case c15 => k_is)
    (case k15 => k_is)
    (case a16 => k_is)
    (case l16 => k_is)
    (case c16 => k_is)
    (case k16 => k_is)
    (case a17 => k_is)
    (case l17 => k_is)
    (case c17 => k_is)
    (case k17 => k_is)
    (case a18 => k_is)
    (case l18 => k_is)
    (case c18 => k_is)
    (case k18 => k_is)
    (case a19 => k_is)
    (case l19 => k_is)
    (case c19 => k_is)
    (case k19 => k_is)
    (case a20 => k_is)
    (case l20 => k_is)
    (case c20 => k_is)
    (case k20 => k_is)
    (case a21 => k_is)
    (case l21 => k_is)
    (case c21 => k_is)
    (case k21 => k_is)
    (case a22 => k_is)
    (case l22 => k_is)
    (case c22 => k_is)
    (case k22 => k_is)
    (case a23 => k_is)
    (case l23 => k_is)
    (case c23 => k_is)
    (case k23 => k_is)
    (case a24 => k_is)
    (case l24 => k_is)
    (case c24 => k_is)
    (case k24 => k_is)
    (case a25 => k_is)
    (case l25 => k_is)
    (case c25 => k_is)
    (case k25 => k_is)
    (case a26 => k_is)
    (case l26 => k_is)
    (case c26 => k_is)
    (case k26 => k_is)
    (case a27 => k_is)
    (case l27 => k_is)
    (case c27 => k_is)
    (case k27 => k_is)
    (case a28 => k_is)
    (case l28 => k_is)
    (case c28 => k_is)
    (case k28 => k_is)
    (case a29 => k_is)
    (case l29 => k_is)
    (case c29 => k_is)
    (case k29 => k_is)
    (case a30 => k_is)
    (case l30 => k_is)
    (case c30 => k_is)
    (case k30 => k_is)
    (case a31 => k_is)
    (case l31 => k_is)
    (case c31 => k_is)
    (case k31 => k_is)
    (case v_MOST_SIGNS => k_is)
    (case v_MOST_CODES => k_is)
    (case v_MOST_SPOILT => k_is)
    (case v_FIGURES => k_is)
    (case z_len => k_is)
    (case z_list => k_is)
    (case z_range => k_is)
    (case z_abs => k_is)
    (case z_int_ => k_is)
    (case z_bool_ => k_is)
    (case z_str_ => k_is)
    (case z_isinstance => k_is)
    (case z_all => k_is)
    (case z_enumerate => k_is)
    (case z_max => k_is)
    (case z_min => k_is)
    (case z_set => k_is)
    (case z_sorted => k_is)
    (case z_tuple => k_is)
    (case aC => k_is)
    (case a32 => k_is)
    (case i32 => k_is)
    (case l32 => k_is)
    (case c32 => k_is)
    (case k32 => k_is)
    (case a33 => k_is)
    (case i33 => k_is)
    (case l33 => k_is)
    (case c33 => k_is)
    (case k33 => k_is)
    (case a34 => k_is)
    (case i34 => k_is)
    (case l34 => k_is)
    (case c34 => k_is)
    (case k34 => k_is)
    (case a35 => k_is)
    (case i35 => k_is)
    (case l35 => k_is)
    (case c35 => k_is)
    (case k35 => k_is)
    (case a36 => k_is)
    (case i36 => k_is)
    (case l36 => k_is)
    (case c36 => k_is)
    (case k36 => k_is)
    (case pg => k_is)
    (case hd => k_is)
    (case po => k_is)
    (case sa => k_is)
    (case mk => k_is)
    (case kc => k_is)
    (case nf1 => k_is)
    (case nf2 => k_is)
    (case nf3 => k_is)
    (case nf4 => k_is)
