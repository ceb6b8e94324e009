import PyProof.Rows.All
import Wide.All
import OpenK.AllK
import Wide.FinOn
import KE.KDictZip
import KE.GoesZip
import KE.GoesMore
import KE.KDictItemsList
import HandS.Base
import HandS.Call
import HandS.List
import HandS.Comp
import HandS.Text
import HandS.IsInst
import HandS.Flow
import HandS.Style
import HandS.Star
import HandS.TupAny
import HandS.TupMul
import HandS.Deep
import HandS.Walk
import HandS.Zip
import HandS.Words
import HandS.WordsExc
import HandS.CallSlots
import KE.DataEq
import HandS.ExcValue
import HandS.Defaults
import HandS.HeadHook1
import HandS.HeadHook2
import HandS.HeadEnd
import KE.KStateDown
import Lean
import HandS.Ends
import HandS.More
import HandS.Head0
import HandS.Head1
import HandS.Head2
import PySem.Challenge.RW_slipschool_k01_forms_of_sums_tests_and_n
set_option Elab.async false
set_option linter.all false
set_option maxRecDepth 100000
set_option maxHeartbeats 4000000
namespace PyZ
open PySem PySem.Calls PyProof.Rows PyProof.V PySem.Spec PySem.W
/-! list(zip(a, b)) -/
theorem zip_no_len : typeLookup (.type "zip") "__len__" = pure none := am_miss_of_fast (by decide +kernel)
theorem zip_no_hint : typeLookup (.type "zip") "__length_hint__" = pure none := am_miss_of_fast (by decide +kernel)
section
variable {prog : Program} {w : World} {A : Around} {E : Value → Shared → Prop} {s : Shared} {z TI TO i1 i2 T : Addr} {f : Bool} {oT : Obj} {fp1 fp2 : List Addr} {n1 n2 i : Nat} {P1 P2 : Nat → Value → Prop} {St1 St2 : Nat → Heap → Prop}
theorem zipH_item {Q : Value → Shared → Prop} (S : ZipSep2 z TI TO i1 i2 fp1 fp2) (D1 : Draws prog w A i1 fp1 n1 P1 St1) (D2 : Draws prog w A i2 fp2 n2 P2 St2)
    (hz : IsZipHeld s.heap z TI TO T f) (hT : s.heap.get? T = some oT) (hTI : IsTupOf2 s.heap TI (.ref i1) (.ref i2)) (st1 : St1 i s.heap) (st2 : St2 i s.heap) (hlt1 : i < n1) (hlt2 : i < n2)
    (hQ : ∀ x1 x2 h' tk, P1 i x1 → P2 i x2 → IsZipHeld h' z TI TO T true → St1 (i + 1) h' → St2 (i + 1) h' → IsTupOf2 h' s.heap.objs.size x1 x2 → h'.objs.size = s.heap.objs.size + 1 →
      (∀ c o, c ≠ z → c ≠ i1 → c ≠ i2 → s.heap.get? c = some o → h'.get? c = some o) → Q (.ref s.heap.objs.size) { s with heap := h', toks := tk }) :
    wpAny (model prog w) A (Builtin.«zip.__next__» ⟨[.ref z], []⟩) (fun fin s' => ∃ v, fin = .done (.ret v) ∧ Q v s') E s := by
  obtain ⟨hp, g, d, tk0, os⟩ := s
  show wpAny _ _ (field (.ref z) 2 >>= _) _ _ _
  refine wpAny_bind (wpAny_field hz rfl (x := .bool false) rfl ?_)
  show wpAny _ _ (field (.ref z) 3 >>= _) _ _ _
  refine wpAny_bind (wpAny_field hz rfl (x := .ref TI) rfl ?_)
  refine wpAny_bind (wpAny_seqItems hTI rfl ?_)
  show wpAny _ _ (Builtin.SmallTypes.ownedTupleIsFree (.ref z) >>= _) _ _ _
  refine wpAny_bind (wpAny_tupleHeld_zip hz hT fun g0 hz0 hs0 => ?_)
  replace hs0 : Heap.SameBut z hp g0 := hs0
  simp only [Bool.false_eq_true, if_false]
  refine wpAny_bind ?_
  rw [← Array.forIn_toList]
  simp only [List.forIn_cons, List.forIn_nil]
  refine wpAny_bind (wpAny_bind (wpAny_holding ?_))
  show wpAny _ _ (Builtin.SmallTypes.nextOf (.ref i1) >>= _) _ _ ⟨g0, g, d, tk0, os⟩
  refine wpAny_bind (D1.item i _ _ _ hlt1 (D1.over st1 hs0 S.zf1) fun x1 p1 tk1 hx1 sn1 hp1 => wpAny_pure ?_)
  replace hp1 : Heap.SameBut i1 g0 p1 := hp1
  refine wpAny_pure ?_
  refine wpAny_bind (wpAny_bind (wpAny_holding ?_))
  show wpAny _ _ (Builtin.SmallTypes.nextOf (.ref i2) >>= _) _ _ ⟨p1, g, d, tk1, os⟩
  refine wpAny_bind (D2.item i _ _ _ hlt2 (D2.over (D2.over st2 hs0 S.zf2) hp1 S.sep1_2) fun x2 p2 tk2 hx2 sn2 hp2 => wpAny_pure ?_)
  replace hp2 : Heap.SameBut i2 p1 p2 := hp2
  refine wpAny_pure (wpAny_pure ?_)
  show wpAny _ _ (newTuple [x1, x2] >>= _) _ _ ⟨p2, g, d, tk2, os⟩
  refine wpAny_bind (wpAny_newTuple ?_)
  have hsz : p2.objs.size = hp.objs.size := by rw [hp2.1, hp1.1, hs0.1]
  have hzz : IsZipHeld p2 z TI TO T true := hp2.extBut _ _ S.zi2 (hp1.extBut _ _ S.zi1 hz0)
  have hkk : ∀ c o, c ≠ z → c ≠ i1 → c ≠ i2 → hp.get? c = some o → p2.get? c = some o := fun c o cz c1 c2 e => hp2.extBut _ _ c2 (hp1.extBut _ _ c1 (hs0.extBut _ _ cz e))
  refine wpAny_pure ⟨_, rfl, ?_⟩
  show Q (.ref p2.objs.size) ⟨p2.push { cls := .type "tuple", data := .seq #[x1, x2] }, g, d, tk2, os⟩
  have hq : IsTupOf2 (p2.push { cls := .type "tuple", data := .seq #[x1, x2] }) p2.objs.size x1 x2 := Heap.get?_push_size _ rfl
  have hz4 : (p2.push { cls := .type "tuple", data := .seq #[x1, x2] }).objs.size = p2.objs.size + 1 := Heap.size_push ..
  have up : ∀ c o, p2.get? c = some o → (p2.push { cls := .type "tuple", data := .seq #[x1, x2] }).get? c = some o := fun c o e => Heap.get?_push_of_some _ e
  rw [hsz] at hq hz4 ⊢
  exact hQ x1 x2 _ tk2 hx1 hx2 (up _ _ hzz) (D1.frame _ _ _ (D1.over sn1 hp2 S.sep2_1) fun b hb o e => up b o e) (D2.frame _ _ _ sn2 fun b hb o e => up b o e) hq hz4 fun c o cz c1 c2 e => up c o (hkk c o cz c1 c2 e)
theorem zipH_end {Q : Fin → Shared → Prop} (S : ZipSep2 z TI TO i1 i2 fp1 fp2) (D1 : Draws prog w A i1 fp1 n1 P1 St1) (D2 : Draws prog w A i2 fp2 n2 P2 St2)
    (hz : IsZipHeld s.heap z TI TO T f) (hT : s.heap.get? T = some oT) (hTI : IsTupOf2 s.heap TI (.ref i1) (.ref i2)) (st1 : St1 i s.heap) (st2 : St2 i s.heap) (hle1 : i ≤ n1) (hle2 : i ≤ n2) (hend : i = n1 ∨ i = n2)
    (hE : ∀ h' tk e, (∀ c o, c ≠ z → c ≠ i1 → c ≠ i2 → s.heap.get? c = some o → h'.get? c = some o) → (∃ o, h'.get? e = some o ∧ o.cls = .type "StopIteration") → E (.ref e) { s with heap := h', toks := tk }) :
    wpAny (model prog w) A (Builtin.«zip.__next__» ⟨[.ref z], []⟩) Q E s := by
  obtain ⟨hp, g, d, tk0, os⟩ := s
  show wpAny _ _ (field (.ref z) 2 >>= _) _ _ _
  refine wpAny_bind (wpAny_field hz rfl (x := .bool false) rfl ?_)
  show wpAny _ _ (field (.ref z) 3 >>= _) _ _ _
  refine wpAny_bind (wpAny_field hz rfl (x := .ref TI) rfl ?_)
  refine wpAny_bind (wpAny_seqItems hTI rfl ?_)
  show wpAny _ _ (Builtin.SmallTypes.ownedTupleIsFree (.ref z) >>= _) _ _ _
  refine wpAny_bind (wpAny_tupleHeld_zip hz hT fun g0 hz0 hs0 => ?_)
  replace hs0 : Heap.SameBut z hp g0 := hs0
  simp only [Bool.false_eq_true, if_false]
  refine wpAny_bind ?_
  rw [← Array.forIn_toList]
  simp only [List.forIn_cons, List.forIn_nil]
  refine wpAny_bind (wpAny_bind (wpAny_holding ?_))
  show wpAny _ _ (Builtin.SmallTypes.nextOf (.ref i1) >>= _) _ _ ⟨g0, g, d, tk0, os⟩
  by_cases hlt1 : i < n1
  · refine wpAny_bind (D1.item i _ _ _ hlt1 (D1.over st1 hs0 S.zf1) fun x1 p1 tk1 hx1 sn1 hp1 => wpAny_pure ?_)
    replace hp1 : Heap.SameBut i1 g0 p1 := hp1
    refine wpAny_pure ?_
    have hi2 : i = n2 := by omega
    refine wpAny_bind (wpAny_bind (wpAny_holding ?_))
    show wpAny _ _ (Builtin.SmallTypes.nextOf (.ref i2) >>= _) _ _ ⟨p1, g, d, tk1, os⟩
    refine wpAny_bind (D2.done ⟨p1, g, d, tk1, os⟩ _ _ (by rw [← hi2]; exact (D2.over (D2.over st2 hs0 S.zf2) hp1 S.sep1_2)) fun q e hq he => ?_)
    replace hq : Heap.ExtBut i2 p1 q := hq
    exact hE q tk1 e (fun c o cz c1 c2 x => hq _ _ c2 (hp1.extBut _ _ c1 (hs0.extBut _ _ cz x))) he
  · have hi1 : i = n1 := by omega
    refine wpAny_bind (D1.done ⟨g0, g, d, tk0, os⟩ _ _ (by rw [← hi1]; exact (D1.over st1 hs0 S.zf1)) fun q e hq he => ?_)
    replace hq : Heap.ExtBut i1 g0 q := hq
    exact hE q tk0 e (fun c o cz c1 c2 x => hq _ _ c1 (hs0.extBut _ _ cz x)) he
theorem nextH_item {Q : Option Value → Shared → Prop} (S : ZipSep2 z TI TO i1 i2 fp1 fp2) (D1 : Draws prog w A.in1 i1 fp1 n1 P1 St1) (D2 : Draws prog w A.in1 i2 fp2 n2 P2 St2)
    (hz : IsZipHeld s.heap z TI TO T f) (hT : s.heap.get? T = some oT) (hTI : IsTupOf2 s.heap TI (.ref i1) (.ref i2)) (st1 : St1 i s.heap) (st2 : St2 i s.heap) (hlt1 : i < n1) (hlt2 : i < n2)
    (hQ : ∀ x1 x2 h' tk, P1 i x1 → P2 i x2 → IsZipHeld h' z TI TO T true → St1 (i + 1) h' → St2 (i + 1) h' → IsTupOf2 h' s.heap.objs.size x1 x2 → h'.objs.size = s.heap.objs.size + 1 →
      (∀ c o, c ≠ z → c ≠ i1 → c ≠ i2 → s.heap.get? c = some o → h'.get? c = some o) → Q (some (.ref s.heap.objs.size)) { s with heap := h', toks := tk }) :
    wpAny (model prog w) A (pyNext (.ref z)) Q E s := by
  have hTy : s.TypeIs (.ref z) "zip" := ⟨_, hz, rfl⟩
  unfold pyNext
  exact wpAny_bind (wpAny_attempt (wpAny_callSpecial?_slot (name := Str.ofString "__next__") hTy F.slot_zip_next
    (wpAny_call_entry F.slot_zip_next hTy F.entry_zip_next
      (zipH_item S D1 D2 hz hT hTI st1 st2 hlt1 hlt2 fun x1 x2 h' tk a1 a2 a3 a4 a5 a6 a7 a8 => wpAny_pure (hQ x1 x2 h' tk a1 a2 a3 a4 a5 a6 a7 a8)) (F.args_zip_next_1 _))))
theorem nextH_end {Q : Option Value → Shared → Prop} (S : ZipSep2 z TI TO i1 i2 fp1 fp2) (D1 : Draws prog w A.in1 i1 fp1 n1 P1 St1) (D2 : Draws prog w A.in1 i2 fp2 n2 P2 St2)
    (hz : IsZipHeld s.heap z TI TO T f) (hT : s.heap.get? T = some oT) (hTI : IsTupOf2 s.heap TI (.ref i1) (.ref i2)) (st1 : St1 i s.heap) (st2 : St2 i s.heap) (hle1 : i ≤ n1) (hle2 : i ≤ n2) (hend : i = n1 ∨ i = n2)
    (hQ : ∀ h' tk, (∀ c o, c ≠ z → c ≠ i1 → c ≠ i2 → s.heap.get? c = some o → h'.get? c = some o) → Q none { s with heap := h', toks := tk }) : wpAny (model prog w) A (pyNext (.ref z)) Q E s := by
  have hTy : s.TypeIs (.ref z) "zip" := ⟨_, hz, rfl⟩
  unfold pyNext
  refine wpAny_bind (wpAny_attempt (wpAny_callSpecial?_slot (name := Str.ofString "__next__") hTy F.slot_zip_next
    (wpAny_call_entry F.slot_zip_next hTy F.entry_zip_next (zipH_end S D1 D2 hz hT hTI st1 st2 hle1 hle2 hend fun h' tk e hk he => ?_) (F.args_zip_next_1 _))))
  obtain ⟨o, ho, hc⟩ := he
  refine wpAny_bind (wpAny_isInstance (T := "StopIteration") (b := true) ⟨o, ho, hc⟩ isSubtype_stop ?_)
  exact wpAny_pure (hQ _ _ hk)
/-- the zip amid its turns; N0: what it gives out lies from there on -/
structure ZS (z TI TO i1 i2 N0 : Addr) (St1 St2 : Nat → Heap → Prop) (i : Nat) (h : Heap) : Prop where
  s1 : St1 i h
  s2 : St2 i h
  ti : IsTupOf2 h TI (.ref i1) (.ref i2)
  zz : (IsZip h z TI TO .none ∧ ∃ a1 a2, IsTupOf2 h TO a1 a2) ∨ ∃ (T : Addr) (f : Bool) (o : Obj), IsZipHeld h z TI TO T f ∧ h.get? T = some o ∧ N0 ≤ T
theorem ZS.lt {z TI TO i1 i2 N0 : Addr} {i : Nat} {h : Heap} (Z : ZS z TI TO i1 i2 N0 St1 St2 i h) : h.get? z ≠ none := by
  rcases Z.zz with ⟨e, _⟩ | ⟨_, _, _, e, _⟩ <;> rw [e] <;> simp
theorem next_item {N0 : Addr} {Q : Option Value → Shared → Prop} (S : ZipSep2 z TI TO i1 i2 fp1 fp2) (D1 : Draws prog w A.in1 i1 fp1 n1 P1 St1) (D2 : Draws prog w A.in1 i2 fp2 n2 P2 St2)
    (Z : ZS z TI TO i1 i2 N0 St1 St2 i s.heap) (hN : N0 ≤ s.heap.objs.size) (hz : z < N0) (h1 : i1 < N0) (h2 : i2 < N0) (hlt1 : i < n1) (hlt2 : i < n2)
    (hQ : ∀ x1 x2 h' tk, P1 i x1 → P2 i x2 → ZS z TI TO i1 i2 N0 St1 St2 (i + 1) h' → IsTupOf2 h' s.heap.objs.size x1 x2 → h'.objs.size = s.heap.objs.size + 1 →
      (∀ c o, c ≠ z → c ≠ TO → c ≠ i1 → c ≠ i2 → s.heap.get? c = some o → h'.get? c = some o) → Q (some (.ref s.heap.objs.size)) { s with heap := h', toks := tk }) :
    wpAny (model prog w) A (pyNext (.ref z)) Q E s := by
  rcases Z.zz with ⟨hz0, a1, a2, hTO⟩ | ⟨T, f, o, hz0, hT, hge⟩
  · refine wpAny_pyNext_zipD2_item S D1 D2 hz0 Z.ti hTO Z.s1 Z.s2 hlt1 hlt2 fun x1 x2 h' tk p1 p2 q1 q2 q3 q4 q5 q6 q7 => ?_
    refine hQ x1 x2 h' tk p1 p2 ⟨q3, q4, q7 _ _ S.TIz S.TITO S.TIi1 S.TIi2 Z.ti, .inr ⟨_, false, _, q1, q5, hN⟩⟩ q5 q6 q7
  · refine nextH_item S D1 D2 hz0 hT Z.ti Z.s1 Z.s2 hlt1 hlt2 fun x1 x2 h' tk p1 p2 q1 q3 q4 q5 q6 q7 => ?_
    refine hQ x1 x2 h' tk p1 p2 ⟨q3, q4, q7 _ _ S.TIz S.TIi1 S.TIi2 Z.ti, .inr ⟨T, true, o, q1, q7 _ _ ?_ ?_ ?_ hT, hge⟩⟩ q5 q6 fun c o cz _ c1 c2 e => q7 c o cz c1 c2 e
    · exact fun e => absurd (e ▸ hge) (Nat.not_le.mpr hz)
    · exact fun e => absurd (e ▸ hge) (Nat.not_le.mpr h1)
    · exact fun e => absurd (e ▸ hge) (Nat.not_le.mpr h2)
theorem next_end {N0 : Addr} {Q : Option Value → Shared → Prop} (S : ZipSep2 z TI TO i1 i2 fp1 fp2) (D1 : Draws prog w A.in1 i1 fp1 n1 P1 St1) (D2 : Draws prog w A.in1 i2 fp2 n2 P2 St2)
    (Z : ZS z TI TO i1 i2 N0 St1 St2 i s.heap) (hle1 : i ≤ n1) (hle2 : i ≤ n2) (hend : i = n1 ∨ i = n2)
    (hQ : ∀ h' tk, (∀ c o, c ≠ z → c ≠ TO → c ≠ i1 → c ≠ i2 → s.heap.get? c = some o → h'.get? c = some o) → Q none { s with heap := h', toks := tk }) :
    wpAny (model prog w) A (pyNext (.ref z)) Q E s := by
  rcases Z.zz with ⟨hz0, a1, a2, hTO⟩ | ⟨T, f, o, hz0, hT, hge⟩
  · exact wpAny_pyNext_zipD2_end S D1 D2 hz0 Z.ti hTO Z.s1 Z.s2 hle1 hle2 hend hQ
  · exact nextH_end S D1 D2 hz0 hT Z.ti Z.s1 Z.s2 hle1 hle2 hend fun h' tk hk => hQ h' tk fun c o cz _ c1 c2 e => hk c o cz c1 c2 e
theorem ZS.frame {N0 SS : Addr} {h h' : Heap} (S : ZipSep2 z TI TO i1 i2 fp1 fp2) (D1 : Draws prog w A i1 fp1 n1 P1 St1) (D2 : Draws prog w A i2 fp2 n2 P2 St2) (Z : ZS z TI TO i1 i2 N0 St1 St2 i h)
    (k : ∀ b o, b ≠ SS → h.get? b = some o → h'.get? b = some o) (n0 : SS < N0) (n1' : SS ≠ z) (n2' : SS ≠ TI) (n3 : SS ≠ TO) (n4 : SS ∉ fp1) (n5 : SS ∉ fp2) : ZS z TI TO i1 i2 N0 St1 St2 i h' := by
  refine ⟨D1.frame _ _ _ Z.s1 fun b hb o e => k b o (fun q => n4 (q ▸ hb)) e, D2.frame _ _ _ Z.s2 fun b hb o e => k b o (fun q => n5 (q ▸ hb)) e, k _ _ n2'.symm Z.ti, ?_⟩
  rcases Z.zz with ⟨hz0, a1, a2, hTO⟩ | ⟨T, f, o, hz0, hT, hge⟩
  · exact .inl ⟨k _ _ n1'.symm hz0, a1, a2, k _ _ n3.symm hTO⟩
  · exact .inr ⟨T, f, o, k _ _ n1'.symm hz0, k _ _ (fun q => absurd (q ▸ hge) (Nat.not_le.mpr n0)) hT, hge⟩
/-- the pairs that were given out -/
structure ZG (P1 P2 : Nat → Value → Prop) (N0 : Addr) (h : Heap) (as : List Addr) : Prop where
  rise : as.Pairwise (· < ·)
  above : ∀ a ∈ as, N0 ≤ a
  pairs : ∀ (j : Nat) (a : Addr), as[j]? = some a → ∃ x y, P1 j x ∧ P2 j y ∧ IsTupOf2 h a x y
theorem ZG.there {N0 : Addr} {h : Heap} {as : List Addr} (g : ZG P1 P2 N0 h as) {a : Addr} (ha : a ∈ as) : a < h.objs.size := by
  obtain ⟨j, hj⟩ := List.mem_iff_getElem?.mp ha
  obtain ⟨_, _, _, _, e⟩ := g.pairs j a hj
  exact Heap.lt_size e
end
section
variable {prog : Program} {w : World} {A : Around} {s : Shared} {R : Result → Shared → Prop} {z TI TO i1 i2 SS N0 : Addr} {fp1 fp2 : List Addr} {n1 n2 n : Nat} {P1 P2 : Nat → Value → Prop} {St1 St2 : Nat → Heap → Prop}
theorem zil_loop (S : ZipSep2 z TI TO i1 i2 fp1 fp2) (D1 : Draws prog w A.in1.in1 i1 fp1 n1 P1 St1) (D2 : Draws prog w A.in1.in1 i2 fp2 n2 P2 St2) (hn : n = min n1 n2) (hn2 : n ≤ sizeLine)
    (b0 : SS < N0) (b1 : SS ≠ z) (b2 : SS ≠ TI) (b3 : SS ≠ TO) (b4 : SS ∉ fp1) (b5 : SS ∉ fp2) (bz : z < N0) (bo : TO < N0) (bi1 : i1 < N0) (bi2 : i2 < N0) (res : Value) {h₁ : Heap}
    (hR : ∀ h' tk acc c as, (∀ b o, b ≠ SS → b ≠ z → b ≠ TO → b ≠ i1 → b ≠ i2 → h₁.get? b = some o → h'.get? b = some o) → h'.get? SS = some { cls := .type "list", dict := none, data := .seq acc c, slots := #[] } → as.length = n → ZG P1 P2 N0 h' as →
      acc.toList = as.map Value.ref → R (.ok (.ret res)) { s with heap := h', toks := tk }) :
    ∀ (k i : Nat) (h : Heap) (tk c : Nat) (acc : Array Value) (as : List Addr), n - i = k → i ≤ n → ZS z TI TO i1 i2 N0 St1 St2 i h → N0 ≤ h.objs.size → (∀ b o, b ≠ SS → b ≠ z → b ≠ TO → b ≠ i1 → b ≠ i2 → h₁.get? b = some o → h.get? b = some o) →
      h.get? SS = some { cls := .type "list", dict := none, data := .seq acc c, slots := #[] } → acc.toList = as.map Value.ref → as.length = i → ZG P1 P2 N0 h as →
      codeAny (model prog w) A (.builtin "list.extend.loop" ⟨[.ref SS, .ref z, res], []⟩) R { s with heap := h, toks := tk } := by
  have c1 : SS ≠ i1 := fun e => b4 (e ▸ S.mem1)
  have c2 : SS ≠ i2 := fun e => b5 (e ▸ S.mem2)
  intro k
  induction k with
  | zero =>
    intro i h tk c acc as hk hi hst hD hkeep hS hacc hal hG
    refine codeAny_builtin PySem.F.entry_extend_loop ?_
    rw [Around.under_plainId PySem.F.plain_extend_loop _]
    show wpAny _ A.in1 (pyNext (.ref z) >>= _) _ _ _
    refine wpAny_bind (next_end (s := { s with heap := h, toks := tk }) (A := A.in1) S D1 D2 hst (by omega) (by omega) (by omega) fun h' tk' he => ?_)
    refine wpAny_pure (hR h' tk' acc c as (fun b o d1 d2 d3 d4 d5 e => he b o d2 d3 d4 d5 (hkeep b o d1 d2 d3 d4 d5 e)) (he SS _ b1 b3 c1 c2 hS) (by omega) ⟨hG.rise, hG.above, fun j a hj => ?_⟩ hacc)
    obtain ⟨x, y, p1, p2, e3⟩ := hG.pairs j a hj
    have ha := hG.above a (List.mem_of_getElem? hj)
    have hb : ∀ b : Addr, b < N0 → a ≠ b := fun b hb e => absurd (e ▸ ha) (Nat.not_le.mpr hb)
    exact ⟨x, y, p1, p2, he a _ (hb _ bz) (hb _ bo) (hb _ bi1) (hb _ bi2) e3⟩
  | succ k ih =>
    intro i h tk c acc as hk hi hst hD hkeep hS hacc hal hG
    have hsz : acc.size = i := by rw [← Array.length_toList, hacc, List.length_map, hal]
    refine codeAny_builtin PySem.F.entry_extend_loop ?_
    rw [Around.under_plainId PySem.F.plain_extend_loop _]
    show wpAny _ A.in1 (pyNext (.ref z) >>= _) _ _ _
    refine wpAny_bind (next_item (s := { s with heap := h, toks := tk }) (A := A.in1) S D1 D2 hst hD bz bi1 bi2 (by omega) (by omega) fun x y h' tk' p1 p2 hst' ht hz hkp => ?_)
    dsimp only at ht hz hkp ⊢
    have hS' := hkp SS _ b1 b3 c1 c2 hS
    have up : ∀ b o, b ≠ SS → h'.get? b = some o → (h'.update SS (Obj.mapSeq (·.push (Value.ref h.objs.size)))).get? b = some o := fun b o hb e => (Heap.get?_update_other _ _ (Ne.symm hb)).trans e
    have hSl : SS < h.objs.size := Heap.lt_size hS
    have hab : ∀ a : Addr, N0 ≤ a → ∀ b : Addr, b < N0 → a ≠ b := fun a ha b hb e => absurd (e ▸ ha) (Nat.not_le.mpr hb)
    have ht2 := up h.objs.size _ (Nat.ne_of_gt hSl) ht
    show wpAny _ A.in1 (updateSeq SS (·.push (Value.ref h.objs.size)) >>= _) _ _ _
    refine wpAny_bind ?_
    refine wpAny_updateSeq hS' rfl (wpAny_pure ⟨plainId_quiet PySem.F.plain_extend_loop _, ih (i + 1) _ tk' _ (acc.push (Value.ref h.objs.size)) (as ++ [h.objs.size]) (by omega) (by omega) (hst'.frame S D1 D2 up b0 b1 b2 b3 b4 b5) (Nat.le_trans hD (Nat.le_of_lt (Heap.lt_size ht2)))
      (fun b o d1 d2 d3 d4 d5 e => up b o d1 (hkp b o d2 d3 d4 d5 (hkeep b o d1 d2 d3 d4 d5 e))) (Heap.get?_update_self _ hS' rfl) (by rw [Array.toList_push, hacc, List.map_append]; rfl) (by rw [List.length_append, hal]; rfl) ⟨?_, ?_, ?_⟩⟩) (by rw [hsz]; omega) (by show (acc.push (Value.ref h.objs.size)).size ≤ sizeLine + 1; rw [Array.size_push, hsz]; omega)
    · refine List.pairwise_append.mpr ⟨hG.rise, List.pairwise_singleton _ _, fun a ha b hb => ?_⟩
      rw [List.mem_singleton.mp hb]
      exact hG.there ha
    · intro a ha
      rcases List.mem_append.mp ha with ha | ha
      · exact hG.above a ha
      · rw [List.mem_singleton.mp ha]; exact hD
    · intro j b hj
      rcases Nat.lt_trichotomy j as.length with h1 | h1 | h1
      · rw [List.getElem?_append_left h1] at hj
        obtain ⟨x', y', q1, q2, e3⟩ := hG.pairs j b hj
        have hb := hG.above b (List.mem_of_getElem? hj)
        exact ⟨x', y', q1, q2, up b _ (hab b hb _ b0) (hkp b _ (hab b hb _ bz) (hab b hb _ bo) (hab b hb _ bi1) (hab b hb _ bi2) e3)⟩
      · subst h1
        have hb : h.objs.size = b := by simpa using hj
        subst hb
        exact ⟨x, y, by rw [hal]; exact p1, by rw [hal]; exact p2, ht2⟩
      · have hnone : (as ++ [h.objs.size])[j]? = none := List.getElem?_eq_none (by rw [List.length_append, List.length_singleton]; omega)
        rw [hnone] at hj; cases hj
end
end PyZ

set_option maxRecDepth 100000
set_option maxHeartbeats 4000000
namespace PyZ
open PySem PySem.Calls PyProof.Rows PyProof.V PySem.Spec PySem.W
section
variable {prog : Program} {w : World} {A : Around} {E : Value → Shared → Prop} {s : Shared} {z TI TO i1 i2 : Addr} {fp1 fp2 : List Addr} {n1 n2 n : Nat} {P1 P2 : Nat → Value → Prop} {St1 St2 : Nat → Heap → Prop}
abbrev DrawsA (prog : Program) (w : World) (it : Addr) (fp : List Addr) (n : Nat) (P : Nat → Value → Prop) (St : Nat → Heap → Prop) : Prop := ∀ A : Around, A.handled = none → Draws prog w A it fp n P St
theorem ZS.ty {N0 : Addr} {i : Nat} (Z : ZS z TI TO i1 i2 N0 St1 St2 i s.heap) : s.TypeIs (.ref z) "zip" := by
  rcases Z.zz with ⟨e, _⟩ | ⟨_, _, _, e, _⟩ <;> exact ⟨_, e, rfl⟩
theorem zil_call {N1 : Addr} {Q : Value → Shared → Prop} (hh : A.handled = none) (S : ZipSep2 z TI TO i1 i2 fp1 fp2) (D1 : DrawsA prog w i1 fp1 n1 P1 St1) (D2 : DrawsA prog w i2 fp2 n2 P2 St2) (hn : n = min n1 n2) (hn2 : n ≤ sizeLine)
    (Z : ZS z TI TO i1 i2 N1 St1 St2 0 s.heap) (hz0 : IsZip s.heap z TI TO .none) (hTO : ∃ a1 a2, IsTupOf2 s.heap TO a1 a2) (l1 : ∀ b ∈ fp1, b < s.heap.objs.size) (l2 : ∀ b ∈ fp2, b < s.heap.objs.size)
    (hQ : ∀ h' tk acc c as, (∀ b o, b ≠ z → b ≠ TO → b ≠ i1 → b ≠ i2 → s.heap.get? b = some o → h'.get? b = some o) → h'.get? s.heap.objs.size = some { cls := .type "list", dict := none, data := .seq acc c, slots := #[] } → as.length = n → ZG P1 P2 (s.heap.objs.size + 1) h' as →
      acc.toList = as.map Value.ref → Q (.ref s.heap.objs.size) { s with heap := h', toks := tk }) :
    wpAny (model prog w) A (call (.type "list") [.ref z]) Q E s := by
  have hzl : z < s.heap.objs.size := Heap.lt_size hz0
  have hTIl : TI < s.heap.objs.size := Heap.lt_size Z.ti
  obtain ⟨a1, a2, hTO⟩ := hTO
  have hTOl : TO < s.heap.objs.size := Heap.lt_size hTO
  have hi1 : i1 < s.heap.objs.size := l1 _ S.mem1
  have hi2 : i2 < s.heap.objs.size := l2 _ S.mem2
  refine callType_codes (Q₁ := fun obj s₁ => obj = .ref s.heap.objs.size ∧ s₁ = { s with heap := s.heap.push { cls := .type "list", data := .seq #[] } }) PySem.F.called_list (PySem.F.typeCall_list_1 _) PySem.F.entry_list_init
    (code_list_new _ ⟨rfl, rfl⟩) fun obj s₁ h₁ => ?_
  obtain ⟨rfl, rfl⟩ := h₁
  have hS : (s.heap.push { cls := .type "list", data := .seq #[] }).get? s.heap.objs.size = some { cls := .type "list", data := .seq #[] } := Heap.get?_push_size _ rfl
  refine ⟨⟨_, hS, rfl⟩, PySem.F.args_list_init_2 _ _, ?_⟩
  show wpAny _ A.in1.in1 (do let old ← Builtin.List.listItems (.ref s.heap.objs.size); Builtin.List.listUpdate (.ref s.heap.objs.size) (fun _ => #[]); letGo old.toList.reverse; Builtin.List.listExtendWith (.ref s.heap.objs.size) (.ref z) .none) _ _ _
  refine wpAny_bind ?_
  unfold Builtin.List.listItems
  refine wpAny_bind (wpAny_seqItems hS rfl (wpAny_pure ?_))
  show wpAny _ A.in1.in1 (updateSeq s.heap.objs.size (fun _ => #[]) >>= fun _ => letGo (#[] : Array Value).toList.reverse >>= fun _ => Builtin.List.listExtendWith (.ref s.heap.objs.size) (.ref z) .none) _ _ _
  refine wpAny_bind (wpAny_updateSeq hS rfl ?_)
  have hS2 := Heap.get?_update_self (Obj.mapSeq (fun _ => (#[] : Array Value))) hS rfl
  refine wpAny_bind (wpAny_letGo ?_)
  unfold Builtin.List.listExtendWith
  have up : ∀ (h : Heap) (f : Obj → Obj), (∀ b o, s.heap.get? b = some o → h.get? b = some o) → ∀ b o, s.heap.get? b = some o → (h.update s.heap.objs.size f).get? b = some o := fun h f q b o e =>
    (Heap.get?_update_other _ _ (Ne.symm (Nat.ne_of_lt (Heap.lt_size e)))).trans (q b o e)
  have k1 : ∀ b o, s.heap.get? b = some o → (s.heap.push { cls := .type "list", data := .seq #[] }).get? b = some o := fun b o e => Heap.get?_push_of_some _ e
  have k2 := up _ (Obj.mapSeq (fun _ => (#[] : Array Value))) k1
  have hSz : s.heap.objs.size ≠ z := Nat.ne_of_gt hzl
  refine wpAny_bind (wpAny_typeOf (T := "zip") ⟨_, k2 _ _ hz0, rfl⟩ ?_)
  have h1 : Builtin.List.listSameRef (.ref s.heap.objs.size) (.ref z) = false := by simp [Builtin.List.listSameRef, hSz]
  have h2 : (Value.type "zip" == Value.type "list") = false := by decide
  have h3 : (Value.type "zip" == Value.type "tuple") = false := by decide
  simp only [h1, h2, h3, Bool.or_false, Bool.false_eq_true, if_false]
  refine wpAny_bind (wpAny_pyIter_zip (s := { s with heap := _ }) (k2 _ _ hz0) ?_)
  refine wpAny_bind (wpAny_holding ?_)
  unfold Builtin.List.listLengthHint
  refine wpAny_bind (wpAny_specialOf (T := "zip") ⟨_, k2 _ _ hz0, rfl⟩ zip_no_len ?_)
  show wpAny _ A.in1.in1 (specialOf (Value.ref z) (Str.ofString "__length_hint__") >>= _) _ _ _
  refine wpAny_bind (wpAny_specialOf (T := "zip") ⟨_, k2 _ _ hz0, rfl⟩ zip_no_hint ?_)
  refine wpAny_pure ?_
  have fin : ∀ (h : Heap) (c₁ tk : Nat), (∀ b o, s.heap.get? b = some o → h.get? b = some o) → h.get? s.heap.objs.size = some { cls := .type "list", data := .seq #[] c₁ } →
      codeAny (model prog w) A.in1 (.builtin "list.extend.loop" ⟨[.ref s.heap.objs.size, .ref z, .none], []⟩) (wants (fun r s₂ => r = Value.none ∧ Q (.ref s.heap.objs.size) s₂) E) { s with heap := h, toks := tk } := by
    intro h c₁ tk hk hS₁
    have hlt : s.heap.objs.size < h.objs.size := Heap.lt_size hS₁
    refine zil_loop (s := s) (A := A.in1) (h₁ := h) (N0 := s.heap.objs.size + 1) S (D1 _ hh) (D2 _ hh) hn hn2 (Nat.lt_succ_self _) hSz (Nat.ne_of_gt hTIl) (Nat.ne_of_gt hTOl) (fun q => Nat.lt_irrefl _ (l1 _ q)) (fun q => Nat.lt_irrefl _ (l2 _ q))
      (Nat.lt_succ_of_lt hzl) (Nat.lt_succ_of_lt hTOl) (Nat.lt_succ_of_lt hi1) (Nat.lt_succ_of_lt hi2) .none (fun h' tk' acc c as d1 d2 d3 d4 d5 => ⟨rfl, hQ h' tk' acc c as (fun b o q2 q3 q4 q5 e => d1 b o (Nat.ne_of_lt (Heap.lt_size e)) q2 q3 q4 q5 (hk b o e)) d2 d3 d4 d5⟩)
      n 0 h tk c₁ #[] [] (Nat.sub_zero _) (Nat.zero_le _) ⟨(D1 A hh).frame _ _ _ Z.s1 fun b _ o e => hk b o e, (D2 A hh).frame _ _ _ Z.s2 fun b _ o e => hk b o e, hk _ _ Z.ti, .inl ⟨hk _ _ hz0, a1, a2, hk _ _ hTO⟩⟩ hlt (fun b o _ _ _ _ _ e => e) hS₁ rfl rfl
      ⟨List.Pairwise.nil, (fun _ ha => nomatch ha), (fun j a hj => by simp at hj)⟩
  refine wpAny_ite_split (fun _ => ?_) (fun _ => wpAny_pure ⟨plainId_quiet PySem.F.plain_extend_loop _, fin _ _ _ k2 hS2⟩)
  refine wpAny_bind (wpAny_rule ?_)
  refine wpAny_bind ?_
  show wpAny _ _ (updateSeq s.heap.objs.size (·.push .none) >>= fun _ => updateSeq s.heap.objs.size (·.pop)) _ _ _
  refine wpAny_bind (wpAny_updateSeq hS2 rfl ?_)
  have hS3 := Heap.get?_update_self (Obj.mapSeq (·.push Value.none)) hS2 rfl
  refine wpAny_updateSeq (hz := by seq_fits) hS3 rfl ?_
  have hS4 := Heap.get?_update_self (Obj.mapSeq (·.pop)) hS3 rfl
  exact wpAny_pure ⟨plainId_quiet PySem.F.plain_extend_loop _, fin _ _ _ (up _ (Obj.mapSeq (·.pop)) (up _ (Obj.mapSeq (·.push Value.none)) k2)) hS4⟩
end
end PyZ

set_option maxRecDepth 100000
namespace PyI
open PySem PySem.Spec L2

/-! ## values as data -/
inductive D where
  | non | bl (b : Bool) | int (i : Int) | str (x : Str)
  | tup (ds : List D) | lst (ds : List D) | rol (ds : List D)
  | obj (r : Nat) | edic
  deriving Inhabited

/-- the most items of a list -/
abbrev SZ : Nat := 16777216

mutual
/-- data without references -/
def D.pure : D → Bool
  | .obj _ => false
  | .tup ds => pures ds
  | .lst ds => pures ds
  | .rol ds => pures ds
  | _ => true
def pures : List D → Bool
  | [] => true
  | d :: ds => d.pure && pures ds
end
mutual
/-- references below n alone -/
def D.lim (n : Nat) : D → Bool
  | .obj r => decide (r < n)
  | .tup ds => lims n ds
  | .lst ds => lims n ds
  | .rol ds => lims n ds
  | _ => true
def lims (n : Nat) : List D → Bool
  | [] => true
  | d :: ds => d.lim n && lims n ds
end
mutual
/-- what == may be asked of: its data -/
def D.py : D → Option PyData
  | .non => some .none
  | .bl b => some (.bool b)
  | .int i => some (.int i)
  | .str x => some (.str x)
  | .tup ds => match pys ds with | some xs => some (.tuple xs) | none => none
  | .lst ds => match pys ds with | some xs => some (.list xs) | none => none
  | _ => none
def pys : List D → Option (List PyData)
  | [] => some []
  | d :: ds => match d.py, pys ds with
    | some x, some xs => some (x :: xs)
    | _, _ => none
end
mutual
/-- Python's == of data -/
def D.eqv : D → D → Bool
  | .non, .non => true
  | .bl a, .bl b => a == b
  | .bl a, .int j => (if a then 1 else 0) == j
  | .int i, .bl b => i == (if b then 1 else 0)
  | .int i, .int j => i == j
  | .str x, .str y => x == y
  | .lst xs, .lst ys => eqvs xs ys
  | .tup xs, .tup ys => eqvs xs ys
  | _, _ => false
def eqvs : List D → List D → Bool
  | [], [] => true
  | x :: xs, y :: ys => x.eqv y && eqvs xs ys
  | _, _ => false
end
mutual
/-- data alone: what == may be asked of -/
def D.dat : D → Bool
  | .non => true
  | .bl _ => true
  | .int _ => true
  | .str _ => true
  | .tup ds => dats ds
  | .lst ds => dats ds
  | _ => false
def dats : List D → Bool
  | [] => true
  | d :: ds => d.dat && dats ds
end
mutual
/-- depth at most n -/
def D.flat : Nat → D → Bool
  | 0, .tup _ => false
  | 0, .lst _ => false
  | n + 1, .tup ds => flats n ds
  | n + 1, .lst ds => flats n ds
  | _, _ => true
def flats : Nat → List D → Bool
  | _, [] => true
  | n, d :: ds => d.flat n && flats n ds
end

/-! ## the store -/
inductive MO where
  | dead
  | lst (ds : List D)
  | ins (c : String) (fs : List (String × D))
  deriving Inhabited
abbrev Store := List MO
abbrev Env := List (Option D)

/-- an exception: its class, its fields -/
abbrev Xc := String × List (String × D)
inductive Rs (α : Type) where
  | ok (a : α) (S : Store)
  | exc (x : Xc) (e : Env) (S : Store)
  | bad
@[simp] def Rs.bind {α β : Type} : Rs α → (α → Store → Rs β) → Rs β
  | .ok a S, f => f a S
  | .exc x e S, _ => .exc x e S
  | .bad, _ => .bad
inductive Fl where
  | nx (e : Env) | rt (d : D) | bk (e : Env) | ct (e : Env)

/-! ## the syntax -/
inductive BO where | add | sub | mul | mod | fdiv | pow | band | bor | shr | shl
inductive CO where | eq | ne | lt | le | gt | ge | isn | nisn | inn | nin
/-- built-ins by name, over the values of their arguments -/
inductive Bi where | len | tuple | list | all | any | sum | min | max | abs | int | sorted | zipl
inductive Ty where | int | bool | str | tuple | list | dict
  deriving DecidableEq
/-- targets -/
inductive Tg where
  | nm (i : Nat)
  | tp (is : List Nat)
mutual
inductive Ex where
  | var (i : Nat)
  | cst (d : D)
  | glo (x : String)
  | bin (o : BO) (a b : Ex)
  | neg (a : Ex)
  | cmp (o : CO) (a b : Ex)
  | chn (o p : CO) (a b c : Ex)
  | nt (a : Ex)
  | and (a b : Ex)
  | or (a b : Ex)
  | ife (c : Tx) (a b : Ex)
  | tup (es : Exs)
  | lst (es : Exs)
  | mls (es : Exs)
  | dic
  | ix (a i : Ex)
  | sl (a : Ex) (lo hi : Eo)
  | isi (a : Ex) (ts : List Ty)
  | cB (b : Bi) (es : Exs)
  | cF (f : String) (es : Exs)
  | app (a e : Ex)
  | ext (a e : Ex)
  | popl (a : Ex)
  | comp (own : List Nat) (elt : Ex) (t : Tg) (it : It) (c : Tx)
  | comp2 (own own2 : List Nat) (elt : Ex) (t : Tg) (it : It) (t2 : Tg) (it2 : It) (c : Tx)
  | fz (a : Ex)
  | zipl (es : Exs)
inductive Exs where
  | nil
  | cons (e : Ex) (es : Exs)
  | star (e : Ex) (es : Exs)
inductive Eo where
  | no
  | so (e : Ex)
/-- tests -/
inductive Tx where
  | yes
  | tst (e : Ex)
  | cmp (o : CO) (a b : Ex)
  | chn (o p : CO) (a b c : Ex)
  | ife (c a b : Tx)
  | nt (t : Tx)
  | and (a b : Tx)
  | or (a b : Tx)
inductive It where
  | seq (e : Ex)
  | rng (e : Ex)
  | rng2 (a b : Ex)
  | enu (e : Ex)
  | zip (a b : Ex)
end
mutual
inductive Sm where
  | asg (t : Tg) (e : Ex)
  | par (i j : Nat) (a b : Ex)
  | par3 (i j l : Nat) (a b c : Ex)
  | aug (i : Nat) (o : BO) (e : Ex)
  | sto (a i e : Ex)
  | augs (a i : Ex) (o : BO) (e : Ex)
  | exp (e : Ex)
  | ret (e : Ex)
  | ret0
  | ifs (c : Tx) (a b : Sms)
  | for (t : Tg) (it : It) (b : Sms)
  | whl (c : Tx) (b : Sms)
  | brk | cnt | pas
inductive Sms where
  | nil
  | cons (s : Sm) (r : Sms)
end
structure Fn where
  np : Nat
  n : Nat
  body : Sms

/-! ## what operators do -/
def binop : BO → D → D → Option D
  | .add, .int i, .int j => some (.int (i + j))
  | .add, .str x, .str y => if x.length + y.length ≤ SZ then some (.str (x ++ y)) else none
  | .add, .tup x, .tup y => if x.length + y.length ≤ SZ then some (.tup (x ++ y)) else none
  | .add, .lst x, .lst y => if x.length + y.length ≤ SZ then some (.lst (x ++ y)) else none
  | .sub, .int i, .int j => some (.int (i - j))
  | .mul, .int i, .int j => if i.natAbs < 2 ^ 64 ∨ j.natAbs < 2 ^ 64 then some (.int (i * j)) else none
  | .mod, .int i, .int j => if 0 < j then some (.int (i % j)) else none
  | .fdiv, .int i, .int j => if 0 < j ∧ j < 1073741824 then some (.int (i / j)) else none
  | .pow, .int i, .int j => if 0 ≤ j ∧ j ≤ 1000000 ∧ i.natAbs < 2 ^ 64 then some (.int (i ^ j.toNat)) else none
  | .mul, .tup x, .int k => if 1 ≤ k ∧ k ≤ 1000 ∧ x.length ≤ 1000 ∧ x ≠ [] then some (.tup (List.replicate k.toNat x).flatten) else none
  | .band, .int i, .int j => some (.int (Builtin.bitAnd i j))
  | .shr, .int i, .int j => if 0 ≤ j then some (.int (i / 2 ^ j.toNat)) else none
  | _, _, _ => none
/-- x op= y -/
def augop : BO → D → D → Option D
  | o, .int i, .int j => (match o with
    | .add => some (.int (i + j))
    | .sub => some (.int (i - j))
    | .mul => if i.natAbs < 2 ^ 64 ∨ j.natAbs < 2 ^ 64 then some (.int (i * j)) else none
    | .shr => if 0 ≤ j then some (.int (i / 2 ^ j.toNat)) else none
    | _ => none)
  | .add, .str x, .str y => if x.length + y.length ≤ SZ then some (.str (x ++ y)) else none
  | _, _, _ => none
/-- the place that an index tells -/
def place (n : Nat) (i : Int) : Option Nat := ixN n i
def ixop : D → D → Option D
  | .tup ds, .int i => atI ds i
  | .lst ds, .int i => atI ds i
  | .str x, .int i => if x.length ≤ SZ then (atI x.cps.toList i).map fun c => .str ⟨#[c]⟩ else none
  | _, _ => none
def cut {α : Type} (xs : List α) (lo hi : Option Int) : List α := (xs.drop (HT.sIx xs.length 0 lo)).take (HT.sIx xs.length xs.length hi - HT.sIx xs.length 0 lo)
def slop : D → Option Int → Option Int → Option D
  | .tup ds, lo, hi => some (.tup (cut ds lo hi))
  | .lst ds, lo, hi => some (.lst (cut ds lo hi))
  | .rol ds, lo, hi => some (.lst (cut ds lo hi))
  | .str x, lo, hi => if x.length ≤ SZ then some (.str (cutS x lo hi)) else none
  | _, _, _ => none
/-- x in ds -/
def isIn (x : D) (ds : List D) : Bool := ds.any fun z => z.eqv x
def D.isNon : D → Bool
  | .non => true
  | _ => false
def cmpop : CO → D → D → Option Bool
  | .isn, x, .non => some x.isNon
  | .nisn, x, .non => some (!x.isNon)
  | .isn, .bl a, .bl b => some (a == b)
  | .nisn, .bl a, .bl b => some (!(a == b))
  | .lt, .int i, .int j => some (decide (i < j))
  | .le, .int i, .int j => some (decide (i ≤ j))
  | .gt, .int i, .int j => some (decide (j < i))
  | .ge, .int i, .int j => some (decide (j ≤ i))
  | .eq, x, y => if x.dat && y.dat && (x.flat 64 || y.flat 64) then some (x.eqv y) else none
  | .ne, x, y => if x.dat && y.dat && (x.flat 64 || y.flat 64) then some (!x.eqv y) else none
  | .inn, x, .tup ds => if x.dat && dats ds && (x.flat 64 || flats 64 ds) then some (isIn x ds) else none
  | .inn, x, .lst ds => if x.dat && dats ds && (x.flat 64 || flats 64 ds) then some (isIn x ds) else none
  | .nin, x, .tup ds => if x.dat && dats ds && (x.flat 64 || flats 64 ds) then some (!isIn x ds) else none
  | .nin, x, .lst ds => if x.dat && dats ds && (x.flat 64 || flats 64 ds) then some (!isIn x ds) else none
  | .inn, .str x, .str y => some (!(Builtin.Str.occurrences y x 0 y.length 1).isEmpty)
  | .nin, .str x, .str y => some (!(!(Builtin.Str.occurrences y x 0 y.length 1).isEmpty))
  | _, _, _ => none
/-- an object of the store as data, if it is a list -/
def asLst (S : Store) : D → Option (List D)
  | .obj r => match S[r]? with
    | some (.lst ds) => some ds
    | _ => none
  | .lst ds => some ds
  | .tup ds => some ds
  | .rol ds => some ds
  | _ => none
/-- a list of the store -/
def objL (S : Store) : D → Option Nat
  | .obj r => match S[r]? with
    | some (.lst _) => some r
    | _ => none
  | _ => none
def truth (S : Store) : D → Option Bool
  | .non => some false
  | .bl b => some b
  | .int i => some (i != 0)
  | .tup ds => some (!ds.isEmpty)
  | .lst ds => some (!ds.isEmpty)
  | _ => none
def isTy (S : Store) (x : D) (t : Ty) : Option Bool := match x with
  | .non => some false
  | .bl _ => some (t == .int || t == .bool)
  | .int _ => some (t == .int)
  | .str _ => some (t == .str)
  | .tup _ => some (t == .tuple)
  | .lst _ => some (t == .list)
  | .edic => some (t == .dict)
  | .obj r => match S[r]? with
    | some (.lst _) => some (t == .list)
    | _ => none
  | .rol _ => none
def isTys (S : Store) (x : D) : List Ty → Option Bool
  | [] => some false
  | t :: ts => match isTy S x t with
    | some true => some true
    | some false => isTys S x ts
    | none => none
def intsOf : List D → Option (List Int)
  | [] => some []
  | .int i :: r => (intsOf r).map (i :: ·)
  | _ :: _ => none
def blsOf : List D → Option (List Bool)
  | [] => some []
  | .bl i :: r => (blsOf r).map (i :: ·)
  | _ :: _ => none
/-- built-ins that leave the store -/
def biop (S : Store) : Bi → List D → Option D
  | .len, [.str x] => if x.length ≤ SZ then some (.int x.length) else none
  | .len, [x] => (asLst S x).map fun ds => .int ds.length
  | .tuple, [x] => (asLst S x).map .tup
  | .list, [x] => (asLst S x).map .lst
  | .all, [.lst ds] => (blsOf ds).map fun bs => .bl (bs.all id)
  | .any, [.lst ds] => (blsOf ds).map fun bs => .bl (bs.any id)
  | .sum, [.lst ds] => (intsOf ds).map fun ns => .int ns.sum
  | .abs, [.int i] => some (.int (if i < 0 then -i else i))
  | .max, [.int i, .int j] => some (.int (if j > i then j else i))
  | .min, [.int i, .int j] => some (.int (if j < i then j else i))
  | .int, [.int i] => some (.int i)
  | .int, [.bl b] => some (.int (if b then 1 else 0))
  | _, _ => none

/-! ## loops over data -/
def forR {α β : Type} (chk : Store → Bool) (f : α → β → Store → Rs β) : List α → β → Store → Rs β
  | [], b, S => if chk S then .ok b S else .bad
  | x :: xs, b, S => if chk S then (f x b S).bind fun b' S' => forR chk f xs b' S' else .bad
/-- a loop of statements: the body may leave it -/
def forF (chk : Store → Bool) (f : D → Env → Store → Rs Fl) : List D → Env → Store → Rs Fl
  | [], e, S => if chk S then .ok (.nx e) S else .bad
  | x :: xs, e, S => if chk S then (f x e S).bind fun fl S' => match fl with
    | .nx e' => forF chk f xs e' S'
    | .ct e' => forF chk f xs e' S'
    | .bk e' => .ok (.nx e') S'
    | .rt d => .ok (.rt d) S' else .bad
/-- a while: its turns, at most n -/
def whlN (c : Env → Store → Rs Bool) (f : Env → Store → Rs Fl) : Nat → Env → Store → Option (Rs Fl)
  | 0, _, _ => none
  | n + 1, e, S => match c e S with
    | .bad => some .bad
    | .exc x e' S' => some (.exc x e' S')
    | .ok false S' => some (.ok (.nx e) S')
    | .ok true S' => match f e S' with
      | .bad => some .bad
      | .exc x e' S2 => some (.exc x e' S2)
      | .ok (.nx e') S2 => whlN c f n e' S2
      | .ok (.ct e') S2 => whlN c f n e' S2
      | .ok (.bk e') S2 => some (.ok (.nx e') S2)
      | .ok (.rt d) S2 => some (.ok (.rt d) S2)
open Classical in
noncomputable def whlR (c : Env → Store → Rs Bool) (f : Env → Store → Rs Fl) (e : Env) (S : Store) : Rs Fl :=
  if h : ∃ n r, whlN c f n e S = some r then h.choose_spec.choose else .bad

/-! ## the evaluator -/
def wip (e : Env) : List Nat → Env
  | [] => e
  | v :: vs => (wip e vs).set v none
def setN (e : Env) : List Nat → List D → Option Env
  | [], [] => some e
  | i :: is, d :: ds => setN (e.set i (some d)) is ds
  | _, _ => none
def setT (e : Env) : Tg → D → Option Env
  | .nm i, d => some (e.set i (some d))
  | .tp is, .tup ds => setN e is ds
  | _, _ => none
structure Wd where
  call : String → List D → Store → Rs D
  con : String → Option D
/-- an exception of a callee, at the caller's names -/
@[simp] def Rs.at {α : Type} : Rs α → Env → Rs α
  | .ok a S, _ => .ok a S
  | .exc x _ S, e => .exc x e S
  | .bad, _ => .bad
def optR {α : Type} (o : Option α) (S : Store) : Rs α := match o with
  | some a => .ok a S
  | none => .bad
@[simp] theorem optR_some {α : Type} (a : α) (S : Store) : optR (some a) S = .ok a S := rfl
@[simp] theorem optR_none {α : Type} (S : Store) : optR (none : Option α) S = .bad := rfl
/-- within a comprehension nothing may be raised -/
@[simp] def Rs.nox {α : Type} : Rs α → Rs α
  | .ok a S => .ok a S
  | _ => .bad
/-- the source of a loop as it stands at its start, and the object it is, if it is one -/
abbrev Src := List D × Option Nat
open Classical in
noncomputable def srcOk (S : Store) (s : Src) : Bool := match s.2 with
  | none => true
  | some r => decide (S[r]? = some (MO.lst s.1))
@[simp] theorem srcOk_none {S : Store} {ds : List D} : srcOk S (ds, none) = true := rfl
theorem srcOk_some {S : Store} {ds : List D} {r : Nat} : srcOk S (ds, some r) = true ↔ S[r]? = some (MO.lst ds) := by simp [srcOk]
def srcOf (S : Store) : D → Option Src
  | .obj r => match S[r]? with
    | some (.lst ds) => some (ds, some r)
    | _ => none
  | .lst ds => some (ds, none)
  | .tup ds => some (ds, none)
  | .rol ds => some (ds, none)
  | .str x => if x.length ≤ SZ then some (x.cps.toList.map fun c => .str ⟨#[c]⟩, none) else none
  | _ => none
def itInts (lo : Int) (n : Nat) : List D := (List.range n).map fun i => .int (lo + (i : Nat))
def small62 (i : Int) : Bool := decide (-(2 ^ 62) ≤ i) && decide (i < 2 ^ 62)
def enumD : Nat → List D → List D
  | _, [] => []
  | n, d :: ds => .tup [.int (n : Nat), d] :: enumD (n + 1) ds
def zipD : List D → List D → List D
  | a :: as, b :: bs => .tup [a, b] :: zipD as bs
  | _, _ => []
/-- list(zip(x, y)) -/
def zipop (S : Store) : List D → Option D
  | [x, y] => match asLst S x, asLst S y with
    | some xs, some ys => some (.lst (zipD xs ys))
    | _, _ => none
  | _ => none
section
variable (W : Wd)
mutual
noncomputable def evE : Ex → Env → Store → Rs D
  | .var i, e, S => match e[i]? with
    | some (some d) => .ok d S
    | _ => .bad
  | .cst d, _, S => .ok d S
  | .glo x, _, S => optR (W.con x) S
  | .bin o a b, e, S => (evE a e S).bind fun x S => (evE b e S).bind fun y S => optR (binop o x y) S
  | .neg a, e, S => (evE a e S).bind fun x S => match x with
    | .int i => .ok (.int (-i)) S
    | _ => .bad
  | .cmp o a b, e, S => (evE a e S).bind fun x S => (evE b e S).bind fun y S => optR ((cmpop o x y).map .bl) S
  | .chn o p a b c, e, S => (evE a e S).bind fun x S => (evE b e S).bind fun y S => (optR (cmpop o x y) S).bind fun t S =>
    if t then (evE c e S).bind fun z S => optR ((cmpop p y z).map .bl) S else .ok (.bl false) S
  | .nt a, e, S => (evE a e S).bind fun x S => optR ((truth S x).map fun b => .bl (!b)) S
  | .and a b, e, S => (evE a e S).bind fun x S => (optR (truth S x) S).bind fun t S => if t then evE b e S else .ok x S
  | .or a b, e, S => (evE a e S).bind fun x S => (optR (truth S x) S).bind fun t S => if t then .ok x S else evE b e S
  | .ife c a b, e, S => (evT c e S).bind fun t S => if t then evE a e S else evE b e S
  | .tup es, e, S => (evA es e S).bind fun ds S => if ds.length ≤ SZ then .ok (.tup ds) S else .bad
  | .lst es, e, S => (evA es e S).bind fun ds S => if ds.length ≤ SZ then .ok (.lst ds) S else .bad
  | .mls es, e, S => (evA es e S).bind fun ds S => if ds.length ≤ SZ then .ok (.obj S.length) (S ++ [.lst ds]) else .bad
  | .dic, _, S => .ok .edic S
  | .ix a i, e, S => (evE a e S).bind fun x S => (evE i e S).bind fun y S => match x with
    | .obj r => match S[r]?, y with
      | some (.lst ds), .int i => optR (atI ds i) S
      | _, _ => .bad
    | _ => optR (ixop x y) S
  | .sl a lo hi, e, S => (evE a e S).bind fun x S => (evO lo e S).bind fun l S => (evO hi e S).bind fun h S => match x with
    | .obj r => match S[r]? with
      | some (.lst ds) => .ok (.lst (cut ds l h)) S
      | _ => .bad
    | _ => optR (slop x l h) S
  | .isi a ts, e, S => (evE a e S).bind fun x S => optR ((isTys S x ts).map .bl) S
  | .cB b es, e, S => (evA es e S).bind fun ds S => optR (biop S b ds) S
  | .cF f es, e, S => (evA es e S).bind fun ds S => (W.call f ds S).at e
  | .app a x, e, S => (evE a e S).bind fun o S => (optR (objL S o) S).bind fun r S => (evE x e S).bind fun d S => match S[r]? with
    | some (.lst ds) => if ds.length < SZ then .ok .non (S.set r (.lst (ds ++ [d]))) else .bad
    | _ => .bad
  | .ext a x, e, S => (evE a e S).bind fun o S => (optR (objL S o) S).bind fun r S => (evE x e S).bind fun d S => match S[r]?, d with
    | some (.lst ds), .lst xs => if ds.length + xs.length ≤ SZ then .ok .non (S.set r (.lst (ds ++ xs))) else .bad
    | _, _ => .bad
  | .popl a, e, S => (evE a e S).bind fun o S => (optR (objL S o) S).bind fun r S => match S[r]? with
    | some (.lst ds) => match ds.getLast? with
      | some d => .ok d (S.set r (.lst ds.dropLast))
      | none => .bad
    | _ => .bad
  | .comp own elt t it c, e, S => (evI it e S).bind fun s S =>
      (forR (fun S => srcOk S s) (fun x acc S => match setT (wip e own) t x with
        | some e' => (evT c e' S).bind fun b S => if b then (evE elt e' S).bind fun d S => if acc.length < SZ then .ok (acc ++ [d]) S else .bad else .ok acc S
        | none => .bad) s.1 [] S).nox.bind fun ds S => .ok (.lst ds) S
  | .comp2 own own2 elt t it t2 it2 c, e, S => (evI it e S).bind fun s S =>
      (forR (fun S => srcOk S s) (fun x acc S => match setT (wip e own) t x with
        | some e' => (evI it2 e' S).bind fun s2 S => forR (fun S => srcOk S s2) (fun x2 acc S => match setT (wip e' own2) t2 x2 with
          | some e2 => (evT c e2 S).bind fun b S => if b then (evE elt e2 S).bind fun d S => if acc.length < SZ then .ok (acc ++ [d]) S else .bad else .ok acc S
          | none => .bad) s2.1 acc S
        | none => .bad) s.1 [] S).nox.bind fun ds S => .ok (.lst ds) S
  | .zipl es, e, S => (evA es e S).bind fun ds S => optR (zipop S ds) S
  | .fz a, e, S => (evE a e S).bind fun o S => match o with
    | .obj r => match S[r]? with
      | some (.lst ds) => .ok (.lst ds) (S.set r .dead)
      | _ => .bad
    | _ => .bad
/-- as a test -/
noncomputable def evT : Tx → Env → Store → Rs Bool
  | .yes, _, S => .ok true S
  | .tst x, e, S => (evE x e S).bind fun d S => optR (truth S d) S
  | .cmp o a b, e, S => (evE a e S).bind fun x S => (evE b e S).bind fun y S => optR (cmpop o x y) S
  | .chn o p a b c, e, S => (evE a e S).bind fun x S => (evE b e S).bind fun y S => (optR (cmpop o x y) S).bind fun t S =>
    if t then (evE c e S).bind fun z S => optR (cmpop p y z) S else .ok false S
  | .ife c a b, e, S => (evT c e S).bind fun t S => if t then evT a e S else evT b e S
  | .nt a, e, S => (evT a e S).bind fun b S => .ok (!b) S
  | .and a b, e, S => (evT a e S).bind fun t S => if t then evT b e S else .ok false S
  | .or a b, e, S => (evT a e S).bind fun t S => if t then .ok true S else evT b e S
noncomputable def evA : Exs → Env → Store → Rs (List D)
  | .nil, _, S => .ok [] S
  | .cons x es, e, S => (evE x e S).bind fun d S => (evA es e S).bind fun ds S => .ok (d :: ds) S
  | .star x es, e, S => (evE x e S).bind fun d S => match d with
    | .tup xs => (evA es e S).bind fun ds S => .ok (xs ++ ds) S
    | .lst xs => (evA es e S).bind fun ds S => .ok (xs ++ ds) S
    | _ => .bad
noncomputable def evO : Eo → Env → Store → Rs (Option Int)
  | .no, _, S => .ok none S
  | .so x, e, S => (evE x e S).bind fun d S => match d with
    | .int i => .ok (some i) S
    | _ => .bad
noncomputable def evI : It → Env → Store → Rs Src
  | .seq x, e, S => (evE x e S).bind fun d S => optR (srcOf S d) S
  | .rng x, e, S => (evE x e S).bind fun d S => match d with
    | .int j => if small62 j then .ok (itInts 0 j.toNat, none) S else .bad
    | _ => .bad
  | .rng2 x y, e, S => (evE x e S).bind fun d S => (evE y e S).bind fun d2 S => match d, d2 with
    | .int i, .int j => if small62 i && small62 j then .ok (itInts i (j - i).toNat, none) S else .bad
    | _, _ => .bad
  | .enu x, e, S => (evE x e S).bind fun d S => (optR (srcOf S d) S).bind fun s S => .ok (enumD 0 s.1, s.2) S
  | .zip x y, e, S => (evE x e S).bind fun d S => (evE y e S).bind fun d2 S => (optR (srcOf S d) S).bind fun s S => (optR (srcOf S d2) S).bind fun s2 S =>
    if s.2.isNone && s2.2.isNone then .ok (zipD s.1 s2.1, none) S else .bad
end
end
def MO.lim (n : Nat) : MO → Bool
  | .dead => true
  | .lst ds => lims n ds
  | .ins _ fs => lims n (fs.map (·.2))
section
variable (W : Wd)
mutual
noncomputable def evS : Sm → Env → Store → Rs Fl
  | .asg t x, e, S => (evE W x e S).bind fun d S => (optR (setT e t d) S).bind fun e' S => .ok (.nx e') S
  | .par i j a b, e, S => (evE W a e S).bind fun x S => (evE W b e S).bind fun y S => .ok (.nx ((e.set i (some x)).set j (some y))) S
  | .par3 i j l a b c, e, S => (evE W a e S).bind fun x S => (evE W b e S).bind fun y S => (evE W c e S).bind fun z S => .ok (.nx (((e.set i (some x)).set j (some y)).set l (some z))) S
  | .aug i o x, e, S => match e[i]? with
    | some (some d) => (evE W x e S).bind fun y S => (optR (augop o d y) S).bind fun z S => .ok (.nx (e.set i (some z))) S
    | _ => .bad
  | .sto a i x, e, S => (evE W x e S).bind fun v S => (evE W a e S).bind fun o S => (evE W i e S).bind fun y S => match o, y with
    | .obj r, .int k => match S[r]? with
      | some (.lst ds) => match place ds.length k with
        | some j => .ok (.nx e) (S.set r (.lst (ds.set j v)))
        | none => .bad
      | _ => .bad
    | _, _ => .bad
  | .augs a i o x, e, S => (evE W a e S).bind fun ob S => (evE W i e S).bind fun y S => match ob, y with
    | .obj r, .int k => match S[r]? with
      | some (.lst ds) => match atI ds k with
        | some old => (evE W x e S).bind fun v S => (optR (augop o old v) S).bind fun z S => match S[r]? with
          | some (.lst ds) => match place ds.length k with
            | some j => .ok (.nx e) (S.set r (.lst (ds.set j z)))
            | none => .bad
          | _ => .bad
        | none => .bad
      | _ => .bad
    | _, _ => .bad
  | .exp x, e, S => (evE W x e S).bind fun _ S => .ok (.nx e) S
  | .ret0, e, S => .ok (.rt .non) S
  | .ret x, e, S => (evE W x e S).bind fun d S => .ok (.rt d) S
  | .ifs c a b, e, S => (evT W c e S).bind fun t S => if t then evSs a e S else evSs b e S
  | .for t it b, e, S => (evI W it e S).bind fun s S => forF (fun S => srcOk S s) (fun x e S => match setT e t x with
      | some e' => evSs b e' S
      | none => .bad) s.1 e S
  | .whl c b, e, S => whlR (evT W c) (fun e S => evSs b e S) e S
  | .brk, e, S => .ok (.bk e) S
  | .cnt, e, S => .ok (.ct e) S
  | .pas, e, S => .ok (.nx e) S
noncomputable def evSs : Sms → Env → Store → Rs Fl
  | .nil, e, S => .ok (.nx e) S
  | .cons s r, e, S => (evS s e S).bind fun fl S => match fl with
    | .nx e' => evSs r e' S
    | f => .ok f S
end
end
/-- a call's end: what it has made and nobody holds is forgotten -/
def TrOk (S S' : Store) : Prop := ∀ i mo, i < S.length → S'[i]? = some mo → S[i]? = some mo ∨ mo.lim S.length = true
open Classical in
noncomputable def trunc (S : Store) (ok : Bool) (S' : Store) : Store := if ok = true ∧ S.length ≤ S'.length ∧ TrOk S S' then S'.take S.length else S'
noncomputable def retn (S : Store) (d : D) (S' : Store) : Rs D := .ok d (trunc S (d.lim S.length) S')
noncomputable def callN (T : String → Option Fn) (con : String → Option D) : Nat → String → List D → Store → Rs D
  | 0, _, _, _ => .bad
  | k + 1, f, ds, S => match T f with
    | none => .bad
    | some fd => if ds.length = fd.np then
        match evSs ⟨callN T con k, con⟩ fd.body (ds.map some ++ List.replicate (fd.n - ds.length) none) S with
        | .ok (.rt d) S' => retn S d S'
        | .ok (.nx _) S' => retn S .non S'
        | .ok _ _ => .bad
        | .exc x _ S' => .exc x [] S'
        | .bad => .bad
      else .bad
theorem trunc_junk {S J : Store} : trunc S true (S ++ J) = S := by
  unfold trunc
  rw [if_pos]
  · simp
  · refine ⟨rfl, by simp, fun i mo hi h => .inl ?_⟩
    rwa [List.getElem?_append_left hi] at h
theorem trunc_self {S : Store} {b : Bool} : trunc S b S = S := by
  unfold trunc
  split
  · simp
  · rfl
theorem trunc_set {S J : Store} {r : Nat} {mo : MO} (h : mo.lim S.length = true) : trunc S true (S.set r mo ++ J) = S.set r mo := by
  unfold trunc
  rw [if_pos]
  · have : S.length = (S.set r mo).length := by simp
    rw [this]; simp
  · refine ⟨rfl, by simp, fun i m hi q => ?_⟩
    rw [List.getElem?_append_left (by simpa using hi)] at q
    by_cases e : r = i
    · subst e
      rw [List.getElem?_set_self hi] at q
      cases q; exact .inr h
    · rw [List.getElem?_set_ne e] at q
      exact .inl q
theorem whl_det {c : Env → Store → Rs Bool} {f : Env → Store → Rs Fl} : ∀ {n m : Nat} {e : Env} {S : Store} {r q : Rs Fl}, whlN c f n e S = some r → whlN c f m e S = some q → r = q
  | 0, _, _, _, _, _, h, _ => by simp [whlN] at h
  | _ + 1, 0, _, _, _, _, _, h => by simp [whlN] at h
  | n + 1, m + 1, e, S, r, q, h1, h2 => by
    unfold whlN at h1 h2
    split at h1 <;> simp_all
    split at h1 <;> simp_all
    · exact whl_det h1 h2
    · exact whl_det h1 h2
theorem whlR_of {c : Env → Store → Rs Bool} {f : Env → Store → Rs Fl} {n : Nat} {e : Env} {S : Store} {r : Rs Fl} (h : whlN c f n e S = some r) : whlR c f e S = r := by
  unfold whlR
  have hx : ∃ n r, whlN c f n e S = some r := ⟨n, r, h⟩
  rw [dif_pos hx]
  exact whl_det hx.choose_spec.choose_spec h
theorem whlR_cases {c : Env → Store → Rs Bool} {f : Env → Store → Rs Fl} (e : Env) (S : Store) : (∃ n, whlN c f n e S = some (whlR c f e S)) ∨ whlR c f e S = .bad := by
  by_cases hx : ∃ n r, whlN c f n e S = some r
  · obtain ⟨n, r, h⟩ := hx
    rw [whlR_of h]; exact .inl ⟨n, h⟩
  · right; unfold whlR; rw [dif_neg hx]
/-- one turn -/
theorem whlR_eq {c : Env → Store → Rs Bool} {f : Env → Store → Rs Fl} (e : Env) (S : Store) : whlR c f e S = (c e S).bind fun t S' => if t then (f e S').bind fun fl S2 => match fl with
    | .nx e' => whlR c f e' S2
    | .ct e' => whlR c f e' S2
    | .bk e' => .ok (.nx e') S2
    | .rt d => .ok (.rt d) S2
  else .ok (.nx e) S' := by
  cases hc : c e S with
  | bad => exact whlR_of (n := 1) (by simp [whlN, hc])
  | exc x e' S' => exact whlR_of (n := 1) (by simp [whlN, hc])
  | ok t S' =>
    cases t with
    | false => exact whlR_of (n := 1) (by simp [whlN, hc])
    | true =>
      simp only [Rs.bind, if_true]
      cases hf : f e S' with
      | bad => exact whlR_of (n := 1) (by simp [whlN, hc, hf])
      | exc x e' S2 => exact whlR_of (n := 1) (by simp [whlN, hc, hf])
      | ok fl S2 =>
        have go : ∀ e', (fl = .nx e' ∨ fl = .ct e') → whlR c f e S = whlR c f e' S2 := fun e' hfl => by
          rcases whlR_cases (c := c) (f := f) e' S2 with ⟨n, h⟩ | h
          · refine whlR_of (n := n + 1) ?_
            rcases hfl with rfl | rfl <;> simp [whlN, hc, hf, h]
          · rcases whlR_cases (c := c) (f := f) e S with ⟨n, h'⟩ | h'
            · cases n with
              | zero => simp [whlN] at h'
              | succ n =>
                have h2 : whlN c f n e' S2 = some (whlR c f e S) := by
                  rcases hfl with rfl | rfl <;> simpa [whlN, hc, hf] using h'
                exact (whlR_of h2).symm
            · rw [h, h']
        cases fl with
        | nx e' => exact go e' (.inl rfl)
        | ct e' => exact go e' (.inr rfl)
        | bk e' => exact whlR_of (n := 1) (by simp [whlN, hc, hf])
        | rt d => exact whlR_of (n := 1) (by simp [whlN, hc, hf])
example (W : Wd) (S : Store) : evE W (.cmp .eq (.ix (.var 0) (.cst (.int 0))) (.cst (.int 1))) [some (.tup [.int 1])] S = .ok (.bl true) S := by rfl
end PyI

set_option maxRecDepth 100000
namespace PyI
open PySem PySem.Spec PyProof.Rows L2

/-! ## data and heap -/
structure Zw where
  hd : List Addr
  ρ : List Addr
  S : Store
  H : Hp
def Live (z : Zw) (a : Addr) : Prop := ∃ (r : Nat) (mo : MO), z.ρ[r]? = some a ∧ z.S[r]? = some mo ∧ mo ≠ MO.dead
/-- what stands and is never written -/
def Im (z : Zw) (a : Addr) (o : HO) : Prop := z.H a = some o ∧ ¬ (Live z a ∨ a ∈ z.hd)
abbrev H0 : Hp := fun _ => none
section
variable (K : PySem.W.Frag) (z : Zw)
mutual
def Rep : D → V → Prop
  | .non, v => v = .non
  | .bl b, v => v = .bl b
  | .int i, v => v = .int i
  | .str x, v => v = .str x
  | .tup ds, v => ∃ a xs, v = .ref a ∧ (Im z a (.tup xs) ∨ SqT K H0 a xs) ∧ ds.length ≤ SZ ∧ Reps ds xs
  | .lst ds, v => ∃ a xs, v = .ref a ∧ Im z a (.lst xs) ∧ ds.length ≤ SZ ∧ Reps ds xs
  | .rol ds, v => ∃ a xs, v = .ref a ∧ ((∃ o, Im z a (.frz o (.lst xs))) ∨ SqL K H0 a xs) ∧ ds.length ≤ SZ ∧ Reps ds xs
  | .obj r, v => ∃ a, v = .ref a ∧ z.ρ[r]? = some a
  | .edic, v => ∃ a, v = .ref a ∧ Im z a (.dK [])
def Reps : List D → List V → Prop
  | [], xs => xs = []
  | d :: ds, xs => ∃ v r, xs = v :: r ∧ Rep d v ∧ Reps ds r
end
end
/-- names stay, what is never written stays -/
structure Ex0 (z z' : Zw) : Prop where
  pre : z.ρ <+: z'.ρ
  im : ∀ a o, Im z a o → Im z' a o
/-- from z on; what others write stays, too -/
structure Ext (z z' : Zw) : Prop where
  pre : z.ρ <+: z'.ρ
  im : ∀ a o, Im z a o → Im z' a o
  hd : z'.hd = z.hd
  hk : ∀ a ∈ z.hd, z'.H a = z.H a
theorem Ext.ex0 {z z' : Zw} (x : Ext z z') : Ex0 z z' := ⟨x.pre, x.im⟩
theorem Ext.refl (z : Zw) : Ext z z := ⟨List.prefix_refl _, fun _ _ h => h, rfl, fun _ _ => rfl⟩
theorem Ext.trans {a b c : Zw} (x : Ext a b) (y : Ext b c) : Ext a c := ⟨x.pre.trans y.pre, fun p o h => y.im p o (x.im p o h), y.hd.trans x.hd, fun p hp => (y.hk p (by rw [x.hd]; exact hp)).trans (x.hk p hp)⟩
theorem pre_get {α : Type} {a b : List α} (h : a <+: b) {i : Nat} {x : α} (e : a[i]? = some x) : b[i]? = some x := by
  obtain ⟨t, rfl⟩ := h
  have hi : i < a.length := (List.getElem?_eq_some_iff.mp e).1
  rw [List.getElem?_append_left hi]; exact e
section
variable {K : PySem.W.Frag} {z z' : Zw}
mutual
theorem Rep.mono0 (x : Ex0 z z') : ∀ {d : D} {v : V}, Rep K z d v → Rep K z' d v
  | .non, _, h => by unfold Rep at h ⊢; exact h
  | .bl _, _, h => by unfold Rep at h ⊢; exact h
  | .int _, _, h => by unfold Rep at h ⊢; exact h
  | .str _, _, h => by unfold Rep at h ⊢; exact h
  | .tup ds, _, h => by
    unfold Rep at h ⊢
    obtain ⟨a, xs, e, h1, h2, h3⟩ := h
    exact ⟨a, xs, e, h1.imp (x.im _ _) id, h2, Reps.mono0 x h3⟩
  | .lst ds, _, h => by
    unfold Rep at h ⊢
    obtain ⟨a, xs, e, h1, h2, h3⟩ := h
    exact ⟨a, xs, e, x.im _ _ h1, h2, Reps.mono0 x h3⟩
  | .rol ds, _, h => by
    unfold Rep at h ⊢
    obtain ⟨a, xs, e, h1, h2, h3⟩ := h
    exact ⟨a, xs, e, h1.imp (fun ⟨o, q⟩ => ⟨o, x.im _ _ q⟩) id, h2, Reps.mono0 x h3⟩
  | .obj r, _, h => by
    unfold Rep at h ⊢
    obtain ⟨a, e, h1⟩ := h
    exact ⟨a, e, pre_get x.pre h1⟩
  | .edic, _, h => by
    unfold Rep at h ⊢
    obtain ⟨a, e, h1⟩ := h
    exact ⟨a, e, x.im _ _ h1⟩
theorem Reps.mono0 (x : Ex0 z z') : ∀ {ds : List D} {vs : List V}, Reps K z ds vs → Reps K z' ds vs
  | [], _, h => by unfold Reps at h ⊢; exact h
  | d :: ds, _, h => by
    unfold Reps at h ⊢
    obtain ⟨v, r, e, h1, h2⟩ := h
    exact ⟨v, r, e, Rep.mono0 x h1, Reps.mono0 x h2⟩
end
theorem Rep.mono (x : Ext z z') {d : D} {v : V} (h : Rep K z d v) : Rep K z' d v := Rep.mono0 x.ex0 h
theorem Reps.mono (x : Ext z z') {d : List D} {v : List V} (h : Reps K z d v) : Reps K z' d v := Reps.mono0 x.ex0 h
/-! lists of them -/
theorem Reps.nil : Reps K z [] [] := by unfold Reps; rfl
theorem Reps.cons {d : D} {ds : List D} {v : V} {vs : List V} (h : Rep K z d v) (r : Reps K z ds vs) : Reps K z (d :: ds) (v :: vs) := by
  unfold Reps; exact ⟨v, vs, rfl, h, r⟩
theorem Reps.nil_inv {vs : List V} (h : Reps K z [] vs) : vs = [] := by unfold Reps at h; exact h
theorem Reps.cons_inv {d : D} {ds : List D} {vs : List V} (h : Reps K z (d :: ds) vs) : ∃ v r, vs = v :: r ∧ Rep K z d v ∧ Reps K z ds r := by unfold Reps at h; exact h
theorem Reps.length : ∀ {ds : List D} {vs : List V}, Reps K z ds vs → ds.length = vs.length
  | [], _, h => by rw [h.nil_inv]; rfl
  | d :: ds, _, h => by
    obtain ⟨v, r, rfl, _, h2⟩ := h.cons_inv
    simp [h2.length]
theorem Reps.get : ∀ {ds : List D} {vs : List V} {i : Nat} {d : D}, Reps K z ds vs → ds[i]? = some d → ∃ v, vs[i]? = some v ∧ Rep K z d v
  | [], _, _, _, _, e => by simp at e
  | d :: ds, _, i, x, h, e => by
    obtain ⟨v, r, rfl, h1, h2⟩ := h.cons_inv
    cases i with
    | zero => simp at e; subst e; exact ⟨v, by simp, h1⟩
    | succ i => simp at e; obtain ⟨w, q1, q2⟩ := h2.get e; exact ⟨w, by simpa using q1, q2⟩
theorem Reps.app : ∀ {ds es : List D} {vs ws : List V}, Reps K z ds vs → Reps K z es ws → Reps K z (ds ++ es) (vs ++ ws)
  | [], _, _, _, h, h2 => by rw [h.nil_inv]; exact h2
  | d :: ds, _, _, _, h, h2 => by
    obtain ⟨v, r, rfl, h1, h3⟩ := h.cons_inv
    exact .cons h1 (h3.app h2)
theorem Reps.one {d : D} {v : V} (h : Rep K z d v) : Reps K z [d] [v] := .cons h .nil
theorem Reps.take : ∀ {ds : List D} {vs : List V} (n : Nat), Reps K z ds vs → Reps K z (ds.take n) (vs.take n)
  | [], _, n, h => by rw [h.nil_inv]; simp; exact .nil
  | d :: ds, _, 0, h => by simp; exact .nil
  | d :: ds, _, n + 1, h => by
    obtain ⟨v, r, rfl, h1, h3⟩ := h.cons_inv
    exact .cons h1 (h3.take n)
theorem Reps.drop : ∀ {ds : List D} {vs : List V} (n : Nat), Reps K z ds vs → Reps K z (ds.drop n) (vs.drop n)
  | [], _, n, h => by rw [h.nil_inv]; simp; exact .nil
  | d :: ds, _, 0, h => by simpa using h
  | d :: ds, _, n + 1, h => by
    obtain ⟨v, r, rfl, h1, h3⟩ := h.cons_inv
    exact h3.drop n
theorem Reps.set : ∀ {ds : List D} {vs : List V} (i : Nat) {d : D} {v : V}, Reps K z ds vs → Rep K z d v → Reps K z (ds.set i d) (vs.set i v)
  | [], _, n, _, _, h, _ => by rw [h.nil_inv]; exact .nil
  | d :: ds, _, 0, _, _, h, q => by
    obtain ⟨v, r, rfl, h1, h3⟩ := h.cons_inv
    exact .cons q h3
  | d :: ds, _, n + 1, _, _, h, q => by
    obtain ⟨v, r, rfl, h1, h3⟩ := h.cons_inv
    exact .cons h1 (h3.set n q)
theorem Reps.dropLast {ds : List D} {vs : List V} (h : Reps K z ds vs) : Reps K z ds.dropLast vs.dropLast := by
  rw [List.dropLast_eq_take, List.dropLast_eq_take, h.length]; exact h.take _
theorem Reps.cut {ds : List D} {vs : List V} (h : Reps K z ds vs) (lo hi : Option Int) : Reps K z (cut ds lo hi) (cutV vs lo hi) := by
  unfold PyI.cut cutV
  rw [h.length]
  exact (h.drop _).take _
theorem Reps.rep {ds : List D} {vs : List V} (h : Reps K z ds vs) : ∀ k : Nat, Reps K z (List.replicate k ds).flatten (List.replicate k vs).flatten
  | 0 => .nil
  | k + 1 => by simpa [List.replicate_succ] using h.app (h.rep k)
theorem Reps.atI {ds : List D} {vs : List V} {i : Int} {d : D} (h : Reps K z ds vs) (e : atI ds i = some d) : ∃ v, atI vs i = some v ∧ Rep K z d v := by
  unfold L2.atI at e ⊢
  rw [← h.length]
  cases q : ixN ds.length i with
  | none => rw [q] at e; cases e
  | some j => rw [q] at e; exact h.get e
end

/-! ## the store in the heap -/
def MoOk (K : PySem.W.Frag) (z : Zw) (a : Addr) : MO → Prop
  | .dead => True
  | .lst ds => ∃ xs, z.H a = some (.lst xs) ∧ ds.length ≤ SZ ∧ Reps K z ds xs
  | .ins _ _ => False
structure StOk (K : PySem.W.Frag) (z : Zw) : Prop where
  len : z.ρ.length = z.S.length
  nd : z.ρ.Nodup
  tr : ∀ a ∈ z.ρ, ∃ o, z.H a = some o
  ht : ∀ a ∈ z.hd, ∃ o, z.H a = some o
  dj : ∀ a ∈ z.ρ, a ∉ z.hd
  ob : ∀ (r : Nat) (mo : MO) (a : Addr), z.S[r]? = some mo → z.ρ[r]? = some a → MoOk K z a mo
section
variable {K : PySem.W.Frag} {z z' : Zw}
theorem nodup_get {α : Type} {l : List α} (h : l.Nodup) {i j : Nat} {x : α} (a : l[i]? = some x) (b : l[j]? = some x) : i = j := by
  obtain ⟨h1, e1⟩ := List.getElem?_eq_some_iff.mp a
  obtain ⟨h2, e2⟩ := List.getElem?_eq_some_iff.mp b
  exact (List.getElem_inj h).mp (e1.trans e2.symm)
theorem StOk.live (s : StOk K z) {a : Addr} (h : Live z a) : ∃ o, z.H a = some o := by
  obtain ⟨r, mo, h1, h2, h3⟩ := h
  have q := s.ob r mo a h2 h1
  cases mo with
  | dead => exact absurd rfl h3
  | lst ds => obtain ⟨xs, e, _⟩ := q; exact ⟨_, e⟩
  | ins c fs => exact q.elim
theorem StOk.nolive (s : StOk K z) {a : Addr} (h : z.H a = none) : ¬ (Live z a ∨ a ∈ z.hd) := fun l => by
  rcases l with l | l
  · obtain ⟨o, e⟩ := s.live l
    rw [h] at e; cases e
  · obtain ⟨o, e⟩ := s.ht a l
    rw [h] at e; cases e
theorem MoOk.mono0 {mo : MO} {a : Addr} (x : Ex0 z z') (h : MoOk K z a mo) (e : ∀ o, z.H a = some o → z'.H a = some o) : MoOk K z' a mo := by
  cases mo with
  | dead => trivial
  | lst ds => obtain ⟨xs, h1, h2, h3⟩ := h; exact ⟨xs, e _ h1, h2, h3.mono0 x⟩
  | ins c fs => exact h.elim
theorem MoOk.mono {mo : MO} {a : Addr} (x : Ext z z') (h : MoOk K z a mo) (e : ∀ o, z.H a = some o → z'.H a = some o) : MoOk K z' a mo := h.mono0 x.ex0 e
/-- a new thing that is never written -/
theorem new_im (s : StOk K z) {p : Addr} (o : HO) (hp : z.H p = none) : Ext z ⟨z.hd, z.ρ, z.S, upd z.H p o⟩ ∧ StOk K ⟨z.hd, z.ρ, z.S, upd z.H p o⟩ ∧ Im ⟨z.hd, z.ρ, z.S, upd z.H p o⟩ p o := by
  have nl := s.nolive hp
  have ne : ∀ {a u}, z.H a = some u → upd z.H p o a = some u := fun {a u} h => by
    rw [upd_ne (by rintro rfl; rw [hp] at h; cases h)]; exact h
  have x : Ext z ⟨z.hd, z.ρ, z.S, upd z.H p o⟩ := ⟨List.prefix_refl _, fun a u ⟨h1, h2⟩ => ⟨ne h1, h2⟩, rfl, fun a ha => by obtain ⟨u, e⟩ := s.ht a ha; show upd z.H p o a = _; rw [ne e, e]⟩
  exact ⟨x, ⟨s.len, s.nd, fun a ha => let ⟨u, e⟩ := s.tr a ha; ⟨u, ne e⟩, fun a ha => let ⟨u, e⟩ := s.ht a ha; ⟨u, ne e⟩, s.dj, fun r mo a h1 h2 => (s.ob r mo a h1 h2).mono x fun u h => ne h⟩, upd_same, nl⟩
/-- a new thing of the store -/
theorem new_ob (s : StOk K z) {p : Addr} {ds : List D} {xs : List V} (hp : z.H p = none) (hl : ds.length ≤ SZ) (r : Reps K z ds xs) :
    Ext z ⟨z.hd, z.ρ ++ [p], z.S ++ [MO.lst ds], upd z.H p (.lst xs)⟩ ∧ StOk K ⟨z.hd, z.ρ ++ [p], z.S ++ [MO.lst ds], upd z.H p (.lst xs)⟩ := by
  have nl := s.nolive hp
  have ne : ∀ {a u o}, z.H a = some u → upd z.H p o a = some u := fun {a u o} h => by
    rw [upd_ne (by rintro rfl; rw [hp] at h; cases h)]; exact h
  have at_ : ∀ {r a mo}, (z.ρ ++ [p])[r]? = some a → (z.S ++ [MO.lst ds])[r]? = some mo → (z.ρ[r]? = some a ∧ z.S[r]? = some mo) ∨ (a = p ∧ mo = MO.lst ds) := fun {r a mo} h1 h2 => by
    by_cases hr : r < z.ρ.length
    · rw [List.getElem?_append_left hr] at h1
      rw [List.getElem?_append_left (by rw [← s.len]; exact hr)] at h2
      exact .inl ⟨h1, h2⟩
    · rw [List.getElem?_append_right (by omega)] at h1
      rw [List.getElem?_append_right (by rw [← s.len]; omega), ← s.len] at h2
      by_cases q : r - z.ρ.length = 0
      · rw [q] at h1 h2; simp at h1 h2; exact .inr ⟨h1.symm, h2.symm⟩
      · rw [List.getElem?_eq_none (by simp; omega)] at h1; cases h1
  have x : Ext z ⟨z.hd, z.ρ ++ [p], z.S ++ [MO.lst ds], upd z.H p (.lst xs)⟩ := ⟨List.prefix_append _ _, fun a u ⟨h1, h2⟩ => by
    have ha : a ≠ p := by rintro rfl; rw [hp] at h1; cases h1
    refine ⟨ne h1, fun l => ?_⟩
    rcases l with ⟨r, mo, q1, q2, q3⟩ | l
    · rcases at_ q1 q2 with ⟨q4, q5⟩ | ⟨q4, _⟩
      · exact h2 (.inl ⟨r, mo, q4, q5, q3⟩)
      · exact ha q4
    · exact h2 (.inr l), rfl, fun a ha => by obtain ⟨u, e⟩ := s.ht a ha; show upd z.H p _ a = _; rw [ne e, e]⟩
  refine ⟨x, ⟨by simp [s.len], ?_, fun a ha => ?_, fun a ha => let ⟨u, e⟩ := s.ht a ha; ⟨u, ne e⟩, fun a ha hh => ?_, fun r' mo a h1 h2 => ?_⟩⟩
  · refine List.nodup_append.mpr ⟨s.nd, by simp, fun a ha b hb => ?_⟩
    rintro rfl
    have : a = p := by simpa using hb
    subst this
    obtain ⟨u, e⟩ := s.tr a ha
    rw [hp] at e; cases e
  · rcases List.mem_append.mp ha with ha | ha
    · obtain ⟨u, e⟩ := s.tr a ha; exact ⟨u, ne e⟩
    · have : a = p := by simpa using ha
      subst this; exact ⟨_, upd_same⟩
  · rcases List.mem_append.mp ha with ha | ha
    · exact s.dj a ha hh
    · have : a = p := by simpa using ha
      subst this
      exact nl (.inr hh)
  · rcases at_ h2 h1 with ⟨q1, q2⟩ | ⟨q1, q2⟩
    · exact (s.ob r' mo a q2 q1).mono x fun u h => ne h
    · subst q1; subst q2
      exact ⟨xs, upd_same, hl, r.mono x⟩
/-- a thing of the store is written -/
theorem set_ob (s : StOk K z) {r : Nat} {a : Addr} {es ds : List D} {xs : List V} (hr : z.S[r]? = some (MO.lst es)) (ha : z.ρ[r]? = some a) (hl : ds.length ≤ SZ) (q : Reps K z ds xs) :
    Ext z ⟨z.hd, z.ρ, z.S.set r (MO.lst ds), upd z.H a (.lst xs)⟩ ∧ StOk K ⟨z.hd, z.ρ, z.S.set r (MO.lst ds), upd z.H a (.lst xs)⟩ := by
  have la : Live z a := ⟨r, _, ha, hr, fun h => nomatch h⟩
  have hrl : r < z.S.length := (List.getElem?_eq_some_iff.mp hr).1
  have at_ : ∀ {i b mo}, z.ρ[i]? = some b → (z.S.set r (MO.lst ds))[i]? = some mo → (b ≠ a ∧ z.S[i]? = some mo) ∨ (b = a ∧ mo = MO.lst ds) := fun {i b mo} h1 h2 => by
    by_cases hi : r = i
    · subst hi
      rw [List.getElem?_set_self hrl] at h2
      rw [ha] at h1
      exact .inr ⟨(Option.some.inj h1).symm, (Option.some.inj h2).symm⟩
    · rw [List.getElem?_set_ne hi] at h2
      exact .inl ⟨fun e => hi (nodup_get s.nd ha (e ▸ h1)), h2⟩
  have x : Ext z ⟨z.hd, z.ρ, z.S.set r (MO.lst ds), upd z.H a (.lst xs)⟩ := ⟨List.prefix_refl _, fun b u ⟨h1, h2⟩ => by
    have hb : b ≠ a := by rintro rfl; exact h2 (.inl la)
    refine ⟨by show upd z.H a _ b = _; rw [upd_ne hb]; exact h1, fun l => ?_⟩
    rcases l with ⟨i, mo, q1, q2, q3⟩ | l
    · rcases at_ q1 q2 with ⟨_, q5⟩ | ⟨q4, _⟩
      · exact h2 (.inl ⟨i, mo, q1, q5, q3⟩)
      · exact hb q4
    · exact h2 (.inr l), rfl, fun b hb => ?_⟩
  rotate_left
  · show upd z.H a _ b = _
    rw [upd_ne]
    rintro rfl
    exact s.dj b (List.mem_of_getElem? ha) hb
  refine ⟨x, ⟨by simp [s.len], s.nd, fun b hb => ?_, fun b hb => ?_, s.dj, fun i mo b h1 h2 => ?_⟩⟩
  · show ∃ o, upd z.H a (.lst xs) b = some o
    by_cases e : b = a
    · subst e; exact ⟨_, upd_same⟩
    · rw [upd_ne e]; exact s.tr b hb
  · show ∃ o, upd z.H a (.lst xs) b = some o
    rw [upd_ne (by rintro rfl; exact s.dj b (List.mem_of_getElem? ha) hb)]
    exact s.ht b hb
  · rcases at_ h2 h1 with ⟨q1, q2⟩ | ⟨q1, q2⟩
    · exact (s.ob i mo b q2 h2).mono x fun u h => by show upd z.H a _ b = _; rw [upd_ne q1]; exact h
    · subst q1; subst q2
      exact ⟨xs, upd_same, hl, q.mono x⟩
/-- a thing of the store is never written from now on -/
theorem freeze (s : StOk K z) {r : Nat} {a : Addr} {es : List D} (hr : z.S[r]? = some (MO.lst es)) (ha : z.ρ[r]? = some a) :
    Ext z ⟨z.hd, z.ρ, z.S.set r MO.dead, z.H⟩ ∧ StOk K ⟨z.hd, z.ρ, z.S.set r MO.dead, z.H⟩ ∧ Rep K ⟨z.hd, z.ρ, z.S.set r MO.dead, z.H⟩ (.lst es) (.ref a) := by
  have hrl : r < z.S.length := (List.getElem?_eq_some_iff.mp hr).1
  have at_ : ∀ {i mo}, (z.S.set r MO.dead)[i]? = some mo → (i ≠ r ∧ z.S[i]? = some mo) ∨ (i = r ∧ mo = MO.dead) := fun {i mo} h2 => by
    by_cases hi : r = i
    · subst hi
      rw [List.getElem?_set_self hrl] at h2
      exact .inr ⟨rfl, (Option.some.inj h2).symm⟩
    · rw [List.getElem?_set_ne hi] at h2
      exact .inl ⟨fun e => hi e.symm, h2⟩
  have lv : ∀ b, Live ⟨z.hd, z.ρ, z.S.set r MO.dead, z.H⟩ b → Live z b := fun b ⟨i, mo, q1, q2, q3⟩ => by
    rcases at_ q2 with ⟨_, q5⟩ | ⟨_, q4⟩
    · exact ⟨i, mo, q1, q5, q3⟩
    · exact absurd q4 q3
  have x : Ext z ⟨z.hd, z.ρ, z.S.set r MO.dead, z.H⟩ := ⟨List.prefix_refl _, fun b u ⟨h1, h2⟩ => ⟨h1, fun l => h2 (l.imp (lv b) id)⟩, rfl, fun _ _ => rfl⟩
  refine ⟨x, ⟨by simp [s.len], s.nd, s.tr, s.ht, s.dj, fun i mo b h1 h2 => ?_⟩, ?_⟩
  · rcases at_ h1 with ⟨_, q2⟩ | ⟨_, q2⟩
    · exact (s.ob i mo b q2 h2).mono x fun u h => h
    · subst q2; trivial
  · obtain ⟨xs, e1, e2, e3⟩ := s.ob r _ a hr ha
    unfold Rep
    refine ⟨a, xs, rfl, ⟨e1, fun l => ?_⟩, e2, e3.mono x⟩
    rcases l with ⟨i, mo, q1, q2, q3⟩ | l
    · rcases at_ q2 with ⟨q4, _⟩ | ⟨_, q4⟩
      · exact q4 (nodup_get s.nd q1 ha)
      · exact q3 q4
    · exact s.dj a (List.mem_of_getElem? ha) l
end
end PyI

set_option maxRecDepth 100000
namespace PyI
open PySem PySem.Spec PyProof.Rows L2

/-! ## what is wanted behind a piece of code -/
structure EnvOk (K : PySem.W.Frag) (z : Zw) (e : Env) (σ : L2.St) : Prop where
  len : e.length = σ.length
  at_ : ∀ (i : Nat) (d : D), e[i]? = some (some d) → ∃ v, σ[i]? = some (some v) ∧ Rep K z d v
theorem EnvOk.mono0 {K : PySem.W.Frag} {z z' : Zw} {e : Env} {σ : L2.St} (x : Ex0 z z') (h : EnvOk K z e σ) : EnvOk K z' e σ :=
  ⟨h.len, fun i d q => let ⟨v, h1, h2⟩ := h.at_ i d q; ⟨v, h1, h2.mono0 x⟩⟩
theorem EnvOk.mono {K : PySem.W.Frag} {z z' : Zw} {e : Env} {σ : L2.St} (x : Ext z z') (h : EnvOk K z e σ) : EnvOk K z' e σ :=
  ⟨h.len, fun i d q => let ⟨v, h1, h2⟩ := h.at_ i d q; ⟨v, h1, h2.mono x⟩⟩
theorem EnvOk.set {K : PySem.W.Frag} {z : Zw} {e : Env} {σ : L2.St} (h : EnvOk K z e σ) (i : Nat) {d : D} {v : V} (r : Rep K z d v) : EnvOk K z (e.set i (some d)) (σ.set i (some v)) := by
  refine ⟨by simp [h.len], fun j d' q => ?_⟩
  by_cases hj : i = j
  · subst hj
    have hl : i < e.length := by
      have := (List.getElem?_eq_some_iff.mp q).1
      simpa using this
    rw [List.getElem?_set_self hl] at q
    cases q
    exact ⟨v, List.getElem?_set_self (by rw [← h.len]; exact hl), r⟩
  · rw [List.getElem?_set_ne hj] at q
    rw [List.getElem?_set_ne hj]
    exact h.at_ j d' q
theorem EnvOk.wip {K : PySem.W.Frag} {z : Zw} {e : Env} {σ : L2.St} (h : EnvOk K z e σ) : ∀ vs : List Nat, EnvOk K z (wip e vs) (wipe σ vs)
  | [] => h
  | v :: vs => by
    have ih := h.wip vs
    unfold PyI.wip wipe
    refine ⟨by simp [ih.len], fun j d q => ?_⟩
    by_cases hj : v = j
    · subst hj
      have hl : v < (PyI.wip e vs).length := by
        have := (List.getElem?_eq_some_iff.mp q).1
        simpa using this
      rw [List.getElem?_set_self hl] at q; cases q
    · rw [List.getElem?_set_ne hj] at q
      rw [List.getElem?_set_ne hj]
      exact ih.at_ j d q
theorem EnvOk.none {K : PySem.W.Frag} {z : Zw} {e : Env} {σ : L2.St} (h : EnvOk K z e σ) (i : Nat) : EnvOk K z (e.set i none) (σ.set i none) := by
  have := h.wip [i]
  simpa [PyI.wip, wipe] using this

/-- an exception of the program's own, its fields in its own dict -/
def XRep (K : PySem.W.Frag) (mg : Str → Option Value) (z : Zw) (x : Xc) (cls : Value) (d : Option Addr) : Prop :=
  mg (Str.ofString x.1) = some cls ∧ ((x.2 = [] ∧ d = none) ∨ ∃ (dx : Addr) (vs : List V), d = some dx ∧ Im z dx (.xd ((x.2.map fun p => Str.ofString p.1).zip vs)) ∧ Reps K z (x.2.map (·.2)) vs)
theorem XRep.mono {K : PySem.W.Frag} {mg : Str → Option Value} {z z' : Zw} {x : Xc} {cls : Value} {d : Option Addr} (e : Ext z z') (h : XRep K mg z x cls d) : XRep K mg z' x cls d := by
  obtain ⟨h1, h2⟩ := h
  refine ⟨h1, h2.imp id ?_⟩
  rintro ⟨dx, vs, q1, q2, q3⟩
  exact ⟨dx, vs, q1, e.im _ _ q2, q3.mono e⟩
section
variable (K : PySem.W.Frag) (mg : Str → Option Value) (W : WX)
def Post (z : Zw) {α : Type} (r : Rs α) (Q : α → Zw → Prop) : Prop := match r with
  | .ok a S1 => ∀ z1 : Zw, z1.S = S1 → Ext z z1 → StOk K z1 → Q a z1
  | .exc x e S1 => ∀ (z1 : Zw) (cls : Value) (d : Option Addr) (σ : L2.St), z1.S = S1 → Ext z z1 → StOk K z1 → EnvOk K z1 e σ → XRep K mg z1 x cls d → W cls d σ z1.H
  | .bad => False
end
section
variable {K : PySem.W.Frag} {mg : Str → Option Value} {W : WX} {z z1 : Zw} {α β : Type}
theorem Post.rebase {r : Rs α} {Q : α → Zw → Prop} (x : Ext z z1) (P : Post K mg W z r Q) : Post K mg W z1 r Q := by
  cases r with
  | ok a S => exact fun z2 h1 h2 h3 => P z2 h1 (x.trans h2) h3
  | exc y e S => exact fun z2 cls d σ h1 h2 h3 h4 h5 => P z2 cls d σ h1 (x.trans h2) h3 h4 h5
  | bad => exact P
theorem Post.imp {r : Rs α} {Q Q' : α → Zw → Prop} (P : Post K mg W z r Q) (h : ∀ a z1, Ext z z1 → StOk K z1 → Q a z1 → Q' a z1) : Post K mg W z r Q' := by
  cases r with
  | ok a S => exact fun z2 h1 h2 h3 => h _ _ h2 h3 (P z2 h1 h2 h3)
  | exc y e S => exact P
  | bad => exact P
theorem Post.bind {r : Rs α} {f : α → Store → Rs β} {Q : β → Zw → Prop} (P : Post K mg W z (r.bind f) Q) : Post K mg W z r (fun a z1 => Post K mg W z1 (f a z1.S) Q) := by
  cases r with
  | ok a S =>
    intro z2 h1 h2 h3
    subst h1
    exact Post.rebase h2 P
  | exc y e S => exact P
  | bad => exact P
/-- what has come by itself -/
theorem Post.val {a : α} {Q : α → Zw → Prop} (P : Post K mg W z (.ok a z.S) Q) (s : StOk K z) : Q a z := P z rfl (Ext.refl z) s
theorem Post.opt {o : Option α} {Q : α → Zw → Prop} (P : Post K mg W z (optR o z.S) Q) (s : StOk K z) : ∃ a, o = some a ∧ Q a z := by
  cases o with
  | none => exact P.elim
  | some a => exact ⟨a, rfl, Post.val P s⟩
end
/-- an expression's reading by the evaluator -/
def tE (X : Cx) (W : WX) (f : Env → Store → Rs D) : TE := fun σ H Q => ∃ z e, z.H = H ∧ StOk X.K z ∧ EnvOk X.K z e σ ∧ Post X.K X.mg W z (f e z.S) fun d z1 => ∀ v, Rep X.K z1 d v → Q v z1.H
def tT (X : Cx) (W : WX) (f : Env → Store → Rs Bool) : TT := fun σ H Q => ∃ z e, z.H = H ∧ StOk X.K z ∧ EnvOk X.K z e σ ∧ Post X.K X.mg W z (f e z.S) fun d z1 => Q d z1.H
def tA (X : Cx) (W : WX) (f : Env → Store → Rs (List D)) : TA := fun σ H Q => ∃ z e, z.H = H ∧ StOk X.K z ∧ EnvOk X.K z e σ ∧ Post X.K X.mg W z (f e z.S) fun d z1 => ∀ v, Reps X.K z1 d v → Q v z1.H
def tO (X : Cx) (W : WX) (f : Env → Store → Rs (Option Int)) : TO := fun σ H Q => ∃ z e, z.H = H ∧ StOk X.K z ∧ EnvOk X.K z e σ ∧ Post X.K X.mg W z (f e z.S) fun d z1 => Q d z1.H
section
variable {X : Cx} {W : WX} {pa pb pc : Expr} {fa fb fc : Env → Store → Rs D} {pos : Pos}
theorem PE_imp {e : Expr} {t t' : TE} (h : PE X e t) (f : ∀ σ H Q, t' σ H Q → t σ H Q) : PE X e t' := ⟨fun pins s σ H Q I q => h.run pins s σ H Q I (f _ _ _ q)⟩
theorem PT_imp {e : Expr} {t t' : TT} (h : PT X e t) (f : ∀ σ H Q, t' σ H Q → t σ H Q) : PT X e t' := ⟨fun pins s σ H Q I q => h.run pins s σ H Q I (f _ _ _ q)⟩
theorem PW_imp {e : Expr} {t t' : TT} (h : PW X e t) (f : ∀ σ H Q, t' σ H Q → t σ H Q) : PW X e t' := ⟨fun wh pins s σ H Q I q => h.run wh pins s σ H Q I (f _ _ _ q)⟩
theorem PA_imp {e : List Expr} {t t' : TA} (h : PA X e t) (f : ∀ σ H Q, t' σ H Q → t σ H Q) : PA X e t' := ⟨fun p pins s σ H Q I q => h.run p pins s σ H Q I (f _ _ _ q)⟩
theorem PO_imp {e : Option Expr} {t t' : TO} (h : PO X e t) (f : ∀ σ H Q, t' σ H Q → t σ H Q) : PO X e t' := ⟨fun pins s σ H Q I q => h.run pins s σ H Q I (f _ _ _ q)⟩

/-! ### an operator of two values -/
/-- the values' data, and what is wanted of the result -/
def rD (X : Cx) (g : D → D → Option D) : R2 := fun v u H Q => ∃ z x y d, z.H = H ∧ StOk X.K z ∧ Rep X.K z x v ∧ Rep X.K z y u ∧ g x y = some d ∧ ∀ w z1, z1.S = z.S → Ext z z1 → StOk X.K z1 → Rep X.K z1 d w → Q w z1.H
/-- a value without a place in the heap is handed back -/
theorem fin_val {X : Cx} {z : Zw} {d : D} {w : V} {Q : VK} (s : StOk X.K z) (h : ∀ w z1, z1.S = z.S → Ext z z1 → StOk X.K z1 → Rep X.K z1 d w → Q w z1.H) (r : Rep X.K z d w) : Q w z.H := h w z rfl (Ext.refl z) s r
theorem Rep.int_ {K : PySem.W.Frag} {z : Zw} {i : Int} : Rep K z (.int i) (.int i) := by unfold Rep; rfl
theorem Rep.bl_ {K : PySem.W.Frag} {z : Zw} {i : Bool} : Rep K z (.bl i) (.bl i) := by unfold Rep; rfl
theorem Rep.str_ {K : PySem.W.Frag} {z : Zw} {i : Str} : Rep K z (.str i) (.str i) := by unfold Rep; rfl
theorem Rep.non_ {K : PySem.W.Frag} {z : Zw} : Rep K z .non .non := by unfold Rep; rfl
theorem Rep.int_inv {K : PySem.W.Frag} {z : Zw} {i : Int} {v : V} (h : Rep K z (.int i) v) : v = .int i := by unfold Rep at h; exact h
theorem Rep.bl_inv {K : PySem.W.Frag} {z : Zw} {i : Bool} {v : V} (h : Rep K z (.bl i) v) : v = .bl i := by unfold Rep at h; exact h
theorem Rep.str_inv {K : PySem.W.Frag} {z : Zw} {i : Str} {v : V} (h : Rep K z (.str i) v) : v = .str i := by unfold Rep at h; exact h
theorem Rep.non_inv {K : PySem.W.Frag} {z : Zw} {v : V} (h : Rep K z .non v) : v = .non := by unfold Rep at h; exact h
theorem sq0 {K : PySem.W.Frag} {H : Hp} {a : Addr} {xs : List V} (h : SqT K H0 a xs) : SqT K H a xs := by
  rcases h with (h | ⟨o, h⟩) | h
  · cases h
  · cases h
  · exact .inr h
theorem sl0 {K : PySem.W.Frag} {H : Hp} {a : Addr} {xs : List V} (h : SqL K H0 a xs) : SqL K H a xs := by
  rcases h with (h | ⟨o, h⟩) | h
  · cases h
  · cases h
  · exact .inr h
theorem Rep.tup_inv {K : PySem.W.Frag} {z : Zw} {ds : List D} {v : V} (h : Rep K z (.tup ds) v) : ∃ a xs, v = .ref a ∧ SqT K z.H a xs ∧ ds.length ≤ SZ ∧ Reps K z ds xs := by
  unfold Rep at h
  obtain ⟨a, xs, e, h1, h2, h3⟩ := h
  refine ⟨a, xs, e, ?_, h2, h3⟩
  rcases h1 with h1 | h1
  · exact SqT.of h1.1
  · exact sq0 h1
theorem Rep.lst_inv {K : PySem.W.Frag} {z : Zw} {ds : List D} {v : V} (h : Rep K z (.lst ds) v) : ∃ a xs, v = .ref a ∧ z.H a = some (.lst xs) ∧ ds.length ≤ SZ ∧ Reps K z ds xs := by
  unfold Rep at h
  obtain ⟨a, xs, e, h1, h2, h3⟩ := h
  exact ⟨a, xs, e, h1.1, h2, h3⟩
theorem Rep.rol_inv {K : PySem.W.Frag} {z : Zw} {ds : List D} {v : V} (h : Rep K z (.rol ds) v) : ∃ a xs, v = .ref a ∧ SqL K z.H a xs ∧ ds.length ≤ SZ ∧ Reps K z ds xs := by
  unfold Rep at h
  obtain ⟨a, xs, e, h1, h2, h3⟩ := h
  refine ⟨a, xs, e, ?_, h2, h3⟩
  rcases h1 with ⟨o, h1⟩ | h1
  · exact .inl (.inr ⟨o, h1.1⟩)
  · exact sl0 h1
theorem obj_inv {K : PySem.W.Frag} {z : Zw} {r : Nat} {ds : List D} {v : V} (s : StOk K z) (h : Rep K z (.obj r) v) (q : z.S[r]? = some (MO.lst ds)) : ∃ a xs, v = .ref a ∧ z.ρ[r]? = some a ∧ z.H a = some (.lst xs) ∧ ds.length ≤ SZ ∧ Reps K z ds xs := by
  unfold Rep at h
  obtain ⟨a, e, h1⟩ := h
  obtain ⟨xs, h2, h3, h4⟩ := s.ob r _ a q h1
  exact ⟨a, xs, e, h1, h2, h3, h4⟩
theorem new_tup {K : PySem.W.Frag} {z : Zw} {ds : List D} {xs : List V} {p : Addr} (s : StOk K z) (hp : z.H p = none) (hl : ds.length ≤ SZ) (r : Reps K z ds xs) :
    ∃ z1 : Zw, z1.H = upd z.H p (.tup xs) ∧ z1.S = z.S ∧ Ext z z1 ∧ StOk K z1 ∧ Rep K z1 (.tup ds) (.ref p) := by
  obtain ⟨x, s1, i⟩ := new_im s (.tup xs) hp
  refine ⟨⟨z.hd, z.ρ, z.S, upd z.H p (.tup xs)⟩, rfl, rfl, x, s1, ?_⟩
  unfold Rep
  exact ⟨p, xs, rfl, .inl i, hl, r.mono x⟩
theorem new_lst {K : PySem.W.Frag} {z : Zw} {ds : List D} {xs : List V} {p : Addr} (s : StOk K z) (hp : z.H p = none) (hl : ds.length ≤ SZ) (r : Reps K z ds xs) :
    ∃ z1 : Zw, z1.H = upd z.H p (.lst xs) ∧ z1.S = z.S ∧ Ext z z1 ∧ StOk K z1 ∧ Rep K z1 (.lst ds) (.ref p) := by
  obtain ⟨x, s1, i⟩ := new_im s (.lst xs) hp
  refine ⟨⟨z.hd, z.ρ, z.S, upd z.H p (.lst xs)⟩, rfl, rfl, x, s1, ?_⟩
  unfold Rep
  exact ⟨p, xs, rfl, i, hl, r.mono x⟩
theorem sz_le {n : Nat} : n ≤ SZ ↔ n ≤ sizeLine := by rw [sizeLine_eq]
theorem nat_abs_64 {i : Int} (h : i.natAbs < 2 ^ 64) : -(2 ^ 64) < i ∧ i < 2 ^ 64 := by omega
def boOf : BO → Operator
  | .add => .Add | .sub => .Sub | .mul => .Mult | .mod => .Mod | .fdiv => .FloorDiv | .pow => .Pow | .band => .BitAnd | .bor => .BitOr | .shr => .RShift | .shl => .LShift
theorem repT_self {l : Addr} {items : Array Value} {n : Nat} {dd : Option Addr} {sl : Array (Option Value)} {u : Tok} :
    Meets (Builtin.«tuple.__mul__» ⟨[.ref l, .int 1 u], []⟩) (fun _ R s => s.heap.get? l = some { cls := .type "tuple", dict := dd, data := .seq items n, slots := sl } ∧ R (.ok (.ret (Value.ref l))) s) :=
  .of_wp fun prog w A R s h => by
    obtain ⟨hp, g, d, tk, os⟩ := s
    obtain ⟨hl, h⟩ := h
    have f1 := AutoSeq1.idx_int
    wp_walk using wpAny_loadPart' hl
    repeat (first
      | (refine wpAny_ite_true (by simp) ?_; wp_walk using wpAny_loadPart' hl)
      | (refine wpAny_ite_false (by simp) ?_; wp_walk using wpAny_loadPart' hl))
    all_goals exact ⟨_, rfl, h⟩
def rRepT1 (K : PySem.W.Frag) : R2 := fun x y H Q => ∃ l xs, x = .ref l ∧ y = .int 1 ∧ SqT K H l xs ∧ Q (.ref l) H
theorem op_repT1 : OpR X (binaryOp .Mult) (rRepT1 X.K) := by
  intro pins s σ H x y v u Q I rx ry h
  obtain ⟨l, xs, rfl, rfl, hT, q⟩ := h
  cases rx
  obtain ⟨t, rfl⟩ := ry
  obtain ⟨its, r, ⟨⟨cls, dd, data, sl⟩, ho, hc, n, hd⟩, hs⟩ := I.tuple hT
  simp only at hc hd
  subst hc hd
  refine wpAny_binaryOp_repeat_ref (T := "tuple") (U := "int") (by decide) ⟨_, ho, rfl⟩ (fun s' => typeIs_int s' 1 t) noFill_tuple_mul F.fills_int_mul F.slot_int_rmul repeat_tuple F.slot_int_index.lookup
    (call_meets F.slot_int_rmul (typeIs_int s 1 t) F.entry_int_rmul (F.args_int_rmul_2 _ _) (int_rmul_tuple 1 t l its.toArray n dd sl)
      ⟨ho, rfl, ⟨_, ho, rfl⟩, call_meets F.slot_tuple_mul ⟨_, ho, rfl⟩ F.entry_tuple_mul (F.args_tuple_mul_2 _ _) repT_self ⟨ho, ?_⟩⟩)
  exact ⟨.ref l, H, I, rfl, q⟩
theorem op_bo (o : BO) : OpR X (binaryOp (boOf o)) (rD X (binop o)) := by
  intro pins s σ H v u v' u' Q I rv ru h
  obtain ⟨z, x, y, d, rfl, hs, hx, hy, hg, q⟩ := h
  have q0 : ∀ w, Rep X.K z d w → Q w z.H := fun w r => q w z rfl (Ext.refl z) hs r
  unfold binop at hg
  split at hg
  · obtain rfl := Option.some.inj hg
    exact op_add pins s σ _ _ _ _ _ Q I rv ru ⟨_, _, hx.int_inv, hy.int_inv, q0 _ .int_⟩
  · split at hg
    · rename_i hz
      obtain rfl := Option.some.inj hg
      exact op_add_str pins s σ _ _ _ _ _ Q I rv ru ⟨_, _, hx.str_inv, hy.str_inv, sz_le.mp hz, q0 _ .str_⟩
    · cases hg
  · split at hg
    · rename_i xs ys hz
      obtain rfl := Option.some.inj hg
      have hx0 := hx
      have hy0 := hy
      obtain ⟨a, vs, e1, h1, _, r1⟩ := hx.tup_inv
      obtain ⟨b, ws, e2, h2, _, r2⟩ := hy.tup_inv
      subst e1 e2
      have l1 := r1.length
      have l2 := r2.length
      refine op_catA pins s σ _ _ _ _ _ Q I rv ru ⟨a, b, vs, ws, rfl, rfl, h1, h2, by rw [← l1, ← l2]; exact sz_le.mp hz, fun e => ?_, fun _ e => ?_, fun _ _ p hp => ?_⟩
      · have : xs = [] := List.eq_nil_of_length_eq_zero (by rw [l1, e]; rfl)
        subst this
        exact q0 _ (by simpa using hy0)
      · have : ys = [] := List.eq_nil_of_length_eq_zero (by rw [l2, e]; rfl)
        subst this
        exact q0 _ (by simpa using hx0)
      · obtain ⟨z1, e1, e2, e3, e4, e5⟩ := new_tup hs hp (by simpa using hz) (r1.app r2)
        rw [← e1]; exact q _ z1 e2 e3 e4 e5
    · cases hg
  · split at hg
    · rename_i xs ys hz
      obtain rfl := Option.some.inj hg
      obtain ⟨a, vs, e1, h1, _, r1⟩ := hx.lst_inv
      obtain ⟨b, ws, e2, h2, _, r2⟩ := hy.lst_inv
      subst e1 e2
      refine op_cat pins s σ _ _ _ _ _ Q I rv ru ⟨a, b, vs, ws, rfl, rfl, h1, h2, by rw [← r1.length, ← r2.length]; exact sz_le.mp hz, fun p hp => ?_⟩
      obtain ⟨z1, e1, e2, e3, e4, e5⟩ := new_lst hs hp (by simpa using hz) (r1.app r2)
      rw [← e1]; exact q _ z1 e2 e3 e4 e5
    · cases hg
  · obtain rfl := Option.some.inj hg
    exact op_sub pins s σ _ _ _ _ _ Q I rv ru ⟨_, _, hx.int_inv, hy.int_inv, q0 _ .int_⟩
  · split at hg
    · rename_i hz
      obtain rfl := Option.some.inj hg
      exact op_mul pins s σ _ _ _ _ _ Q I rv ru ⟨_, _, hx.int_inv, hy.int_inv, hz.imp nat_abs_64 nat_abs_64, q0 _ .int_⟩
    · cases hg
  · split at hg
    · rename_i hz
      obtain rfl := Option.some.inj hg
      exact op_mod pins s σ _ _ _ _ _ Q I rv ru ⟨_, _, hx.int_inv, hy.int_inv, hz, q0 _ .int_⟩
    · cases hg
  · split at hg
    · rename_i hz
      obtain rfl := Option.some.inj hg
      exact op_fdiv pins s σ _ _ _ _ _ Q I rv ru ⟨_, _, hx.int_inv, hy.int_inv, hz, q0 _ .int_⟩
    · cases hg
  · split at hg
    · rename_i hz
      obtain rfl := Option.some.inj hg
      exact op_pow pins s σ _ _ _ _ _ Q I rv ru ⟨_, _, hx.int_inv, hy.int_inv, hz, q0 _ .int_⟩
    · cases hg
  · split at hg
    · rename_i xs k hz
      obtain rfl := Option.some.inj hg
      have hx0 := hx
      obtain ⟨a, vs, e1, h1, hl, r1⟩ := hx.tup_inv
      have e2 := hy.int_inv
      subst e1 e2
      have l1 := r1.length
      obtain ⟨z1, z2, z3, z4⟩ := hz
      by_cases hk : k = 1
      · subst hk
        exact op_repT1 pins s σ _ _ _ _ _ Q I rv ru ⟨a, vs, rfl, rfl, h1, q0 _ (by simpa using hx0)⟩
      · refine op_repT pins s σ _ _ _ _ _ Q I rv ru ⟨a, k, vs, rfl, rfl, h1, fun e => z4 (List.eq_nil_of_length_eq_zero (by rw [l1, e]; rfl)), by omega, z2, by rw [← l1]; exact z3, fun p hp => ?_⟩
        have hlen : (List.replicate k.toNat xs).flatten.length ≤ SZ := by
          rw [List.length_flatten, List.map_replicate, List.sum_replicate_nat]
          have : k.toNat * xs.length ≤ 1000 * 1000 := Nat.mul_le_mul (by omega) z3
          show _ ≤ 16777216
          omega
        obtain ⟨z1, e1, e2, e3, e4, e5⟩ := new_tup hs hp hlen (r1.rep k.toNat)
        rw [← e1]; exact q _ z1 e2 e3 e4 e5
    · cases hg
  · obtain rfl := Option.some.inj hg
    exact op_and pins s σ _ _ _ _ _ Q I rv ru ⟨_, _, hx.int_inv, hy.int_inv, q0 _ .int_⟩
  · split at hg
    · rename_i hz
      obtain rfl := Option.some.inj hg
      exact op_shr pins s σ _ _ _ _ _ Q I rv ru ⟨_, _, hx.int_inv, hy.int_inv, hz, q0 _ .int_⟩
    · cases hg
  · cases hg
end
/-! ### comparisons -/
def coOf : CO → CmpOp
  | .eq => .Eq | .ne => .NotEq | .lt => .Lt | .le => .LtE | .gt => .Gt | .ge => .GtE | .isn => .Is | .nisn => .IsNot | .inn => .In | .nin => .NotIn
section
variable {K : PySem.W.Frag} {z : Zw}
mutual
theorem dat_py : ∀ {d : D} {v : V}, d.dat = true → Rep K z d v → ∃ p, d.py = some p ∧ p.plain = true ∧ Dp K z.H v p
  | .non, v, _, h => by cases h.non_inv; exact ⟨_, rfl, rfl, .non⟩
  | .bl b, v, _, h => by cases h.bl_inv; exact ⟨_, rfl, rfl, .bl b⟩
  | .int b, v, _, h => by cases h.int_inv; exact ⟨_, rfl, rfl, .int b⟩
  | .str b, v, _, h => by cases h.str_inv; exact ⟨_, rfl, rfl, .str b⟩
  | .tup ds, v, e, h => by
    obtain ⟨a, xs, rfl, h1, _, h3⟩ := h.tup_inv
    obtain ⟨ps, q1, q2, q3⟩ := dats_py (ds := ds) (by simpa [D.dat] using e) h3
    exact ⟨.tuple ps, by simp [D.py, q1], by simpa [PyData.plain] using q2, .tup h1 q3⟩
  | .lst ds, v, e, h => by
    obtain ⟨a, xs, rfl, h1, _, h3⟩ := h.lst_inv
    obtain ⟨ps, q1, q2, q3⟩ := dats_py (ds := ds) (by simpa [D.dat] using e) h3
    exact ⟨.list ps, by simp [D.py, q1], by simpa [PyData.plain] using q2, .lst (.of h1) q3⟩
  | .rol ds, _, e, _ => by simp [D.dat] at e
  | .obj r, _, e, _ => by simp [D.dat] at e
  | .edic, _, e, _ => by simp [D.dat] at e
theorem dats_py : ∀ {ds : List D} {vs : List V}, dats ds = true → Reps K z ds vs → ∃ ps, pys ds = some ps ∧ PyData.plainAll ps = true ∧ DpAll K z.H vs ps
  | [], _, _, h => by cases h.nil_inv; exact ⟨[], rfl, rfl, .nil⟩
  | d :: ds, _, e, h => by
    obtain ⟨v, r, rfl, h1, h2⟩ := h.cons_inv
    have e : d.dat = true ∧ dats ds = true := by simpa [dats] using e
    obtain ⟨p, a1, a2, a3⟩ := dat_py e.1 h1
    obtain ⟨ps, b1, b2, b3⟩ := dats_py e.2 h2
    exact ⟨p :: ps, by simp [pys, a1, b1], by simp [PyData.plainAll, a2, b2], .cons a3 b3⟩
end
mutual
theorem flat_depth : ∀ {d : D} {n : Nat} {p : PyData}, d.flat n = true → d.py = some p → p.depth ≤ n
  | .non, n, p, _, h => by cases h; simp [PyData.depth]
  | .bl b, n, p, _, h => by cases h; simp [PyData.depth]
  | .int b, n, p, _, h => by cases h; simp [PyData.depth]
  | .str b, n, p, _, h => by cases h; simp [PyData.depth]
  | .tup ds, 0, p, e, h => by simp [D.flat] at e
  | .tup ds, n + 1, p, e, h => by
    unfold D.py at h
    split at h
    · cases h
      have := flats_depth (ds := ds) (n := n) (by simpa [D.flat] using e) (by assumption)
      simp [PyData.depth]; omega
    · cases h
  | .lst ds, 0, p, e, h => by simp [D.flat] at e
  | .lst ds, n + 1, p, e, h => by
    unfold D.py at h
    split at h
    · cases h
      have := flats_depth (ds := ds) (n := n) (by simpa [D.flat] using e) (by assumption)
      simp [PyData.depth]; omega
    · cases h
  | .rol ds, _, _, _, h => by simp [D.py] at h
  | .obj r, _, _, _, h => by simp [D.py] at h
  | .edic, _, _, _, h => by simp [D.py] at h
theorem flats_depth : ∀ {ds : List D} {n : Nat} {ps : List PyData}, flats n ds = true → pys ds = some ps → PyData.depthAll ps ≤ n
  | [], n, ps, _, h => by cases h; simp [PyData.depthAll]
  | d :: ds, n, ps, e, h => by
    unfold pys at h
    split at h
    · cases h
      have e : d.flat n = true ∧ flats n ds = true := by simpa [flats] using e
      have h1 := flat_depth (d := d) e.1 (by assumption)
      have h2 := flats_depth (ds := ds) e.2 (by assumption)
      simp [PyData.depthAll]; omega
    · cases h
end
mutual
theorem eqv_py : ∀ {x y : D} {p q : PyData}, x.py = some p → y.py = some q → PyData.eqv p q = x.eqv y
  | .tup xs, y, p, q, h1, h2 => by
    unfold D.py at h1
    split at h1
    · cases h1
      cases y <;> simp only [D.py] at h2 <;> first
        | (split at h2 <;> cases h2 <;> simp only [PyData.eqv, D.eqv] <;> (try exact eqvs_py (by assumption) (by assumption)))
        | (cases h2 <;> simp [PyData.eqv, D.eqv])
    · cases h1
  | .lst xs, y, p, q, h1, h2 => by
    unfold D.py at h1
    split at h1
    · cases h1
      cases y <;> simp only [D.py] at h2 <;> first
        | (split at h2 <;> cases h2 <;> simp only [PyData.eqv, D.eqv] <;> (try exact eqvs_py (by assumption) (by assumption)))
        | (cases h2 <;> simp [PyData.eqv, D.eqv])
    · cases h1
  | .non, y, p, q, h1, h2 => by
    cases h1
    cases y <;> simp only [D.py] at h2 <;> first
      | (split at h2 <;> cases h2 <;> simp [PyData.eqv, D.eqv])
      | (cases h2 <;> simp [PyData.eqv, D.eqv])
  | .bl b, y, p, q, h1, h2 => by
    cases h1
    cases y <;> simp only [D.py] at h2 <;> first
      | (split at h2 <;> cases h2 <;> simp [PyData.eqv, D.eqv])
      | (cases h2 <;> simp [PyData.eqv, D.eqv])
  | .int b, y, p, q, h1, h2 => by
    cases h1
    cases y <;> simp only [D.py] at h2 <;> first
      | (split at h2 <;> cases h2 <;> simp [PyData.eqv, D.eqv])
      | (cases h2 <;> simp [PyData.eqv, D.eqv])
  | .str b, y, p, q, h1, h2 => by
    cases h1
    cases y <;> simp only [D.py] at h2 <;> first
      | (split at h2 <;> cases h2 <;> simp [PyData.eqv, D.eqv])
      | (cases h2 <;> simp [PyData.eqv, D.eqv])
  | .rol ds, _, _, _, h, _ => by simp [D.py] at h
  | .obj r, _, _, _, h, _ => by simp [D.py] at h
  | .edic, _, _, _, h, _ => by simp [D.py] at h
theorem eqvs_py : ∀ {xs ys : List D} {ps qs : List PyData}, pys xs = some ps → pys ys = some qs → PyData.eqvAll ps qs = eqvs xs ys
  | [], ys, ps, qs, h1, h2 => by
    cases h1
    cases ys with
    | nil => cases h2; rfl
    | cons y ys =>
      unfold pys at h2
      split at h2
      · cases h2; rfl
      · cases h2
  | x :: xs, ys, ps, qs, h1, h2 => by
    unfold pys at h1
    split at h1
    · cases h1
      cases ys with
      | nil => cases h2; rfl
      | cons y ys =>
        unfold pys at h2
        split at h2
        · cases h2
          simp only [PyData.eqvAll, eqvs]
          rw [eqv_py (x := x) (y := y) (by assumption) (by assumption), eqvs_py (xs := xs) (ys := ys) (by assumption) (by assumption)]
        · cases h2
    · cases h1
end
theorem isIn_py {x : D} {p : PyData} (h : x.py = some p) : ∀ {ds : List D} {ps : List PyData}, pys ds = some ps → (ps.any fun y => PyData.eqv y p) = isIn x ds
  | [], ps, e => by cases e; rfl
  | d :: ds, ps, e => by
    unfold pys at e
    split at e
    · cases e
      unfold isIn
      simp only [List.any_cons]
      rw [eqv_py (x := d) (y := x) (by assumption) h]
      have := isIn_py h (ds := ds) (by assumption)
      unfold isIn at this
      rw [this]
    · cases e
end
theorem rep_non {K : PySem.W.Frag} {z : Zw} {x : D} {v : V} (h : Rep K z x v) : decide (v = V.non) = x.isNon := by
  cases x with
  | non => rw [h.non_inv]; rfl
  | bl b => rw [h.bl_inv]; rfl
  | int b => rw [h.int_inv]; rfl
  | str b => rw [h.str_inv]; rfl
  | tup ds => obtain ⟨a, xs, rfl, _⟩ := h.tup_inv; rfl
  | lst ds => obtain ⟨a, xs, rfl, _⟩ := h.lst_inv; rfl
  | rol ds => obtain ⟨a, xs, rfl, _⟩ := h.rol_inv; rfl
  | obj r => unfold Rep at h; obtain ⟨a, rfl, _⟩ := h; rfl
  | edic => unfold Rep at h; obtain ⟨a, rfl, _⟩ := h; rfl
section
variable {X : Cx} {pins : List (Addr × Obj)} {s : Shared} {σ : L2.St} {z : Zw} {v u : V} {v' u' : Value} {x y : D}
theorem two_py (I : Inv X pins σ z.H s) (rv : RelV v v') (ru : RelV u u') (hx : Rep X.K z x v) (hy : Rep X.K z y u) (h : (x.dat && y.dat && (x.flat 64 || y.flat 64)) = true) (hu : X.A.units + 65 < cLine) :
    ∃ p q as bs, Reads s.heap v' p as ∧ Reads s.heap u' q bs ∧ p.plain = true ∧ q.plain = true ∧ X.A.units + min p.depth q.depth < cLine ∧ PyData.eqv p q = x.eqv y := by
  simp only [Bool.and_eq_true, Bool.or_eq_true] at h
  obtain ⟨⟨h1, h2⟩, h3⟩ := h
  obtain ⟨p, p1, p2, p3⟩ := dat_py h1 hx
  obtain ⟨q, q1, q2, q3⟩ := dat_py h2 hy
  obtain ⟨as, r1⟩ := Dp.reads I p v v' p3 rv
  obtain ⟨bs, r2⟩ := Dp.reads I q u u' q3 ru
  refine ⟨p, q, as, bs, r1, r2, p2, q2, ?_, eqv_py p1 q1⟩
  have m1 := Nat.min_le_left p.depth q.depth
  have m2 := Nat.min_le_right p.depth q.depth
  rcases h3 with h3 | h3
  · have := flat_depth h3 p1; omega
  · have := flat_depth h3 q1; omega
theorem op_co (o : CO) (hu : X.A.units + 65 < cLine) : OpR X (compareOp (coOf o)) (rD X (fun x y => (cmpop o x y).map .bl)) := by
  intro pins s σ H v u v' u' Q I rv ru h
  obtain ⟨z, x, y, d, rfl, hs, hx, hy, hgm, q⟩ := h
  obtain ⟨b, hg, rfl⟩ := Option.map_eq_some_iff.mp hgm
  clear hgm
  have q0 : Q (.bl b) z.H := q _ z rfl (Ext.refl z) hs .bl_
  have fin : ∀ {s' : Shared}, Inv X pins σ z.H s' → EP X pins σ Q (.bool b) s' := fun I' => ⟨.bl b, z.H, I', rfl, q0⟩
  have inn : ∀ {ds : List D}, (x.dat && dats ds && (x.flat 64 || flats 64 ds)) = true → ∀ {p : PyData} {ps : List PyData}, x.py = some p → pys ds = some ps → X.A.units + 1 + min (PyData.depthAll ps) p.depth < cLine := fun {ds} h {p ps} e1 e2 => by
    simp only [Bool.and_eq_true, Bool.or_eq_true] at h
    have m1 := Nat.min_le_left (PyData.depthAll ps) p.depth
    have m2 := Nat.min_le_right (PyData.depthAll ps) p.depth
    rcases h.2 with h3 | h3
    · have := flat_depth h3 e1; omega
    · have := flats_depth h3 e2; omega
  unfold cmpop at hg
  split at hg
  · obtain rfl := Option.some.inj hg
    refine op_isN pins s σ _ _ _ _ _ Q I rv ru ⟨hy.non_inv, ?_⟩
    rw [rep_non hx]; exact q0
  · obtain rfl := Option.some.inj hg
    refine op_notN pins s σ _ _ _ _ _ Q I rv ru ⟨hy.non_inv, ?_⟩
    rw [rep_non hx]; exact q0
  · obtain rfl := Option.some.inj hg
    refine op_isBl pins s σ _ _ _ _ _ Q I rv ru ⟨_, _, hx.bl_inv, hy.bl_inv, ?_⟩
    rw [← Bool.beq_eq_decide_eq]; exact q0
  · obtain rfl := Option.some.inj hg
    refine op_notBl pins s σ _ _ _ _ _ Q I rv ru ⟨_, _, hx.bl_inv, hy.bl_inv, ?_⟩
    rw [← Bool.beq_eq_decide_eq]; exact q0
  · obtain rfl := Option.some.inj hg
    exact op_lt pins s σ _ _ _ _ _ Q I rv ru ⟨_, _, hx.int_inv, hy.int_inv, q0⟩
  · obtain rfl := Option.some.inj hg
    exact op_le pins s σ _ _ _ _ _ Q I rv ru ⟨_, _, hx.int_inv, hy.int_inv, q0⟩
  · obtain rfl := Option.some.inj hg
    exact op_gt pins s σ _ _ _ _ _ Q I rv ru ⟨_, _, hx.int_inv, hy.int_inv, q0⟩
  · obtain rfl := Option.some.inj hg
    exact op_ge pins s σ _ _ _ _ _ Q I rv ru ⟨_, _, hx.int_inv, hy.int_inv, q0⟩
  · split at hg
    · rename_i hc
      obtain ⟨p, r, as, bs, r1, r2, p1, p2, hd, he⟩ := two_py I rv ru hx hy hc hu
      refine SeqAt.eq_plain r1 r2 p1 p2 hd ?_
      rw [he, Option.some.inj hg]; exact fin I
    · cases hg
  · split at hg
    · rename_i hc
      obtain ⟨p, r, as, bs, r1, r2, p1, p2, hd, he⟩ := two_py I rv ru hx hy hc hu
      refine SeqAt.ne_plain r1 r2 p1 p2 hd ?_
      rw [he, Option.some.inj hg]; exact fin I
    · cases hg
  · split at hg
    · rename_i ds hc
      have hc' := hc
      simp only [Bool.and_eq_true] at hc'
      obtain ⟨p, p1, p2, p3⟩ := dat_py hc'.1.1 hx
      obtain ⟨a, xs, rfl, h1, _, h3⟩ := hy.tup_inv
      obtain ⟨ps, s1, s2, s3⟩ := dats_py hc'.1.2 h3
      obtain ⟨as, r1⟩ := Dp.reads I p v v' p3 rv
      obtain ⟨bs, r2⟩ := Dp.reads I (.tuple ps) _ u' (.tup h1 s3) ru
      refine SeqAt.in_tuple_data r2 r1 s2 p2 (inn hc p1 s1) ?_
      rw [isIn_py p1 s1, Option.some.inj hg]; exact fin I
    · cases hg
  · split at hg
    · rename_i ds hc
      have hc' := hc
      simp only [Bool.and_eq_true] at hc'
      obtain ⟨p, p1, p2, p3⟩ := dat_py hc'.1.1 hx
      obtain ⟨a, xs, rfl, h1, _, h3⟩ := hy.lst_inv
      obtain ⟨ps, s1, s2, s3⟩ := dats_py hc'.1.2 h3
      obtain ⟨as, r1⟩ := Dp.reads I p v v' p3 rv
      obtain ⟨bs, r2⟩ := Dp.reads I (.list ps) _ u' (.lst (.of h1) s3) ru
      refine SeqAt.in_list_data r2 r1 s2 p2 (inn hc p1 s1) ?_
      rw [isIn_py p1 s1, Option.some.inj hg]; exact fin I
    · cases hg
  · split at hg
    · rename_i ds hc
      have hc' := hc
      simp only [Bool.and_eq_true] at hc'
      obtain ⟨p, p1, p2, p3⟩ := dat_py hc'.1.1 hx
      obtain ⟨a, xs, rfl, h1, _, h3⟩ := hy.tup_inv
      obtain ⟨ps, s1, s2, s3⟩ := dats_py hc'.1.2 h3
      obtain ⟨as, r1⟩ := Dp.reads I p v v' p3 rv
      obtain ⟨bs, r2⟩ := Dp.reads I (.tuple ps) _ u' (.tup h1 s3) ru
      refine SeqAt.notIn_tuple_data r2 r1 s2 p2 (inn hc p1 s1) ?_
      rw [isIn_py p1 s1, Option.some.inj hg]; exact fin I
    · cases hg
  · split at hg
    · rename_i ds hc
      have hc' := hc
      simp only [Bool.and_eq_true] at hc'
      obtain ⟨p, p1, p2, p3⟩ := dat_py hc'.1.1 hx
      obtain ⟨a, xs, rfl, h1, _, h3⟩ := hy.lst_inv
      obtain ⟨ps, s1, s2, s3⟩ := dats_py hc'.1.2 h3
      obtain ⟨as, r1⟩ := Dp.reads I p v v' p3 rv
      obtain ⟨bs, r2⟩ := Dp.reads I (.list ps) _ u' (.lst (.of h1) s3) ru
      refine SeqAt.notIn_list_data r2 r1 s2 p2 (inn hc p1 s1) ?_
      rw [isIn_py p1 s1, Option.some.inj hg]; exact fin I
    · cases hg
  · obtain rfl := Option.some.inj hg
    exact op_in_str pins s σ _ _ _ _ _ Q I rv ru ⟨_, _, hx.str_inv, hy.str_inv, q0⟩
  · obtain rfl := Option.some.inj hg
    exact op_notin_str pins s σ _ _ _ _ _ Q I rv ru ⟨_, _, hx.str_inv, hy.str_inv, q0⟩
  · cases hg
end
end PyI

set_option maxRecDepth 100000
namespace PyI
open PySem PySem.Spec PyProof.Rows L2
section
variable {X : Cx} {W : WX} {pa pb pc : Expr} {fa fb fc : Env → Store → Rs D} {pos : Pos}
/-! ## expressions, one by one -/
/-- the reading of two expressions one behind the other -/
theorem two_step {σ : L2.St} {H : Hp} {R : V → V → Hp → Prop} {α : Type} {g : D → D → Store → Rs α} {Q : α → Zw → Prop}
    (h : ∃ z e, z.H = H ∧ StOk X.K z ∧ EnvOk X.K z e σ ∧ Post X.K X.mg W z ((fa e z.S).bind fun x S => (fb e S).bind fun y S => g x y S) Q)
    (k : ∀ z x y v u, StOk X.K z → Rep X.K z x v → Rep X.K z y u → Post X.K X.mg W z (g x y z.S) Q → R v u z.H) :
    tE X W fa σ H fun v H1 => tE X W fb σ H1 fun u H2 => R v u H2 := by
  obtain ⟨z, e, rfl, hs, he, P⟩ := h
  refine ⟨z, e, rfl, hs, he, P.bind.imp fun x z1 x1 s1 P1 v rv => ⟨z1, e, rfl, s1, he.mono x1, P1.bind.imp fun y z2 x2 s2 P2 u ru => ?_⟩⟩
  exact k z2 x y v u s2 (rv.mono x2) ru P2
theorem s_bin {op : Operator} {g : D → D → Option D} (ho : OpR X (binaryOp op) (rD X g)) (ha : PE X pa (tE X W fa)) (hb : PE X pb (tE X W fb)) :
    PE X (.BinOp pa op pb pos) (tE X W fun e S => (fa e S).bind fun x S => (fb e S).bind fun y S => optR (g x y) S) :=
  PE_imp (pe_op ho ha hb) fun σ H Q h => two_step h fun z x y v u s rv ru P => by
    obtain ⟨d, e, q⟩ : ∃ d, g x y = some d ∧ ∀ w z1, z1.S = z.S → Ext z z1 → StOk X.K z1 → Rep X.K z1 d w → Q w z1.H := by
      cases e : g x y with
      | none => rw [e] at P; exact P.elim
      | some d => rw [e] at P; exact ⟨d, rfl, fun w z1 h1 h2 h3 h4 => P z1 h1 h2 h3 w h4⟩
    exact ⟨z, x, y, d, rfl, s, rv, ru, e, q⟩
theorem s_cmp {op : CmpOp} {g : D → D → Option Bool} (ho : OpR X (compareOp op) (rD X fun x y => (g x y).map .bl)) (ha : PE X pa (tE X W fa)) (hb : PE X pb (tE X W fb)) (hm : behindInMarks op pb = false) :
    PE X (.Compare pa [op] [pb] pos) (tE X W fun e S => (fa e S).bind fun x S => (fb e S).bind fun y S => optR ((g x y).map .bl) S) :=
  PE_imp (pe_cmpR ho ha hb hm) fun σ H Q h => two_step h fun z x y v u s rv ru P => by
    cases e : g x y with
    | none => rw [e] at P; exact P.elim
    | some d =>
      rw [e] at P
      exact ⟨z, x, y, .bl d, rfl, s, rv, ru, (congrArg (Option.map D.bl) e), fun w z1 h1 h2 h3 h4 => P z1 h1 h2 h3 w h4⟩
theorem s_cmpT {op : CmpOp} {g : D → D → Option Bool} (ho : OpR X (compareOp op) (rD X fun x y => (g x y).map .bl)) (ha : PE X pa (tE X W fa)) (hb : PE X pb (tE X W fb)) (hm : behindInMarks op pb = false) :
    PT X (.Compare pa [op] [pb] pos) (tT X W fun e S => (fa e S).bind fun x S => (fb e S).bind fun y S => optR (g x y) S) :=
  PT_imp (pt_cmpR ho ha hb hm) fun σ H Q h => two_step h fun z x y v u s rv ru P => by
    cases e : g x y with
    | none => rw [e] at P; exact P.elim
    | some d =>
      rw [e] at P
      exact ⟨z, x, y, .bl d, rfl, s, rv, ru, (congrArg (Option.map D.bl) e), fun w z1 h1 h2 h3 h4 => ⟨d, h4.bl_inv, P z1 h1 h2 h3⟩⟩
theorem s_chn {op op' : CmpOp} {g g' : D → D → Option Bool} (ho : OpR X (compareOp op) (rD X fun x y => (g x y).map .bl)) (ho' : OpR X (compareOp op') (rD X fun x y => (g' x y).map .bl))
    (ha : PE X pa (tE X W fa)) (hb : PE X pb (tE X W fb)) (hc : PE X pc (tE X W fc)) (hm : lastMarks [op, op'] [pb, pc] = false) :
    PE X (.Compare pa [op, op'] [pb, pc] pos) (tE X W fun e S => (fa e S).bind fun x S => (fb e S).bind fun y S => (optR (g x y) S).bind fun t S =>
      if t then (fc e S).bind fun w S => optR ((g' y w).map .bl) S else .ok (.bl false) S) :=
  PE_imp (pe_chain ho ho' ha hb hc hm) fun σ H Q h => by
    obtain ⟨z, e, rfl, hs, he, P⟩ := h
    refine ⟨z, e, rfl, hs, he, P.bind.imp fun x z1 x1 s1 P1 v rv => ⟨z1, e, rfl, s1, he.mono x1, P1.bind.imp fun y z2 x2 s2 P2 u ru => ?_⟩⟩
    obtain ⟨t, e1, P3⟩ := P2.bind.opt s2
    refine ⟨z2, x, y, .bl t, rfl, s2, rv.mono x2, ru, (congrArg (Option.map D.bl) e1), fun w z3 h1 h2 h3 h4 => ⟨t, h4.bl_inv, ?_⟩⟩
    have he2 := (he.mono x1).mono x2
    cases t with
    | false =>
      rw [if_neg Bool.false_ne_true] at P3 ⊢
      exact P3 z3 h1 h2 h3 _ .bl_
    | true =>
      rw [if_pos rfl] at P3 ⊢
      rw [← h1] at P3
      refine ⟨z3, e, rfl, h3, he2.mono h2, (Post.rebase h2 P3).bind.imp fun w' z4 x4 s4 P4 u' ru' => ?_⟩
      cases e2 : g' y w' with
      | none => rw [e2] at P4; exact P4.elim
      | some b =>
        rw [e2] at P4
        exact ⟨z4, y, w', .bl b, rfl, s4, (ru.mono h2).mono x4, ru', (congrArg (Option.map D.bl) e2), fun w2 z5 k1 k2 k3 k4 => P4 z5 k1 k2 k3 w2 k4⟩
theorem s_chnT {op op' : CmpOp} {g g' : D → D → Option Bool} (ho : OpR X (compareOp op) (rD X fun x y => (g x y).map .bl)) (ho' : OpR X (compareOp op') (rD X fun x y => (g' x y).map .bl))
    (ha : PE X pa (tE X W fa)) (hb : PE X pb (tE X W fb)) (hc : PE X pc (tE X W fc)) (hm : lastMarks [op, op'] [pb, pc] = false) :
    PT X (.Compare pa [op, op'] [pb, pc] pos) (tT X W fun e S => (fa e S).bind fun x S => (fb e S).bind fun y S => (optR (g x y) S).bind fun t S =>
      if t then (fc e S).bind fun w S => optR (g' y w) S else .ok false S) :=
  PT_imp (pt_chain ho ho' ha hb hc hm) fun σ H Q h => by
    obtain ⟨z, e, rfl, hs, he, P⟩ := h
    refine ⟨z, e, rfl, hs, he, P.bind.imp fun x z1 x1 s1 P1 v rv => ⟨z1, e, rfl, s1, he.mono x1, P1.bind.imp fun y z2 x2 s2 P2 u ru => ?_⟩⟩
    obtain ⟨t, e1, P3⟩ := P2.bind.opt s2
    refine ⟨z2, x, y, .bl t, rfl, s2, rv.mono x2, ru, (congrArg (Option.map D.bl) e1), fun w z3 h1 h2 h3 h4 => ⟨t, h4.bl_inv, ?_⟩⟩
    have he2 := (he.mono x1).mono x2
    cases t with
    | false =>
      rw [if_neg Bool.false_ne_true] at P3 ⊢
      exact ⟨false, rfl, P3 z3 h1 h2 h3⟩
    | true =>
      rw [if_pos rfl] at P3 ⊢
      rw [← h1] at P3
      refine ⟨z3, e, rfl, h3, he2.mono h2, (Post.rebase h2 P3).bind.imp fun w' z4 x4 s4 P4 u' ru' => ?_⟩
      cases e2 : g' y w' with
      | none => rw [e2] at P4; exact P4.elim
      | some b =>
        rw [e2] at P4
        exact ⟨z4, y, w', .bl b, rfl, s4, (ru.mono h2).mono x4, ru', (congrArg (Option.map D.bl) e2), fun w2 z5 k1 k2 k3 k4 => ⟨b, k4.bl_inv, P4 z5 k1 k2 k3⟩⟩
/-! ### names, constants -/
theorem s_var {i : Nat} {x : Str} (hN : X.N[i]? = some x) (hv : Vis X.env.scope x) (hd : (x == ("__debug__" : Str)) = false) (hcd : (x == ("__classdict__" : Str)) = false) :
    PE X (.Name x pos) (tE X W fun e S => match e[i]? with | some (some d) => .ok d S | _ => .bad) :=
  PE_imp (pe_var hN hv hd hcd) fun σ H Q h => by
    obtain ⟨z, e, rfl, hs, he, P⟩ := h
    cases q : e[i]? with
    | none => simp only [q] at P; exact P.elim
    | some o =>
      cases o with
      | none => simp only [q] at P; exact P.elim
      | some d =>
        simp only [q] at P
        obtain ⟨v, h1, h2⟩ := he.at_ i d q
        exact ⟨v, h1, Post.val P hs v h2⟩
theorem s_const {d : D} {t : TE} (h : PE X pa t) (r : ∀ σ H Q, (∃ v, (∀ z, Rep X.K z d v) ∧ Q v H) → t σ H Q) (hr : ∃ v, ∀ z, Rep X.K z d v) : PE X pa (tE X W fun _ S => .ok d S) :=
  PE_imp h fun σ H Q hh => by
    obtain ⟨z, e, rfl, hs, he, P⟩ := hh
    obtain ⟨v, hv⟩ := hr
    exact r σ z.H Q ⟨v, hv, Post.val P hs v (hv z)⟩
theorem s_int {i : Int} {j : Nat} : PE X (.Constant (.int i) j pos) (tE X W fun _ S => .ok (.int i) S) := by
  refine s_const pe_int (fun σ H Q h => ?_) ⟨.int i, fun _ => .int_⟩
  obtain ⟨v, hv, q⟩ := h
  have e := (hv ⟨[], [], [], H⟩).int_inv
  subst e; exact q
theorem s_bl {i : Bool} {j : Nat} : PE X (.Constant (.bool i) j pos) (tE X W fun _ S => .ok (.bl i) S) := by
  refine s_const pe_bl (fun σ H Q h => ?_) ⟨.bl i, fun _ => .bl_⟩
  obtain ⟨v, hv, q⟩ := h
  have e := (hv ⟨[], [], [], H⟩).bl_inv
  subst e; exact q
theorem s_str {i : Str} {j : Nat} : PE X (.Constant (.str i) j pos) (tE X W fun _ S => .ok (.str i) S) := by
  refine s_const pe_str (fun σ H Q h => ?_) ⟨.str i, fun _ => .str_⟩
  obtain ⟨v, hv, q⟩ := h
  have e := (hv ⟨[], [], [], H⟩).str_inv
  subst e; exact q
theorem s_non {j : Nat} : PE X (.Constant .none j pos) (tE X W fun _ S => .ok .non S) := by
  refine s_const pe_non (fun σ H Q h => ?_) ⟨.non, fun _ => .non_⟩
  obtain ⟨v, hv, q⟩ := h
  have e := (hv ⟨[], [], [], H⟩).non_inv
  subst e; exact q
theorem s_glo {x : Str} {d : D} {v : V} {u : Value} (hg : Gl X x) (hm : X.mg x = some u) (r : RelV v u) (hr : ∀ z, Rep X.K z d v) (hd : (x == ("__debug__" : Str)) = false) : PE X (.Name x pos) (tE X W fun _ S => .ok d S) :=
  PE_imp (pe_glob hg hm r hd) fun σ H Q hh => by
    obtain ⟨z, e, rfl, hs, he, P⟩ := hh
    exact Post.val P hs v (hr z)
theorem s_neg (ha : PE X pa (tE X W fa)) : PE X (.UnaryOp .USub pa pos) (tE X W fun e S => (fa e S).bind fun x S => match x with | .int i => .ok (.int (-i)) S | _ => .bad) :=
  PE_imp (pe_un un_neg ha) fun σ H Q h => by
    obtain ⟨z, e, rfl, hs, he, P⟩ := h
    refine ⟨z, e, rfl, hs, he, P.bind.imp fun x z1 x1 s1 P1 v rv => ?_⟩
    cases x with
    | int i => exact ⟨i, rv.int_inv, Post.val P1 s1 _ .int_⟩
    | _ => exact P1.elim
/-! ### truth -/
theorem truth_ok {z : Zw} {x : D} {v : V} {b : Bool} (s : StOk X.K z) (r : Rep X.K z x v) (h : truth z.S x = some b) : TruV X.K v z.H b := by
  cases x with
  | non => rw [r.non_inv]; exact (Option.some.inj h).symm
  | bl c => rw [r.bl_inv]; exact (Option.some.inj h).symm
  | int c => rw [r.int_inv]; exact (Option.some.inj h).symm
  | tup ds =>
    obtain ⟨a, xs, rfl, h1, _, h3⟩ := r.tup_inv
    refine .inr (.inl ⟨xs, h1, ?_⟩)
    rw [← Option.some.inj h]
    have := h3.length
    cases ds <;> cases xs <;> simp_all
  | lst ds =>
    obtain ⟨a, xs, rfl, h1, _, h3⟩ := r.lst_inv
    refine .inl ⟨xs, .of h1, ?_⟩
    rw [← Option.some.inj h]
    have := h3.length
    cases ds <;> cases xs <;> simp_all
  | str c => cases h
  | rol ds => cases h
  | obj r => cases h
  | edic => cases h
theorem s_nt (ha : PE X pa (tE X W fa)) : PE X (.UnaryOp .Not pa pos) (tE X W fun e S => (fa e S).bind fun x S => optR ((truth S x).map fun b => .bl (!b)) S) :=
  PE_imp (pe_notT ha) fun σ H Q h => by
    obtain ⟨z, e, rfl, hs, he, P⟩ := h
    refine ⟨z, e, rfl, hs, he, P.bind.imp fun x z1 x1 s1 P1 v rv => ?_⟩
    cases q : truth z1.S x with
    | none => rw [q] at P1; exact P1.elim
    | some b =>
      rw [q] at P1
      exact ⟨b, truth_ok s1 rv q, Post.val P1 s1 _ .bl_⟩
theorem s_and {rest : List Expr} (ha : PE X pa (tE X W fa)) (hb : PE X (.BoolOp .And (pb :: rest) pos) (tE X W fb)) :
    PE X (.BoolOp .And (pa :: pb :: rest) pos) (tE X W fun e S => (fa e S).bind fun x S => (optR (truth S x) S).bind fun t S => if t then fb e S else .ok x S) :=
  PE_imp (pe_andT ha hb) fun σ H Q h => by
    obtain ⟨z, e, rfl, hs, he, P⟩ := h
    refine ⟨z, e, rfl, hs, he, P.bind.imp fun x z1 x1 s1 P1 v rv => ?_⟩
    obtain ⟨t, e1, P2⟩ := P1.bind.opt s1
    refine ⟨t, truth_ok s1 rv e1, ?_⟩
    cases t with
    | false => rw [if_neg Bool.false_ne_true] at P2 ⊢; exact Post.val P2 s1 _ rv
    | true => rw [if_pos rfl] at P2 ⊢; exact ⟨z1, e, rfl, s1, he.mono x1, P2⟩
theorem s_or {rest : List Expr} (ha : PE X pa (tE X W fa)) (hb : PE X (.BoolOp .Or (pb :: rest) pos) (tE X W fb)) :
    PE X (.BoolOp .Or (pa :: pb :: rest) pos) (tE X W fun e S => (fa e S).bind fun x S => (optR (truth S x) S).bind fun t S => if t then .ok x S else fb e S) :=
  PE_imp (pe_orT ha hb) fun σ H Q h => by
    obtain ⟨z, e, rfl, hs, he, P⟩ := h
    refine ⟨z, e, rfl, hs, he, P.bind.imp fun x z1 x1 s1 P1 v rv => ?_⟩
    obtain ⟨t, e1, P2⟩ := P1.bind.opt s1
    refine ⟨t, truth_ok s1 rv e1, ?_⟩
    cases t with
    | false => rw [if_neg Bool.false_ne_true] at P2 ⊢; exact ⟨z1, e, rfl, s1, he.mono x1, P2⟩
    | true => rw [if_pos rfl] at P2 ⊢; exact Post.val P2 s1 _ rv
/-! ### tests -/
variable {ta tb tc : Env → Store → Rs Bool}
theorem s_tst (ha : PE X pa (tE X W fa)) (he : ∀ whole, PySem.isTrue pa X.env whole = (do let v ← whole; standAt pa.pos; holding [v] (truthy v))) :
    PT X pa (tT X W fun e S => (fa e S).bind fun d S => optR (truth S d) S) :=
  PT_imp (pt_truth ha he) fun σ H Q h => by
    obtain ⟨z, e, rfl, hs, he, P⟩ := h
    refine ⟨z, e, rfl, hs, he, P.bind.imp fun x z1 x1 s1 P1 v rv => ?_⟩
    obtain ⟨t, e1, q⟩ := P1.opt s1
    exact ⟨t, truth_ok s1 rv e1, q⟩
theorem s_ntT (ha : PT X pa (tT X W ta)) : PT X (.UnaryOp .Not pa pos) (tT X W fun e S => (ta e S).bind fun b S => .ok (!b) S) :=
  PT_imp (pt_not ha) fun σ H Q h => by
    obtain ⟨z, e, rfl, hs, he, P⟩ := h
    exact ⟨z, e, rfl, hs, he, P.bind.imp fun x z1 x1 s1 P1 => Post.val P1 s1⟩
theorem s_andT {rest : List Expr} (ha : PT X pa (tT X W ta)) (hb : PW X (.BoolOp .And (pb :: rest) pos) (tT X W tb)) :
    PW X (.BoolOp .And (pa :: pb :: rest) pos) (tT X W fun e S => (ta e S).bind fun t S => if t then tb e S else .ok false S) :=
  PW_imp (pw_and ha hb) fun σ H Q h => by
    obtain ⟨z, e, rfl, hs, he, P⟩ := h
    refine ⟨z, e, rfl, hs, he, P.bind.imp fun t z1 x1 s1 P2 => ?_⟩
    cases t with
    | false => rw [if_neg Bool.false_ne_true] at P2 ⊢; exact Post.val P2 s1
    | true => rw [if_pos rfl] at P2 ⊢; exact ⟨z1, e, rfl, s1, he.mono x1, P2⟩
theorem s_orT {rest : List Expr} (ha : PT X pa (tT X W ta)) (hb : PW X (.BoolOp .Or (pb :: rest) pos) (tT X W tb)) :
    PW X (.BoolOp .Or (pa :: pb :: rest) pos) (tT X W fun e S => (ta e S).bind fun t S => if t then .ok true S else tb e S) :=
  PW_imp (pw_or ha hb) fun σ H Q h => by
    obtain ⟨z, e, rfl, hs, he, P⟩ := h
    refine ⟨z, e, rfl, hs, he, P.bind.imp fun t z1 x1 s1 P2 => ?_⟩
    cases t with
    | false => rw [if_neg Bool.false_ne_true] at P2 ⊢; exact ⟨z1, e, rfl, s1, he.mono x1, P2⟩
    | true => rw [if_pos rfl] at P2 ⊢; exact Post.val P2 s1
theorem s_ife (hc : PT X pc (tT X W tc)) (ha : PE X pa (tE X W fa)) (hb : PE X pb (tE X W fb)) :
    PE X (.IfExp pc pa pb pos) (tE X W fun e S => (tc e S).bind fun t S => if t then fa e S else fb e S) :=
  PE_imp (pe_ifExp hc ha hb) fun σ H Q h => by
    obtain ⟨z, e, rfl, hs, he, P⟩ := h
    refine ⟨z, e, rfl, hs, he, P.bind.imp fun t z1 x1 s1 P2 => ?_⟩
    cases t with
    | false => rw [if_neg Bool.false_ne_true] at P2 ⊢; exact ⟨z1, e, rfl, s1, he.mono x1, P2⟩
    | true => rw [if_pos rfl] at P2 ⊢; exact ⟨z1, e, rfl, s1, he.mono x1, P2⟩
theorem pt_ifT {tcc tpa tpb : TT} (hc : PT X pc tcc) (ha : PT X pa tpa) (hb : PT X pb tpb) : PT X (.IfExp pc pa pb pos) (fun σ H Q => tcc σ H fun c H1 => if c = true then tpa σ H1 Q else tpb σ H1 Q) := by
  refine ⟨fun pins s σ H Q I h => ?_⟩
  have e : PySem.isTrue (.IfExp pc pa pb pos) X.env (eval (.IfExp pc pa pb pos) X.env) = (do if ← PySem.isTrue pc X.env (eval pc X.env) then PySem.isTrue pa X.env (eval pa X.env) else PySem.isTrue pb X.env (eval pb X.env)) := by rw [PySem.isTrue]
  rw [e]
  refine wpAny_bind (thn (hc.run pins s σ H _ I h) fun d s1 ⟨H1, I1, q1⟩ => ?_)
  cases d with
  | true => exact ha.run pins s1 σ H1 Q I1 q1
  | false => exact hb.run pins s1 σ H1 Q I1 q1
theorem s_ifeT (hc : PT X pc (tT X W tc)) (ha : PT X pa (tT X W ta)) (hb : PT X pb (tT X W tb)) :
    PT X (.IfExp pc pa pb pos) (tT X W fun e S => (tc e S).bind fun t S => if t then ta e S else tb e S) :=
  PT_imp (pt_ifT hc ha hb) fun σ H Q h => by
    obtain ⟨z, e, rfl, hs, he, P⟩ := h
    refine ⟨z, e, rfl, hs, he, P.bind.imp fun t z1 x1 s1 P2 => ?_⟩
    cases t with
    | false => rw [if_neg Bool.false_ne_true] at P2 ⊢; exact ⟨z1, e, rfl, s1, he.mono x1, P2⟩
    | true => rw [if_pos rfl] at P2 ⊢; exact ⟨z1, e, rfl, s1, he.mono x1, P2⟩
/-! ### lists of expressions, displays -/
variable {es : List Expr} {ga : Env → Store → Rs (List D)}
theorem s_nil : PA X [] (tA X W fun _ S => .ok [] S) :=
  PA_imp pa_nil fun σ H Q h => by
    obtain ⟨z, e, rfl, hs, he, P⟩ := h
    exact Post.val P hs [] .nil
theorem s_cons (ha : PE X pa (tE X W fa)) (hr : PA X es (tA X W ga)) (hst : starEach (pa :: es) X.env = (false, eval pa X.env) :: starEach es X.env) :
    PA X (pa :: es) (tA X W fun e S => (fa e S).bind fun d S => (ga e S).bind fun ds S => .ok (d :: ds) S) :=
  PA_imp (pa_cons ha hr hst) fun σ H Q h => by
    obtain ⟨z, e, rfl, hs, he, P⟩ := h
    refine ⟨z, e, rfl, hs, he, P.bind.imp fun d z1 x1 s1 P1 v rv => ⟨z1, e, rfl, s1, he.mono x1, P1.bind.imp fun ds z2 x2 s2 P2 vs rvs => ?_⟩⟩
    exact Post.val P2 s2 _ (.cons (rv.mono x2) rvs)
theorem s_star {p : Pos} (ha : PE X pa (tE X W fa)) (hr : PA X es (tA X W ga)) :
    PA X (.Starred pa p :: es) (tA X W fun e S => (fa e S).bind fun d S => match d with
      | .tup xs => (ga e S).bind fun ds S => .ok (xs ++ ds) S
      | .lst xs => (ga e S).bind fun ds S => .ok (xs ++ ds) S
      | _ => .bad) :=
  PA_imp (StX.pa_star ha hr rfl) fun σ H Q h => by
    obtain ⟨z, e, rfl, hs, he, P⟩ := h
    refine ⟨z, e, rfl, hs, he, P.bind.imp fun d z1 x1 s1 P1 v rv => ?_⟩
    cases d with
    | tup xs =>
      obtain ⟨a, vs, rfl, h1, _, h3⟩ := rv.tup_inv
      exact ⟨a, vs, rfl, .inl h1, z1, e, rfl, s1, he.mono x1, P1.bind.imp fun ds z2 x2 s2 P2 ws rws => Post.val P2 s2 _ ((h3.mono x2).app rws)⟩
    | lst xs =>
      obtain ⟨a, vs, rfl, h1, _, h3⟩ := rv.lst_inv
      exact ⟨a, vs, rfl, .inr (.of h1), z1, e, rfl, s1, he.mono x1, P1.bind.imp fun ds z2 x2 s2 P2 ws rws => Post.val P2 s2 _ ((h3.mono x2).app rws)⟩
    | _ => exact P1.elim
theorem s_tup {k : Nat} (ha : PA X es (tA X W ga)) : PE X (.Tuple es k pos) (tE X W fun e S => (ga e S).bind fun ds S => if ds.length ≤ SZ then .ok (.tup ds) S else .bad) :=
  PE_imp (pe_tup ha) fun σ H Q h => by
    obtain ⟨z, e, rfl, hs, he, P⟩ := h
    refine ⟨z, e, rfl, hs, he, P.bind.imp fun ds z1 x1 s1 P1 vs rv => ?_⟩
    by_cases hl : ds.length ≤ SZ
    · rw [if_pos hl] at P1
      refine ⟨by rw [← rv.length]; exact sz_le.mp hl, fun p hp => ?_⟩
      obtain ⟨z2, e1, e2, e3, e4, e5⟩ := new_tup s1 hp hl rv
      rw [← e1]; exact P1 z2 e2 e3 e4 _ e5
    · rw [if_neg hl] at P1; exact P1.elim
theorem s_lst (ha : PA X es (tA X W ga)) : PE X (.List es pos) (tE X W fun e S => (ga e S).bind fun ds S => if ds.length ≤ SZ then .ok (.lst ds) S else .bad) :=
  PE_imp (pe_lst ha) fun σ H Q h => by
    obtain ⟨z, e, rfl, hs, he, P⟩ := h
    refine ⟨z, e, rfl, hs, he, P.bind.imp fun ds z1 x1 s1 P1 vs rv => ?_⟩
    by_cases hl : ds.length ≤ SZ
    · rw [if_pos hl] at P1
      refine ⟨by rw [← rv.length]; exact sz_le.mp hl, fun p hp => ?_⟩
      obtain ⟨z2, e1, e2, e3, e4, e5⟩ := new_lst s1 hp hl rv
      rw [← e1]; exact P1 z2 e2 e3 e4 _ e5
    · rw [if_neg hl] at P1; exact P1.elim
theorem obj_new {K : PySem.W.Frag} {z : Zw} {p : Addr} {ds : List D} {xs : List V} (s : StOk K z) (hp : z.H p = none) (hl : ds.length ≤ SZ) (r : Reps K z ds xs) :
    ∃ z1 : Zw, z1.H = upd z.H p (.lst xs) ∧ z1.S = z.S ++ [MO.lst ds] ∧ Ext z z1 ∧ StOk K z1 ∧ Rep K z1 (.obj z.S.length) (.ref p) := by
  obtain ⟨x, s1⟩ := new_ob s hp hl r
  refine ⟨_, rfl, rfl, x, s1, ?_⟩
  unfold Rep
  refine ⟨p, rfl, ?_⟩
  show (z.ρ ++ [p])[z.S.length]? = some p
  rw [← s.len]; simp
theorem s_mls (ha : PA X es (tA X W ga)) : PE X (.List es pos) (tE X W fun e S => (ga e S).bind fun ds S => if ds.length ≤ SZ then .ok (.obj S.length) (S ++ [MO.lst ds]) else .bad) :=
  PE_imp (pe_lst ha) fun σ H Q h => by
    obtain ⟨z, e, rfl, hs, he, P⟩ := h
    refine ⟨z, e, rfl, hs, he, P.bind.imp fun ds z1 x1 s1 P1 vs rv => ?_⟩
    by_cases hl : ds.length ≤ SZ
    · rw [if_pos hl] at P1
      refine ⟨by rw [← rv.length]; exact sz_le.mp hl, fun p hp => ?_⟩
      obtain ⟨z2, e1, e2, e3, e4, e5⟩ := obj_new s1 hp hl rv
      rw [← e1]; exact P1 z2 e2 e3 e4 _ e5
    · rw [if_neg hl] at P1; exact P1.elim
theorem s_dic : PE X (.Dict [] [] pos) (tE X W fun _ S => .ok .edic S) :=
  PE_imp pe_dnewK fun σ H Q h p hp => by
    obtain ⟨z, e, rfl, hs, he, P⟩ := h
    obtain ⟨x, s1, i⟩ := new_im hs (.dK []) hp
    refine P ⟨z.hd, z.ρ, z.S, upd z.H p (.dK [])⟩ rfl x s1 _ ?_
    unfold Rep
    exact ⟨p, rfl, i⟩
end
end PyI

set_option maxRecDepth 100000
namespace PyI
open PySem PySem.Spec PyProof.Rows L2
section
variable {X : Cx} {W : WX} {pa pb pc : Expr} {fa fb fc : Env → Store → Rs D} {pos : Pos}
/-! ## items, slices -/
theorem s_ix (ha : PE X pa (tE X W fa)) (hb : PE X pb (tE X W fb)) (hs : PlainIx pb) :
    PE X (.Subscript pa pb pos) (tE X W fun e S => (fa e S).bind fun x S => (fb e S).bind fun y S => match x with
    | .obj r => match S[r]?, y with
      | some (.lst ds), .int i => optR (atI ds i) S
      | _, _ => .bad
    | _ => optR (ixop x y) S) :=
  PE_imp (pe_ix ix_seq ha hb hs) fun σ H Q h => two_step h fun z x y v u s rv ru P => by
    cases x with
    | obj r =>
      cases e : z.S[r]? with
      | none => simp only [e] at P; exact P.elim
      | some mo =>
        cases mo with
        | lst ds =>
          cases y with
          | int i =>
            simp only [e] at P
            obtain ⟨d, e1, q⟩ := P.opt s
            obtain ⟨a, xs, rfl, _, h1, _, h3⟩ := obj_inv s rv e
            obtain ⟨w, h4, h5⟩ := h3.atI e1
            exact .inl ⟨a, xs, i, w, rfl, ru.int_inv, .of h1, h4, q w h5⟩
          | _ => simp only [e] at P; exact P.elim
        | _ => simp only [e] at P; exact P.elim
    | tup ds =>
      obtain ⟨d, e1, q⟩ := P.opt s
      cases y with
      | int i =>
        obtain ⟨a, xs, rfl, h1, _, h3⟩ := rv.tup_inv
        obtain ⟨w, h4, h5⟩ := h3.atI e1
        exact .inr (.inl ⟨a, xs, i, w, rfl, ru.int_inv, h1, h4, q w h5⟩)
      | _ => cases e1
    | lst ds =>
      obtain ⟨d, e1, q⟩ := P.opt s
      cases y with
      | int i =>
        obtain ⟨a, xs, rfl, h1, _, h3⟩ := rv.lst_inv
        obtain ⟨w, h4, h5⟩ := h3.atI e1
        exact .inl ⟨a, xs, i, w, rfl, ru.int_inv, .of h1, h4, q w h5⟩
      | _ => cases e1
    | str t =>
      obtain ⟨d, e1, q⟩ := P.opt s
      cases y with
      | int i =>
        simp only [ixop] at e1
        split at e1
        · rename_i hz
          obtain ⟨c, e2, rfl⟩ := Option.map_eq_some_iff.mp e1
          exact .inr (.inr ⟨t, i, c, rv.str_inv, ru.int_inv, sz_le.mp hz, e2, q _ .str_⟩)
        · cases e1
      | _ => cases e1
    | _ => obtain ⟨d, e1, q⟩ := P.opt s; cases y <;> cases e1
variable {po ph : Option Expr} {ol oh : Env → Store → Rs (Option Int)}
theorem s_no : PO X none (tO X W fun _ S => .ok none S) :=
  PO_imp po_none fun σ H Q h => by
    obtain ⟨z, e, rfl, hs, he, P⟩ := h
    exact Post.val P hs
theorem s_so (ha : PE X pa (tE X W fa)) : PO X (some pa) (tO X W fun e S => (fa e S).bind fun d S => match d with | .int i => .ok (some i) S | _ => .bad) :=
  PO_imp (po_some ha) fun σ H Q h => by
    obtain ⟨z, e, rfl, hs, he, P⟩ := h
    refine ⟨z, e, rfl, hs, he, P.bind.imp fun d z1 x1 s1 P1 v rv => ?_⟩
    cases d with
    | int i => exact ⟨i, rv.int_inv, Post.val P1 s1⟩
    | _ => exact P1.elim
theorem s_sl {p2 : Pos} (ha : PE X pa (tE X W fa)) (hl : PO X po (tO X W ol)) (hh : PO X ph (tO X W oh)) :
    PE X (.Subscript pa (.Slice po ph none p2) pos) (tE X W fun e S => (fa e S).bind fun x S => (ol e S).bind fun l S => (oh e S).bind fun h S => match x with
    | .obj r => match S[r]? with
      | some (.lst ds) => .ok (.lst (cut ds l h)) S
      | _ => .bad
    | _ => optR (slop x l h) S) :=
  PE_imp (pe_slice (SlR.or sl_list (SlR.or sl_tupA sl_str)) ha hl hh) fun σ H Q h => by
    obtain ⟨z, e, rfl, hs, he, P⟩ := h
    refine ⟨z, e, rfl, hs, he, P.bind.imp fun x z1 x1 s1 P1 v rv => ⟨z1, e, rfl, s1, he.mono x1, P1.bind.imp fun l z2 x2 s2 P2 => ⟨z2, e, rfl, s2, (he.mono x1).mono x2, P2.bind.imp fun h z3 x3 s3 P3 => ?_⟩⟩⟩
    have rv := (rv.mono x2).mono x3
    have cl : ∀ ds : List D, (cut ds l h).length ≤ ds.length := fun ds => by
      unfold cut
      rw [List.length_take, List.length_drop]; omega
    cases x with
    | obj r =>
      cases e1 : z3.S[r]? with
      | none => simp only [e1] at P3; exact P3.elim
      | some mo =>
        cases mo with
        | lst ds =>
          simp only [e1] at P3
          obtain ⟨a, xs, rfl, _, h1, h2, h3⟩ := obj_inv s3 rv e1
          refine .inl ⟨a, xs, rfl, .of h1, fun p hp => ?_⟩
          obtain ⟨z4, e4, e5, e6, e7, e8⟩ := new_lst s3 hp (Nat.le_trans (cl ds) h2) (h3.cut l h)
          rw [← e4]; exact P3 z4 e5 e6 e7 _ e8
        | _ => simp only [e1] at P3; exact P3.elim
    | lst ds =>
      obtain ⟨d, e1, q⟩ := P3.opt s3
      cases e1
      obtain ⟨a, xs, rfl, h1, h2, h3⟩ := rv.lst_inv
      refine .inl ⟨a, xs, rfl, .of h1, fun p hp => ?_⟩
      obtain ⟨z4, e4, e5, e6, e7, e8⟩ := new_lst s3 hp (Nat.le_trans (cl ds) h2) (h3.cut l h)
      rw [← e4]; exact P3 z4 e5 e6 e7 _ e8
    | rol ds =>
      obtain ⟨d, e1, q⟩ := P3.opt s3
      cases e1
      obtain ⟨a, xs, rfl, h1, h2, h3⟩ := rv.rol_inv
      refine .inl ⟨a, xs, rfl, h1, fun p hp => ?_⟩
      obtain ⟨z4, e4, e5, e6, e7, e8⟩ := new_lst s3 hp (Nat.le_trans (cl ds) h2) (h3.cut l h)
      rw [← e4]; exact P3 z4 e5 e6 e7 _ e8
    | tup ds =>
      obtain ⟨d, e1, q⟩ := P3.opt s3
      cases e1
      have rv0 := rv
      obtain ⟨a, xs, rfl, h1, h2, h3⟩ := rv.tup_inv
      refine .inr (.inl ⟨a, xs, rfl, h1, fun hw => ?_, fun _ p hp => ?_⟩)
      · have e9 : cut ds l h = ds := by
          unfold cut
          rw [h3.length, hw.1, hw.2]
          simp [← h3.length]
        rw [e9] at q; exact q _ rv0
      · obtain ⟨z4, e4, e5, e6, e7, e8⟩ := new_tup s3 hp (Nat.le_trans (cl ds) h2) (h3.cut l h)
        rw [← e4]; exact P3 z4 e5 e6 e7 _ e8
    | str t =>
      obtain ⟨d, e1, q⟩ := P3.opt s3
      have hz : t.length ≤ SZ := by
        by_cases hz : t.length ≤ SZ
        · exact hz
        · simp only [slop, if_neg hz] at e1; cases e1
      simp only [slop, if_pos hz] at e1
      cases e1
      exact .inr (.inr ⟨t, rv.str_inv, sz_le.mp hz, q _ .str_⟩)
    | _ => obtain ⟨d, e1, q⟩ := P3.opt s3; cases e1
/-! ## isinstance -/
def tyN : Ty → String
  | .int => "int" | .bool => "bool" | .str => "str" | .tuple => "tuple" | .list => "list" | .dict => "dict"
/-- the type of a value by its data -/
def dTy (S : Store) : D → Option String
  | .non => some "NoneType"
  | .bl _ => some "bool"
  | .int _ => some "int"
  | .str _ => some "str"
  | .tup _ => some "tuple"
  | .lst _ => some "list"
  | .edic => some "dict"
  | .obj r => match S[r]? with
    | some (.lst _) => some "list"
    | _ => none
  | .rol _ => none
theorem kit_all : ∀ t : Ty, kitB "NoneType" (tyN t) = some false ∧ kitB "bool" (tyN t) = some (t == .int || t == .bool) ∧ kitB "int" (tyN t) = some (t == .int) ∧ kitB "str" (tyN t) = some (t == .str) ∧
    kitB "tuple" (tyN t) = some (t == .tuple) ∧ kitB "list" (tyN t) = some (t == .list) ∧ kitB "dict" (tyN t) = some (t == .dict) := by
  intro t
  cases t <;> refine ⟨?_, ?_, ?_, ?_, ?_, ?_, ?_⟩ <;> decide +kernel
theorem isTy_ok {z : Zw} {x : D} {v : V} (s : StOk X.K z) (r : Rep X.K z x v) {n : String} (h : dTy z.S x = some n) : TyX X.K z.H v (.type n) := by
  cases x with
  | non => cases h; rw [r.non_inv]; exact .base .non
  | bl b => cases h; rw [r.bl_inv]; exact .base (.bl b)
  | int b => cases h; rw [r.int_inv]; exact .base (.int b)
  | str b => cases h; rw [r.str_inv]; exact .base (.str b)
  | tup ds =>
    cases h
    unfold Rep at r
    obtain ⟨a, xs, rfl, h1, _⟩ := r
    rcases h1 with h1 | h1
    · exact .base (.tup h1.1)
    · rcases h1 with (h1 | ⟨o, h1⟩) | ⟨o, its, n, h1, h2, _⟩
      · cases h1
      · cases h1
      · exact .kTuple h1 h2
  | lst ds => cases h; obtain ⟨a, xs, rfl, h1, _⟩ := r.lst_inv; exact .base (.lst h1)
  | rol ds => cases h
  | edic =>
    cases h
    unfold Rep at r
    obtain ⟨a, rfl, h1⟩ := r
    exact .base (.dK h1.1)
  | obj r' =>
    simp only [dTy] at h
    split at h
    · rename_i ds e
      cases h
      obtain ⟨a, xs, rfl, _, h1, _⟩ := obj_inv s r e
      exact .base (.lst h1)
    · cases h
theorem isTy_kit {S : Store} {x : D} {n : String} (h : dTy S x = some n) (t : Ty) {b : Bool} (hb : isTy S x t = some b) : kitB n (tyN t) = some b := by
  obtain ⟨k1, k2, k3, k4, k5, k6, k7⟩ := kit_all t
  cases x <;> simp only [dTy] at h <;> simp only [isTy] at hb <;> first
    | (cases h; cases hb; assumption)
    | (split at h <;> first | (cases h; rename_i e; simp only [e] at hb; cases hb; assumption) | cases h)
    | (cases h)
theorem isTy_some {S : Store} {x : D} {t : Ty} {b : Bool} (hb : isTy S x t = some b) : ∃ n, dTy S x = some n := by
  cases x <;> simp only [isTy] at hb <;> first
    | exact ⟨_, rfl⟩
    | (split at hb <;> first | cases hb; done | (rename_i e; exact ⟨"list", by simp only [dTy, e]⟩))
    | cases hb
theorem isTys_kit {K : PySem.W.Frag} {S : Store} {x : D} {n : String} (h : dTy S x = some n) : ∀ (ts : List Ty) {b : Bool}, isTys S x ts = some b → PySem.W.kitAny K (.type n) (ts.map fun t => Value.type (tyN t)) = some b
  | [], b, e => by cases e; exact kitAny_nil
  | t :: ts, b, e => by
    simp only [isTys] at e
    cases q : isTy S x t with
    | none => rw [q] at e; cases e
    | some c =>
      rw [q] at e
      have k := isTy_kit h t q
      cases c with
      | true => cases e; exact kitAny_cons (kit_ty k) (fun z => by cases z) fun _ => rfl
      | false => exact kitAny_cons (kit_ty k) (fun _ => isTys_kit h ts e) fun z => by cases z
theorem isTys_some {S : Store} {x : D} : ∀ (ts : List Ty) {b : Bool}, isTys S x ts = some b → ts ≠ [] → ∃ n, dTy S x = some n
  | [], _, _, h => absurd rfl h
  | t :: ts, b, e, _ => by
    simp only [isTys] at e
    cases q : isTy S x t with
    | none => rw [q] at e; cases e
    | some c => exact isTy_some q
theorem s_isi {p : Pos} {x : Str} {px : Pos} (t : Ty) (ha : PE X pa (tE X W fa)) (hg : Gl X "isinstance") (hm : X.mg "isinstance" = none) (hst : starEach (pa :: [Expr.Name x px]) X.env = (false, eval pa X.env) :: starEach [Expr.Name x px] X.env)
    (hx : Gl X x) (hmx : X.mg x = none) (hv : bootBuiltins x = some (.type (tyN t))) (hn : x ≠ "__name__") (hd : (x == ("__debug__" : Str)) = false) :
    PE X (.Call (.Name "isinstance" p) [pa, .Name x px] [] pos) (tE X W fun e S => (fa e S).bind fun x S => optR ((isTys S x [t]).map .bl) S) :=
  PE_imp (pe_callB call_isi hg hm boot_isinstance (pa_cons ha (pa_cons (pe_bltn (v := .ty (tyN t)) hx hmx hv rfl hn hd) pa_nil) hst) (he := hst)) fun σ H Q h => by
    obtain ⟨z, e, rfl, hs, he, P⟩ := h
    refine ⟨z, e, rfl, hs, he, P.bind.imp fun x z1 x1 s1 P1 v rv => ?_⟩
    obtain ⟨d, e1, q⟩ := P1.opt s1
    obtain ⟨b, e2, rfl⟩ := Option.map_eq_some_iff.mp e1
    obtain ⟨n, hn⟩ := isTys_some [t] e2 (by simp)
    have hb : isTy z1.S x t = some b := by
      simp only [isTys] at e2
      cases q : isTy z1.S x t with
      | none => rw [q] at e2; cases e2
      | some c => rw [q] at e2; cases c <;> exact e2
    exact ⟨v, .ty (tyN t), .type n, .type (tyN t), b, rfl, .ty _, isTy_ok s1 rv hn, kit_ty (isTy_kit hn t hb), q _ .bl_⟩
/-- several built-in types, as a tuple that is written there -/
theorem pa_tys (ts : List Ty) : ∀ {es : List Expr}, es.length = ts.length → (∀ (i : Nat) (e : Expr) (t : Ty), es[i]? = some e → ts[i]? = some t → ∃ (x : Str) (px : Pos), e = Expr.Name x px ∧ Gl X x ∧ X.mg x = none ∧ bootBuiltins x = some (.type (tyN t)) ∧ x ≠ "__name__" ∧ (x == ("__debug__" : Str)) = false) →
    PA X es (fun σ H Q => Q (ts.map fun t => V.ty (tyN t)) H) := by
  induction ts with
  | nil =>
    intro es hl h
    cases es with
    | nil => exact PA_imp pa_nil fun _ _ _ h => h
    | cons e r => cases hl
  | cons t ts ih =>
    intro es hl h
    cases es with
    | nil => cases hl
    | cons e r =>
      obtain ⟨x, px, rfl, h1, h2, h3, h4, h5⟩ := h 0 e t rfl rfl
      exact PA_imp (pa_cons (pe_bltn (v := .ty (tyN t)) h1 h2 h3 rfl h4 h5) (ih (Nat.succ.inj hl) fun i e t a b => h (i + 1) e t a b)) fun _ _ _ h => h
theorem s_isis {p : Pos} {es : List Expr} {k : Nat} {px : Pos} (ts : List Ty) (ha : PE X pa (tE X W fa)) (hg : Gl X "isinstance") (hm : X.mg "isinstance" = none) (hst : starEach (pa :: [Expr.Tuple es k px]) X.env = (false, eval pa X.env) :: starEach [Expr.Tuple es k px] X.env)
    (hl : es.length = ts.length) (h0 : ts ≠ []) (h9 : ts.length ≤ 100) (he : ∀ (i : Nat) (e : Expr) (t : Ty), es[i]? = some e → ts[i]? = some t → ∃ (x : Str) (px : Pos), e = Expr.Name x px ∧ Gl X x ∧ X.mg x = none ∧ bootBuiltins x = some (.type (tyN t)) ∧ x ≠ "__name__" ∧ (x == ("__debug__" : Str)) = false) :
    PE X (.Call (.Name "isinstance" p) [pa, .Tuple es k px] [] pos) (tE X W fun e S => (fa e S).bind fun x S => optR ((isTys S x ts).map .bl) S) :=
  PE_imp (pe_callB call_isiT hg hm boot_isinstance (pa_cons ha (pa_cons (pe_tup (pa_tys ts hl he)) pa_nil) hst) (he := hst)) fun σ H Q h => by
    obtain ⟨z, e, rfl, hs, he, P⟩ := h
    refine ⟨z, e, rfl, hs, he, P.bind.imp fun x z1 x1 s1 P1 v rv => ?_⟩
    obtain ⟨d, e1, q⟩ := P1.opt s1
    obtain ⟨b, e2, rfl⟩ := Option.map_eq_some_iff.mp e1
    obtain ⟨n, hn⟩ := isTys_some ts e2 h0
    refine ⟨by rw [List.length_map, sizeLine_eq]; omega, fun p' hp => ?_⟩
    obtain ⟨xx, ss, ii⟩ := new_im s1 (.tup (ts.map fun t => V.ty (tyN t))) hp
    have cls : ∀ ts : List Ty, Paired ClsV (ts.map fun t => V.ty (tyN t)) (ts.map fun t => Value.type (tyN t)) := fun ts => by
      induction ts with
      | nil => exact .nil
      | cons t ts ih => exact .cons (.ty _) ih
    refine ⟨v, p', _, .type n, _, b, rfl, upd_same, cls ts, ?_, isTys_kit hn ts e2, ?_⟩
    · exact isTy_ok (z := ⟨z1.hd, z1.ρ, z1.S, upd z1.H p' (.tup (ts.map fun t => V.ty (tyN t)))⟩) ss (rv.mono xx) hn
    · rw [e2] at P1
      exact P1 ⟨z1.hd, z1.ρ, z1.S, upd z1.H p' (.tup (ts.map fun t => V.ty (tyN t)))⟩ rfl xx ss _ .bl_
end
end PyI

set_option maxRecDepth 100000
namespace PyI
open PySem PySem.Spec PyProof.Rows L2
/-! ## built-ins -/
def biName : Bi → Str
  | .len => "len" | .tuple => "tuple" | .list => "list" | .all => "all" | .any => "any" | .sum => "sum" | .min => "min" | .max => "max" | .abs => "abs" | .int => "int" | .sorted => "sorted" | .zipl => "zip"
def biVal : Bi → Value
  | .len => .builtin "len" | .tuple => .type "tuple" | .list => .type "list" | .all => .builtin "all" | .any => .builtin "any" | .sum => .builtin "sum" | .min => .builtin "min" | .max => .builtin "max" | .abs => .builtin "abs" | .int => .type "int"
  | .sorted => .builtin "sorted" | .zipl => .type "zip"
theorem bi_boot : ∀ b : Bi, bootBuiltins (biName b) = some (biVal b) := by
  intro b; cases b <;> decide +kernel
def rB (X : Cx) (b : Bi) : List V → Hp → VK → Prop := fun vs H Q => ∃ z ds d, z.H = H ∧ StOk X.K z ∧ Reps X.K z ds vs ∧ biop z.S b ds = some d ∧ ∀ w z1, z1.S = z.S → Ext z z1 → StOk X.K z1 → Rep X.K z1 d w → Q w z1.H
section
variable {K : PySem.W.Frag} {z : Zw}
theorem Reps.one_inv {d : D} {vs : List V} (h : Reps K z [d] vs) : ∃ v, vs = [v] ∧ Rep K z d v := by
  obtain ⟨v, r, rfl, h1, h2⟩ := h.cons_inv
  rw [h2.nil_inv]; exact ⟨v, rfl, h1⟩
theorem Reps.two_inv {d e : D} {vs : List V} (h : Reps K z [d, e] vs) : ∃ v u, vs = [v, u] ∧ Rep K z d v ∧ Rep K z e u := by
  obtain ⟨v, r, rfl, h1, h2⟩ := h.cons_inv
  obtain ⟨u, rfl, h3⟩ := h2.one_inv
  exact ⟨v, u, rfl, h1, h3⟩
/-- what can be read as a list -/
theorem asLst_ok (s : StOk K z) {x : D} {v : V} {ds : List D} (r : Rep K z x v) (h : asLst z.S x = some ds) : ∃ a xs, v = .ref a ∧ ds.length ≤ SZ ∧ Reps K z ds xs ∧ (SqL K z.H a xs ∨ (SqT K z.H a xs ∧ x = .tup ds)) := by
  cases x with
  | tup es => cases h; obtain ⟨a, xs, e, h1, h2, h3⟩ := r.tup_inv; exact ⟨a, xs, e, h2, h3, .inr ⟨h1, rfl⟩⟩
  | lst es => cases h; obtain ⟨a, xs, e, h1, h2, h3⟩ := r.lst_inv; exact ⟨a, xs, e, h2, h3, .inl (.of h1)⟩
  | rol es => cases h; obtain ⟨a, xs, e, h1, h2, h3⟩ := r.rol_inv; exact ⟨a, xs, e, h2, h3, .inl h1⟩
  | obj i =>
    simp only [asLst] at h
    split at h
    · rename_i es e
      cases h
      obtain ⟨a, xs, e1, _, h1, h2, h3⟩ := obj_inv s r e
      exact ⟨a, xs, e1, h2, h3, .inl (.of h1)⟩
    · cases h
  | _ => cases h
theorem intsOf_ok : ∀ {ds : List D} {vs : List V} {ns : List Int}, Reps K z ds vs → intsOf ds = some ns → vs = ns.map V.int
  | [], _, _, h, e => by cases e; rw [h.nil_inv]; rfl
  | d :: ds, _, _, h, e => by
    obtain ⟨v, r, rfl, h1, h2⟩ := h.cons_inv
    cases d with
    | int i =>
      obtain ⟨ms, e1, rfl⟩ := Option.map_eq_some_iff.mp (show (intsOf ds).map (i :: ·) = some _ from e)
      rw [h1.int_inv, intsOf_ok h2 e1]; rfl
    | _ => cases e
theorem blsOf_ok : ∀ {ds : List D} {vs : List V} {ns : List Bool}, Reps K z ds vs → blsOf ds = some ns → vs = ns.map V.bl
  | [], _, _, h, e => by cases e; rw [h.nil_inv]; rfl
  | d :: ds, _, _, h, e => by
    obtain ⟨v, r, rfl, h1, h2⟩ := h.cons_inv
    cases d with
    | bl i =>
      obtain ⟨ms, e1, rfl⟩ := Option.map_eq_some_iff.mp (show (blsOf ds).map (i :: ·) = some _ from e)
      rw [h1.bl_inv, blsOf_ok h2 e1]; rfl
    | _ => cases e
end
section
variable {X : Cx}
theorem bi_ok (hc : X.calm = true) : ∀ b : Bi, CallR X (biVal b) (rB X b) := by
  intro b pins s σ H vs us Q I rv h
  obtain ⟨z, ds, d, rfl, hs, hr, hb, q⟩ := h
  have q0 : ∀ w, Rep X.K z d w → Q w z.H := fun w r => q w z rfl (Ext.refl z) hs r
  unfold biop at hb
  split at hb
  · split at hb
    · rename_i x hz
      cases hb
      obtain ⟨v, rfl, h1⟩ := hr.one_inv
      exact call_len pins s σ _ _ _ Q I rv ⟨v, x.length, rfl, by rw [h1.str_inv]; exact ⟨sz_le.mp hz, rfl⟩, q0 _ .int_⟩
    · cases hb
  · rename_i x hx
    obtain ⟨es, e1, rfl⟩ := Option.map_eq_some_iff.mp hb
    obtain ⟨v, rfl, h1⟩ := hr.one_inv
    obtain ⟨a, xs, rfl, h2, h3, h4⟩ := asLst_ok hs h1 e1
    refine call_len pins s σ _ _ _ Q I rv ⟨.ref a, es.length, rfl, ?_, q0 _ .int_⟩
    rcases h4 with h4 | ⟨h4, _⟩
    · exact .inl ⟨xs, h4, h3.length⟩
    · exact .inr ⟨xs, h4, h3.length⟩
  · obtain ⟨es, e1, rfl⟩ := Option.map_eq_some_iff.mp hb
    obtain ⟨v, rfl, h1⟩ := hr.one_inv
    obtain ⟨a, xs, rfl, h2, h3, h4⟩ := asLst_ok hs h1 e1
    refine call_tuple_of pins s σ _ _ _ Q I rv ⟨a, xs, rfl, ?_⟩
    rcases h4 with h4 | ⟨h4, rfl⟩
    · refine .inl ⟨h4, fun p hp => ?_⟩
      obtain ⟨z1, e1, e2, e3, e4, e5⟩ := new_tup hs hp h2 h3
      rw [← e1]; exact q _ z1 e2 e3 e4 e5
    · exact .inr ⟨h4, q0 _ h1⟩
  · obtain ⟨es, e1, rfl⟩ := Option.map_eq_some_iff.mp hb
    obtain ⟨v, rfl, h1⟩ := hr.one_inv
    obtain ⟨a, xs, rfl, h2, h3, h4⟩ := asLst_ok hs h1 e1
    refine call_list_of pins s σ _ _ _ Q I rv ⟨a, xs, rfl, h4.imp id (·.1), fun p hp => ?_⟩
    obtain ⟨z1, e1, e2, e3, e4, e5⟩ := new_lst hs hp h2 h3
    rw [← e1]; exact q _ z1 e2 e3 e4 e5
  · obtain ⟨bs, e1, rfl⟩ := Option.map_eq_some_iff.mp hb
    obtain ⟨v, rfl, h1⟩ := hr.one_inv
    obtain ⟨a, xs, rfl, h2, _, h4⟩ := h1.lst_inv
    rw [blsOf_ok h4 e1] at h2
    exact cr_all hc pins s σ _ _ _ Q I rv ⟨a, bs, rfl, .of h2, q0 _ .bl_⟩
  · obtain ⟨bs, e1, rfl⟩ := Option.map_eq_some_iff.mp hb
    obtain ⟨v, rfl, h1⟩ := hr.one_inv
    obtain ⟨a, xs, rfl, h2, _, h4⟩ := h1.lst_inv
    rw [blsOf_ok h4 e1] at h2
    exact cr_any hc pins s σ _ _ _ Q I rv ⟨a, bs, rfl, .of h2, q0 _ .bl_⟩
  · obtain ⟨ns, e1, rfl⟩ := Option.map_eq_some_iff.mp hb
    obtain ⟨v, rfl, h1⟩ := hr.one_inv
    obtain ⟨a, xs, rfl, h2, _, h4⟩ := h1.lst_inv
    rw [intsOf_ok h4 e1] at h2
    exact cr_sum hc pins s σ _ _ _ Q I rv ⟨a, ns, rfl, .of h2, q0 _ .int_⟩
  · cases hb
    obtain ⟨v, rfl, h1⟩ := hr.one_inv
    rw [h1.int_inv] at rv
    exact call_abs pins s σ _ _ _ Q I rv ⟨_, rfl, q0 _ .int_⟩
  · cases hb
    obtain ⟨v, u, rfl, h1, h2⟩ := hr.two_inv
    rw [h1.int_inv, h2.int_inv] at rv
    exact call_max2 hc pins s σ _ _ _ Q I rv ⟨_, _, rfl, q0 _ .int_⟩
  · cases hb
    obtain ⟨v, u, rfl, h1, h2⟩ := hr.two_inv
    rw [h1.int_inv, h2.int_inv] at rv
    exact call_min2 hc pins s σ _ _ _ Q I rv ⟨_, _, rfl, q0 _ .int_⟩
  · cases hb
    obtain ⟨v, rfl, h1⟩ := hr.one_inv
    rw [h1.int_inv] at rv
    exact call_int1 pins s σ _ _ _ Q I rv (.inl ⟨_, rfl, q0 _ .int_⟩)
  · cases hb
    obtain ⟨v, rfl, h1⟩ := hr.one_inv
    rw [h1.bl_inv] at rv
    exact call_int1 pins s σ _ _ _ Q I rv (.inr ⟨_, rfl, q0 _ .int_⟩)
  · cases hb
variable {W : WX} {pa pb pc : Expr} {fa fb fc : Env → Store → Rs D} {pos : Pos} {es : List Expr} {ga : Env → Store → Rs (List D)}
theorem s_bi {p : Pos} (b : Bi) (hc : X.calm = true) (hg : Gl X (biName b)) (hm : X.mg (biName b) = none) (ha : PA X (pa :: es) (tA X W ga))
    (he : starEach (pa :: es) X.env = (false, eval pa X.env) :: starEach es X.env) (hpl : (backTo pos (starEach es X.env)).any (·.1) = false) :
    PE X (.Call (.Name (biName b) p) (pa :: es) [] pos) (tE X W fun e S => (ga e S).bind fun ds S => optR (biop S b ds) S) := by
  have nn : biName b ≠ "__name__" := by cases b <;> decide
  have nd : (biName b == ("__debug__" : Str)) = false := by cases b <;> decide
  have fin : ∀ σ H Q, tE X W (fun e S => (ga e S).bind fun ds S => optR (biop S b ds) S) σ H Q → tCB (rB X b) (tA X W ga) σ H Q := fun σ H Q h => by
    obtain ⟨z, e, rfl, hs, he, P⟩ := h
    refine ⟨z, e, rfl, hs, he, P.bind.imp fun ds z1 x1 s1 P1 vs rv => ?_⟩
    obtain ⟨d, e1, _⟩ := P1.opt s1
    rw [e1] at P1
    exact ⟨z1, ds, d, rfl, s1, rv, e1, fun w z2 h1 h2 h3 h4 => P1 z2 h1 h2 h3 w h4⟩
  have ok := bi_ok hc b
  have bt := bi_boot b
  cases b <;> first
    | exact PE_imp (pe_callB ok hg hm bt ha nn nd he hpl) fin
    | exact PE_imp (pe_callTy ok hg hm bt ha nn nd he hpl) fin
/-! ## calls of the text's own defs -/
/-- what a def promises: the evaluator's own word -/
def spOf (K : PySem.W.Frag) (mg : Str → Option Value) (np : Nat) (c : List D → Store → Rs D) : Sp := fun vs H Q E => vs.length = np ∧ ∃ z ds, z.H = H ∧ StOk K z ∧ Reps K z ds vs ∧
  match c ds z.S with
  | .ok d S1 => ∀ w z1, z1.S = S1 → Ext z z1 → StOk K z1 → Rep K z1 d w → Q w z1.H
  | .exc x _ S1 => ∀ z1 cls dx, z1.S = S1 → Ext z z1 → StOk K z1 → XRep K mg z1 x cls dx → E cls dx z1.H
  | .bad => False
theorem s_call {p : Pos} {x : Str} {f : Addr} {fd : FuncData} {ps : List Str} {k : Nat} {c : List D → Store → Rs D} (F : FnOk X.prog X.w X.K X.mg X.base (L2.CX X.prog X.w) k f fd ps (spOf X.K X.mg ps.length c)) (hr : Room k X.A) (hg : Gl X x) (hm : X.mg x = some (.ref f))
    (hk : PySem.W.keepIn X.K (.ref f) = true) (hb : Binds X.K fd ps []) (tk : Takes X W) (hcl : ∀ ds S, c ds S ≠ .bad → ds.length = ps.length) (ha : PA X (pa :: es) (tA X W ga)) (hdb : (x == ("__debug__" : Str)) = false)
    (he : starEach (pa :: es) X.env = (false, eval pa X.env) :: starEach es X.env) (hpl : (backTo pos (starEach es X.env)).any (·.1) = false) :
    PE X (.Call (.Name x p) (pa :: es) [] pos) (tE X W fun e S => (ga e S).bind fun ds S => (c ds S).at e) :=
  PE_imp (pe_callSD F hr hg hm hk hb .nil (E := fun σ cls d H => W cls d σ H) (fun σ => passAt tk σ) ha hdb he hpl) fun σ H Q h => by
    obtain ⟨z, e, rfl, hs, he, P⟩ := h
    refine ⟨z, e, rfl, hs, he, ?_⟩
    have P : Post X.K X.mg W z ((ga e z.S).bind fun ds S => (c ds S).at e) (fun d z1 => ∀ v, Rep X.K z1 d v → Q v z1.H) := P
    refine P.bind.imp fun ds z1 h2 h3 P vs rv => ?_
    show spOf X.K X.mg ps.length c (vs ++ []) z1.H Q fun cls d H => W cls d σ H
    rw [List.append_nil]
    have hd : ds.length = ps.length := hcl ds z1.S fun q => by rw [q] at P; exact P
    refine ⟨by rw [← rv.length, hd], z1, ds, rfl, h3, rv, ?_⟩
    cases q2 : c ds z1.S with
    | bad => rw [q2] at P; exact P.elim
    | ok d S2 => rw [q2] at P; exact fun w z2 k1 k2 k3 k4 => P z2 k1 k2 k3 w k4
    | exc y e2 S2 =>
      rw [q2] at P
      exact fun z2 cls dx k1 k2 k3 k4 => P z2 cls dx σ k1 k2 k3 ((he.mono h2).mono k2) k4
/-! ## lists that change -/
theorem objL_ok {z : Zw} {o : D} {v : V} {r : Nat} (s : StOk X.K z) (rv : Rep X.K z o v) (h : objL z.S o = some r) : o = .obj r ∧ tyV X.K "list" v z.H := by
  cases o with
  | obj i =>
    simp only [objL] at h
    split at h
    · rename_i ds e
      cases h
      obtain ⟨a, xs, rfl, _, h1, _⟩ := obj_inv s rv e
      exact ⟨rfl, .inl ⟨rfl, _, .of h1⟩⟩
    · cases h
  | _ => cases h
theorem s_app {apos : Pos} (ho : PE X pa (tE X W fa)) (hx : PE X pb (tE X W fb)) (hbase : attributeBase pa "append" X.env (eval pa X.env) = eval pa X.env) (hline : (apos.endLine == pos.line) = true)
    (hst : starEach [pb] X.env = [(false, eval pb X.env)]) :
    PE X (.Call (.Attribute pa "append" apos) [pb] [] pos) (tE X W fun e S => (fa e S).bind fun o S => (optR (objL S o) S).bind fun r S => (fb e S).bind fun d S => match S[r]? with
    | some (.lst ds) => if ds.length < SZ then .ok .non (S.set r (.lst (ds ++ [d]))) else .bad
    | _ => .bad) :=
  PE_imp (pe_bm PySem.F.plainAttrs_list PySem.F.slot_list_append PySem.F.type_list_append mt_append ho (pa_cons hx pa_nil hst) hbase (by rw [hst]; rfl) hline hst (by rfl)) fun σ H Q h => by
    obtain ⟨z, e, rfl, hs, he, P⟩ := h
    refine ⟨z, e, rfl, hs, he, P.bind.imp fun o z1 x1 s1 P1 v rv => ?_⟩
    obtain ⟨r, e1, P2⟩ := P1.bind.opt s1
    obtain ⟨rfl, ty⟩ := objL_ok s1 rv e1
    refine ⟨ty, z1, e, rfl, s1, he.mono x1, P2.bind.imp fun d z2 x2 s2 P3 u ru => ?_⟩
    cases q : z2.S[r]? with
    | none => simp only [q] at P3; exact P3.elim
    | some mo =>
      cases mo with
      | lst ds =>
        simp only [q] at P3
        obtain ⟨a, xs, e2, h1, h2, h3, h4⟩ := obj_inv s2 (rv.mono x2) q
        by_cases hl : ds.length < SZ
        · rw [if_pos hl] at P3
          obtain ⟨x3, s3⟩ := set_ob (ds := ds ++ [d]) (xs := xs ++ [u]) s2 q h1 (by rw [List.length_append]; exact hl) (h4.app (.one ru))
          exact ⟨a, xs, u, e2, rfl, h2, by rw [← h4.length, sizeLine_eq]; exact hl, P3 _ rfl x3 s3 _ .non_⟩
        · rw [if_neg hl] at P3; exact P3.elim
      | _ => simp only [q] at P3; exact P3.elim
theorem s_ext {apos : Pos} (ho : PE X pa (tE X W fa)) (hx : PE X pb (tE X W fb)) (hbase : attributeBase pa "extend" X.env (eval pa X.env) = eval pa X.env) (hline : (apos.endLine == pos.line) = true)
    (hst : starEach [pb] X.env = [(false, eval pb X.env)]) :
    PE X (.Call (.Attribute pa "extend" apos) [pb] [] pos) (tE X W fun e S => (fa e S).bind fun o S => (optR (objL S o) S).bind fun r S => (fb e S).bind fun d S => match S[r]?, d with
    | some (.lst ds), .lst xs => if ds.length + xs.length ≤ SZ then .ok .non (S.set r (.lst (ds ++ xs))) else .bad
    | _, _ => .bad) :=
  PE_imp (pe_bm PySem.F.plainAttrs_list PySem.F.slot_list_extend PySem.F.type_list_extend mt_extend ho (pa_cons hx pa_nil hst) hbase (by rw [hst]; rfl) hline hst (by rfl)) fun σ H Q h => by
    obtain ⟨z, e, rfl, hs, he, P⟩ := h
    refine ⟨z, e, rfl, hs, he, P.bind.imp fun o z1 x1 s1 P1 v rv => ?_⟩
    obtain ⟨r, e1, P2⟩ := P1.bind.opt s1
    obtain ⟨rfl, ty⟩ := objL_ok s1 rv e1
    refine ⟨ty, z1, e, rfl, s1, he.mono x1, P2.bind.imp fun d z2 x2 s2 P3 u ru => ?_⟩
    cases q : z2.S[r]? with
    | none => simp only [q] at P3; exact P3.elim
    | some mo =>
      cases mo with
      | lst ds =>
        cases d with
        | lst ys =>
          simp only [q] at P3
          obtain ⟨a, xs, e2, h1, h2, h3, h4⟩ := obj_inv s2 (rv.mono x2) q
          obtain ⟨b, ws, rfl, k1, k2, k3⟩ := ru.lst_inv
          by_cases hl : ds.length + ys.length ≤ SZ
          · rw [if_pos hl] at P3
            obtain ⟨x3, s3⟩ := set_ob (ds := ds ++ ys) (xs := xs ++ ws) s2 q h1 (by simpa using hl) (h4.app k3)
            exact ⟨a, b, xs, ws, e2, rfl, h2, k1, by rw [← h4.length, ← k3.length, sizeLine_eq]; exact hl, P3 _ rfl x3 s3 _ .non_⟩
          · rw [if_neg hl] at P3; exact P3.elim
        | _ => simp only [q] at P3; exact P3.elim
      | _ => simp only [q] at P3; exact P3.elim
theorem s_popl {apos : Pos} (ho : PE X pa (tE X W fa)) (hbase : attributeBase pa "pop" X.env (eval pa X.env) = eval pa X.env) (hline : (apos.endLine == pos.line) = true) :
    PE X (.Call (.Attribute pa "pop" apos) [] [] pos) (tE X W fun e S => (fa e S).bind fun o S => (optR (objL S o) S).bind fun r S => match S[r]? with
    | some (.lst ds) => match ds.getLast? with
      | some d => .ok d (S.set r (.lst ds.dropLast))
      | none => .bad
    | _ => .bad) :=
  PE_imp (pe_bm0 PySem.F.plainAttrs_list PySem.F.slot_list_pop PySem.F.type_list_pop mt_pop ho hbase hline) fun σ H Q h => by
    obtain ⟨z, e, rfl, hs, he, P⟩ := h
    refine ⟨z, e, rfl, hs, he, P.bind.imp fun o z1 x1 s1 P1 v rv => ?_⟩
    obtain ⟨r, e1, P2⟩ := P1.bind.opt s1
    obtain ⟨rfl, ty⟩ := objL_ok s1 rv e1
    refine ⟨ty, ?_⟩
    cases q : z1.S[r]? with
    | none => simp only [q] at P2; exact P2.elim
    | some mo =>
      cases mo with
      | lst ds =>
        simp only [q] at P2
        obtain ⟨a, xs, e2, h1, h2, h3, h4⟩ := obj_inv s1 rv q
        cases q2 : ds.getLast? with
        | none => simp only [q2] at P2; exact P2.elim
        | some d =>
          simp only [q2] at P2
          obtain ⟨x3, s3⟩ := set_ob (ds := ds.dropLast) (xs := xs.dropLast) s1 q h1 (by simp; omega) h4.dropLast
          rw [List.getLast?_eq_getElem?] at q2
          obtain ⟨u, k1, k2⟩ := h4.get q2
          exact ⟨a, xs, u, e2, rfl, h2, by rw [← h4.length]; exact k1, P2 _ rfl x3 s3 _ (k2.mono x3)⟩
      | _ => simp only [q] at P2; exact P2.elim
/-- frozen from here on -/
theorem s_fz (ho : PE X pa (tE X W fa)) : PE X pa (tE X W fun e S => (fa e S).bind fun o S => match o with
    | .obj r => match S[r]? with
      | some (.lst ds) => .ok (.lst ds) (S.set r .dead)
      | _ => .bad
    | _ => .bad) :=
  PE_imp ho fun σ H Q h => by
    obtain ⟨z, e, rfl, hs, he, P⟩ := h
    refine ⟨z, e, rfl, hs, he, P.bind.imp fun o z1 x1 s1 P1 v rv => ?_⟩
    cases o with
    | obj r =>
      cases q : z1.S[r]? with
      | none => simp only [q] at P1; exact P1.elim
      | some mo =>
        cases mo with
        | lst ds =>
          simp only [q] at P1
          obtain ⟨a, xs, rfl, h1, h2, h3, h4⟩ := obj_inv s1 rv q
          obtain ⟨x2, s2, r2⟩ := freeze s1 q h1
          exact P1 _ rfl x2 s2 _ r2
        | _ => simp only [q] at P1; exact P1.elim
    | _ => exact P1.elim
end
end PyI

set_option maxRecDepth 100000
set_option maxHeartbeats 4000000
namespace PyI
open PySem PySem.Spec PyProof.Rows L2
theorem un_lay {fs : List Addr} {H H1 : Hp} {h h' : Heap} {a : Addr} {o : HO} (u : Un fs [] H H1 h h') (hp : h.objs.size ≤ a) (hn : H1 a = none) : Un fs [] H (upd H1 a o) h h' where
  keep := u.keep
  slot := u.slot
  free := fun b u' q n hx => by rw [upd_ne (Nat.ne_of_lt (Nat.lt_of_lt_of_le (Heap.lt_size q) hp))]; exact u.free b u' q n hx
  there := u.there
  tups := fun b xs q => by have := u.tups b xs q; rw [upd_ne (ne_of_none this hn)]; exact this
  frzs := fun b v xs q => by have := u.frzs b v xs q; rw [upd_ne (ne_of_none this hn)]; exact this
  tbls := fun b ps q => by obtain ⟨m, this⟩ := u.tbls b ps q; exact ⟨m, by rw [upd_ne (ne_of_none this hn)]; exact this⟩
theorem lay_zip {P : Program} {w : World} {K : PySem.W.Frag} {fs : List Addr} {Hb : Hp} {h h' : Heap} : ∀ (as : List Addr) {z : Zw} {xs ys : List D} {xv yv : List V} {iu iw : List Value},
    StOk K z → Reps K z xs xv → Reps K z ys yv → Vals xv iu → Vals yv iw → as.length = min xs.length ys.length → as.Nodup → (∀ a ∈ as, z.H a = none ∧ h.objs.size ≤ a) →
    (∀ (j : Nat) (a : Addr), as[j]? = some a → ∃ x y, iu[j]? = some x ∧ iw[j]? = some y ∧ PySem.IsTupOf2 h' a x y) → Un fs [] Hb z.H h h' → HOk P w z.H h' →
    ∃ z' : Zw, z'.S = z.S ∧ Ext z z' ∧ StOk K z' ∧ Reps K z' (zipD xs ys) (as.map V.ref) ∧ Un fs [] Hb z'.H h h' ∧ HOk P w z'.H h' ∧ ∀ a, a ∉ as → z'.H a = z.H a
  | [], z, xs, ys, xv, yv, iu, iw, s, r1, r2, _, _, hl, _, _, _, u, ok => by
    have : zipD xs ys = [] := by
      cases xs with
      | nil => cases ys <;> rfl
      | cons x xs =>
        cases ys with
        | nil => rfl
        | cons y ys => simp at hl
    rw [this]
    exact ⟨z, rfl, Ext.refl z, s, .nil, u, ok, fun _ _ => rfl⟩
  | a :: as, z, xs, ys, xv, yv, iu, iw, s, r1, r2, v1, v2, hl, nd, ha, hp, u, ok => by
    cases xs with
    | nil => simp at hl
    | cons x xs =>
      cases ys with
      | nil => simp at hl
      | cons y ys =>
        obtain ⟨p, xv', rfl, q1, q2⟩ := r1.cons_inv
        obtain ⟨p2, yv', rfl, q3, q4⟩ := r2.cons_inv
        cases v1 with
        | cons e1 v1 =>
          cases v2 with
          | cons e2 v2 =>
            rename_i u1 iu' u2 iw'
            obtain ⟨hn, hg⟩ := ha a List.mem_cons_self
            obtain ⟨x0, y0, g1, g2, g3⟩ := hp 0 a rfl
            obtain rfl : u1 = x0 := Option.some.inj g1
            obtain rfl : u2 = y0 := Option.some.inj g2
            obtain ⟨nd1, nd2⟩ := List.nodup_cons.mp nd
            obtain ⟨z1, w1, w2, w3, w4, w5⟩ := new_tup (ds := [x, y]) (xs := [p, p2]) s hn (show (2 : Nat) ≤ SZ by decide) (.cons q1 (.cons q3 .nil))
            have ob : ObjOk P w (upd z.H a (.tup [p, p2])) h' a (.tup [p, p2]) := ⟨by simp [sizeLine_eq], [u1, u2], .cons e1 (.cons e2 .nil), ⟨_, g3, rfl, 0, rfl⟩⟩
            obtain ⟨z', k1, k2, k3, k4, k5, k6, k7⟩ := lay_zip (P := P) (w := w) (Hb := Hb) (fs := fs) (h := h) (h' := h') as (z := z1) w4 (q2.mono w3) (q4.mono w3) v1 v2 (by simp at hl; omega) nd2 (fun b hb => by
              have hne : b ≠ a := fun e => nd1 (e ▸ hb)
              rw [w1, upd_ne hne]
              exact ha b (List.mem_cons_of_mem _ hb)) (fun j b hj => hp (j + 1) b hj) (by rw [w1]; exact un_lay u hg hn) (by
                rw [w1]
                exact ok.laidN (fun _ _ e => e) hn ob)
            refine ⟨z', k1.trans w2, w3.trans k2, k3, .cons (w5.mono k2) k4, k5, k6, fun b hb => ?_⟩
            rw [k7 b fun m => hb (List.mem_cons_of_mem _ m), w1, upd_ne]
            rintro rfl; exact hb List.mem_cons_self
theorem nin2 {x y c : Nat} (h1 : c ≠ x) (h2 : c ≠ y) : (c : Addr) ∉ ([x, y] : List Addr) := by
  intro h
  rcases List.mem_cons.mp h with h | h
  · exact h1 h
  · exact h2 (List.mem_singleton.mp h)
theorem zsep {n a b : Nat} (la : a < n) (lb : b < n) : PySem.ZipSep2 (n + 4) (n + 2) (n + 3) n (n + 1) [n, a] [n + 1, b] := by
  constructor
  all_goals first
    | exact List.mem_cons_self
    | exact nin2 (by omega) (by omega)
    | exact Nat.ne_of_lt (by omega)
    | exact Nat.ne_of_gt (by omega)
theorem lt2 {x y m : Nat} (h1 : x < m) (h2 : y < m) : ∀ c ∈ ([x, y] : List Addr), c < m := by
  intro c h
  rcases List.mem_cons.mp h with h | h
  · rw [h]; exact h1
  · rw [List.mem_singleton.mp h]; exact h2
theorem zipD_length : ∀ (xs ys : List D), (zipD xs ys).length = min xs.length ys.length
  | [], ys => by cases ys <;> simp [zipD]
  | x :: xs, [] => by simp [zipD]
  | x :: xs, y :: ys => by
    simp only [zipD, List.length_cons, zipD_length xs ys]
    omega
/-- a source of a zip: what begins it, how it is drawn -/
structure ZSrc (P : Program) (w : World) (a : Addr) (items : List Value) (h : Heap) where
  o : Obj
  H : Heap → Prop
  St : Addr → Nat → Heap → Prop
  beg : PySem.Begins (.ref a) o H
  at_ : H h
  st : ∀ it h, h.get? it = some o → H h → St it 0 h
  dr : ∀ it, a ≠ it → PyZ.DrawsA P w it [it, a] items.length (fun i v => items[i]? = some v) (St it)
  lt : a < h.objs.size
section
variable {X : Cx} {pins : List (Addr × Obj)} {σ : L2.St} {s : Shared}
theorem zsrc {z : Zw} {x : D} {v : V} {ds : List D} (I : Inv X pins σ z.H s) (sk : StOk X.K z) (r : Rep X.K z x v) (h : asLst z.S x = some ds) :
    ∃ a xs its, v = .ref a ∧ ds.length ≤ SZ ∧ Reps X.K z ds xs ∧ Vals xs its ∧ Nonempty (ZSrc X.prog X.w a its s.heap) := by
  obtain ⟨a, xs, rfl, h2, h3, h4⟩ := asLst_ok sk r h
  rcases h4 with h4 | ⟨h4, _⟩
  · obtain ⟨its, rv, p, _⟩ := I.list h4
    refine ⟨a, xs, its, rfl, h2, h3, rv, ⟨⟨_, _, fun it i h => h.IsListIter it a i ∧ h.IsList a its.toArray, PySem.begins_list a its.toArray, p.isList, fun it h e k => ⟨⟨_, e, rfl, rfl⟩, k⟩, fun it ne A hh => ?_, p.lt⟩⟩⟩
    have D := PySem.Draws.list (prog := X.prog) (w := X.w) (A := A) hh it a ne its.toArray
    simpa using D
  · obtain ⟨its, rv, p, _⟩ := I.tuple h4
    obtain ⟨o1, ho1, _⟩ := id p
    refine ⟨a, xs, its, rfl, h2, h3, rv, ⟨⟨_, _, fun it i h => h.IsTupleIter it a i ∧ h.IsTuple a its.toArray, PySem.begins_tuple a its.toArray, p, fun it h e k => ⟨⟨_, e, rfl, rfl⟩, k⟩, fun it ne A hh => ?_, Heap.lt_size ho1⟩⟩⟩
    have D := PySem.Draws.tuple (prog := X.prog) (w := X.w) (A := A) hh it a ne its.toArray
    simpa using D
end
section
variable {X : Cx} {W : WX} {pa pb : Expr} {ga : Env → Store → Rs (List D)}
theorem s_zipl {p p2 pos pos2 : Pos} (hc : X.calm = true) (hg : Gl X "list") (hm : X.mg "list" = none) (hg2 : Gl X "zip") (hm2 : X.mg "zip" = none) (ha : PA X [pa, pb] (tA X W ga))
    (he : starEach [pa, pb] X.env = (false, eval pa X.env) :: starEach [pb] X.env) (hpl : (backTo pos2 (starEach [pb] X.env)).any (·.1) = false) :
    PE X (.Call (.Name "list" p) [.Call (.Name "zip" p2) [pa, pb] [] pos2] [] pos) (tE X W fun e S => (ga e S).bind fun ds S => optR (zipop S ds) S) := by
  refine ⟨fun pins s σ H Q I h => ?_⟩
  obtain ⟨z, e, rfl, hs, hev, Pq⟩ := h
  have hA : tA X W ga σ z.H (fun vs H' => ∃ z1 ds d, z1.H = H' ∧ StOk X.K z1 ∧ Reps X.K z1 ds vs ∧ zipop z1.S ds = some d ∧ ∀ w z2, z2.S = z1.S → Ext z1 z2 → StOk X.K z2 → Rep X.K z2 d w → Q w z2.H) :=
    ⟨z, e, rfl, hs, hev, Pq.bind.imp fun ds z1 x1 s1 P1 vs rv => by
      obtain ⟨d, e1, _⟩ := P1.opt s1
      rw [e1] at P1
      exact ⟨z1, ds, d, rfl, s1, rv, e1, fun w z2 h1 h2 h3 h4 => P1 z2 h1 h2 h3 w h4⟩⟩
  refine Call_ (ld_blt I hg hm boot_list (PyProof.Rows.callWith_type1 (args_cons ?_ rfl) rfl rfl))
  refine Call_ (ld_blt I hg2 hm2 PyProof.Rows.boot_zip (PyProof.Rows.callWith_type1 (thn (ha.run pos2 pins s σ z.H _ I hA) fun us s1 ⟨vs, H1, I1, r1, q1⟩ => ?_) he hpl))
  obtain ⟨z1, ds, d, rfl, s1k, rv, eo, hq⟩ := q1
  have : ∃ x y xs ys, ds = [x, y] ∧ asLst z1.S x = some xs ∧ asLst z1.S y = some ys ∧ d = .lst (zipD xs ys) := by
    unfold zipop at eo
    split at eo
    · split at eo
      · rename_i x y _ _ xs ys h1 h2
        cases eo
        exact ⟨x, y, xs, ys, rfl, h1, h2, rfl⟩
      · cases eo
    · cases eo
  obtain ⟨x, y, xs, ys, rfl, hx, hy, rfl⟩ := this
  obtain ⟨v, u, rfl, rx, ry⟩ := rv.two_inv
  obtain ⟨a, xv, iu, rfl, lx, qx, vx, ⟨Zx⟩⟩ := zsrc I1 s1k rx hx
  obtain ⟨b, yv, iw, rfl, ly, qy, vy, ⟨Zy⟩⟩ := zsrc I1 s1k ry hy
  cases r1 with
  | cons r r1 =>
    cases r1 with
    | cons r' r1 =>
      cases r1
      cases r
      cases r'
      have la := Zx.lt
      have lb := Zy.lt
      refine PySem.zip_begins2 Zx.beg Zy.beg Zx.at_ Zy.at_ fun h' hz hTI hTO g1 g2 hsz hk => ?_
      have hk1 := Zx.beg.keeps _ _ Zx.at_ hk
      have hk2 := Zy.beg.keeps _ _ Zy.at_ hk
      refine args_nil ?_
      have hlen1 : iu.length = xs.length := by rw [qx.length, vx.length]
      have hlen2 : iw.length = ys.length := by rw [qy.length, vy.length]
      refine PyZ.zil_call (z := s1.heap.objs.size + 4) (TI := s1.heap.objs.size + 2) (TO := s1.heap.objs.size + 3) (i1 := s1.heap.objs.size) (i2 := s1.heap.objs.size + 1) (s := { s1 with heap := h' }) (n := min iu.length iw.length) (N1 := 0) (I1.ok.hd hc)
        ?S (Zx.dr s1.heap.objs.size (Nat.ne_of_lt la)) (Zy.dr (s1.heap.objs.size + 1) (Nat.ne_of_lt (Nat.lt_add_right 1 lb))) rfl ?L ⟨Zx.st _ _ g1 hk1, Zy.st _ _ g2 hk2, hTI, .inl ⟨hz, _, _, hTO⟩⟩ hz ⟨_, _, hTO⟩ ?l1 ?l2 fun h2 tk acc c as d1 d2 d3 d4 d5 => ?_
      case L => rw [hlen1, hlen2]; exact Nat.le_trans (Nat.min_le_left _ _) (sz_le.mp lx)
      case S => exact zsep la lb
      case l1 => exact lt2 (Nat.lt_of_lt_of_le (Nat.lt_add_of_pos_right (by decide : 0 < 5)) (Nat.le_of_eq hsz.symm)) (Nat.lt_of_lt_of_le la (by rw [hsz]; exact Nat.le_add_right _ _))
      case l2 => exact lt2 (Nat.lt_of_lt_of_le (Nat.add_lt_add_left (by decide : 1 < 5) _) (Nat.le_of_eq hsz.symm)) (Nat.lt_of_lt_of_le lb (by rw [hsz]; exact Nat.le_add_right _ _))
      have d1 : ∀ b o, s1.heap.get? b = some o → h2.get? b = some o := fun b o e => by
        have := Heap.lt_size e
        exact d1 b o (Nat.ne_of_lt (Nat.lt_add_right 4 this)) (Nat.ne_of_lt (Nat.lt_add_right 3 this)) (Nat.ne_of_lt this) (Nat.ne_of_lt (Nat.lt_add_right 1 this)) (hk b o e)
      have I2 : Inv X pins σ z1.H { s1 with heap := h2, toks := tk } := I1.kept d1
      have ab : ∀ q ∈ as, s1.heap.objs.size ≤ q := fun q hq => by
        have := d4.above q hq
        have h3 : h'.objs.size + 1 ≤ q := this
        omega
      obtain ⟨z', k1, k2, k3, k4, k5, k6, k7⟩ := lay_zip (P := X.prog) (w := X.w) (K := X.K) (fs := X.fs) (Hb := z1.H) (h := s1.heap) (h' := h2) as (z := z1) s1k qx qy vx vy (by rw [d3, hlen1, hlen2]) (d4.rise.imp fun h => Nat.ne_of_lt h)
        (fun q hq => ⟨I1.hok.fresh (ab q hq), ab q hq⟩) (fun j q hj => by
          obtain ⟨x, y, p1, p2, e3⟩ := d4.pairs j q hj
          exact ⟨x, y, p1, p2, e3⟩) (Un.kept d1) (I1.hok.kept d1)
      have hSn : h'.objs.size ∉ as := fun hm => by
        have := d4.above _ hm
        exact absurd this (Nat.not_le.mpr (Nat.lt_succ_self _))
      have hSf : z'.H h'.objs.size = none := by rw [k7 _ hSn]; exact I1.hok.fresh (by rw [hsz]; exact Nat.le_add_right _ _)
      have hzl : (zipD xs ys).length ≤ SZ := by rw [zipD_length]; exact Nat.le_trans (Nat.min_le_left _ _) lx
      obtain ⟨z3, e1, e2, e3, e4, e5⟩ := new_lst k3 hSf hzl k4
      have ob : ObjOk X.prog X.w (upd z'.H h'.objs.size (.lst (as.map V.ref))) h2 h'.objs.size (.lst (as.map V.ref)) := by
        refine ⟨?_, acc.toList, c, ?_, ?_⟩
        · rw [List.length_map, d3, hlen1, hlen2]; exact Nat.le_trans (Nat.min_le_left _ _) (sz_le.mp lx)
        · rw [d5]
          have : ∀ l : List Addr, Vals (l.map V.ref) (l.map Value.ref) := fun l => by
            induction l with
            | nil => exact .nil
            | cons q l ih => exact .cons rfl ih
          exact this as
        · rw [Array.toArray_toList]; exact d2
      have I3 : Inv X pins σ z3.H { s1 with heap := h2, toks := tk } := by
        rw [e1]
        exact I1.un (un_lay k5 (by rw [hsz]; exact Nat.le_add_right _ _) hSf) (k6.laidN (fun _ _ e => e) hSf ob)
      exact ⟨.ref h'.objs.size, z3.H, I3, rfl, hq _ z3 (e2.trans k1) (k2.trans e3) e4 e5⟩
end
end PyI

set_option maxRecDepth 100000
namespace PyI
open PySem PySem.Spec PyProof.Rows L2
/-! ## targets -/
def setVs (σ : L2.St) : List Nat → List V → L2.St
  | i :: is, v :: vs => setVs (σ.set i (some v)) is vs
  | _, _ => σ
theorem wipe_set {i : Nat} {v : Option V} : ∀ {own : List Nat} {σ : L2.St}, i ∈ own → wipe (σ.set i v) own = wipe σ own
  | [], _, h => by simp at h
  | o :: own, σ, h => by
    unfold wipe
    by_cases ho : i ∈ own
    · rw [wipe_set ho]
    · have : i = o := by
        rcases List.mem_cons.mp h with h | h
        · exact h
        · exact absurd h ho
      subst this
      have e : ∀ {own : List Nat} {σ : L2.St}, i ∉ own → (wipe (σ.set i v) own).set i none = (wipe σ own).set i none := by
        intro own
        induction own with
        | nil => intro σ _; simp [wipe]
        | cons o own ih =>
          intro σ h
          have h1 : i ≠ o := fun e => h (by rw [e]; exact List.mem_cons_self)
          have h2 : i ∉ own := fun e => h (List.mem_cons_of_mem _ e)
          unfold wipe
          rw [List.set_comm _ _ (Ne.symm h1), ih h2, List.set_comm _ _ (Ne.symm h1)]
      exact e ho
theorem wipe_sub {own : List Nat} {σ : L2.St} : ∀ {own' : List Nat}, (∀ i ∈ own', i ∈ own) → wipe (wipe σ own') own = wipe σ own
  | [], _ => rfl
  | o :: own', h => by
    show wipe ((wipe σ own').set o none) own = _
    rw [wipe_set (h o List.mem_cons_self), wipe_sub fun i hi => h i (List.mem_cons_of_mem _ hi)]
theorem wipe_wipe (σ : L2.St) (own : List Nat) : wipe (wipe σ own) own = wipe σ own := wipe_sub fun _ h => h
theorem wipe_setVs {own : List Nat} : ∀ {is : List Nat} {vs : List V} {σ : L2.St}, (∀ i ∈ is, i ∈ own) → wipe (setVs σ is vs) own = wipe σ own
  | [], _, _, _ => rfl
  | _ :: _, [], _, _ => rfl
  | i :: is, v :: vs, σ, h => by
    show wipe (setVs (σ.set i (some v)) is vs) own = _
    rw [wipe_setVs (fun j hj => h j (List.mem_cons_of_mem _ hj)), wipe_set (h i List.mem_cons_self)]
theorem setVs_length : ∀ {is : List Nat} {vs : List V} {σ : L2.St}, (setVs σ is vs).length = σ.length
  | [], _, _ => rfl
  | _ :: _, [], _ => rfl
  | i :: is, v :: vs, σ => by
    show (setVs (σ.set i (some v)) is vs).length = _
    rw [setVs_length, List.length_set]
theorem setN_ok {K : PySem.W.Frag} {z : Zw} : ∀ {is : List Nat} {ds : List D} {vs : List V} {e e' : Env} {σ : L2.St}, setN e is ds = some e' → EnvOk K z e σ → Reps K z ds vs → vs.length = is.length ∧ EnvOk K z e' (setVs σ is vs)
  | [], [], _, _, _, _, h, he, r => by cases h; rw [r.nil_inv]; exact ⟨rfl, he⟩
  | i :: is, d :: ds, _, e, e', σ, h, he, r => by
    obtain ⟨v, vs, rfl, h1, h2⟩ := r.cons_inv
    have := setN_ok (is := is) (e := e.set i (some d)) (σ := σ.set i (some v)) h (he.set i h1) h2
    exact ⟨by simp [this.1], this.2⟩
  | [], _ :: _, _, _, _, _, h, _, _ => by cases h
  | _ :: _, [], _, _, _, _, h, _, _ => by cases h
def tgI : Tg → List Nat
  | .nm i => [i]
  | .tp is => is
/-- storing to a target, by the evaluator -/
def tG (X : Cx) (t : Tg) : TG := fun v σ H Q => ∃ z e d e', z.H = H ∧ StOk X.K z ∧ EnvOk X.K z e σ ∧ Rep X.K z d v ∧ setT e t d = some e' ∧
  ∀ σ', EnvOk X.K z e' σ' → (∀ own : List Nat, (∀ i ∈ tgI t, i ∈ own) → wipe σ' own = wipe σ own) → Q σ' z.H
/-- a name that may be stored -/
def Sto (X : Cx) (i : Nat) (x : Str) : Prop := X.N[i]? = some x ∧ Loc X.env.scope x ∧ (X.fn x = true ∨ X.env.scope.names.lookup x = some .local)
section
variable {X : Cx} {W : WX} {pos : Pos}
theorem PG_imp {e : Expr} {t t' : TG} (h : PG X e t) (f : ∀ v σ H Q, t' v σ H Q → t v σ H Q) : PG X e t' := ⟨fun pins s σ H v u Q I r q => h.run pins s σ H v u Q I r (f _ _ _ _ q)⟩
theorem s_nm {i : Nat} {x : Str} (hN : X.N.Nodup) (s : Sto X i x) : PG X (.Name x pos) (tG X (.nm i)) :=
  PG_imp (pg_name hN s.1 s.2.1 s.2.2) fun v σ H Q h => by
    obtain ⟨z, e, d, e', rfl, hs, he, r, q, k⟩ := h
    cases q
    exact k _ (he.set i r) fun own ho => wipe_set (ho i (by simp [tgI]))
inductive Stos (X : Cx) : List Nat → List Expr → Prop
  | nil : Stos X [] []
  | cons {i : Nat} {x : Str} {p : Pos} {is : List Nat} {es : List Expr} : Sto X i x → Stos X is es → Stos X (i :: is) (.Name x p :: es)
theorem assignEach_name {x : Str} {p : Pos} {es : List Expr} {env : PySem.Env} : (assignEach (Expr.Name x p :: es) env) = (false, assign (Expr.Name x p) env) :: assignEach es env := by rfl
theorem Stos.each {is : List Nat} {es : List Expr} (h : Stos X is es) : (assignEach es X.env).length = is.length ∧ (assignEach es X.env).findIdx? (·.1) = none := by
  induction h with
  | nil => exact ⟨rfl, rfl⟩
  | cons s _ ih =>
    rw [assignEach_name]
    refine ⟨by simp [ih.1], ?_⟩
    rw [List.findIdx?_cons]
    simp [ih.2]
theorem s_nms (hN : X.N.Nodup) {is : List Nat} {es : List Expr} (h : Stos X is es) : PGs X es (fun vs σ H Q => vs.length = is.length ∧ Q (setVs σ is vs) H) := by
  induction h with
  | nil =>
    refine ⟨fun pins s σ H vs us Q I r hq => pgs_nil.run pins s σ H vs us Q I r ?_⟩
    have : vs = [] := List.eq_nil_of_length_eq_zero hq.1
    subst this
    exact ⟨rfl, hq.2⟩
  | @cons i x p is es s _ ih =>
    refine ⟨fun pins st σ H vs us Q I r hq => (pgs_cons (pg_name (pos := p) hN s.1 s.2.1 s.2.2) ih (by rw [assignEach_name]; rfl)).run pins st σ H vs us Q I r ?_⟩
    obtain ⟨hl, hq⟩ := hq
    cases vs with
    | nil => cases hl
    | cons v vs => exact ⟨v, vs, rfl, Nat.succ.inj hl, hq⟩
theorem s_tp {is : List Nat} {es : List Expr} {k : Nat} (hN : X.N.Nodup) (hc : X.calm = true) (h : Stos X is es) : PG X (.Tuple es k pos) (tG X (.tp is)) :=
  PG_imp (pg_tup (n := is.length) hc (s_nms hN h) h.each.1 h.each.2) fun v σ H Q hh => by
    obtain ⟨z, e, d, e', rfl, hs, he, r, q, kk⟩ := hh
    cases d with
    | tup ds =>
      obtain ⟨a, xs, rfl, h1, _, h3⟩ := r.tup_inv
      obtain ⟨h4, h5⟩ := setN_ok (show setN e is ds = some e' from q) he h3
      exact ⟨a, xs, rfl, h1, h4, h4, kk _ h5 fun own ho => wipe_setVs ho⟩
    | _ => cases q
/-! ## what is walked -/
structure ItOk (K : PySem.W.Frag) (z : Zw) (s : Src) (J : L2.It) : Prop where
  goes : ∀ z' i, Ex0 z z' → StOk K z' → srcOk z'.S s = true → i < s.1.length → J.go i z'.H
  stops : ∀ z', Ex0 z z' → StOk K z' → srcOk z'.S s = true → J.stop s.1.length z'.H
  yields : ∀ z' i x H', Ex0 z z' → StOk K z' → srcOk z'.S s = true → i < s.1.length → J.yld i z'.H x H' → ∃ z2 d, z2.H = H' ∧ z2.S = z'.S ∧ Ext z' z2 ∧ StOk K z2 ∧ s.1[i]? = some d ∧ Rep K z2 d x
theorem Ex0.trans {a b c : Zw} (x : Ex0 a b) (y : Ex0 b c) : Ex0 a c := ⟨x.pre.trans y.pre, fun p o h => y.im p o (x.im p o h)⟩
theorem Ex0.refl (z : Zw) : Ex0 z z := ⟨List.prefix_refl _, fun _ _ h => h⟩
theorem ItOk.mono {K : PySem.W.Frag} {z z1 : Zw} {s : Src} {J : L2.It} (x : Ex0 z z1) (h : ItOk K z s J) : ItOk K z1 s J :=
  ⟨fun z' i a => h.goes z' i (x.trans a), fun z' a => h.stops z' (x.trans a), fun z' i y H' a => h.yields z' i y H' (x.trans a)⟩
def tI (X : Cx) (W : WX) (f : Env → Store → Rs Src) : TI := fun σ H R => ∃ z e, z.H = H ∧ StOk X.K z ∧ EnvOk X.K z e σ ∧ Post X.K X.mg W z (f e z.S) fun s z1 => ∀ J, ItOk X.K z1 s J → R J z1.H
theorem PI_imp {tg e : Expr} {t t' : TI} (h : PI X tg e t) (f : ∀ σ H Q, t' σ H Q → t σ H Q) : PI X tg e t' := ⟨fun pins s σ H Q I q => h.run pins s σ H Q I (f _ _ _ q)⟩
theorem PI_or {tg e : Expr} {t t' : TI} (h : PI X tg e t) (h' : PI X tg e t') : PI X tg e (fun σ H Q => t σ H Q ∨ t' σ H Q) :=
  ⟨fun pins s σ H Q I q => q.elim (fun q => h.run pins s σ H Q I q) fun q => h'.run pins s σ H Q I q⟩
section
variable {K : PySem.W.Frag} {z : Zw}
theorem it_seqL {ds : List D} {a : Addr} {xs : List V} (h : ∀ z', Ex0 z z' → SqL K z'.H a xs) (r : Reps K z ds xs) : ItOk K z (ds, none) (Itl K a) where
  goes := fun z' i x s _ hi => ⟨xs, xs[i]'(by rw [← r.length]; exact hi), h z' x, by simp [List.getElem?_eq_getElem, ← r.length, show i < ds.length from hi]⟩
  stops := fun z' x s _ => ⟨xs, h z' x, by rw [← r.length]; exact Nat.le_refl _⟩
  yields := fun z' i v H' x s _ hi y => by
    obtain ⟨rfl, y⟩ := y
    have e := y xs (h z' x)
    have hi : i < ds.length := hi
    obtain ⟨w, e1, e2⟩ := r.get (List.getElem?_eq_getElem hi)
    rw [e] at e1; cases e1
    exact ⟨z', ds[i], rfl, rfl, Ext.refl _, s, List.getElem?_eq_getElem hi, e2.mono0 x⟩
theorem it_seqT {ds : List D} {a : Addr} {xs : List V} (h : ∀ z', Ex0 z z' → SqT K z'.H a xs) (r : Reps K z ds xs) : ItOk K z (ds, none) (Itt K a) where
  goes := fun z' i x s _ hi => ⟨xs, xs[i]'(by rw [← r.length]; exact hi), h z' x, by simp [List.getElem?_eq_getElem, ← r.length, show i < ds.length from hi]⟩
  stops := fun z' x s _ => ⟨xs, h z' x, by rw [← r.length]; exact Nat.le_refl _⟩
  yields := fun z' i v H' x s _ hi y => by
    obtain ⟨rfl, y⟩ := y
    have e := y xs (h z' x)
    have hi : i < ds.length := hi
    obtain ⟨w, e1, e2⟩ := r.get (List.getElem?_eq_getElem hi)
    rw [e] at e1; cases e1
    exact ⟨z', ds[i], rfl, rfl, Ext.refl _, s, List.getElem?_eq_getElem hi, e2.mono0 x⟩
theorem it_obj {r : Nat} {ds : List D} {a : Addr} (ha : z.ρ[r]? = some a) : ItOk K z (ds, some r) (Itl K a) := by
  have at_ : ∀ z', Ex0 z z' → StOk K z' → srcOk z'.S (ds, some r) = true → ∃ xs, z'.H a = some (.lst xs) ∧ Reps K z' ds xs := fun z' x s h => by
    obtain ⟨xs, h1, _, h3⟩ := s.ob r _ a (srcOk_some.mp h) (pre_get x.pre ha)
    exact ⟨xs, h1, h3⟩
  refine ⟨fun z' i x s h hi => ?_, fun z' x s h => ?_, fun z' i v H' x s h hi y => ?_⟩
  · obtain ⟨xs, h1, h3⟩ := at_ z' x s h
    exact ⟨xs, xs[i]'(by rw [← h3.length]; exact hi), .of h1, by simp [List.getElem?_eq_getElem, ← h3.length, show i < ds.length from hi]⟩
  · obtain ⟨xs, h1, h3⟩ := at_ z' x s h
    exact ⟨xs, .of h1, by rw [← h3.length]; exact Nat.le_refl _⟩
  · obtain ⟨xs, h1, h3⟩ := at_ z' x s h
    obtain ⟨rfl, y⟩ := y
    have e := y xs (.of h1)
    have hi : i < ds.length := hi
    obtain ⟨w, e1, e2⟩ := h3.get (List.getElem?_eq_getElem hi)
    rw [e] at e1; cases e1
    exact ⟨z', ds[i], rfl, rfl, Ext.refl _, s, List.getElem?_eq_getElem hi, e2⟩
theorem it_rng {lo : Int} {n : Nat} : ItOk K z (itInts lo n, none) (Itr lo n) where
  goes := fun z' i x s _ hi => by
    show i < n
    simpa [itInts] using hi
  stops := fun z' x s _ => by simp [itInts, Itr]
  yields := fun z' i v H' x s _ hi y => by
    obtain ⟨rfl, rfl⟩ := y
    have hi : i < n := by simpa [itInts] using hi
    exact ⟨z', .int (lo + (i : Nat)), rfl, rfl, Ext.refl _, s, by simp [itInts, hi], .int_⟩
theorem it_str {t : Str} : ItOk K z (t.cps.toList.map fun c => D.str ⟨#[c]⟩, none) (Its t) where
  goes := fun z' i x s _ hi => by
    show i < t.cps.size
    simpa using hi
  stops := fun z' x s _ => by simp [Its]
  yields := fun z' i v H' x s _ hi y => by
    obtain ⟨rfl, c, h1, rfl⟩ := y
    exact ⟨z', .str ⟨#[c]⟩, rfl, rfl, Ext.refl _, s, by simp [List.getElem?_map, h1], .str_⟩
end
variable {pa pb : Expr} {fa fb : Env → Store → Rs D} {tg : Expr}
theorem s_seq (ha : PE X pa (tE X W fa)) : PI X tg pa (tI X W fun e S => (fa e S).bind fun d S => optR (srcOf S d) S) :=
  PI_imp (PI_or (pi_list ha) (PI_or (pi_tup ha) (pi_str ha))) fun σ H Q h => by
    obtain ⟨z, e, rfl, hs, he, P⟩ := h
    have P : Post X.K X.mg W z ((fa e z.S).bind fun d S => optR (srcOf S d) S) (fun s z1 => ∀ J, ItOk X.K z1 s J → Q J z1.H) := P
    cases q : fa e z.S with
    | bad => rw [q] at P; exact P.elim
    | exc y e' S1 =>
      rw [q] at P
      refine .inl ⟨z, e, rfl, hs, he, ?_⟩
      rw [q]; exact P
    | ok d S1 =>
      rw [q] at P
      have P : Post X.K X.mg W z (optR (srcOf S1 d) S1) (fun s z1 => ∀ J, ItOk X.K z1 s J → Q J z1.H) := P
      have lst : ∀ ds, srcOf S1 d = some (ds, none) → (∀ z1, z1.S = S1 → Ext z z1 → StOk X.K z1 → ∀ J, ItOk X.K z1 (ds, none) J → Q J z1.H) := fun ds h => by
        rw [h] at P; exact P
      cases d with
      | tup ds =>
        refine .inr (.inl ⟨z, e, rfl, hs, he, ?_⟩)
        rw [q]
        intro z1 h1 h2 h3 v rv
        have rv0 := rv
        unfold Rep at rv
        obtain ⟨a, xs, rfl, k1, _, k3⟩ := rv
        refine ⟨a, rfl, ⟨xs, (rv0.tup_inv |> fun ⟨b, ys, e, q, _⟩ => by cases e; exact k1.elim (fun k => SqT.of k.1) sq0)⟩, lst ds rfl z1 h1 h2 h3 _ (it_seqT (xs := xs) (fun z' x => ?_) k3)⟩
        exact k1.elim (fun k => SqT.of (x.im _ _ k).1) sq0
      | lst ds =>
        refine .inl ⟨z, e, rfl, hs, he, ?_⟩
        rw [q]
        intro z1 h1 h2 h3 v rv
        unfold Rep at rv
        obtain ⟨a, xs, rfl, k1, _, k3⟩ := rv
        refine ⟨a, rfl, ⟨xs, .of k1.1⟩, lst ds rfl z1 h1 h2 h3 _ ?_⟩
        exact it_seqL (xs := xs) (fun z' x => .of (x.im _ _ k1).1) k3
      | rol ds =>
        refine .inl ⟨z, e, rfl, hs, he, ?_⟩
        rw [q]
        intro z1 h1 h2 h3 v rv
        unfold Rep at rv
        obtain ⟨a, xs, rfl, k1, _, k3⟩ := rv
        have hq : ∀ z', Ex0 z1 z' → SqL X.K z'.H a xs := fun z' x => k1.elim (fun ⟨o, k⟩ => .inl (.inr ⟨o, (x.im _ _ k).1⟩)) sl0
        exact ⟨a, rfl, ⟨xs, hq z1 (Ex0.refl _)⟩, lst ds rfl z1 h1 h2 h3 _ (it_seqL (xs := xs) hq k3)⟩
      | obj r =>
        simp only [srcOf] at P
        cases q2 : S1[r]? with
        | none => simp only [q2] at P; exact P.elim
        | some mo =>
          cases mo with
          | lst ds =>
            simp only [q2] at P
            refine .inl ⟨z, e, rfl, hs, he, ?_⟩
            rw [q]
            intro z1 h1 h2 h3 v rv
            obtain ⟨a, xs, rfl, k0, k1, _, k3⟩ := obj_inv h3 rv (by rw [h1]; exact q2)
            exact ⟨a, rfl, ⟨xs, .of k1⟩, P z1 h1 h2 h3 _ (it_obj k0)⟩
          | _ => simp only [q2] at P; exact P.elim
      | str t =>
        simp only [srcOf] at P
        by_cases hz : t.length ≤ SZ
        · rw [if_pos hz] at P
          refine .inr (.inr ⟨z, e, rfl, hs, he, ?_⟩)
          rw [q]
          exact fun z1 h1 h2 h3 v rv => ⟨t, rv.str_inv, P z1 h1 h2 h3 _ it_str⟩
        · rw [if_neg hz] at P; exact P.elim
      | _ => exact P.elim
theorem small_ok {i : Int} (h : small62 i = true) : -(2 ^ 62) ≤ i ∧ i < 2 ^ 62 := by
  unfold small62 at h
  obtain ⟨h1, h2⟩ := Bool.and_eq_true_iff.mp h
  exact ⟨of_decide_eq_true h1, of_decide_eq_true h2⟩
theorem s_rng {p : Pos} (ha : PE X pa (tE X W fa)) (hg : Gl X "range") (hm : X.mg "range" = none) (hst : starEach [pa] X.env = [(false, eval pa X.env)]) :
    PI X tg (.Call (.Name "range" p) [pa] [] pos) (tI X W fun e S => (fa e S).bind fun d S => match d with
    | .int j => if small62 j then .ok (itInts 0 j.toNat, none) S else .bad
    | _ => .bad) :=
  PI_imp (pi_range1 hg hm (pa_cons ha pa_nil hst) hst) fun σ H Q h => by
    obtain ⟨z, e, rfl, hs, he, P⟩ := h
    refine ⟨z, e, rfl, hs, he, P.bind.imp fun d z1 x1 s1 P1 v rv => ?_⟩
    cases d with
    | int j =>
      cases q : small62 j with
      | false => simp only [q] at P1; exact P1.elim
      | true =>
        simp only [q, if_true] at P1
        obtain ⟨h1, h2⟩ := small_ok q
        refine ⟨j, ?_, h1, h2, Post.val P1 s1 _ it_rng⟩
        rw [rv.int_inv]
    | _ => exact P1.elim
theorem s_rng2 {p : Pos} (ha : PE X pa (tE X W fa)) (hb : PE X pb (tE X W fb)) (hg : Gl X "range") (hm : X.mg "range" = none) (hst : starEach [pa, pb] X.env = [(false, eval pa X.env), (false, eval pb X.env)]) (hst2 : starEach [pb] X.env = [(false, eval pb X.env)]) :
    PI X tg (.Call (.Name "range" p) [pa, pb] [] pos) (tI X W fun e S => (fa e S).bind fun d S => (fb e S).bind fun d2 S => match d, d2 with
    | .int i, .int j => if small62 i && small62 j then .ok (itInts i (j - i).toNat, none) S else .bad
    | _, _ => .bad) :=
  PI_imp (pi_range2 hg hm (pa_cons ha (pa_cons hb pa_nil hst2) (by rw [hst, hst2])) hst hst2) fun σ H Q h => by
    obtain ⟨z, e, rfl, hs, he, P⟩ := h
    refine ⟨z, e, rfl, hs, he, P.bind.imp fun d z1 x1 s1 P1 v rv => ⟨z1, e, rfl, s1, he.mono x1, P1.bind.imp fun d2 z2 x2 s2 P2 u ru => ?_⟩⟩
    cases d with
    | int i =>
      cases d2 with
      | int j =>
        cases q : (small62 i && small62 j) with
        | false => simp only [q] at P2; exact P2.elim
        | true =>
          simp only [q, if_true] at P2
          obtain ⟨q1, q2⟩ := Bool.and_eq_true_iff.mp q
          obtain ⟨h1, h2⟩ := small_ok q1
          obtain ⟨h3, h4⟩ := small_ok q2
          refine ⟨i, j, ?_, ⟨h1, h2, h3, h4⟩, Post.val P2 s2 _ it_rng⟩
          rw [(rv.mono x2).int_inv, ru.int_inv]
      | _ => exact P2.elim
    | _ => exact P2.elim
/-! ## comprehensions -/
abbrev WF : WX := fun _ _ _ _ => False
theorem bind_ok {α β : Type} {r : Rs α} {f : α → Store → Rs β} {b : β} {S : Store} (h : r.bind f = .ok b S) : ∃ a S1, r = .ok a S1 ∧ f a S1 = .ok b S := by
  cases r with
  | ok a S1 => exact ⟨a, S1, rfl, h⟩
  | exc x e S1 => cases h
  | bad => cases h
theorem nox_ok {α : Type} {r : Rs α} {a : α} {S : Store} (h : r.nox = .ok a S) : r = .ok a S := by
  cases r with
  | ok b S1 => exact h
  | _ => cases h
/-- with a list held besides: D is written by the comprehension alone -/
structure ExtD (p : Addr) (z z' : Zw) : Prop where
  pre : z.ρ <+: z'.ρ
  im : ∀ a o, Im z a o → Im z' a o
  hd : z'.hd = p :: z.hd
  hk : ∀ a ∈ z.hd, z'.H a = z.H a
theorem ExtD.trans {p : Addr} {a b c : Zw} (x : ExtD p a b) (y : Ext b c) : ExtD p a c :=
  ⟨x.pre.trans y.pre, fun q o h => y.im q o (x.im q o h), y.hd.trans x.hd, fun q hq => (y.hk q (by rw [x.hd]; exact List.mem_cons_of_mem _ hq)).trans (x.hk q hq)⟩
theorem held_start {K : PySem.W.Frag} {z : Zw} {p : Addr} (s : StOk K z) (hp : z.H p = none) (xs : List V) : ExtD p z ⟨p :: z.hd, z.ρ, z.S, upd z.H p (.lst xs)⟩ ∧ StOk K ⟨p :: z.hd, z.ρ, z.S, upd z.H p (.lst xs)⟩ := by
  have nl := s.nolive hp
  have ne : ∀ {a u o}, z.H a = some u → upd z.H p o a = some u := fun {a u o} h => by
    rw [upd_ne (by rintro rfl; rw [hp] at h; cases h)]; exact h
  have im : ∀ a o, Im z a o → Im ⟨p :: z.hd, z.ρ, z.S, upd z.H p (.lst xs)⟩ a o := fun a o ⟨h1, h2⟩ => ⟨ne h1, fun l => by
    rcases l with l | l
    · exact h2 (.inl l)
    · rcases List.mem_cons.mp l with l | l
      · subst l; rw [hp] at h1; cases h1
      · exact h2 (.inr l)⟩
  refine ⟨⟨List.prefix_refl _, im, rfl, fun a ha => ?_⟩, ⟨s.len, s.nd, fun a ha => ?_, fun a ha => ?_, fun a ha h => ?_, fun r mo a h1 h2 => ?_⟩⟩
  · obtain ⟨u, e⟩ := s.ht a ha
    show upd z.H p _ a = _
    rw [ne e, e]
  · obtain ⟨u, e⟩ := s.tr a ha; exact ⟨u, ne e⟩
  · rcases List.mem_cons.mp ha with ha | ha
    · subst ha; exact ⟨_, upd_same⟩
    · obtain ⟨u, e⟩ := s.ht a ha; exact ⟨u, ne e⟩
  · rcases List.mem_cons.mp h with h | h
    · subst h
      obtain ⟨u, e⟩ := s.tr a ha
      rw [hp] at e; cases e
    · exact s.dj a ha h
  · exact MoOk.mono0 (z := z) (z' := ⟨p :: z.hd, z.ρ, z.S, upd z.H p (.lst xs)⟩) ⟨List.prefix_refl _, im⟩ (s.ob r mo a h1 h2) fun u e => ne e
/-- the held list grows -/
theorem held_set {K : PySem.W.Frag} {z : Zw} {p : Addr} (s : StOk K z) (hp : p ∈ z.hd) (xs : List V) : Ex0 z ⟨z.hd, z.ρ, z.S, upd z.H p (.lst xs)⟩ ∧ StOk K ⟨z.hd, z.ρ, z.S, upd z.H p (.lst xs)⟩ := by
  have im : ∀ a o, Im z a o → Im ⟨z.hd, z.ρ, z.S, upd z.H p (.lst xs)⟩ a o := fun a o ⟨h1, h2⟩ => ⟨by
    show upd z.H p _ a = _
    rw [upd_ne (by rintro rfl; exact h2 (.inr hp))]; exact h1, h2⟩
  have x : Ex0 z ⟨z.hd, z.ρ, z.S, upd z.H p (.lst xs)⟩ := ⟨List.prefix_refl _, im⟩
  have there : ∀ a, (∃ o, z.H a = some o) → ∃ o, upd z.H p (.lst xs) a = some o := fun a ⟨o, e⟩ => by
    by_cases h : a = p
    · subst h; exact ⟨_, upd_same⟩
    · rw [upd_ne h]; exact ⟨o, e⟩
  refine ⟨x, ⟨s.len, s.nd, fun a ha => there a (s.tr a ha), fun a ha => there a (s.ht a ha), s.dj, fun r mo a h1 h2 => (s.ob r mo a h1 h2).mono0 x fun u e => ?_⟩⟩
  show upd z.H p _ a = _
  rw [upd_ne]
  · exact e
  · rintro rfl
    exact s.dj a (List.mem_of_getElem? h2) hp
/-- it is held no more -/
theorem held_end {K : PySem.W.Frag} {z z1 : Zw} {p : Addr} (s0 : StOk K z) (hp : z.H p = none) (x : ExtD p z z1) (s : StOk K z1) {acc : List D} {xs : List V} (h : z1.H p = some (.lst xs)) (hl : acc.length ≤ SZ) (r : Reps K z1 acc xs) :
    Ext z ⟨z.hd, z1.ρ, z1.S, z1.H⟩ ∧ StOk K ⟨z.hd, z1.ρ, z1.S, z1.H⟩ ∧ Rep K ⟨z.hd, z1.ρ, z1.S, z1.H⟩ (.lst acc) (.ref p) := by
  have sub : ∀ a ∈ z.hd, a ∈ z1.hd := fun a ha => by rw [x.hd]; exact List.mem_cons_of_mem _ ha
  have x1 : Ex0 z1 ⟨z.hd, z1.ρ, z1.S, z1.H⟩ := ⟨List.prefix_refl _, fun a o ⟨h1, h2⟩ => ⟨h1, fun l => h2 (l.imp id (sub a))⟩⟩
  refine ⟨⟨x.pre, fun a o q => x1.im a o (x.im a o q), rfl, x.hk⟩, ⟨s.len, s.nd, s.tr, fun a ha => s.ht a (sub a ha), fun a ha h => s.dj a ha (sub a h), fun i mo a h1 h2 => (s.ob i mo a h1 h2).mono0 x1 fun u e => e⟩, ?_⟩
  unfold Rep
  refine ⟨p, xs, rfl, ⟨h, fun l => ?_⟩, hl, r.mono0 x1⟩
  rcases l with ⟨i, mo, q1, _, _⟩ | l
  · exact s.dj p (List.mem_of_getElem? q1) (by rw [x.hd]; exact List.mem_cons_self)
  · obtain ⟨u, e⟩ := s0.ht p l
    rw [hp] at e; cases e
theorem pts_of {ifs : List Expr} {t t' : TT} (h : PTs X ifs t) (f : ∀ σ H Q, t' σ H Q → t σ H Q) : PTs X ifs t' := ⟨fun pins s σ H Q I q => h.run pins s σ H Q I (f _ _ _ q)⟩
theorem s_yes : PTs X [] (tT X W fun _ S => .ok true S) :=
  pts_of pts_nil fun σ H Q h => by
    obtain ⟨z, e, rfl, hs, he, P⟩ := h
    exact Post.val P hs
/-- one turn of a comprehension, by the evaluator -/
def lcF (t : Tg) (own : List Nat) (ft : Env → Store → Rs Bool) (fe : Env → Store → Rs D) (e : Env) : D → List D → Store → Rs (List D) := fun x acc S => match setT (wip e own) t x with
  | some e' => (ft e' S).bind fun b S => if b then (fe e' S).bind fun d S => if acc.length < SZ then .ok (acc ++ [d]) S else .bad else .ok acc S
  | none => .bad
theorem lcF_acc {t : Tg} {own : List Nat} {ft : Env → Store → Rs Bool} {fe : Env → Store → Rs D} {e : Env} {x : D} {acc acc' : List D} {S S' : Store} (h : lcF t own ft fe e x acc S = .ok acc' S') :
    ∃ e' b S1, setT (wip e own) t x = some e' ∧ ft e' S = .ok b S1 ∧ (if b then ∃ d S2, fe e' S1 = .ok d S2 ∧ acc.length < SZ ∧ acc' = acc ++ [d] ∧ S' = S2 else acc' = acc ∧ S' = S1) := by
  unfold lcF at h
  cases q : setT (wip e own) t x with
  | none => simp only [q] at h; cases h
  | some e' =>
    simp only [q] at h
    obtain ⟨b, S1, h1, h2⟩ := bind_ok h
    refine ⟨e', b, S1, rfl, h1, ?_⟩
    cases b with
    | false => simp at h2 ⊢; exact ⟨h2.1.symm, h2.2.symm⟩
    | true =>
      simp only [if_true] at h2 ⊢
      obtain ⟨d, S2, h3, h4⟩ := bind_ok h2
      refine ⟨d, S2, h3, ?_⟩
      by_cases hl : acc.length < SZ
      · rw [if_pos hl] at h4
        injection h4 with h5 h6
        exact ⟨hl, h5.symm, h6.symm⟩
      · rw [if_neg hl] at h4; cases h4
noncomputable def lcE (fi : Env → Store → Rs Src) (t : Tg) (own : List Nat) (ft : Env → Store → Rs Bool) (fe : Env → Store → Rs D) : Env → Store → Rs D := fun e S => (fi e S).bind fun s S => (forR (fun S => srcOk S s) (lcF t own ft fe e) s.1 [] S).nox.bind fun ds S => .ok (.lst ds) S
theorem comp_core {own : List (Str × Nat)} {t : Tg} {fi : Env → Store → Rs Src} {ft : Env → Store → Rs Bool} {fe : Env → Store → Rs D} (ho : ∀ i ∈ tgI t, i ∈ own.map (·.2)) {σ : L2.St} {H : Hp} {Q : VK}
    (h : tE X W (lcE fi t (own.map (·.2)) ft fe) σ H Q) : tLc (tI X W fi) (tG X t) (tT X WF ft) (tE X WF fe) (own.map (·.2)) σ H Q := by
  obtain ⟨z, e, rfl, hs, he, P⟩ := h
  refine ⟨z, e, rfl, hs, he, P.bind.imp fun s z1 x1 s1 P1 J IO p hp => ?_⟩
  have he1 := he.mono x1
  obtain ⟨ds, Sf, hR⟩ : ∃ ds Sf, forR (fun S => srcOk S s) (lcF t (own.map (·.2)) ft fe e) s.1 [] z1.S = .ok ds Sf := by
    cases q : forR (fun S => srcOk S s) (lcF t (own.map (·.2)) ft fe e) s.1 [] z1.S with
    | ok ds Sf => exact ⟨ds, Sf, rfl⟩
    | _ => rw [q] at P1; exact P1.elim
  rw [hR] at P1
  have P1 : Post X.K X.mg W z1 (.ok (.lst ds) Sf) (fun d z1 => ∀ v, Rep X.K z1 d v → Q v z1.H) := P1
  -- what holds between two turns
  let Pv : Nat → Hp → Prop := fun i H => ∃ zi acc xs, zi.H = H ∧ ExtD p z1 zi ∧ StOk X.K zi ∧ H p = some (.lst xs) ∧ acc.length ≤ SZ ∧ Reps X.K zi acc xs ∧ forR (fun S => srcOk S s) (lcF t (own.map (·.2)) ft fe e) (s.1.drop i) acc zi.S = .ok ds Sf
  have itok : ∀ zi, ExtD p z1 zi → ItOk X.K zi s J := fun zi x => IO.mono ⟨x.pre, x.im⟩
  refine ⟨fun i m H => m = s.1.length - i ∧ i ≤ s.1.length ∧ Pv i H, ⟨s.1.length, by simp, Nat.zero_le _, ?_⟩, ?_⟩
  · obtain ⟨a1, a2⟩ := held_start s1 hp []
    exact ⟨_, [], [], rfl, a1, a2, upd_same, by simp, .nil, by simpa using hR⟩
  · rintro i m H ⟨rfl, hi, zi, acc, xs, rfl, xd, si, hxs, hl, rr, hF⟩
    by_cases hlt : i < s.1.length
    · right
      obtain ⟨d, hd⟩ : ∃ d, s.1[i]? = some d := ⟨_, List.getElem?_eq_getElem hlt⟩
      have hdr : s.1.drop i = d :: s.1.drop (i + 1) := by
        rw [List.drop_eq_getElem_cons hlt]
        rw [List.getElem?_eq_getElem hlt] at hd; cases hd; rfl
      rw [hdr] at hF
      unfold forR at hF
      cases hch : srcOk zi.S s with
      | false => simp only [hch] at hF; cases hF
      | true =>
        simp only [hch, if_true] at hF
        obtain ⟨acc', S', hf, hrest⟩ := bind_ok hF
        refine ⟨(itok zi xd).goes zi i (Ex0.refl _) si hch hlt, Pv (i + 1), fun H' h' => ⟨_, by omega, rfl, hlt, h'⟩, fun x H' y => ?_⟩
        obtain ⟨z2, d2, rfl, e2, x2, s2, hd2, r2⟩ := (itok zi xd).yields zi i x H' (Ex0.refl _) si hch hlt y
        rw [hd] at hd2; cases hd2
        obtain ⟨e', b, S1, hst, hft, hrest2⟩ := lcF_acc hf
        have he2 : EnvOk X.K z2 (wip e (own.map (·.2))) (wipe σ (own.map (·.2))) := (EnvOk.mono0 (x2.ex0) (EnvOk.mono0 ⟨xd.pre, xd.im⟩ he1)).wip _
        refine ⟨z2, _, d, e', rfl, s2, he2, r2, hst, fun σ2 he3 hw => ⟨(hw _ ho).trans (wipe_wipe _ _), z2, e', rfl, s2, he3, ?_⟩⟩
        rw [e2, hft]
        intro z3 q1 x3 s3
        subst q1
        cases b with
        | false =>
          simp only [Bool.false_eq_true, if_false] at hrest2 ⊢
          obtain ⟨rfl, rfl⟩ := hrest2
          have xx := (xd.trans x2).trans x3
          refine ⟨z3, acc', xs, rfl, xx, s3, ?_, hl, (rr.mono x2).mono x3, hrest⟩
          have pin : p ∈ zi.hd := by rw [xd.hd]; exact List.mem_cons_self
          rw [x3.hk p (by rw [x2.hd]; exact pin), x2.hk p pin]; exact hxs
        | true =>
          simp only [if_true] at hrest2 ⊢
          obtain ⟨dd, S2, hfe, hlen, rfl, rfl⟩ := hrest2
          refine ⟨z3, e', rfl, s3, he3.mono x3, ?_⟩
          rw [hfe]
          intro z4 q2 x4 s4 v rv
          subst q2
          have xx := ((xd.trans x2).trans x3).trans x4
          have pin : p ∈ zi.hd := by rw [xd.hd]; exact List.mem_cons_self
          have hp4 : z4.H p = some (.lst xs) := by rw [x4.hk p (by rw [x3.hd, x2.hd]; exact pin), x3.hk p (by rw [x2.hd]; exact pin), x2.hk p pin]; exact hxs
          have pin4 : p ∈ z4.hd := by rw [xx.hd]; exact List.mem_cons_self
          obtain ⟨b1, b2⟩ := held_set s4 pin4 (xs ++ [v])
          refine ⟨xs, hp4, by rw [← rr.length, sizeLine_eq]; exact hlen, ⟨z4.hd, z4.ρ, z4.S, upd z4.H p (.lst (xs ++ [v]))⟩, acc ++ [dd], xs ++ [v], rfl, ⟨xx.pre, fun a o q => b1.im a o (xx.im a o q), xx.hd, fun a ha => ?_⟩, b2, upd_same, by rw [List.length_append]; exact hlen, ?_, hrest⟩
          · show upd z4.H p _ a = _
            rw [upd_ne]
            · exact xx.hk a ha
            · rintro rfl
              obtain ⟨u, eu⟩ := s1.ht a ha
              rw [hp] at eu; cases eu
          · exact ((((rr.mono x2).mono x3).mono x4).mono0 b1).app (.one (rv.mono0 b1))
    · left
      have hin : i = s.1.length := by omega
      subst hin
      rw [List.drop_length] at hF
      unfold forR at hF
      cases hch : srcOk zi.S s with
      | false => simp only [hch] at hF; cases hF
      | true =>
        simp only [hch, if_true] at hF
        injection hF with h1 h2
        subst h1
        refine ⟨(itok zi xd).stops zi (Ex0.refl _) si hch, ?_⟩
        obtain ⟨c1, c2, c3⟩ := held_end s1 hp xd si hxs hl rr
        exact P1 ⟨z1.hd, zi.ρ, zi.S, zi.H⟩ h2 c1 c2 _ c3
theorem s_comp {elt iter : Expr} {ifs : List Expr} {scope : Scope} {own : List (Str × Nat)} {t : Tg} {fi : Env → Store → Rs Src} {ft : Env → Store → Rs Bool} {fe : Env → Store → Rs D} (hc : X.calm = true) (hN : X.N.Nodup) (hi : PI X tg iter (tI X W fi)) (ok : BlkOk X.N X.env.scope scope own)
    (ho : ∀ i ∈ tgI t, i ∈ own.map (·.2))
    (hg : ∀ (s : Shared) (H : Hp) (C : Addr) (cl : List (Str × Addr)) (fp : List Addr), PG (X.blk s H scope (compEnvC scope cl C X.env) fp) tg (tG X t)) (ht : ∀ (s : Shared) (H : Hp) (C : Addr) (cl : List (Str × Addr)) (fp : List Addr), PTs (X.blk s H scope (compEnvC scope cl C X.env) fp) ifs (tT X WF ft))
    (he : ∀ (s : Shared) (H : Hp) (C : Addr) (cl : List (Str × Addr)) (fp : List Addr), PE (X.blk s H scope (compEnvC scope cl C X.env) fp) elt (tE X WF fe)) (hs : ∀ x, foldedSetIterable iter X.env x = pure x) :
    PE X (.ListComp elt [⟨tg, iter, ifs, 0⟩] scope pos) (tE X W (lcE fi t (own.map (·.2)) ft fe)) :=
  PE_imp (pe_lc hc hN hi ok hg ht he hs) fun σ H Q h => comp_core ho h
theorem s_setComp {i : Nat} {y : Str} {py spos : Pos} {elt iter : Expr} {ifs : List Expr} {scope : Scope} {own : List (Str × Nat)} {t : Tg} {fi : Env → Store → Rs Src} {ft : Env → Store → Rs Bool} {fe : Env → Store → Rs D} (hc : X.calm = true) (hN : X.N.Nodup)
    (hy : X.N[i]? = some y) (hyl : X.env.scope.names.lookup y = some .local) (hsw : swapsWith (.ListComp elt [⟨tg, iter, ifs, 0⟩] scope pos) (some (.Name y py)) spos.line X.env = pure true)
    (hi : PI X tg iter (tI X W fi)) (ok : BlkOk X.N X.env.scope scope own)
    (ho : ∀ i ∈ tgI t, i ∈ own.map (·.2))
    (hg : ∀ (s : Shared) (H : Hp) (C : Addr) (cl : List (Str × Addr)) (fp : List Addr), PG (X.blk s H scope (compEnvC scope cl C X.env) fp) tg (tG X t)) (ht : ∀ (s : Shared) (H : Hp) (C : Addr) (cl : List (Str × Addr)) (fp : List Addr), PTs (X.blk s H scope (compEnvC scope cl C X.env) fp) ifs (tT X WF ft))
    (he : ∀ (s : Shared) (H : Hp) (C : Addr) (cl : List (Str × Addr)) (fp : List Addr), PE (X.blk s H scope (compEnvC scope cl C X.env) fp) elt (tE X WF fe)) (hs : ∀ x, foldedSetIterable iter X.env x = pure x) :
    PS X (.Assign [.Name y py] (.ListComp elt [⟨tg, iter, ifs, 0⟩] scope pos) spos) (tAsg (tE X W (lcE fi t (own.map (·.2)) ft fe)) (gName i)) := by
  have h := ps_setLc (X := X) (spos := spos) hc hN hy hyl hsw hi ok hg ht he hs
  exact ⟨fun pins s σ H Dn I q => h.run pins s σ H Dn I (comp_core ho q)⟩
end
end PyI

set_option maxRecDepth 100000
namespace PyI
open PySem PySem.Spec PyProof.Rows L2
/-! ## the syntax against the model's -/
def asName : Expr → Option Str
  | .Name x _ => some x
  | _ => none
def asBin : Expr → Option (Expr × Operator × Expr)
  | .BinOp a o b _ => some (a, o, b)
  | _ => none
def asUn : Expr → Option (UnaryOp × Expr)
  | .UnaryOp o a _ => some (o, a)
  | _ => none
def asCmp1 : Expr → Option (Expr × CmpOp × Expr)
  | .Compare a [o] [b] _ => some (a, o, b)
  | _ => none
def asCmp2 : Expr → Option (Expr × CmpOp × CmpOp × Expr × Expr)
  | .Compare a [o, p] [b, c] _ => some (a, o, p, b, c)
  | _ => none
/-- x op y .. : x, and the rest as an expression -/
def asBool (o : BoolOp) : Expr → Option (Expr × Expr × Bool)
  | .BoolOp p (a :: b :: r) pos => if p = o then some (a, (match r with | [] => b | _ :: _ => .BoolOp p (b :: r) pos), r.isEmpty) else none
  | _ => none
def asIf : Expr → Option (Expr × Expr × Expr)
  | .IfExp c a b _ => some (c, a, b)
  | _ => none
def asTup : Expr → Option (List Expr)
  | .Tuple es _ _ => some es
  | _ => none
def asLs : Expr → Option (List Expr)
  | .List es _ => some es
  | _ => none
def isDic : Expr → Bool
  | .Dict [] [] _ => true
  | _ => false
def asSub : Expr → Option (Expr × Expr)
  | .Subscript a i _ => some (a, i)
  | _ => none
def asSl : Expr → Option (Expr × Option Expr × Option Expr)
  | .Subscript a (.Slice lo hi none _) _ => some (a, lo, hi)
  | _ => none
def asCall : Expr → Option (Str × List Expr)
  | .Call (.Name f _) es [] _ => some (f, es)
  | _ => none
def asMeth : Expr → Option (Expr × Str × List Expr)
  | .Call (.Attribute a m ap) es [] cp => if (ap.endLine == cp.line) = true then some (a, m, es) else none
  | _ => none
def asComp : Expr → Option (Expr × Expr × Expr × List Expr × Scope)
  | .ListComp elt [⟨tg, it, ifs, 0⟩] sc _ => some (elt, tg, it, ifs, sc)
  | _ => none
def asStar : Expr → Option Expr
  | .Starred a _ => some a
  | _ => none
def nst : Expr → Bool
  | .Starred _ _ => false
  | _ => true
def nsl : Expr → Bool
  | .Slice _ _ _ _ => false
  | _ => true
def nse : Expr → Bool
  | .Set _ _ _ => false
  | _ => true
def nab : Expr → Bool
  | .Call (.Name _ _) [] [] _ => false
  | _ => true
def plT : Expr → Bool
  | .UnaryOp .Not _ _ => false
  | .BoolOp _ _ _ => false
  | .IfExp _ _ _ _ => false
  | .Compare _ _ _ _ => false
  | _ => true
def visB (sc : Scope) (x : Str) : Bool := match sc.names.lookup x with
  | some .local => true
  | some .cell => true
  | some .free => true
  | _ => false
def stoB (ow : Scope) (x : Str) : Bool := match ow.names.lookup x with
  | some .local => true
  | some .cell => true
  | _ => false
def glB (sc : Scope) (x : Str) : Bool := match sc.names.lookup x with
  | some .globalImplicit => true
  | _ => false
def dbB (x : Str) : Bool := !(x == ("__debug__" : Str)) && !(x == ("__classdict__" : Str)) && !(x == ("__name__" : Str))
def isN (N : List Str) (i : Nat) (x : Str) : Bool := match N[i]? with
  | some y => decide (y = x)
  | none => false
def mTgs (N : List Str) (ow : Scope) : List Nat → List Expr → Bool
  | [], [] => true
  | i :: is, .Name x _ :: es => isN N i x && stoB ow x && mTgs N ow is es
  | _, _ => false
def mTg (N : List Str) (ow : Scope) : Tg → Expr → Bool
  | .nm i, .Name x _ => isN N i x && stoB ow x
  | .tp is, .Tuple es _ _ => mTgs N ow is es
  | _, _ => false
def isTup : Expr → Bool
  | .Tuple _ _ _ => true
  | _ => false
def mTys (sc : Scope) : List Ty → List Expr → Bool
  | [], [] => true
  | t :: ts, .Name x _ :: es => decide (x = Str.ofString (tyN t)) && glB sc x && mTys sc ts es
  | _, _ => false
def mTyx (sc : Scope) (ts : List Ty) : Expr → Bool
  | .Name x _ => (match ts with
    | [t] => decide (x = Str.ofString (tyN t)) && glB sc x
    | _ => false)
  | .Tuple es _ _ => !ts.isEmpty && decide (ts.length ≤ 100) && mTys sc ts es
  | _ => false
def mCst : D → Expr → Bool
  | .non, .Constant .none _ _ => true
  | .bl b, .Constant (.bool c) _ _ => b == c
  | .int i, .Constant (.int j) _ _ => decide (i = j)
  | .str x, .Constant (.str y) _ _ => decide (x = y)
  | _, _ => false
def ownP (N : List Str) (own : List Nat) : List (Str × Nat) := own.filterMap fun i => N[i]?.map fun x => (x, i)
def isYes : Tx → Bool
  | .yes => true
  | _ => false
section
variable (fns : List String) (N : List Str)
mutual
def mE : Scope → Scope → Ex → Expr → Bool
  | sc, ow, .var i, p => (match asName p with
    | some x => isN N i x && visB sc x && dbB x
    | none => false)
  | sc, ow, .cst d, p => mCst d p
  | sc, ow, .glo g, p => (match asName p with
    | some x => decide (x = Str.ofString g) && glB sc x && dbB x
    | none => false)
  | sc, ow, .bin o a b, p => (match asBin p with
    | some (pa, op, pb) => decide (op = boOf o) && mE sc ow a pa && mE sc ow b pb
    | none => false)
  | sc, ow, .neg a, p => (match asUn p with
    | some (.USub, pa) => mE sc ow a pa
    | _ => false)
  | sc, ow, .cmp o a b, p => (match asCmp1 p with
    | some (pa, op, pb) => decide (op = coOf o) && mE sc ow a pa && mE sc ow b pb && !behindInMarks op pb
    | none => false)
  | sc, ow, .chn o q a b c, p => (match asCmp2 p with
    | some (pa, op, oq, pb, pc) => decide (op = coOf o) && decide (oq = coOf q) && mE sc ow a pa && mE sc ow b pb && mE sc ow c pc && !lastMarks [op, oq] [pb, pc]
    | none => false)
  | sc, ow, .nt a, p => (match asUn p with
    | some (.Not, pa) => mE sc ow a pa
    | _ => false)
  | sc, ow, .and a b, p => (match asBool .And p with
    | some (pa, pb, _) => mE sc ow a pa && mE sc ow b pb
    | none => false)
  | sc, ow, .or a b, p => (match asBool .Or p with
    | some (pa, pb, _) => mE sc ow a pa && mE sc ow b pb
    | none => false)
  | sc, ow, .ife c a b, p => (match asIf p with
    | some (pc, pa, pb) => mT sc ow c pc && mE sc ow a pa && mE sc ow b pb
    | none => false)
  | sc, ow, .tup es, p => (match asTup p with
    | some ps => mA sc ow es ps
    | none => false)
  | sc, ow, .lst es, p => (match asLs p with
    | some ps => mA sc ow es ps
    | none => false)
  | sc, ow, .mls es, p => (match asLs p with
    | some ps => mA sc ow es ps
    | none => false)
  | sc, ow, .dic, p => isDic p
  | sc, ow, .ix a i, p => (match asSub p with
    | some (pa, pi) => nsl pi && mE sc ow a pa && mE sc ow i pi
    | none => false)
  | sc, ow, .sl a lo hi, p => (match asSl p with
    | some (pa, pl, ph) => mE sc ow a pa && mO sc ow lo pl && mO sc ow hi ph
    | none => false)
  | sc, ow, .isi a ts, p => (match asCall p with
    | some (f, [pa, pt]) => decide (f = "isinstance") && glB sc f && nst pa && mE sc ow a pa && mTyx sc ts pt
    | _ => false)
  | sc, ow, .cB b es, p => (match asCall p with
    | some (f, pa :: ps) => decide (f = biName b) && glB sc f && mA sc ow es (pa :: ps) && (pa :: ps).all nst
    | _ => false)
  | sc, ow, .cF f es, p => (match asCall p with
    | some (g, pa :: ps) => decide (g = Str.ofString f) && glB sc g && dbB g && fns.contains f && mA sc ow es (pa :: ps) && (pa :: ps).all nst
    | _ => false)
  | sc, ow, .app a x, p => (match asMeth p with
    | some (pa, m, [px]) => decide (m = "append") && nab pa && nst px && mE sc ow a pa && mE sc ow x px
    | _ => false)
  | sc, ow, .ext a x, p => (match asMeth p with
    | some (pa, m, [px]) => decide (m = "extend") && nab pa && nst px && mE sc ow a pa && mE sc ow x px
    | _ => false)
  | sc, ow, .popl a, p => (match asMeth p with
    | some (pa, m, []) => decide (m = "pop") && nab pa && mE sc ow a pa
    | _ => false)
  | sc, ow, .comp own elt t it c, p => (match asComp p with
    | some (pe, pt, pi, pc, s2) => nse pi && blkC N sc s2 (ownP N own) && decide ((ownP N own).map (·.2) = own) && (tgI t).all (fun i => own.contains i) && mTg N s2 t pt && mI sc ow (isTup pt) it pi &&
      mE (relS s2 sc) s2 elt pe && (match pc with
        | [] => isYes c
        | [q] => mT (relS s2 sc) s2 c q
        | _ => false)
    | none => false)
  | sc, ow, .comp2 .., p => false
  | sc, ow, .fz a, p => mE sc ow a p
  | sc, ow, .zipl es, p => (match asCall p with
    | some (f, [q]) => decide (f = "list") && glB sc f && (match asCall q with
      | some (g, [pa, pb]) => decide (g = "zip") && glB sc g && mA sc ow es [pa, pb] && [pa, pb].all nst
      | _ => false)
    | _ => false)
def mT : Scope → Scope → Tx → Expr → Bool
  | sc, ow, .yes, p => false
  | sc, ow, .tst a, p => plT p && mE sc ow a p
  | sc, ow, .cmp o a b, p => (match asCmp1 p with
    | some (pa, op, pb) => decide (op = coOf o) && mE sc ow a pa && mE sc ow b pb && !behindInMarks op pb
    | none => false)
  | sc, ow, .chn o q a b c, p => (match asCmp2 p with
    | some (pa, op, oq, pb, pc) => decide (op = coOf o) && decide (oq = coOf q) && mE sc ow a pa && mE sc ow b pb && mE sc ow c pc && !lastMarks [op, oq] [pb, pc]
    | none => false)
  | sc, ow, .ife c a b, p => (match asIf p with
    | some (pc, pa, pb) => mT sc ow c pc && mT sc ow a pa && mT sc ow b pb
    | none => false)
  | sc, ow, .nt a, p => (match asUn p with
    | some (.Not, pa) => mT sc ow a pa
    | _ => false)
  | sc, ow, .and a b, p => (match asBool .And p with
    | some (pa, pb, _) => mT sc ow a pa && mT sc ow b pb
    | none => false)
  | sc, ow, .or a b, p => (match asBool .Or p with
    | some (pa, pb, _) => mT sc ow a pa && mT sc ow b pb
    | none => false)
def mA : Scope → Scope → Exs → List Expr → Bool
  | sc, ow, .nil, [] => true
  | sc, ow, .cons e es, p :: ps => nst p && mE sc ow e p && mA sc ow es ps
  | sc, ow, .star e es, p :: ps => (match asStar p with
    | some q => mE sc ow e q && mA sc ow es ps
    | none => false)
  | _, _, _, _ => false
def mO : Scope → Scope → Eo → Option Expr → Bool
  | sc, ow, .no, none => true
  | sc, ow, .so e, some p => mE sc ow e p
  | _, _, _, _ => false
def mI : Scope → Scope → Bool → It → Expr → Bool
  | sc, ow, tt, .seq e, p => mE sc ow e p
  | sc, ow, tt, .rng e, p => (match asCall p with
    | some (f, [pa]) => decide (f = "range") && glB sc f && nst pa && mE sc ow e pa
    | _ => false)
  | sc, ow, tt, .rng2 a b, p => (match asCall p with
    | some (f, [pa, pb]) => decide (f = "range") && glB sc f && nst pa && nst pb && mE sc ow a pa && mE sc ow b pb
    | _ => false)
  | _, _, _, _, _ => false
end
end
end PyI

set_option maxRecDepth 100000
namespace PyI
open PySem PySem.Spec PyProof.Rows L2
/-! ## the text's expressions do what the evaluator says -/
def bnames : List Str := ["len", "tuple", "list", "all", "any", "sum", "min", "max", "abs", "int", "sorted", "zip", "isinstance", "bool", "str", "dict", "range", "enumerate"]
structure Gd (X : Cx) (W : WX) (N : List Str) (sc ow : Scope) : Prop where
  hN : X.N = N
  nd : N.Nodup
  sc : X.env.scope = sc
  calm : X.calm = true
  tk : Takes X W
  st : ∀ x, stoB ow x = true → Loc X.env.scope x ∧ (X.fn x = true ∨ X.env.scope.names.lookup x = some .local)
  hu : X.A.units + 65 < cLine
  bn : ∀ x ∈ bnames, X.mg x = none
structure CallOk (X : Cx) (k : Nat) (f : String) (c : List D → Store → Rs D) : Prop where
  ex : ∃ (fa : Addr) (fd : FuncData) (ps : List Str), X.mg (Str.ofString f) = some (.ref fa) ∧ PySem.W.keepIn X.K (.ref fa) = true ∧ L2.Binds X.K fd ps [] ∧ FnOk X.prog X.w X.K X.mg X.base (L2.CX X.prog X.w) k fa fd ps (spOf X.K X.mg ps.length c) ∧
    ∀ ds S, c ds S ≠ .bad → ds.length = ps.length
structure WdOk (X : Cx) (fns : List String) (wd : Wd) (k : Nat) : Prop where
  con : ∀ g d, wd.con g = some d → ∃ (u : Value) (v : V), X.mg (Str.ofString g) = some u ∧ RelV v u ∧ ∀ z, Rep X.K z d v
  call : ∀ f, fns.contains f = true → CallOk X k f (wd.call f)
  room : Room k X.A
section
variable {X : Cx} {W : WX} {N : List Str} {sc ow : Scope}
theorem Gd.gl (G : Gd X W N sc ow) {x : Str} (h : glB sc x = true) : Gl X x := by
  show X.env.scope.names.lookup x = _
  rw [G.sc]
  unfold glB at h
  split at h
  · assumption
  · cases h
theorem Gd.vis (G : Gd X W N sc ow) {x : Str} (h : visB sc x = true) : Vis X.env.scope x := by
  unfold Vis
  rw [G.sc]
  unfold visB at h
  split at h
  · exact .inl (by assumption)
  · exact .inr (.inl (by assumption))
  · exact .inr (.inr (by assumption))
  · cases h
theorem Gd.ix (G : Gd X W N sc ow) {i : Nat} {x : Str} (h : isN N i x = true) : X.N[i]? = some x := by
  rw [G.hN]
  unfold isN at h
  split at h
  · rename_i y e
    rw [e, of_decide_eq_true h]
  · cases h
theorem db_ok {x : Str} (h : dbB x = true) : (x == ("__debug__" : Str)) = false ∧ (x == ("__classdict__" : Str)) = false ∧ x ≠ "__name__" := by
  unfold dbB at h
  simp only [Bool.and_eq_true, Bool.not_eq_true'] at h
  exact ⟨h.1.1, h.1.2, fun e => by rw [e] at h; simp at h⟩
theorem Gd.sto (G : Gd X W N sc ow) {i : Nat} {x : Str} (h1 : isN N i x = true) (h2 : stoB ow x = true) : Sto X i x := ⟨G.ix h1, (G.st x h2).1, (G.st x h2).2⟩
theorem Gd.stos (G : Gd X W N sc ow) : ∀ {is : List Nat} {es : List Expr}, mTgs N ow is es = true → Stos X is es
  | [], [], _ => .nil
  | i :: is, e :: es, h => by
    unfold mTgs at h
    split at h
    · rename_i h1 h2; cases h1
    · rename_i i' is' x p es' h1 h2
      cases h1; cases h2
      simp only [Bool.and_eq_true] at h
      exact .cons (G.sto h.1.1 h.1.2) (G.stos h.2)
    · cases h
  | [], _ :: _, h => by simp [mTgs] at h
  | _ :: _, [], h => by simp [mTgs] at h
theorem Gd.tg (G : Gd X W N sc ow) {t : Tg} {e : Expr} (h : mTg N ow t e = true) : PG X e (tG X t) := by
  have nd : X.N.Nodup := by rw [G.hN]; exact G.nd
  unfold mTg at h
  split at h
  · simp only [Bool.and_eq_true] at h
    exact s_nm nd (G.sto h.1 h.2)
  · exact s_tp nd G.calm (G.stos h)
  · cases h
theorem nst_ok {e : Expr} {es : List Expr} {env : PySem.Env} (h : nst e = true) : starEach (e :: es) env = (false, eval e env) :: starEach es env := by
  cases e <;> first | rfl | cases h
theorem nsl_ok {e : Expr} (h : nsl e = true) : PlainIx e := fun o i => by
  cases e <;> first | rfl | cases h
theorem nse_ok {e : Expr} (h : nse e = true) (env : PySem.Env) : ∀ x, foldedSetIterable e env x = pure x := fun x => by
  cases e <;> first | rfl | cases h
theorem nab_ok {e : Expr} (h : nab e = true) (a : Str) (env : PySem.Env) : attributeBase e a env (eval e env) = eval e env := by
  cases e with
  | Call f as kws p =>
    cases f with
    | Name x q =>
      cases as with
      | nil =>
        cases kws with
        | nil => cases h
        | cons _ _ => rfl
      | cons _ _ => rfl
    | _ => rfl
  | _ => rfl
theorem plT_ok {e : Expr} (h : plT e = true) (env : PySem.Env) : ∀ whole, PySem.isTrue e env whole = (do let v ← whole; standAt e.pos; holding [v] (truthy v)) := fun wh => by
  cases e with
  | UnaryOp o a p => cases o <;> first | rfl | cases h
  | BoolOp _ _ _ => cases h
  | IfExp _ _ _ _ => cases h
  | Compare _ _ _ _ => cases h
  | _ => rfl
theorem all_nst : ∀ {ps : List Expr} {env : PySem.Env} {pos : Pos}, ps.all nst = true → (backTo pos (starEach ps env)).any (·.1) = false
  | [], _, _, _ => rfl
  | p :: ps, env, pos, h => by
    rw [List.all_cons, Bool.and_eq_true] at h
    rw [nst_ok h.1]
    show (false || (backTo pos (starEach ps env)).any (·.1)) = false
    rw [all_nst h.2]; rfl
/-! the forms -/
theorem asName_ok {p : Expr} {x : Str} (h : asName p = some x) : ∃ q, p = .Name x q := by
  unfold asName at h; split at h <;> cases h; exact ⟨_, rfl⟩
theorem asBin_ok {p a b : Expr} {o : Operator} (h : asBin p = some (a, o, b)) : ∃ q, p = .BinOp a o b q := by
  unfold asBin at h; split at h <;> cases h; exact ⟨_, rfl⟩
theorem asUn_ok {p a : Expr} {o : UnaryOp} (h : asUn p = some (o, a)) : ∃ q, p = .UnaryOp o a q := by
  unfold asUn at h; split at h <;> cases h; exact ⟨_, rfl⟩
theorem asCmp1_ok {p a b : Expr} {o : CmpOp} (h : asCmp1 p = some (a, o, b)) : ∃ q, p = .Compare a [o] [b] q := by
  unfold asCmp1 at h; split at h <;> cases h; exact ⟨_, rfl⟩
theorem asCmp2_ok {p a b c : Expr} {o o' : CmpOp} (h : asCmp2 p = some (a, o, o', b, c)) : ∃ q, p = .Compare a [o, o'] [b, c] q := by
  unfold asCmp2 at h; split at h <;> cases h; exact ⟨_, rfl⟩
theorem asIf_ok {p a b c : Expr} (h : asIf p = some (c, a, b)) : ∃ q, p = .IfExp c a b q := by
  unfold asIf at h; split at h <;> cases h; exact ⟨_, rfl⟩
theorem asTup_ok {p : Expr} {es : List Expr} (h : asTup p = some es) : ∃ k q, p = .Tuple es k q := by
  unfold asTup at h; split at h <;> cases h; exact ⟨_, _, rfl⟩
theorem asLs_ok {p : Expr} {es : List Expr} (h : asLs p = some es) : ∃ q, p = .List es q := by
  unfold asLs at h; split at h <;> cases h; exact ⟨_, rfl⟩
theorem isDic_ok {p : Expr} (h : isDic p = true) : ∃ q, p = .Dict [] [] q := by
  unfold isDic at h; split at h <;> first | exact ⟨_, rfl⟩ | cases h
theorem asSub_ok {p a i : Expr} (h : asSub p = some (a, i)) : ∃ q, p = .Subscript a i q := by
  unfold asSub at h; split at h <;> cases h; exact ⟨_, rfl⟩
theorem asSl_ok {p a : Expr} {lo hi : Option Expr} (h : asSl p = some (a, lo, hi)) : ∃ q q2, p = .Subscript a (.Slice lo hi none q) q2 := by
  unfold asSl at h; split at h <;> cases h; exact ⟨_, _, rfl⟩
theorem asCall_ok {p : Expr} {f : Str} {es : List Expr} (h : asCall p = some (f, es)) : ∃ q q2, p = .Call (.Name f q) es [] q2 := by
  unfold asCall at h; split at h <;> cases h; exact ⟨_, _, rfl⟩
theorem asMeth_ok {p a : Expr} {m : Str} {es : List Expr} (h : asMeth p = some (a, m, es)) : ∃ ap cp, p = .Call (.Attribute a m ap) es [] cp ∧ (ap.endLine == cp.line) = true := by
  unfold asMeth at h
  split at h
  · split at h
    · cases h; exact ⟨_, _, rfl, by assumption⟩
    · cases h
  · cases h
theorem asComp_ok {p elt tg it : Expr} {ifs : List Expr} {s : Scope} (h : asComp p = some (elt, tg, it, ifs, s)) : ∃ q, p = .ListComp elt [⟨tg, it, ifs, 0⟩] s q := by
  unfold asComp at h; split at h <;> cases h; exact ⟨_, rfl⟩
theorem asStar_ok {p a : Expr} (h : asStar p = some a) : ∃ q, p = .Starred a q := by
  unfold asStar at h; split at h <;> cases h; exact ⟨_, rfl⟩
theorem asBool_ok {p a b : Expr} {o : BoolOp} {l : Bool} (h : asBool o p = some (a, b, l)) : ∃ x r q, p = .BoolOp o (a :: x :: r) q ∧ ((r = [] ∧ b = x) ∨ (r ≠ [] ∧ b = .BoolOp o (x :: r) q)) := by
  unfold asBool at h
  split at h
  · rename_i o' a' x r q
    split at h
    · rename_i e
      subst e
      cases r with
      | nil => cases h; exact ⟨_, _, _, rfl, .inl ⟨rfl, rfl⟩⟩
      | cons y r => cases h; exact ⟨_, _, _, rfl, .inr ⟨List.cons_ne_nil _ _, rfl⟩⟩
    · cases h
  · cases h
theorem pe_bool_rest {o : BoolOp} {x b : Expr} {r : List Expr} {q : Pos} {t : TE} (h : (r = [] ∧ b = x) ∨ (r ≠ [] ∧ b = .BoolOp o (x :: r) q)) (hb : PE X b t) : PE X (.BoolOp o (x :: r) q) t := by
  rcases h with ⟨rfl, rfl⟩ | ⟨_, rfl⟩
  · exact pe_one hb
  · exact hb
theorem mTys_ok (G : Gd X W N sc ow) (hb : ∀ t : Ty, X.mg (Str.ofString (tyN t)) = none) : ∀ {ts : List Ty} {es : List Expr}, mTys sc ts es = true → es.length = ts.length ∧ ∀ (i : Nat) (e : Expr) (t : Ty), es[i]? = some e → ts[i]? = some t →
    ∃ (x : Str) (px : Pos), e = Expr.Name x px ∧ Gl X x ∧ X.mg x = none ∧ bootBuiltins x = some (.type (tyN t)) ∧ x ≠ "__name__" ∧ (x == ("__debug__" : Str)) = false
  | [], [], _ => ⟨rfl, fun i e t h => by simp at h⟩
  | t :: ts, e :: es, h => by
    unfold mTys at h
    split at h
    · rename_i h1 h2; cases h1
    · rename_i t' ts' x p es' h1 h2
      cases h1; cases h2
      simp only [Bool.and_eq_true] at h
      obtain ⟨l, k⟩ := mTys_ok G hb h.2
      refine ⟨by simp [l], fun i e t' e1 e2 => ?_⟩
      cases i with
      | zero =>
        simp at e1 e2
        subst e1 e2
        have hx := of_decide_eq_true h.1.1
        subst hx
        exact ⟨_, _, rfl, G.gl h.1.2, hb t, by cases t <;> decide +kernel, by cases t <;> decide, by cases t <;> decide⟩
      | succ i => exact k i e t' (by simpa using e1) (by simpa using e2)
    · cases h
  | [], _ :: _, h => by simp [mTys] at h
  | _ :: _, [], h => by simp [mTys] at h
theorem Gd.ty (G : Gd X W N sc ow) (t : Ty) : X.mg (Str.ofString (tyN t)) = none := G.bn _ (by cases t <;> decide)
/-- within a comprehension -/
theorem Gd.blk (G : Gd X W N sc ow) {s2 : Scope} (s : Shared) (H : Hp) (C : Addr) (cl : List (Str × Addr)) (fp : List Addr) : Gd (X.blk s H s2 (compEnvC s2 cl C X.env) fp) WF N (relS s2 sc) s2 := by
  refine ⟨G.hN, G.nd, ?_, G.calm, takes0, fun x h => ?_, G.hu, G.bn⟩
  · rw [← G.sc]; rfl
  · have e : (compEnvC s2 cl C X.env).scope = relS s2 X.env.scope := rfl
    show Loc (compEnvC s2 cl C X.env).scope x ∧ ((s2.names.lookup x == some .cell) = true ∨ (compEnvC s2 cl C X.env).scope.names.lookup x = some .local)
    rw [e]
    unfold stoB at h
    split at h
    · rename_i q
      have := lookup_relS_keep (sc := X.env.scope) (k := .local) (by decide) q
      exact ⟨.inl this, .inr this⟩
    · rename_i q
      have := lookup_relS_keep (sc := X.env.scope) (k := .cell) (by decide) q
      exact ⟨.inr this, .inl (by rw [q]; rfl)⟩
    · cases h
theorem WdOk.blk {fns : List String} {wd : Wd} {k : Nat} (h : WdOk X fns wd k) {s2 : Scope} (s : Shared) (H : Hp) (C : Addr) (cl : List (Str × Addr)) (fp : List Addr) : WdOk (X.blk s H s2 (compEnvC s2 cl C X.env) fp) fns wd k :=
  ⟨h.con, fun f hf => ⟨(h.call f hf).ex⟩, h.room⟩
theorem ba3 {a b : Bool} (h : (a && b) = true) : a = true ∧ b = true := Bool.and_eq_true_iff.mp h
end
end PyI

set_option maxRecDepth 100000
set_option maxHeartbeats 4000000
namespace PyI
open PySem PySem.Spec PyProof.Rows L2
section
variable {fns : List String} {N : List Str} {wd : Wd} {k : Nat}
mutual
theorem sE : ∀ (e : Ex) {X : Cx} {W : WX} {sc ow : Scope} {p : Expr}, Gd X W N sc ow → WdOk X fns wd k → mE fns N sc ow e p = true → PE X p (tE X W (evE wd e))
  | .var i, X, W, sc, ow, p, G, w, h => by
    simp only [mE] at h
    split at h
    · rename_i x e
      obtain ⟨q, rfl⟩ := asName_ok e
      obtain ⟨h1, h3⟩ := ba3 h
      obtain ⟨h1, h2⟩ := ba3 h1
      obtain ⟨d1, d2, _⟩ := db_ok h3
      exact s_var (G.ix h1) (G.vis h2) d1 d2
    · cases h
  | .cst d, X, W, sc, ow, p, G, w, h => by
    simp only [mE] at h
    unfold mCst at h
    split at h
    · exact s_non
    · rw [eq_of_beq h]; exact s_bl
    · rw [of_decide_eq_true h]; exact s_int
    · rw [of_decide_eq_true h]; exact s_str
    · cases h
  | .glo g, X, W, sc, ow, p, G, w, h => by
    simp only [mE] at h
    split at h
    · rename_i x e
      obtain ⟨q, rfl⟩ := asName_ok e
      obtain ⟨h1, h3⟩ := ba3 h
      obtain ⟨h1, h2⟩ := ba3 h1
      obtain ⟨d1, _, _⟩ := db_ok h3
      have hx := of_decide_eq_true h1
      subst hx
      show PE X _ (tE X W fun e S => optR (wd.con g) S)
      cases q : wd.con g with
      | some d =>
        obtain ⟨u, v, k1, k2, k3⟩ := w.con g d q
        exact s_glo (G.gl h2) k1 k2 k3 d1
      | none =>
        refine PE_imp (t := fun _ _ _ => False) ⟨fun _ _ _ _ _ _ h => h.elim⟩ fun σ H Q h => ?_
        obtain ⟨z, e, _, _, _, P⟩ := h
        exact P
    · cases h
  | .bin o a b, X, W, sc, ow, p, G, w, h => by
    simp only [mE] at h
    split at h
    · rename_i pa op pb e
      obtain ⟨q, rfl⟩ := asBin_ok e
      obtain ⟨h1, h3⟩ := ba3 h
      obtain ⟨h1, h2⟩ := ba3 h1
      rw [of_decide_eq_true h1]
      exact s_bin (op_bo o) (sE a G w h2) (sE b G w h3)
    · cases h
  | .neg a, X, W, sc, ow, p, G, w, h => by
    simp only [mE] at h
    split at h
    · rename_i pa e
      obtain ⟨q, rfl⟩ := asUn_ok e
      exact s_neg (sE a G w h)
    · cases h
  | .cmp o a b, X, W, sc, ow, p, G, w, h => by
    simp only [mE] at h
    split at h
    · rename_i pa op pb e
      obtain ⟨q, rfl⟩ := asCmp1_ok e
      obtain ⟨h1, h4⟩ := ba3 h
      obtain ⟨h1, h3⟩ := ba3 h1
      obtain ⟨h1, h2⟩ := ba3 h1
      have ho := of_decide_eq_true h1
      subst ho
      exact s_cmp (op_co o G.hu) (sE a G w h2) (sE b G w h3) (by simpa using h4)
    · cases h
  | .chn o o' a b c, X, W, sc, ow, p, G, w, h => by
    simp only [mE] at h
    split at h
    · rename_i pa op oq pb pc e
      obtain ⟨q, rfl⟩ := asCmp2_ok e
      obtain ⟨h1, h6⟩ := ba3 h
      obtain ⟨h1, h5⟩ := ba3 h1
      obtain ⟨h1, h4⟩ := ba3 h1
      obtain ⟨h1, h3⟩ := ba3 h1
      obtain ⟨h1, h2⟩ := ba3 h1
      have ho := of_decide_eq_true h1
      have ho' := of_decide_eq_true h2
      subst ho ho'
      exact s_chn (op_co o G.hu) (op_co o' G.hu) (sE a G w h3) (sE b G w h4) (sE c G w h5) (by simpa using h6)
    · cases h
  | .nt a, X, W, sc, ow, p, G, w, h => by
    simp only [mE] at h
    split at h
    · rename_i pa e
      obtain ⟨q, rfl⟩ := asUn_ok e
      exact s_nt (sE a G w h)
    · cases h
  | .and a b, X, W, sc, ow, p, G, w, h => by
    simp only [mE] at h
    split at h
    · rename_i pa pb l e
      obtain ⟨x, r, q, rfl, hr⟩ := asBool_ok e
      obtain ⟨h1, h2⟩ := ba3 h
      exact s_and (sE a G w h1) (pe_bool_rest hr (sE b G w h2))
    · cases h
  | .or a b, X, W, sc, ow, p, G, w, h => by
    simp only [mE] at h
    split at h
    · rename_i pa pb l e
      obtain ⟨x, r, q, rfl, hr⟩ := asBool_ok e
      obtain ⟨h1, h2⟩ := ba3 h
      exact s_or (sE a G w h1) (pe_bool_rest hr (sE b G w h2))
    · cases h
  | .ife c a b, X, W, sc, ow, p, G, w, h => by
    simp only [mE] at h
    split at h
    · rename_i pc pa pb e
      obtain ⟨q, rfl⟩ := asIf_ok e
      obtain ⟨h1, h3⟩ := ba3 h
      obtain ⟨h1, h2⟩ := ba3 h1
      exact s_ife (sT c G w h1).1 (sE a G w h2) (sE b G w h3)
    · cases h
  | .tup es, X, W, sc, ow, p, G, w, h => by
    simp only [mE] at h
    split at h
    · rename_i ps e
      obtain ⟨kk, q, rfl⟩ := asTup_ok e
      exact s_tup (sA es G w h)
    · cases h
  | .lst es, X, W, sc, ow, p, G, w, h => by
    simp only [mE] at h
    split at h
    · rename_i ps e
      obtain ⟨q, rfl⟩ := asLs_ok e
      exact s_lst (sA es G w h)
    · cases h
  | .mls es, X, W, sc, ow, p, G, w, h => by
    simp only [mE] at h
    split at h
    · rename_i ps e
      obtain ⟨q, rfl⟩ := asLs_ok e
      exact s_mls (sA es G w h)
    · cases h
  | .dic, X, W, sc, ow, p, G, w, h => by
    simp only [mE] at h
    obtain ⟨q, rfl⟩ := isDic_ok h
    exact s_dic
  | .ix a i, X, W, sc, ow, p, G, w, h => by
    simp only [mE] at h
    split at h
    · rename_i pa pi e
      obtain ⟨q, rfl⟩ := asSub_ok e
      obtain ⟨h1, h3⟩ := ba3 h
      obtain ⟨h1, h2⟩ := ba3 h1
      exact s_ix (sE a G w h2) (sE i G w h3) (nsl_ok h1)
    · cases h
  | .sl a lo hi, X, W, sc, ow, p, G, w, h => by
    simp only [mE] at h
    split at h
    · rename_i pa pl ph e
      obtain ⟨q, q2, rfl⟩ := asSl_ok e
      obtain ⟨h1, h3⟩ := ba3 h
      obtain ⟨h1, h2⟩ := ba3 h1
      exact s_sl (sE a G w h1) (sO lo G w h2) (sO hi G w h3)
    · cases h
  | .isi a ts, X, W, sc, ow, p, G, w, h => by
    simp only [mE] at h
    split at h
    · rename_i f pa pt e
      obtain ⟨q, q2, rfl⟩ := asCall_ok e
      obtain ⟨h1, h5⟩ := ba3 h
      obtain ⟨h1, h4⟩ := ba3 h1
      obtain ⟨h1, h3⟩ := ba3 h1
      obtain ⟨h1, h2⟩ := ba3 h1
      have hf := of_decide_eq_true h1
      subst hf
      have hm : X.mg "isinstance" = none := G.bn _ (by decide)
      unfold mTyx at h5
      split at h5
      · rename_i x px
        split at h5
        · rename_i t
          obtain ⟨k1, k2⟩ := ba3 h5
          have hx := of_decide_eq_true k1
          subst hx
          exact s_isi t (sE a G w h4) (G.gl h2) hm (nst_ok h3) (G.gl k2) (G.ty t) (by cases t <;> decide +kernel) (by cases t <;> decide) (by cases t <;> decide)
        · cases h5
      · rename_i es kk px
        obtain ⟨k1, k3⟩ := ba3 h5
        obtain ⟨k1, k2⟩ := ba3 k1
        obtain ⟨l1, l2⟩ := mTys_ok G G.ty k3
        exact s_isis ts (sE a G w h4) (G.gl h2) hm (nst_ok h3) l1 (by intro e; subst e; simp at k1) (of_decide_eq_true k2) l2
      · cases h5
    · cases h
  | .cB b es, X, W, sc, ow, p, G, w, h => by
    simp only [mE] at h
    split at h
    · rename_i f pa ps e
      obtain ⟨q, q2, rfl⟩ := asCall_ok e
      obtain ⟨h1, h4⟩ := ba3 h
      obtain ⟨h1, h3⟩ := ba3 h1
      obtain ⟨h1, h2⟩ := ba3 h1
      have hf := of_decide_eq_true h1
      subst hf
      rw [List.all_cons, Bool.and_eq_true] at h4
      exact s_bi b G.calm (G.gl h2) (G.bn _ (by cases b <;> decide)) (sA es G w h3) (nst_ok h4.1) (all_nst h4.2)
    · cases h
  | .zipl es, X, W, sc, ow, p, G, w, h => by
    simp only [mE] at h
    split at h
    · rename_i f q e
      obtain ⟨h1, h2⟩ := ba3 h
      split at h2
      · rename_i g pa pb e2
        obtain ⟨q1, q2, rfl⟩ := asCall_ok e
        obtain ⟨q3, q4, rfl⟩ := asCall_ok e2
        obtain ⟨h2, h6⟩ := ba3 h2
        obtain ⟨h2, h5⟩ := ba3 h2
        obtain ⟨h2, h4⟩ := ba3 h2
        obtain ⟨h1, h3⟩ := ba3 h1
        have hf := of_decide_eq_true h1
        have hg := of_decide_eq_true h2
        subst hf hg
        rw [List.all_cons, Bool.and_eq_true] at h6
        exact s_zipl G.calm (G.gl h3) (G.bn _ (by decide)) (G.gl h4) (G.bn _ (by decide)) (sA es G w h5) (nst_ok h6.1) (all_nst h6.2)
      · cases h2
    · cases h
  | .cF f es, X, W, sc, ow, p, G, w, h => by
    simp only [mE] at h
    split at h
    · rename_i g pa ps e
      obtain ⟨q, q2, rfl⟩ := asCall_ok e
      obtain ⟨h1, h6⟩ := ba3 h
      obtain ⟨h1, h5⟩ := ba3 h1
      obtain ⟨h1, h4⟩ := ba3 h1
      obtain ⟨h1, h3⟩ := ba3 h1
      obtain ⟨h1, h2⟩ := ba3 h1
      have hf := of_decide_eq_true h1
      subst hf
      obtain ⟨fa, fd, prs, c1, c2, c3, c4, c5⟩ := (w.call f h4).ex
      rw [List.all_cons, Bool.and_eq_true] at h6
      exact s_call c4 w.room (G.gl h2) c1 c2 c3 G.tk c5 (sA es G w h5) (db_ok h3).1 (nst_ok h6.1) (all_nst h6.2)
    · cases h
  | .app a x, X, W, sc, ow, p, G, w, h => by
    simp only [mE] at h
    split at h
    · rename_i pa m px e
      obtain ⟨ap, cp, rfl, hl⟩ := asMeth_ok e
      obtain ⟨h1, h5⟩ := ba3 h
      obtain ⟨h1, h4⟩ := ba3 h1
      obtain ⟨h1, h3⟩ := ba3 h1
      obtain ⟨h1, h2⟩ := ba3 h1
      have hf := of_decide_eq_true h1
      subst hf
      exact s_app (sE a G w h4) (sE x G w h5) (nab_ok h2 _ _) hl (nst_ok h3)
    · cases h
  | .ext a x, X, W, sc, ow, p, G, w, h => by
    simp only [mE] at h
    split at h
    · rename_i pa m px e
      obtain ⟨ap, cp, rfl, hl⟩ := asMeth_ok e
      obtain ⟨h1, h5⟩ := ba3 h
      obtain ⟨h1, h4⟩ := ba3 h1
      obtain ⟨h1, h3⟩ := ba3 h1
      obtain ⟨h1, h2⟩ := ba3 h1
      have hf := of_decide_eq_true h1
      subst hf
      exact s_ext (sE a G w h4) (sE x G w h5) (nab_ok h2 _ _) hl (nst_ok h3)
    · cases h
  | .popl a, X, W, sc, ow, p, G, w, h => by
    simp only [mE] at h
    split at h
    · rename_i pa m e
      obtain ⟨ap, cp, rfl, hl⟩ := asMeth_ok e
      obtain ⟨h1, h4⟩ := ba3 h
      obtain ⟨h1, h2⟩ := ba3 h1
      have hf := of_decide_eq_true h1
      subst hf
      exact s_popl (sE a G w h4) (nab_ok h2 _ _) hl
    · cases h
  | .comp own elt t it c, X, W, sc, ow, p, G, w, h => by
    simp only [mE] at h
    split at h
    · rename_i pe pt pi pc s2 e
      obtain ⟨q, rfl⟩ := asComp_ok e
      obtain ⟨h1, h8⟩ := ba3 h
      obtain ⟨h1, h7⟩ := ba3 h1
      obtain ⟨h1, h6⟩ := ba3 h1
      obtain ⟨h1, h5⟩ := ba3 h1
      obtain ⟨h1, h4⟩ := ba3 h1
      obtain ⟨h1, h3⟩ := ba3 h1
      obtain ⟨h1, h2⟩ := ba3 h1
      have hown := of_decide_eq_true h3
      have blk : BlkOk X.N X.env.scope s2 (ownP N own) := by
        rw [G.hN, G.sc]; exact blkOk_by h2
      have nd : X.N.Nodup := by rw [G.hN]; exact G.nd
      have ho : ∀ i ∈ tgI t, i ∈ (ownP N own).map (·.2) := fun i hi => by
        rw [hown]
        have := List.all_eq_true.mp h4 i hi
        simpa using this
      have main := s_comp (X := X) (W := W) (pos := q) (scope := s2) (own := ownP N own) (t := t) (ft := evT wd c) (fe := evE wd elt) G.calm nd (sI it (tg := pt) G w rfl h6) blk ho
        (fun s H C cl fp => (G.blk (s2 := s2) s H C cl fp).tg h5)
        (ifs := pc) (fun s H C cl fp => by
          split at h8
          · cases c with
            | yes => exact s_yes
            | _ => cases h8
          · exact pts_one (sT c (G.blk (s2 := s2) s H C cl fp) (w.blk s H C cl fp) h8).1
          · cases h8)
        (fun s H C cl fp => sE elt (G.blk (s2 := s2) s H C cl fp) (w.blk s H C cl fp) h7) (nse_ok h1 _)
      rw [hown] at main
      exact main
    · cases h
  | .comp2 _ _ _ _ _ _ _ _, X, W, sc, ow, p, G, w, h => by
    simp only [mE] at h
    cases h
  | .fz a, X, W, sc, ow, p, G, w, h => by
    simp only [mE] at h
    exact s_fz (sE a G w h)
theorem sT : ∀ (c : Tx) {X : Cx} {W : WX} {sc ow : Scope} {p : Expr}, Gd X W N sc ow → WdOk X fns wd k → mT fns N sc ow c p = true → PT X p (tT X W (evT wd c)) ∧ ∀ o vs pos, p = .BoolOp o vs pos → PW X p (tT X W (evT wd c))
  | .yes, X, W, sc, ow, p, G, w, h => by
    simp only [mT] at h
    cases h
  | .tst a, X, W, sc, ow, p, G, w, h => by
    simp only [mT] at h
    obtain ⟨h1, h2⟩ := ba3 h
    refine ⟨s_tst (sE a G w h2) (plT_ok h1 _), fun o vs pos e => ?_⟩
    subst e; cases h1
  | .cmp o a b, X, W, sc, ow, p, G, w, h => by
    simp only [mT] at h
    split at h
    · rename_i pa op pb e
      obtain ⟨q, rfl⟩ := asCmp1_ok e
      obtain ⟨h1, h4⟩ := ba3 h
      obtain ⟨h1, h3⟩ := ba3 h1
      obtain ⟨h1, h2⟩ := ba3 h1
      have ho := of_decide_eq_true h1
      subst ho
      exact ⟨s_cmpT (op_co o G.hu) (sE a G w h2) (sE b G w h3) (by simpa using h4), fun _ _ _ e => by cases e⟩
    · cases h
  | .chn o o' a b c, X, W, sc, ow, p, G, w, h => by
    simp only [mT] at h
    split at h
    · rename_i pa op oq pb pc e
      obtain ⟨q, rfl⟩ := asCmp2_ok e
      obtain ⟨h1, h6⟩ := ba3 h
      obtain ⟨h1, h5⟩ := ba3 h1
      obtain ⟨h1, h4⟩ := ba3 h1
      obtain ⟨h1, h3⟩ := ba3 h1
      obtain ⟨h1, h2⟩ := ba3 h1
      have ho := of_decide_eq_true h1
      have ho' := of_decide_eq_true h2
      subst ho ho'
      exact ⟨s_chnT (op_co o G.hu) (op_co o' G.hu) (sE a G w h3) (sE b G w h4) (sE c G w h5) (by simpa using h6), fun _ _ _ e => by cases e⟩
    · cases h
  | .ife c a b, X, W, sc, ow, p, G, w, h => by
    simp only [mT] at h
    split at h
    · rename_i pc pa pb e
      obtain ⟨q, rfl⟩ := asIf_ok e
      obtain ⟨h1, h3⟩ := ba3 h
      obtain ⟨h1, h2⟩ := ba3 h1
      exact ⟨s_ifeT (sT c G w h1).1 (sT a G w h2).1 (sT b G w h3).1, fun _ _ _ e => by cases e⟩
    · cases h
  | .nt a, X, W, sc, ow, p, G, w, h => by
    simp only [mT] at h
    split at h
    · rename_i pa e
      obtain ⟨q, rfl⟩ := asUn_ok e
      exact ⟨s_ntT (sT a G w h).1, fun _ _ _ e => by cases e⟩
    · cases h
  | .and a b, X, W, sc, ow, p, G, w, h => by
    simp only [mT] at h
    split at h
    · rename_i pa pb l e
      obtain ⟨x, r, q, rfl, hr⟩ := asBool_ok e
      obtain ⟨h1, h2⟩ := ba3 h
      obtain ⟨b1, b2⟩ := sT b G w h2
      have hb : PW X (.BoolOp .And (x :: r) q) (tT X W (evT wd b)) := by
        rcases hr with ⟨rfl, rfl⟩ | ⟨_, rfl⟩
        · exact pw_and1 b1
        · exact b2 _ _ _ rfl
      have := s_andT (sT a G w h1).1 hb
      exact ⟨this.pt, fun _ _ _ _ => this⟩
    · cases h
  | .or a b, X, W, sc, ow, p, G, w, h => by
    simp only [mT] at h
    split at h
    · rename_i pa pb l e
      obtain ⟨x, r, q, rfl, hr⟩ := asBool_ok e
      obtain ⟨h1, h2⟩ := ba3 h
      obtain ⟨b1, b2⟩ := sT b G w h2
      have hb : PW X (.BoolOp .Or (x :: r) q) (tT X W (evT wd b)) := by
        rcases hr with ⟨rfl, rfl⟩ | ⟨_, rfl⟩
        · exact pw_or1 b1
        · exact b2 _ _ _ rfl
      have := s_orT (sT a G w h1).1 hb
      exact ⟨this.pt, fun _ _ _ _ => this⟩
    · cases h
theorem sA : ∀ (es : Exs) {X : Cx} {W : WX} {sc ow : Scope} {ps : List Expr}, Gd X W N sc ow → WdOk X fns wd k → mA fns N sc ow es ps = true → PA X ps (tA X W (evA wd es))
  | .nil, X, W, sc, ow, ps, G, w, h => by
    cases ps with
    | nil => exact s_nil
    | cons p ps => simp [mA] at h
  | .cons e es, X, W, sc, ow, ps, G, w, h => by
    cases ps with
    | nil => simp [mA] at h
    | cons p ps =>
      simp only [mA] at h
      obtain ⟨h1, h3⟩ := ba3 h
      obtain ⟨h1, h2⟩ := ba3 h1
      exact s_cons (sE e G w h2) (sA es G w h3) (nst_ok h1)
  | .star e es, X, W, sc, ow, ps, G, w, h => by
    cases ps with
    | nil => simp [mA] at h
    | cons p ps =>
      simp only [mA] at h
      split at h
      · rename_i q e1
        obtain ⟨pp, rfl⟩ := asStar_ok e1
        obtain ⟨h1, h2⟩ := ba3 h
        exact s_star (sE e G w h1) (sA es G w h2)
      · cases h
theorem sO : ∀ (o : Eo) {X : Cx} {W : WX} {sc ow : Scope} {p : Option Expr}, Gd X W N sc ow → WdOk X fns wd k → mO fns N sc ow o p = true → PO X p (tO X W (evO wd o))
  | .no, X, W, sc, ow, p, G, w, h => by
    cases p with
    | none => exact s_no
    | some p => simp [mO] at h
  | .so e, X, W, sc, ow, p, G, w, h => by
    cases p with
    | none => simp [mO] at h
    | some p =>
      simp only [mO] at h
      exact s_so (sE e G w h)
theorem sI : ∀ (it : It) {X : Cx} {W : WX} {sc ow : Scope} {p tg : Expr} {tt : Bool}, Gd X W N sc ow → WdOk X fns wd k → isTup tg = tt → mI fns N sc ow tt it p = true → PI X tg p (tI X W (evI wd it))
  | .seq e, X, W, sc, ow, p, tg, tt, G, w, ht, h => by
    simp only [mI] at h
    exact s_seq (sE e G w h)
  | .rng e, X, W, sc, ow, p, tg, tt, G, w, ht, h => by
    simp only [mI] at h
    split at h
    · rename_i f pa e1
      obtain ⟨q, q2, rfl⟩ := asCall_ok e1
      obtain ⟨h1, h4⟩ := ba3 h
      obtain ⟨h1, h3⟩ := ba3 h1
      obtain ⟨h1, h2⟩ := ba3 h1
      have hf := of_decide_eq_true h1
      subst hf
      exact s_rng (sE e G w h4) (G.gl h2) (G.bn _ (by decide)) (nst_ok h3)
    · cases h
  | .rng2 a b, X, W, sc, ow, p, tg, tt, G, w, ht, h => by
    simp only [mI] at h
    split at h
    · rename_i f pa pb e1
      obtain ⟨q, q2, rfl⟩ := asCall_ok e1
      obtain ⟨h1, h6⟩ := ba3 h
      obtain ⟨h1, h5⟩ := ba3 h1
      obtain ⟨h1, h4⟩ := ba3 h1
      obtain ⟨h1, h3⟩ := ba3 h1
      obtain ⟨h1, h2⟩ := ba3 h1
      have hf := of_decide_eq_true h1
      subst hf
      exact s_rng2 (sE a G w h5) (sE b G w h6) (G.gl h2) (G.bn _ (by decide)) (by rw [nst_ok h3, nst_ok h4]; rfl) (nst_ok h4)
    · cases h
  | .enu _, X, W, sc, ow, p, tg, tt, G, w, ht, h => by simp [mI] at h
  | .zip _ _, X, W, sc, ow, p, tg, tt, G, w, ht, h => by simp [mI] at h
end
end
end PyI

set_option maxRecDepth 100000
set_option maxHeartbeats 4000000
namespace PyI
open PySem PySem.Spec PyProof.Rows L2
/-! ## statements -/
def tS (X : Cx) (W : WX) (f : Env → Store → Rs Fl) : TS := fun Dn σ H => ∃ z e, z.H = H ∧ StOk X.K z ∧ EnvOk X.K z e σ ∧ Post X.K X.mg W z (f e z.S) fun fl z1 => match fl with
  | .nx e' => ∀ σ', EnvOk X.K z1 e' σ' → Dn.nx σ' z1.H
  | .ct e' => ∀ σ', EnvOk X.K z1 e' σ' → Dn.ct σ' z1.H
  | .bk e' => ∀ σ', EnvOk X.K z1 e' σ' → Dn.bk σ' z1.H
  | .rt d => ∀ v, Rep X.K z1 d v → Dn.rt v z1.H
section
variable {X : Cx} {W : WX} {pos : Pos} {pa pb pc tg : Expr} {fa fb fc : Env → Store → Rs D} {ta : Env → Store → Rs Bool} {ss : List Stmt} {s : Stmt} {gs hs : Env → Store → Rs Fl}
theorem PS_imp {st : Stmt} {t t' : TS} (h : PS X st t) (f : ∀ D σ H, t' D σ H → t D σ H) : PS X st t' := ⟨fun pins s σ H D I q => h.run pins s σ H D I (f _ _ _ q)⟩
theorem PSs_imp {st : List Stmt} {t t' : TS} (h : PSs X st t) (f : ∀ D σ H, t' D σ H → t D σ H) : PSs X st t' := ⟨fun pins s σ H D I q => h.run pins s σ H D I (f _ _ _ q)⟩
theorem s_snil : PSs X [] (tS X W fun e S => .ok (.nx e) S) :=
  PSs_imp pss_nil fun D σ H h => by
    obtain ⟨z, e, rfl, hs, he, P⟩ := h
    exact Post.val P hs σ he
theorem s_scons (h1 : PS X s (tS X W gs)) (h2 : PSs X ss (tS X W hs)) : PSs X (s :: ss) (tS X W fun e S => (gs e S).bind fun fl S => match fl with
    | .nx e' => hs e' S
    | f => .ok f S) :=
  PSs_imp (pss_cons h1 h2) fun D σ H h => by
    obtain ⟨z, e, rfl, hs, he, P⟩ := h
    refine ⟨z, e, rfl, hs, he, P.bind.imp fun fl z1 x1 s1 P1 => ?_⟩
    cases fl with
    | nx e' => exact fun σ' he' => ⟨z1, e', rfl, s1, he', P1⟩
    | ct e' => exact Post.val P1 s1
    | bk e' => exact Post.val P1 s1
    | rt d => exact Post.val P1 s1
theorem asg_core {t : Tg} {D : Ends} {σ : L2.St} {H : Hp} (h : tS X W (fun e S => (fa e S).bind fun d S => (optR (setT e t d) S).bind fun e' S => .ok (.nx e') S) D σ H) : tAsg (tE X W fa) (tG X t) D σ H := by
  obtain ⟨z, e, rfl, hs, he, P⟩ := h
  refine ⟨z, e, rfl, hs, he, P.bind.imp fun d z1 x1 s1 P1 v rv => ?_⟩
  obtain ⟨e', e1, P2⟩ := P1.bind.opt s1
  exact ⟨z1, e, d, e', rfl, s1, he.mono x1, rv, e1, fun σ' he' _ => Post.val P2 s1 σ' he'⟩
/-- target = e -/
theorem s_asg {t : Tg} (ha : PE X pa (tE X W fa)) (hg : PG X tg (tG X t)) (hsw : swapsWithSole [tg] pa pos.line X.env = pure false) (hw : swappedStores [tg] pa X.env = pure none)
    (h1 : (assignEach [tg] X.env).map (·.2) = [assign tg X.env]) : PS X (.Assign [tg] pa pos) (tS X W fun e S => (fa e S).bind fun d S => (optR (setT e t d) S).bind fun e' S => .ok (.nx e') S) :=
  PS_imp (ps_asg ha hg hsw hw h1) fun D σ H h => asg_core h
theorem s_asgComp {i : Nat} {y : Str} {py : Pos} (h : PS X (.Assign [.Name y py] pa pos) (tAsg (tE X W fa) (gName i))) : PS X (.Assign [.Name y py] pa pos) (tS X W fun e S => (fa e S).bind fun d S => (optR (setT e (.nm i) d) S).bind fun e' S => .ok (.nx e') S) :=
  PS_imp h fun D σ H h => by
    obtain ⟨z, e, rfl, hs, he, P⟩ := h
    refine ⟨z, e, rfl, hs, he, P.bind.imp fun d z1 x1 s1 P1 v rv => ?_⟩
    exact Post.val P1 s1 _ ((he.mono x1).set i rv)
theorem s_par {i j : Nat} {x y : Str} {px py pt : Pos} {kt k2 : Nat} {pt2 : Pos} (hc : X.calm = true) (hN : X.N.Nodup) (hi : X.N[i]? = some x) (hj : X.N[j]? = some y) (hij : i ≠ j)
    (hx : X.env.scope.names.lookup x = some .local) (hy : X.env.scope.names.lookup y = some .local) (ha : PE X pa (tE X W fa)) (hb : PE X pb (tE X W fb)) (n1 : nst pa = true) (n2 : nst pb = true)
    (hw : swappedStores [.Tuple [.Name x px, .Name y py] kt pt] (.Tuple [pa, pb] k2 pt2) X.env = pure (some [x, y])) :
    PS X (.Assign [.Tuple [.Name x px, .Name y py] kt pt] (.Tuple [pa, pb] k2 pt2) pos) (tS X W fun e S => (fa e S).bind fun x S => (fb e S).bind fun y S => .ok (.nx ((e.set i (some x)).set j (some y))) S) :=
  PS_imp (ps_par hc hN hi hj hij hx hy (pa_cons ha (pa_cons hb pa_nil (nst_ok n2)) (nst_ok n1)) hw rfl) fun D σ H h => by
    obtain ⟨z, e, rfl, hs, he, P⟩ := h
    refine ⟨z, e, rfl, hs, he, P.bind.imp fun d z1 x1 s1 P1 v rv => ⟨z1, e, rfl, s1, he.mono x1, P1.bind.imp fun d2 z2 x2 s2 P2 u ru => ?_⟩⟩
    exact ⟨v, u, rfl, Post.val P2 s2 _ ((((he.mono x1).mono x2).set i (rv.mono x2)).set j ru)⟩
theorem s_par3 {i j l : Nat} {x y w : Str} {px py pz pt : Pos} {kt k2 : Nat} {pt2 : Pos} (hc : X.calm = true) (hN : X.N.Nodup) (hi : X.N[i]? = some x) (hj : X.N[j]? = some y) (hl : X.N[l]? = some w) (hij : i ≠ j) (hil : i ≠ l) (hjl : j ≠ l)
    (hx : X.env.scope.names.lookup x = some .local) (hy : X.env.scope.names.lookup y = some .local) (hz : X.env.scope.names.lookup w = some .local) (ha : PE X pa (tE X W fa)) (hb : PE X pb (tE X W fb)) (hcc : PE X pc (tE X W fc)) (n1 : nst pa = true) (n2 : nst pb = true) (n3 : nst pc = true)
    (hw : swappedStores [.Tuple [.Name x px, .Name y py, .Name w pz] kt pt] (.Tuple [pa, pb, pc] k2 pt2) X.env = pure (some [x, y, w])) :
    PS X (.Assign [.Tuple [.Name x px, .Name y py, .Name w pz] kt pt] (.Tuple [pa, pb, pc] k2 pt2) pos) (tS X W fun e S => (fa e S).bind fun x S => (fb e S).bind fun y S => (fc e S).bind fun z S => .ok (.nx (((e.set i (some x)).set j (some y)).set l (some z))) S) :=
  PS_imp (ps_par3 hc hN hi hj hl hij hil hjl hx hy hz (pa_cons ha (pa_cons hb (pa_cons hcc pa_nil (nst_ok n3)) (nst_ok n2)) (nst_ok n1)) hw rfl) fun D σ H h => by
    obtain ⟨z, e, rfl, hs, he, P⟩ := h
    refine ⟨z, e, rfl, hs, he, P.bind.imp fun d z1 x1 s1 P1 v rv => ⟨z1, e, rfl, s1, he.mono x1, P1.bind.imp fun d2 z2 x2 s2 P2 u ru => ⟨z2, e, rfl, s2, (he.mono x1).mono x2, P2.bind.imp fun d3 z3 x3 s3 P3 u3 ru3 => ?_⟩⟩⟩
    exact ⟨v, u, u3, rfl, Post.val P3 s3 _ ((((((he.mono x1).mono x2).mono x3).set i ((rv.mono x2).mono x3)).set j (ru.mono x3)).set l ru3)⟩
/-! ### x op= e -/
theorem op_aug (o : BO) : OpR X (inplaceOp (boOf o)) (rD X (augop o)) := by
  intro pins s σ H v u v' u' Q I rv ru h
  obtain ⟨z, x, y, d, rfl, hs, hx, hy, hg, q⟩ := h
  have q0 : ∀ w, Rep X.K z d w → Q w z.H := fun w r => q w z rfl (Ext.refl z) hs r
  unfold augop at hg
  split at hg
  · rename_i i j
    split at hg
    · cases hg
      exact iop_add pins s σ _ _ _ _ _ Q I rv ru ⟨_, _, hx.int_inv, hy.int_inv, q0 _ .int_⟩
    · cases hg
      exact iop_sub pins s σ _ _ _ _ _ Q I rv ru ⟨_, _, hx.int_inv, hy.int_inv, q0 _ .int_⟩
    · split at hg
      · rename_i hz
        cases hg
        exact iop_mul pins s σ _ _ _ _ _ Q I rv ru ⟨_, _, hx.int_inv, hy.int_inv, hz.imp nat_abs_64 nat_abs_64, q0 _ .int_⟩
      · cases hg
    · split at hg
      · rename_i hz
        cases hg
        exact iop_shr pins s σ _ _ _ _ _ Q I rv ru ⟨_, _, hx.int_inv, hy.int_inv, hz, q0 _ .int_⟩
      · cases hg
    · cases hg
  · split at hg
    · rename_i hz
      cases hg
      exact iop_add_str pins s σ _ _ _ _ _ Q I rv ru ⟨_, _, hx.str_inv, hy.str_inv, sz_le.mp hz, q0 _ .str_⟩
    · cases hg
  · cases hg
theorem rD_of {g : D → D → Option D} {z : Zw} {x y : D} {v u : V} {Q : D → Zw → Prop} {Q' : VK} (s : StOk X.K z) (rv : Rep X.K z x v) (ru : Rep X.K z y u) (P : Post X.K X.mg W z (optR (g x y) z.S) Q) (k : ∀ d z1 w, Ext z z1 → StOk X.K z1 → z1.S = z.S → Rep X.K z1 d w → Q d z1 → Q' w z1.H) :
    rD X g v u z.H Q' := by
  cases e : g x y with
  | none => rw [e] at P; exact P.elim
  | some d => rw [e] at P; exact ⟨z, x, y, d, rfl, s, rv, ru, e, fun w z1 h1 h2 h3 h4 => k d z1 w h2 h3 h1 h4 (P z1 h1 h2 h3)⟩
theorem s_aug {i : Nat} {x : Str} {o : BO} {px : Pos} (hN : X.N.Nodup) (st : Sto X i x) (ha : PE X pa (tE X W fa)) :
    PS X (.AugAssign (.Name x px) (boOf o) pa pos) (tS X W fun e S => match e[i]? with
    | some (some d) => (fa e S).bind fun y S => (optR (augop o d y) S).bind fun z S => .ok (.nx (e.set i (some z))) S
    | _ => .bad) :=
  PS_imp (ps_aug hN st.1 st.2.1 ha (op_aug o) st.2.2) fun D σ H h => by
    obtain ⟨z, e, rfl, hs, he, P⟩ := h
    cases q : e[i]? with
    | none => simp only [q] at P; exact P.elim
    | some oo =>
      cases oo with
      | none => simp only [q] at P; exact P.elim
      | some d =>
        simp only [q] at P
        obtain ⟨v, h1, h2⟩ := he.at_ i d q
        refine ⟨v, h1, z, e, rfl, hs, he, P.bind.imp fun y z1 x1 s1 P1 u ru => ?_⟩
        exact rD_of s1 (h2.mono x1) ru P1.bind fun d2 z2 w x2 s2 _ rw_ P2 => Post.val P2 s2 _ (((he.mono x1).mono x2).set i rw_)
/-! ### a[i] = e -/
theorem s_sto {tpos : Pos} (hx : PE X pc (tE X W fc)) (ha : PE X pa (tE X W fa)) (hb : PE X pb (tE X W fb)) (hsl : nsl pb = true) :
    PS X (.Assign [.Subscript pa pb tpos] pc pos) (tS X W fun e S => (fc e S).bind fun v S => (fa e S).bind fun o S => (fb e S).bind fun y S => match o, y with
    | .obj r, .int k => match S[r]? with
      | some (.lst ds) => match place ds.length k with
        | some j => .ok (.nx e) (S.set r (.lst (ds.set j v)))
        | none => .bad
      | _ => .bad
    | _, _ => .bad) :=
  PS_imp (ps_asg hx (pg_sub ha hb set_list (by intro v; cases pb <;> first | rfl | cases hsl)) (by cases pc <;> rfl) (by cases pc <;> rfl) (by rfl)) fun D σ H h => by
    obtain ⟨z, e, rfl, hs, he, P⟩ := h
    refine ⟨z, e, rfl, hs, he, P.bind.imp fun v z1 x1 s1 P1 vv rv => ⟨z1, e, rfl, s1, he.mono x1, P1.bind.imp fun o z2 x2 s2 P2 ov ro => ⟨z2, e, rfl, s2, (he.mono x1).mono x2, P2.bind.imp fun y z3 x3 s3 P3 yv ry => ?_⟩⟩⟩
    cases o with
    | obj r =>
      cases y with
      | int k =>
        cases q : z3.S[r]? with
        | none => simp only [q] at P3; exact P3.elim
        | some mo =>
          cases mo with
          | lst ds =>
            simp only [q] at P3
            cases q2 : place ds.length k with
            | none => simp only [q2] at P3; exact P3.elim
            | some j =>
              simp only [q2] at P3
              obtain ⟨a, xs, e2, h1, h2, h3, h4⟩ := obj_inv s3 (ro.mono x3) q
              obtain ⟨x4, s4⟩ := set_ob (ds := ds.set j v) (xs := xs.set j vv) s3 q h1 (by simpa using h3) (h4.set j ((rv.mono x2).mono x3))
              exact ⟨a, xs, k, j, e2, ry.int_inv, h2, by rw [← h4.length]; exact q2, P3 _ rfl x4 s4 _ ((((he.mono x1).mono x2).mono x3).mono x4)⟩
          | _ => simp only [q] at P3; exact P3.elim
      | _ => exact P3.elim
    | _ => exact P3.elim
theorem augStore_ok {i : Expr} (h : nsl i = true) : ∀ ov iv new, augStore i ov iv new = (do holding [new, ov, iv] (setItem ov iv new); release [new, ov, iv] []; pure .next) := by
  intro ov iv new
  cases i <;> first | rfl | cases h
theorem get_list : PGet X (rIxL X.K) := by
  intro pins s σ H x y v u Q I rx ry h
  obtain ⟨p, xs, i, z, rfl, rfl, hq, he, q⟩ := h
  cases rx
  obtain ⟨t, rfl⟩ := ry
  obtain ⟨its, r, pl, hz⟩ := I.list hq
  obtain ⟨j, h1, h2, h3, h4, h5⟩ := atI_get he
  obtain ⟨w, ew, rw'⟩ := r.get h2
  have hl := r.length
  have hn := line63
  have fin : EP X pins σ Q w s := ⟨z, H, I, rw', q⟩
  by_cases h0 : 0 ≤ i
  · have hj : i.toNat = j := by
      rw [seqIndex_of h0 h5] at h1
      exact Option.some.inj h1
    exact wpAny_getItem_list pl.isList h0 (by omega) (by rw [hj]; simpa using ew) fin
  · have hj : (i + (its.toArray.size : Int)).toNat = j := by
      rw [seqIndex_neg (by omega) h4] at h1
      rw [List.size_toArray, ← hl]
      exact Option.some.inj h1
    exact wpAny_getItem_list_neg pl.isList (by omega) (by rw [List.size_toArray] <;> omega) (by omega) (by rw [hj]; simpa using ew) fin
theorem s_augs {o : BO} {tpos : Pos} (ha : PE X pa (tE X W fa)) (hb : PE X pb (tE X W fb)) (hx : PE X pc (tE X W fc)) (hsl : nsl pb = true) :
    PS X (.AugAssign (.Subscript pa pb tpos) (boOf o) pc pos) (tS X W fun e S => (fa e S).bind fun ob S => (fb e S).bind fun y S => match ob, y with
    | .obj r, .int k => match S[r]? with
      | some (.lst ds) => match atI ds k with
        | some old => (fc e S).bind fun v S => (optR (augop o old v) S).bind fun z S => match S[r]? with
          | some (.lst ds) => match place ds.length k with
            | some j => .ok (.nx e) (S.set r (.lst (ds.set j z)))
            | none => .bad
          | _ => .bad
        | none => .bad
      | _ => .bad
    | _, _ => .bad) :=
  PS_imp (ps_augS ha hb get_list hx (op_aug o) set_list (augStore_ok hsl)) fun D σ H h => by
    obtain ⟨z, e, rfl, hs, he, P⟩ := h
    refine ⟨z, e, rfl, hs, he, P.bind.imp fun ob z1 x1 s1 P1 ov ro => ⟨z1, e, rfl, s1, he.mono x1, P1.bind.imp fun y z2 x2 s2 P2 yv ry => ?_⟩⟩
    have he2 := (he.mono x1).mono x2
    cases ob with
    | obj r =>
      cases y with
      | int k =>
        cases q : z2.S[r]? with
        | none => simp only [q] at P2; exact P2.elim
        | some mo =>
          cases mo with
          | lst ds =>
            simp only [q] at P2
            cases q2 : atI ds k with
            | none => simp only [q2] at P2; exact P2.elim
            | some old =>
              simp only [q2] at P2
              have ro2 := ro.mono x2
              obtain ⟨a, xs, e2, h1, h2, h3, h4⟩ := obj_inv s2 ro2 q
              obtain ⟨w, h5, h6⟩ := h4.atI q2
              refine ⟨a, xs, k, w, e2, ry.int_inv, .of h2, h5, z2, e, rfl, s2, he2, P2.bind.imp fun v z3 x3 s3 P3 vv rv => ?_⟩
              refine rD_of s3 (h6.mono x3) rv P3.bind fun d2 z4 w4 x4 s4 _ rw_ P4 => ?_
              cases q3 : z4.S[r]? with
              | none => simp only [q3] at P4; exact P4.elim
              | some mo =>
                cases mo with
                | lst ds' =>
                  simp only [q3] at P4
                  cases q4 : place ds'.length k with
                  | none => simp only [q4] at P4; exact P4.elim
                  | some j =>
                    simp only [q4] at P4
                    obtain ⟨a', xs', e2', h1', h2', h3', h4'⟩ := obj_inv s4 ((ro2.mono x3).mono x4) q3
                    obtain ⟨x5, s5⟩ := set_ob (ds := ds'.set j d2) (xs := xs'.set j w4) s4 q3 h1' (by simpa using h3') (h4'.set j rw_)
                    exact ⟨a', xs', k, j, e2', ry.int_inv, h2', by rw [← h4'.length]; exact q4, P4 _ rfl x5 s5 _ (((he2.mono x3).mono x4).mono x5)⟩
                | _ => simp only [q3] at P4; exact P4.elim
          | _ => simp only [q] at P2; exact P2.elim
      | _ => exact P2.elim
    | _ => exact P2.elim
/-! ### small ones -/
theorem s_exp (ha : PE X pa (tE X W fa)) (hs : swapsWith pa none pos.line X.env = pure false) : PS X (.Expr pa pos) (tS X W fun e S => (fa e S).bind fun _ S => .ok (.nx e) S) :=
  PS_imp (ps_expr ha hs) fun D σ H h => by
    obtain ⟨z, e, rfl, hs, he, P⟩ := h
    exact ⟨z, e, rfl, hs, he, P.bind.imp fun d z1 x1 s1 P1 v rv => Post.val P1 s1 σ (he.mono x1)⟩
theorem s_ret (ha : PE X pa (tE X W fa)) : PS X (.Return (some pa) pos) (tS X W fun e S => (fa e S).bind fun d S => .ok (.rt d) S) :=
  PS_imp (ps_ret ha) fun D σ H h => by
    obtain ⟨z, e, rfl, hs, he, P⟩ := h
    exact ⟨z, e, rfl, hs, he, P.bind.imp fun d z1 x1 s1 P1 v rv => Post.val P1 s1 v rv⟩
theorem s_ret0 : PS X (.Return none pos) (tS X W fun _ S => .ok (.rt .non) S) :=
  PS_imp ps_retN fun D σ H h => by
    obtain ⟨z, e, rfl, hs, he, P⟩ := h
    exact Post.val P hs .non .non_
theorem s_pas : PS X (.Pass pos) (tS X W fun e S => .ok (.nx e) S) :=
  PS_imp ps_pass fun D σ H h => by
    obtain ⟨z, e, rfl, hs, he, P⟩ := h
    exact Post.val P hs σ he
theorem s_brk : PS X (.Break pos) (tS X W fun e S => .ok (.bk e) S) :=
  PS_imp ps_break fun D σ H h => by
    obtain ⟨z, e, rfl, hs, he, P⟩ := h
    exact Post.val P hs σ he
theorem s_cnt : PS X (.Continue pos) (tS X W fun e S => .ok (.ct e) S) :=
  PS_imp ps_continue fun D σ H h => by
    obtain ⟨z, e, rfl, hs, he, P⟩ := h
    exact Post.val P hs σ he
theorem s_ifs {a b : List Stmt} (hc : PT X pa (tT X W ta)) (ha : PSs X a (tS X W gs)) (hb : PSs X b (tS X W hs)) : PS X (.If pa a b pos) (tS X W fun e S => (ta e S).bind fun t S => if t then gs e S else hs e S) :=
  PS_imp (ps_if hc ha hb) fun D σ H h => by
    obtain ⟨z, e, rfl, hs, he, P⟩ := h
    refine ⟨z, e, rfl, hs, he, P.bind.imp fun t z1 x1 s1 P1 => ?_⟩
    cases t with
    | true => rw [if_pos rfl] at P1 ⊢; exact ⟨z1, e, rfl, s1, he.mono x1, P1⟩
    | false => rw [if_neg Bool.false_ne_true] at P1 ⊢; exact ⟨z1, e, rfl, s1, he.mono x1, P1⟩
/-! ### loops -/
theorem s_for {iter : Expr} {t : Tg} {fi : Env → Store → Rs Src} (hp : PassesOwn (model X.prog X.w) X.A X.env X.xe) (hc : X.calm = true) (hi : PI X tg iter (tI X W fi)) (hg : PG X tg (tG X t)) (hb : PSs X ss (tS X W gs)) (hs : ∀ x, foldedSetIterable iter X.env x = pure x) :
    PS X (.For tg iter ss [] pos) (tS X W fun e S => (fi e S).bind fun s S => forF (fun S => srcOk S s) (fun x e S => match setT e t x with
      | some e' => gs e' S
      | none => .bad) s.1 e S) :=
  PS_imp (ps_for hp hc hi hg hb hs) fun D σ H h => by
    obtain ⟨z, e, rfl, hs, he, P⟩ := h
    refine ⟨z, e, rfl, hs, he, P.bind.imp fun s z1 x1 s1 P1 J IO => ?_⟩
    let Qf : Fl → Zw → Prop := fun fl z1 => match fl with
      | .nx e' => ∀ σ', EnvOk X.K z1 e' σ' → D.nx σ' z1.H
      | .ct e' => ∀ σ', EnvOk X.K z1 e' σ' → D.ct σ' z1.H
      | .bk e' => ∀ σ', EnvOk X.K z1 e' σ' → D.bk σ' z1.H
      | .rt d => ∀ v, Rep X.K z1 d v → D.rt v z1.H
    let F : PyI.D → Env → Store → Rs Fl := fun x e S => match setT e t x with
      | some e' => gs e' S
      | none => .bad
    let Pv : Nat → L2.St → Hp → Prop := fun i σ H => ∃ zi ei, zi.H = H ∧ Ext z1 zi ∧ StOk X.K zi ∧ EnvOk X.K zi ei σ ∧ Post X.K X.mg W zi (forF (fun S => srcOk S s) F (s.1.drop i) ei zi.S) Qf
    refine ⟨fun i m σ H => m = s.1.length - i ∧ i ≤ s.1.length ∧ Pv i σ H, ⟨s.1.length, by simp, Nat.zero_le _, z1, e, rfl, Ext.refl _, s1, he.mono x1, by simpa using P1⟩, ?_⟩
    rintro i m σi H ⟨rfl, hi, zi, ei, rfl, xi, si, hei, Pi⟩
    have IO' := IO.mono xi.ex0
    by_cases hlt : i < s.1.length
    · right
      obtain ⟨d, hd⟩ : ∃ d, s.1[i]? = some d := ⟨_, List.getElem?_eq_getElem hlt⟩
      have hdr : s.1.drop i = d :: s.1.drop (i + 1) := by
        rw [List.drop_eq_getElem_cons hlt]
        rw [List.getElem?_eq_getElem hlt] at hd; cases hd; rfl
      rw [hdr] at Pi
      unfold forF at Pi
      cases hch : srcOk zi.S s with
      | false => simp only [hch] at Pi; exact Pi.elim
      | true =>
        simp only [hch, if_true] at Pi
        refine ⟨IO'.goes zi i (Ex0.refl _) si hch hlt, Pv (i + 1), fun σ' H' h' => ⟨_, by omega, rfl, hlt, h'⟩, fun x H' y => ?_⟩
        obtain ⟨z2, d2, rfl, e2, x2, s2, hd2, r2⟩ := IO'.yields zi i x H' (Ex0.refl _) si hch hlt y
        rw [hd] at hd2; cases hd2
        rw [← e2] at Pi
        have Pi := Post.rebase x2 Pi
        have F1 : F d ei z2.S = (match setT ei t d with | some e' => gs e' z2.S | none => .bad) := rfl
        rw [F1] at Pi
        cases q : setT ei t d with
        | none => simp only [q] at Pi; exact Pi.elim
        | some e' =>
          simp only [q] at Pi
          refine ⟨z2, ei, d, e', rfl, s2, hei.mono x2, r2, q, fun σ2 he3 _ => ⟨z2, e', rfl, s2, he3, Pi.bind.imp fun fl z3 x3 s3 P3 => ?_⟩⟩
          have xx := (xi.trans x2).trans x3
          cases fl with
          | nx e4 => exact fun σ4 he4 => ⟨z3, e4, rfl, xx, s3, he4, P3⟩
          | ct e4 => exact fun σ4 he4 => ⟨z3, e4, rfl, xx, s3, he4, P3⟩
          | bk e4 => exact fun σ4 he4 => Post.val P3 s3 σ4 he4
          | rt d4 => exact fun v rv => Post.val P3 s3 v rv
    · left
      have hin : i = s.1.length := by omega
      subst hin
      rw [List.drop_length] at Pi
      unfold forF at Pi
      cases hch : srcOk zi.S s with
      | false => simp only [hch] at Pi; exact Pi.elim
      | true =>
        simp only [hch, if_true] at Pi
        exact ⟨IO'.stops zi (Ex0.refl _) si hch, Post.val Pi si σi hei⟩
theorem s_whl (hp : PassesOwn (model X.prog X.w) X.A X.env X.xe) (hc : PT X pa (tT X W ta)) (hb : PSs X ss (tS X W gs)) :
    PS X (.While pa ss [] pos) (tS X W fun e S => whlR (ta) (fun e S => gs e S) e S) :=
  PS_imp (ps_while hp hc hb) fun D σ H h => by
    obtain ⟨z, e, rfl, hs, he, P⟩ := h
    let Qf : Fl → Zw → Prop := fun fl z1 => match fl with
      | .nx e' => ∀ σ', EnvOk X.K z1 e' σ' → D.nx σ' z1.H
      | .ct e' => ∀ σ', EnvOk X.K z1 e' σ' → D.ct σ' z1.H
      | .bk e' => ∀ σ', EnvOk X.K z1 e' σ' → D.bk σ' z1.H
      | .rt d => ∀ v, Rep X.K z1 d v → D.rt v z1.H
    have P : Post X.K X.mg W z (whlR ta (fun e S => gs e S) e z.S) Qf := P
    rcases whlR_cases (c := ta) (f := fun e S => gs e S) e z.S with ⟨n0, h0⟩ | h0
    · refine ⟨fun n σ H => ∃ zi ei r, zi.H = H ∧ StOk X.K zi ∧ EnvOk X.K zi ei σ ∧ whlN ta (fun e S => gs e S) n ei zi.S = some r ∧ Post X.K X.mg W zi r Qf, ⟨n0, z, e, _, rfl, hs, he, h0, P⟩, ?_⟩
      rintro n σi H ⟨zi, ei, r, rfl, si, hei, hw, Pi⟩
      cases n with
      | zero => simp [whlN] at hw
      | succ n =>
        unfold whlN at hw
        refine ⟨zi, ei, rfl, si, hei, ?_⟩
        cases q : ta ei zi.S with
        | bad => simp only [q] at hw; cases hw; exact Pi.elim
        | exc y e' S1 => simp only [q] at hw; cases hw; exact Pi
        | ok b S1 =>
          simp only [q] at hw
          intro z1 h1 x1 s1
          subst h1
          cases b with
          | false =>
            simp only at hw
            cases hw
            rw [if_neg Bool.false_ne_true]
            exact Pi z1 rfl x1 s1 σi (hei.mono x1)
          | true =>
            rw [if_pos rfl]
            refine ⟨fun σ' H' => ∃ m', m' < n + 1 ∧ ∃ zi ei r, zi.H = H' ∧ StOk X.K zi ∧ EnvOk X.K zi ei σ' ∧ whlN ta (fun e S => gs e S) m' ei zi.S = some r ∧ Post X.K X.mg W zi r Qf, fun σ' H' ⟨m', hm, k⟩ => ⟨m', hm, k⟩, z1, ei, rfl, s1, hei.mono x1, ?_⟩
            have Pi := Post.rebase x1 Pi
            cases q2 : gs ei z1.S with
            | bad => simp only [q2] at hw; cases hw; exact Pi.elim
            | exc y e' S2 => simp only [q2] at hw; cases hw; exact Pi
            | ok fl S2 =>
              simp only [q2] at hw
              intro z2 h2 x2 s2
              subst h2
              have Pi := Post.rebase x2 Pi
              cases fl with
              | nx e4 => exact fun σ4 he4 => ⟨n, Nat.lt_succ_self _, z2, e4, r, rfl, s2, he4, hw, Pi⟩
              | ct e4 => exact fun σ4 he4 => ⟨n, Nat.lt_succ_self _, z2, e4, r, rfl, s2, he4, hw, Pi⟩
              | bk e4 => cases hw; exact fun σ4 he4 => Post.val Pi s2 σ4 he4
              | rt d4 => cases hw; exact fun v rv => Post.val Pi s2 v rv
    · rw [h0] at P; exact P.elim
end
end PyI

set_option maxRecDepth 100000
set_option maxHeartbeats 4000000
namespace PyI
open PySem PySem.Spec PyProof.Rows L2
/-! ## statements against the model's -/
def swB (sc : Scope) (y : Str) (py : Pos) (v : Expr) : Bool := match (match v with
    | .ListComp _ _ s _ => some s
    | .SetComp _ _ s _ => some s
    | .DictComp _ _ _ s _ => some s
    | _ => none) with
  | some s2 => sc.names.lookup y == some .local && py.line == v.pos.line && !(s2.names.any fun (n, k) => n == y && (k == .local || k == .cell))
  | none => false
theorem swB_ok {env : PySem.Env} {sc : Scope} (h1 : env.scope = sc) (h2 : sc.kind = .function) (y : Str) (py : Pos) (v : Expr) (l : Nat) : swapsWith v (some (.Name y py)) l env = pure (swB sc y py v) := by
  have hb : (env.blockKind == ScopeKind.function) = true := by
    unfold Env.blockKind
    rw [h1, h2]; rfl
  have hk : env.kindOf y = sc.names.lookup y := by rw [← h1]; rfl
  cases v <;> first
    | rfl
    | (show (pure _ : Sem Bool) = pure _
       simp only [swB, hb, hk, Bool.true_and])
def nco : Expr → Bool
  | .ListComp _ _ _ _ => false
  | .SetComp _ _ _ _ => false
  | .DictComp _ _ _ _ _ => false
  | _ => true
theorem nco_ok {v : Expr} (h : nco v = true) (t : Option Expr) (l : Nat) (env : PySem.Env) : swapsWith v t l env = pure false := by
  cases v <;> first | rfl | cases h
/-- does a, b = x, y swap its stores? (none: not told) -/
def swS (sc : Scope) (ts vs : List Expr) : Option (Option (List Str)) :=
  if !(ts.length == 2 || ts.length == 3) || vs.length != ts.length then some none
  else if vs.any (fun | .Starred .. => true | _ => false) then some none
  else if (ts.filterMap fun
    | .Name id pos => if sc.names.lookup id == some .local && pos.line == ((ts.head?.map (·.pos.line)).getD 0) then some id else none
    | _ => none).length != ts.length || ((ts.filterMap fun
    | .Name id pos => if sc.names.lookup id == some .local && pos.line == ((ts.head?.map (·.pos.line)).getD 0) then some id else none
    | _ => none).eraseDups.length != (ts.filterMap fun
    | .Name id pos => if sc.names.lookup id == some .local && pos.line == ((ts.head?.map (·.pos.line)).getD 0) then some id else none
    | _ => none).length) then some none
  else if vs.all (foldedForSure 8) then some none
  else if vs.all (constantsAlone 8) then none
  else some (some (ts.filterMap fun
    | .Name id pos => if sc.names.lookup id == some .local && pos.line == ((ts.head?.map (·.pos.line)).getD 0) then some id else none
    | _ => none))
theorem swS_ok {env : PySem.Env} {sc : Scope} (h1 : env.scope = sc) (h2 : sc.kind = .function) {ts vs : List Expr} {k k' : Nat} {p p' : Pos} {r : Option (List Str)} (h : swS sc ts vs = some r) :
    swappedStores [.Tuple ts k p] (.Tuple vs k' p') env = pure r := by
  have hb : (env.blockKind != ScopeKind.function) = false := by
    unfold Env.blockKind
    rw [h1, h2]; rfl
  have hk : ∀ y, env.kindOf y = sc.names.lookup y := fun y => by rw [← h1]; rfl
  unfold swS at h
  unfold swappedStores
  simp only [hb, Bool.or_false, hk]
  split at h
  · rename_i c; cases h; exact if_pos c
  · rename_i c
    refine Eq.trans (if_neg c) ?_
    split at h
    · rename_i c; cases h; exact if_pos c
    · rename_i c
      refine Eq.trans (if_neg c) ?_
      split at h
      · rename_i c; cases h; exact if_pos c
      · rename_i c
        refine Eq.trans (if_neg c) ?_
        split at h
        · rename_i c; cases h; exact if_pos c
        · rename_i c
          refine Eq.trans (if_neg c) ?_
          split at h
          · cases h
          · rename_i c; cases h; exact if_neg c

def locB (sc : Scope) (x : Str) : Bool := match sc.names.lookup x with
  | some .local => true
  | _ => false
def isCompE : Ex → Bool
  | .comp _ _ _ _ _ => true
  | _ => false
def asAssign : Stmt → Option (Expr × Expr)
  | .Assign [t] v _ => some (t, v)
  | _ => none
def asAug : Stmt → Option (Expr × Operator × Expr)
  | .AugAssign t o v _ => some (t, o, v)
  | _ => none
def asExp : Stmt → Option Expr
  | .Expr v _ => some v
  | _ => none
def asRet : Stmt → Option (Option Expr)
  | .Return v _ => some v
  | _ => none
def asIfS : Stmt → Option (Expr × List Stmt × List Stmt)
  | .If c a b _ => some (c, a, b)
  | _ => none
def asForS : Stmt → Option (Expr × Expr × List Stmt)
  | .For t i b [] _ => some (t, i, b)
  | _ => none
def asWhl : Stmt → Option (Expr × List Stmt)
  | .While c b [] _ => some (c, b)
  | _ => none
def isBrk : Stmt → Bool
  | .Break _ => true
  | _ => false
def isCnt : Stmt → Bool
  | .Continue _ => true
  | _ => false
def isPas : Stmt → Bool
  | .Pass _ => true
  | _ => false
def swOk (sc : Scope) (e : Ex) : Expr → Expr → Bool
  | .Name x px, v => !swB sc x px v || (isCompE e && locB sc x)
  | .Tuple es _ _, v => nco v && (match v with
    | .Tuple vs _ _ => decide (swS sc es vs = some none)
    | _ => true)
  | _, _ => false
theorem asAssign_ok {p : Stmt} {t v : Expr} (h : asAssign p = some (t, v)) : ∃ q, p = .Assign [t] v q := by
  unfold asAssign at h; split at h <;> cases h; exact ⟨_, rfl⟩
theorem asAug_ok {p : Stmt} {t v : Expr} {o : Operator} (h : asAug p = some (t, o, v)) : ∃ q, p = .AugAssign t o v q := by
  unfold asAug at h; split at h <;> cases h; exact ⟨_, rfl⟩
theorem asExp_ok {p : Stmt} {v : Expr} (h : asExp p = some v) : ∃ q, p = .Expr v q := by
  unfold asExp at h; split at h <;> cases h; exact ⟨_, rfl⟩
theorem asRet_ok {p : Stmt} {v : Option Expr} (h : asRet p = some v) : ∃ q, p = .Return v q := by
  unfold asRet at h; split at h <;> cases h; exact ⟨_, rfl⟩
theorem asIfS_ok {p : Stmt} {c : Expr} {a b : List Stmt} (h : asIfS p = some (c, a, b)) : ∃ q, p = .If c a b q := by
  unfold asIfS at h; split at h <;> cases h; exact ⟨_, rfl⟩
theorem asForS_ok {p : Stmt} {t i : Expr} {b : List Stmt} (h : asForS p = some (t, i, b)) : ∃ q, p = .For t i b [] q := by
  unfold asForS at h; split at h <;> cases h; exact ⟨_, rfl⟩
theorem asWhl_ok {p : Stmt} {c : Expr} {b : List Stmt} (h : asWhl p = some (c, b)) : ∃ q, p = .While c b [] q := by
  unfold asWhl at h; split at h <;> cases h; exact ⟨_, rfl⟩
theorem isBrk_ok {p : Stmt} (h : isBrk p = true) : ∃ q, p = .Break q := by
  unfold isBrk at h; split at h <;> first | exact ⟨_, rfl⟩ | cases h
theorem isCnt_ok {p : Stmt} (h : isCnt p = true) : ∃ q, p = .Continue q := by
  unfold isCnt at h; split at h <;> first | exact ⟨_, rfl⟩ | cases h
theorem isPas_ok {p : Stmt} (h : isPas p = true) : ∃ q, p = .Pass q := by
  unfold isPas at h; split at h <;> first | exact ⟨_, rfl⟩ | cases h
section
variable (fns : List String) (N : List Str)
mutual
def mS : Scope → Sm → Stmt → Bool
  | sc, .asg t e, p => (match asAssign p with
    | some (tg, v) => mTg N sc t tg && mE fns N sc sc e v && swOk sc e tg v
    | none => false)
  | sc, .par i j a b, p => (match asAssign p with
    | some (.Tuple [.Name x px, .Name y py] _ _, .Tuple [pa, pb] _ _) => (isN N i x && isN N j y && !(i == j)) && (locB sc x && locB sc y) && (nst pa && nst pb) && (mE fns N sc sc a pa && mE fns N sc sc b pb) &&
      decide (swS sc [.Name x px, .Name y py] [pa, pb] = some (some [x, y]))
    | _ => false)
  | sc, .par3 i j l a b c, p => (match asAssign p with
    | some (.Tuple [.Name x px, .Name y py, .Name z pz] _ _, .Tuple [pa, pb, pc] _ _) => (isN N i x && isN N j y && isN N l z) && (!(i == j) && !(i == l) && !(j == l)) && (locB sc x && locB sc y && locB sc z) && (nst pa && nst pb && nst pc) &&
      (mE fns N sc sc a pa && mE fns N sc sc b pb && mE fns N sc sc c pc) && decide (swS sc [.Name x px, .Name y py, .Name z pz] [pa, pb, pc] = some (some [x, y, z]))
    | _ => false)
  | sc, .aug i o e, p => (match asAug p with
    | some (.Name x _, op, v) => isN N i x && stoB sc x && decide (op = boOf o) && mE fns N sc sc e v
    | _ => false)
  | sc, .sto a i e, p => (match asAssign p with
    | some (.Subscript pa pi _, v) => nsl pi && mE fns N sc sc a pa && mE fns N sc sc i pi && mE fns N sc sc e v
    | _ => false)
  | sc, .augs a i o e, p => (match asAug p with
    | some (.Subscript pa pi _, op, v) => nsl pi && decide (op = boOf o) && mE fns N sc sc a pa && mE fns N sc sc i pi && mE fns N sc sc e v
    | _ => false)
  | sc, .exp e, p => (match asExp p with
    | some v => nco v && mE fns N sc sc e v
    | none => false)
  | sc, .ret e, p => (match asRet p with
    | some (some v) => mE fns N sc sc e v
    | _ => false)
  | sc, .ret0, p => (match asRet p with
    | some none => true
    | _ => false)
  | sc, .ifs c a b, p => (match asIfS p with
    | some (pc, pa, pb) => mT fns N sc sc c pc && mSs sc a pa && mSs sc b pb
    | none => false)
  | sc, .for t it b, p => (match asForS p with
    | some (tg, pi, pb) => nse pi && mTg N sc t tg && mI fns N sc sc (isTup tg) it pi && mSs sc b pb
    | none => false)
  | sc, .whl c b, p => (match asWhl p with
    | some (pc, pb) => mT fns N sc sc c pc && mSs sc b pb
    | none => false)
  | sc, .brk, p => isBrk p
  | sc, .cnt, p => isCnt p
  | sc, .pas, p => isPas p
def mSs : Scope → Sms → List Stmt → Bool
  | sc, .nil, [] => true
  | sc, .cons s r, p :: ps => mS sc s p && mSs sc r ps
  | _, _, _ => false
end
end
structure GdS (X : Cx) (W : WX) (N : List Str) (sc : Scope) : Prop where
  gd : Gd X W N sc sc
  po : PassesOwn (model X.prog X.w) X.A X.env X.xe
  kind : sc.kind = .function
section
variable {fns : List String} {N : List Str} {wd : Wd} {k : Nat} {X : Cx} {W : WX} {sc : Scope}
theorem locB_ok (G : Gd X W N sc sc) {x : Str} (h : locB sc x = true) : X.env.scope.names.lookup x = some .local := by
  rw [G.sc]
  unfold locB at h
  split at h
  · assumption
  · cases h
/-- a name = a comprehension, on one line -/
theorem s_nameComp (G : GdS X W N sc) (w : WdOk X fns wd k) {i : Nat} {x : Str} {px pos : Pos} {own : List Nat} {elt : Ex} {t : Tg} {it : PyI.It} {c : Tx} {v : Expr} (h1 : isN N i x = true) (h2 : locB sc x = true) (hsw : swB sc x px v = true) (h : mE fns N sc sc (.comp own elt t it c) v = true) :
    PS X (.Assign [.Name x px] v pos) (tS X W (evS wd (.asg (.nm i) (.comp own elt t it c)))) := by
  have sw := swB_ok G.gd.sc G.kind x px v pos.line
  rw [hsw] at sw
  have G := G.gd
  simp only [mE] at h
  split at h
  · rename_i pe pt pi pc s2 e
    obtain ⟨q, rfl⟩ := asComp_ok e
    obtain ⟨a1, h8⟩ := ba3 h
    obtain ⟨a1, h7⟩ := ba3 a1
    obtain ⟨a1, h6⟩ := ba3 a1
    obtain ⟨a1, h5⟩ := ba3 a1
    obtain ⟨a1, h4⟩ := ba3 a1
    obtain ⟨a1, h3⟩ := ba3 a1
    obtain ⟨a1, a2⟩ := ba3 a1
    have hown := of_decide_eq_true h3
    have blk : BlkOk X.N X.env.scope s2 (ownP N own) := by
      rw [G.hN, G.sc]; exact blkOk_by a2
    have nd : X.N.Nodup := by rw [G.hN]; exact G.nd
    have ho : ∀ i ∈ tgI t, i ∈ (ownP N own).map (·.2) := fun i hi => by
      rw [hown]
      have := List.all_eq_true.mp h4 i hi
      simpa using this
    have main := s_setComp (X := X) (W := W) (pos := q) (spos := pos) (py := px) (scope := s2) (own := ownP N own) (t := t) (ft := evT wd c) (fe := evE wd elt) G.calm nd (G.ix h1) (locB_ok G h2) sw (sI it (tg := pt) G w rfl h6) blk ho
      (fun s H C cl fp => (G.blk (s2 := s2) s H C cl fp).tg h5)
      (ifs := pc) (fun s H C cl fp => by
        split at h8
        · cases c with
          | yes => exact s_yes
          | _ => cases h8
        · exact pts_one (sT c (G.blk (s2 := s2) s H C cl fp) (w.blk s H C cl fp) h8).1
        · cases h8)
      (fun s H C cl fp => sE elt (G.blk (s2 := s2) s H C cl fp) (w.blk s H C cl fp) h7) (nse_ok a1 _)
    rw [hown] at main
    exact s_asgComp main
  · cases h
mutual
theorem sS : ∀ (s : Sm) {p : Stmt}, GdS X W N sc → WdOk X fns wd k → mS fns N sc s p = true → PS X p (tS X W (evS wd s))
  | .asg t e, p, G, w, h => by
    simp only [mS] at h
    split at h
    · rename_i tg v e1
      obtain ⟨q, rfl⟩ := asAssign_ok e1
      obtain ⟨h1, h3⟩ := ba3 h
      obtain ⟨h1, h2⟩ := ba3 h1
      have ge := sE e G.gd w h2
      unfold swOk at h3
      split at h3
      · rename_i x px v'
        cases hb : swB sc x px v with
        | false =>
          exact s_asg ge (G.gd.tg h1) (by show swapsWith v (some (.Name x px)) q.line X.env = _; rw [swB_ok G.gd.sc G.kind, hb]) (by cases v <;> rfl) (by rfl)
        | true =>
          rw [hb] at h3
          obtain ⟨k1, k2⟩ := ba3 (show (isCompE e && locB sc x) = true by simpa using h3)
          cases t with
          | nm i =>
            cases e with
            | comp own elt t it c =>
              obtain ⟨n1, _⟩ := ba3 (show (isN N i x && stoB sc x) = true from h1)
              exact s_nameComp G w n1 k2 hb h2
            | _ => cases k1
          | tp is => cases h1
      · rename_i es kk pp v'
        obtain ⟨k1, k2⟩ := ba3 h3
        refine s_asg ge (G.gd.tg h1) (by show swapsWith v (some (.Tuple es kk pp)) q.line X.env = _; exact nco_ok k1 _ _ _) ?_ (by rfl)
        split at k2
        · exact swS_ok G.gd.sc G.kind (of_decide_eq_true k2)
        · rename_i nt
          cases v <;> first | rfl | exact absurd rfl (nt _ _ _)
      · cases h3
    · cases h
  | .par i j a b, p, G, w, h => by
    simp only [mS] at h
    split at h
    · rename_i x px y py kt pt pa pb k2 pt2 e1
      obtain ⟨q, rfl⟩ := asAssign_ok e1
      obtain ⟨h1, h5⟩ := ba3 h
      obtain ⟨h1, h4⟩ := ba3 h1
      obtain ⟨h1, h3⟩ := ba3 h1
      obtain ⟨h1, h2⟩ := ba3 h1
      obtain ⟨h1, h13⟩ := ba3 h1
      obtain ⟨h11, h12⟩ := ba3 h1
      obtain ⟨h21, h22⟩ := ba3 h2
      obtain ⟨h31, h32⟩ := ba3 h3
      obtain ⟨h41, h42⟩ := ba3 h4
      have nd : X.N.Nodup := by rw [G.gd.hN]; exact G.gd.nd
      exact s_par G.gd.calm nd (G.gd.ix h11) (G.gd.ix h12) (by simpa using h13) (locB_ok G.gd h21) (locB_ok G.gd h22) (sE a G.gd w h41) (sE b G.gd w h42) h31 h32 (swS_ok G.gd.sc G.kind (of_decide_eq_true h5))
    · cases h
  | .par3 i j l a b c, p, G, w, h => by
    simp only [mS] at h
    split at h
    · rename_i x px y py z pz kt pt pa pb pc k2 pt2 e1
      obtain ⟨q, rfl⟩ := asAssign_ok e1
      obtain ⟨h1, h6⟩ := ba3 h
      obtain ⟨h1, h5⟩ := ba3 h1
      obtain ⟨h1, h4⟩ := ba3 h1
      obtain ⟨h1, h3⟩ := ba3 h1
      obtain ⟨h1, h2⟩ := ba3 h1
      obtain ⟨h1, h13⟩ := ba3 h1
      obtain ⟨h11, h12⟩ := ba3 h1
      obtain ⟨h2, h23⟩ := ba3 h2
      obtain ⟨h21, h22⟩ := ba3 h2
      obtain ⟨h3, h33⟩ := ba3 h3
      obtain ⟨h31, h32⟩ := ba3 h3
      obtain ⟨h4, h43⟩ := ba3 h4
      obtain ⟨h41, h42⟩ := ba3 h4
      obtain ⟨h5, h53⟩ := ba3 h5
      obtain ⟨h51, h52⟩ := ba3 h5
      have nd : X.N.Nodup := by rw [G.gd.hN]; exact G.gd.nd
      exact s_par3 G.gd.calm nd (G.gd.ix h11) (G.gd.ix h12) (G.gd.ix h13) (by simpa using h21) (by simpa using h22) (by simpa using h23) (locB_ok G.gd h31) (locB_ok G.gd h32) (locB_ok G.gd h33)
        (sE a G.gd w h51) (sE b G.gd w h52) (sE c G.gd w h53) h41 h42 h43 (swS_ok G.gd.sc G.kind (of_decide_eq_true h6))
    · cases h
  | .aug i o e, p, G, w, h => by
    simp only [mS] at h
    split at h
    · rename_i x px op v e1
      obtain ⟨q, rfl⟩ := asAug_ok e1
      obtain ⟨h1, h4⟩ := ba3 h
      obtain ⟨h1, h3⟩ := ba3 h1
      obtain ⟨h1, h2⟩ := ba3 h1
      rw [of_decide_eq_true h3]
      have nd : X.N.Nodup := by rw [G.gd.hN]; exact G.gd.nd
      exact s_aug nd (G.gd.sto h1 h2) (sE e G.gd w h4)
    · cases h
  | .sto a i e, p, G, w, h => by
    simp only [mS] at h
    split at h
    · rename_i pa pi pp v e1
      obtain ⟨q, rfl⟩ := asAssign_ok e1
      obtain ⟨h1, h4⟩ := ba3 h
      obtain ⟨h1, h3⟩ := ba3 h1
      obtain ⟨h1, h2⟩ := ba3 h1
      exact s_sto (sE e G.gd w h4) (sE a G.gd w h2) (sE i G.gd w h3) h1
    · cases h
  | .augs a i o e, p, G, w, h => by
    simp only [mS] at h
    split at h
    · rename_i pa pi pp op v e1
      obtain ⟨q, rfl⟩ := asAug_ok e1
      obtain ⟨h1, h5⟩ := ba3 h
      obtain ⟨h1, h4⟩ := ba3 h1
      obtain ⟨h1, h3⟩ := ba3 h1
      obtain ⟨h1, h2⟩ := ba3 h1
      rw [of_decide_eq_true h2]
      exact s_augs (sE a G.gd w h3) (sE i G.gd w h4) (sE e G.gd w h5) h1
    · cases h
  | .exp e, p, G, w, h => by
    simp only [mS] at h
    split at h
    · rename_i v e1
      obtain ⟨q, rfl⟩ := asExp_ok e1
      obtain ⟨h1, h2⟩ := ba3 h
      exact s_exp (sE e G.gd w h2) (nco_ok h1 _ _ _)
    · cases h
  | .ret e, p, G, w, h => by
    simp only [mS] at h
    split at h
    · rename_i v e1
      obtain ⟨q, rfl⟩ := asRet_ok e1
      exact s_ret (sE e G.gd w h)
    · cases h
  | .ret0, p, G, w, h => by
    simp only [mS] at h
    split at h
    · rename_i e1
      obtain ⟨q, rfl⟩ := asRet_ok e1
      exact s_ret0
    · cases h
  | .ifs c a b, p, G, w, h => by
    simp only [mS] at h
    split at h
    · rename_i pc pa pb e1
      obtain ⟨q, rfl⟩ := asIfS_ok e1
      obtain ⟨h1, h3⟩ := ba3 h
      obtain ⟨h1, h2⟩ := ba3 h1
      exact s_ifs (sT c G.gd w h1).1 (sSs a G w h2) (sSs b G w h3)
    · cases h
  | .for t it b, p, G, w, h => by
    simp only [mS] at h
    split at h
    · rename_i tg pi pb e1
      obtain ⟨q, rfl⟩ := asForS_ok e1
      obtain ⟨h1, h4⟩ := ba3 h
      obtain ⟨h1, h3⟩ := ba3 h1
      obtain ⟨h1, h2⟩ := ba3 h1
      exact s_for G.po G.gd.calm (sI it G.gd w rfl h3) (G.gd.tg h2) (sSs b G w h4) (nse_ok h1 _)
    · cases h
  | .whl c b, p, G, w, h => by
    simp only [mS] at h
    split at h
    · rename_i pc pb e1
      obtain ⟨q, rfl⟩ := asWhl_ok e1
      obtain ⟨h1, h2⟩ := ba3 h
      exact s_whl G.po (sT c G.gd w h1).1 (sSs b G w h2)
    · cases h
  | .brk, p, G, w, h => by
    simp only [mS] at h
    obtain ⟨q, rfl⟩ := isBrk_ok h
    exact s_brk
  | .cnt, p, G, w, h => by
    simp only [mS] at h
    obtain ⟨q, rfl⟩ := isCnt_ok h
    exact s_cnt
  | .pas, p, G, w, h => by
    simp only [mS] at h
    obtain ⟨q, rfl⟩ := isPas_ok h
    exact s_pas
theorem sSs : ∀ (s : Sms) {p : List Stmt}, GdS X W N sc → WdOk X fns wd k → mSs fns N sc s p = true → PSs X p (tS X W (evSs wd s))
  | .nil, p, G, w, h => by
    cases p with
    | nil => exact s_snil
    | cons p ps => simp [mSs] at h
  | .cons s r, p, G, w, h => by
    cases p with
    | nil => simp [mSs] at h
    | cons p ps =>
      simp only [mSs] at h
      obtain ⟨h1, h2⟩ := ba3 h
      exact s_scons (sS s G w h1) (sSs r G w h2)
end
end
end PyI

set_option maxRecDepth 100000
set_option maxHeartbeats 4000000
namespace PyI
open PySem PySem.Spec PyProof.Rows L2
/-! ## a call's end -/
section
variable {K : PySem.W.Frag}
mutual
theorem Rep.lim {z : Zw} : ∀ {d : D} {v : V}, Rep K z d v → d.lim z.ρ.length = true
  | .non, _, _ => rfl
  | .bl _, _, _ => rfl
  | .int _, _, _ => rfl
  | .str _, _, _ => rfl
  | .edic, _, _ => rfl
  | .tup ds, _, h => by unfold Rep at h; obtain ⟨_, _, _, _, _, h⟩ := h; simpa [D.lim] using h.lims
  | .lst ds, _, h => by unfold Rep at h; obtain ⟨_, _, _, _, _, h⟩ := h; simpa [D.lim] using h.lims
  | .rol ds, _, h => by unfold Rep at h; obtain ⟨_, _, _, _, _, h⟩ := h; simpa [D.lim] using h.lims
  | .obj r, _, h => by
    unfold Rep at h
    obtain ⟨a, _, h⟩ := h
    simp only [D.lim, decide_eq_true_eq]
    exact (List.getElem?_eq_some_iff.mp h).1
theorem Reps.lims {z : Zw} : ∀ {ds : List D} {vs : List V}, Reps K z ds vs → PyI.lims z.ρ.length ds = true
  | [], _, _ => rfl
  | d :: ds, _, h => by
    obtain ⟨v, r, rfl, h1, h2⟩ := h.cons_inv
    simp [PyI.lims, h1.lim, h2.lims]
end
/-- the first n of the store -/
def Zw.cut (z : Zw) (n : Nat) : Zw := ⟨z.hd, z.ρ.take n, z.S.take n, z.H⟩
theorem take_get {α : Type} {l : List α} {n i : Nat} {x : α} (h : (l.take n)[i]? = some x) : l[i]? = some x ∧ i < n := by
  have hi : i < (l.take n).length := (List.getElem?_eq_some_iff.mp h).1
  rw [List.length_take] at hi
  rw [List.getElem?_take_of_lt (by omega)] at h
  exact ⟨h, by omega⟩
theorem live_cut {z : Zw} {n : Nat} {a : Addr} (h : Live (z.cut n) a) : Live z a := by
  obtain ⟨r, mo, h1, h2, h3⟩ := h
  exact ⟨r, mo, (take_get h1).1, (take_get h2).1, h3⟩
theorem im_cut {z : Zw} {n : Nat} {a : Addr} {o : HO} (h : Im z a o) : Im (z.cut n) a o := ⟨h.1, fun l => h.2 (l.imp live_cut id)⟩
mutual
theorem Rep.cut {z : Zw} {n : Nat} : ∀ {d : D} {v : V}, Rep K z d v → d.lim n = true → Rep K (z.cut n) d v
  | .non, _, h, _ => by unfold Rep at h ⊢; exact h
  | .bl _, _, h, _ => by unfold Rep at h ⊢; exact h
  | .int _, _, h, _ => by unfold Rep at h ⊢; exact h
  | .str _, _, h, _ => by unfold Rep at h ⊢; exact h
  | .edic, _, h, _ => by
    unfold Rep at h ⊢
    obtain ⟨a, e, h1⟩ := h
    exact ⟨a, e, im_cut h1⟩
  | .tup ds, _, h, l => by
    unfold Rep at h ⊢
    obtain ⟨a, xs, e, h1, h2, h3⟩ := h
    exact ⟨a, xs, e, h1.imp im_cut id, h2, h3.cut' (by simpa [D.lim] using l)⟩
  | .lst ds, _, h, l => by
    unfold Rep at h ⊢
    obtain ⟨a, xs, e, h1, h2, h3⟩ := h
    exact ⟨a, xs, e, im_cut h1, h2, h3.cut' (by simpa [D.lim] using l)⟩
  | .rol ds, _, h, l => by
    unfold Rep at h ⊢
    obtain ⟨a, xs, e, h1, h2, h3⟩ := h
    exact ⟨a, xs, e, h1.imp (fun ⟨o, q⟩ => ⟨o, im_cut q⟩) id, h2, h3.cut' (by simpa [D.lim] using l)⟩
  | .obj r, _, h, l => by
    unfold Rep at h ⊢
    obtain ⟨a, e, h1⟩ := h
    simp only [D.lim, decide_eq_true_eq] at l
    refine ⟨a, e, ?_⟩
    show (z.ρ.take n)[r]? = some a
    rw [List.getElem?_take_of_lt l]; exact h1
theorem Reps.cut' {z : Zw} {n : Nat} : ∀ {ds : List D} {vs : List V}, Reps K z ds vs → PyI.lims n ds = true → Reps K (z.cut n) ds vs
  | [], _, h, _ => by rw [h.nil_inv]; exact .nil
  | d :: ds, _, h, l => by
    obtain ⟨v, r, rfl, h1, h2⟩ := h.cons_inv
    have l : d.lim n = true ∧ PyI.lims n ds = true := by simpa [PyI.lims] using l
    exact .cons (h1.cut l.1) (h2.cut' l.2)
end
theorem cut_ok {z z1 : Zw} (s : StOk K z) (x : Ext z z1) (s1 : StOk K z1) (hl : z.S.length ≤ z1.S.length) (ht : TrOk z.S z1.S) : Ext z (z1.cut z.S.length) ∧ StOk K (z1.cut z.S.length) := by
  have hr : z1.ρ.take z.S.length = z.ρ := by
    obtain ⟨t, e⟩ := x.pre
    rw [← e, ← s.len]; simp
  refine ⟨⟨by show z.ρ <+: z1.ρ.take _; rw [hr]; exact List.prefix_refl _, fun a o h => im_cut (x.im a o h), x.hd, x.hk⟩, ⟨?_, s1.nd.sublist (List.take_sublist _ _), fun a ha => s1.tr a (List.mem_of_mem_take ha), s1.ht, fun a ha => s1.dj a (List.mem_of_mem_take ha), fun r mo a h1 h2 => ?_⟩⟩
  · show (z1.ρ.take _).length = (z1.S.take _).length
    rw [List.length_take, List.length_take, s1.len]
  · obtain ⟨k1, k2⟩ := take_get h1
    obtain ⟨k3, _⟩ := take_get h2
    have q := s1.ob r mo a k1 k3
    cases mo with
    | dead => trivial
    | ins c fs => exact q.elim
    | lst ds =>
      obtain ⟨xs, q1, q2, q3⟩ := q
      refine ⟨xs, q1, q2, q3.cut' ?_⟩
      rcases ht r _ k2 k1 with e | e
      · obtain ⟨xs0, _, _, r0⟩ := s.ob r _ a e (by
          rw [← hr]; exact h2)
        have := r0.lims
        rwa [s.len] at this
      · exact e
theorem trunc_ok {z z1 : Zw} {d : D} {v : V} (s : StOk K z) (x : Ext z z1) (s1 : StOk K z1) (r : Rep K z1 d v) : ∃ z2 : Zw, z2.H = z1.H ∧ z2.S = trunc z.S (d.lim z.S.length) z1.S ∧ Ext z z2 ∧ StOk K z2 ∧ Rep K z2 d v := by
  unfold trunc
  split
  · rename_i h
    obtain ⟨h1, h2, h3⟩ := h
    obtain ⟨a, b⟩ := cut_ok s x s1 h2 h3
    exact ⟨z1.cut z.S.length, rfl, rfl, a, b, r.cut h1⟩
  · exact ⟨z1, rfl, rfl, x, s1, r⟩
end
/-! ## the text's defs -/
/-- a def of the text: where it stands and what it is -/
structure FnRow where
  name : String
  own : Str
  ps : List Str
  N : List Str
  params : Arguments
  body : List Stmt
  scope : Scope
  ev : Sms
def FnRow.fn (r : FnRow) : Fn := ⟨r.ps.length, r.N.length, r.ev⟩
def scB (N P : List Str) (sc : Scope) : Bool := decide (sc.kind = .function) && !sc.isCoroutine && !sc.isGenerator && decide N.Nodup && decide (N.take P.length = P) && P.all (fun x => stoB sc x) && sc.names.all (fun y => decide (y.2 ≠ .free))
theorem scB_ok {N P : List Str} {sc : Scope} (h : scB N P sc = true) : FnScope N P sc := by
  unfold scB at h
  simp only [Bool.and_eq_true, Bool.not_eq_true', decide_eq_true_eq] at h
  obtain ⟨⟨⟨⟨⟨⟨h1, h2⟩, h3⟩, h4⟩, h5⟩, h6⟩, h7⟩ := h
  refine ⟨h1, h2, h3, h4, h5, fun x hx => ?_, fun y hy => ?_⟩
  · have := List.all_eq_true.mp h6 x hx
    unfold stoB at this
    split at this
    · exact .inl (by assumption)
    · exact .inr (by assumption)
    · cases this
  · exact of_decide_eq_true (List.all_eq_true.mp h7 y hy)
def FnRow.ok (fns : List String) (r : FnRow) : Bool := scB r.N r.ps r.scope && mSs fns r.N r.scope r.ev r.body
structure Row (K : PySem.W.Frag) (mg : Str → Option Value) (T : String → Option Fn) (fns : List String) (r : FnRow) (fa : Addr) (fd : FuncData) : Prop where
  at_ : mg (Str.ofString r.name) = some (.ref fa)
  fun_ : FunD K r.own r.own r.params r.body r.scope [] [] fa fd
  binds : L2.Binds K fd r.ps []
  ok : r.ok fns = true
  tab : T r.name = some r.fn
def Tab (K : PySem.W.Frag) (mg : Str → Option Value) (T : String → Option Fn) (fns : List String) : Prop := ∀ f, fns.contains f = true → ∃ r fa fd, r.name = f ∧ Row K mg T fns r fa fd
def Cons (K : PySem.W.Frag) (mg : Str → Option Value) (con : String → Option D) : Prop := ∀ g d, con g = some d → ∃ (u : Value) (v : V), mg (Str.ofString g) = some u ∧ RelV v u ∧ ∀ z, Rep K z d v
theorem callN_len {T : String → Option Fn} {con : String → Option D} {k : Nat} {f : String} {fd : Fn} {ds : List D} {S : Store} (h : T f = some fd) (q : callN T con k f ds S ≠ .bad) : ds.length = fd.np := by
  cases k with
  | zero => exact absurd rfl q
  | succ k =>
    unfold callN at q
    simp only [h] at q
    by_cases hl : ds.length = fd.np
    · exact hl
    · rw [if_neg hl] at q; exact absurd rfl q
theorem start_ok {K : PySem.W.Frag} {z : Zw} {N : List Str} : ∀ {ds : List D} {vs : List V}, Reps K z ds vs → EnvOk K z (ds.map some ++ List.replicate (N.length - ds.length) none) (L2.start N vs) := by
  intro ds vs r
  have hl := r.length
  refine ⟨by unfold L2.start; simp [hl], fun i d q => ?_⟩
  unfold L2.start
  by_cases hi : i < ds.length
  · rw [List.getElem?_append_left (by simpa using hi)] at q
    rw [List.getElem?_map] at q
    cases e : ds[i]? with
    | none => rw [e] at q; cases q
    | some d' =>
      rw [e] at q; cases q
      obtain ⟨v, h1, h2⟩ := r.get e
      exact ⟨v, by rw [List.getElem?_append_left (by rw [List.length_map]; omega), List.getElem?_map, h1]; rfl, h2⟩
  · rw [List.getElem?_append_right (by simpa using hi)] at q
    rw [List.getElem?_replicate] at q
    split at q <;> cases q
theorem fn_ok {P : Program} {w : World} {K : PySem.W.Frag} {mg : Str → Option Value} {T : String → Option Fn} {con : String → Option D} {fns : List String} (hT : Tab K mg T fns) (hC : Cons K mg con) (hb : ∀ x ∈ bnames, mg x = none) :
    ∀ (k : Nat) {r : FnRow} {fa : Addr} {fd : FuncData}, Row K mg T fns r fa fd → ∀ base : Heap, FnOk P w K mg base (L2.CX P w) k fa fd r.ps (spOf K mg r.ps.length (callN T con k r.name))
  | 0, r, fa, fd, R, base => by
    refine ⟨fun vs H Q E h => h.1, fun A outer s H args us vs Q E _ _ _ _ h => ?_⟩
    obtain ⟨_, z, ds, _, _, _, h⟩ := h
    exact h.elim
  | k + 1, r, fa, fd, R, base => by
    obtain ⟨hsc, hbody⟩ := ba3 (show (scB r.N r.ps r.scope && mSs fns r.N r.scope r.ev r.body) = true from R.ok)
    have S := scB_ok hsc
    refine FunD.ok R.fun_ S (fun vs H Q E h => h.1) fun cdv A outer s H vs Q E hr h => ?_
    refine ⟨tS (cxOf (L2.CX P w) P w K mg base r.N r.own r.scope fa cdv A outer s H E) (fun cls d _ H => E cls d H) (evSs ⟨callN T con k, con⟩ r.ev), ?_, ?_⟩
    · have gd : Gd (cxOf (L2.CX P w) P w K mg base r.N r.own r.scope fa cdv A outer s H E) (fun cls d _ H => E cls d H) r.N r.scope r.scope := by
        refine ⟨rfl, S.nd, rfl, rfl, takes_of rfl rfl rfl rfl, fun x hx => ⟨?_, .inl rfl⟩, by have := hr.un; show (A.deeper _).units + 65 < _; omega, hb⟩
        show Loc r.scope x
        unfold stoB at hx
        split at hx
        · exact .inl (by assumption)
        · exact .inr (by assumption)
        · cases hx
      refine sSs (fns := fns) (N := r.N) (k := k) r.ev ⟨gd, passes_of rfl, S.kind⟩ ⟨hC, fun f hf => ⟨?_⟩, hr⟩ hbody
      obtain ⟨r2, fa2, fd2, e, R2⟩ := hT f hf
      subst e
      exact ⟨fa2, fd2, r2.ps, R2.at_, R2.fun_.kp, R2.binds, fn_ok hT hC hb k R2 base, fun ds S q => (callN_len R2.tab q).trans rfl⟩
    · obtain ⟨hl, z, ds, rfl, hs, hr2, h⟩ := h
      have hdl : ds.length = r.fn.np := by rw [hr2.length, hl]; rfl
      have e1 : callN T con (k + 1) r.name ds z.S = match evSs ⟨callN T con k, con⟩ r.ev (ds.map some ++ List.replicate (r.N.length - ds.length) none) z.S with
          | .ok (.rt d) S' => retn z.S d S'
          | .ok (.nx _) S' => retn z.S .non S'
          | .ok _ _ => .bad
          | .exc x _ S' => .exc x [] S'
          | .bad => .bad := by
        show (match T r.name with | none => _ | some fd => _) = _
        rw [R.tab]
        show (if ds.length = r.fn.np then _ else _) = _
        rw [if_pos hdl]; rfl
      rw [e1] at h
      refine ⟨z, _, rfl, hs, start_ok hr2, ?_⟩
      cases q : evSs ⟨callN T con k, con⟩ r.ev (ds.map some ++ List.replicate (r.N.length - ds.length) none) z.S with
      | bad => rw [q] at h; exact h.elim
      | exc x e S' =>
        rw [q] at h
        exact fun z1 cls d σ h1 h2 h3 _ h4 => h z1 cls d h1 h2 h3 h4
      | ok fl S' =>
        rw [q] at h
        intro z1 h1 x1 s1
        subst h1
        cases fl with
        | nx e' =>
          intro σ' _
          obtain ⟨z2, a1, a2, a3, a4, a5⟩ := trunc_ok hs x1 s1 (d := .non) (v := .non) .non_
          show Q .non z1.H
          rw [← a1]
          exact h .non z2 a2 a3 a4 a5
        | rt d =>
          intro v rv
          obtain ⟨z2, a1, a2, a3, a4, a5⟩ := trunc_ok hs x1 s1 rv
          show Q v z1.H
          rw [← a1]
          exact h v z2 a2 a3 a4 a5
        | ct e' => exact h.elim
        | bk e' => exact h.elim
end PyI

set_option maxRecDepth 100000
set_option maxHeartbeats 4000000
namespace PyI
open PySem PySem.Spec PyProof.Rows L2
theorem look_app {x : Str} {v : Value} : ∀ {L M : List (Str × Value)}, L.lookup x = none → (L ++ M).lookup x = M.lookup x
  | [], _, _ => rfl
  | (y, u) :: L, M, h => by
    rw [List.lookup_cons] at h
    rw [List.cons_append, List.lookup_cons]
    cases q : x == y with
    | true => rw [q] at h; cases h
    | false =>
      rw [q] at h
      exact look_app (v := v) (L := L) h
theorem zip_lookup : ∀ {ps : List Str} {us : List Value} {L : List (Str × Value)}, (∀ n ∈ ps, L.lookup n = none) → ps.Nodup → us.length = ps.length → ps.filterMap (fun n => ((L ++ ps.zip us).lookup n).map (n, ·)) = ps.zip us
  | [], us, L, _, _, h => by cases us <;> simp_all
  | p :: ps, [], _, _, _, h => by cases h
  | p :: ps, u :: us, L, hL, nd, h => by
    have nd' := List.nodup_cons.mp nd
    have e1 : (L ++ (p :: ps).zip (u :: us)).lookup p = some u := by
      rw [look_app (v := u) (hL p List.mem_cons_self)]
      simp
    have e2 : L ++ (p :: ps).zip (u :: us) = (L ++ [(p, u)]) ++ ps.zip us := by simp
    rw [List.filterMap_cons, e1]
    show (p, u) :: _ = (p, u) :: _
    congr 1
    rw [e2]
    refine zip_lookup (fun n hn => ?_) nd'.2 (Nat.succ.inj h)
    rw [look_app (v := u) (hL n (List.mem_cons_of_mem _ hn))]
    have : (n == p) = false := by
      refine beq_eq_false_iff_ne.mpr ?_
      rintro rfl
      exact nd'.1 hn
    rw [List.lookup_cons, this]; rfl
def plainP (a : Arguments) (ps : List Str) : Bool := a.posonlyargs.isEmpty && a.vararg.isNone && a.kwonlyargs.isEmpty && a.kwarg.isNone && decide (a.args.map (·.arg) = ps) && decide ps.Nodup
theorem lookup_none_nil {ps : List Str} {us : List Value} (h : us.length = ps.length) : (ps.filter fun n => ((ps.zip us).lookup n).isNone) = [] := by
  rw [List.filter_eq_nil_iff]
  intro n hn
  have : ∀ {ps : List Str} {us : List Value}, us.length = ps.length → n ∈ ps → ((ps.zip us).lookup n).isNone = false := by
    intro ps
    induction ps with
    | nil => intro us _ h; simp at h
    | cons p ps ih =>
      intro us h hn
      cases us with
      | nil => cases h
      | cons u us =>
        simp only [List.zip_cons_cons, List.lookup_cons]
        cases q : n == p with
        | true => rfl
        | false =>
          refine ih (Nat.succ.inj h) ?_
          rcases List.mem_cons.mp hn with e | e
          · subst e; simp at q
          · exact e
  simp [this h hn]
theorem bind_plain {fd : FuncData} {ps : List Str} {us : List Value} (h : plainP fd.params ps = true) (hd : fd.defaults = .none) (hl : us.length = ps.length) : bindArgs fd ⟨us, []⟩ = pure (ps.zip us) := by
  unfold plainP at h
  simp only [Bool.and_eq_true, decide_eq_true_eq, List.isEmpty_iff, Option.isNone_iff_eq_none] at h
  obtain ⟨⟨⟨⟨⟨h1, h2⟩, h3⟩, h4⟩, h5⟩, h6⟩ := h
  have hs : seqItems? fd.defaults = pure none := by rw [hd]; rfl
  have hz : (fd.params.args.map (·.arg)).filterMap (fun n => (((fd.params.args.map (·.arg)).zip us).lookup n).map (n, ·)) = (fd.params.args.map (·.arg)).zip us := by
    have := zip_lookup (ps := fd.params.args.map (·.arg)) (us := us) (L := []) (fun _ _ => rfl) (by rw [h5]; exact h6) (by rw [h5]; exact hl)
    simpa using this
  have hm : ((fd.params.args.map (·.arg)).filter fun n => (((fd.params.args.map (·.arg)).zip us).lookup n).isNone) = [] := lookup_none_nil (by rw [h5]; exact hl)
  have hlen : ¬ (us.length > (fd.params.args.map (·.arg)).length) := by rw [h5, hl]; omega
  rw [← h5]
  unfold bindArgs
  simp only [h1, h2, h3, h4, hs, List.map_nil, List.nil_append, List.append_nil, List.forIn_nil, pure_bind, Option.getD_none]
  have hlen' : us.length = (fd.params.args.map (·.arg)).length := by rw [h5, hl]
  simp only [hlen', gt_iff_lt, Nat.lt_irrefl, decide_false, Bool.false_and, Bool.false_eq_true, if_false, List.drop_nil, List.length_nil, Nat.sub_zero, List.take_length, hm, List.isEmpty_nil, Bool.not_true, List.drop_length, List.zip_nil_left, List.forIn_nil, List.nil_append, List.append_nil, hz, pure_bind]
/-! ## constants of the module -/
mutual
def repB (K : PySem.W.Frag) : D → Value → Bool
  | .non, .none => true
  | .bl b, .bool c => b == c
  | .int i, .int j _ => decide (i = j)
  | .str x, .str y _ => decide (x = y)
  | .tup ds, .ref a => (match K.lookup a with
    | some ⟨.type c, _, .seq its _, _⟩ => decide (c = "tuple") && (decide (its.size ≤ sizeLine) && (decide (ds.length ≤ SZ) && repsB K ds its.toList))
    | _ => false)
  | .rol ds, .ref a => (match K.lookup a with
    | some ⟨.type c, none, .seq its _, _⟩ => decide (c = "list") && (decide (its.size ≤ sizeLine) && (decide (ds.length ≤ SZ) && repsB K ds its.toList))
    | _ => false)
  | _, _ => false
def repsB (K : PySem.W.Frag) : List D → List Value → Bool
  | [], [] => true
  | d :: ds, u :: us => repB K d u && repsB K ds us
  | _, _ => false
end
theorem and2 {a b : Bool} (h : (a && b) = true) : a = true ∧ b = true := by cases a <;> cases b <;> first | exact ⟨rfl, rfl⟩ | cases h
mutual
theorem repB_ok {K : PySem.W.Frag} : ∀ {d : D} {u : Value}, repB K d u = true → ∃ v, RelV v u ∧ ∀ z, Rep K z d v
  | .non, u, h => by
    cases u with
    | none => exact ⟨.non, rfl, fun z => by unfold Rep; rfl⟩
    | _ => simp [repB] at h
  | .bl b, u, h => by
    cases u with
    | bool c =>
      have e : b = c := by simpa [repB] using h
      subst e
      exact ⟨.bl b, rfl, fun z => by unfold Rep; rfl⟩
    | _ => simp [repB] at h
  | .int i, u, h => by
    cases u with
    | int j t =>
      have e : i = j := by simpa [repB] using h
      subst e
      exact ⟨.int i, ⟨t, rfl⟩, fun z => by unfold Rep; rfl⟩
    | _ => simp [repB] at h
  | .str i, u, h => by
    cases u with
    | str j t =>
      have e : i = j := by simpa [repB] using h
      subst e
      exact ⟨.str i, ⟨t, rfl⟩, fun z => by unfold Rep; rfl⟩
    | _ => simp [repB] at h
  | .tup ds, u, h => by
    cases u with
    | ref a =>
      unfold repB at h
      cases q : K.lookup a with
      | none => rw [q] at h; cases h
      | some o =>
        obtain ⟨oc, od, dt, osl⟩ := o
        rw [q] at h
        cases oc with
        | type c =>
          cases dt with
          | seq its n =>
            obtain ⟨h1, h2⟩ := and2 h
            obtain ⟨h2, h3⟩ := and2 h2
            obtain ⟨h3, h4⟩ := and2 h3
            obtain ⟨xs, r1, r2⟩ := repsB_ok h4
            refine ⟨.ref a, rfl, fun z => ?_⟩
            unfold Rep
            exact ⟨a, xs, rfl, .inr (.inr ⟨_, its, n, q, congrArg Value.type (of_decide_eq_true h1), rfl, of_decide_eq_true h2, r1⟩), of_decide_eq_true h3, r2 z⟩
          | _ => cases h
        | _ => cases dt <;> cases h
    | _ => simp [repB] at h
  | .rol ds, u, h => by
    cases u with
    | ref a =>
      unfold repB at h
      cases q : K.lookup a with
      | none => rw [q] at h; cases h
      | some o =>
        obtain ⟨oc, od, dt, osl⟩ := o
        rw [q] at h
        cases oc with
        | type c =>
          cases od with
          | none =>
            cases dt with
            | seq its n =>
              obtain ⟨h1, h2⟩ := and2 h
              obtain ⟨h2, h3⟩ := and2 h2
              obtain ⟨h3, h4⟩ := and2 h3
              obtain ⟨xs, r1, r2⟩ := repsB_ok h4
              refine ⟨.ref a, rfl, fun z => ?_⟩
              unfold Rep
              exact ⟨a, xs, rfl, .inr (.inr ⟨_, its, n, q, congrArg Value.type (of_decide_eq_true h1), rfl, rfl, of_decide_eq_true h2, r1⟩), of_decide_eq_true h3, r2 z⟩
            | _ => cases h
          | some _ => cases dt <;> cases h
        | _ => cases od <;> cases dt <;> cases h
    | _ => simp [repB] at h
  | .lst ds, u, h => by cases u <;> simp [repB] at h
  | .obj r, u, h => by cases u <;> simp [repB] at h
  | .edic, u, h => by cases u <;> simp [repB] at h
theorem repsB_ok {K : PySem.W.Frag} : ∀ {ds : List D} {us : List Value}, repsB K ds us = true → ∃ vs, Vals vs us ∧ ∀ z, Reps K z ds vs
  | [], [], _ => ⟨[], .nil, fun z => .nil⟩
  | [], _ :: _, h => by simp [repsB] at h
  | _ :: _, [], h => by simp [repsB] at h
  | d :: ds, u :: us, h => by
    unfold repsB at h
    obtain ⟨h1, h2⟩ := and2 h
    obtain ⟨v, a1, a2⟩ := repB_ok h1
    obtain ⟨vs, b1, b2⟩ := repsB_ok h2
    exact ⟨v :: vs, .cons a1 b1, fun z => .cons (a2 z) (b2 z)⟩
end
def conB (K : PySem.W.Frag) (c : String × D) : Bool := match PySem.W.nsIn K mainGlobals (Str.ofString c.1) with
  | some (some u) => repB K c.2 u
  | _ => false
def conT (cs : List (String × D)) (g : String) : Option D := cs.lookup g
theorem lookup_mem {α β : Type} [BEq α] [LawfulBEq α] {a : α} {b : β} : ∀ {l : List (α × β)}, l.lookup a = some b → (a, b) ∈ l
  | [], h => by cases h
  | (x, y) :: l, h => by
    rw [List.lookup_cons] at h
    cases q : a == x with
    | true =>
      rw [q] at h
      cases h
      rw [beq_iff_eq] at q
      subst q
      exact List.mem_cons_self
    | false => rw [q] at h; exact List.mem_cons_of_mem _ (lookup_mem h)
theorem cons_ok {K : PySem.W.Frag} {h : Heap} {mg : Str → Option Value} (X : K.In h) (G : h.Ns mainGlobals mg) {cs : List (String × D)} (c : cs.all (conB K) = true) : Cons K mg (conT cs) := fun g d e => by
  have q := List.all_eq_true.mp c (g, d) (lookup_mem e)
  unfold conB at q
  cases p : PySem.W.nsIn K mainGlobals (Str.ofString g) with
  | none => simp only [p] at q; cases q
  | some r =>
    cases r with
    | none => simp only [p] at q; cases q
    | some u =>
      simp only [p] at q
      obtain ⟨v, h1, h2⟩ := repB_ok q
      exact ⟨u, v, PySem.W.mg_of X G p, h1, h2⟩
/-! ## the table -/
def FnRow.dd (r : FnRow) : He.DefD := ⟨(Str.ofString r.name, none), r.own, r.own, r.params, r.body, r.scope, [], []⟩
def nmsOf (rows : List FnRow) : List String := rows.map FnRow.name
def tabT : List FnRow → String → Option Fn
  | [], _ => none
  | r :: rs, f => if r.name = f then some r.fn else tabT rs f
theorem tabT_of : ∀ {rows : List FnRow} {r : FnRow}, (nmsOf rows).Nodup → r ∈ rows → tabT rows r.name = some r.fn
  | [], _, _, h => by cases h
  | x :: rows, r, nd, h => by
    unfold tabT
    have nd' := List.nodup_cons.mp nd
    rcases List.mem_cons.mp h with e | e
    · subst e; rw [if_pos rfl]
    · rw [if_neg]
      · exact tabT_of nd'.2 e
      · intro q
        exact nd'.1 (by rw [q]; exact List.mem_map_of_mem e)
def fasOf (rows : List FnRow) : List He.Fa := rows.map (fun r => .glo (Str.ofString r.name)) ++ bnames.map .free
def ddsOf (rows : List FnRow) : List He.DefD := rows.map FnRow.dd
def rowsOk (rows : List FnRow) : Bool := decide (nmsOf rows).Nodup && (rows.all (fun r => plainP r.params r.ps) && rows.all (FnRow.ok (nmsOf rows)))
theorem fact_mem {fa : List He.Fa} {fn : List He.DefD} {K : PySem.W.Frag} (c : He.SaysD fa fn K) {f : He.Fa} (h : f ∈ fa) : f.ok K = true := by
  obtain ⟨i, hi⟩ := List.getElem?_of_mem h
  exact c.fact i hi
theorem row_of {rows : List FnRow} {K : PySem.W.Frag} {h : Heap} {mg : Str → Option Value} (X : K.In h) (G : h.Ns mainGlobals mg) (c : He.SaysD (fasOf rows) (ddsOf rows) K) (ok : rowsOk rows = true) {r : FnRow} (hr : r ∈ rows) :
    ∃ fd, Row K mg (tabT rows) (nmsOf rows) r (He.ga K (Str.ofString r.name)) fd ∧ (∀ (s : Shared) (us : List Value), us.length = r.ps.length → BindsTo s fd ⟨us, []⟩ (r.ps.zip us)) := by
  obtain ⟨o1, o2⟩ := and2 ok
  obtain ⟨o2, o3⟩ := and2 o2
  obtain ⟨i, hi⟩ := List.getElem?_of_mem hr
  have hd : (ddsOf rows)[i]? = some r.dd := by unfold ddsOf; rw [List.getElem?_map, hi]; rfl
  obtain ⟨fd, F⟩ := c.def_ i hd
  have F : FunD K r.own r.own r.params r.body r.scope [] [] (He.ga K (Str.ofString r.name)) fd := F
  have pl : plainP r.params r.ps = true := List.all_eq_true.mp o2 r hr
  have B : ∀ (kV doc pm : Value) (an : Option Addr) (cdv ct : Value) (us : List Value), us.length = r.ps.length → bindArgs (PySem.W.fnOf r.own r.own r.params r.body r.scope .none kV doc pm an cdv ct) ⟨us, []⟩ = pure (r.ps.zip us) := fun _ _ _ _ _ _ us hl => bind_plain pl rfl hl
  refine ⟨fd, ⟨He.glo_ok X G (fact_mem c ?_), F, FunD.bindsN F B, List.all_eq_true.mp o3 r hr, tabT_of (of_decide_eq_true o1) hr⟩, fun s us hl => FunD.bindsA F B s us hl⟩
  exact List.mem_append_left _ (List.mem_map_of_mem (f := fun r : FnRow => He.Fa.glo (Str.ofString r.name)) hr)
theorem tab_ok {rows : List FnRow} {K : PySem.W.Frag} {h : Heap} {mg : Str → Option Value} (X : K.In h) (G : h.Ns mainGlobals mg) (c : He.SaysD (fasOf rows) (ddsOf rows) K) (ok : rowsOk rows = true) : Tab K mg (tabT rows) (nmsOf rows) := fun f hf => by
  have hm : f ∈ nmsOf rows := by simpa using hf
  obtain ⟨r, hr, e⟩ := List.mem_map.mp hm
  obtain ⟨fd, R, _⟩ := row_of X G c ok hr
  exact ⟨r, _, fd, e, R⟩
theorem bn_ok {rows : List FnRow} {K : PySem.W.Frag} {h : Heap} {mg : Str → Option Value} (X : K.In h) (G : h.Ns mainGlobals mg) (c : He.SaysD (fasOf rows) (ddsOf rows) K) : ∀ x ∈ bnames, mg x = none := fun x hx =>
  He.free_ok X G (fact_mem c (List.mem_append_right _ (List.mem_map_of_mem (f := He.Fa.free) hx)))
/-! ## the head -/
abbrev AlP : Type := He.AlD × Bool
def obsP (rows : List FnRow) (cs : List (String × D)) (K : PySem.W.Frag) : AlP := (He.obsD (fasOf rows) (ddsOf rows) K, cs.all (conB K))
def obsPG (n : Nat) (rows : List FnRow) (cs : List (String × D)) (g : Addr → Option Obj) : AlP := obsP rows cs (He.frG g (He.asD g n))
def hookP (n : Nat) (rows : List FnRow) (cs : List (String × D)) : PySem.W.Hook where
  α := AlP
  obs := fun s => obsPG n rows cs s.heap.get?
  val := fun _ => (He.valD (ddsOf rows), true)
  says := fun _ h => ∃ K : PySem.W.Frag, K.In h ∧ He.SaysD (fasOf rows) (ddsOf rows) K ∧ cs.all (conB K) = true
  of := fun _ _ e => ⟨_, He.frG_in, congrArg (fun z : AlP => z.1) e, congrArg (fun z : AlP => z.2) e⟩
  keeps := fun _ _ _ ⟨K, hK, c⟩ k => ⟨K, PySem.W.Frag.In.keeps hK k, c⟩
theorem obsPG_eq {n : Nat} {rows : List FnRow} {cs : List (String × D)} {g : Addr → Option Obj} {s : Shared} (h : ∀ a, g a = s.heap.get? a) : obsPG n rows cs g = (hookP n rows cs).obs s := by
  have e : g = s.heap.get? := funext h
  rw [e] <;> rfl
/-! ## the end -/
theorem reps_ints {K : PySem.W.Frag} {z : Zw} : ∀ ns : List Int, Reps K z (ns.map D.int) (ns.map V.int)
  | [] => .nil
  | n :: ns => .cons (by unfold Rep; rfl) (reps_ints ns)
theorem walk_P {l : PySem.W.OpenLaw} {q : Program} {loose : List Str} {XP : (Str → Option Value) → Heap → Prop} {rows : List FnRow} {cs : List (String × D)} {d : DefRec} {r : FnRow} {k m : Nat}
    (hn : l.most = some 63) (hdf : d.params.defaults = []) (hr : Room k callerA) (ok : rowsOk rows = true) (hl : r ∈ rows) (hnm : Str.ofString r.name = d.name) (hps : r.ps = [("script" : Str)])
    (law : ∀ ns : List Int, ns.length ≤ 63 → ∃ S, callN (tabT rows) (conT cs) k r.name [.rol (ns.map D.int)] [] = .ok (.bl true) S) :
    PySem.W.WalkO q loose XP (hookP m rows cs).says l.row.toRowW d [] (fun f vs => PySem.call f vs) := by
  refine Att.attach_call hn hdf fun w s₀ s₁ mg mb fa o pm cd doc a vs ns G Y ho hd hcd hmg hobj hints hlen hg => ?_
  obtain ⟨K, KX, c, c2⟩ := Y
  obtain ⟨fd, R, B⟩ := row_of KX G.T.g c ok hl
  have e : fa = He.ga K (Str.ofString r.name) := by
    have := hmg.symm.trans ((congrArg mg hnm.symm).trans R.at_)
    cases this; rfl
  have hF := fun base : Heap => fn_ok (P := l.prog) (w := w) (tab_ok KX G.T.g c ok) (cons_ok KX G.T.g c2) (bn_ok KX G.T.g c) k R base
  rw [← e] at hF
  rw [hps] at hF
  refine law_call (x := "script") (CX := L2.CX l.prog w) KX G.T.g G.T.b G.T.builtins G.T.nolimit hg hobj hints (Nat.le_trans hlen (by decide)) hr (fun base _ _ => hF base) (fun s u => ?_) (fun H hO hS => ?_) fun H e s' hx => ?_
  · have := B s [u] (by rw [hps]; rfl)
    rw [hps] at this; exact this
  · obtain ⟨S, hlaw⟩ := law ns hlen
    refine ⟨rfl, ⟨[], [], [], H⟩, [.rol (ns.map D.int)], rfl, ⟨rfl, List.nodup_nil, fun _ h => (nomatch h), fun _ h => (nomatch h), fun _ h => (nomatch h), fun r mo a h => (nomatch h)⟩, .cons ?_ .nil, ?_⟩
    · unfold Rep
      refine ⟨a, ns.map V.int, rfl, ?_, by rw [List.length_map]; exact Nat.le_trans hlen (by decide), reps_ints ns⟩
      rcases hS with hS | hS
      · left
        rcases hO a with q | ⟨o, xs, q⟩
        · rcases hS with h | ⟨o, h⟩ <;> rw [q] at h <;> cases h
        · rcases hS with h | ⟨o, h⟩ <;> rw [q] at h <;> cases h
          refine ⟨_, q, ?_⟩
          rintro (⟨r, mo, h, _⟩ | h) <;> cases h
      · exact .inr (.inr hS)
    · show (match callN (tabT rows) (conT cs) k r.name [.rol (ns.map D.int)] [] with | .ok d S1 => _ | .exc x _ S1 => _ | .bad => _)
      rw [hlaw]
      intro w z1 _ _ _ h
      unfold Rep at h
      exact h
  · obtain ⟨_, _, _, _, _, _, _, _, _, _, _, _, h⟩ := hx
    exact h
end PyI

set_option maxRecDepth 100000
set_option maxHeartbeats 4000000
namespace PyI
open PySem
/-! ## plain lemmas over the evaluator -/
noncomputable def fin (S : Store) (r : Rs Fl) : Rs D := match r with
  | .ok (.rt d) S' => retn S d S'
  | .ok (.nx _) S' => retn S .non S'
  | .ok _ _ => .bad
  | .exc x _ S' => .exc x [] S'
  | .bad => .bad
@[simp] theorem fin_rt {S S' : Store} {d : D} : fin S (.ok (.rt d) S') = retn S d S' := rfl
@[simp] theorem fin_nx {S S' : Store} {e : Env} : fin S (.ok (.nx e) S') = retn S .non S' := rfl
@[simp] theorem fin_exc {S S' : Store} {e : Env} {x : Xc} : fin S (.exc x e S') = .exc x [] S' := rfl
@[simp] theorem retn_same {S : Store} {d : D} : retn S d S = .ok d S := by unfold retn; rw [trunc_self]
theorem bOk {α β : Type} {a : α} {S : Store} {f : α → Store → Rs β} : (Rs.ok a S).bind f = f a S := rfl
theorem bEx {α β : Type} {x : Xc} {e : Env} {S : Store} {f : α → Store → Rs β} : (Rs.exc x e S).bind f = .exc x e S := rfl
theorem bBd {α β : Type} {f : α → Store → Rs β} : (Rs.bad).bind f = .bad := rfl
theorem aOk {α : Type} {a : α} {S : Store} {e : Env} : (Rs.ok a S).at e = .ok a S := rfl
theorem call_eq {T : String → Option Fn} {con : String → Option D} {k : Nat} {f : String} {fd : Fn} {ds : List D} {S : Store} (h : T f = some fd) (hl : ds.length = fd.np) :
    callN T con (k + 1) f ds S = fin S (evSs ⟨callN T con k, con⟩ fd.body (ds.map some ++ List.replicate (fd.n - ds.length) none) S) := by
  show (match T f with | none => _ | some fd => _) = _
  rw [h]
  show (if ds.length = fd.np then _ else _) = _
  rw [if_pos hl]; rfl
section
variable {W : Wd} {own : List Nat} {elt : Ex} {t : Tg} {it : It} {c : Tx} {e : Env} {S : Store}
theorem forR_flt {f : D → List D → Store → Rs (List D)} {p : D → Bool} {g : D → D} {S : Store} : ∀ (xs acc : List D), (∀ x ∈ xs, ∀ acc : List D, acc.length < SZ → f x acc S = .ok (if p x then acc ++ [g x] else acc) S) → acc.length + xs.length ≤ SZ →
    forR (fun _ => true) f xs acc S = .ok (acc ++ (xs.filter p).map g) S
  | [], acc, _, _ => by simp [forR]
  | x :: xs, acc, h, hl => by
    have hl' : acc.length + xs.length + 1 ≤ SZ := by simpa [Nat.add_assoc] using hl
    unfold forR
    rw [if_pos rfl, h x List.mem_cons_self acc (by omega)]
    rw [bOk, forR_flt xs _ (fun y hy => h y (List.mem_cons_of_mem _ hy)) (by cases p x <;> simp <;> omega)]
    cases hp : p x <;> simp [List.filter_cons, hp]
theorem comp_flt {xs : List D} {p : D → Bool} {g : D → D} (hi : evI W it e S = .ok (xs, none) S) (hl : xs.length ≤ SZ)
    (h : ∀ x ∈ xs, ∃ e', setT (wip e own) t x = some e' ∧ evT W c e' S = .ok (p x) S ∧ (p x = true → evE W elt e' S = .ok (g x) S)) : evE W (.comp own elt t it c) e S = .ok (.lst ((xs.filter p).map g)) S := by
  simp only [evE, hi, bOk, srcOk_none]
  rw [forR_flt (p := p) (g := g) xs [] (fun x hx acc ha => ?_) (by simpa using hl)]
  · rfl
  · obtain ⟨e', h1, h2, h3⟩ := h x hx
    simp only [h1, h2, bOk]
    cases hp : p x with
    | false => simp
    | true => simp [h3 hp, ha, bOk]
theorem comp_map {xs : List D} {g : D → D} (hi : evI W it e S = .ok (xs, none) S) (hl : xs.length ≤ SZ)
    (h : ∀ x ∈ xs, ∃ e', setT (wip e own) t x = some e' ∧ evE W elt e' S = .ok (g x) S) : evE W (.comp own elt t it .yes) e S = .ok (.lst (xs.map g)) S := by
  rw [comp_flt (p := fun _ => true) (g := g) hi hl fun x hx => ?_]
  · rw [List.filter_eq_self.mpr fun _ _ => rfl]
  · obtain ⟨e', h1, h2⟩ := h x hx
    exact ⟨e', h1, by simp [evT], fun _ => h2⟩
/-- with a store that changes -/
theorem forR_inv {f : D → List D → Store → Rs (List D)} {B : Store → Prop} {Q : D → Prop} : ∀ (xs acc : List D) (S : Store), B S → (∀ x ∈ xs, ∀ (acc : List D) S, B S → acc.length < SZ → ∃ d S', f x acc S = .ok (acc ++ [d]) S' ∧ B S' ∧ Q d) → (∀ d ∈ acc, Q d) → acc.length + xs.length ≤ SZ →
    ∃ ds S', forR (fun _ => true) f xs acc S = .ok ds S' ∧ B S' ∧ ds.length = acc.length + xs.length ∧ ∀ d ∈ ds, Q d
  | [], acc, S, b, _, ha, _ => ⟨acc, S, by simp [forR], b, by simp, ha⟩
  | x :: xs, acc, S, b, h, ha, hl => by
    have hl' : acc.length + xs.length + 1 ≤ SZ := by simpa [Nat.add_assoc] using hl
    obtain ⟨d, S', h1, h2, h3⟩ := h x List.mem_cons_self acc S b (by omega)
    obtain ⟨ds, S2, k1, k2, k3, k4⟩ := forR_inv (f := f) (B := B) (Q := Q) xs (acc ++ [d]) S' h2 (fun y hy => h y (List.mem_cons_of_mem _ hy)) (fun q hq => by
      rcases List.mem_append.mp hq with hq | hq
      · exact ha q hq
      · rw [List.mem_singleton.mp hq]; exact h3) (by simp; omega)
    refine ⟨ds, S2, ?_, k2, by rw [k3]; simp; omega, k4⟩
    unfold forR
    rw [if_pos rfl, h1]
    exact k1
theorem comp_inv {xs : List D} {B : Store → Prop} {Q : D → Prop} {S0 : Store} (hi : evI W it e S0 = .ok (xs, none) S) (b : B S) (hl : xs.length ≤ SZ)
    (h : ∀ x ∈ xs, ∃ e', setT (wip e own) t x = some e' ∧ ∀ S, B S → ∃ d S', evE W elt e' S = .ok d S' ∧ B S' ∧ Q d) : ∃ ds S', evE W (.comp own elt t it .yes) e S0 = .ok (.lst ds) S' ∧ B S' ∧ ds.length = xs.length ∧ ∀ d ∈ ds, Q d := by
  simp only [evE, hi, bOk, srcOk_none]
  obtain ⟨ds, S', h1, h2, h3, h4⟩ := forR_inv (B := B) (Q := Q) (f := fun x acc S => match setT (wip e own) t x with
        | some e' => (evT W .yes e' S).bind fun b S => if b then (evE W elt e' S).bind fun d S => if acc.length < SZ then .ok (acc ++ [d]) S else .bad else .ok acc S
        | none => .bad) xs [] S b (fun x hx acc S b ha => by
      obtain ⟨e', q1, q2⟩ := h x hx
      obtain ⟨d, S', k1, k2, k3⟩ := q2 S b
      exact ⟨d, S', by simp [q1, evT, k1, ha, bOk], k2, k3⟩) (by simp) (by simpa using hl)
  exact ⟨ds, S', congrArg (fun r : Rs (List D) => r.nox.bind fun ds S => Rs.ok (D.lst ds) S) h1, h2, by simpa using h3, h4⟩
end
/-! ## data of bounded sizes -/
mutual
def D.sml : Nat → D → Bool
  | _, .non => true
  | _, .bl _ => true
  | _, .int _ => true
  | n, .str x => decide (x.length ≤ n)
  | n, .tup ds => decide (ds.length ≤ n) && smls n ds
  | n, .lst ds => decide (ds.length ≤ n) && smls n ds
  | _, _ => false
def smls : Nat → List D → Bool
  | _, [] => true
  | n, d :: ds => d.sml n && smls n ds
end
mutual
theorem sml_dat {n : Nat} : ∀ {d : D}, d.sml n = true → d.dat = true
  | .non, _ => rfl
  | .bl _, _ => rfl
  | .int _, _ => rfl
  | .str _, _ => rfl
  | .tup ds, h => by simp [D.sml] at h; simp [D.dat, smls_dat h.2]
  | .lst ds, h => by simp [D.sml] at h; simp [D.dat, smls_dat h.2]
  | .rol _, h => by simp [D.sml] at h
  | .obj _, h => by simp [D.sml] at h
  | .edic, h => by simp [D.sml] at h
theorem smls_dat {n : Nat} : ∀ {ds : List D}, smls n ds = true → dats ds = true
  | [], _ => rfl
  | d :: ds, h => by simp [smls] at h; simp [dats, sml_dat h.1, smls_dat h.2]
end
mutual
theorem sml_mono {n m : Nat} (hm : n ≤ m) : ∀ {d : D}, d.sml n = true → d.sml m = true
  | .non, _ => rfl
  | .bl _, _ => rfl
  | .int _, _ => rfl
  | .str x, h => by simp [D.sml] at h ⊢; omega
  | .tup ds, h => by simp [D.sml] at h ⊢; exact ⟨by omega, smls_mono hm h.2⟩
  | .lst ds, h => by simp [D.sml] at h ⊢; exact ⟨by omega, smls_mono hm h.2⟩
  | .rol _, h => by simp [D.sml] at h
  | .obj _, h => by simp [D.sml] at h
  | .edic, h => by simp [D.sml] at h
theorem smls_mono {n m : Nat} (hm : n ≤ m) : ∀ {ds : List D}, smls n ds = true → smls m ds = true
  | [], _ => rfl
  | d :: ds, h => by simp [smls] at h; simp [smls, sml_mono hm h.1, smls_mono hm h.2]
end
theorem smls_all {n : Nat} : ∀ {ds : List D}, smls n ds = true ↔ ∀ d ∈ ds, d.sml n = true
  | [] => by simp [smls]
  | d :: ds => by simp [smls, smls_all]
theorem eqv_flat0 : True := trivial
/-! ## _law_alike -/
mutual
def D.size : D → Nat
  | .tup ds => 1 + sizes ds
  | .lst ds => 1 + sizes ds
  | _ => 1
def sizes : List D → Nat
  | [] => 0
  | d :: ds => d.size + sizes ds
end
mutual
/-- what the alike loop takes -/
def D.alk : D → Bool
  | .non => true
  | .bl _ => true
  | .int _ => true
  | .str _ => true
  | .tup ds => alks ds
  | .lst ds => alks ds
  | _ => false
def alks : List D → Bool
  | [] => true
  | d :: ds => d.alk && alks ds
end
theorem zipD_self : ∀ ds : List D, zipD ds ds = ds.map fun d => .tup [d, d]
  | [] => rfl
  | d :: ds => by simp [zipD, zipD_self ds]
theorem sizes_app : ∀ {a b : List D}, sizes (a ++ b) = sizes a + sizes b
  | [], b => by simp [sizes]
  | d :: a, b => by simp [sizes, sizes_app (a := a)]; omega
theorem alks_app : ∀ {a b : List D}, alks a = true → alks b = true → alks (a ++ b) = true
  | [], b, _, h => h
  | d :: a, b, h, h2 => by simp [alks] at h; simp [alks, h.1, alks_app h.2 h2]
theorem len_le_sizes : ∀ ds : List D, ds.length ≤ sizes ds
  | [] => by simp [sizes]
  | d :: ds => by
    have h1 := len_le_sizes ds
    have h2 : 1 ≤ d.size := by cases d <;> simp [D.size]
    simp [sizes]; omega
end PyI

set_option maxRecDepth 100000
set_option maxHeartbeats 1000000
namespace PyI
open PySem L2
/-! ## one step of the evaluator at a time -/
section
variable {W : Wd} {e e' e2 : Env} {S S1 S2 S3 S4 : Store} {a b c x y z : Ex} {es : Exs} {d d1 d2 d3 : D} {ds : List D} {s : Sm} {r : Sms} {R : Rs Fl} {o p : BO} {q : CO} {t t1 t2 : Bool} {i j : Nat}
theorem ss_nil : evSs W .nil e S = .ok (.nx e) S := rfl
theorem ss_nx (h : evS W s e S = .ok (.nx e') S1) (k : evSs W r e' S1 = R) : evSs W (.cons s r) e S = R := by
  show (evS W s e S).bind _ = _
  rw [h]; exact k
theorem ss_rt (h : evS W s e S = .ok (.rt d) S1) : evSs W (.cons s r) e S = .ok (.rt d) S1 := by
  show (evS W s e S).bind _ = _
  rw [h]; rfl
theorem st_if {C : Tx} {A B : Sms} (h : evT W C e S = .ok t S1) (k : (if t then evSs W A e S1 else evSs W B e S1) = R) : evS W (.ifs C A B) e S = R := by
  show (evT W C e S).bind _ = _
  rw [h]; exact k
theorem st_ift {C : Tx} {A B : Sms} (h : evT W C e S = .ok true S1) (k : evSs W A e S1 = R) : evS W (.ifs C A B) e S = R := st_if h k
theorem st_iff {C : Tx} {A B : Sms} (h : evT W C e S = .ok false S1) (k : evSs W B e S1 = R) : evS W (.ifs C A B) e S = R := st_if h k
theorem st_if0 {C : Tx} {A : Sms} (h : evT W C e S = .ok false S1) : evS W (.ifs C A .nil) e S = .ok (.nx e) S1 := st_if h rfl
theorem st_ret (h : evE W x e S = .ok d S1) : evS W (.ret x) e S = .ok (.rt d) S1 := by
  show (evE W x e S).bind _ = _
  rw [h]; rfl
theorem st_asg {T : Tg} (h : evE W x e S = .ok d S1) (k : setT e T d = some e') : evS W (.asg T x) e S = .ok (.nx e') S1 := by
  show (evE W x e S).bind _ = _
  rw [h]
  show (optR (setT e T d) S1).bind _ = _
  rw [k]; rfl
theorem st_par (h : evE W a e S = .ok d S1) (k : evE W b e S1 = .ok d1 S2) : evS W (.par i j a b) e S = .ok (.nx ((e.set i (some d)).set j (some d1))) S2 := by
  show (evE W a e S).bind _ = _
  rw [h]
  show (evE W b e S1).bind _ = _
  rw [k]; rfl
theorem st_par3 {l : Nat} (h : evE W a e S = .ok d S1) (k : evE W b e S1 = .ok d1 S2) (k2 : evE W c e S2 = .ok d2 S3) : evS W (.par3 i j l a b c) e S = .ok (.nx (((e.set i (some d)).set j (some d1)).set l (some d2))) S3 := by
  show (evE W a e S).bind _ = _
  rw [h]
  show (evE W b e S1).bind _ = _
  rw [k]
  show (evE W c e S2).bind _ = _
  rw [k2]; rfl
theorem st_aug (h0 : e[i]? = some (some d)) (h : evE W x e S = .ok d1 S1) (k : augop o d d1 = some d2) : evS W (.aug i o x) e S = .ok (.nx (e.set i (some d2))) S1 := by
  show (match e[i]? with | some (some d) => _ | _ => _) = _
  rw [h0]
  show (evE W x e S).bind _ = _
  rw [h]
  show (optR (augop o d d1) S1).bind _ = _
  rw [k]; rfl
theorem st_exp (h : evE W x e S = .ok d S1) : evS W (.exp x) e S = .ok (.nx e) S1 := by
  show (evE W x e S).bind _ = _
  rw [h]; rfl
theorem e_var (h : e[i]? = some (some d)) : evE W (.var i) e S = .ok d S := by
  show (match e[i]? with | some (some d) => _ | _ => _) = _
  rw [h]
theorem e_cst : evE W (.cst d) e S = .ok d S := rfl
theorem e_glo {g : String} (h : W.con g = some d) : evE W (.glo g) e S = .ok d S := by
  show optR (W.con g) S = _
  rw [h]; rfl
theorem e_bin (h : evE W a e S = .ok d S1) (k : evE W b e S1 = .ok d1 S2) (l : binop o d d1 = some d2) : evE W (.bin o a b) e S = .ok d2 S2 := by
  show (evE W a e S).bind _ = _
  rw [h]
  show (evE W b e S1).bind _ = _
  rw [k]
  show optR _ _ = _
  rw [l]; rfl
theorem e_neg {n : Int} (h : evE W a e S = .ok (.int n) S1) : evE W (.neg a) e S = .ok (.int (-n)) S1 := by
  show (evE W a e S).bind _ = _
  rw [h]; rfl
theorem e_cmp (h : evE W a e S = .ok d S1) (k : evE W b e S1 = .ok d1 S2) (l : cmpop q d d1 = some t) : evE W (.cmp q a b) e S = .ok (.bl t) S2 := by
  show (evE W a e S).bind _ = _
  rw [h]
  show (evE W b e S1).bind _ = _
  rw [k]
  show optR _ _ = _
  rw [l]; rfl
theorem t_cmp (h : evE W a e S = .ok d S1) (k : evE W b e S1 = .ok d1 S2) (l : cmpop q d d1 = some t) : evT W (.cmp q a b) e S = .ok t S2 := by
  show (evE W a e S).bind _ = _
  rw [h]
  show (evE W b e S1).bind _ = _
  rw [k]
  show optR _ _ = _
  rw [l]; rfl
theorem t_tst (h : evE W a e S = .ok d S1) (k : truth S1 d = some t) : evT W (.tst a) e S = .ok t S1 := by
  show (evE W a e S).bind _ = _
  rw [h]
  show optR _ _ = _
  rw [k]; rfl
theorem t_nt {C : Tx} (h : evT W C e S = .ok t S1) : evT W (.nt C) e S = .ok (!t) S1 := by
  show (evT W C e S).bind _ = _
  rw [h]; rfl
theorem t_or {A B : Tx} (h : evT W A e S = .ok t S1) (k : t = false → evT W B e S1 = .ok t1 S1) : evT W (.or A B) e S = .ok (t || t1) S1 := by
  show (evT W A e S).bind _ = _
  rw [h]
  cases t with
  | true => rfl
  | false => exact k rfl
theorem t_and {A B : Tx} (h : evT W A e S = .ok t S1) (k : t = true → evT W B e S1 = .ok t1 S1) : evT W (.and A B) e S = .ok (t && t1) S1 := by
  show (evT W A e S).bind _ = _
  rw [h]
  cases t with
  | false => rfl
  | true => exact k rfl
theorem t_ort {A B : Tx} (h : evT W A e S = .ok true S1) : evT W (.or A B) e S = .ok true S1 := by
  show (evT W A e S).bind _ = _
  rw [h]; rfl
theorem t_orf {A B : Tx} (h : evT W A e S = .ok false S1) (k : evT W B e S1 = .ok t1 S2) : evT W (.or A B) e S = .ok t1 S2 := by
  show (evT W A e S).bind _ = _
  rw [h]; exact k
theorem t_andt {A B : Tx} (h : evT W A e S = .ok true S1) (k : evT W B e S1 = .ok t1 S2) : evT W (.and A B) e S = .ok t1 S2 := by
  show (evT W A e S).bind _ = _
  rw [h]; exact k
theorem t_andf {A B : Tx} (h : evT W A e S = .ok false S1) : evT W (.and A B) e S = .ok false S1 := by
  show (evT W A e S).bind _ = _
  rw [h]; rfl
theorem t_chn {q2 : CO} (h : evE W a e S = .ok d S1) (k : evE W b e S1 = .ok d1 S2) (l : cmpop q d d1 = some t) (k2 : evE W c e S2 = .ok d2 S2) (l2 : t = true → cmpop q2 d1 d2 = some t2) : evT W (.chn q q2 a b c) e S = .ok (t && t2) S2 := by
  show (evE W a e S).bind _ = _
  rw [h]
  show (evE W b e S1).bind _ = _
  rw [k]
  show (optR (cmpop q d d1) S2).bind _ = _
  rw [l]
  cases t with
  | false => rfl
  | true =>
    show (evE W c e S2).bind _ = _
    rw [k2]
    show optR _ _ = _
    rw [l2 rfl]; rfl
theorem e_chn {q2 : CO} (h : evE W a e S = .ok d S1) (k : evE W b e S1 = .ok d1 S2) (l : cmpop q d d1 = some t) (k2 : evE W c e S2 = .ok d2 S2) (l2 : t = true → cmpop q2 d1 d2 = some t2) : evE W (.chn q q2 a b c) e S = .ok (.bl (t && t2)) S2 := by
  show (evE W a e S).bind _ = _
  rw [h]
  show (evE W b e S1).bind _ = _
  rw [k]
  show (optR (cmpop q d d1) S2).bind _ = _
  rw [l]
  cases t with
  | false => rfl
  | true =>
    show (evE W c e S2).bind _ = _
    rw [k2]
    show optR _ _ = _
    rw [l2 rfl]; rfl
theorem e_nt (h : evE W a e S = .ok d S1) (k : truth S1 d = some t) : evE W (.nt a) e S = .ok (.bl (!t)) S1 := by
  show (evE W a e S).bind _ = _
  rw [h]
  show optR _ _ = _
  rw [k]; rfl
/-- and, or of bools -/
theorem e_and (h : evE W a e S = .ok (.bl t) S1) (k : t = true → evE W b e S1 = .ok (.bl t1) S1) : evE W (.and a b) e S = .ok (.bl (t && t1)) S1 := by
  show (evE W a e S).bind _ = _
  rw [h]
  cases t with
  | false => rfl
  | true => exact k rfl
theorem e_or (h : evE W a e S = .ok (.bl t) S1) (k : t = false → evE W b e S1 = .ok (.bl t1) S1) : evE W (.or a b) e S = .ok (.bl (t || t1)) S1 := by
  show (evE W a e S).bind _ = _
  rw [h]
  cases t with
  | true => rfl
  | false => exact k rfl
theorem e_ife {C : Tx} (h : evT W C e S = .ok t S1) (k : (if t then evE W a e S1 else evE W b e S1) = .ok d S2) : evE W (.ife C a b) e S = .ok d S2 := by
  show (evT W C e S).bind _ = _
  rw [h]; exact k
theorem a_nil : evA W .nil e S = .ok [] S := rfl
theorem a_cons (h : evE W x e S = .ok d S1) (k : evA W es e S1 = .ok ds S2) : evA W (.cons x es) e S = .ok (d :: ds) S2 := by
  show (evE W x e S).bind _ = _
  rw [h]
  show (evA W es e S1).bind _ = _
  rw [k]; rfl
theorem e_tup (h : evA W es e S = .ok ds S1) (k : ds.length ≤ SZ) : evE W (.tup es) e S = .ok (.tup ds) S1 := by
  show (evA W es e S).bind _ = _
  rw [h]
  show (if _ then _ else _) = _
  rw [if_pos k]
theorem e_lst (h : evA W es e S = .ok ds S1) (k : ds.length ≤ SZ) : evE W (.lst es) e S = .ok (.lst ds) S1 := by
  show (evA W es e S).bind _ = _
  rw [h]
  show (if _ then _ else _) = _
  rw [if_pos k]
theorem e_mls (h : evA W es e S = .ok ds S1) (k : ds.length ≤ SZ) : evE W (.mls es) e S = .ok (.obj S1.length) (S1 ++ [.lst ds]) := by
  show (evA W es e S).bind _ = _
  rw [h]
  show (if _ then _ else _) = _
  rw [if_pos k]
theorem e_cF {f : String} (h : evA W es e S = .ok ds S1) (k : W.call f ds S1 = .ok d S2) : evE W (.cF f es) e S = .ok d S2 := by
  show (evA W es e S).bind _ = _
  rw [h]
  show (W.call f ds S1).at e = _
  rw [k]; rfl
theorem e_cB {f : Bi} (h : evA W es e S = .ok ds S1) (k : biop S1 f ds = some d) : evE W (.cB f es) e S = .ok d S1 := by
  show (evA W es e S).bind _ = _
  rw [h]
  show optR _ _ = _
  rw [k]; rfl
theorem e_isi {ts : List Ty} (h : evE W a e S = .ok d S1) (k : isTys S1 d ts = some t) : evE W (.isi a ts) e S = .ok (.bl t) S1 := by
  show (evE W a e S).bind _ = _
  rw [h]
  show optR _ _ = _
  rw [k]; rfl
theorem e_ixt (h : evE W a e S = .ok (.tup ds) S1) {n : Int} (k : evE W b e S1 = .ok (.int n) S2) (l : atI ds n = some d) : evE W (.ix a b) e S = .ok d S2 := by
  show (evE W a e S).bind _ = _
  rw [h]
  show (evE W b e S1).bind _ = _
  rw [k]
  show optR (atI ds n) S2 = _
  rw [l]; rfl
theorem e_ixl (h : evE W a e S = .ok (.lst ds) S1) {n : Int} (k : evE W b e S1 = .ok (.int n) S2) (l : atI ds n = some d) : evE W (.ix a b) e S = .ok d S2 := by
  show (evE W a e S).bind _ = _
  rw [h]
  show (evE W b e S1).bind _ = _
  rw [k]
  show optR (atI ds n) S2 = _
  rw [l]; rfl
theorem e_ixo {m : Nat} (h : evE W a e S = .ok (.obj m) S1) {n : Int} (k : evE W b e S1 = .ok (.int n) S2) (g : S2[m]? = some (.lst ds)) (l : atI ds n = some d) : evE W (.ix a b) e S = .ok d S2 := by
  show (evE W a e S).bind _ = _
  rw [h]
  show (evE W b e S1).bind _ = _
  rw [k]
  show (match S2[m]?, D.int n with | some (.lst ds), .int i => optR (atI ds i) S2 | _, _ => .bad) = _
  rw [g]
  show optR (atI ds n) S2 = _
  rw [l]; rfl
theorem o_no : evO W .no e S = .ok none S := rfl
theorem o_so {n : Int} (h : evE W a e S = .ok (.int n) S1) : evO W (.so a) e S = .ok (some n) S1 := by
  show (evE W a e S).bind _ = _
  rw [h]; rfl
theorem e_slt {lo hi : Eo} {l u : Option Int} (h : evE W a e S = .ok d S1) (k : evO W lo e S1 = .ok l S2) (k2 : evO W hi e S2 = .ok u S3) (no : ∀ r, d ≠ .obj r) (g : slop d l u = some d1) : evE W (.sl a lo hi) e S = .ok d1 S3 := by
  show (evE W a e S).bind _ = _
  rw [h]
  show (evO W lo e S1).bind _ = _
  rw [k]
  show (evO W hi e S2).bind _ = _
  rw [k2]
  show (match d with | .obj r => _ | _ => optR (slop d l u) S3) = _
  cases d with
  | obj r => exact absurd rfl (no r)
  | _ => show optR _ S3 = _; rw [g]; rfl
theorem e_zipl (h : evA W es e S = .ok ds S1) (k : zipop S1 ds = some d) : evE W (.zipl es) e S = .ok d S1 := by
  show (evA W es e S).bind _ = _
  rw [h]
  show optR _ _ = _
  rw [k]; rfl
theorem e_ext {m : Nat} {xs : List D} (h : evE W a e S = .ok (.obj m) S1) (g : ∃ u, S1[m]? = some (.lst u)) (k : evE W b e S1 = .ok (.lst xs) S2) (g2 : S2[m]? = some (.lst ds)) (l : ds.length + xs.length ≤ SZ) : evE W (.ext a b) e S = .ok .non (S2.set m (.lst (ds ++ xs))) := by
  obtain ⟨u, g⟩ := g
  show (evE W a e S).bind _ = _
  rw [h]
  show (optR (objL S1 (.obj m)) S1).bind _ = _
  have : objL S1 (.obj m) = some m := by simp [objL, g]
  rw [this]
  show (evE W b e S1).bind _ = _
  rw [k]
  show (match S2[m]?, D.lst xs with | some (.lst ds), .lst xs => (if ds.length + xs.length ≤ SZ then Rs.ok D.non (S2.set m (.lst (ds ++ xs))) else Rs.bad) | _, _ => Rs.bad) = _
  rw [g2]
  show (if _ then _ else _) = _
  rw [if_pos l]
theorem st_sto {m : Nat} {n : Int} {l : Nat} (h : evE W x e S = .ok d S1) (k : evE W a e S1 = .ok (.obj m) S2) (k2 : evE W b e S2 = .ok (.int n) S3) (g : S3[m]? = some (.lst ds)) (p : place ds.length n = some l) : evS W (.sto a b x) e S = .ok (.nx e) (S3.set m (.lst (ds.set l d))) := by
  show (evE W x e S).bind _ = _
  rw [h]
  show (evE W a e S1).bind _ = _
  rw [k]
  show (evE W b e S2).bind _ = _
  rw [k2]
  show (match S3[m]? with | some (.lst ds) => _ | _ => _) = _
  rw [g]
  show (match place ds.length n with | some j => _ | none => _) = _
  rw [p]
theorem st_augs {m : Nat} {n : Int} {l : Nat} (k : evE W a e S = .ok (.obj m) S1) (k2 : evE W b e S1 = .ok (.int n) S2) (g : S2[m]? = some (.lst ds)) (ha : atI ds n = some d) (h : evE W x e S2 = .ok d1 S2) (hz : augop o d d1 = some d2) (p : place ds.length n = some l) : evS W (.augs a b o x) e S = .ok (.nx e) (S2.set m (.lst (ds.set l d2))) := by
  show (evE W a e S).bind _ = _
  rw [k]
  show (evE W b e S1).bind _ = _
  rw [k2]
  show (match S2[m]? with | some (.lst ds) => _ | _ => _) = _
  rw [g]
  show (match atI ds n with | some old => _ | none => _) = _
  rw [ha]
  show (evE W x e S2).bind _ = _
  rw [h]
  show (optR (augop o d d1) S2).bind _ = _
  rw [hz]
  show (match S2[m]? with | some (.lst ds) => _ | _ => _) = _
  rw [g]
  show (match place ds.length n with | some j => _ | none => _) = _
  rw [p]
end
theorem isTys_of {S : Store} {x : D} : ∀ {ts : List Ty}, True := fun {_} => trivial
end PyI

set_option maxRecDepth 100000
set_option maxHeartbeats 4000000
namespace PyI
open PySem L2
def alikeC : Tx := (.cmp .lt (.var 3) (.cB .len (.cons (.var 2) .nil)))
def alikeB : Sms := (.cons (.asg (.tp [4, 5]) (.ix (.var 2) (.var 3))) (.cons (.aug 3 .add (.cst (.int 1))) (.cons (.ifs (.or (.cmp .ne (.isi (.var 4) [.bool]) (.isi (.var 5) [.bool])) (.cmp .ne (.isi (.var 4) [.str]) (.isi (.var 5) [.str]))) (.cons (.ret (.cst (.bl false))) .nil) .nil) (.cons (.ifs (.cmp .ne (.isi (.var 4) [.tuple, .list]) (.isi (.var 5) [.tuple, .list])) (.cons (.ret (.cst (.bl false))) .nil) .nil) (.cons (.ifs (.tst (.isi (.var 4) [.tuple, .list])) (.cons (.ifs (.or (.cmp .ne (.isi (.var 4) [.tuple]) (.isi (.var 5) [.tuple])) (.cmp .ne (.cB .len (.cons (.var 4) .nil)) (.cB .len (.cons (.var 5) .nil)))) (.cons (.ret (.cst (.bl false))) .nil) .nil) (.cons (.exp (.ext (.var 2) (.zipl (.cons (.var 4) (.cons (.var 5) .nil))))) .nil)) (.cons (.ifs (.cmp .ne (.var 4) (.var 5)) (.cons (.ret (.cst (.bl false))) .nil) .nil) .nil)) .nil)))))
def alikeA : Sms := (.cons (.par 2 3 (.mls (.cons (.tup (.cons (.var 0) (.cons (.var 1) .nil))) .nil)) (.cst (.int 0))) (.cons (.whl alikeC alikeB) (.cons (.ret (.cst (.bl true))) .nil)))
theorem get_last {S : Store} {m : MO} : (S ++ [m])[S.length]? = some m := by simp
theorem set_last {S : Store} {m m' : MO} : (S ++ [m]).set S.length m' = S ++ [m'] := by simp
mutual
theorem alk_dat : ∀ {d : D}, d.alk = true → d.dat = true
  | .non, _ => rfl
  | .bl _, _ => rfl
  | .int _, _ => rfl
  | .str _, _ => rfl
  | .tup ds, h => by simp [D.alk] at h; simp [D.dat, alks_dat h]
  | .lst ds, h => by simp [D.alk] at h; simp [D.dat, alks_dat h]
  | .rol _, h => by simp [D.alk] at h
  | .obj _, h => by simp [D.alk] at h
  | .edic, h => by simp [D.alk] at h
theorem alks_dat : ∀ {ds : List D}, alks ds = true → dats ds = true
  | [], _ => rfl
  | d :: ds, h => by simp [alks] at h; simp [dats, alk_dat h.1, alks_dat h.2]
end
theorem alks_all : ∀ {ds : List D}, alks ds = true → ∀ d ∈ ds, d.alk = true
  | [], _, _, h => by cases h
  | d :: ds, h, x, hx => by
    simp [alks] at h
    rcases List.mem_cons.mp hx with e | e
    · subst e; exact h.1
    · exact alks_all h.2 x e
def pairD (d : D) : D := .tup [d, d]
theorem atI_app {a b : List D} {x : D} : atI (a ++ x :: b) (a.length : Int) = some x := by
  unfold atI ixN
  simp
  rw [if_pos (by omega)]
  simp
theorem alike_loop {W : Wd} {S : Store} {f0 f1 : D} : ∀ (m : Nat) (done rest : List D) (x4 x5 : Option D), sizes rest = m → alks rest = true → done.length + sizes rest ≤ SZ →
    ∃ e' ps, whlR (evT W alikeC) (fun e S => evSs W alikeB e S) [some f0, some f1, some (.obj S.length), some (.int done.length), x4, x5] (S ++ [.lst (done ++ rest.map pairD)]) = .ok (.nx e') (S ++ [.lst ps])
  | 0, done, [], x4, x5, _, _, _ => by
    rw [whlR_eq]
    simp [-Rs.bind, SZ, alikeC, evT, evE, evA, bOk, biop, asLst, cmpop]
  | 0, done, d :: rest, x4, x5, h, _, _ => by
    have h2 : 1 ≤ d.size := by cases d <;> simp [D.size]
    simp [sizes] at h; omega
  | m + 1, done, [], x4, x5, h, _, _ => by simp [sizes] at h
  | m + 1, done, d :: rest, x4, x5, h, ha, hs => by
    have ha' : d.alk = true ∧ alks rest = true := by simpa [alks] using ha
    have hlt : ((done.length : Int) < ((done.length + (rest.length + 1) : Nat) : Int)) := by omega
    have hlen : rest.length ≤ sizes rest := len_le_sizes rest
    have hsz : sizes (d :: rest) = d.size + sizes rest := rfl
    have app : done ++ pairD d :: rest.map pairD = (done ++ [pairD d]) ++ rest.map pairD := by simp
    have step : ∀ (ds : List D) (x4 x5 : Option D), alks ds = true → sizes ds + 1 = d.size → ∃ e' ps, whlR (evT W alikeC) (fun e S => evSs W alikeB e S) [some f0, some f1, some (.obj S.length), some (.int ((done.length : Int) + 1)), x4, x5] (S ++ [.lst (done ++ pairD d :: (rest.map pairD ++ ds.map pairD))]) = .ok (.nx e') (S ++ [.lst ps]) := by
      intro ds x4 x5 h1 h2
      have := alike_loop (W := W) (S := S) (f0 := f0) (f1 := f1) m (done ++ [pairD d]) (rest ++ ds) x4 x5 (by rw [sizes_app]; omega) (alks_app ha'.2 h1) (by simp only [List.length_append, List.length_singleton]; rw [sizes_app]; omega)
      simpa using this
    rw [whlR_eq]
    have hc : evT W alikeC [some f0, some f1, some (.obj S.length), some (.int done.length), x4, x5] (S ++ [.lst (done ++ (d :: rest).map pairD)]) = .ok true (S ++ [.lst (done ++ (d :: rest).map pairD)]) := by
      simp only [alikeC, evT, evE, evA, bOk, biop, asLst, cmpop, List.getElem?_cons_zero, List.getElem?_cons_succ, get_last, Option.map_some, optR_some, List.length_append, List.length_map, List.length_cons]
      rw [decide_eq_true hlt]
    rw [hc, bOk, if_pos rfl]
    have fin : ∀ (ds : List D), alks ds = true → sizes ds + 1 = d.size → evSs W alikeB [some f0, some f1, some (.obj S.length), some (.int done.length), x4, x5] (S ++ [.lst (done ++ (d :: rest).map pairD)]) = .ok (.nx [some f0, some f1, some (.obj S.length), some (.int ((done.length : Int) + 1)), some d, some d]) (S ++ [.lst (done ++ pairD d :: (rest.map pairD ++ ds.map pairD))]) →
      ∃ e' ps, ((evSs W alikeB [some f0, some f1, some (.obj S.length), some (.int done.length), x4, x5] (S ++ [.lst (done ++ (d :: rest).map pairD)])).bind fun fl S2 => match fl with
        | .nx e' => whlR (evT W alikeC) (fun e S => evSs W alikeB e S) e' S2
        | .ct e' => whlR (evT W alikeC) (fun e S => evSs W alikeB e S) e' S2
        | .bk e' => .ok (.nx e') S2
        | .rt d => .ok (.rt d) S2) = .ok (.nx e') (S ++ [.lst ps]) := by
      intro ds h1 h2 q
      rw [q, bOk]
      exact step ds _ _ h1 h2
    have hat : atI (done ++ (d :: rest).map pairD) (done.length : Int) = some (.tup [d, d]) := by
      rw [List.map_cons]; exact atI_app
    have env : ∀ b : Bool, cmpop .ne (.bl b) (.bl b) = some false := fun b => by cases b <;> rfl
    have tst : ∀ (ts : List Ty) (b : Bool) (y4 y5 : D) (S' : Store) (i : Int), isTys S' y4 ts = some b → isTys S' y5 ts = some b → evT W (.cmp .ne (.isi (.var 4) ts) (.isi (.var 5) ts)) [some f0, some f1, some (.obj S.length), some (.int i), some y4, some y5] S' = .ok false S' := fun ts b y4 y5 S' i h4 h5 =>
      t_cmp (e_isi (e_var rfl) h4) (e_isi (e_var rfl) h5) (env b)
    have body : ∀ {ps' : List D} (R : Rs Fl) (b1 b2 b3 : Bool), isTys (S ++ [.lst (done ++ (d :: rest).map pairD)]) d [.bool] = some b1 → isTys (S ++ [.lst (done ++ (d :: rest).map pairD)]) d [.str] = some b2 → isTys (S ++ [.lst (done ++ (d :: rest).map pairD)]) d [.tuple, .list] = some b3 →
        evS W (.ifs (.tst (.isi (.var 4) [.tuple, .list])) (.cons (.ifs (.or (.cmp .ne (.isi (.var 4) [.tuple]) (.isi (.var 5) [.tuple])) (.cmp .ne (.cB .len (.cons (.var 4) .nil)) (.cB .len (.cons (.var 5) .nil)))) (.cons (.ret (.cst (.bl false))) .nil) .nil) (.cons (.exp (.ext (.var 2) (.zipl (.cons (.var 4) (.cons (.var 5) .nil))))) .nil)) (.cons (.ifs (.cmp .ne (.var 4) (.var 5)) (.cons (.ret (.cst (.bl false))) .nil) .nil) .nil)) [some f0, some f1, some (.obj S.length), some (.int ((done.length : Int) + 1)), some d, some d] (S ++ [.lst (done ++ (d :: rest).map pairD)]) = R →
        R = .ok (.nx [some f0, some f1, some (.obj S.length), some (.int ((done.length : Int) + 1)), some d, some d]) (S ++ [.lst ps']) →
        evSs W alikeB [some f0, some f1, some (.obj S.length), some (.int done.length), x4, x5] (S ++ [.lst (done ++ (d :: rest).map pairD)]) = .ok (.nx [some f0, some f1, some (.obj S.length), some (.int ((done.length : Int) + 1)), some d, some d]) (S ++ [.lst ps']) := by
      intro ps' R b1 b2 b3 h1 h2 h3 h4 h5
      unfold alikeB
      refine ss_nx (st_asg (e' := [some f0, some f1, some (.obj S.length), some (.int (done.length : Int)), some d, some d]) (d := .tup [d, d]) (e_ixo (m := S.length) (n := (done.length : Int)) (e_var rfl) (e_var rfl) get_last hat) rfl) ?_
      refine ss_nx (st_aug (d := .int (done.length : Int)) (d1 := .int 1) (d2 := .int ((done.length : Int) + 1)) rfl e_cst rfl) ?_
      refine ss_nx (st_if0 (t_orf (tst _ _ _ _ _ _ h1 h1) (tst _ _ _ _ _ _ h2 h2))) ?_
      refine ss_nx (st_if0 (tst _ _ _ _ _ _ h3 h3)) ?_
      exact ss_nx (h4.trans h5) ss_nil
    have leaf : isTys (S ++ [.lst (done ++ (d :: rest).map pairD)]) d [.tuple, .list] = some false → cmpop .ne d d = some false →
        evS W (.ifs (.tst (.isi (.var 4) [.tuple, .list])) (.cons (.ifs (.or (.cmp .ne (.isi (.var 4) [.tuple]) (.isi (.var 5) [.tuple])) (.cmp .ne (.cB .len (.cons (.var 4) .nil)) (.cB .len (.cons (.var 5) .nil)))) (.cons (.ret (.cst (.bl false))) .nil) .nil) (.cons (.exp (.ext (.var 2) (.zipl (.cons (.var 4) (.cons (.var 5) .nil))))) .nil)) (.cons (.ifs (.cmp .ne (.var 4) (.var 5)) (.cons (.ret (.cst (.bl false))) .nil) .nil) .nil)) [some f0, some f1, some (.obj S.length), some (.int ((done.length : Int) + 1)), some d, some d] (S ++ [.lst (done ++ (d :: rest).map pairD)]) = .ok (.nx [some f0, some f1, some (.obj S.length), some (.int ((done.length : Int) + 1)), some d, some d]) (S ++ [.lst (done ++ (d :: rest).map pairD)]) := fun h1 h2 =>
      st_iff (t_tst (e_isi (e_var rfl) h1) rfl) (ss_nx (st_if0 (t_cmp (e_var rfl) (e_var rfl) h2)) ss_nil)
    have seqc : ∀ (b : Bool) (ds : List D) (n : Int), isTys (S ++ [.lst (done ++ (d :: rest).map pairD)]) d [.tuple, .list] = some true → isTys (S ++ [.lst (done ++ (d :: rest).map pairD)]) d [.tuple] = some b → biop (S ++ [.lst (done ++ (d :: rest).map pairD)]) .len [d] = some (.int n) →
        zipop (S ++ [.lst (done ++ (d :: rest).map pairD)]) [d, d] = some (.lst (ds.map pairD)) → done.length + (rest.length + 1) + ds.length ≤ SZ →
        evS W (.ifs (.tst (.isi (.var 4) [.tuple, .list])) (.cons (.ifs (.or (.cmp .ne (.isi (.var 4) [.tuple]) (.isi (.var 5) [.tuple])) (.cmp .ne (.cB .len (.cons (.var 4) .nil)) (.cB .len (.cons (.var 5) .nil)))) (.cons (.ret (.cst (.bl false))) .nil) .nil) (.cons (.exp (.ext (.var 2) (.zipl (.cons (.var 4) (.cons (.var 5) .nil))))) .nil)) (.cons (.ifs (.cmp .ne (.var 4) (.var 5)) (.cons (.ret (.cst (.bl false))) .nil) .nil) .nil)) [some f0, some f1, some (.obj S.length), some (.int ((done.length : Int) + 1)), some d, some d] (S ++ [.lst (done ++ (d :: rest).map pairD)]) = .ok (.nx [some f0, some f1, some (.obj S.length), some (.int ((done.length : Int) + 1)), some d, some d]) (S ++ [.lst (done ++ (d :: rest).map pairD ++ ds.map pairD)]) := by
      intro b ds n h1 h2 h3 h4 h5
      refine st_ift (t_tst (e_isi (e_var rfl) h1) rfl) (ss_nx (st_if0 (t_orf (tst _ _ _ _ _ _ h2 h2) (t_cmp (e_cB (a_cons (e_var rfl) a_nil) h3) (e_cB (a_cons (e_var rfl) a_nil) h3) ?_))) (ss_nx (st_exp (d := .non) ?_) ss_nil))
      · simp [cmpop, D.dat, D.flat, D.eqv]
      · have := e_ext (W := W) (a := .var 2) (b := .zipl (.cons (.var 4) (.cons (.var 5) .nil))) (e := [some f0, some f1, some (.obj S.length), some (.int ((done.length : Int) + 1)), some d, some d]) (S := S ++ [.lst (done ++ (d :: rest).map pairD)]) (e_var rfl) ⟨_, get_last⟩ (e_zipl (a_cons (e_var rfl) (a_cons (e_var rfl) a_nil)) h4) get_last (by simp; simpa [Nat.add_assoc] using h5)
        rw [set_last] at this
        exact this
    cases d with
    | rol ds => simp [D.alk] at ha'
    | obj r => simp [D.alk] at ha'
    | edic => simp [D.alk] at ha'
    | non => exact fin [] rfl rfl (by simpa [pairD] using body _ false false false rfl rfl rfl (leaf rfl rfl) rfl)
    | bl b => exact fin [] rfl rfl (by simpa [pairD] using body _ true false false rfl rfl rfl (leaf rfl (env b)) rfl)
    | int b => exact fin [] rfl rfl (by simpa [pairD] using body _ false false false rfl rfl rfl (leaf rfl (by simp [cmpop, D.dat, D.flat, D.eqv])) rfl)
    | str b => exact fin [] rfl rfl (by simpa [pairD] using body _ false true false rfl rfl rfl (leaf rfl (by simp [cmpop, D.dat, D.flat, D.eqv])) rfl)
    | tup ds =>
      have ha2 : alks ds = true := by simpa [D.alk] using ha'.1
      have hz : sizes ds + 1 = (D.tup ds).size := by simp [D.size]; omega
      have hl2 : ds.length ≤ sizes ds := len_le_sizes ds
      have hle : done.length + (rest.length + 1) + ds.length ≤ SZ := by have : sizes (D.tup ds :: rest) = (1 + sizes ds) + sizes rest := rfl; omega
      refine fin ds ha2 hz ?_
      have := body _ false false true rfl rfl rfl (seqc true ds ds.length rfl rfl rfl (by simp [zipop, asLst, zipD_self]; exact fun _ _ => rfl) hle) rfl
      simpa [pairD] using this
    | lst ds =>
      have ha2 : alks ds = true := by simpa [D.alk] using ha'.1
      have hz : sizes ds + 1 = (D.lst ds).size := by simp [D.size]; omega
      have hl2 : ds.length ≤ sizes ds := len_le_sizes ds
      have hle : done.length + (rest.length + 1) + ds.length ≤ SZ := by have : sizes (D.lst ds :: rest) = (1 + sizes ds) + sizes rest := rfl; omega
      refine fin ds ha2 hz ?_
      have := body _ false false true rfl rfl rfl (seqc false ds ds.length rfl rfl rfl (by simp [zipop, asLst, zipD_self]; exact fun _ _ => rfl) hle) rfl
      simpa [pairD] using this
theorem alike_true {T : String → Option Fn} {con : String → Option D} {f : String} {k : Nat} {S : Store} {d : D} (hT : T f = some ⟨2, 6, alikeA⟩) (ha : d.alk = true) (hs : d.size ≤ SZ) : callN T con (k + 1) f [d, d] S = .ok (.bl true) S := by
  rw [call_eq hT rfl]
  obtain ⟨e', ps, h⟩ := alike_loop (W := ⟨callN T con k, con⟩) (S := S) (f0 := d) (f1 := d) d.size [] [d] none none (by simp [sizes]) (by simp [alks, ha]) (by simpa [sizes] using hs)
  have h : whlR (evT ⟨callN T con k, con⟩ alikeC) (fun e S => evSs ⟨callN T con k, con⟩ alikeB e S) [some d, some d, some (.obj S.length), some (.int 0), none, none] (S ++ [.lst [.tup [d, d]]]) = .ok (.nx e') (S ++ [.lst ps]) := by simpa [pairD] using h
  simp [-Rs.bind, SZ, alikeA, evSs, evS, evE, evA, bOk, h, fin, retn, D.lim, trunc_junk]
end PyI

set_option maxRecDepth 100000
set_option maxHeartbeats 1000000
namespace PyI
open PySem L2
theorem trunc_len {S S' : Store} {b : Bool} (h : S'.length = S.length) : trunc S b S' = S' := by
  unfold trunc
  split
  · rw [← h, List.take_length]
  · rfl
theorem call_rt {T : String → Option Fn} {con : String → Option D} {k : Nat} {f : String} {fd : Fn} {ds : List D} {d : D} {S S' : Store} (h : T f = some fd) (hl : ds.length = fd.np)
    (hb : evSs ⟨callN T con k, con⟩ fd.body (ds.map some ++ List.replicate (fd.n - ds.length) none) S = .ok (.rt d) S') (hs : S'.length = S.length) : callN T con (k + 1) f ds S = .ok d S' := by
  rw [call_eq h hl, hb]
  show retn S d S' = _
  unfold retn
  rw [trunc_len hs]
/-! ## draws -/
def bagOf (a b c : Int) (cs : List Int) : Store := [.lst [.int a, .int b, .int c, .lst (cs.map .int)]]
structure Bag (S : Store) : Prop where
  ex : ∃ (a b c : Int) (cs : List Int), 0 ≤ a ∧ 0 ≤ b ∧ 0 ≤ c ∧ cs.length ≤ 63 ∧ (∀ x ∈ cs, 0 ≤ x) ∧ S = bagOf a b c cs
theorem Bag.len {S : Store} (h : Bag S) : S.length = 1 := by
  obtain ⟨_, _, _, _, _, _, _, _, _, rfl⟩ := h.ex
  rfl
def takeC1 : Tx := (.cmp .eq (.ix (.var 0) (.cst (.int 0))) (.cst (.int 0)))
def takeA : Sms := (.cons (.ifs (.cmp .eq (.ix (.var 0) (.cst (.int 0))) (.cst (.int 0))) (.cons (.asg (.nm 2) (.ix (.bin .add (.sl (.ix (.var 0) (.cst (.int 3))) (.so (.ix (.var 0) (.cst (.int 2)))) .no) (.lst (.cons (.cst (.int 0)) .nil))) (.cst (.int 0)))) (.cons (.augs (.var 0) (.cst (.int 2)) .add (.cst (.int 1))) (.cons (.ifs (.cmp .ge (.var 2) (.bin .pow (.cst (.int 10)) (.cst (.int 18)))) (.cons (.sto (.var 0) (.cst (.int 0)) (.var 2)) .nil) .nil) (.cons (.asg (.nm 3) (.bin .add (.bin .add (.bin .mul (.ix (.var 0) (.cst (.int 1))) (.cst (.int 48271))) (.bin .mod (.cB .int (.cons (.var 2) .nil)) (.cst (.int 2147483647)))) (.bin .mul (.cst (.int 7919)) (.ix (.var 0) (.cst (.int 2)))))) (.cons (.sto (.var 0) (.cst (.int 1)) (.bin .mod (.cB .int (.cons (.var 3) .nil)) (.cst (.int 2147483647)))) .nil))))) .nil) (.cons (.ifs (.cmp .gt (.ix (.var 0) (.cst (.int 0))) (.cst (.int 0))) (.cons (.asg (.nm 4) (.bin .mod (.cB .int (.cons (.ix (.var 0) (.cst (.int 0))) .nil)) (.var 1))) (.cons (.sto (.var 0) (.cst (.int 0)) (.bin .fdiv (.cB .int (.cons (.ix (.var 0) (.cst (.int 0))) .nil)) (.var 1))) (.cons (.ret (.var 4)) .nil))) .nil) (.cons (.asg (.nm 5) (.bin .mod (.cB .int (.cons (.bin .mul (.bin .add (.ix (.var 0) (.cst (.int 1))) (.cst (.int 1))) (.cst (.int 39373))) .nil)) (.cst (.int 1000000007)))) (.cons (.asg (.nm 6) (.bin .mod (.cB .int (.cons (.bin .mul (.bin .mod (.cB .int (.cons (.bin .mul (.var 5) (.var 5)) .nil)) (.cst (.int 998244353))) (.cst (.int 30011))) .nil)) (.cst (.int 998244353)))) (.cons (.ret (.bin .mod (.cB .int (.cons (.bin .fdiv (.var 6) (.cst (.int 7))) .nil)) (.var 1))) .nil)))))
def bagA : Sms := (.cons (.ret (.mls (.cons (.cst (.int 0)) (.cons (.cst (.int 1234567891)) (.cons (.cst (.int 0)) (.cons (.comp [1] (.cB .abs (.cons (.var 1) .nil)) (.nm 1) (.seq (.sl (.var 0) .no (.so (.cst (.int 63))))) .yes) .nil)))))) .nil)
def someA : Sms := (.cons (.ret (.ix (.var 1) (.cF "_law_take" (.cons (.var 0) (.cons (.cB .len (.cons (.var 1) .nil)) .nil))))) .nil)
theorem cut_len {α : Type} (xs : List α) (lo hi : Option Int) : (cut xs lo hi).length ≤ xs.length := by
  unfold cut; simp; omega
theorem cut_mem {α : Type} {xs : List α} {lo hi : Option Int} {x : α} (h : x ∈ cut xs lo hi) : x ∈ xs := List.mem_of_mem_drop (List.mem_of_mem_take h)
theorem cell_of {cs : List Int} (hp : ∀ x ∈ cs, 0 ≤ x) (lo hi : Option Int) : ∃ v : Int, 0 ≤ v ∧ atI (cut (cs.map D.int) lo hi ++ [.int 0]) 0 = some (.int v) := by
  have key : ∀ l : List D, (∀ d ∈ l, ∃ v : Int, 0 ≤ v ∧ d = .int v) → ∃ v : Int, 0 ≤ v ∧ atI (l ++ [.int 0]) 0 = some (.int v) := by
    intro l hl
    cases l with
    | nil => exact ⟨0, by decide, rfl⟩
    | cons d l =>
      obtain ⟨v, h1, rfl⟩ := hl d List.mem_cons_self
      refine ⟨v, h1, ?_⟩
      have := atI_app (a := []) (b := l ++ [.int 0]) (x := D.int v)
      simpa using this
  refine key _ fun d hd => ?_
  obtain ⟨x, hx, rfl⟩ := List.mem_map.mp (cut_mem hd)
  exact ⟨x, hp x hx, rfl⟩
section
variable {W : Wd} {m : Int} {a b c : Int} {cs : List Int}
theorem mul_l {i j : Int} (h : i.natAbs < 2 ^ 64) : binop .mul (.int i) (.int j) = some (.int (i * j)) := by
  show (if _ then _ else _) = _
  rw [if_pos (.inl h)]
theorem mul_r {i j : Int} (h : j.natAbs < 2 ^ 64) : binop .mul (.int i) (.int j) = some (.int (i * j)) := by
  show (if _ then _ else _) = _
  rw [if_pos (.inr h)]
theorem pow_ok {i j : Int} (h : 0 ≤ j) (h1 : j ≤ 1000000) (h2 : i.natAbs < 2 ^ 64) : binop .pow (.int i) (.int j) = some (.int (i ^ j.toNat)) := by
  show (if _ then _ else _) = _
  rw [if_pos ⟨h, h1, h2⟩]
theorem i_seq {e : Env} {S S1 : Store} {x : Ex} {d : D} {s : Src} (h : evE W x e S = .ok d S1) (k : srcOf S1 d = some s) : evI W (.seq x) e S = .ok s S1 := by
  show (evE W x e S).bind _ = _
  rw [h]
  show optR (srcOf S1 d) S1 = _
  rw [k]; rfl
theorem i_rng {e : Env} {S S1 : Store} {x : Ex} {n : Int} (h : evE W x e S = .ok (.int n) S1) (k : small62 n = true) : evI W (.rng x) e S = .ok (itInts 0 n.toNat, none) S1 := by
  show (evE W x e S).bind _ = _
  rw [h]
  show (if small62 n then _ else _) = _
  rw [if_pos k]
theorem atI_of {α : Type} {ds : List α} {v : Int} (h : 0 ≤ v) (hl : v.toNat < ds.length) : atI ds v = some ds[v.toNat] := by
  have e : v = (v.toNat : Int) := by omega
  have : ds = ds.take v.toNat ++ ds[v.toNat] :: ds.drop (v.toNat + 1) := by simp
  unfold atI ixN
  have h5 : ¬ v < 0 := by omega
  have h6 : v < (ds.length : Int) := by omega
  simp [h5, h6, h, hl]
theorem eq_int (i j : Int) : cmpop .eq (.int i) (.int j) = some (i == j) := rfl
theorem take_1 (hb : 0 ≤ b) (hc : 0 ≤ c) (hl : cs.length ≤ 63) (hp : ∀ x ∈ cs, 0 ≤ x) {x2 x3 : Option D} (r : Sms) (s : Sm) (hs : takeA = .cons s r) (ha : 0 ≤ a) :
    ∃ (a' b' c' : Int) (y2 y3 : Option D), 0 ≤ a' ∧ 0 ≤ b' ∧ 0 ≤ c' ∧ evS W s [some (.obj 0), some (.int m), x2, x3, none, none, none] (bagOf a b c cs) = .ok (.nx [some (.obj 0), some (.int m), y2, y3, none, none, none]) (bagOf a' b' c' cs) := by
  unfold takeA at hs
  injection hs with hs hr
  subst hs
  by_cases h0 : a = 0
  · subst h0
    obtain ⟨v, hv, hv2⟩ := cell_of hp (some c) none
    have hcut : (cut (cs.map D.int) (some c) none).length + 1 ≤ SZ := by
      have := cut_len (cs.map D.int) (some c) none
      rw [List.length_map] at this
      show _ ≤ 16777216
      omega
    have hc1 : evT W (.cmp .eq (.ix (.var 0) (.cst (.int 0))) (.cst (.int 0))) [some (.obj 0), some (.int m), x2, x3, none, none, none] (bagOf 0 b c cs) = .ok true (bagOf 0 b c cs) := t_cmp (e_ixo (n := 0) (d := .int 0) (e_var rfl) e_cst rfl rfl) e_cst rfl
    have h1 : ∀ {y3 : Option D} {a1 b1 : Int}, evSs W (.cons (.asg (.nm 3) (.bin .add (.bin .add (.bin .mul (.ix (.var 0) (.cst (.int 1))) (.cst (.int 48271))) (.bin .mod (.cB .int (.cons (.var 2) .nil)) (.cst (.int 2147483647)))) (.bin .mul (.cst (.int 7919)) (.ix (.var 0) (.cst (.int 2)))))) (.cons (.sto (.var 0) (.cst (.int 1)) (.bin .mod (.cB .int (.cons (.var 3) .nil)) (.cst (.int 2147483647)))) .nil)) [some (.obj 0), some (.int m), some (.int v), y3, none, none, none] (bagOf a1 b1 (c + 1) cs) =
        .ok (.nx [some (.obj 0), some (.int m), some (.int v), some (.int (b1 * 48271 + v % 2147483647 + 7919 * (c + 1))), none, none, none]) (bagOf a1 ((b1 * 48271 + v % 2147483647 + 7919 * (c + 1)) % 2147483647) (c + 1) cs) := by
      intro y3 a1 b1
      refine ss_nx (st_asg (d := .int (b1 * 48271 + v % 2147483647 + 7919 * (c + 1))) (e_bin (d := .int (b1 * 48271 + v % 2147483647)) (d1 := .int (7919 * (c + 1))) (e_bin (d := .int (b1 * 48271)) (d1 := .int (v % 2147483647)) (e_bin (d := .int b1) (d1 := .int 48271) (e_ixo (n := 1) (e_var rfl) e_cst rfl rfl) e_cst ?_) (e_bin (d := .int v) (d1 := .int 2147483647) (e_cB (a_cons (e_var rfl) a_nil) rfl) e_cst rfl) rfl) (e_bin (d := .int 7919) (d1 := .int (c + 1)) e_cst (e_ixo (n := 2) (e_var rfl) e_cst rfl rfl) ?_) rfl) rfl) ?_
      · exact mul_r (by decide)
      · exact mul_l (by decide)
      refine ss_nx (st_sto (n := 1) (l := 1) (d := .int ((b1 * 48271 + v % 2147483647 + 7919 * (c + 1)) % 2147483647)) (e_bin (d := .int (b1 * 48271 + v % 2147483647 + 7919 * (c + 1))) (d1 := .int 2147483647) (e_cB (a_cons (e_var rfl) a_nil) rfl) e_cst rfl) (e_var rfl) e_cst rfl rfl) ss_nil
    have h3 : evE W (.ix (.bin .add (.sl (.ix (.var 0) (.cst (.int 3))) (.so (.ix (.var 0) (.cst (.int 2)))) .no) (.lst (.cons (.cst (.int 0)) .nil))) (.cst (.int 0))) [some (.obj 0), some (.int m), x2, x3, none, none, none] (bagOf 0 b c cs) = .ok (.int v) (bagOf 0 b c cs) := by
      refine e_ixl (n := 0) (e_bin (d := .lst (cut (cs.map D.int) (some c) none)) (d1 := .lst [.int 0]) (e_slt (d := .lst (cs.map D.int)) (e_ixo (n := 3) (e_var rfl) e_cst rfl rfl) (o_so (e_ixo (n := 2) (d := .int c) (e_var rfl) e_cst rfl rfl)) o_no (fun r h => by cases h) rfl) (e_lst (a_cons e_cst a_nil) (by decide)) ?_) e_cst hv2
      show (if _ then _ else _) = _
      rw [if_pos (show _ + [D.int 0].length ≤ SZ from hcut)]
    have h4 : evS W (.augs (.var 0) (.cst (.int 2)) .add (.cst (.int 1))) [some (.obj 0), some (.int m), some (.int v), x3, none, none, none] (bagOf 0 b c cs) = .ok (.nx [some (.obj 0), some (.int m), some (.int v), x3, none, none, none]) (bagOf 0 b (c + 1) cs) :=
      st_augs (S1 := bagOf 0 b c cs) (S2 := bagOf 0 b c cs) (ds := [.int 0, .int b, .int c, .lst (cs.map .int)]) (m := 0) (n := 2) (l := 2) (d := .int c) (d1 := .int 1) (d2 := .int (c + 1)) (e_var rfl) e_cst rfl rfl e_cst rfl rfl
    have h6 : ∃ a1, 0 ≤ a1 ∧ evS W (.ifs (.cmp .ge (.var 2) (.bin .pow (.cst (.int 10)) (.cst (.int 18)))) (.cons (.sto (.var 0) (.cst (.int 0)) (.var 2)) .nil) .nil) [some (.obj 0), some (.int m), some (.int v), x3, none, none, none] (bagOf 0 b (c + 1) cs) = .ok (.nx [some (.obj 0), some (.int m), some (.int v), x3, none, none, none]) (bagOf a1 b (c + 1) cs) := by
      have hge : evT W (.cmp .ge (.var 2) (.bin .pow (.cst (.int 10)) (.cst (.int 18)))) [some (.obj 0), some (.int m), some (.int v), x3, none, none, none] (bagOf 0 b (c + 1) cs) = .ok (decide ((10 : Int) ^ (18 : Nat) ≤ v)) (bagOf 0 b (c + 1) cs) := by
        refine t_cmp (d := .int v) (d1 := .int ((10 : Int) ^ (18 : Nat))) (e_var rfl) (e_bin (d := .int 10) (d1 := .int 18) e_cst e_cst (pow_ok (j := 18) (by decide) (by decide) (by decide))) rfl
      cases q : decide ((10 : Int) ^ (18 : Nat) ≤ v) with
      | true =>
        rw [q] at hge
        exact ⟨v, hv, st_ift hge (ss_nx (st_sto (n := 0) (l := 0) (d := .int v) (e_var rfl) (e_var rfl) e_cst rfl rfl) ss_nil)⟩
      | false =>
        rw [q] at hge
        exact ⟨0, Int.le_refl _, st_if0 hge⟩
    obtain ⟨a1, ha1, h6⟩ := h6
    refine ⟨a1, _, c + 1, some (.int v), _, ha1, ?_, by omega, st_ift hc1 (ss_nx (st_asg h3 rfl) (ss_nx h4 (ss_nx h6 h1)))⟩
    exact Int.emod_nonneg _ (by decide)
  · refine ⟨a, b, c, x2, x3, ha, hb, hc, st_if0 (t_cmp (e_ixo (n := 0) (d := .int a) (e_var rfl) e_cst rfl rfl) e_cst ?_)⟩
    rw [eq_int, beq_eq_false_iff_ne.mpr h0]
end
theorem take_ok {T : String → Option Fn} {con : String → Option D} {f : String} {k : Nat} {S : Store} {m : Int} (hT : T f = some ⟨2, 7, takeA⟩) (hm : 0 < m) (hm2 : m < 1073741824) (hB : Bag S) :
    ∃ (v : Int) (S' : Store), callN T con (k + 1) f [.obj 0, .int m] S = .ok (.int v) S' ∧ Bag S' ∧ 0 ≤ v ∧ v < m := by
  obtain ⟨a, b, c, cs, ha, hb, hc, hl, hp, rfl⟩ := hB.ex
  cases ht : takeA with
  | nil => unfold takeA at ht; cases ht
  | cons s r =>
    obtain ⟨a1, b1, c1, y2, y3, ha1, hb1, hc1, h1⟩ := take_1 (W := ⟨callN T con k, con⟩) (m := m) (x2 := none) (x3 := none) hb hc hl hp r s ht ha
    unfold takeA at ht
    injection ht with hs hr
    have hr2 := hr
    subst hr
    have mod : ∀ {x : Int}, 0 ≤ x % m ∧ x % m < m := fun {x} => ⟨Int.emod_nonneg _ (by omega), Int.emod_lt_of_pos _ hm⟩
    by_cases hpos : 0 < a1
    · refine ⟨a1 % m, bagOf (a1 / m) b1 c1 cs, ?_, ⟨_, _, _, cs, Int.ediv_nonneg ha1 (by omega), hb1, hc1, hl, hp, rfl⟩, mod.1, mod.2⟩
      refine call_rt hT rfl ?_ rfl
      show evSs _ takeA _ _ = _
      unfold takeA
      rw [hs]
      refine ss_nx h1 (ss_rt (st_ift (t_cmp (d := .int a1) (d1 := .int 0) (e_ixo (n := 0) (e_var rfl) e_cst rfl rfl) e_cst ?_) (ss_nx (st_asg (d := .int (a1 % m)) (e_bin (d := .int a1) (d1 := .int m) (e_cB (a_cons (e_ixo (n := 0) (d := .int a1) (e_var rfl) e_cst rfl rfl) a_nil) rfl) (e_var rfl) ?_) rfl) (ss_nx (st_sto (n := 0) (l := 0) (d := .int (a1 / m)) (e_bin (d := .int a1) (d1 := .int m) (e_cB (a_cons (e_ixo (n := 0) (d := .int a1) (e_var rfl) e_cst rfl rfl) a_nil) rfl) (e_var rfl) ?_) (e_var rfl) e_cst rfl rfl) (ss_rt (st_ret (e_var rfl)))))))
      · show some (decide ((0 : Int) < a1)) = _
        rw [decide_eq_true hpos]
      · show (if _ then _ else _) = _
        rw [if_pos hm]
      · show (if _ then _ else _) = _
        rw [if_pos ⟨hm, hm2⟩]
    · refine ⟨_, bagOf a1 b1 c1 cs, ?_, ⟨a1, b1, c1, cs, ha1, hb1, hc1, hl, hp, rfl⟩, (mod (x := ((((b1 + 1) * 39373 % 1000000007) * ((b1 + 1) * 39373 % 1000000007) % 998244353 * 30011) % 998244353) / 7)).1, mod.2⟩
      refine call_rt hT rfl ?_ rfl
      show evSs _ takeA _ _ = _
      unfold takeA
      rw [hs]
      refine ss_nx h1 (ss_nx (st_if0 (t_cmp (d := .int a1) (d1 := .int 0) (e_ixo (n := 0) (e_var rfl) e_cst rfl rfl) e_cst ?_)) (ss_nx (st_asg (d := .int ((b1 + 1) * 39373 % 1000000007)) (e_bin (d := .int ((b1 + 1) * 39373)) (d1 := .int 1000000007) (e_cB (ds := [.int ((b1 + 1) * 39373)]) (a_cons (e_bin (d := .int (b1 + 1)) (d1 := .int 39373) (e_bin (d := .int b1) (d1 := .int 1) (e_ixo (n := 1) (e_var rfl) e_cst rfl rfl) e_cst rfl) e_cst ?_) a_nil) rfl) e_cst rfl) rfl)
        (ss_nx (st_asg (d := .int ((((b1 + 1) * 39373 % 1000000007) * ((b1 + 1) * 39373 % 1000000007) % 998244353 * 30011) % 998244353)) (e_bin (d := .int (((b1 + 1) * 39373 % 1000000007) * ((b1 + 1) * 39373 % 1000000007) % 998244353 * 30011)) (d1 := .int 998244353) (e_cB (ds := [.int (((b1 + 1) * 39373 % 1000000007) * ((b1 + 1) * 39373 % 1000000007) % 998244353 * 30011)]) (a_cons (e_bin (d := .int (((b1 + 1) * 39373 % 1000000007) * ((b1 + 1) * 39373 % 1000000007) % 998244353)) (d1 := .int 30011) (e_bin (d := .int (((b1 + 1) * 39373 % 1000000007) * ((b1 + 1) * 39373 % 1000000007))) (d1 := .int 998244353) (e_cB (ds := [.int (((b1 + 1) * 39373 % 1000000007) * ((b1 + 1) * 39373 % 1000000007))]) (a_cons (e_bin (d := .int ((b1 + 1) * 39373 % 1000000007)) (d1 := .int ((b1 + 1) * 39373 % 1000000007)) (e_var rfl) (e_var rfl) ?_) a_nil) rfl) e_cst rfl) e_cst ?_) a_nil) rfl) e_cst rfl) rfl)
          (ss_rt (st_ret (e_bin (d := .int (((((b1 + 1) * 39373 % 1000000007) * ((b1 + 1) * 39373 % 1000000007) % 998244353 * 30011) % 998244353) / 7)) (d1 := .int m) (e_cB (a_cons (e_bin (d := .int ((((b1 + 1) * 39373 % 1000000007) * ((b1 + 1) * 39373 % 1000000007) % 998244353 * 30011) % 998244353)) (d1 := .int 7) (e_var rfl) e_cst rfl) a_nil) rfl) (e_var rfl) ?_))))))
      · show some (decide ((0 : Int) < a1)) = _
        rw [decide_eq_false hpos]
      · exact mul_r (by decide)
      · refine mul_l ?_
        have g1 : 0 ≤ (b1 + 1) * 39373 % 1000000007 := Int.emod_nonneg _ (by decide)
        have g2 : (b1 + 1) * 39373 % 1000000007 < 1000000007 := Int.emod_lt_of_pos _ (by decide)
        have g3 : (2 : Nat) ^ 64 = 18446744073709551616 := by decide
        omega
      · exact mul_r (by decide)
      · show (if _ then _ else _) = _
        rw [if_pos hm]
theorem some_ok {T : String → Option Fn} {con : String → Option D} {f : String} {k : Nat} {S : Store} {ds : List D} (hT : T f = some ⟨2, 2, someA⟩) (hT2 : T "_law_take" = some ⟨2, 7, takeA⟩) (h0 : ds ≠ []) (hl : ds.length < 1073741824) (hB : Bag S) :
    ∃ (d : D) (S' : Store), callN T con (k + 2) f [.obj 0, .lst ds] S = .ok d S' ∧ Bag S' ∧ d ∈ ds := by
  have hpos : 0 < ds.length := List.length_pos_iff.mpr h0
  obtain ⟨v, S', h1, h2, h3, h4⟩ := take_ok (T := T) (con := con) (f := "_law_take") (k := k) (S := S) (m := (ds.length : Int)) hT2 (by omega) (by omega) hB
  have hv : v.toNat < ds.length := by omega
  refine ⟨ds[v.toNat], S', ?_, h2, List.getElem_mem hv⟩
  refine call_rt hT rfl ?_ (by rw [h2.len, hB.len])
  show evSs _ someA _ _ = _
  unfold someA
  refine ss_rt (st_ret (e_ixl (n := v) (ds := ds) (e_var rfl) (e_cF (ds := [.obj 0, .int ds.length]) (a_cons (e_var rfl) (a_cons (e_cB (a_cons (e_var rfl) a_nil) rfl) a_nil)) h1) ?_))
  exact atI_of h3 hv
theorem bag_ok {T : String → Option Fn} {con : String → Option D} {f : String} {k : Nat} {ns : List Int} (hT : T f = some ⟨1, 2, bagA⟩) (hl : ns.length ≤ 63) : ∃ S', callN T con (k + 1) f [.rol (ns.map D.int)] [] = .ok (.obj 0) S' ∧ Bag S' := by
  have hc : evE ⟨callN T con k, con⟩ (.comp [1] (.cB .abs (.cons (.var 1) .nil)) (.nm 1) (.seq (.sl (.var 0) .no (.so (.cst (.int 63))))) .yes) [some (.rol (ns.map D.int)), none] [] =
      .ok (.lst ((cut (ns.map D.int) none (some 63)).map fun d => match d with | .int i => .int (if i < 0 then -i else i) | d => d)) [] := by
    refine comp_map ?_ ?_ fun x hx => ?_
    · exact i_seq (e_slt (d := .rol (ns.map D.int)) (l := none) (u := some 63) (e_var rfl) o_no (o_so e_cst) (fun r h => by cases h) rfl) rfl
    · have := cut_len (ns.map D.int) none (some 63)
      rw [List.length_map] at this
      show _ ≤ 16777216
      omega
    · obtain ⟨i, hi, rfl⟩ := List.mem_map.mp (cut_mem hx)
      exact ⟨_, rfl, e_cB (a_cons (e_var rfl) a_nil) rfl⟩
  refine ⟨_, ?_, ⟨0, 1234567891, 0, (cut ns none (some 63)).map fun i => if i < 0 then -i else i, Int.le_refl _, by decide, Int.le_refl _, ?_, ?_, rfl⟩⟩
  · rw [call_eq hT rfl]
    show fin [] (evSs _ bagA _ _) = _
    have : evSs ⟨callN T con k, con⟩ bagA [some (.rol (ns.map D.int)), none] [] = .ok (.rt (.obj 0)) (bagOf 0 1234567891 0 ((cut ns none (some 63)).map fun i => if i < 0 then -i else i)) := by
      unfold bagA
      refine ss_rt (st_ret ?_)
      rw [e_mls (a_cons e_cst (a_cons e_cst (a_cons e_cst (a_cons hc a_nil)))) (show (4 : Nat) ≤ SZ by decide)]
      have e1 : cut (ns.map D.int) none (some 63) = (cut ns none (some 63)).map D.int := by
        unfold cut; simp
      rw [e1]
      simp [bagOf]
    refine (congrArg (fin []) this).trans ?_
    show Rs.ok _ (trunc [] (D.lim 0 (.obj 0)) _) = _
    unfold trunc
    rw [if_neg (by simp [D.lim])]
  · have := cut_len ns none (some 63)
    rw [List.length_map]; omega
  · intro x hx
    obtain ⟨i, _, rfl⟩ := List.mem_map.mp hx
    show 0 ≤ if i < 0 then -i else i
    split <;> omega
end PyI

set_option maxRecDepth 100000
set_option maxHeartbeats 0
namespace K01
open PySem PySem.Spec PyProof.Rows L2 PyI
abbrev top (i : Nat) : Stmt := PySem.Challenge.pw_slipschool_k01_forms_of_sums_tests_and_n.main.body.getD i (.Pass ⟨0, 0, 0, 0⟩)
def e_is_integer : Sms := (.cons (.ret (.and (.isi (.var 0) [.int]) (.nt (.isi (.var 0) [.bool])))) .nil)
def r_is_integer : FnRow := ⟨"is_integer", "is_integer", ["thing"], ["thing"], defArgs (top 9), defBody (top 9), defScope (top 9), e_is_integer⟩
/- slots of is_integer: 0 thing -/
def e_is_within : Sms := (.cons (.ret (.and (.cF "is_integer" (.cons (.var 0) .nil)) (.chn .le .le (.var 1) (.var 0) (.var 2)))) .nil)
def r_is_within : FnRow := ⟨"is_within", "is_within", ["thing", "least", "most"], ["thing", "least", "most"], defArgs (top 10), defBody (top 10), defScope (top 10), e_is_within⟩
/- slots of is_within: 0 thing, 1 least, 2 most -/
def e_is_name : Sms := (.cons (.ifs (.or (.nt (.tst (.isi (.var 0) [.str]))) (.or (.nt (.chn .le .le (.cst (.int 1)) (.cB .len (.cons (.var 0) .nil)) (.glo "MOST_NAME"))) (.cmp .inn (.var 0) (.glo "RESERVED")))) (.cons (.ret (.cst (.bl false))) .nil) .nil) (.cons (.ret (.cB .all (.cons (.comp [1] (.cmp .inn (.var 1) (.glo "LETTERS")) (.nm 1) (.seq (.var 0)) .yes) .nil))) .nil))
def r_is_name : FnRow := ⟨"is_name", "is_name", ["thing"], ["thing", "sign"], defArgs (top 11), defBody (top 11), defScope (top 11), e_is_name⟩
/- slots of is_name: 0 thing, 1 sign -/
def e_is_sum : Sms := (.cons (.ifs (.or (.nt (.tst (.isi (.var 0) [.tuple]))) (.or (.cmp .ne (.cB .len (.cons (.var 0) .nil)) (.glo "SUM_LONG")) (.nt (.tst (.isi (.ix (.var 0) (.cst (.int 2))) [.tuple]))))) (.cons (.ret (.cst (.bl false))) .nil) .nil) (.cons (.ifs (.or (.nt (.tst (.cF "is_within" (.cons (.ix (.var 0) (.cst (.int 0))) (.cons (.neg (.glo "MOST_CONSTANT")) (.cons (.glo "MOST_CONSTANT") .nil)))))) (.nt (.tst (.cF "is_within" (.cons (.ix (.var 0) (.cst (.int 1))) (.cons (.neg (.glo "MOST_FACTOR")) (.cons (.glo "MOST_FACTOR") .nil))))))) (.cons (.ret (.cst (.bl false))) .nil) .nil) (.cons (.ret (.and (.cmp .eq (.cB .len (.cons (.ix (.var 0) (.cst (.int 2))) .nil)) (.var 1)) (.cB .all (.cons (.comp [2] (.cF "is_within" (.cons (.var 2) (.cons (.neg (.glo "MOST_FACTOR")) (.cons (.glo "MOST_FACTOR") .nil)))) (.nm 2) (.seq (.ix (.var 0) (.cst (.int 2)))) .yes) .nil)))) .nil)))
def r_is_sum : FnRow := ⟨"is_sum", "is_sum", ["thing", "rows"], ["thing", "rows", "one"], defArgs (top 12), defBody (top 12), defScope (top 12), e_is_sum⟩
/- slots of is_sum: 0 thing, 1 rows, 2 one -/
def e_is_shallow : Sms := (.cons (.ifs (.or (.cmp .eq (.var 2) (.cst (.int 0))) (.or (.nt (.tst (.isi (.var 0) [.tuple]))) (.or (.cmp .eq (.var 0) (.tup .nil)) (.nt (.tst (.isi (.ix (.var 0) (.cst (.int 0))) [.str])))))) (.cons (.ret (.cst (.bl false))) .nil) .nil) (.cons (.ifs (.cmp .eq (.ix (.var 0) (.cst (.int 0))) (.cst (.str "always"))) (.cons (.ret (.cmp .eq (.cB .len (.cons (.var 0) .nil)) (.cst (.int 1)))) .nil) .nil) (.cons (.ifs (.cmp .ne (.cB .len (.cons (.var 0) .nil)) (.cst (.int 2))) (.cons (.ret (.cst (.bl false))) .nil) .nil) (.cons (.ifs (.cmp .inn (.ix (.var 0) (.cst (.int 0))) (.tup (.cons (.cst (.str "below")) (.cons (.cst (.str "zero")) .nil)))) (.cons (.ret (.cF "is_sum" (.cons (.ix (.var 0) (.cst (.int 1))) (.cons (.var 1) .nil)))) .nil) .nil) (.cons (.ifs (.cmp .eq (.ix (.var 0) (.cst (.int 0))) (.cst (.str "not"))) (.cons (.ret (.cF "is_shallow" (.cons (.ix (.var 0) (.cst (.int 1))) (.cons (.var 1) (.cons (.bin .sub (.var 2) (.cst (.int 1))) .nil))))) .nil) .nil) (.cons (.ifs (.or (.cmp .nin (.ix (.var 0) (.cst (.int 0))) (.tup (.cons (.cst (.str "all")) (.cons (.cst (.str "any")) .nil)))) (.or (.nt (.tst (.isi (.ix (.var 0) (.cst (.int 1))) [.tuple]))) (.cmp .gt (.cB .len (.cons (.ix (.var 0) (.cst (.int 1))) .nil)) (.glo "MOST_PARTS")))) (.cons (.ret (.cst (.bl false))) .nil) .nil) (.cons (.ret (.cB .all (.cons (.comp [3] (.cF "is_shallow" (.cons (.var 3) (.cons (.var 1) (.cons (.bin .sub (.var 2) (.cst (.int 1))) .nil)))) (.nm 3) (.seq (.ix (.var 0) (.cst (.int 1)))) .yes) .nil))) .nil)))))))
def r_is_shallow : FnRow := ⟨"is_shallow", "is_shallow", ["thing", "rows", "levels"], ["thing", "rows", "levels", "part"], defArgs (top 13), defBody (top 13), defScope (top 13), e_is_shallow⟩
/- slots of is_shallow: 0 thing, 1 rows, 2 levels, 3 part -/
def e_is_test : Sms := (.cons (.ret (.cF "is_shallow" (.cons (.var 0) (.cons (.var 1) (.cons (.glo "MOST_DEPTH") .nil))))) .nil)
def r_is_test : FnRow := ⟨"is_test", "is_test", ["thing", "rows"], ["thing", "rows"], defArgs (top 14), defBody (top 14), defScope (top 14), e_is_test⟩
/- slots of is_test: 0 thing, 1 rows -/
def e_is_next : Sms := (.cons (.ifs (.or (.nt (.tst (.isi (.var 0) [.tuple]))) (.or (.cmp .ne (.cB .len (.cons (.var 0) .nil)) (.cst (.int 2))) (.nt (.tst (.isi (.ix (.var 0) (.cst (.int 0))) [.str]))))) (.cons (.ret (.cst (.bl false))) .nil) .nil) (.cons (.ifs (.cmp .eq (.ix (.var 0) (.cst (.int 0))) (.cst (.str "mark"))) (.cons (.ret (.cF "is_within" (.cons (.ix (.var 0) (.cst (.int 1))) (.cons (.cst (.int 0)) (.cons (.bin .sub (.var 2) (.cst (.int 1))) .nil))))) .nil) .nil) (.cons (.ret (.and (.cmp .eq (.ix (.var 0) (.cst (.int 0))) (.cst (.str "over"))) (.cF "is_sum" (.cons (.ix (.var 0) (.cst (.int 1))) (.cons (.var 1) .nil))))) .nil)))
def r_is_next : FnRow := ⟨"is_next", "is_next", ["thing", "rows", "marks"], ["thing", "rows", "marks"], defArgs (top 15), defBody (top 15), defScope (top 15), e_is_next⟩
/- slots of is_next: 0 thing, 1 rows, 2 marks -/
def e_are_figures : Sms := (.cons (.ret (.and (.isi (.var 0) [.tuple]) (.and (.cmp .le (.cB .len (.cons (.var 0) .nil)) (.cst (.int 2))) (.cB .all (.cons (.comp [2] (.cF "is_within" (.cons (.var 2) (.cons (.cst (.int 0)) (.cons (.bin .sub (.var 1) (.cst (.int 1))) .nil)))) (.nm 2) (.seq (.var 0)) .yes) .nil))))) .nil)
def r_are_figures : FnRow := ⟨"are_figures", "are_figures", ["thing", "base"], ["thing", "base", "one"], defArgs (top 16), defBody (top 16), defScope (top 16), e_are_figures⟩
/- slots of are_figures: 0 thing, 1 base, 2 one -/
def e__law_bag : Sms := (.cons (.ret (.mls (.cons (.cst (.int 0)) (.cons (.cst (.int 1234567891)) (.cons (.cst (.int 0)) (.cons (.comp [1] (.cB .abs (.cons (.var 1) .nil)) (.nm 1) (.seq (.sl (.var 0) .no (.so (.cst (.int 63))))) .yes) .nil)))))) .nil)
def r__law_bag : FnRow := ⟨"_law_bag", "_law_bag", ["script"], ["script", "cell"], defArgs (top 18), defBody (top 18), defScope (top 18), e__law_bag⟩
/- slots of _law_bag: 0 script, 1 cell -/
def e__law_take : Sms := (.cons (.ifs (.cmp .eq (.ix (.var 0) (.cst (.int 0))) (.cst (.int 0))) (.cons (.asg (.nm 2) (.ix (.bin .add (.sl (.ix (.var 0) (.cst (.int 3))) (.so (.ix (.var 0) (.cst (.int 2)))) .no) (.lst (.cons (.cst (.int 0)) .nil))) (.cst (.int 0)))) (.cons (.augs (.var 0) (.cst (.int 2)) .add (.cst (.int 1))) (.cons (.ifs (.cmp .ge (.var 2) (.bin .pow (.cst (.int 10)) (.cst (.int 18)))) (.cons (.sto (.var 0) (.cst (.int 0)) (.var 2)) .nil) .nil) (.cons (.asg (.nm 3) (.bin .add (.bin .add (.bin .mul (.ix (.var 0) (.cst (.int 1))) (.cst (.int 48271))) (.bin .mod (.cB .int (.cons (.var 2) .nil)) (.cst (.int 2147483647)))) (.bin .mul (.cst (.int 7919)) (.ix (.var 0) (.cst (.int 2)))))) (.cons (.sto (.var 0) (.cst (.int 1)) (.bin .mod (.cB .int (.cons (.var 3) .nil)) (.cst (.int 2147483647)))) .nil))))) .nil) (.cons (.ifs (.cmp .gt (.ix (.var 0) (.cst (.int 0))) (.cst (.int 0))) (.cons (.asg (.nm 4) (.bin .mod (.cB .int (.cons (.ix (.var 0) (.cst (.int 0))) .nil)) (.var 1))) (.cons (.sto (.var 0) (.cst (.int 0)) (.bin .fdiv (.cB .int (.cons (.ix (.var 0) (.cst (.int 0))) .nil)) (.var 1))) (.cons (.ret (.var 4)) .nil))) .nil) (.cons (.asg (.nm 5) (.bin .mod (.cB .int (.cons (.bin .mul (.bin .add (.ix (.var 0) (.cst (.int 1))) (.cst (.int 1))) (.cst (.int 39373))) .nil)) (.cst (.int 1000000007)))) (.cons (.asg (.nm 6) (.bin .mod (.cB .int (.cons (.bin .mul (.bin .mod (.cB .int (.cons (.bin .mul (.var 5) (.var 5)) .nil)) (.cst (.int 998244353))) (.cst (.int 30011))) .nil)) (.cst (.int 998244353)))) (.cons (.ret (.bin .mod (.cB .int (.cons (.bin .fdiv (.var 6) (.cst (.int 7))) .nil)) (.var 1))) .nil)))))
def r__law_take : FnRow := ⟨"_law_take", "_law_take", ["bag", "many"], ["bag", "many", "cell", "stirred", "value", "begin", "second"], defArgs (top 19), defBody (top 19), defScope (top 19), e__law_take⟩
/- slots of _law_take: 0 bag, 1 many, 2 cell, 3 stirred, 4 value, 5 begin, 6 second -/
def e__law_some : Sms := (.cons (.ret (.ix (.var 1) (.cF "_law_take" (.cons (.var 0) (.cons (.cB .len (.cons (.var 1) .nil)) .nil))))) .nil)
def r__law_some : FnRow := ⟨"_law_some", "_law_some", ["bag", "things"], ["bag", "things"], defArgs (top 20), defBody (top 20), defScope (top 20), e__law_some⟩
/- slots of _law_some: 0 bag, 1 things -/
def e__law_alike : Sms := (.cons (.par 2 3 (.mls (.cons (.tup (.cons (.var 0) (.cons (.var 1) .nil))) .nil)) (.cst (.int 0))) (.cons (.whl (.cmp .lt (.var 3) (.cB .len (.cons (.var 2) .nil))) (.cons (.asg (.tp [4, 5]) (.ix (.var 2) (.var 3))) (.cons (.aug 3 .add (.cst (.int 1))) (.cons (.ifs (.or (.cmp .ne (.isi (.var 4) [.bool]) (.isi (.var 5) [.bool])) (.cmp .ne (.isi (.var 4) [.str]) (.isi (.var 5) [.str]))) (.cons (.ret (.cst (.bl false))) .nil) .nil) (.cons (.ifs (.cmp .ne (.isi (.var 4) [.tuple, .list]) (.isi (.var 5) [.tuple, .list])) (.cons (.ret (.cst (.bl false))) .nil) .nil) (.cons (.ifs (.tst (.isi (.var 4) [.tuple, .list])) (.cons (.ifs (.or (.cmp .ne (.isi (.var 4) [.tuple]) (.isi (.var 5) [.tuple])) (.cmp .ne (.cB .len (.cons (.var 4) .nil)) (.cB .len (.cons (.var 5) .nil)))) (.cons (.ret (.cst (.bl false))) .nil) .nil) (.cons (.exp (.ext (.var 2) (.zipl (.cons (.var 4) (.cons (.var 5) .nil))))) .nil)) (.cons (.ifs (.cmp .ne (.var 4) (.var 5)) (.cons (.ret (.cst (.bl false))) .nil) .nil) .nil)) .nil)))))) (.cons (.ret (.cst (.bl true))) .nil)))
def r__law_alike : FnRow := ⟨"_law_alike", "_law_alike", ["found", "due"], ["found", "due", "pairs", "at", "one", "other"], defArgs (top 21), defBody (top 21), defScope (top 21), e__law_alike⟩
/- slots of _law_alike: 0 found, 1 due, 2 pairs, 3 at, 4 one, 5 other -/
def e__law_is_int : Sms := (.cons (.ret (.and (.isi (.var 0) [.int]) (.nt (.isi (.var 0) [.bool])))) .nil)
def r__law_is_int : FnRow := ⟨"_law_is_int", "_law_is_int", ["thing"], ["thing"], defArgs (top 22), defBody (top 22), defScope (top 22), e__law_is_int⟩
/- slots of _law_is_int: 0 thing -/
def e__law_bent : Sms := (.cons (.asg (.nm 3) (.cF "_law_take" (.cons (.var 0) (.cons (.cst (.int 5)) .nil)))) (.cons (.ifs (.and (.cmp .gt (.var 2) (.cst (.int 0))) (.and (.tst (.isi (.var 1) [.tuple])) (.and (.cmp .ne (.var 1) (.tup .nil)) (.cmp .gt (.var 3) (.cst (.int 0)))))) (.cons (.asg (.nm 4) (.cF "_law_take" (.cons (.var 0) (.cons (.cB .len (.cons (.var 1) .nil)) .nil)))) (.cons (.ifs (.cmp .eq (.var 3) (.cst (.int 1))) (.cons (.ret (.bin .add (.sl (.var 1) .no (.so (.var 4))) (.sl (.var 1) (.so (.bin .add (.var 4) (.cst (.int 1)))) .no))) .nil) .nil) (.cons (.ifs (.cmp .eq (.var 3) (.cst (.int 2))) (.cons (.ret (.bin .add (.bin .add (.sl (.var 1) .no (.so (.var 4))) (.sl (.var 1) (.so (.var 4)) (.so (.bin .add (.var 4) (.cst (.int 1)))))) (.sl (.var 1) (.so (.var 4)) .no))) .nil) .nil) (.cons (.ret (.bin .add (.bin .add (.sl (.var 1) .no (.so (.var 4))) (.tup (.cons (.cF "_law_bent" (.cons (.var 0) (.cons (.ix (.var 1) (.var 4)) (.cons (.bin .sub (.var 2) (.cst (.int 1))) .nil)))) .nil))) (.sl (.var 1) (.so (.bin .add (.var 4) (.cst (.int 1)))) .no))) .nil)))) .nil) (.cons (.ifs (.and (.tst (.cF "_law_is_int" (.cons (.var 1) .nil))) (.cmp .gt (.var 3) (.cst (.int 0)))) (.cons (.ret (.bin .add (.var 1) (.cF "_law_some" (.cons (.var 0) (.cons (.lst (.cons (.cst (.int 1)) (.cons (.neg (.cst (.int 1))) (.cons (.cst (.int 2)) (.cons (.cst (.int 9)) .nil))))) .nil))))) .nil) .nil) (.cons (.ret (.cF "_law_some" (.cons (.var 0) (.cons (.lst (.cons (.cst .non) (.cons (.cst (.bl true)) (.cons (.cst (.str "")) (.cons (.cst (.str "a")) (.cons (.cst (.int 7)) (.cons (.neg (.cst (.int 1))) (.cons (.tup .nil) (.cons (.tup (.cons (.cst (.int 0)) .nil)) (.cons (.ife (.tst (.isi (.var 1) [.tuple])) (.cB .list (.cons (.var 1) .nil)) (.cst (.str "zz"))) .nil)))))))))) .nil)))) .nil))))
def r__law_bent : FnRow := ⟨"_law_bent", "_law_bent", ["bag", "thing", "depth"], ["bag", "thing", "depth", "way", "at"], defArgs (top 23), defBody (top 23), defScope (top 23), e__law_bent⟩
/- slots of _law_bent: 0 bag, 1 thing, 2 depth, 3 way, 4 at -/
def e__law_sum : Sms := (.cons (.asg (.nm 2) (.cB .tuple (.cons (.comp [3] (.cF "_law_some" (.cons (.var 0) (.cons (.lst (.cons (.cst (.int 0)) (.cons (.cst (.int 1)) (.cons (.cst (.int 1)) (.cons (.neg (.cst (.int 1))) (.cons (.cst (.int 2)) .nil)))))) .nil))) (.nm 3) (.rng (.var 1)) .yes) .nil))) (.cons (.ret (.tup (.cons (.cF "_law_some" (.cons (.var 0) (.cons (.lst (.cons (.cst (.int 0)) (.cons (.cst (.int 0)) (.cons (.cst (.int 1)) (.cons (.neg (.cst (.int 1))) (.cons (.cst (.int 3)) .nil)))))) .nil))) (.cons (.cF "_law_some" (.cons (.var 0) (.cons (.lst (.cons (.cst (.int 0)) (.cons (.cst (.int 1)) (.cons (.neg (.cst (.int 1))) .nil)))) .nil))) (.cons (.var 2) .nil))))) .nil))
def r__law_sum : FnRow := ⟨"_law_sum", "_law_sum", ["bag", "rows"], ["bag", "rows", "factors", "row"], defArgs (top 24), defBody (top 24), defScope (top 24), e__law_sum⟩
/- slots of _law_sum: 0 bag, 1 rows, 2 factors, 3 row -/
def e__law_test : Sms := (.cons (.asg (.nm 3) (.cF "_law_take" (.cons (.var 0) (.cons (.cst (.int 8)) .nil)))) (.cons (.ifs (.and (.cmp .gt (.var 2) (.cst (.int 0))) (.cmp .gt (.var 3) (.cst (.int 5)))) (.cons (.ifs (.cmp .eq (.var 3) (.cst (.int 6))) (.cons (.ret (.tup (.cons (.cst (.str "not")) (.cons (.cF "_law_test" (.cons (.var 0) (.cons (.var 1) (.cons (.bin .sub (.var 2) (.cst (.int 1))) .nil)))) .nil)))) .nil) .nil) (.cons (.ret (.tup (.cons (.cF "_law_some" (.cons (.var 0) (.cons (.lst (.cons (.cst (.str "all")) (.cons (.cst (.str "any")) .nil))) .nil))) (.cons (.cB .tuple (.cons (.comp [4] (.cF "_law_test" (.cons (.var 0) (.cons (.var 1) (.cons (.bin .sub (.var 2) (.cst (.int 1))) .nil)))) (.nm 4) (.rng (.cF "_law_take" (.cons (.var 0) (.cons (.cst (.int 3)) .nil)))) .yes) .nil)) .nil)))) .nil)) .nil) (.cons (.ret (.ife (.cmp .lt (.var 3) (.cst (.int 2))) (.tup (.cons (.cst (.str "always")) .nil)) (.tup (.cons (.ix (.lst (.cons (.cst (.str "below")) (.cons (.cst (.str "zero")) .nil))) (.bin .mod (.var 3) (.cst (.int 2)))) (.cons (.cF "_law_sum" (.cons (.var 0) (.cons (.var 1) .nil))) .nil))))) .nil)))
def r__law_test : FnRow := ⟨"_law_test", "_law_test", ["bag", "rows", "depth"], ["bag", "rows", "depth", "way", "part"], defArgs (top 25), defBody (top 25), defScope (top 25), e__law_test⟩
/- slots of _law_test: 0 bag, 1 rows, 2 depth, 3 way, 4 part -/
def e__law_rule : Sms := (.cons (.asg (.nm 3) (.ife (.cmp .eq (.cF "_law_take" (.cons (.var 0) (.cons (.cst (.int 2)) .nil))) (.cst (.int 0))) (.tup (.cons (.cst (.str "mark")) (.cons (.cF "_law_take" (.cons (.var 0) (.cons (.var 2) .nil))) .nil))) (.tup (.cons (.cst (.str "over")) (.cons (.cF "_law_sum" (.cons (.var 0) (.cons (.var 1) .nil))) .nil))))) (.cons (.ret (.tup (.cons (.cF "_law_test" (.cons (.var 0) (.cons (.var 1) (.cons (.cst (.int 2)) .nil)))) (.cons (.cF "_law_sum" (.cons (.var 0) (.cons (.var 1) .nil))) (.cons (.var 3) .nil))))) .nil))
def r__law_rule : FnRow := ⟨"_law_rule", "_law_rule", ["bag", "rows", "marks"], ["bag", "rows", "marks", "later"], defArgs (top 26), defBody (top 26), defScope (top 26), e__law_rule⟩
/- slots of _law_rule: 0 bag, 1 rows, 2 marks, 3 later -/
def e__law_odd : Sms := (.cons (.ret (.cF "_law_some" (.cons (.var 0) (.cons (.lst (.cons (.cst .non) (.cons (.cst (.bl true)) (.cons (.cst (.int 7)) (.cons (.cst (.str "A")) (.cons (.tup .nil) (.cons (.tup (.cons (.tup .nil) .nil)) (.cons (.lst .nil) (.cons .dic (.cons (.tup (.cons (.cst (.str "a")) (.cons (.cst (.int 1)) .nil))) (.cons (.tup (.cons (.cst (.int 0)) (.cons (.cst (.int 1)) .nil))) (.cons (.tup (.cons (.tup (.cons (.cst (.int 1)) (.cons (.cst (.int 2)) .nil))) .nil)) (.cons (.bin .pow (.cst (.int 10)) (.cst (.int 25))) (.cons (.tup (.cons (.cst .non) .nil)) (.cons (.tup (.cons (.tup (.cons (.cst (.bl true)) (.cons (.cst (.int 0)) .nil))) .nil)) (.cons (.neg (.cst (.int 1))) .nil)))))))))))))))) .nil)))) .nil)
def r__law_odd : FnRow := ⟨"_law_odd", "_law_odd", ["bag"], ["bag"], defArgs (top 27), defBody (top 27), defScope (top 27), e__law_odd⟩
/- slots of _law_odd: 0 bag -/
def e__law_is_name : Sms := (.cons (.asg (.nm 1) (.lst (.cons (.cst (.str "a")) (.cons (.cst (.str "add")) (.cons (.cst (.str "all")) (.cons (.cst (.str "always")) (.cons (.cst (.str "any")) (.cons (.cst (.str "b")) (.cons (.cst (.str "base")) (.cons (.cst (.str "below")) (.cons (.cst (.str "c")) (.cons (.cst (.str "change")) (.cons (.cst (.str "drop")) (.cons (.cst (.str "end")) (.cons (.cst (.str "m")) (.cons (.cst (.str "mark")) (.cons (.cst (.str "marks")) (.cons (.cst (.str "most")) .nil)))))))))))))))))) (.cons (.asg (.nm 1) (.bin .add (.var 1) (.lst (.cons (.cst (.str "next")) (.cons (.cst (.str "not")) (.cons (.cst (.str "over")) (.cons (.cst (.str "rows")) (.cons (.cst (.str "rule")) (.cons (.cst (.str "turn")) (.cons (.cst (.str "write")) (.cons (.cst (.str "zero")) .nil))))))))))) (.cons (.ifs (.or (.nt (.tst (.isi (.var 0) [.str]))) (.or (.nt (.chn .le .le (.cst (.int 1)) (.cB .len (.cons (.var 0) .nil)) (.cst (.int 8)))) (.cmp .inn (.var 0) (.var 1)))) (.cons (.ret (.cst (.bl false))) .nil) .nil) (.cons (.ret (.cmp .eq (.comp [2] (.var 2) (.nm 2) (.seq (.var 0)) (.cmp .nin (.var 2) (.cst (.str "abcdefghijklmnopqrstuvwxyz")))) (.lst .nil))) .nil))))
def r__law_is_name : FnRow := ⟨"_law_is_name", "_law_is_name", ["thing"], ["thing", "words", "sign"], defArgs (top 28), defBody (top 28), defScope (top 28), e__law_is_name⟩
/- slots of _law_is_name: 0 thing, 1 words, 2 sign -/
def e__law_in : Sms := (.cons (.ret (.and (.cF "_law_is_int" (.cons (.var 0) .nil)) (.chn .le .le (.var 1) (.var 0) (.var 2)))) .nil)
def r__law_in : FnRow := ⟨"_law_in", "_law_in", ["thing", "least", "most"], ["thing", "least", "most"], defArgs (top 29), defBody (top 29), defScope (top 29), e__law_in⟩
/- slots of _law_in: 0 thing, 1 least, 2 most -/
def e__law_is_sum : Sms := (.cons (.ifs (.or (.nt (.tst (.isi (.var 0) [.tuple]))) (.or (.cmp .ne (.cB .len (.cons (.var 0) .nil)) (.cst (.int 3))) (.or (.nt (.tst (.cF "_law_in" (.cons (.ix (.var 0) (.cst (.int 0))) (.cons (.neg (.cst (.int 200))) (.cons (.cst (.int 200)) .nil)))))) (.nt (.tst (.cF "_law_in" (.cons (.ix (.var 0) (.cst (.int 1))) (.cons (.neg (.cst (.int 20))) (.cons (.cst (.int 20)) .nil))))))))) (.cons (.ret (.cst (.bl false))) .nil) .nil) (.cons (.ret (.and (.isi (.ix (.var 0) (.cst (.int 2))) [.tuple]) (.and (.cmp .eq (.cB .len (.cons (.ix (.var 0) (.cst (.int 2))) .nil)) (.var 1)) (.cmp .eq (.comp [2] (.cst (.int 1)) (.nm 2) (.seq (.ix (.var 0) (.cst (.int 2)))) (.nt (.tst (.cF "_law_in" (.cons (.var 2) (.cons (.neg (.cst (.int 20))) (.cons (.cst (.int 20)) .nil))))))) (.lst .nil))))) .nil))
def r__law_is_sum : FnRow := ⟨"_law_is_sum", "_law_is_sum", ["thing", "rows"], ["thing", "rows", "one"], defArgs (top 30), defBody (top 30), defScope (top 30), e__law_is_sum⟩
/- slots of _law_is_sum: 0 thing, 1 rows, 2 one -/
def e__law_is_test : Sms := (.cons (.ifs (.or (.cmp .eq (.var 2) (.cst (.int 0))) (.or (.nt (.tst (.isi (.var 0) [.tuple]))) (.or (.cmp .eq (.var 0) (.tup .nil)) (.nt (.tst (.isi (.ix (.var 0) (.cst (.int 0))) [.str])))))) (.cons (.ret (.cst (.bl false))) .nil) .nil) (.cons (.ifs (.cmp .eq (.ix (.var 0) (.cst (.int 0))) (.cst (.str "always"))) (.cons (.ret (.cmp .eq (.cB .len (.cons (.var 0) .nil)) (.cst (.int 1)))) .nil) .nil) (.cons (.ifs (.cmp .ne (.cB .len (.cons (.var 0) .nil)) (.cst (.int 2))) (.cons (.ret (.cst (.bl false))) .nil) .nil) (.cons (.ifs (.cmp .inn (.ix (.var 0) (.cst (.int 0))) (.tup (.cons (.cst (.str "below")) (.cons (.cst (.str "zero")) .nil)))) (.cons (.ret (.cF "_law_is_sum" (.cons (.ix (.var 0) (.cst (.int 1))) (.cons (.var 1) .nil)))) .nil) .nil) (.cons (.ifs (.cmp .eq (.ix (.var 0) (.cst (.int 0))) (.cst (.str "not"))) (.cons (.ret (.cF "_law_is_test" (.cons (.ix (.var 0) (.cst (.int 1))) (.cons (.var 1) (.cons (.bin .sub (.var 2) (.cst (.int 1))) .nil))))) .nil) .nil) (.cons (.ifs (.or (.cmp .nin (.ix (.var 0) (.cst (.int 0))) (.tup (.cons (.cst (.str "all")) (.cons (.cst (.str "any")) .nil)))) (.or (.nt (.tst (.isi (.ix (.var 0) (.cst (.int 1))) [.tuple]))) (.cmp .gt (.cB .len (.cons (.ix (.var 0) (.cst (.int 1))) .nil)) (.cst (.int 8))))) (.cons (.ret (.cst (.bl false))) .nil) .nil) (.cons (.ret (.cmp .eq (.comp [3] (.cst (.int 1)) (.nm 3) (.seq (.ix (.var 0) (.cst (.int 1)))) (.nt (.tst (.cF "_law_is_test" (.cons (.var 3) (.cons (.var 1) (.cons (.bin .sub (.var 2) (.cst (.int 1))) .nil))))))) (.lst .nil))) .nil)))))))
def r__law_is_test : FnRow := ⟨"_law_is_test", "_law_is_test", ["thing", "rows", "levels"], ["thing", "rows", "levels", "part"], defArgs (top 31), defBody (top 31), defScope (top 31), e__law_is_test⟩
/- slots of _law_is_test: 0 thing, 1 rows, 2 levels, 3 part -/
def e__law_is_next : Sms := (.cons (.ifs (.or (.nt (.tst (.isi (.var 0) [.tuple]))) (.or (.cmp .ne (.cB .len (.cons (.var 0) .nil)) (.cst (.int 2))) (.nt (.tst (.isi (.ix (.var 0) (.cst (.int 0))) [.str]))))) (.cons (.ret (.cst (.bl false))) .nil) .nil) (.cons (.ret (.or (.and (.cmp .eq (.ix (.var 0) (.cst (.int 0))) (.cst (.str "mark"))) (.cF "_law_in" (.cons (.ix (.var 0) (.cst (.int 1))) (.cons (.cst (.int 0)) (.cons (.bin .sub (.var 2) (.cst (.int 1))) .nil))))) (.and (.cmp .eq (.ix (.var 0) (.cst (.int 0))) (.cst (.str "over"))) (.cF "_law_is_sum" (.cons (.ix (.var 0) (.cst (.int 1))) (.cons (.var 1) .nil)))))) .nil))
def r__law_is_next : FnRow := ⟨"_law_is_next", "_law_is_next", ["thing", "rows", "marks"], ["thing", "rows", "marks"], defArgs (top 32), defBody (top 32), defScope (top 32), e__law_is_next⟩
/- slots of _law_is_next: 0 thing, 1 rows, 2 marks -/
def e__law_things : Sms := (.cons (.par3 3 4 5 (.cF "_law_sum" (.cons (.var 0) (.cons (.var 1) .nil))) (.cF "_law_test" (.cons (.var 0) (.cons (.var 1) (.cons (.cst (.int 3)) .nil)))) (.cF "_law_rule" (.cons (.var 0) (.cons (.var 1) (.cons (.var 2) .nil))))) (.cons (.asg (.nm 6) (.var 4)) (.cons (.for (.nm 7) (.rng (.cF "_law_take" (.cons (.var 0) (.cons (.cst (.int 5)) .nil)))) (.cons (.asg (.nm 6) (.cF "_law_some" (.cons (.var 0) (.cons (.lst (.cons (.tup (.cons (.cst (.str "not")) (.cons (.var 6) .nil))) (.cons (.tup (.cons (.cst (.str "all")) (.cons (.tup (.cons (.var 6) .nil)) .nil))) (.cons (.tup (.cons (.cst (.str "any")) (.cons (.tup (.cons (.tup (.cons (.cst (.str "always")) .nil)) (.cons (.var 6) .nil))) .nil))) .nil)))) .nil)))) .nil)) (.cons (.asg (.nm 8) (.tup (.cons (.cst (.str "any")) (.cons (.bin .mul (.tup (.cons (.tup (.cons (.cst (.str "always")) .nil)) .nil)) (.cF "_law_some" (.cons (.var 0) (.cons (.lst (.cons (.cst (.int 7)) (.cons (.cst (.int 8)) (.cons (.cst (.int 9)) .nil)))) .nil)))) .nil)))) (.cons (.asg (.nm 9) (.lst (.cons (.var 3) (.cons (.tup (.cons (.cst (.int 201)) (.cons (.cst (.int 0)) (.cons (.ix (.var 3) (.cst (.int 2))) .nil)))) (.cons (.tup (.cons (.cst (.int 200)) (.cons (.cst (.int 20)) (.cons (.ix (.var 3) (.cst (.int 2))) .nil)))) (.cons (.tup (.cons (.cst (.int 0)) (.cons (.neg (.cst (.int 21))) (.cons (.ix (.var 3) (.cst (.int 2))) .nil)))) (.cons (.tup (.cons (.cst (.int 0)) (.cons (.cst (.int 0)) (.cons (.bin .mul (.tup (.cons (.cst (.int 21)) .nil)) (.var 1)) .nil)))) (.cons (.tup (.cons (.cst (.int 0)) (.cons (.cst (.int 0)) (.cons (.bin .mul (.tup (.cons (.neg (.cst (.int 20))) .nil)) (.var 1)) .nil)))) (.cons (.tup (.cons (.cst (.int 0)) (.cons (.cst (.int 0)) (.cons (.bin .add (.ix (.var 3) (.cst (.int 2))) (.tup (.cons (.cst (.int 1)) .nil))) .nil)))) .nil))))))))) (.cons (.asg (.nm 9) (.bin .add (.var 9) (.lst (.cons (.var 4) (.cons (.var 6) (.cons (.var 8) (.cons (.tup (.cons (.cst (.str "always")) (.cons (.cst (.int 1)) .nil))) (.cons (.tup (.cons (.cst (.str "below")) (.cons (.var 3) .nil))) (.cons (.tup (.cons (.cst (.str "below")) (.cons (.var 4) .nil))) (.cons (.tup (.cons (.cst (.str "not")) (.cons (.tup .nil) .nil))) (.cons (.tup (.cons (.cst (.str "all")) (.cons (.lst .nil) .nil))) (.cons (.ix (.var 5) (.cst (.int 2))) (.cons (.tup (.cons (.cst (.str "mark")) (.cons (.var 2) .nil))) .nil))))))))))))) (.cons (.asg (.nm 9) (.bin .add (.var 9) (.lst (.cons (.tup (.cons (.cst (.str "mark")) (.cons (.bin .sub (.var 2) (.cst (.int 1))) .nil))) (.cons (.tup (.cons (.cst (.str "over")) (.cons (.var 3) .nil))) (.cons (.tup (.cons (.cst (.str "over")) (.cons (.cst (.int 1)) .nil))) (.cons (.tup (.cons (.cst (.str "mark")) (.cons (.cst (.bl true)) .nil))) (.cons (.tup (.cons (.cst (.str "mark")) (.cons (.neg (.cst (.int 1))) .nil))) (.cons (.tup (.cons (.cst (.int 0)) (.cons (.cst (.int 1)) .nil))) (.cons (.tup (.cons (.cst (.int 1)) (.cons (.cst (.int 2)) (.cons (.cst (.int 3)) .nil)))) (.cons (.tup .nil) (.cons (.tup (.cons (.neg (.cst (.int 1))) .nil)) (.cons (.tup (.cons (.cst (.int 9)) (.cons (.cst (.int 9)) .nil))) (.cons (.lst (.cons (.cst (.int 1)) .nil)) .nil)))))))))))))) (.cons (.ret (.bin .add (.var 9) (.lst (.cons (.cF "_law_bent" (.cons (.var 0) (.cons (.var 3) (.cons (.cst (.int 2)) .nil)))) (.cons (.cF "_law_bent" (.cons (.var 0) (.cons (.var 6) (.cons (.cst (.int 5)) .nil)))) (.cons (.cF "_law_bent" (.cons (.var 0) (.cons (.ix (.var 5) (.cst (.int 2))) (.cons (.cst (.int 3)) .nil)))) (.cons (.cst (.str "carry")) (.cons (.cst (.str "m")) (.cons (.cst (.str "hillside")) (.cons (.cst (.str "hillsides")) (.cons (.cst (.str "Ab")) (.cons (.cst (.int 4)) (.cons (.cst (.bl true)) (.cons (.cF "_law_odd" (.cons (.var 0) .nil)) .nil)))))))))))))) .nil))))))))
def r__law_things : FnRow := ⟨"_law_things", "_law_things", ["bag", "rows", "marks"], ["bag", "rows", "marks", "made", "test", "rule", "deep", "level", "wide", "some"], defArgs (top 33), defBody (top 33), defScope (top 33), e__law_things⟩
/- slots of _law_things: 0 bag, 1 rows, 2 marks, 3 made, 4 test, 5 rule, 6 deep, 7 level, 8 wide, 9 some -/
def e_law : Sms := (.cons (.asg (.nm 1) (.cF "_law_bag" (.cons (.var 0) .nil))) (.cons (.for (.nm 2) (.rng (.cst (.int 6))) (.cons (.asg (.tp [3, 4, 5, 6]) (.tup (.cons (.bin .add (.cst (.int 1)) (.cF "_law_take" (.cons (.var 1) (.cons (.cst (.int 3)) .nil)))) (.cons (.bin .add (.cst (.int 1)) (.cF "_law_take" (.cons (.var 1) (.cons (.cst (.int 4)) .nil)))) (.cons (.bin .add (.cst (.int 2)) (.cF "_law_take" (.cons (.var 1) (.cons (.cst (.int 9)) .nil)))) (.cons (.bin .sub (.cF "_law_take" (.cons (.var 1) (.cons (.cst (.int 5)) .nil))) (.cst (.int 2))) .nil)))))) (.cons (.for (.nm 7) (.seq (.cF "_law_things" (.cons (.var 1) (.cons (.var 3) (.cons (.var 4) .nil))))) (.cons (.asg (.nm 8) (.lst (.cons (.cF "is_integer" (.cons (.var 7) .nil)) (.cons (.cF "is_within" (.cons (.var 7) (.cons (.var 6) (.cons (.cst (.int 9)) .nil)))) (.cons (.cF "is_name" (.cons (.var 7) .nil)) (.cons (.cF "is_sum" (.cons (.var 7) (.cons (.var 3) .nil))) (.cons (.cF "is_test" (.cons (.var 7) (.cons (.var 3) .nil))) .nil))))))) (.cons (.asg (.nm 9) (.lst (.cons (.cF "_law_is_int" (.cons (.var 7) .nil)) (.cons (.cF "_law_in" (.cons (.var 7) (.cons (.var 6) (.cons (.cst (.int 9)) .nil)))) (.cons (.cF "_law_is_name" (.cons (.var 7) .nil)) (.cons (.cF "_law_is_sum" (.cons (.var 7) (.cons (.var 3) .nil))) (.cons (.cF "_law_is_test" (.cons (.var 7) (.cons (.var 3) (.cons (.cst (.int 6)) .nil)))) .nil))))))) (.cons (.asg (.nm 10) (.and (.isi (.var 7) [.tuple]) (.and (.cmp .le (.cB .len (.cons (.var 7) .nil)) (.cst (.int 2))) (.cmp .eq (.comp [11] (.cst (.int 1)) (.nm 11) (.seq (.var 7)) (.nt (.tst (.cF "_law_in" (.cons (.var 11) (.cons (.cst (.int 0)) (.cons (.bin .sub (.var 5) (.cst (.int 1))) .nil))))))) (.lst .nil))))) (.cons (.asg (.nm 8) (.bin .add (.var 8) (.lst (.cons (.cF "is_next" (.cons (.var 7) (.cons (.var 3) (.cons (.var 4) .nil)))) (.cons (.cF "are_figures" (.cons (.var 7) (.cons (.var 5) .nil))) .nil))))) (.cons (.ifs (.nt (.tst (.cF "_law_alike" (.cons (.var 8) (.cons (.bin .add (.var 9) (.lst (.cons (.cF "_law_is_next" (.cons (.var 7) (.cons (.var 3) (.cons (.var 4) .nil)))) (.cons (.var 10) .nil)))) .nil))))) (.cons (.ret (.cst (.bl false))) .nil) .nil) .nil)))))) .nil))) (.cons (.ret (.cst (.bl true))) .nil)))
def r_law : FnRow := ⟨"law", "law", ["script"], ["script", "bag", "turn", "rows", "marks", "base", "low", "thing", "found", "due", "figures", "one"], defArgs (top 34), defBody (top 34), defScope (top 34), e_law⟩
/- slots of law: 0 script, 1 bag, 2 turn, 3 rows, 4 marks, 5 base, 6 low, 7 thing, 8 found, 9 due, 10 figures, 11 one -/
def rows_0 : List FnRow := [r_is_integer, r_is_within, r_is_name, r_is_sum, r_is_shallow, r_is_test, r_is_next, r_are_figures, r__law_bag, r__law_take, r__law_some, r__law_alike, r__law_is_int, r__law_bent, r__law_sum, r__law_test, r__law_rule, r__law_odd, r__law_is_name, r__law_in, r__law_is_sum, r__law_is_test, r__law_is_next, r__law_things, r_law]
def rows : List FnRow := rows_0
def cons_0 : List (String × D) := [("LETTERS", (.str "abcdefghijklmnopqrstuvwxyz")), ("RESERVED", (.tup [(.str "a"), (.str "add"), (.str "all"), (.str "always"), (.str "any"), (.str "b"), (.str "base"), (.str "below"), (.str "c"), (.str "change"), (.str "drop"), (.str "end"), (.str "m"), (.str "mark"), (.str "marks"), (.str "most"), (.str "next"), (.str "not"), (.str "over"), (.str "rows"), (.str "rule"), (.str "turn"), (.str "write"), (.str "zero")])), ("MOST_NAME", (.int 8)), ("MOST_CONSTANT", (.int 200)), ("MOST_FACTOR", (.int 20)), ("MOST_PARTS", (.int 8)), ("MOST_DEPTH", (.int 6)), ("SUM_LONG", (.int 3))]
def cons : List (String × D) := cons_0
def names_0 : List PySem.Str := [("LETTERS" : PySem.Str), ("RESERVED" : PySem.Str), ("MOST_NAME" : PySem.Str), ("MOST_CONSTANT" : PySem.Str), ("MOST_FACTOR" : PySem.Str), ("MOST_PARTS" : PySem.Str), ("MOST_DEPTH" : PySem.Str), ("SUM_LONG" : PySem.Str), ("is_integer" : PySem.Str), ("is_within" : PySem.Str), ("is_name" : PySem.Str), ("is_sum" : PySem.Str), ("is_shallow" : PySem.Str), ("is_test" : PySem.Str), ("is_next" : PySem.Str), ("are_figures" : PySem.Str), ("_law_bag" : PySem.Str), ("_law_take" : PySem.Str), ("_law_some" : PySem.Str), ("_law_alike" : PySem.Str), ("_law_is_int" : PySem.Str), ("_law_bent" : PySem.Str), ("_law_sum" : PySem.Str), ("_law_test" : PySem.Str), ("_law_rule" : PySem.Str), ("_law_odd" : PySem.Str), ("_law_is_name" : PySem.Str), ("_law_in" : PySem.Str), ("_law_is_sum" : PySem.Str), ("_law_is_test" : PySem.Str)]
def names_1 : List PySem.Str := [("_law_is_next" : PySem.Str), ("_law_things" : PySem.Str)]
def names : List PySem.Str := names_0 ++ names_1
theorem rows_ok : rowsOk rows = true := by decide +kernel
end K01

set_option maxRecDepth 100000
set_option maxHeartbeats 1000000
namespace K01
open PySem L2 PyI
theorem T_is_integer : tabT rows "is_integer" = some ⟨1, 1, e_is_integer⟩ := by kernel_rfl
theorem T_is_within : tabT rows "is_within" = some ⟨3, 3, e_is_within⟩ := by kernel_rfl
theorem T_is_name : tabT rows "is_name" = some ⟨1, 2, e_is_name⟩ := by kernel_rfl
theorem T_is_sum : tabT rows "is_sum" = some ⟨2, 3, e_is_sum⟩ := by kernel_rfl
theorem T_is_shallow : tabT rows "is_shallow" = some ⟨3, 4, e_is_shallow⟩ := by kernel_rfl
theorem T_is_test : tabT rows "is_test" = some ⟨2, 2, e_is_test⟩ := by kernel_rfl
theorem T_is_next : tabT rows "is_next" = some ⟨3, 3, e_is_next⟩ := by kernel_rfl
theorem T_are_figures : tabT rows "are_figures" = some ⟨2, 3, e_are_figures⟩ := by kernel_rfl
theorem T__law_bag : tabT rows "_law_bag" = some ⟨1, 2, e__law_bag⟩ := by kernel_rfl
theorem T__law_take : tabT rows "_law_take" = some ⟨2, 7, e__law_take⟩ := by kernel_rfl
theorem T__law_some : tabT rows "_law_some" = some ⟨2, 2, e__law_some⟩ := by kernel_rfl
theorem T__law_alike : tabT rows "_law_alike" = some ⟨2, 6, e__law_alike⟩ := by kernel_rfl
theorem T__law_is_int : tabT rows "_law_is_int" = some ⟨1, 1, e__law_is_int⟩ := by kernel_rfl
theorem T__law_bent : tabT rows "_law_bent" = some ⟨3, 5, e__law_bent⟩ := by kernel_rfl
theorem T__law_sum : tabT rows "_law_sum" = some ⟨2, 4, e__law_sum⟩ := by kernel_rfl
theorem T__law_test : tabT rows "_law_test" = some ⟨3, 5, e__law_test⟩ := by kernel_rfl
theorem T__law_rule : tabT rows "_law_rule" = some ⟨3, 4, e__law_rule⟩ := by kernel_rfl
theorem T__law_odd : tabT rows "_law_odd" = some ⟨1, 1, e__law_odd⟩ := by kernel_rfl
theorem T__law_is_name : tabT rows "_law_is_name" = some ⟨1, 3, e__law_is_name⟩ := by kernel_rfl
theorem T__law_in : tabT rows "_law_in" = some ⟨3, 3, e__law_in⟩ := by kernel_rfl
theorem T__law_is_sum : tabT rows "_law_is_sum" = some ⟨2, 3, e__law_is_sum⟩ := by kernel_rfl
theorem T__law_is_test : tabT rows "_law_is_test" = some ⟨3, 4, e__law_is_test⟩ := by kernel_rfl
theorem T__law_is_next : tabT rows "_law_is_next" = some ⟨3, 3, e__law_is_next⟩ := by kernel_rfl
theorem T__law_things : tabT rows "_law_things" = some ⟨3, 10, e__law_things⟩ := by kernel_rfl
theorem T_law : tabT rows "law" = some ⟨1, 12, e_law⟩ := by kernel_rfl
theorem G_LETTERS : conT cons "LETTERS" = some (.str "abcdefghijklmnopqrstuvwxyz") := by kernel_rfl
theorem G_RESERVED : conT cons "RESERVED" = some (.tup [(.str "a"), (.str "add"), (.str "all"), (.str "always"), (.str "any"), (.str "b"), (.str "base"), (.str "below"), (.str "c"), (.str "change"), (.str "drop"), (.str "end"), (.str "m"), (.str "mark"), (.str "marks"), (.str "most"), (.str "next"), (.str "not"), (.str "over"), (.str "rows"), (.str "rule"), (.str "turn"), (.str "write"), (.str "zero")]) := by kernel_rfl
theorem G_MOST_NAME : conT cons "MOST_NAME" = some (.int 8) := by kernel_rfl
theorem G_MOST_CONSTANT : conT cons "MOST_CONSTANT" = some (.int 200) := by kernel_rfl
theorem G_MOST_FACTOR : conT cons "MOST_FACTOR" = some (.int 20) := by kernel_rfl
theorem G_MOST_PARTS : conT cons "MOST_PARTS" = some (.int 8) := by kernel_rfl
theorem G_MOST_DEPTH : conT cons "MOST_DEPTH" = some (.int 6) := by kernel_rfl
theorem G_SUM_LONG : conT cons "SUM_LONG" = some (.int 3) := by kernel_rfl
noncomputable abbrev C (k : Nat) (f : String) (ds : List D) (S : Store) : Rs D := callN (tabT rows) (conT cons) k f ds S
def ok0 : D → Bool
  | .obj _ => false
  | .rol _ => false
  | _ => true
theorem sml_ok0 {n : Nat} {d : D} (h : d.sml n = true) : ok0 d = true := by cases d <;> first | rfl | simp [D.sml] at h
def isI : D → Bool
  | .int _ => true
  | _ => false
def inR (lo hi : Int) : D → Bool
  | .int i => decide (lo ≤ i) && decide (i ≤ hi)
  | _ => false
section
variable {k : Nat} {S : Store} {d : D}
theorem is_integer_ok (h : ok0 d = true) : C (k + 1) "is_integer" [d] S = .ok (.bl (isI d)) S := by
  refine call_rt T_is_integer rfl ?_ rfl
  refine ss_rt (st_ret ?_)
  cases d with
  | obj r => cases h
  | rol r => cases h
  | _ => first | exact e_and (t := true) (t1 := true) (e_isi (e_var rfl) rfl) (fun _ => e_nt (t := false) (e_isi (e_var rfl) rfl) rfl) | exact e_and (t := true) (t1 := false) (e_isi (e_var rfl) rfl) (fun _ => e_nt (t := true) (e_isi (e_var rfl) rfl) rfl) | exact e_and (t := false) (t1 := false) (e_isi (e_var rfl) rfl) (fun h => nomatch h)
theorem _law_is_int_ok (h : ok0 d = true) : C (k + 1) "_law_is_int" [d] S = .ok (.bl (isI d)) S := by
  refine call_rt T__law_is_int rfl ?_ rfl
  refine ss_rt (st_ret ?_)
  cases d with
  | obj r => cases h
  | rol r => cases h
  | _ => first | exact e_and (t := true) (t1 := true) (e_isi (e_var rfl) rfl) (fun _ => e_nt (t := false) (e_isi (e_var rfl) rfl) rfl) | exact e_and (t := true) (t1 := false) (e_isi (e_var rfl) rfl) (fun _ => e_nt (t := true) (e_isi (e_var rfl) rfl) rfl) | exact e_and (t := false) (t1 := false) (e_isi (e_var rfl) rfl) (fun h => nomatch h)
theorem inR_eq {lo hi : Int} : inR lo hi d = (isI d && (match d with | .int i => decide (lo ≤ i) && decide (i ≤ hi) | _ => false)) := by cases d <;> rfl
theorem is_within_ok {lo hi : Int} (h : ok0 d = true) : C (k + 2) "is_within" [d, .int lo, .int hi] S = .ok (.bl (inR lo hi d)) S := by
  refine call_rt T_is_within rfl ?_ rfl
  refine ss_rt (st_ret ?_)
  rw [inR_eq]
  refine e_and (e_cF (ds := [d]) (a_cons (e_var rfl) a_nil) (is_integer_ok h)) fun hi => ?_
  cases d with
  | int i => exact e_chn (e_var rfl) (e_var rfl) rfl (e_var rfl) (fun _ => rfl)
  | _ => cases hi
theorem _law_in_ok {lo hi : Int} (h : ok0 d = true) : C (k + 2) "_law_in" [d, .int lo, .int hi] S = .ok (.bl (inR lo hi d)) S := by
  refine call_rt T__law_in rfl ?_ rfl
  refine ss_rt (st_ret ?_)
  rw [inR_eq]
  refine e_and (e_cF (ds := [d]) (a_cons (e_var rfl) a_nil) (_law_is_int_ok h)) fun hi => ?_
  cases d with
  | int i => exact e_chn (e_var rfl) (e_var rfl) rfl (e_var rfl) (fun _ => rfl)
  | _ => cases hi
theorem blsOf_map {α : Type} (p : α → Bool) : ∀ xs : List α, blsOf (xs.map fun x => D.bl (p x)) = some (xs.map p)
  | [] => rfl
  | x :: xs => by
    show (blsOf (xs.map fun x => D.bl (p x))).map _ = _
    rw [blsOf_map p xs]; rfl
theorem all_map {α : Type} (p : α → Bool) (xs : List α) : biop S .all [.lst (xs.map fun x => D.bl (p x))] = some (.bl (xs.all p)) := by
  show (blsOf _).map _ = _
  rw [blsOf_map]
  simp [List.all_map]
theorem eq_nil {ds : List D} (h : dats ds = true) : cmpop .eq (.lst ds) (.lst []) = some ds.isEmpty := by
  show (if _ then _ else _) = _
  rw [if_pos (by simp [D.dat, h, dats, D.flat, flats])]
  cases ds <;> rfl
theorem all_flt {α : Type} (p : α → Bool) (xs : List α) : (xs.filter fun x => !p x).isEmpty = xs.all p := by
  induction xs with
  | nil => rfl
  | cons x xs ih => cases h : p x <;> simp [List.filter_cons, h, ih]
theorem dats_const {α : Type} (d : D) (hd : d.dat = true) : ∀ xs : List α, dats (xs.map fun _ => d) = true
  | [] => rfl
  | x :: xs => by simp [dats, hd, dats_const d hd xs]
end
end K01

set_option maxRecDepth 100000
set_option maxHeartbeats 1000000
namespace K01
open PySem L2 PyI
def res : List D := [(.str "a"), (.str "add"), (.str "all"), (.str "always"), (.str "any"), (.str "b"), (.str "base"), (.str "below"), (.str "c"), (.str "change"), (.str "drop"), (.str "end"), (.str "m"), (.str "mark"), (.str "marks"), (.str "most"), (.str "next"), (.str "not"), (.str "over"), (.str "rows"), (.str "rule"), (.str "turn"), (.str "write"), (.str "zero")]
def inL : D → Bool
  | .str x => !(Builtin.Str.occurrences ("abcdefghijklmnopqrstuvwxyz" : Str) x 0 ("abcdefghijklmnopqrstuvwxyz" : Str).length 1).isEmpty
  | _ => false
def chs (x : Str) : List D := x.cps.toList.map fun c => .str ⟨#[c]⟩
def pName : D → Bool
  | .str x => !(!(decide ((1 : Int) ≤ x.length) && decide ((x.length : Int) ≤ 8)) || isIn (.str x) res) && (chs x).all inL
  | _ => false
def pSum (rows : Int) : D → Bool
  | .tup [a, b, .tup cs] => inR (-200) 200 a && (inR (-20) 20 b && (((cs.length : Int) == rows) && cs.all (inR (-20) 20)))
  | _ => false
def isT : D → Bool
  | .tup _ => true
  | _ => false
def isS : D → Bool
  | .str _ => true
  | _ => false
section
variable {k : Nat} {S : Store} {d : D} {W : Wd} {e : PyI.Env}
theorem isi_t (h : ok0 d = true) : isTys S d [.tuple] = some (isT d) := by
  cases d <;> first | rfl | cases h
theorem isi_s (h : ok0 d = true) : isTys S d [.str] = some (isS d) := by
  cases d <;> first | rfl | cases h
theorem chs_dat : ∀ {x : Str}, dats ((chs x).filter fun c => !inL c) = true := fun {x} => by
  have : ∀ l : List D, (∀ d ∈ l, d.dat = true) → dats l = true := fun l h => by
    induction l with
    | nil => rfl
    | cons y l ih => simp [dats, h y List.mem_cons_self, ih fun d hd => h d (List.mem_cons_of_mem _ hd)]
  refine this _ fun d hd => ?_
  obtain ⟨c, _, rfl⟩ := List.mem_map.mp (List.mem_filter.mp hd).1
  rfl
theorem src_str {x : Str} (h : x.length ≤ SZ) : srcOf S (.str x) = some (chs x, none) := by
  show (if _ then _ else _) = _
  rw [if_pos h]; rfl
theorem len_str {x : Str} (h : x.length ≤ SZ) : biop S .len [.str x] = some (.int x.length) := by
  show (if _ then _ else _) = _
  rw [if_pos h]
theorem chs_len {x : Str} : (chs x).length = x.length := by unfold chs; rw [List.length_map]; rfl
theorem inn_res {x : Str} : cmpop .inn (.str x) (.tup res) = some (isIn (.str x) res) := rfl
theorem inn_res2 {x : Str} : cmpop .inn (.str x) (.lst res) = some (isIn (.str x) res) := rfl
theorem inn_L {c : D} {x : Str} (h : c ∈ chs x) : cmpop .inn c (.str "abcdefghijklmnopqrstuvwxyz") = some (inL c) := by
  obtain ⟨i, _, rfl⟩ := List.mem_map.mp h
  rfl
theorem nin_L {c : D} {x : Str} (h : c ∈ chs x) : cmpop .nin c (.str "abcdefghijklmnopqrstuvwxyz") = some (!inL c) := by
  obtain ⟨i, _, rfl⟩ := List.mem_map.mp h
  rfl
theorem is_name_ok (h : ok0 d = true) (hs : ∀ x, d = .str x → x.length ≤ SZ) : C (k + 1) "is_name" [d] S = .ok (.bl (pName d)) S := by
  refine call_rt T_is_name rfl ?_ rfl
  cases hd : isS d with
  | false =>
    have : pName d = false := by cases d <;> first | rfl | cases hd
    rw [this]
    exact ss_rt (st_ift (t_ort (t_nt (t := false) (t_tst (e_isi (e_var rfl) ((isi_s h).trans (congrArg some hd))) rfl))) (ss_rt (st_ret e_cst)))
  | true =>
    cases d with
    | str x =>
      have hx := hs x rfl
      have c1 : evT ⟨C k, conT cons⟩ (.or (.nt (.tst (.isi (.var 0) [.str]))) (.or (.nt (.chn .le .le (.cst (.int 1)) (.cB .len (.cons (.var 0) .nil)) (.glo "MOST_NAME"))) (.cmp .inn (.var 0) (.glo "RESERVED")))) [some (.str x), none] S = .ok (!(decide ((1 : Int) ≤ x.length) && decide ((x.length : Int) ≤ 8)) || isIn (.str x) res) S :=
        t_orf (t_nt (t := true) (t_tst (e_isi (e_var rfl) rfl) rfl)) (t_or (t_nt (t_chn (d := .int 1) (d1 := .int x.length) (d2 := .int 8) e_cst (e_cB (a_cons (e_var rfl) a_nil) (len_str hx)) rfl (e_glo G_MOST_NAME) (fun _ => rfl))) (fun _ => t_cmp (e_var rfl) (e_glo G_RESERVED) inn_res))
      have c2 : evE ⟨C k, conT cons⟩ (.comp [1] (.cmp .inn (.var 1) (.glo "LETTERS")) (.nm 1) (.seq (.var 0)) .yes) [some (.str x), none] S = .ok (.lst ((chs x).map fun c => .bl (inL c))) S :=
        comp_map (i_seq (e_var rfl) (src_str hx)) (by rw [chs_len]; exact hx) fun c hc => ⟨_, rfl, e_cmp (e_var rfl) (e_glo G_LETTERS) (inn_L hc)⟩
      show evSs ⟨C k, conT cons⟩ e_is_name [some (.str x), none] S = .ok (.rt (.bl (!(!(decide ((1 : Int) ≤ x.length) && decide ((x.length : Int) ≤ 8)) || isIn (.str x) res) && (chs x).all inL))) S
      cases hb : (!(decide ((1 : Int) ≤ x.length) && decide ((x.length : Int) ≤ 8)) || isIn (.str x) res) with
      | true =>
        rw [hb] at c1
        exact ss_rt (st_ift c1 (ss_rt (st_ret e_cst)))
      | false =>
        rw [hb] at c1
        exact ss_nx (st_if0 c1) (ss_rt (st_ret (e_cB (a_cons c2 a_nil) (all_map _ _))))
    | _ => cases hd
theorem _law_is_name_ok (h : ok0 d = true) (hs : ∀ x, d = .str x → x.length ≤ SZ) : C (k + 1) "_law_is_name" [d] S = .ok (.bl (pName d)) S := by
  refine call_rt T__law_is_name rfl ?_ rfl
  have w : ∀ {r : Sms} {R : Rs Fl}, evSs ⟨C k, conT cons⟩ r [some d, some (.lst res), none] S = R → ∀ {A B : Ex}, (∀ e, evE ⟨C k, conT cons⟩ A e S = .ok (.lst (res.take 16)) S) → (∀ e, evE ⟨C k, conT cons⟩ B e S = .ok (.lst (res.drop 16)) S) →
      evSs ⟨C k, conT cons⟩ (.cons (.asg (.nm 1) A) (.cons (.asg (.nm 1) (.bin .add (.var 1) B)) r)) [some d, none, none] S = R := fun hr A B hA hB =>
    ss_nx (st_asg (hA _) rfl) (ss_nx (st_asg (d := .lst res) (e_bin (e_var rfl) (hB _) rfl) rfl) hr)
  refine w ?_ (fun e => ?_) (fun e => ?_)
  case refine_2 => exact e_lst (ds := res.take 16) (by iterate 16 refine a_cons e_cst ?_
                                                       exact a_nil) (by decide)
  case refine_3 => exact e_lst (ds := res.drop 16) (by iterate 8 refine a_cons e_cst ?_
                                                       exact a_nil) (by decide)
  cases hd : isS d with
  | false =>
    have : pName d = false := by cases d <;> first | rfl | cases hd
    rw [this]
    exact ss_rt (st_ift (t_ort (t_nt (t := false) (t_tst (e_isi (e_var rfl) ((isi_s h).trans (congrArg some hd))) rfl))) (ss_rt (st_ret e_cst)))
  | true =>
    cases d with
    | str x =>
      have hx := hs x rfl
      have c1 : evT ⟨C k, conT cons⟩ (.or (.nt (.tst (.isi (.var 0) [.str]))) (.or (.nt (.chn .le .le (.cst (.int 1)) (.cB .len (.cons (.var 0) .nil)) (.cst (.int 8)))) (.cmp .inn (.var 0) (.var 1)))) [some (.str x), some (.lst res), none] S = .ok (!(decide ((1 : Int) ≤ x.length) && decide ((x.length : Int) ≤ 8)) || isIn (.str x) res) S :=
        t_orf (t_nt (t := true) (t_tst (e_isi (e_var rfl) rfl) rfl)) (t_or (t_nt (t_chn (d := .int 1) (d1 := .int x.length) (d2 := .int 8) e_cst (e_cB (a_cons (e_var rfl) a_nil) (len_str hx)) rfl e_cst (fun _ => rfl))) (fun _ => t_cmp (e_var rfl) (e_var rfl) inn_res2))
      have c2 : evE ⟨C k, conT cons⟩ (.comp [2] (.var 2) (.nm 2) (.seq (.var 0)) (.cmp .nin (.var 2) (.cst (.str "abcdefghijklmnopqrstuvwxyz")))) [some (.str x), some (.lst res), none] S = .ok (.lst (((chs x).filter fun c => !inL c).map id)) S :=
        comp_flt (i_seq (e_var rfl) (src_str hx)) (by rw [chs_len]; exact hx) fun c hc => ⟨_, rfl, t_cmp (e_var rfl) e_cst (nin_L hc), fun _ => e_var rfl⟩
      show evSs ⟨C k, conT cons⟩ _ [some (.str x), some (.lst res), none] S = .ok (.rt (.bl (!(!(decide ((1 : Int) ≤ x.length) && decide ((x.length : Int) ≤ 8)) || isIn (.str x) res) && (chs x).all inL))) S
      cases hb : (!(decide ((1 : Int) ≤ x.length) && decide ((x.length : Int) ≤ 8)) || isIn (.str x) res) with
      | true =>
        rw [hb] at c1
        exact ss_rt (st_ift c1 (ss_rt (st_ret e_cst)))
      | false =>
        rw [hb] at c1
        rw [List.map_id] at c2
        have c3 := eq_nil (chs_dat (x := x))
        rw [all_flt] at c3
        exact ss_nx (st_if0 c1) (ss_rt (st_ret (e_cmp c2 (e_lst a_nil (by decide)) c3)))
    | _ => cases hd
end
end K01

set_option maxRecDepth 100000
set_option maxHeartbeats 1000000
namespace K01
open PySem L2 PyI
structure G (d : D) : Prop where
  ok : ok0 d = true
  el : ∀ ds, d = .tup ds → ds.length ≤ 1000 ∧ smls 1000 ds = true
  st : ∀ x, d = .str x → x.length ≤ SZ
theorem G.of {d : D} (h : d.sml 1000 = true) : G d := by
  refine ⟨sml_ok0 h, fun ds e => ?_, fun x e => ?_⟩
  · subst e; simpa [D.sml] using h
  · subst e
    have : x.length ≤ 1000 := by simpa [D.sml] using h
    show _ ≤ 16777216
    omega
theorem G.edic : G .edic := ⟨rfl, fun _ h => (nomatch h), fun _ h => (nomatch h)⟩
theorem G.mem {ds : List D} (h : G (.tup ds)) {d : D} (hd : d ∈ ds) : G d := .of (smls_all.mp (h.el ds rfl).2 d hd)
theorem G.len {ds : List D} (h : G (.tup ds)) : ds.length ≤ SZ := by
  have := (h.el ds rfl).1
  show _ ≤ 16777216
  omega
theorem G.dats {ds : List D} (h : G (.tup ds)) : dats ds = true := smls_dat (h.el ds rfl).2
def pC (rows : Int) : D → Bool
  | .tup cs => ((cs.length : Int) == rows) && cs.all (inR (-20) 20)
  | _ => false
section
variable {k : Nat} {S : Store} {d : D} {W : Wd} {e : PyI.Env} {rows : Int}
theorem pSum3 {a b c : D} : pSum rows (.tup [a, b, c]) = (inR (-200) 200 a && (inR (-20) 20 b && pC rows c)) := by cases c <;> simp [pSum, pC]
theorem pSum_len {ds : List D} (h : ds.length ≠ 3) : pSum rows (.tup ds) = false := by
  unfold pSum
  split
  · rename_i e; cases e; exact absurd rfl h
  · rfl
theorem pSum_nt (h : isT d = false) : pSum rows d = false := by cases d <;> first | rfl | cases h
theorem ne_int (i j : Int) : cmpop .ne (.int i) (.int j) = some (!(i == j)) := rfl
theorem len3 : ∀ {ds : List D}, ds.length = 3 → ∃ a b c, ds = [a, b, c]
  | [a, b, c], _ => ⟨a, b, c, rfl⟩
theorem dats_one {α : Type} (xs : List α) : dats (xs.map fun _ => D.int 1) = true := dats_const _ rfl xs
theorem isE_map {α β : Type} (f : α → β) (xs : List α) : (xs.map f).isEmpty = xs.isEmpty := by cases xs <;> rfl
theorem is_sum_ok (h : G d) : C (k + 3) "is_sum" [d, .int rows] S = .ok (.bl (pSum rows d)) S := by
  refine call_rt T_is_sum rfl ?_ rfl
  show evSs ⟨C (k + 2), conT cons⟩ e_is_sum [some d, some (.int rows), none] S = .ok (.rt (.bl (pSum rows d))) S
  cases hd : isT d with
  | false =>
    rw [pSum_nt hd]
    exact ss_rt (st_ift (t_ort (t_nt (t := false) (t_tst (e_isi (e_var rfl) ((isi_t h.ok).trans (congrArg some hd))) rfl))) (ss_rt (st_ret e_cst)))
  | true =>
    cases d with
    | tup ds =>
      have n0 : evT ⟨C (k + 2), conT cons⟩ (.nt (.tst (.isi (.var 0) [.tuple]))) [some (.tup ds), some (.int rows), none] S = .ok false S := t_nt (t := true) (t_tst (e_isi (e_var rfl) rfl) rfl)
      by_cases hl : ds.length = 3
      · obtain ⟨a, b, c, rfl⟩ := len3 hl
        have ga := h.mem (d := a) (by simp)
        have gb := h.mem (d := b) (by simp)
        have gc := h.mem (d := c) (by simp)
        rw [pSum3]
        have n1 : evT ⟨C (k + 2), conT cons⟩ (.cmp .ne (.cB .len (.cons (.var 0) .nil)) (.glo "SUM_LONG")) [some (.tup [a, b, c]), some (.int rows), none] S = .ok false S := t_cmp (d := .int 3) (d1 := .int 3) (e_cB (a_cons (e_var rfl) a_nil) rfl) (e_glo G_SUM_LONG) rfl
        have n2 : evT ⟨C (k + 2), conT cons⟩ (.nt (.tst (.isi (.ix (.var 0) (.cst (.int 2))) [.tuple]))) [some (.tup [a, b, c]), some (.int rows), none] S = .ok (!isT c) S := t_nt (t_tst (e_isi (e_ixt (n := 2) (e_var rfl) e_cst rfl) (isi_t gc.ok)) rfl)
        cases hc : isT c with
        | false =>
          rw [hc] at n2
          have : pC rows c = false := by cases c <;> first | rfl | cases hc
          rw [this, Bool.and_false, Bool.and_false]
          exact ss_rt (st_ift (t_orf n0 (t_orf n1 n2)) (ss_rt (st_ret e_cst)))
        | true =>
          rw [hc] at n2
          cases c with
          | tup cs =>
            have m1 : evT ⟨C (k + 2), conT cons⟩ (.or (.nt (.tst (.cF "is_within" (.cons (.ix (.var 0) (.cst (.int 0))) (.cons (.neg (.glo "MOST_CONSTANT")) (.cons (.glo "MOST_CONSTANT") .nil)))))) (.nt (.tst (.cF "is_within" (.cons (.ix (.var 0) (.cst (.int 1))) (.cons (.neg (.glo "MOST_FACTOR")) (.cons (.glo "MOST_FACTOR") .nil))))))) [some (.tup [a, b, .tup cs]), some (.int rows), none] S = .ok (!inR (-200) 200 a || !inR (-20) 20 b) S :=
              t_or (t_nt (t_tst (e_cF (ds := [a, .int (-200), .int 200]) (a_cons (e_ixt (n := 0) (e_var rfl) e_cst rfl) (a_cons (e_neg (e_glo G_MOST_CONSTANT)) (a_cons (e_glo G_MOST_CONSTANT) a_nil))) (is_within_ok ga.ok)) rfl))
                fun _ => t_nt (t_tst (e_cF (ds := [b, .int (-20), .int 20]) (a_cons (e_ixt (n := 1) (e_var rfl) e_cst rfl) (a_cons (e_neg (e_glo G_MOST_FACTOR)) (a_cons (e_glo G_MOST_FACTOR) a_nil))) (is_within_ok gb.ok)) rfl)
            have m2 : evE ⟨C (k + 2), conT cons⟩ (.comp [2] (.cF "is_within" (.cons (.var 2) (.cons (.neg (.glo "MOST_FACTOR")) (.cons (.glo "MOST_FACTOR") .nil)))) (.nm 2) (.seq (.ix (.var 0) (.cst (.int 2)))) .yes) [some (.tup [a, b, .tup cs]), some (.int rows), none] S = .ok (.lst (cs.map fun c => .bl (inR (-20) 20 c))) S :=
              comp_map (i_seq (e_ixt (n := 2) (e_var rfl) e_cst rfl) rfl) gc.len fun c hc => ⟨_, rfl, e_cF (ds := [c, .int (-20), .int 20]) (a_cons (e_var rfl) (a_cons (e_neg (e_glo G_MOST_FACTOR)) (a_cons (e_glo G_MOST_FACTOR) a_nil))) (is_within_ok (gc.mem hc).ok)⟩
            refine ss_nx (st_if0 (t_orf n0 (t_orf n1 n2))) ?_
            cases ha : inR (-200) 200 a with
            | false =>
              rw [ha] at m1
              exact ss_rt (st_ift m1 (ss_rt (st_ret e_cst)))
            | true =>
              cases hb : inR (-20) 20 b with
              | false =>
                rw [ha, hb] at m1
                exact ss_rt (st_ift m1 (ss_rt (st_ret e_cst)))
              | true =>
                rw [ha, hb] at m1
                have pc : (true && (true && pC rows (.tup cs))) = (((cs.length : Int) == rows) && cs.all (inR (-20) 20)) := rfl
                rw [pc]
                exact ss_nx (st_if0 m1) (ss_rt (st_ret (e_and (e_cmp (d := .int cs.length) (d1 := .int rows) (e_cB (a_cons (e_ixt (n := 2) (e_var rfl) e_cst rfl) a_nil) rfl) (e_var rfl) (eq_int _ _)) fun _ => e_cB (a_cons m2 a_nil) (all_map _ _))))
          | _ => cases hc
      · rw [pSum_len hl]
        refine ss_rt (st_ift (t_orf n0 (t_ort (t_cmp (d := .int ds.length) (d1 := .int 3) (e_cB (a_cons (e_var rfl) a_nil) rfl) (e_glo G_SUM_LONG) ?_))) (ss_rt (st_ret e_cst)))
        rw [ne_int, beq_eq_false_iff_ne.mpr (by omega)]; rfl
    | _ => cases hd
theorem _law_is_sum_ok (h : G d) : C (k + 3) "_law_is_sum" [d, .int rows] S = .ok (.bl (pSum rows d)) S := by
  refine call_rt T__law_is_sum rfl ?_ rfl
  show evSs ⟨C (k + 2), conT cons⟩ e__law_is_sum [some d, some (.int rows), none] S = .ok (.rt (.bl (pSum rows d))) S
  cases hd : isT d with
  | false =>
    rw [pSum_nt hd]
    exact ss_rt (st_ift (t_ort (t_nt (t := false) (t_tst (e_isi (e_var rfl) ((isi_t h.ok).trans (congrArg some hd))) rfl))) (ss_rt (st_ret e_cst)))
  | true =>
    cases d with
    | tup ds =>
      have n0 : evT ⟨C (k + 2), conT cons⟩ (.nt (.tst (.isi (.var 0) [.tuple]))) [some (.tup ds), some (.int rows), none] S = .ok false S := t_nt (t := true) (t_tst (e_isi (e_var rfl) rfl) rfl)
      by_cases hl : ds.length = 3
      · obtain ⟨a, b, c, rfl⟩ := len3 hl
        have ga := h.mem (d := a) (by simp)
        have gb := h.mem (d := b) (by simp)
        have gc := h.mem (d := c) (by simp)
        rw [pSum3]
        have n1 : evT ⟨C (k + 2), conT cons⟩ (.cmp .ne (.cB .len (.cons (.var 0) .nil)) (.cst (.int 3))) [some (.tup [a, b, c]), some (.int rows), none] S = .ok false S := t_cmp (d := .int 3) (d1 := .int 3) (e_cB (a_cons (e_var rfl) a_nil) rfl) e_cst rfl
        have m1 : evT ⟨C (k + 2), conT cons⟩ (.or (.nt (.tst (.cF "_law_in" (.cons (.ix (.var 0) (.cst (.int 0))) (.cons (.neg (.cst (.int 200))) (.cons (.cst (.int 200)) .nil)))))) (.nt (.tst (.cF "_law_in" (.cons (.ix (.var 0) (.cst (.int 1))) (.cons (.neg (.cst (.int 20))) (.cons (.cst (.int 20)) .nil))))))) [some (.tup [a, b, c]), some (.int rows), none] S = .ok (!inR (-200) 200 a || !inR (-20) 20 b) S :=
              t_or (t_nt (t_tst (e_cF (ds := [a, .int (-200), .int 200]) (a_cons (e_ixt (n := 0) (e_var rfl) e_cst rfl) (a_cons (e_neg e_cst) (a_cons e_cst a_nil))) (_law_in_ok ga.ok)) rfl))
                fun _ => t_nt (t_tst (e_cF (ds := [b, .int (-20), .int 20]) (a_cons (e_ixt (n := 1) (e_var rfl) e_cst rfl) (a_cons (e_neg e_cst) (a_cons e_cst a_nil))) (_law_in_ok gb.ok)) rfl)
        have m3 : evE ⟨C (k + 2), conT cons⟩ (.isi (.ix (.var 0) (.cst (.int 2))) [.tuple]) [some (.tup [a, b, c]), some (.int rows), none] S = .ok (.bl (isT c)) S := e_isi (e_ixt (n := 2) (e_var rfl) e_cst rfl) (isi_t gc.ok)
        cases ha : inR (-200) 200 a with
        | false =>
          rw [ha] at m1
          exact ss_rt (st_ift (t_orf n0 (t_orf n1 m1)) (ss_rt (st_ret e_cst)))
        | true =>
          cases hb : inR (-20) 20 b with
          | false =>
            rw [ha, hb] at m1
            exact ss_rt (st_ift (t_orf n0 (t_orf n1 m1)) (ss_rt (st_ret e_cst)))
          | true =>
            rw [ha, hb] at m1
            have pc : (true && (true && pC rows c)) = (isT c && pC rows c) := by cases c <;> rfl
            rw [pc]
            refine ss_nx (st_if0 (t_orf n0 (t_orf n1 m1))) (ss_rt (st_ret (e_and m3 fun hc => ?_)))
            cases c with
            | tup cs =>
              have m2 : evE ⟨C (k + 2), conT cons⟩ (.comp [2] (.cst (.int 1)) (.nm 2) (.seq (.ix (.var 0) (.cst (.int 2)))) (.nt (.tst (.cF "_law_in" (.cons (.var 2) (.cons (.neg (.cst (.int 20))) (.cons (.cst (.int 20)) .nil))))))) [some (.tup [a, b, .tup cs]), some (.int rows), none] S = .ok (.lst ((cs.filter fun c => !inR (-20) 20 c).map fun _ => .int 1)) S :=
                comp_flt (i_seq (e_ixt (n := 2) (e_var rfl) e_cst rfl) rfl) gc.len fun c hc => ⟨_, rfl, t_nt (t_tst (e_cF (ds := [c, .int (-20), .int 20]) (a_cons (e_var rfl) (a_cons (e_neg e_cst) (a_cons e_cst a_nil))) (_law_in_ok (gc.mem hc).ok)) rfl), fun _ => e_cst⟩
              have c3 := eq_nil (dats_one (cs.filter fun c => !inR (-20) 20 c))
              rw [isE_map, all_flt] at c3
              exact e_and (e_cmp (d := .int cs.length) (d1 := .int rows) (e_cB (a_cons (e_ixt (n := 2) (e_var rfl) e_cst rfl) a_nil) rfl) (e_var rfl) (eq_int _ _)) fun _ => e_cmp m2 (e_lst a_nil (by decide)) c3
            | _ => cases hc
      · rw [pSum_len hl]
        refine ss_rt (st_ift (t_orf n0 (t_ort (t_cmp (d := .int ds.length) (d1 := .int 3) (e_cB (a_cons (e_var rfl) a_nil) rfl) e_cst ?_))) (ss_rt (st_ret e_cst)))
        rw [ne_int, beq_eq_false_iff_ne.mpr (by omega)]; rfl
    | _ => cases hd
end
end K01

set_option maxRecDepth 100000
set_option maxHeartbeats 1000000
namespace K01
open PySem L2 PyI
def pInner (f : D → Bool) : D → Bool
  | .tup ds => if decide ((8 : Int) < ds.length) then false else ds.all f
  | _ => false
def pOne (f : D → Bool) (rows : Int) (s : Str) (x : D) : Bool := if isIn (.str s) [.str "below", .str "zero"] then pSum rows x else if s == "not" then f x else if !isIn (.str s) [.str "all", .str "any"] then false else pInner f x
def pTest : Nat → Int → D → Bool
  | 0, _, _ => false
  | n + 1, rows, .tup (.str s :: r) => if s == "always" then (((r.length + 1 : Nat) : Int) == 1) else (match r with
    | [x] => pOne (pTest n rows) rows s x
    | _ => false)
  | _ + 1, _, _ => false
def pNext (rows marks : Int) : D → Bool
  | .tup [.str s, x] => (s == "mark" && inR 0 (marks - 1) x) || (s == "over" && pSum rows x)
  | _ => false
def pFig (base : Int) : D → Bool
  | .tup ds => decide ((ds.length : Int) ≤ 2) && ds.all (inR 0 (base - 1))
  | _ => false
section
variable {k : Nat} {S : Store} {d : D} {rows : Int}
theorem is_sum_ge {m : Nat} (hm : 3 ≤ m) (h : G d) : C m "is_sum" [d, .int rows] S = .ok (.bl (pSum rows d)) S := by
  obtain ⟨j, rfl⟩ : ∃ j, m = j + 3 := ⟨m - 3, by omega⟩
  exact is_sum_ok h
theorem _law_is_sum_ge {m : Nat} (hm : 3 ≤ m) (h : G d) : C m "_law_is_sum" [d, .int rows] S = .ok (.bl (pSum rows d)) S := by
  obtain ⟨j, rfl⟩ : ∃ j, m = j + 3 := ⟨m - 3, by omega⟩
  exact _law_is_sum_ok h
theorem is_within_ge {m : Nat} {lo hi : Int} (hm : 2 ≤ m) (h : ok0 d = true) : C m "is_within" [d, .int lo, .int hi] S = .ok (.bl (inR lo hi d)) S := by
  obtain ⟨j, rfl⟩ : ∃ j, m = j + 2 := ⟨m - 2, by omega⟩
  exact is_within_ok h
theorem _law_in_ge {m : Nat} {lo hi : Int} (hm : 2 ≤ m) (h : ok0 d = true) : C m "_law_in" [d, .int lo, .int hi] S = .ok (.bl (inR lo hi d)) S := by
  obtain ⟨j, rfl⟩ : ∃ j, m = j + 2 := ⟨m - 2, by omega⟩
  exact _law_in_ok h
theorem pTest_nt {n : Nat} (h : isT d = false) : pTest (n + 1) rows d = false := by cases d <;> first | rfl | cases h
theorem pTest_ns {n : Nat} {a : D} {r : List D} (h : isS a = false) : pTest (n + 1) rows (.tup (a :: r)) = false := by cases a <;> first | rfl | cases h
theorem pTest_s {n : Nat} {s : Str} {r : List D} : pTest (n + 1) rows (.tup (.str s :: r)) = if s == "always" then (((r.length + 1 : Nat) : Int) == 1) else (match r with
    | [x] => pOne (pTest n rows) rows s x
    | _ => false) := rfl
theorem len1 : ∀ {r : List D}, r.length = 1 → ∃ x, r = [x]
  | [x], _ => ⟨x, rfl⟩
theorem match_ne1 {f : D → Bool} : ∀ {r : List D}, r.length ≠ 1 → (match r with
    | [x] => f x
    | _ => false) = false
  | [], _ => rfl
  | [x], h => absurd rfl h
  | _ :: _ :: _, _ => rfl
theorem at0 {a : D} {r : List D} : atI (a :: r) 0 = some a := atI_app (a := []) (b := r) (x := a)
theorem eq_unit {a : D} {r : List D} (h : G (.tup (a :: r))) : cmpop .eq (.tup (a :: r)) (.tup []) = some false := by
  show (if _ then _ else _) = _
  have hd : (D.tup (a :: r)).dat = true := h.dats
  rw [hd, show (D.tup []).flat 64 = true from rfl, Bool.or_true]
  rfl
theorem ss_rt' {W : Wd} {s : Sm} {r : Sms} {e : PyI.Env} {S S1 : Store} {d : D} {R : Rs Fl} (h : evS W s e S = .ok (.rt d) S1) (q : R = .ok (.rt d) S1) : evSs W (.cons s r) e S = R := by rw [q]; exact ss_rt h
theorem is_shallow_ok : ∀ {n m : Nat} {d : D} {S : Store}, n + 4 ≤ m → G d → C m "is_shallow" [d, .int rows, .int n] S = .ok (.bl (pTest n rows d)) S := by
  intro n
  induction n with
  | zero =>
    intro m d S hm h
    obtain ⟨m, rfl⟩ : ∃ j, m = j + 1 := ⟨m - 1, by omega⟩
    refine call_rt T_is_shallow rfl ?_ rfl
    exact ss_rt (st_ift (t_ort (t_cmp (d := .int 0) (d1 := .int 0) (e_var rfl) e_cst rfl)) (ss_rt (st_ret e_cst)))
  | succ n ih =>
    intro m d S hm h
    obtain ⟨m, rfl⟩ : ∃ j, m = j + 1 := ⟨m - 1, by omega⟩
    refine call_rt T_is_shallow rfl ?_ rfl
    show evSs ⟨C m, conT cons⟩ e_is_shallow [some d, some (.int rows), some (.int ((n + 1 : Nat) : Int)), none] S = .ok (.rt (.bl (pTest (n + 1) rows d))) S
    have l0 : ∀ {d : D}, evT ⟨C m, conT cons⟩ (.cmp .eq (.var 2) (.cst (.int 0))) [some d, some (.int rows), some (.int ((n + 1 : Nat) : Int)), none] S = .ok false S := fun {d} =>
      t_cmp (d := .int ((n + 1 : Nat) : Int)) (d1 := .int 0) (e_var rfl) e_cst ((eq_int _ _).trans (congrArg some (beq_eq_false_iff_ne.mpr (by omega))))
    cases hd : isT d with
    | false =>
      rw [pTest_nt hd]
      exact ss_rt (st_ift (t_orf l0 (t_ort (t_nt (t := false) (t_tst (e_isi (e_var rfl) ((isi_t h.ok).trans (congrArg some hd))) rfl)))) (ss_rt (st_ret e_cst)))
    | true =>
      cases d with
      | tup ds =>
        have l1 : ∀ {ds : List D}, evT ⟨C m, conT cons⟩ (.nt (.tst (.isi (.var 0) [.tuple]))) [some (.tup ds), some (.int rows), some (.int ((n + 1 : Nat) : Int)), none] S = .ok false S := fun {ds} => t_nt (t := true) (t_tst (e_isi (e_var rfl) rfl) rfl)
        cases ds with
        | nil => exact ss_rt (st_ift (t_orf l0 (t_orf l1 (t_ort (t_cmp (d := .tup []) (d1 := .tup []) (e_var rfl) (e_tup a_nil (by decide)) rfl)))) (ss_rt (st_ret e_cst)))
        | cons a r =>
          have ga := h.mem (d := a) (by simp)
          have l2 : evT ⟨C m, conT cons⟩ (.cmp .eq (.var 0) (.tup .nil)) [some (.tup (a :: r)), some (.int rows), some (.int ((n + 1 : Nat) : Int)), none] S = .ok false S :=
            t_cmp (d := .tup (a :: r)) (d1 := .tup []) (e_var rfl) (e_tup a_nil (by decide)) (eq_unit h)
          have l3 : evT ⟨C m, conT cons⟩ (.nt (.tst (.isi (.ix (.var 0) (.cst (.int 0))) [.str]))) [some (.tup (a :: r)), some (.int rows), some (.int ((n + 1 : Nat) : Int)), none] S = .ok (!isS a) S := t_nt (t_tst (e_isi (e_ixt (n := 0) (d := a) (e_var rfl) e_cst at0) (isi_s ga.ok)) rfl)
          cases ha : isS a with
          | false =>
            rw [ha] at l3
            rw [pTest_ns ha]
            exact ss_rt (st_ift (t_orf l0 (t_orf l1 (t_orf l2 l3))) (ss_rt (st_ret e_cst)))
          | true =>
            rw [ha] at l3
            cases a with
            | str s =>
              rw [pTest_s]
              refine ss_nx (st_if0 (t_orf l0 (t_orf l1 (t_orf l2 l3)))) ?_
              have q0 : evE ⟨C m, conT cons⟩ (.ix (.var 0) (.cst (.int 0))) [some (.tup (.str s :: r)), some (.int rows), some (.int ((n + 1 : Nat) : Int)), none] S = .ok (.str s) S := e_ixt (n := 0) (d := .str s) (e_var rfl) e_cst at0
              have q1 : evT ⟨C m, conT cons⟩ (.cmp .eq (.ix (.var 0) (.cst (.int 0))) (.cst (.str "always"))) [some (.tup (.str s :: r)), some (.int rows), some (.int ((n + 1 : Nat) : Int)), none] S = .ok (s == "always") S := t_cmp q0 e_cst rfl
              have q2 : evE ⟨C m, conT cons⟩ (.cB .len (.cons (.var 0) .nil)) [some (.tup (.str s :: r)), some (.int rows), some (.int ((n + 1 : Nat) : Int)), none] S = .ok (.int ((r.length + 1 : Nat) : Int)) S := e_cB (a_cons (e_var rfl) a_nil) rfl
              cases hal : (s == ("always" : Str)) with
              | true =>
                rw [hal] at q1
                rw [if_pos rfl]
                exact ss_rt (st_ift q1 (ss_rt (st_ret (e_cmp q2 e_cst (eq_int _ _)))))
              | false =>
                rw [hal] at q1
                rw [if_neg (by decide)]
                refine ss_nx (st_if0 q1) ?_
                by_cases hr : r.length = 1
                · obtain ⟨x, rfl⟩ := len1 hr
                  have gx := h.mem (d := x) (by simp)
                  have x1 : evE ⟨C m, conT cons⟩ (.ix (.var 0) (.cst (.int 1))) [some (.tup [.str s, x]), some (.int rows), some (.int ((n + 1 : Nat) : Int)), none] S = .ok x S := e_ixt (n := 1) (d := x) (e_var rfl) e_cst rfl
                  refine ss_nx (st_if0 (t_cmp (d := .int 2) (d1 := .int 2) q2 e_cst rfl)) ?_
                  have q3 : evT ⟨C m, conT cons⟩ (.cmp .inn (.ix (.var 0) (.cst (.int 0))) (.tup (.cons (.cst (.str "below")) (.cons (.cst (.str "zero")) .nil)))) [some (.tup [.str s, x]), some (.int rows), some (.int ((n + 1 : Nat) : Int)), none] S = .ok (isIn (.str s) [.str "below", .str "zero"]) S := t_cmp q0 (e_tup (a_cons e_cst (a_cons e_cst a_nil)) (by decide)) rfl
                  have q4 : evT ⟨C m, conT cons⟩ (.cmp .eq (.ix (.var 0) (.cst (.int 0))) (.cst (.str "not"))) [some (.tup [.str s, x]), some (.int rows), some (.int ((n + 1 : Nat) : Int)), none] S = .ok (s == "not") S := t_cmp q0 e_cst rfl
                  have lv : ∀ {e3 : Option D}, evE ⟨C m, conT cons⟩ (.bin .sub (.var 2) (.cst (.int 1))) [some (.tup [.str s, x]), some (.int rows), some (.int ((n + 1 : Nat) : Int)), e3] S = .ok (.int (n : Int)) S := fun {e3} => e_bin (d := .int ((n + 1 : Nat) : Int)) (d1 := .int 1) (e_var rfl) e_cst (by show some (D.int (((n + 1 : Nat) : Int) - 1)) = _; rw [show (((n + 1 : Nat) : Int) - 1) = (n : Int) by omega])
                  show _ = Rs.ok (Fl.rt (.bl (if isIn (.str s) [.str "below", .str "zero"] then pSum rows x else if s == "not" then pTest n rows x else if !isIn (.str s) [.str "all", .str "any"] then false else pInner (pTest n rows) x))) S
                  cases h3 : isIn (.str s) [.str "below", .str "zero"] with
                  | true =>
                    rw [h3] at q3
                    exact ss_rt (st_ift q3 (ss_rt (st_ret (e_cF (a_cons x1 (a_cons (e_var rfl) a_nil)) (is_sum_ge (by omega) gx)))))
                  | false =>
                    rw [h3] at q3
                    refine ss_nx (st_if0 q3) ?_
                    cases h4 : (s == ("not" : Str)) with
                    | true =>
                      rw [h4] at q4
                      exact ss_rt (st_ift q4 (ss_rt (st_ret (e_cF (a_cons x1 (a_cons (e_var rfl) (a_cons lv a_nil))) (ih (by omega) gx)))))
                    | false =>
                      rw [h4] at q4
                      refine ss_nx (st_if0 q4) ?_
                      have q5 : evT ⟨C m, conT cons⟩ (.cmp .nin (.ix (.var 0) (.cst (.int 0))) (.tup (.cons (.cst (.str "all")) (.cons (.cst (.str "any")) .nil)))) [some (.tup [.str s, x]), some (.int rows), some (.int ((n + 1 : Nat) : Int)), none] S = .ok (!isIn (.str s) [.str "all", .str "any"]) S := t_cmp q0 (e_tup (a_cons e_cst (a_cons e_cst a_nil)) (by decide)) rfl
                      cases h5 : isIn (.str s) [.str "all", .str "any"] with
                      | false =>
                        rw [h5] at q5
                        exact ss_rt (st_ift (t_ort q5) (ss_rt (st_ret e_cst)))
                      | true =>
                        rw [h5] at q5
                        have q6 : evT ⟨C m, conT cons⟩ (.nt (.tst (.isi (.ix (.var 0) (.cst (.int 1))) [.tuple]))) [some (.tup [.str s, x]), some (.int rows), some (.int ((n + 1 : Nat) : Int)), none] S = .ok (!isT x) S := t_nt (t_tst (e_isi x1 (isi_t gx.ok)) rfl)
                        cases hx : isT x with
                        | false =>
                          rw [hx] at q6
                          have : pInner (pTest n rows) x = false := by cases x <;> first | rfl | cases hx
                          rw [this]
                          exact ss_rt (st_ift (t_orf q5 (t_ort q6)) (ss_rt (st_ret e_cst)))
                        | true =>
                          rw [hx] at q6
                          cases x with
                          | tup ds =>
                            have q7 : evT ⟨C m, conT cons⟩ (.cmp .gt (.cB .len (.cons (.ix (.var 0) (.cst (.int 1))) .nil)) (.glo "MOST_PARTS")) [some (.tup [.str s, .tup ds]), some (.int rows), some (.int ((n + 1 : Nat) : Int)), none] S = .ok (decide ((8 : Int) < ds.length)) S := t_cmp (d := .int ds.length) (d1 := .int 8) (e_cB (a_cons x1 a_nil) rfl) (e_glo G_MOST_PARTS) rfl
                            show _ = Rs.ok (Fl.rt (.bl (if decide ((8 : Int) < ds.length) then false else ds.all (pTest n rows)))) S
                            cases h7 : decide ((8 : Int) < ds.length) with
                            | true =>
                              rw [h7] at q7
                              exact ss_rt (st_ift (t_orf q5 (t_orf q6 q7)) (ss_rt (st_ret e_cst)))
                            | false =>
                              rw [h7] at q7
                              refine ss_nx (st_if0 (t_orf q5 (t_orf q6 q7))) ?_
                              show _ = Rs.ok (Fl.rt (.bl (ds.all (pTest n rows)))) S
                              have cm : evE ⟨C m, conT cons⟩ (.comp [3] (.cF "is_shallow" (.cons (.var 3) (.cons (.var 1) (.cons (.bin .sub (.var 2) (.cst (.int 1))) .nil)))) (.nm 3) (.seq (.ix (.var 0) (.cst (.int 1)))) .yes) [some (.tup [.str s, .tup ds]), some (.int rows), some (.int ((n + 1 : Nat) : Int)), none] S = .ok (.lst (ds.map fun x => .bl (pTest n rows x))) S :=
                                comp_map (i_seq x1 rfl) gx.len fun y hy => ⟨_, rfl, e_cF (a_cons (e_var rfl) (a_cons (e_var rfl) (a_cons lv a_nil))) (ih (by omega) (gx.mem hy))⟩
                              exact ss_rt (st_ret (e_cB (a_cons cm a_nil) (all_map _ _)))
                          | _ => cases hx
                · refine ss_rt' (st_ift (t_cmp (d := .int ((r.length + 1 : Nat) : Int)) (d1 := .int 2) q2 e_cst ?_) (ss_rt (st_ret e_cst))) (by rw [match_ne1 hr])
                  rw [ne_int, beq_eq_false_iff_ne.mpr (by omega)]; rfl
            | _ => cases ha
      | _ => cases hd
theorem _law_is_test_ok : ∀ {n m : Nat} {d : D} {S : Store}, n + 4 ≤ m → G d → C m "_law_is_test" [d, .int rows, .int n] S = .ok (.bl (pTest n rows d)) S := by
  intro n
  induction n with
  | zero =>
    intro m d S hm h
    obtain ⟨m, rfl⟩ : ∃ j, m = j + 1 := ⟨m - 1, by omega⟩
    refine call_rt T__law_is_test rfl ?_ rfl
    exact ss_rt (st_ift (t_ort (t_cmp (d := .int 0) (d1 := .int 0) (e_var rfl) e_cst rfl)) (ss_rt (st_ret e_cst)))
  | succ n ih =>
    intro m d S hm h
    obtain ⟨m, rfl⟩ : ∃ j, m = j + 1 := ⟨m - 1, by omega⟩
    refine call_rt T__law_is_test rfl ?_ rfl
    show evSs ⟨C m, conT cons⟩ e__law_is_test [some d, some (.int rows), some (.int ((n + 1 : Nat) : Int)), none] S = .ok (.rt (.bl (pTest (n + 1) rows d))) S
    have l0 : ∀ {d : D}, evT ⟨C m, conT cons⟩ (.cmp .eq (.var 2) (.cst (.int 0))) [some d, some (.int rows), some (.int ((n + 1 : Nat) : Int)), none] S = .ok false S := fun {d} =>
      t_cmp (d := .int ((n + 1 : Nat) : Int)) (d1 := .int 0) (e_var rfl) e_cst ((eq_int _ _).trans (congrArg some (beq_eq_false_iff_ne.mpr (by omega))))
    cases hd : isT d with
    | false =>
      rw [pTest_nt hd]
      exact ss_rt (st_ift (t_orf l0 (t_ort (t_nt (t := false) (t_tst (e_isi (e_var rfl) ((isi_t h.ok).trans (congrArg some hd))) rfl)))) (ss_rt (st_ret e_cst)))
    | true =>
      cases d with
      | tup ds =>
        have l1 : ∀ {ds : List D}, evT ⟨C m, conT cons⟩ (.nt (.tst (.isi (.var 0) [.tuple]))) [some (.tup ds), some (.int rows), some (.int ((n + 1 : Nat) : Int)), none] S = .ok false S := fun {ds} => t_nt (t := true) (t_tst (e_isi (e_var rfl) rfl) rfl)
        cases ds with
        | nil => exact ss_rt (st_ift (t_orf l0 (t_orf l1 (t_ort (t_cmp (d := .tup []) (d1 := .tup []) (e_var rfl) (e_tup a_nil (by decide)) rfl)))) (ss_rt (st_ret e_cst)))
        | cons a r =>
          have ga := h.mem (d := a) (by simp)
          have l2 : evT ⟨C m, conT cons⟩ (.cmp .eq (.var 0) (.tup .nil)) [some (.tup (a :: r)), some (.int rows), some (.int ((n + 1 : Nat) : Int)), none] S = .ok false S :=
            t_cmp (d := .tup (a :: r)) (d1 := .tup []) (e_var rfl) (e_tup a_nil (by decide)) (eq_unit h)
          have l3 : evT ⟨C m, conT cons⟩ (.nt (.tst (.isi (.ix (.var 0) (.cst (.int 0))) [.str]))) [some (.tup (a :: r)), some (.int rows), some (.int ((n + 1 : Nat) : Int)), none] S = .ok (!isS a) S := t_nt (t_tst (e_isi (e_ixt (n := 0) (d := a) (e_var rfl) e_cst at0) (isi_s ga.ok)) rfl)
          cases ha : isS a with
          | false =>
            rw [ha] at l3
            rw [pTest_ns ha]
            exact ss_rt (st_ift (t_orf l0 (t_orf l1 (t_orf l2 l3))) (ss_rt (st_ret e_cst)))
          | true =>
            rw [ha] at l3
            cases a with
            | str s =>
              rw [pTest_s]
              refine ss_nx (st_if0 (t_orf l0 (t_orf l1 (t_orf l2 l3)))) ?_
              have q0 : evE ⟨C m, conT cons⟩ (.ix (.var 0) (.cst (.int 0))) [some (.tup (.str s :: r)), some (.int rows), some (.int ((n + 1 : Nat) : Int)), none] S = .ok (.str s) S := e_ixt (n := 0) (d := .str s) (e_var rfl) e_cst at0
              have q1 : evT ⟨C m, conT cons⟩ (.cmp .eq (.ix (.var 0) (.cst (.int 0))) (.cst (.str "always"))) [some (.tup (.str s :: r)), some (.int rows), some (.int ((n + 1 : Nat) : Int)), none] S = .ok (s == "always") S := t_cmp q0 e_cst rfl
              have q2 : evE ⟨C m, conT cons⟩ (.cB .len (.cons (.var 0) .nil)) [some (.tup (.str s :: r)), some (.int rows), some (.int ((n + 1 : Nat) : Int)), none] S = .ok (.int ((r.length + 1 : Nat) : Int)) S := e_cB (a_cons (e_var rfl) a_nil) rfl
              cases hal : (s == ("always" : Str)) with
              | true =>
                rw [hal] at q1
                rw [if_pos rfl]
                exact ss_rt (st_ift q1 (ss_rt (st_ret (e_cmp q2 e_cst (eq_int _ _)))))
              | false =>
                rw [hal] at q1
                rw [if_neg (by decide)]
                refine ss_nx (st_if0 q1) ?_
                by_cases hr : r.length = 1
                · obtain ⟨x, rfl⟩ := len1 hr
                  have gx := h.mem (d := x) (by simp)
                  have x1 : evE ⟨C m, conT cons⟩ (.ix (.var 0) (.cst (.int 1))) [some (.tup [.str s, x]), some (.int rows), some (.int ((n + 1 : Nat) : Int)), none] S = .ok x S := e_ixt (n := 1) (d := x) (e_var rfl) e_cst rfl
                  refine ss_nx (st_if0 (t_cmp (d := .int 2) (d1 := .int 2) q2 e_cst rfl)) ?_
                  have q3 : evT ⟨C m, conT cons⟩ (.cmp .inn (.ix (.var 0) (.cst (.int 0))) (.tup (.cons (.cst (.str "below")) (.cons (.cst (.str "zero")) .nil)))) [some (.tup [.str s, x]), some (.int rows), some (.int ((n + 1 : Nat) : Int)), none] S = .ok (isIn (.str s) [.str "below", .str "zero"]) S := t_cmp q0 (e_tup (a_cons e_cst (a_cons e_cst a_nil)) (by decide)) rfl
                  have q4 : evT ⟨C m, conT cons⟩ (.cmp .eq (.ix (.var 0) (.cst (.int 0))) (.cst (.str "not"))) [some (.tup [.str s, x]), some (.int rows), some (.int ((n + 1 : Nat) : Int)), none] S = .ok (s == "not") S := t_cmp q0 e_cst rfl
                  have lv : ∀ {e3 : Option D}, evE ⟨C m, conT cons⟩ (.bin .sub (.var 2) (.cst (.int 1))) [some (.tup [.str s, x]), some (.int rows), some (.int ((n + 1 : Nat) : Int)), e3] S = .ok (.int (n : Int)) S := fun {e3} => e_bin (d := .int ((n + 1 : Nat) : Int)) (d1 := .int 1) (e_var rfl) e_cst (by show some (D.int (((n + 1 : Nat) : Int) - 1)) = _; rw [show (((n + 1 : Nat) : Int) - 1) = (n : Int) by omega])
                  show _ = Rs.ok (Fl.rt (.bl (if isIn (.str s) [.str "below", .str "zero"] then pSum rows x else if s == "not" then pTest n rows x else if !isIn (.str s) [.str "all", .str "any"] then false else pInner (pTest n rows) x))) S
                  cases h3 : isIn (.str s) [.str "below", .str "zero"] with
                  | true =>
                    rw [h3] at q3
                    exact ss_rt (st_ift q3 (ss_rt (st_ret (e_cF (a_cons x1 (a_cons (e_var rfl) a_nil)) (_law_is_sum_ge (by omega) gx)))))
                  | false =>
                    rw [h3] at q3
                    refine ss_nx (st_if0 q3) ?_
                    cases h4 : (s == ("not" : Str)) with
                    | true =>
                      rw [h4] at q4
                      exact ss_rt (st_ift q4 (ss_rt (st_ret (e_cF (a_cons x1 (a_cons (e_var rfl) (a_cons lv a_nil))) (ih (by omega) gx)))))
                    | false =>
                      rw [h4] at q4
                      refine ss_nx (st_if0 q4) ?_
                      have q5 : evT ⟨C m, conT cons⟩ (.cmp .nin (.ix (.var 0) (.cst (.int 0))) (.tup (.cons (.cst (.str "all")) (.cons (.cst (.str "any")) .nil)))) [some (.tup [.str s, x]), some (.int rows), some (.int ((n + 1 : Nat) : Int)), none] S = .ok (!isIn (.str s) [.str "all", .str "any"]) S := t_cmp q0 (e_tup (a_cons e_cst (a_cons e_cst a_nil)) (by decide)) rfl
                      cases h5 : isIn (.str s) [.str "all", .str "any"] with
                      | false =>
                        rw [h5] at q5
                        exact ss_rt (st_ift (t_ort q5) (ss_rt (st_ret e_cst)))
                      | true =>
                        rw [h5] at q5
                        have q6 : evT ⟨C m, conT cons⟩ (.nt (.tst (.isi (.ix (.var 0) (.cst (.int 1))) [.tuple]))) [some (.tup [.str s, x]), some (.int rows), some (.int ((n + 1 : Nat) : Int)), none] S = .ok (!isT x) S := t_nt (t_tst (e_isi x1 (isi_t gx.ok)) rfl)
                        cases hx : isT x with
                        | false =>
                          rw [hx] at q6
                          have : pInner (pTest n rows) x = false := by cases x <;> first | rfl | cases hx
                          rw [this]
                          exact ss_rt (st_ift (t_orf q5 (t_ort q6)) (ss_rt (st_ret e_cst)))
                        | true =>
                          rw [hx] at q6
                          cases x with
                          | tup ds =>
                            have q7 : evT ⟨C m, conT cons⟩ (.cmp .gt (.cB .len (.cons (.ix (.var 0) (.cst (.int 1))) .nil)) (.cst (.int 8))) [some (.tup [.str s, .tup ds]), some (.int rows), some (.int ((n + 1 : Nat) : Int)), none] S = .ok (decide ((8 : Int) < ds.length)) S := t_cmp (d := .int ds.length) (d1 := .int 8) (e_cB (a_cons x1 a_nil) rfl) e_cst rfl
                            show _ = Rs.ok (Fl.rt (.bl (if decide ((8 : Int) < ds.length) then false else ds.all (pTest n rows)))) S
                            cases h7 : decide ((8 : Int) < ds.length) with
                            | true =>
                              rw [h7] at q7
                              exact ss_rt (st_ift (t_orf q5 (t_orf q6 q7)) (ss_rt (st_ret e_cst)))
                            | false =>
                              rw [h7] at q7
                              refine ss_nx (st_if0 (t_orf q5 (t_orf q6 q7))) ?_
                              show _ = Rs.ok (Fl.rt (.bl (ds.all (pTest n rows)))) S
                              have cm : evE ⟨C m, conT cons⟩ (.comp [3] (.cst (.int 1)) (.nm 3) (.seq (.ix (.var 0) (.cst (.int 1)))) (.nt (.tst (.cF "_law_is_test" (.cons (.var 3) (.cons (.var 1) (.cons (.bin .sub (.var 2) (.cst (.int 1))) .nil))))))) [some (.tup [.str s, .tup ds]), some (.int rows), some (.int ((n + 1 : Nat) : Int)), none] S = .ok (.lst ((ds.filter fun x => !pTest n rows x).map fun _ => .int 1)) S :=
                                comp_flt (i_seq x1 rfl) gx.len fun y hy => ⟨_, rfl, t_nt (t_tst (e_cF (a_cons (e_var rfl) (a_cons (e_var rfl) (a_cons lv a_nil))) (ih (by omega) (gx.mem hy))) rfl), fun _ => e_cst⟩
                              have c3 := eq_nil (dats_one (ds.filter fun x => !pTest n rows x))
                              rw [isE_map, all_flt] at c3
                              exact ss_rt (st_ret (e_cmp cm (e_lst a_nil (by decide)) c3))
                          | _ => cases hx
                · refine ss_rt' (st_ift (t_cmp (d := .int ((r.length + 1 : Nat) : Int)) (d1 := .int 2) q2 e_cst ?_) (ss_rt (st_ret e_cst))) (by rw [match_ne1 hr])
                  rw [ne_int, beq_eq_false_iff_ne.mpr (by omega)]; rfl
            | _ => cases ha
      | _ => cases hd
end
end K01

set_option maxRecDepth 100000
set_option maxHeartbeats 1000000
namespace K01
open PySem L2 PyI
section
variable {S : Store} {d : D} {rows marks base : Int} {m : Nat}
theorem is_test_ok (hm : 11 ≤ m) (h : G d) : C m "is_test" [d, .int rows] S = .ok (.bl (pTest 6 rows d)) S := by
  obtain ⟨m, rfl⟩ : ∃ j, m = j + 1 := ⟨m - 1, by omega⟩
  refine call_rt T_is_test rfl ?_ rfl
  exact ss_rt (st_ret (e_cF (ds := [d, .int rows, .int 6]) (a_cons (e_var rfl) (a_cons (e_var rfl) (a_cons (e_glo G_MOST_DEPTH) a_nil))) (is_shallow_ok (n := 6) (by omega) h)))
theorem pNext_nt (h : isT d = false) : pNext rows marks d = false := by cases d <;> first | rfl | cases h
theorem pNext_len {ds : List D} (h : ds.length ≠ 2) : pNext rows marks (.tup ds) = false := by
  unfold pNext
  split
  · rename_i e; cases e; exact absurd rfl h
  · rfl
theorem pNext_ns {a x : D} (h : isS a = false) : pNext rows marks (.tup [a, x]) = false := by cases a <;> first | rfl | cases h
theorem len2 : ∀ {ds : List D}, ds.length = 2 → ∃ a b, ds = [a, b]
  | [a, b], _ => ⟨a, b, rfl⟩
theorem next_head {f : Sms} {r : Sms} (h : G d) (hf : f = .cons (.ret (.cst (.bl false))) .nil)
    (hr : ∀ s x, d = .tup [.str s, x] → evSs ⟨C m, conT cons⟩ r [some d, some (.int rows), some (.int marks)] S = .ok (.rt (.bl (pNext rows marks d))) S) :
    evSs ⟨C m, conT cons⟩ (.cons (.ifs (.or (.nt (.tst (.isi (.var 0) [.tuple]))) (.or (.cmp .ne (.cB .len (.cons (.var 0) .nil)) (.cst (.int 2))) (.nt (.tst (.isi (.ix (.var 0) (.cst (.int 0))) [.str]))))) f .nil) r) [some d, some (.int rows), some (.int marks)] S = .ok (.rt (.bl (pNext rows marks d))) S := by
  subst hf
  cases hd : isT d with
  | false =>
    rw [pNext_nt hd]
    exact ss_rt (st_ift (t_ort (t_nt (t := false) (t_tst (e_isi (e_var rfl) ((isi_t h.ok).trans (congrArg some hd))) rfl))) (ss_rt (st_ret e_cst)))
  | true =>
    cases d with
    | tup ds =>
      have n0 : evT ⟨C m, conT cons⟩ (.nt (.tst (.isi (.var 0) [.tuple]))) [some (.tup ds), some (.int rows), some (.int marks)] S = .ok false S := t_nt (t := true) (t_tst (e_isi (e_var rfl) rfl) rfl)
      by_cases hl : ds.length = 2
      · obtain ⟨a, x, rfl⟩ := len2 hl
        have ga := h.mem (d := a) (by simp)
        have n1 : evT ⟨C m, conT cons⟩ (.cmp .ne (.cB .len (.cons (.var 0) .nil)) (.cst (.int 2))) [some (.tup [a, x]), some (.int rows), some (.int marks)] S = .ok false S := t_cmp (d := .int 2) (d1 := .int 2) (e_cB (a_cons (e_var rfl) a_nil) rfl) e_cst rfl
        have n2 : evT ⟨C m, conT cons⟩ (.nt (.tst (.isi (.ix (.var 0) (.cst (.int 0))) [.str]))) [some (.tup [a, x]), some (.int rows), some (.int marks)] S = .ok (!isS a) S := t_nt (t_tst (e_isi (e_ixt (n := 0) (e_var rfl) e_cst rfl) (isi_s ga.ok)) rfl)
        cases ha : isS a with
        | false =>
          rw [ha] at n2
          rw [pNext_ns ha]
          exact ss_rt (st_ift (t_orf n0 (t_orf n1 n2)) (ss_rt (st_ret e_cst)))
        | true =>
          rw [ha] at n2
          cases a with
          | str s => exact ss_nx (st_if0 (t_orf n0 (t_orf n1 n2))) (hr s x rfl)
          | _ => cases ha
      · rw [pNext_len hl]
        refine ss_rt (st_ift (t_orf n0 (t_ort (t_cmp (d := .int ds.length) (d1 := .int 2) (e_cB (a_cons (e_var rfl) a_nil) rfl) e_cst ?_))) (ss_rt (st_ret e_cst)))
        rw [ne_int, beq_eq_false_iff_ne.mpr (by omega)]; rfl
    | _ => cases hd
theorem mark_over {s : Str} (h : (s == ("mark" : Str)) = true) : (s == ("over" : Str)) = false := by
  rw [beq_iff_eq] at h
  subst h
  decide
theorem is_next_ok (hm : 4 ≤ m) (h : G d) : C m "is_next" [d, .int rows, .int marks] S = .ok (.bl (pNext rows marks d)) S := by
  obtain ⟨m, rfl⟩ : ∃ j, m = j + 1 := ⟨m - 1, by omega⟩
  refine call_rt T_is_next rfl ?_ rfl
  refine next_head h rfl fun s x e => ?_
  subst e
  have gx := h.mem (d := x) (by simp)
  have q0 : evE ⟨C m, conT cons⟩ (.ix (.var 0) (.cst (.int 0))) [some (.tup [.str s, x]), some (.int rows), some (.int marks)] S = .ok (.str s) S := e_ixt (n := 0) (e_var rfl) e_cst rfl
  have q1 : evE ⟨C m, conT cons⟩ (.ix (.var 0) (.cst (.int 1))) [some (.tup [.str s, x]), some (.int rows), some (.int marks)] S = .ok x S := e_ixt (n := 1) (e_var rfl) e_cst rfl
  have c1 : evT ⟨C m, conT cons⟩ (.cmp .eq (.ix (.var 0) (.cst (.int 0))) (.cst (.str "mark"))) [some (.tup [.str s, x]), some (.int rows), some (.int marks)] S = .ok (s == "mark") S := t_cmp q0 e_cst rfl
  show evSs _ _ _ _ = Rs.ok (Fl.rt (.bl ((s == "mark" && inR 0 (marks - 1) x) || (s == "over" && pSum rows x)))) S
  cases h1 : (s == ("mark" : Str)) with
  | true =>
    rw [h1] at c1
    rw [mark_over h1, Bool.false_and, Bool.or_false, Bool.true_and]
    exact ss_rt (st_ift c1 (ss_rt (st_ret (e_cF (ds := [x, .int 0, .int (marks - 1)]) (a_cons q1 (a_cons e_cst (a_cons (e_bin (d := .int marks) (d1 := .int 1) (e_var rfl) e_cst rfl) a_nil))) (is_within_ge (by omega) gx.ok)))))
  | false =>
    rw [h1] at c1
    rw [Bool.false_and, Bool.false_or]
    exact ss_nx (st_if0 c1) (ss_rt (st_ret (e_and (e_cmp q0 e_cst rfl) fun _ => e_cF (ds := [x, .int rows]) (a_cons q1 (a_cons (e_var rfl) a_nil)) (is_sum_ge (by omega) gx))))
theorem _law_is_next_ok (hm : 4 ≤ m) (h : G d) : C m "_law_is_next" [d, .int rows, .int marks] S = .ok (.bl (pNext rows marks d)) S := by
  obtain ⟨m, rfl⟩ : ∃ j, m = j + 1 := ⟨m - 1, by omega⟩
  refine call_rt T__law_is_next rfl ?_ rfl
  refine next_head h rfl fun s x e => ?_
  subst e
  have gx := h.mem (d := x) (by simp)
  have q0 : evE ⟨C m, conT cons⟩ (.ix (.var 0) (.cst (.int 0))) [some (.tup [.str s, x]), some (.int rows), some (.int marks)] S = .ok (.str s) S := e_ixt (n := 0) (e_var rfl) e_cst rfl
  have q1 : evE ⟨C m, conT cons⟩ (.ix (.var 0) (.cst (.int 1))) [some (.tup [.str s, x]), some (.int rows), some (.int marks)] S = .ok x S := e_ixt (n := 1) (e_var rfl) e_cst rfl
  show evSs _ _ _ _ = Rs.ok (Fl.rt (.bl ((s == "mark" && inR 0 (marks - 1) x) || (s == "over" && pSum rows x)))) S
  exact ss_rt (st_ret (e_or (e_and (e_cmp q0 e_cst rfl) fun _ => e_cF (ds := [x, .int 0, .int (marks - 1)]) (a_cons q1 (a_cons e_cst (a_cons (e_bin (d := .int marks) (d1 := .int 1) (e_var rfl) e_cst rfl) a_nil))) (_law_in_ge (by omega) gx.ok))
    fun _ => e_and (e_cmp q0 e_cst rfl) fun _ => e_cF (ds := [x, .int rows]) (a_cons q1 (a_cons (e_var rfl) a_nil)) (_law_is_sum_ge (by omega) gx)))
theorem pFig_eq : pFig base d = (isT d && pFig base d) := by cases d <;> simp [pFig, isT]
theorem are_figures_ok (hm : 3 ≤ m) (h : G d) : C m "are_figures" [d, .int base] S = .ok (.bl (pFig base d)) S := by
  obtain ⟨m, rfl⟩ : ∃ j, m = j + 1 := ⟨m - 1, by omega⟩
  refine call_rt T_are_figures rfl ?_ rfl
  rw [pFig_eq]
  refine ss_rt (st_ret (e_and (e_isi (e_var rfl) (isi_t h.ok)) fun hd => ?_))
  cases d with
  | tup ds =>
    have cm : evE ⟨C m, conT cons⟩ (.comp [2] (.cF "is_within" (.cons (.var 2) (.cons (.cst (.int 0)) (.cons (.bin .sub (.var 1) (.cst (.int 1))) .nil)))) (.nm 2) (.seq (.var 0)) .yes) [some (.tup ds), some (.int base), none] S = .ok (.lst (ds.map fun x => .bl (inR 0 (base - 1) x))) S :=
      comp_map (i_seq (e_var rfl) rfl) h.len fun y hy => ⟨_, rfl, e_cF (ds := [y, .int 0, .int (base - 1)]) (a_cons (e_var rfl) (a_cons e_cst (a_cons (e_bin (d := .int base) (d1 := .int 1) (e_var rfl) e_cst rfl) a_nil))) (is_within_ge (by omega) (h.mem hy).ok)⟩
    exact e_and (e_cmp (d := .int ds.length) (d1 := .int 2) (e_cB (a_cons (e_var rfl) a_nil) rfl) e_cst rfl) fun _ => e_cB (a_cons cm a_nil) (all_map _ _)
  | _ => cases hd
/-- the law's own figures -/
def figE : Ex := (.and (.isi (.var 7) [.tuple]) (.and (.cmp .le (.cB .len (.cons (.var 7) .nil)) (.cst (.int 2))) (.cmp .eq (.comp [11] (.cst (.int 1)) (.nm 11) (.seq (.var 7)) (.nt (.tst (.cF "_law_in" (.cons (.var 11) (.cons (.cst (.int 0)) (.cons (.bin .sub (.var 5) (.cst (.int 1))) .nil))))))) (.lst .nil))))
theorem figE_ok {x0 x1 x2 x3 x4 x6 x8 x9 x10 x11 : Option D} (hm : 2 ≤ m) (h : G d) : evE ⟨C m, conT cons⟩ figE [x0, x1, x2, x3, x4, some (.int base), x6, some d, x8, x9, x10, x11] S = .ok (.bl (pFig base d)) S := by
  rw [pFig_eq]
  refine e_and (e_isi (e_var rfl) (isi_t h.ok)) fun hd => ?_
  cases d with
  | tup ds =>
    have cm : evE ⟨C m, conT cons⟩ (.comp [11] (.cst (.int 1)) (.nm 11) (.seq (.var 7)) (.nt (.tst (.cF "_law_in" (.cons (.var 11) (.cons (.cst (.int 0)) (.cons (.bin .sub (.var 5) (.cst (.int 1))) .nil))))))) [x0, x1, x2, x3, x4, some (.int base), x6, some (.tup ds), x8, x9, x10, x11] S = .ok (.lst ((ds.filter fun x => !inR 0 (base - 1) x).map fun _ => .int 1)) S :=
      comp_flt (i_seq (e_var rfl) rfl) h.len fun y hy => ⟨_, rfl, t_nt (t_tst (e_cF (ds := [y, .int 0, .int (base - 1)]) (a_cons (e_var rfl) (a_cons e_cst (a_cons (e_bin (d := .int base) (d1 := .int 1) (e_var rfl) e_cst rfl) a_nil))) (_law_in_ge hm (h.mem hy).ok)) rfl), fun _ => e_cst⟩
    have c3 := eq_nil (dats_one (ds.filter fun x => !inR 0 (base - 1) x))
    rw [isE_map, all_flt] at c3
    exact e_and (e_cmp (d := .int ds.length) (d1 := .int 2) (e_cB (a_cons (e_var rfl) a_nil) rfl) e_cst rfl) fun _ => e_cmp cm (e_lst a_nil (by decide)) c3
  | _ => cases hd
end
end K01

set_option maxRecDepth 100000
set_option maxHeartbeats 1000000
namespace K01
open PySem L2 PyI
theorem small_of {v : Int} (h : 0 ≤ v) (h2 : v < 100000) : small62 v = true := by
  unfold small62
  have e : (2 : Int) ^ 62 = 4611686018427387904 := by decide
  simp only [Bool.and_eq_true, decide_eq_true_eq, e]
  omega
theorem itInts_len {lo : Int} {n : Nat} : (itInts lo n).length = n := by unfold itInts; simp
section
variable {S : Store} {m : Nat}
theorem some_ge {ds : List D} (hm : 2 ≤ m) (h0 : ds ≠ []) (hl : ds.length ≤ 100) (hB : Bag S) : ∃ (d : D) (S' : Store), C m "_law_some" [.obj 0, .lst ds] S = .ok d S' ∧ Bag S' ∧ d ∈ ds := by
  obtain ⟨j, rfl⟩ : ∃ j, m = j + 2 := ⟨m - 2, by omega⟩
  exact some_ok T__law_some T__law_take h0 (by omega) hB
theorem take_ge {v : Int} (hm : 1 ≤ m) (h0 : 0 < v) (h1 : v < 1000000) (hB : Bag S) : ∃ (d : Int) (S' : Store), C m "_law_take" [.obj 0, .int v] S = .ok (.int d) S' ∧ Bag S' ∧ 0 ≤ d ∧ d < v := by
  obtain ⟨j, rfl⟩ : ∃ j, m = j + 1 := ⟨m - 1, by omega⟩
  exact take_ok T__law_take h0 (by omega) hB
structure IsSum (n : Nat) (d : D) : Prop where
  ex : ∃ (a b : D) (fs : List D), d = .tup [a, b, .tup fs] ∧ isI a = true ∧ isI b = true ∧ fs.length = n ∧ ∀ x ∈ fs, isI x = true
theorem isI_sml {n : Nat} {d : D} (h : isI d = true) : d.sml n = true := by cases d <;> first | rfl | cases h
theorem IsSum.sml {n : Nat} {d : D} (h : IsSum n d) (hn : n ≤ 100) : d.sml 100 = true := by
  obtain ⟨a, b, fs, rfl, ha, hb, hl, hf⟩ := h.ex
  have : smls 100 fs = true := smls_all.mpr fun x hx => isI_sml (hf x hx)
  simp [D.sml, smls, isI_sml ha, isI_sml hb, this]; omega
theorem mem_isI {ds : List D} {d : D} (h : ds.all isI = true) (hd : d ∈ ds) : isI d = true := List.all_eq_true.mp h d hd
theorem mem_sml {n : Nat} {ds : List D} {d : D} (h : smls n ds = true) (hd : d ∈ ds) : d.sml n = true := smls_all.mp h d hd
theorem sum_ok {n : Nat} (hm : 3 ≤ m) (hn : n ≤ 100) (hB : Bag S) : ∃ (d : D) (S' : Store), C m "_law_sum" [.obj 0, .int (n : Int)] S = .ok d S' ∧ Bag S' ∧ IsSum n d := by
  obtain ⟨m, rfl⟩ : ∃ j, m = j + 1 := ⟨m - 1, by omega⟩
  obtain ⟨fs, S1, h1, b1, l1, q1⟩ := comp_inv (W := ⟨C m, conT cons⟩) (own := [3]) (elt := .cF "_law_some" (.cons (.var 0) (.cons (.lst (.cons (.cst (.int 0)) (.cons (.cst (.int 1)) (.cons (.cst (.int 1)) (.cons (.neg (.cst (.int 1))) (.cons (.cst (.int 2)) .nil)))))) .nil))) (t := .nm 3) (it := .rng (.var 1)) (e := [some (.obj 0), some (.int (n : Int)), none, none]) (S := S) (S0 := S) (xs := itInts 0 ((n : Int)).toNat) (B := Bag) (Q := fun d => isI d = true)
    (i_rng (e_var rfl) (small_of (by omega) (by omega))) hB (by rw [itInts_len]; show _ ≤ 16777216; omega) (fun x hx => ⟨_, rfl, fun S hB => by
      obtain ⟨d, S', k1, k2, k3⟩ := some_ge (S := S) (m := m) (ds := [.int 0, .int 1, .int 1, .int (-1), .int 2]) (by omega) (by simp) (by simp) hB
      exact ⟨d, S', e_cF (ds := [.obj 0, .lst [.int 0, .int 1, .int 1, .int (-1), .int 2]]) (a_cons (e_var rfl) (a_cons rfl a_nil)) k1, k2, mem_isI rfl k3⟩⟩)
  obtain ⟨a, S2, h2, b2, q2⟩ := some_ge (S := S1) (m := m) (ds := [.int 0, .int 0, .int 1, .int (-1), .int 3]) (by omega) (by simp) (by simp) b1
  obtain ⟨b, S3, h3, b3, q3⟩ := some_ge (S := S2) (m := m) (ds := [.int 0, .int 1, .int (-1)]) (by omega) (by simp) (by simp) b2
  refine ⟨.tup [a, b, .tup fs], S3, ?_, b3, ⟨a, b, fs, rfl, mem_isI rfl q2, mem_isI rfl q3, by rw [l1, itInts_len]; omega, q1⟩⟩
  refine call_rt T__law_sum rfl ?_ (by rw [b3.len, hB.len])
  refine ss_nx (st_asg (d := .tup fs) (e_cB (ds := [.lst fs]) (a_cons h1 a_nil) rfl) rfl) ?_
  exact ss_rt (st_ret (e_tup (ds := [a, b, .tup fs]) (a_cons (e_cF (ds := [.obj 0, .lst [.int 0, .int 0, .int 1, .int (-1), .int 3]]) (a_cons (e_var rfl) (a_cons rfl a_nil)) h2) (a_cons (e_cF (ds := [.obj 0, .lst [.int 0, .int 1, .int (-1)]]) (a_cons (e_var rfl) (a_cons rfl a_nil)) h3) (a_cons (e_var rfl) a_nil))) (show (3 : Nat) ≤ SZ by decide)))
theorem gt_int (i j : Int) : cmpop .gt (.int i) (.int j) = some (decide (j < i)) := rfl
theorem lt_int (i j : Int) : cmpop .lt (.int i) (.int j) = some (decide (i < j)) := rfl
def testE : Ex := (.ife (.cmp .lt (.var 3) (.cst (.int 2))) (.tup (.cons (.cst (.str "always")) .nil)) (.tup (.cons (.ix (.lst (.cons (.cst (.str "below")) (.cons (.cst (.str "zero")) .nil))) (.bin .mod (.var 3) (.cst (.int 2)))) (.cons (.cF "_law_sum" (.cons (.var 0) (.cons (.var 1) .nil))) .nil))))
theorem testE_ok {n : Nat} {w : Int} {x2 x4 : Option D} (hm : 3 ≤ m) (hn : n ≤ 100) (w0 : 0 ≤ w) (hB : Bag S) : ∃ (d : D) (S2 : Store), evE ⟨C m, conT cons⟩ testE [some (.obj 0), some (.int (n : Int)), x2, some (.int w), x4] S = .ok d S2 ∧ Bag S2 ∧ d.sml 100 = true := by
  by_cases h : w < 2
  · refine ⟨.tup [.str "always"], S, e_ife (t := true) (t_cmp (d := .int w) (d1 := .int 2) (e_var rfl) e_cst ?_) rfl, hB, by decide⟩
    rw [lt_int, decide_eq_true h]
  · obtain ⟨d, S2, h2, b2, q2⟩ := sum_ok (m := m) (S := S) hm hn hB
    obtain ⟨x, hx, hx2⟩ : ∃ x : Str, atI [D.str "below", D.str "zero"] (w % 2) = some (.str x) ∧ x.length ≤ 100 := by
      rcases (show w % 2 = 0 ∨ w % 2 = 1 by omega) with e | e <;> rw [e]
      · exact ⟨"below", rfl, by decide⟩
      · exact ⟨"zero", rfl, by decide⟩
    refine ⟨.tup [.str x, d], S2, e_ife (t := false) (t_cmp (d := .int w) (d1 := .int 2) (e_var rfl) e_cst ?_) ?_, b2, ?_⟩
    · rw [lt_int, decide_eq_false h]
    · exact e_tup (ds := [.str x, d]) (a_cons (e_ixl (n := w % 2) (ds := [.str "below", .str "zero"]) rfl (e_bin (d := .int w) (d1 := .int 2) (e_var rfl) e_cst rfl) hx) (a_cons (e_cF (ds := [.obj 0, .int (n : Int)]) (a_cons (e_var rfl) (a_cons (e_var rfl) a_nil)) h2) a_nil)) (show (2 : Nat) ≤ SZ by decide)
    · simp [D.sml, smls, hx2, q2.sml hn]
theorem test_ok {n : Nat} (hn : n ≤ 100) : ∀ {dp m : Nat} {S : Store}, dp + 6 ≤ m → Bag S → ∃ (d : D) (S' : Store), C m "_law_test" [.obj 0, .int (n : Int), .int (dp : Int)] S = .ok d S' ∧ Bag S' ∧ d.sml 100 = true := by
  intro dp
  induction dp with
  | zero =>
    intro m S hm hB
    obtain ⟨m, rfl⟩ : ∃ j, m = j + 1 := ⟨m - 1, by omega⟩
    obtain ⟨w, S1, h1, b1, w0, w1⟩ := take_ge (S := S) (m := m) (v := 8) (by omega) (by decide) (by decide) hB
    obtain ⟨d, S2, h2, b2, q2⟩ := testE_ok (m := m) (S := S1) (n := n) (w := w) (x2 := some (.int ((0 : Nat) : Int))) (x4 := none) (by omega) hn w0 b1
    refine ⟨d, S2, ?_, b2, q2⟩
    refine call_rt T__law_test rfl ?_ (by rw [b2.len, hB.len])
    refine ss_nx (st_asg (d := .int w) (e_cF (ds := [.obj 0, .int 8]) (a_cons (e_var rfl) (a_cons e_cst a_nil)) h1) rfl) ?_
    refine ss_nx (st_if0 (t_andf (t_cmp (d := .int ((0 : Nat) : Int)) (d1 := .int 0) (e_var rfl) e_cst rfl))) ?_
    exact ss_rt (st_ret h2)
  | succ dp ih =>
    intro m S hm hB
    obtain ⟨m, rfl⟩ : ∃ j, m = j + 1 := ⟨m - 1, by omega⟩
    obtain ⟨w, S1, h1, b1, w0, w1⟩ := take_ge (S := S) (m := m) (v := 8) (by omega) (by decide) (by decide) hB
    have c0 : ∀ {x4 : Option D}, evT ⟨C m, conT cons⟩ (.cmp .gt (.var 2) (.cst (.int 0))) [some (.obj 0), some (.int (n : Int)), some (.int ((dp + 1 : Nat) : Int)), some (.int w), x4] S1 = .ok true S1 := fun {x4} =>
      t_cmp (d := .int ((dp + 1 : Nat) : Int)) (d1 := .int 0) (e_var rfl) e_cst (by rw [gt_int, decide_eq_true (by omega)])
    have c1 : evT ⟨C m, conT cons⟩ (.cmp .gt (.var 3) (.cst (.int 5))) [some (.obj 0), some (.int (n : Int)), some (.int ((dp + 1 : Nat) : Int)), some (.int w), none] S1 = .ok (decide (5 < w)) S1 := t_cmp (d := .int w) (d1 := .int 5) (e_var rfl) e_cst (gt_int _ _)
    have lv : ∀ {x4 : Option D} {S : Store}, evE ⟨C m, conT cons⟩ (.bin .sub (.var 2) (.cst (.int 1))) [some (.obj 0), some (.int (n : Int)), some (.int ((dp + 1 : Nat) : Int)), some (.int w), x4] S = .ok (.int (dp : Int)) S := fun {x4 S} => e_bin (d := .int ((dp + 1 : Nat) : Int)) (d1 := .int 1) (e_var rfl) e_cst (by show some (D.int (((dp + 1 : Nat) : Int) - 1)) = _; rw [show (((dp + 1 : Nat) : Int) - 1) = (dp : Int) by omega])
    have fin : ∀ (d : D) (S2 : Store), evSs ⟨C m, conT cons⟩ _ [some (.obj 0), some (.int (n : Int)), some (.int ((dp + 1 : Nat) : Int)), some (.int w), none] S1 = .ok (.rt d) S2 → Bag S2 → C (m + 1) "_law_test" [.obj 0, .int (n : Int), .int ((dp + 1 : Nat) : Int)] S = .ok d S2 := fun d S2 hr b2 => by
      refine call_rt T__law_test rfl ?_ (by rw [b2.len, hB.len])
      exact ss_nx (st_asg (d := .int w) (e_cF (ds := [.obj 0, .int 8]) (a_cons (e_var rfl) (a_cons e_cst a_nil)) h1) rfl) hr
    cases hw : decide (5 < w) with
    | false =>
      rw [hw] at c1
      obtain ⟨d, S2, h2, b2, q2⟩ := testE_ok (m := m) (S := S1) (n := n) (w := w) (x2 := some (.int ((dp + 1 : Nat) : Int))) (x4 := none) (by omega) hn w0 b1
      exact ⟨d, S2, fin _ _ (ss_nx (st_if0 (t_andt c0 c1)) (ss_rt (st_ret h2))) b2, b2, q2⟩
    | true =>
      rw [hw] at c1
      by_cases h6 : w = 6
      · subst h6
        obtain ⟨d, S2, h2, b2, q2⟩ := ih (m := m) (S := S1) (by omega) b1
        refine ⟨.tup [.str "not", d], S2, fin _ _ (ss_rt (st_ift (t_andt c0 c1) (ss_rt (st_ift (t_cmp (d := .int 6) (d1 := .int 6) (e_var rfl) e_cst rfl) (ss_rt (st_ret (e_tup (ds := [.str "not", d]) (a_cons e_cst (a_cons (e_cF (a_cons (e_var rfl) (a_cons (e_var rfl) (a_cons lv a_nil))) h2) a_nil)) (show (2 : Nat) ≤ SZ by decide)))))))) b2, b2, ?_⟩
        have : Str.length "not" ≤ 100 := by decide
        simp [D.sml, smls, q2, this]
      · obtain ⟨a, S2, h2, b2, q2⟩ := some_ge (S := S1) (m := m) (ds := [.str "all", .str "any"]) (by omega) (by simp) (by simp) b1
        obtain ⟨v, S3, h3, b3, v0, v1⟩ := take_ge (S := S2) (m := m) (v := 3) (by omega) (by decide) (by decide) b2
        obtain ⟨ts, S4, h4, b4, l4, q4⟩ := comp_inv (W := ⟨C m, conT cons⟩) (own := [4]) (elt := (.cF "_law_test" (.cons (.var 0) (.cons (.var 1) (.cons (.bin .sub (.var 2) (.cst (.int 1))) .nil))))) (t := .nm 4) (it := .rng (.cF "_law_take" (.cons (.var 0) (.cons (.cst (.int 3)) .nil)))) (e := [some (.obj 0), some (.int (n : Int)), some (.int ((dp + 1 : Nat) : Int)), some (.int w), none]) (S := S3) (S0 := S2) (xs := itInts 0 v.toNat) (B := Bag) (Q := fun d => d.sml 100 = true)
          (i_rng (e_cF (ds := [.obj 0, .int 3]) (a_cons (e_var rfl) (a_cons e_cst a_nil)) h3) (small_of v0 (by omega))) b3 (by rw [itInts_len]; show _ ≤ 16777216; omega) (fun x hx => ⟨_, rfl, fun S hB => by
            obtain ⟨d, S', k1, k2, k3⟩ := ih (m := m) (S := S) (by omega) hB
            exact ⟨d, S', e_cF (a_cons (e_var rfl) (a_cons (e_var rfl) (a_cons lv a_nil))) k1, k2, k3⟩⟩)
        refine ⟨.tup [a, .tup ts], S4, fin _ _ (ss_rt (st_ift (t_andt c0 c1) (ss_nx (st_if0 (t_cmp (d := .int w) (d1 := .int 6) (e_var rfl) e_cst ((eq_int _ _).trans (congrArg some (beq_eq_false_iff_ne.mpr h6))))) (ss_rt (st_ret (e_tup (ds := [a, .tup ts]) (a_cons (e_cF (ds := [.obj 0, .lst [.str "all", .str "any"]]) (a_cons (e_var rfl) (a_cons rfl a_nil)) h2) (a_cons (e_cB (ds := [.lst ts]) (a_cons h4 a_nil) rfl) a_nil)) (show (2 : Nat) ≤ SZ by decide))))))) b4, b4, ?_⟩
        have ha : a.sml 100 = true := mem_sml (ds := [.str "all", .str "any"]) (by decide) q2
        have hts : smls 100 ts = true := smls_all.mpr q4
        rw [itInts_len] at l4
        simp [D.sml, smls, ha, hts]; omega
theorem rule_ok {n : Nat} {mk : Int} (hm : 9 ≤ m) (hn : n ≤ 100) (h0 : 0 < mk) (h1 : mk < 1000) (hB : Bag S) : ∃ (t s l : D) (S' : Store), C m "_law_rule" [.obj 0, .int (n : Int), .int mk] S = .ok (.tup [t, s, l]) S' ∧ Bag S' ∧ l.sml 100 = true := by
  obtain ⟨m, rfl⟩ : ∃ j, m = j + 1 := ⟨m - 1, by omega⟩
  obtain ⟨v, S1, k1, b1, v0, v1⟩ := take_ge (S := S) (m := m) (v := 2) (by omega) (by decide) (by decide) hB
  obtain ⟨l, S2, k2, b2, q2⟩ : ∃ (l : D) (S2 : Store), evE ⟨C m, conT cons⟩ (.ife (.cmp .eq (.cF "_law_take" (.cons (.var 0) (.cons (.cst (.int 2)) .nil))) (.cst (.int 0))) (.tup (.cons (.cst (.str "mark")) (.cons (.cF "_law_take" (.cons (.var 0) (.cons (.var 2) .nil))) .nil))) (.tup (.cons (.cst (.str "over")) (.cons (.cF "_law_sum" (.cons (.var 0) (.cons (.var 1) .nil))) .nil)))) [some (.obj 0), some (.int (n : Int)), some (.int mk), none] S = .ok l S2 ∧ Bag S2 ∧ l.sml 100 = true := by
    have c0 : evT ⟨C m, conT cons⟩ (.cmp .eq (.cF "_law_take" (.cons (.var 0) (.cons (.cst (.int 2)) .nil))) (.cst (.int 0))) [some (.obj 0), some (.int (n : Int)), some (.int mk), none] S = .ok (v == 0) S1 := t_cmp (d := .int v) (d1 := .int 0) (e_cF (ds := [.obj 0, .int 2]) (a_cons (e_var rfl) (a_cons e_cst a_nil)) k1) e_cst (eq_int _ _)
    have s4 : Str.length "mark" ≤ 100 ∧ Str.length "over" ≤ 100 := by decide
    cases hv : v == 0 with
    | true =>
      rw [hv] at c0
      obtain ⟨u, S2, k2, b2, u0, u1⟩ := take_ge (S := S1) (m := m) (v := mk) (by omega) h0 (by omega) b1
      exact ⟨.tup [.str "mark", .int u], S2, e_ife c0 (e_tup (ds := [.str "mark", .int u]) (a_cons e_cst (a_cons (e_cF (ds := [.obj 0, .int mk]) (a_cons (e_var rfl) (a_cons (e_var rfl) a_nil)) k2) a_nil)) (show (2 : Nat) ≤ SZ by decide)), b2, by simp [D.sml, smls, s4.1]⟩
    | false =>
      rw [hv] at c0
      obtain ⟨u, S2, k2, b2, u0⟩ := sum_ok (S := S1) (m := m) (n := n) (by omega) hn b1
      exact ⟨.tup [.str "over", u], S2, e_ife c0 (e_tup (ds := [.str "over", u]) (a_cons e_cst (a_cons (e_cF (ds := [.obj 0, .int (n : Int)]) (a_cons (e_var rfl) (a_cons (e_var rfl) a_nil)) k2) a_nil)) (show (2 : Nat) ≤ SZ by decide)), b2, by simp [D.sml, smls, s4.2, u0.sml hn]⟩
  obtain ⟨t, S3, k3, b3, q3⟩ := test_ok hn (dp := 2) (m := m) (S := S2) (by omega) b2
  obtain ⟨s, S4, k4, b4, q4⟩ := sum_ok (S := S3) (m := m) (n := n) (by omega) hn b3
  refine ⟨t, s, l, S4, ?_, b4, q2⟩
  refine call_rt T__law_rule rfl ?_ (by rw [b4.len, hB.len])
  refine ss_nx (st_asg k2 rfl) ?_
  exact ss_rt (st_ret (e_tup (ds := [t, s, l]) (a_cons (e_cF (ds := [.obj 0, .int (n : Int), .int 2]) (a_cons (e_var rfl) (a_cons (e_var rfl) (a_cons e_cst a_nil))) k3) (a_cons (e_cF (ds := [.obj 0, .int (n : Int)]) (a_cons (e_var rfl) (a_cons (e_var rfl) a_nil)) k4) (a_cons (e_var rfl) a_nil))) (show (3 : Nat) ≤ SZ by decide)))
def oddL : List D := [.non, .bl true, .int 7, .str "A", .tup [], .tup [.tup []], .lst [], .edic, .tup [.str "a", .int 1], .tup [.int 0, .int 1], .tup [.tup [.int 1, .int 2]], .int (10 ^ (25 : Int).toNat), .tup [.non], .tup [.tup [.bl true, .int 0]], .int (-1)]
theorem oddL_G : ∀ d ∈ oddL, G d := by
  have : oddL.all (fun d => d.sml 1000 || (match d with | .edic => true | _ => false)) = true := by decide
  intro d hd
  have h := List.all_eq_true.mp this d hd
  cases d with
  | edic => exact G.edic
  | _ => exact G.of (by simpa using h)
theorem odd_ok (hm : 3 ≤ m) (hB : Bag S) : ∃ (d : D) (S' : Store), C m "_law_odd" [.obj 0] S = .ok d S' ∧ Bag S' ∧ G d := by
  obtain ⟨m, rfl⟩ : ∃ j, m = j + 1 := ⟨m - 1, by omega⟩
  obtain ⟨d, S1, h1, b1, q1⟩ := some_ge (S := S) (m := m) (ds := oddL) (by omega) (by simp [oddL]) (by simp [oddL]) hB
  refine ⟨d, S1, ?_, b1, oddL_G d q1⟩
  refine call_rt T__law_odd rfl ?_ (by rw [b1.len, hB.len])
  exact ss_rt (st_ret (e_cF (ds := [.obj 0, .lst oddL]) (a_cons (e_var rfl) (a_cons rfl a_nil)) h1))
end
end K01

set_option maxRecDepth 100000
set_option maxHeartbeats 1000000
namespace K01
open PySem L2 PyI
section
variable {S : Store} {m : Nat}
theorem cut_smls {n : Nat} {ds : List D} {lo hi : Option Int} (h : smls n ds = true) : smls n (PyI.cut ds lo hi) = true := smls_all.mpr fun x hx => smls_all.mp h x (cut_mem hx)
theorem smls_app {n : Nat} {a b : List D} (h : smls n a = true) (h2 : smls n b = true) : smls n (a ++ b) = true := smls_all.mpr fun x hx => (List.mem_append.mp hx).elim (smls_all.mp h x) (smls_all.mp h2 x)
theorem add_tup {a b : List D} (h : a.length ≤ 1000) (h2 : b.length ≤ 1000) : binop .add (.tup a) (.tup b) = some (.tup (a ++ b)) := by
  show (if _ then _ else _) = _
  rw [if_pos (by show _ ≤ 16777216; omega)]
theorem add_lst {a b : List D} (h : a.length ≤ 1000) (h2 : b.length ≤ 1000) : binop .add (.lst a) (.lst b) = some (.lst (a ++ b)) := by
  show (if _ then _ else _) = _
  rw [if_pos (by show _ ≤ 16777216; omega)]
theorem ne_unit {ds : List D} (h : dats ds = true) : cmpop .ne (.tup ds) (.tup []) = some (!ds.isEmpty) := by
  show (if _ then _ else _) = _
  have hd : (D.tup ds).dat = true := h
  rw [hd, show (D.tup []).flat 64 = true from rfl, Bool.or_true]
  cases ds <;> rfl
def bentL (x : D) : List D := [.non, .bl true, .str "", .str "a", .int 7, .int (-1), .tup [], .tup [.int 0], x]
def tailB : Sms := (.cons (.ifs (.and (.tst (.cF "_law_is_int" (.cons (.var 1) .nil))) (.cmp .gt (.var 3) (.cst (.int 0)))) (.cons (.ret (.bin .add (.var 1) (.cF "_law_some" (.cons (.var 0) (.cons (.lst (.cons (.cst (.int 1)) (.cons (.neg (.cst (.int 1))) (.cons (.cst (.int 2)) (.cons (.cst (.int 9)) .nil))))) .nil))))) .nil) .nil) (.cons (.ret (.cF "_law_some" (.cons (.var 0) (.cons (.lst (.cons (.cst .non) (.cons (.cst (.bl true)) (.cons (.cst (.str "")) (.cons (.cst (.str "a")) (.cons (.cst (.int 7)) (.cons (.neg (.cst (.int 1))) (.cons (.tup .nil) (.cons (.tup (.cons (.cst (.int 0)) .nil)) (.cons (.ife (.tst (.isi (.var 1) [.tuple])) (.cB .list (.cons (.var 1) .nil)) (.cst (.str "zz"))) .nil)))))))))) .nil)))) .nil))
theorem is_int_ge {d : D} (hm : 1 ≤ m) (h : ok0 d = true) : C m "_law_is_int" [d] S = .ok (.bl (isI d)) S := by
  obtain ⟨j, rfl⟩ : ∃ j, m = j + 1 := ⟨m - 1, by omega⟩
  exact _law_is_int_ok h
theorem tail_ok {d : D} {w n : Int} (hm : 2 ≤ m) (hd : d.sml 100 = true) (hB : Bag S) : ∃ (r : D) (S' : Store), evSs ⟨C m, conT cons⟩ tailB [some (.obj 0), some d, some (.int n), some (.int w), none] S = .ok (.rt r) S' ∧ Bag S' ∧ r.sml 400 = true := by
  have ok := sml_ok0 hd
  have c1 : evT ⟨C m, conT cons⟩ (.and (.tst (.cF "_law_is_int" (.cons (.var 1) .nil))) (.cmp .gt (.var 3) (.cst (.int 0)))) [some (.obj 0), some d, some (.int n), some (.int w), none] S = .ok (isI d && decide (0 < w)) S :=
    t_and (t_tst (e_cF (ds := [d]) (a_cons (e_var rfl) a_nil) (is_int_ge (by omega) ok)) rfl) fun _ => t_cmp (d := .int w) (d1 := .int 0) (e_var rfl) e_cst (gt_int _ _)
  cases hc : (isI d && decide (0 < w)) with
  | true =>
    rw [hc] at c1
    obtain ⟨a, S1, h1, b1, q1⟩ := some_ge (S := S) (m := m) (ds := [.int 1, .int (-1), .int 2, .int 9]) hm (by simp) (by simp) hB
    have hi : isI d = true := (and2 hc).1
    have ha : isI a = true := mem_isI rfl q1
    cases d with
    | int i =>
      cases a with
      | int j => exact ⟨.int (i + j), S1, ss_rt (st_ift c1 (ss_rt (st_ret (e_bin (d := .int i) (d1 := .int j) (e_var rfl) (e_cF (ds := [.obj 0, .lst [.int 1, .int (-1), .int 2, .int 9]]) (a_cons (e_var rfl) (a_cons rfl a_nil)) h1) rfl)))), b1, rfl⟩
      | _ => cases ha
    | _ => cases hi
  | false =>
    rw [hc] at c1
    obtain ⟨x, hx, hx2⟩ : ∃ x : D, evE ⟨C m, conT cons⟩ (.ife (.tst (.isi (.var 1) [.tuple])) (.cB .list (.cons (.var 1) .nil)) (.cst (.str "zz"))) [some (.obj 0), some d, some (.int n), some (.int w), none] S = .ok x S ∧ x.sml 400 = true := by
      have t1 : evT ⟨C m, conT cons⟩ (.tst (.isi (.var 1) [.tuple])) [some (.obj 0), some d, some (.int n), some (.int w), none] S = .ok (isT d) S := t_tst (e_isi (e_var rfl) (isi_t ok)) rfl
      cases ht : isT d with
      | false =>
        rw [ht] at t1
        exact ⟨.str "zz", e_ife t1 rfl, by decide⟩
      | true =>
        rw [ht] at t1
        cases d with
        | tup ds => exact ⟨.lst ds, e_ife t1 (e_cB (ds := [.tup ds]) (a_cons (e_var rfl) a_nil) rfl), sml_mono (n := 100) (by decide) hd⟩
        | _ => cases ht
    have hl : evE ⟨C m, conT cons⟩ (.lst (.cons (.cst .non) (.cons (.cst (.bl true)) (.cons (.cst (.str "")) (.cons (.cst (.str "a")) (.cons (.cst (.int 7)) (.cons (.neg (.cst (.int 1))) (.cons (.tup .nil) (.cons (.tup (.cons (.cst (.int 0)) .nil)) (.cons (.ife (.tst (.isi (.var 1) [.tuple])) (.cB .list (.cons (.var 1) .nil)) (.cst (.str "zz"))) .nil)))))))))) [some (.obj 0), some d, some (.int n), some (.int w), none] S = .ok (.lst (bentL x)) S :=
      e_lst (ds := bentL x) (a_cons e_cst (a_cons e_cst (a_cons e_cst (a_cons e_cst (a_cons e_cst (a_cons (e_neg e_cst) (a_cons (e_tup a_nil (by decide)) (a_cons (e_tup (ds := [.int 0]) (a_cons e_cst a_nil) (by decide)) (a_cons hx a_nil))))))))) (show (9 : Nat) ≤ SZ by decide)
    obtain ⟨a, S1, h1, b1, q1⟩ := some_ge (S := S) (m := m) (ds := bentL x) hm (by simp [bentL]) (by simp [bentL]) hB
    refine ⟨a, S1, ss_nx (st_if0 c1) (ss_rt (st_ret (e_cF (ds := [.obj 0, .lst (bentL x)]) (a_cons (e_var rfl) (a_cons hl a_nil)) h1))), b1, ?_⟩
    have e0 : Str.length "" ≤ 400 ∧ Str.length "a" ≤ 400 := by decide
    exact mem_sml (ds := bentL x) (by simp [bentL, smls, D.sml, hx2, e0.1, e0.2]) q1
def headC : Tx := (.and (.cmp .gt (.var 2) (.cst (.int 0))) (.and (.tst (.isi (.var 1) [.tuple])) (.and (.cmp .ne (.var 1) (.tup .nil)) (.cmp .gt (.var 3) (.cst (.int 0))))))
theorem bent_fin {n : Nat} {d r : D} {w : Int} {S1 S2 : Store} (hB : Bag S) (h1 : C m "_law_take" [.obj 0, .int 5] S = .ok (.int w) S1) {rest : Sms} (hr : e__law_bent = .cons (.asg (.nm 3) (.cF "_law_take" (.cons (.var 0) (.cons (.cst (.int 5)) .nil)))) rest)
    (h2 : evSs ⟨C m, conT cons⟩ rest [some (.obj 0), some d, some (.int (n : Int)), some (.int w), none] S1 = .ok (.rt r) S2) (b2 : Bag S2) : C (m + 1) "_law_bent" [.obj 0, d, .int (n : Int)] S = .ok r S2 := by
  refine call_rt T__law_bent rfl ?_ (by rw [b2.len, hB.len])
  show evSs _ e__law_bent _ _ = _
  rw [hr]
  exact ss_nx (st_asg (d := .int w) (e_cF (ds := [.obj 0, .int 5]) (a_cons (e_var rfl) (a_cons e_cst a_nil)) h1) rfl) h2
theorem bent_ok : ∀ {n m : Nat} {d : D} {S : Store}, n + 6 ≤ m → d.sml 100 = true → Bag S → ∃ (r : D) (S' : Store), C m "_law_bent" [.obj 0, d, .int (n : Int)] S = .ok r S' ∧ Bag S' ∧ r.sml 400 = true := by
  intro n
  induction n with
  | zero =>
    intro m d S hm hd hB
    obtain ⟨m, rfl⟩ : ∃ j, m = j + 1 := ⟨m - 1, by omega⟩
    obtain ⟨w, S1, h1, b1, w0, w1⟩ := take_ge (S := S) (m := m) (v := 5) (by omega) (by decide) (by decide) hB
    obtain ⟨r, S2, h2, b2, q2⟩ := tail_ok (S := S1) (m := m) (d := d) (w := w) (n := ((0 : Nat) : Int)) (by omega) hd b1
    refine ⟨r, S2, bent_fin hB h1 rfl (ss_nx (st_if0 (t_andf (t_cmp (d := .int ((0 : Nat) : Int)) (d1 := .int 0) (e_var rfl) e_cst rfl))) h2) b2, b2, q2⟩
  | succ n ih =>
    intro m d S hm hd hB
    obtain ⟨m, rfl⟩ : ∃ j, m = j + 1 := ⟨m - 1, by omega⟩
    obtain ⟨w, S1, h1, b1, w0, w1⟩ := take_ge (S := S) (m := m) (v := 5) (by omega) (by decide) (by decide) hB
    have c0 : ∀ {x4 : Option D} {d : D}, evT ⟨C m, conT cons⟩ (.cmp .gt (.var 2) (.cst (.int 0))) [some (.obj 0), some d, some (.int ((n + 1 : Nat) : Int)), some (.int w), x4] S1 = .ok true S1 := fun {x4 d} =>
      t_cmp (d := .int ((n + 1 : Nat) : Int)) (d1 := .int 0) (e_var rfl) e_cst (by rw [gt_int, decide_eq_true (by omega)])
    have t1 : evT ⟨C m, conT cons⟩ (.tst (.isi (.var 1) [.tuple])) [some (.obj 0), some d, some (.int ((n + 1 : Nat) : Int)), some (.int w), none] S1 = .ok (isT d) S1 := t_tst (e_isi (e_var rfl) (isi_t (sml_ok0 hd))) rfl
    have lv : ∀ {x4 : Option D} {S : Store} {d : D}, evE ⟨C m, conT cons⟩ (.bin .sub (.var 2) (.cst (.int 1))) [some (.obj 0), some d, some (.int ((n + 1 : Nat) : Int)), some (.int w), x4] S = .ok (.int (n : Int)) S := fun {x4 S d} => e_bin (d := .int ((n + 1 : Nat) : Int)) (d1 := .int 1) (e_var rfl) e_cst (by show some (D.int (((n + 1 : Nat) : Int) - 1)) = _; rw [show (((n + 1 : Nat) : Int) - 1) = (n : Int) by omega])
    obtain ⟨r, S2, h2, b2, q2⟩ := tail_ok (S := S1) (m := m) (d := d) (w := w) (n := ((n + 1 : Nat) : Int)) (by omega) hd b1
    cases ht : isT d with
    | false =>
      rw [ht] at t1
      exact ⟨r, S2, bent_fin hB h1 rfl (ss_nx (st_if0 (t_andt c0 (t_andf t1))) h2) b2, b2, q2⟩
    | true =>
      rw [ht] at t1
      cases d with
      | tup ds =>
        have hds : ds.length ≤ 100 ∧ smls 100 ds = true := by simpa [D.sml] using hd
        have u1 : evT ⟨C m, conT cons⟩ (.cmp .ne (.var 1) (.tup .nil)) [some (.obj 0), some (.tup ds), some (.int ((n + 1 : Nat) : Int)), some (.int w), none] S1 = .ok (!ds.isEmpty) S1 := t_cmp (d := .tup ds) (d1 := .tup []) (e_var rfl) (e_tup a_nil (by decide)) (ne_unit (smls_dat hds.2))
        have u2 : evT ⟨C m, conT cons⟩ (.cmp .gt (.var 3) (.cst (.int 0))) [some (.obj 0), some (.tup ds), some (.int ((n + 1 : Nat) : Int)), some (.int w), none] S1 = .ok (decide (0 < w)) S1 := t_cmp (d := .int w) (d1 := .int 0) (e_var rfl) e_cst (gt_int _ _)
        cases he : ds.isEmpty with
        | true =>
          rw [he] at u1
          exact ⟨r, S2, bent_fin hB h1 rfl (ss_nx (st_if0 (t_andt c0 (t_andt t1 (t_andf u1)))) h2) b2, b2, q2⟩
        | false =>
          rw [he] at u1
          cases hw : decide (0 < w) with
          | false =>
            rw [hw] at u2
            exact ⟨r, S2, bent_fin hB h1 rfl (ss_nx (st_if0 (t_andt c0 (t_andt t1 (t_andt u1 u2)))) h2) b2, b2, q2⟩
          | true =>
            rw [hw] at u2
            have hpos : 0 < ds.length := by
              cases ds with
              | nil => cases he
              | cons a ds => simp
            obtain ⟨v, S3, h3, b3, v0, v1⟩ := take_ge (S := S1) (m := m) (v := (ds.length : Int)) (by omega) (by omega) (by omega) b1
            have k1 := cut_len ds none (some v)
            have k2 := cut_len ds (some (v + 1)) none
            have k3 := cut_len ds (some v) (some (v + 1))
            have k4 := cut_len ds (some v) none
            have sm : ∀ {lo hi : Option Int}, smls 400 (PyI.cut ds lo hi) = true := fun {lo hi} => smls_mono (n := 100) (by decide) (cut_smls hds.2)
            have g1 : ∀ {S : Store}, evE ⟨C m, conT cons⟩ (.sl (.var 1) .no (.so (.var 4))) [some (.obj 0), some (.tup ds), some (.int ((n + 1 : Nat) : Int)), some (.int w), some (.int v)] S = .ok (.tup (PyI.cut ds none (some v))) S := fun {S} => e_slt (d := .tup ds) (e_var rfl) o_no (o_so (e_var rfl)) (fun r h => by cases h) rfl
            have g2 : ∀ {S : Store}, evE ⟨C m, conT cons⟩ (.sl (.var 1) (.so (.bin .add (.var 4) (.cst (.int 1)))) .no) [some (.obj 0), some (.tup ds), some (.int ((n + 1 : Nat) : Int)), some (.int w), some (.int v)] S = .ok (.tup (PyI.cut ds (some (v + 1)) none)) S := fun {S} => e_slt (d := .tup ds) (e_var rfl) (o_so (e_bin (d := .int v) (d1 := .int 1) (e_var rfl) e_cst rfl)) o_no (fun r h => by cases h) rfl
            have g3 : ∀ {S : Store}, evE ⟨C m, conT cons⟩ (.sl (.var 1) (.so (.var 4)) (.so (.bin .add (.var 4) (.cst (.int 1))))) [some (.obj 0), some (.tup ds), some (.int ((n + 1 : Nat) : Int)), some (.int w), some (.int v)] S = .ok (.tup (PyI.cut ds (some v) (some (v + 1)))) S := fun {S} => e_slt (d := .tup ds) (e_var rfl) (o_so (e_var rfl)) (o_so (e_bin (d := .int v) (d1 := .int 1) (e_var rfl) e_cst rfl)) (fun r h => by cases h) rfl
            have g4 : ∀ {S : Store}, evE ⟨C m, conT cons⟩ (.sl (.var 1) (.so (.var 4)) .no) [some (.obj 0), some (.tup ds), some (.int ((n + 1 : Nat) : Int)), some (.int w), some (.int v)] S = .ok (.tup (PyI.cut ds (some v) none)) S := fun {S} => e_slt (d := .tup ds) (e_var rfl) (o_so (e_var rfl)) o_no (fun r h => by cases h) rfl
            have top : ∀ {r : D} {S' : Store} {rest : Sms} {R : Sms}, evSs ⟨C m, conT cons⟩ rest [some (.obj 0), some (.tup ds), some (.int ((n + 1 : Nat) : Int)), some (.int w), some (.int v)] S3 = .ok (.rt r) S' →
                evSs ⟨C m, conT cons⟩ (.cons (.ifs headC (.cons (.asg (.nm 4) (.cF "_law_take" (.cons (.var 0) (.cons (.cB .len (.cons (.var 1) .nil)) .nil)))) rest) .nil) R) [some (.obj 0), some (.tup ds), some (.int ((n + 1 : Nat) : Int)), some (.int w), none] S1 = .ok (.rt r) S' := fun hr =>
              ss_rt (st_ift (t_andt c0 (t_andt t1 (t_andt u1 u2))) (ss_nx (st_asg (d := .int v) (e_cF (ds := [.obj 0, .int ds.length]) (a_cons (e_var rfl) (a_cons (e_cB (ds := [.tup ds]) (a_cons (e_var rfl) a_nil) rfl) a_nil)) h3) rfl) hr))
            by_cases w1' : w = 1
            · subst w1'
              refine ⟨.tup (PyI.cut ds none (some v) ++ PyI.cut ds (some (v + 1)) none), S3, bent_fin hB h1 rfl (top (ss_rt (st_ift (t_cmp (d := .int 1) (d1 := .int 1) (e_var rfl) e_cst rfl) (ss_rt (st_ret (e_bin g1 g2 (add_tup (by omega) (by omega)))))))) b3, b3, ?_⟩
              have := smls_app (sm (lo := none) (hi := some v)) (sm (lo := some (v + 1)) (hi := none))
              simp only [D.sml, this, Bool.and_true, decide_eq_true_eq, List.length_append]
              omega
            · have i1 : ∀ {S : Store}, evT ⟨C m, conT cons⟩ (.cmp .eq (.var 3) (.cst (.int 1))) [some (.obj 0), some (.tup ds), some (.int ((n + 1 : Nat) : Int)), some (.int w), some (.int v)] S = .ok false S := fun {S} => t_cmp (d := .int w) (d1 := .int 1) (e_var rfl) e_cst ((eq_int _ _).trans (congrArg some (beq_eq_false_iff_ne.mpr w1')))
              by_cases w2' : w = 2
              · subst w2'
                refine ⟨.tup ((PyI.cut ds none (some v) ++ PyI.cut ds (some v) (some (v + 1))) ++ PyI.cut ds (some v) none), S3, bent_fin hB h1 rfl (top (ss_nx (st_if0 i1) (ss_rt (st_ift (t_cmp (d := .int 2) (d1 := .int 2) (e_var rfl) e_cst rfl) (ss_rt (st_ret (e_bin (e_bin g1 g3 (add_tup (by omega) (by omega))) g4 (add_tup (by rw [List.length_append]; omega) (by omega))))))))) b3, b3, ?_⟩
                have := smls_app (smls_app (sm (lo := none) (hi := some v)) (sm (lo := some v) (hi := some (v + 1)))) (sm (lo := some v) (hi := none))
                simp only [D.sml, this, Bool.and_true, decide_eq_true_eq, List.length_append]
                omega
              · have i2 : ∀ {S : Store}, evT ⟨C m, conT cons⟩ (.cmp .eq (.var 3) (.cst (.int 2))) [some (.obj 0), some (.tup ds), some (.int ((n + 1 : Nat) : Int)), some (.int w), some (.int v)] S = .ok false S := fun {S} => t_cmp (d := .int w) (d1 := .int 2) (e_var rfl) e_cst ((eq_int _ _).trans (congrArg some (beq_eq_false_iff_ne.mpr w2')))
                have hv : v.toNat < ds.length := by omega
                have hx : atI ds v = some ds[v.toNat] := atI_of v0 hv
                obtain ⟨y, S4, h4, b4, q4⟩ := ih (m := m) (d := ds[v.toNat]) (S := S3) (by omega) (smls_all.mp hds.2 _ (List.getElem_mem hv)) b3
                refine ⟨.tup ((PyI.cut ds none (some v) ++ [y]) ++ PyI.cut ds (some (v + 1)) none), S4, bent_fin hB h1 rfl (top (ss_nx (st_if0 i1) (ss_nx (st_if0 i2) (ss_rt (st_ret (e_bin (d := .tup (PyI.cut ds none (some v) ++ [y])) (e_bin (d1 := .tup [y]) g1 (e_tup (ds := [y]) (a_cons (e_cF (a_cons (e_var rfl) (a_cons (e_ixt (e_var rfl) (e_var rfl) hx) (a_cons lv a_nil))) h4) a_nil) (show (1 : Nat) ≤ SZ by decide)) (add_tup (by omega) (show (1 : Nat) ≤ 1000 by decide))) g2 (add_tup (by rw [List.length_append]; show _ + 1 ≤ _; omega) (by omega)))))))) b4, b4, ?_⟩
                have := smls_app (smls_app (sm (lo := none) (hi := some v)) (show smls 400 [y] = true by simp [smls, q4])) (sm (lo := some (v + 1)) (hi := none))
                simp only [D.sml, this, Bool.and_true, decide_eq_true_eq, List.length_append, List.length_singleton]
                omega
      | _ => cases ht
end
end K01

set_option maxRecDepth 100000
set_option maxHeartbeats 1000000
namespace K01
open PySem L2 PyI
theorem forF_inv {f : D → PyI.Env → Store → Rs Fl} {P : PyI.Env → Store → Prop} : ∀ (xs : List D) (e : PyI.Env) (S : Store), P e S → (∀ x ∈ xs, ∀ e S, P e S → ∃ e2 S2, f x e S = .ok (.nx e2) S2 ∧ P e2 S2) → ∃ e' S', forF (fun _ => true) f xs e S = .ok (.nx e') S' ∧ P e' S'
  | [], e, S, h0, _ => ⟨e, S, by unfold forF; rfl, h0⟩
  | x :: xs, e, S, h0, h => by
    obtain ⟨e2, S2, h1, h2⟩ := h x List.mem_cons_self e S h0
    obtain ⟨e3, S3, h3, h4⟩ := forF_inv xs e2 S2 h2 fun y hy => h y (List.mem_cons_of_mem _ hy)
    refine ⟨e3, S3, ?_, h4⟩
    unfold forF
    rw [if_pos rfl, h1]
    exact h3
theorem for_inv {W : Wd} {t : Tg} {it : PyI.It} {b : Sms} {e : PyI.Env} {S0 S : Store} {xs : List D} {P : PyI.Env → Store → Prop} (hi : evI W it e S0 = .ok (xs, none) S) (h0 : P e S) (h : ∀ x ∈ xs, ∀ e S, P e S → ∃ e', setT e t x = some e' ∧ ∃ e2 S2, evSs W b e' S = .ok (.nx e2) S2 ∧ P e2 S2) :
    ∃ e' S', evS W (.for t it b) e S0 = .ok (.nx e') S' ∧ P e' S' := by
  obtain ⟨e', S', h1, h2⟩ := forF_inv (f := fun x e S => match setT e t x with
      | some e' => evSs W b e' S
      | none => .bad) (P := P) xs e S h0 fun x hx e S hP => by
    obtain ⟨e', k1, e2, S2, k2, k3⟩ := h x hx e S hP
    exact ⟨e2, S2, by rw [k1]; exact k2, k3⟩
  refine ⟨e', S', ?_, h2⟩
  show (evI W it e S0).bind _ = _
  rw [hi]
  exact h1
def rp (n : Nat) (d : D) : List D := (List.replicate n [d]).flatten
theorem mul_tup {n : Nat} {d : D} (h : 0 < n) (h2 : n ≤ 1000) : binop .mul (.tup [d]) (.int (n : Int)) = some (.tup (rp n d)) := by
  show (if _ then _ else _) = _
  rw [if_pos ⟨by omega, by omega, show (1 : Nat) ≤ 1000 by decide, by simp⟩]
  rfl
theorem rp_sml {k n : Nat} {d : D} (h : d.sml k = true) (hn : n ≤ k) : (D.tup (rp n d)).sml k = true := by
  have h1 : (rp n d).length = n := by unfold rp; simp
  have h2 : smls k (rp n d) = true := smls_all.mpr fun x hx => by
    unfold rp at hx
    obtain ⟨l, hl, hx⟩ := List.mem_flatten.mp hx
    rw [List.eq_of_mem_replicate hl] at hx
    rw [List.mem_singleton.mp hx]; exact h
  simp [D.sml, h1, h2, hn]
section
variable {S : Store} {m : Nat}
def deepE : Ex := (.cF "_law_some" (.cons (.var 0) (.cons (.lst (.cons (.tup (.cons (.cst (.str "not")) (.cons (.var 6) .nil))) (.cons (.tup (.cons (.cst (.str "all")) (.cons (.tup (.cons (.var 6) .nil)) .nil))) (.cons (.tup (.cons (.cst (.str "any")) (.cons (.tup (.cons (.tup (.cons (.cst (.str "always")) .nil)) (.cons (.var 6) .nil))) .nil))) .nil)))) .nil)))
def L1 (n : Nat) (a b : D) (fs : List D) : List D := [.tup [a, b, .tup fs], .tup [.int 201, .int 0, .tup fs], .tup [.int 200, .int 20, .tup fs], .tup [.int 0, .int (-21), .tup fs], .tup [.int 0, .int 0, .tup (rp n (.int 21))], .tup [.int 0, .int 0, .tup (rp n (.int (-20)))], .tup [.int 0, .int 0, .tup (fs ++ [.int 1])]]
def L2' (te de wi a b l : D) (fs : List D) (mk : Int) : List D := [te, de, wi, .tup [.str "always", .int 1], .tup [.str "below", .tup [a, b, .tup fs]], .tup [.str "below", te], .tup [.str "not", .tup []], .tup [.str "all", .lst []], l, .tup [.str "mark", .int mk]]
def L3 (a b : D) (fs : List D) (mk : Int) : List D := [.tup [.str "mark", .int (mk - 1)], .tup [.str "over", .tup [a, b, .tup fs]], .tup [.str "over", .int 1], .tup [.str "mark", .bl true], .tup [.str "mark", .int (-1)], .tup [.int 0, .int 1], .tup [.int 1, .int 2, .int 3], .tup [], .tup [.int (-1)], .tup [.int 9, .int 9], .lst [.int 1]]
def L4 (b1 b2 b3 od : D) : List D := [b1, b2, b3, .str "carry", .str "m", .str "hillside", .str "hillsides", .str "Ab", .int 4, .bl true, od]
theorem things_ok {n : Nat} {mk : Int} (hm : 14 ≤ m) (hn0 : 0 < n) (hn : n ≤ 50) (h0 : 0 < mk) (h1 : mk < 1000) (hB : Bag S) : ∃ (ds : List D) (S' : Store), C m "_law_things" [.obj 0, .int (n : Int), .int mk] S = .ok (.lst ds) S' ∧ Bag S' ∧ ds.length ≤ 1000 ∧ ∀ d ∈ ds, G d := by
  obtain ⟨m, rfl⟩ : ∃ j, m = j + 1 := ⟨m - 1, by omega⟩
  obtain ⟨ma, S1, k1, b1', q1⟩ := sum_ok (S := S) (m := m) (n := n) (by omega) (by omega) hB
  obtain ⟨te, S2, k2, b2', q2⟩ := test_ok (n := n) (by omega) (dp := 3) (m := m) (S := S1) (by omega) b1'
  obtain ⟨t, s, l, S3, k3, b3', q3⟩ := rule_ok (S := S2) (m := m) (n := n) (mk := mk) (by omega) (by omega) h0 h1 b2'
  have q1s := q1.sml (by omega)
  obtain ⟨a, b, fs, rfl, qa, qb, qf, qg⟩ := q1.ex
  have qfs : smls 100 fs = true := smls_all.mpr fun x hx => isI_sml (qg x hx)
  obtain ⟨v, S4, k4, b4', v0, v1⟩ := take_ge (S := S3) (m := m) (v := 5) (by omega) (by decide) (by decide) b3'
  obtain ⟨e5, S5, k5, de, x7, rfl, q5, b5'⟩ : ∃ (e5 : PyI.Env) (S5 : Store), evS ⟨C m, conT cons⟩ (.for (.nm 7) (.rng (.cF "_law_take" (.cons (.var 0) (.cons (.cst (.int 5)) .nil)))) (.cons (.asg (.nm 6) deepE) .nil)) [some (.obj 0), some (.int (n : Int)), some (.int mk), some (.tup [a, b, .tup fs]), some te, some (.tup [t, s, l]), some te, none, none, none] S3 = .ok (.nx e5) S5 ∧
      ∃ (de : D) (x7 : Option D), e5 = [some (.obj 0), some (.int (n : Int)), some (.int mk), some (.tup [a, b, .tup fs]), some te, some (.tup [t, s, l]), some de, x7, none, none] ∧ de.sml 100 = true ∧ Bag S5 := by
    refine for_inv (P := fun e S => ∃ (de : D) (x7 : Option D), e = [some (.obj 0), some (.int (n : Int)), some (.int mk), some (.tup [a, b, .tup fs]), some te, some (.tup [t, s, l]), some de, x7, none, none] ∧ de.sml 100 = true ∧ Bag S) (xs := itInts 0 v.toNat) (S := S4)
      (i_rng (e_cF (ds := [.obj 0, .int 5]) (a_cons (e_var rfl) (a_cons e_cst a_nil)) k4) (small_of v0 (by omega))) ⟨te, none, rfl, q2, b4'⟩ fun x hx e S hP => ?_
    obtain ⟨de, x7, rfl, hd, hB⟩ := hP
    refine ⟨_, rfl, ?_⟩
    obtain ⟨r, S', j1, j2, j3⟩ := some_ge (S := S) (m := m) (ds := [.tup [.str "not", de], .tup [.str "all", .tup [de]], .tup [.str "any", .tup [.tup [.str "always"], de]]]) (by omega) (by simp) (by simp) hB
    refine ⟨_, S', ss_nx (st_asg (d := r) (e_cF (ds := [.obj 0, .lst [.tup [.str "not", de], .tup [.str "all", .tup [de]], .tup [.str "any", .tup [.tup [.str "always"], de]]]]) (a_cons (e_var rfl) (a_cons (e_lst (a_cons (e_tup (ds := [.str "not", de]) (a_cons e_cst (a_cons (e_var rfl) a_nil)) (show (2 : Nat) ≤ SZ by decide)) (a_cons (e_tup (ds := [.str "all", .tup [de]]) (a_cons e_cst (a_cons (e_tup (ds := [de]) (a_cons (e_var rfl) a_nil) (show (1 : Nat) ≤ SZ by decide)) a_nil)) (show (2 : Nat) ≤ SZ by decide)) (a_cons (e_tup (ds := [.str "any", .tup [.tup [.str "always"], de]]) (a_cons e_cst (a_cons (e_tup (ds := [.tup [.str "always"], de]) (a_cons (e_tup (ds := [.str "always"]) (a_cons e_cst a_nil) (show (1 : Nat) ≤ SZ by decide)) (a_cons (e_var rfl) a_nil)) (show (2 : Nat) ≤ SZ by decide)) a_nil)) (show (2 : Nat) ≤ SZ by decide)) a_nil))) (show (3 : Nat) ≤ SZ by decide)) a_nil)) j1) rfl) ss_nil, r, some x, rfl, ?_, j2⟩
    have st : Str.length "not" ≤ 100 ∧ Str.length "all" ≤ 100 ∧ Str.length "any" ≤ 100 ∧ Str.length "always" ≤ 100 := by decide
    exact mem_sml (by simp [smls, D.sml, hd, st.1, st.2.1, st.2.2.1, st.2.2.2]) j3
  obtain ⟨kk, S6, k6, b6', q6⟩ := some_ge (S := S5) (m := m) (ds := [.int 7, .int 8, .int 9]) (by omega) (by simp) (by simp) b5'
  obtain ⟨kn, rfl, kn0, kn1⟩ : ∃ j : Nat, kk = .int (j : Int) ∧ 0 < j ∧ j ≤ 9 := by
    simp only [List.mem_cons, List.not_mem_nil, or_false] at q6
    rcases q6 with rfl | rfl | rfl
    · exact ⟨7, rfl, by decide, by decide⟩
    · exact ⟨8, rfl, by decide, by decide⟩
    · exact ⟨9, rfl, by decide, by decide⟩
  obtain ⟨wi, hwi⟩ : ∃ wi : D, wi = .tup [.str "any", .tup (rp kn (.tup [.str "always"]))] := ⟨_, rfl⟩
  have sAny : Str.length "any" ≤ 100 := by decide
  have qw : wi.sml 100 = true := by
    have := rp_sml (k := 100) (n := kn) (d := .tup [.str "always"]) (by decide) (by omega)
    rw [hwi]
    simp only [D.sml, smls, List.length_cons, List.length_nil, Bool.and_true] at this ⊢
    rw [this, decide_eq_true sAny]; rfl
  have k7 : evE ⟨C m, conT cons⟩ (.tup (.cons (.cst (.str "any")) (.cons (.bin .mul (.tup (.cons (.tup (.cons (.cst (.str "always")) .nil)) .nil)) (.cF "_law_some" (.cons (.var 0) (.cons (.lst (.cons (.cst (.int 7)) (.cons (.cst (.int 8)) (.cons (.cst (.int 9)) .nil)))) .nil)))) .nil))) [some (.obj 0), some (.int (n : Int)), some (.int mk), some (.tup [a, b, .tup fs]), some te, some (.tup [t, s, l]), some de, x7, none, none] S5 = .ok wi S6 := by
    rw [hwi]
    exact e_tup (ds := [.str "any", .tup (rp kn (.tup [.str "always"]))]) (a_cons e_cst (a_cons (e_bin (d := .tup [.tup [.str "always"]]) (d1 := .int (kn : Int)) (e_tup (ds := [.tup [.str "always"]]) (a_cons (e_tup (ds := [.str "always"]) (a_cons e_cst a_nil) (show (1 : Nat) ≤ SZ by decide)) a_nil) (show (1 : Nat) ≤ SZ by decide)) (e_cF (ds := [.obj 0, .lst [.int 7, .int 8, .int 9]]) (a_cons (e_var rfl) (a_cons rfl a_nil)) k6) (mul_tup kn0 (by omega))) a_nil)) (show (2 : Nat) ≤ SZ by decide)
  obtain ⟨b1, S7, k8, b7', q8⟩ := bent_ok (n := 2) (m := m) (d := .tup [a, b, .tup fs]) (S := S6) (by omega) q1s b6'
  obtain ⟨b2, S8, k9, b8', q9⟩ := bent_ok (n := 5) (m := m) (d := de) (S := S7) (by omega) q5 b7'
  obtain ⟨b3, S9, k10, b9', q10⟩ := bent_ok (n := 3) (m := m) (d := l) (S := S8) (by omega) q3 b8'
  obtain ⟨od, S10, k11, b10', q11⟩ := odd_ok (m := m) (S := S9) (by omega) b9'
  refine ⟨((L1 n a b fs ++ L2' te de wi a b l fs mk) ++ L3 a b fs mk) ++ L4 b1 b2 b3 od, S10, ?_, b10', by simp [L1, L2', L3, L4], ?_⟩
  · refine call_rt T__law_things rfl ?_ (by rw [b10'.len, hB.len])
    refine ss_nx (st_par3 (e_cF (ds := [.obj 0, .int (n : Int)]) (a_cons (e_var rfl) (a_cons (e_var rfl) a_nil)) k1) (e_cF (ds := [.obj 0, .int (n : Int), .int 3]) (a_cons (e_var rfl) (a_cons (e_var rfl) (a_cons e_cst a_nil))) k2) (e_cF (ds := [.obj 0, .int (n : Int), .int mk]) (a_cons (e_var rfl) (a_cons (e_var rfl) (a_cons (e_var rfl) a_nil))) k3)) ?_
    refine ss_nx (st_asg (d := te) (e_var rfl) rfl) ?_
    refine ss_nx k5 ?_
    refine ss_nx (st_asg k7 rfl) ?_
    refine ss_nx (st_asg (d := .lst (L1 n a b fs)) (e_lst (ds := L1 n a b fs) (a_cons (e_var rfl) (a_cons (e_tup (ds := [.int 201, .int 0, .tup fs]) (a_cons e_cst (a_cons e_cst (a_cons (e_ixt (n := 2) (ds := [a, b, .tup fs]) (e_var rfl) e_cst rfl) a_nil))) (show (3 : Nat) ≤ SZ by decide)) (a_cons (e_tup (ds := [.int 200, .int 20, .tup fs]) (a_cons e_cst (a_cons e_cst (a_cons (e_ixt (n := 2) (ds := [a, b, .tup fs]) (e_var rfl) e_cst rfl) a_nil))) (show (3 : Nat) ≤ SZ by decide)) (a_cons (e_tup (ds := [.int 0, .int (-21), .tup fs]) (a_cons e_cst (a_cons (e_neg e_cst) (a_cons (e_ixt (n := 2) (ds := [a, b, .tup fs]) (e_var rfl) e_cst rfl) a_nil))) (show (3 : Nat) ≤ SZ by decide)) (a_cons (e_tup (ds := [.int 0, .int 0, .tup (rp n (.int 21))]) (a_cons e_cst (a_cons e_cst (a_cons (e_bin (d := .tup [.int 21]) (d1 := .int (n : Int)) (e_tup (ds := [.int 21]) (a_cons e_cst a_nil) (show (1 : Nat) ≤ SZ by decide)) (e_var rfl) (mul_tup hn0 (by omega))) a_nil))) (show (3 : Nat) ≤ SZ by decide)) (a_cons (e_tup (ds := [.int 0, .int 0, .tup (rp n (.int (-20)))]) (a_cons e_cst (a_cons e_cst (a_cons (e_bin (d := .tup [.int (-20)]) (d1 := .int (n : Int)) (e_tup (ds := [.int (-20)]) (a_cons (e_neg e_cst) a_nil) (show (1 : Nat) ≤ SZ by decide)) (e_var rfl) (mul_tup hn0 (by omega))) a_nil))) (show (3 : Nat) ≤ SZ by decide)) (a_cons (e_tup (ds := [.int 0, .int 0, .tup (fs ++ [.int 1])]) (a_cons e_cst (a_cons e_cst (a_cons (e_bin (d := .tup fs) (d1 := .tup [.int 1]) (e_ixt (n := 2) (ds := [a, b, .tup fs]) (e_var rfl) e_cst rfl) (e_tup (ds := [.int 1]) (a_cons e_cst a_nil) (show (1 : Nat) ≤ SZ by decide)) (add_tup (a := fs) (b := [.int 1]) (by omega) (show (1 : Nat) ≤ 1000 by decide))) a_nil))) (show (3 : Nat) ≤ SZ by decide)) a_nil))))))) (show (7 : Nat) ≤ SZ by decide)) rfl) ?_
    refine ss_nx (st_asg (d := .lst (L1 n a b fs ++ L2' te de wi a b l fs mk)) (e_bin (d := .lst (L1 n a b fs)) (d1 := .lst (L2' te de wi a b l fs mk)) (e_var rfl) (e_lst (ds := L2' te de wi a b l fs mk) (a_cons (e_var rfl) (a_cons (e_var rfl) (a_cons (e_var rfl) (a_cons (e_tup (ds := [.str "always", .int 1]) (a_cons e_cst (a_cons e_cst a_nil)) (show (2 : Nat) ≤ SZ by decide)) (a_cons (e_tup (ds := [.str "below", .tup [a, b, .tup fs]]) (a_cons e_cst (a_cons (e_var rfl) a_nil)) (show (2 : Nat) ≤ SZ by decide)) (a_cons (e_tup (ds := [.str "below", te]) (a_cons e_cst (a_cons (e_var rfl) a_nil)) (show (2 : Nat) ≤ SZ by decide)) (a_cons (e_tup (ds := [.str "not", .tup []]) (a_cons e_cst (a_cons (e_tup a_nil (by decide)) a_nil)) (show (2 : Nat) ≤ SZ by decide)) (a_cons (e_tup (ds := [.str "all", .lst []]) (a_cons e_cst (a_cons (e_lst a_nil (by decide)) a_nil)) (show (2 : Nat) ≤ SZ by decide)) (a_cons (e_ixt (n := 2) (ds := [t, s, l]) (e_var rfl) e_cst rfl) (a_cons (e_tup (ds := [.str "mark", .int mk]) (a_cons e_cst (a_cons (e_var rfl) a_nil)) (show (2 : Nat) ≤ SZ by decide)) a_nil)))))))))) (show (10 : Nat) ≤ SZ by decide)) (add_lst (by simp [L1]) (by simp [L2']))) rfl) ?_
    refine ss_nx (st_asg (d := .lst ((L1 n a b fs ++ L2' te de wi a b l fs mk) ++ L3 a b fs mk)) (e_bin (d := .lst (L1 n a b fs ++ L2' te de wi a b l fs mk)) (d1 := .lst (L3 a b fs mk)) (e_var rfl) (e_lst (ds := L3 a b fs mk) (a_cons (e_tup (ds := [.str "mark", .int (mk - 1)]) (a_cons e_cst (a_cons (e_bin (d := .int mk) (d1 := .int 1) (e_var rfl) e_cst rfl) a_nil)) (show (2 : Nat) ≤ SZ by decide)) (a_cons (e_tup (ds := [.str "over", .tup [a, b, .tup fs]]) (a_cons e_cst (a_cons (e_var rfl) a_nil)) (show (2 : Nat) ≤ SZ by decide)) (a_cons (e_tup (ds := [.str "over", .int 1]) (a_cons e_cst (a_cons e_cst a_nil)) (show (2 : Nat) ≤ SZ by decide)) (a_cons (e_tup (ds := [.str "mark", .bl true]) (a_cons e_cst (a_cons e_cst a_nil)) (show (2 : Nat) ≤ SZ by decide)) (a_cons (e_tup (ds := [.str "mark", .int (-1)]) (a_cons e_cst (a_cons (e_neg e_cst) a_nil)) (show (2 : Nat) ≤ SZ by decide)) (a_cons (e_tup (ds := [.int 0, .int 1]) (a_cons e_cst (a_cons e_cst a_nil)) (show (2 : Nat) ≤ SZ by decide)) (a_cons (e_tup (ds := [.int 1, .int 2, .int 3]) (a_cons e_cst (a_cons e_cst (a_cons e_cst a_nil))) (show (3 : Nat) ≤ SZ by decide)) (a_cons (e_tup a_nil (by decide)) (a_cons (e_tup (ds := [.int (-1)]) (a_cons (e_neg e_cst) a_nil) (show (1 : Nat) ≤ SZ by decide)) (a_cons (e_tup (ds := [.int 9, .int 9]) (a_cons e_cst (a_cons e_cst a_nil)) (show (2 : Nat) ≤ SZ by decide)) (a_cons (e_lst (ds := [.int 1]) (a_cons e_cst a_nil) (show (1 : Nat) ≤ SZ by decide)) a_nil))))))))))) (show (11 : Nat) ≤ SZ by decide)) (add_lst (by simp [L1, L2']) (by simp [L3]))) rfl) ?_
    refine ss_rt (st_ret (e_bin (d := .lst ((L1 n a b fs ++ L2' te de wi a b l fs mk) ++ L3 a b fs mk)) (d1 := .lst (L4 b1 b2 b3 od)) (e_var rfl) (e_lst (ds := L4 b1 b2 b3 od) (a_cons (e_cF (ds := [.obj 0, .tup [a, b, .tup fs], .int 2]) (a_cons (e_var rfl) (a_cons (e_var rfl) (a_cons e_cst a_nil))) k8) (a_cons (e_cF (ds := [.obj 0, de, .int 5]) (a_cons (e_var rfl) (a_cons (e_var rfl) (a_cons e_cst a_nil))) k9) (a_cons (e_cF (ds := [.obj 0, l, .int 3]) (a_cons (e_var rfl) (a_cons (e_ixt (n := 2) (ds := [t, s, l]) (e_var rfl) e_cst rfl) (a_cons e_cst a_nil))) k10) (a_cons e_cst (a_cons e_cst (a_cons e_cst (a_cons e_cst (a_cons e_cst (a_cons e_cst (a_cons e_cst (a_cons (e_cF (ds := [.obj 0]) (a_cons (e_var rfl) a_nil) k11) a_nil))))))))))) (show (11 : Nat) ≤ SZ by decide)) (add_lst (by simp [L1, L2', L3]) (by simp [L4]))))
  · have w1 : smls 1000 (L1 n a b fs) = true := by
      have f1 := smls_mono (m := 1000) (by decide) qfs
      have r1 := sml_mono (m := 1000) (by decide) (rp_sml (k := 50) (n := n) (d := .int 21) rfl hn)
      have r2 := sml_mono (m := 1000) (by decide) (rp_sml (k := 50) (n := n) (d := .int (-20)) rfl hn)
      have f2 : smls 1000 (fs ++ [.int 1]) = true := smls_app f1 rfl
      have f3 : fs.length ≤ 1000 ∧ fs.length + 1 ≤ 1000 := by omega
      simp only [D.sml, Bool.and_eq_true, decide_eq_true_eq] at r1 r2
      simp [L1, smls, D.sml, f1, r1.1, r1.2, r2.1, r2.2, f2, f3.1, f3.2, isI_sml qa, isI_sml qb]
    have st : Str.length "always" ≤ 1000 ∧ Str.length "below" ≤ 1000 ∧ Str.length "not" ≤ 1000 ∧ Str.length "all" ≤ 1000 ∧ Str.length "mark" ≤ 1000 ∧ Str.length "over" ≤ 1000 := by decide
    have qm : (D.tup [a, b, .tup fs]).sml 1000 = true := sml_mono (n := 100) (by decide) q1s
    have w2 : smls 1000 (L2' te de wi a b l fs mk) = true := by
      have t1 := sml_mono (m := 1000) (by decide) q2
      have t2 := sml_mono (m := 1000) (by decide) q5
      have t3 := sml_mono (m := 1000) (by decide) qw
      have t4 := sml_mono (m := 1000) (by decide) q3
      simp only [D.sml, smls, Bool.and_eq_true, decide_eq_true_eq] at qm
      simp [L2', smls, D.sml, t1, t2, t3, t4, st.1, st.2.1, st.2.2.1, st.2.2.2.1, st.2.2.2.2.1, qm.1, qm.2.1, qm.2.2.1, qm.2.2.2.1.1, qm.2.2.2.1.2]
    have w3 : smls 1000 (L3 a b fs mk) = true := by
      simp only [D.sml, smls, Bool.and_eq_true, decide_eq_true_eq] at qm
      simp [L3, smls, D.sml, st.2.2.2.2.1, st.2.2.2.2.2, qm.1, qm.2.1, qm.2.2.1, qm.2.2.2.1.1, qm.2.2.2.1.2]
    intro d hd
    rcases List.mem_append.mp hd with hd | hd
    · exact G.of (mem_sml (smls_app (smls_app w1 w2) w3) hd)
    · have t1 := sml_mono (m := 1000) (by decide) q8
      have t2 := sml_mono (m := 1000) (by decide) q9
      have t3 := sml_mono (m := 1000) (by decide) q10
      simp only [L4, List.mem_cons, List.not_mem_nil, or_false] at hd
      rcases hd with rfl | rfl | rfl | rfl | rfl | rfl | rfl | rfl | rfl | rfl | rfl
      · exact G.of t1
      · exact G.of t2
      · exact G.of t3
      · exact G.of (by decide)
      · exact G.of (by decide)
      · exact G.of (by decide)
      · exact G.of (by decide)
      · exact G.of (by decide)
      · exact G.of (by decide)
      · exact G.of (by decide)
      · exact q11
end
end K01

set_option maxRecDepth 100000
set_option maxHeartbeats 1000000
namespace K01
open PySem L2 PyI
theorem name_ok {m : Nat} {S : Store} {d : D} (hm : 20 ≤ m) (h : G d) : C m "is_name" [d] S = .ok (.bl (pName d)) S := by
  obtain ⟨j, rfl⟩ : ∃ j, m = j + 1 := ⟨m - 1, by omega⟩
  exact is_name_ok h.ok h.st
theorem name_ok2 {m : Nat} {S : Store} {d : D} (hm : 20 ≤ m) (h : G d) : C m "_law_is_name" [d] S = .ok (.bl (pName d)) S := by
  obtain ⟨j, rfl⟩ : ∃ j, m = j + 1 := ⟨m - 1, by omega⟩
  exact _law_is_name_ok h.ok h.st
theorem isint_ge {m : Nat} {S : Store} {d : D} (hm : 20 ≤ m) (h : ok0 d = true) : C m "is_integer" [d] S = .ok (.bl (isI d)) S := by
  obtain ⟨j, rfl⟩ : ∃ j, m = j + 1 := ⟨m - 1, by omega⟩
  exact is_integer_ok h
theorem alike_ge {m : Nat} {S : Store} {d : D} (hm : 20 ≤ m) (ha : d.alk = true) (hs : d.size ≤ SZ) : C m "_law_alike" [d, d] S = .ok (.bl true) S := by
  obtain ⟨j, rfl⟩ : ∃ j, m = j + 1 := ⟨m - 1, by omega⟩
  exact alike_true T__law_alike ha hs
theorem bag_ge {m : Nat} {ns : List Int} (hm : 20 ≤ m) (hl : ns.length ≤ 63) : ∃ S', C m "_law_bag" [.rol (ns.map D.int)] [] = .ok (.obj 0) S' ∧ Bag S' := by
  obtain ⟨j, rfl⟩ : ∃ j, m = j + 1 := ⟨m - 1, by omega⟩
  exact bag_ok T__law_bag hl
def fnd (n : Nat) (mk base low : Int) (d : D) : List D := [.bl (isI d), .bl (inR low 9 d), .bl (pName d), .bl (pSum n d), .bl (pTest 6 n d)]
def fnd2 (n : Nat) (mk base low : Int) (d : D) : List D := [.bl (pNext n mk d), .bl (pFig base d)]
def stepB : Sms := (.cons (.asg (.nm 8) (.lst (.cons (.cF "is_integer" (.cons (.var 7) .nil)) (.cons (.cF "is_within" (.cons (.var 7) (.cons (.var 6) (.cons (.cst (.int 9)) .nil)))) (.cons (.cF "is_name" (.cons (.var 7) .nil)) (.cons (.cF "is_sum" (.cons (.var 7) (.cons (.var 3) .nil))) (.cons (.cF "is_test" (.cons (.var 7) (.cons (.var 3) .nil))) .nil))))))) (.cons (.asg (.nm 9) (.lst (.cons (.cF "_law_is_int" (.cons (.var 7) .nil)) (.cons (.cF "_law_in" (.cons (.var 7) (.cons (.var 6) (.cons (.cst (.int 9)) .nil)))) (.cons (.cF "_law_is_name" (.cons (.var 7) .nil)) (.cons (.cF "_law_is_sum" (.cons (.var 7) (.cons (.var 3) .nil))) (.cons (.cF "_law_is_test" (.cons (.var 7) (.cons (.var 3) (.cons (.cst (.int 6)) .nil)))) .nil))))))) (.cons (.asg (.nm 10) figE) (.cons (.asg (.nm 8) (.bin .add (.var 8) (.lst (.cons (.cF "is_next" (.cons (.var 7) (.cons (.var 3) (.cons (.var 4) .nil)))) (.cons (.cF "are_figures" (.cons (.var 7) (.cons (.var 5) .nil))) .nil))))) (.cons (.ifs (.nt (.tst (.cF "_law_alike" (.cons (.var 8) (.cons (.bin .add (.var 9) (.lst (.cons (.cF "_law_is_next" (.cons (.var 7) (.cons (.var 3) (.cons (.var 4) .nil)))) (.cons (.var 10) .nil)))) .nil))))) (.cons (.ret (.cst (.bl false))) .nil) .nil) .nil)))))
theorem step_ok {m : Nat} (hm : 20 ≤ m) {S : Store} {d : D} {n : Nat} {mk base low : Int} {x0 x1 x2 x8 x9 x10 : Option D} (h : G d) : ∃ y8 y9 y10 : Option D, evSs ⟨C m, conT cons⟩ stepB [x0, x1, x2, some (.int (n : Int)), some (.int mk), some (.int base), some (.int low), some d, x8, x9, x10, none] S = .ok (.nx [x0, x1, x2, some (.int (n : Int)), some (.int mk), some (.int base), some (.int low), some d, y8, y9, y10, none]) S := by
  refine ⟨some (.lst (fnd n mk base low d ++ fnd2 n mk base low d)), some (.lst (fnd n mk base low d)), some (.bl (pFig base d)), ?_⟩
  refine ss_nx (st_asg (d := .lst (fnd n mk base low d)) (e_lst (ds := fnd n mk base low d) (a_cons (e_cF (ds := [d]) (a_cons (e_var rfl) a_nil) (isint_ge hm h.ok)) (a_cons (e_cF (ds := [d, .int low, .int 9]) (a_cons (e_var rfl) (a_cons (e_var rfl) (a_cons e_cst a_nil))) (is_within_ge (by omega) h.ok)) (a_cons (e_cF (ds := [d]) (a_cons (e_var rfl) a_nil) (name_ok hm h)) (a_cons (e_cF (ds := [d, .int (n : Int)]) (a_cons (e_var rfl) (a_cons (e_var rfl) a_nil)) (is_sum_ge (by omega) h)) (a_cons (e_cF (ds := [d, .int (n : Int)]) (a_cons (e_var rfl) (a_cons (e_var rfl) a_nil)) (is_test_ok (m := m) (by omega) h)) a_nil))))) (show (5 : Nat) ≤ SZ by decide)) rfl) ?_
  refine ss_nx (st_asg (d := .lst (fnd n mk base low d)) (e_lst (ds := fnd n mk base low d) (a_cons (e_cF (ds := [d]) (a_cons (e_var rfl) a_nil) (is_int_ge (by omega) h.ok)) (a_cons (e_cF (ds := [d, .int low, .int 9]) (a_cons (e_var rfl) (a_cons (e_var rfl) (a_cons e_cst a_nil))) (_law_in_ge (by omega) h.ok)) (a_cons (e_cF (ds := [d]) (a_cons (e_var rfl) a_nil) (name_ok2 hm h)) (a_cons (e_cF (ds := [d, .int (n : Int)]) (a_cons (e_var rfl) (a_cons (e_var rfl) a_nil)) (_law_is_sum_ge (by omega) h)) (a_cons (e_cF (ds := [d, .int (n : Int), .int ((6 : Nat) : Int)]) (a_cons (e_var rfl) (a_cons (e_var rfl) (a_cons e_cst a_nil))) (_law_is_test_ok (n := 6) (m := m) (by omega) h)) a_nil))))) (show (5 : Nat) ≤ SZ by decide)) rfl) ?_
  refine ss_nx (st_asg (d := .bl (pFig base d)) (figE_ok (m := m) (by omega) h) rfl) ?_
  refine ss_nx (st_asg (d := .lst (fnd n mk base low d ++ fnd2 n mk base low d)) (e_bin (d := .lst (fnd n mk base low d)) (d1 := .lst (fnd2 n mk base low d)) (e_var rfl) (e_lst (ds := fnd2 n mk base low d) (a_cons (e_cF (ds := [d, .int (n : Int), .int mk]) (a_cons (e_var rfl) (a_cons (e_var rfl) (a_cons (e_var rfl) a_nil))) (is_next_ok (m := m) (by omega) h)) (a_cons (e_cF (ds := [d, .int base]) (a_cons (e_var rfl) (a_cons (e_var rfl) a_nil)) (are_figures_ok (m := m) (by omega) h)) a_nil)) (show (2 : Nat) ≤ SZ by decide)) (add_lst (show (5 : Nat) ≤ 1000 by decide) (show (2 : Nat) ≤ 1000 by decide))) rfl) ?_
  refine ss_nx (st_if0 (t_nt (t := true) (t_tst (e_cF (ds := [.lst (fnd n mk base low d ++ fnd2 n mk base low d), .lst (fnd n mk base low d ++ fnd2 n mk base low d)]) (a_cons (e_var rfl) (a_cons (e_bin (d := .lst (fnd n mk base low d)) (d1 := .lst (fnd2 n mk base low d)) (e_var rfl) (e_lst (ds := fnd2 n mk base low d) (a_cons (e_cF (ds := [d, .int (n : Int), .int mk]) (a_cons (e_var rfl) (a_cons (e_var rfl) (a_cons (e_var rfl) a_nil))) (_law_is_next_ok (m := m) (by omega) h)) (a_cons (e_var rfl) a_nil)) (show (2 : Nat) ≤ SZ by decide)) (add_lst (show (5 : Nat) ≤ 1000 by decide) (show (2 : Nat) ≤ 1000 by decide))) a_nil)) (alike_ge hm rfl (show (8 : Nat) ≤ SZ by decide))) rfl))) ss_nil
theorem loop_ok {m : Nat} (hm : 20 ≤ m) {S : Store} {x0 x2 : Option D} {x3 x4 x5 x6 x7 x8 x9 x10 : Option D} (hB : Bag S) : ∃ (e' : PyI.Env) (S' : Store), evSs ⟨C m, conT cons⟩ (.cons (.asg (.tp [3, 4, 5, 6]) (.tup (.cons (.bin .add (.cst (.int 1)) (.cF "_law_take" (.cons (.var 1) (.cons (.cst (.int 3)) .nil)))) (.cons (.bin .add (.cst (.int 1)) (.cF "_law_take" (.cons (.var 1) (.cons (.cst (.int 4)) .nil)))) (.cons (.bin .add (.cst (.int 2)) (.cF "_law_take" (.cons (.var 1) (.cons (.cst (.int 9)) .nil)))) (.cons (.bin .sub (.cF "_law_take" (.cons (.var 1) (.cons (.cst (.int 5)) .nil))) (.cst (.int 2))) .nil)))))) (.cons (.for (.nm 7) (.seq (.cF "_law_things" (.cons (.var 1) (.cons (.var 3) (.cons (.var 4) .nil))))) stepB) .nil)) [x0, some (.obj 0), x2, x3, x4, x5, x6, x7, x8, x9, x10, none] S = .ok (.nx e') S' ∧
    ∃ y3 y4 y5 y6 y7 y8 y9 y10 : Option D, e' = [x0, some (.obj 0), x2, y3, y4, y5, y6, y7, y8, y9, y10, none] ∧ Bag S' := by
  obtain ⟨v1, S1, h1, b1, v10, v11⟩ := take_ge (S := S) (m := m) (v := 3) (by omega) (by decide) (by decide) hB
  obtain ⟨v2, S2, h2, b2, v20, v21⟩ := take_ge (S := S1) (m := m) (v := 4) (by omega) (by decide) (by decide) b1
  obtain ⟨v3, S3, h3, b3, v30, v31⟩ := take_ge (S := S2) (m := m) (v := 9) (by omega) (by decide) (by decide) b2
  obtain ⟨v4, S4, h4, b4, v40, v41⟩ := take_ge (S := S3) (m := m) (v := 5) (by omega) (by decide) (by decide) b3
  obtain ⟨n, hn⟩ : ∃ n : Nat, 1 + v1 = (n : Int) := ⟨(1 + v1).toNat, by omega⟩
  have p0 : 14 ≤ m := by omega
  have p1 : 0 < n := by omega
  have p2 : n ≤ 50 := by omega
  have p3 : 0 < 1 + v2 := by omega
  have p4 : 1 + v2 < 1000 := by omega
  obtain ⟨ds, S5, h5, b5, q5, g5⟩ := things_ok (S := S4) (m := m) (n := n) (mk := 1 + v2) p0 p1 p2 p3 p4 b4
  have hi : evI ⟨C m, conT cons⟩ (.seq (.cF "_law_things" (.cons (.var 1) (.cons (.var 3) (.cons (.var 4) .nil))))) [x0, some (.obj 0), x2, some (.int (n : Int)), some (.int (1 + v2)), some (.int (2 + v3)), some (.int (v4 - 2)), x7, x8, x9, x10, none] S4 = .ok (ds, none) S5 := by
    refine i_seq (d := .lst ds) (S1 := S5) (e_cF (ds := [.obj 0, .int (n : Int), .int (1 + v2)]) (S1 := S4) ?_ ?_) ?_
    · exact a_cons (e_var rfl) (a_cons (e_var rfl) (a_cons (e_var rfl) a_nil))
    · exact h5
    · rfl
  obtain ⟨e6, S6, h6, y7, y8, y9, y10, rfl, b6⟩ := for_inv (W := ⟨C m, conT cons⟩) (t := .nm 7) (it := .seq (.cF "_law_things" (.cons (.var 1) (.cons (.var 3) (.cons (.var 4) .nil))))) (b := stepB) (e := [x0, some (.obj 0), x2, some (.int (n : Int)), some (.int (1 + v2)), some (.int (2 + v3)), some (.int (v4 - 2)), x7, x8, x9, x10, none]) (S0 := S4) (S := S5) (xs := ds)
    (P := fun e S => ∃ y7 y8 y9 y10 : Option D, e = [x0, some (.obj 0), x2, some (.int (n : Int)), some (.int (1 + v2)), some (.int (2 + v3)), some (.int (v4 - 2)), y7, y8, y9, y10, none] ∧ Bag S)
    hi ⟨x7, x8, x9, x10, rfl, b5⟩ (fun x hx e S hP => by
      obtain ⟨y7, y8, y9, y10, rfl, bS⟩ := hP
      obtain ⟨z8, z9, z10, hz⟩ := step_ok (m := m) hm (S := S) (d := x) (n := n) (mk := 1 + v2) (base := 2 + v3) (low := v4 - 2) (x0 := x0) (x1 := some (.obj 0)) (x2 := x2) (x8 := y8) (x9 := y9) (x10 := y10) (g5 x hx)
      exact ⟨_, rfl, _, S, hz, some x, z8, z9, z10, rfl, bS⟩)
  refine ⟨_, S6, ss_nx (st_asg (d := .tup [.int (n : Int), .int (1 + v2), .int (2 + v3), .int (v4 - 2)]) (e_tup (ds := [.int (n : Int), .int (1 + v2), .int (2 + v3), .int (v4 - 2)]) (a_cons (e_bin (d := .int 1) (d1 := .int v1) e_cst (e_cF (ds := [.obj 0, .int 3]) (a_cons (e_var rfl) (a_cons e_cst a_nil)) h1) ?_) (a_cons (e_bin (d := .int 1) (d1 := .int v2) e_cst (e_cF (ds := [.obj 0, .int 4]) (a_cons (e_var rfl) (a_cons e_cst a_nil)) h2) rfl) (a_cons (e_bin (d := .int 2) (d1 := .int v3) e_cst (e_cF (ds := [.obj 0, .int 9]) (a_cons (e_var rfl) (a_cons e_cst a_nil)) h3) rfl) (a_cons (e_bin (d := .int v4) (d1 := .int 2) (e_cF (ds := [.obj 0, .int 5]) (a_cons (e_var rfl) (a_cons e_cst a_nil)) h4) e_cst rfl) a_nil)))) (show (4 : Nat) ≤ SZ by decide)) rfl) (ss_nx h6 ss_nil), _, _, _, _, y7, y8, y9, y10, rfl, b6⟩
  show some (D.int (1 + v1)) = _
  rw [hn]
theorem law_any {m : Nat} (hm : 20 ≤ m) {ns : List Int} (hl : ns.length ≤ 63) : ∃ S, evSs ⟨C m, conT cons⟩ e_law [some (.rol (ns.map .int)), none, none, none, none, none, none, none, none, none, none, none] [] = .ok (.rt (.bl true)) S := by
  obtain ⟨S1, h1, b1⟩ := bag_ge (m := m) (ns := ns) hm hl
  obtain ⟨e', S', h2, y2, y3, y4, y5, y6, y7, y8, y9, y10, rfl, b2⟩ := for_inv (W := ⟨C m, conT cons⟩) (t := .nm 2) (it := .rng (.cst (.int 6))) (e := [some (.rol (ns.map .int)), some (.obj 0), none, none, none, none, none, none, none, none, none, none]) (S0 := S1) (S := S1) (xs := itInts 0 6)
    (b := (.cons (.asg (.tp [3, 4, 5, 6]) (.tup (.cons (.bin .add (.cst (.int 1)) (.cF "_law_take" (.cons (.var 1) (.cons (.cst (.int 3)) .nil)))) (.cons (.bin .add (.cst (.int 1)) (.cF "_law_take" (.cons (.var 1) (.cons (.cst (.int 4)) .nil)))) (.cons (.bin .add (.cst (.int 2)) (.cF "_law_take" (.cons (.var 1) (.cons (.cst (.int 9)) .nil)))) (.cons (.bin .sub (.cF "_law_take" (.cons (.var 1) (.cons (.cst (.int 5)) .nil))) (.cst (.int 2))) .nil)))))) (.cons (.for (.nm 7) (.seq (.cF "_law_things" (.cons (.var 1) (.cons (.var 3) (.cons (.var 4) .nil))))) stepB) .nil)))
    (P := fun e S => ∃ y2 y3 y4 y5 y6 y7 y8 y9 y10 : Option D, e = [some (.rol (ns.map .int)), some (.obj 0), y2, y3, y4, y5, y6, y7, y8, y9, y10, none] ∧ Bag S)
    (i_rng (n := 6) e_cst (by decide)) ⟨none, none, none, none, none, none, none, none, none, rfl, b1⟩ (fun x hx e S hP => by
      obtain ⟨y2, y3, y4, y5, y6, y7, y8, y9, y10, rfl, bS⟩ := hP
      refine ⟨_, rfl, ?_⟩
      obtain ⟨e', S', h, z3, z4, z5, z6, z7, z8, z9, z10, rfl, b⟩ := loop_ok (m := m) hm (S := S) (x0 := some (.rol (ns.map .int))) (x2 := some x) (x3 := y3) (x4 := y4) (x5 := y5) (x6 := y6) (x7 := y7) (x8 := y8) (x9 := y9) (x10 := y10) bS
      exact ⟨_, S', h, some x, z3, z4, z5, z6, z7, z8, z9, z10, rfl, b⟩)
  exact ⟨S', ss_nx (st_asg (d := .obj 0) (e_cF (ds := [.rol (ns.map .int)]) (a_cons (e_var rfl) a_nil) h1) rfl) (ss_nx h2 (ss_rt (st_ret e_cst)))⟩
theorem law_m {m : Nat} (hm : 20 ≤ m) {ns : List Int} (hl : ns.length ≤ 63) : ∃ S, C (m + 1) "law" [.rol (ns.map .int)] [] = .ok (.bl true) S := by
  obtain ⟨S', hb⟩ := law_any hm hl
  have hc := call_eq (T := tabT rows) (con := conT cons) (k := m) (f := "law") (ds := [.rol (ns.map .int)]) (S := []) T_law rfl
  exact ⟨_, hc.trans (congrArg (fin []) hb)⟩
theorem law_true : ∀ ns : List Int, ns.length ≤ 63 → ∃ S, callN (tabT rows) (conT cons) 60 r_law.name [.rol (ns.map .int)] [] = .ok (.bl true) S := fun ns hl => law_m (m := 59) (by decide) hl
end K01

set_option maxRecDepth 100000
set_option maxHeartbeats 0
namespace K01
open PySem PySem.Spec PyProof.Rows L2 PyI
abbrev R : PySem.W.OpenRow := PySem.W.OpenLaw.row PySem.Challenge.rw_slipschool_k01_forms_of_sums_tests_and_n
abbrev hk : PySem.W.Hook := hookP 5 rows cons
def ob (s : PySem.W.SharedT) : AlP := obsPG 5 rows cons (HandSHeadRun.getT s)
theorem ob_eq (s : PySem.W.SharedT) : ob s = hk.obs s.abs := obsPG_eq (HandSHeadRun.getT_eq s)
theorem run (w : World) : HandSHeadRun.RunEq R (PySem.W.view R.prog [34]) hk ob 3000 names w := by
  intro os
  kernel_rfl
end K01

set_option maxHeartbeats 0
open PySem PySem.W PySem.Calls PyProof.Rows
theorem PySem.Challenge.cw_slipschool_k01_forms_of_sums_tests_and_n_holds : PySem.Challenge.rw_slipschool_k01_forms_of_sums_tests_and_n.Holds := by
  w_on; o_law
  refine HandSHeadRun.head_any (r := OpenLaw.row PySem.Challenge.rw_slipschool_k01_forms_of_sums_tests_and_n) (q := view (OpenLaw.row PySem.Challenge.rw_slipschool_k01_forms_of_sums_tests_and_n).prog [34]) (H := K01.hk) (ob := K01.ob) (M := 3000) (loose := K01.names) (d := HandSHeadRun.topDef (OpenLaw.row PySem.Challenge.rw_slipschool_k01_forms_of_sums_tests_and_n).prog 34) (kwd := []) K01.ob_eq
    (by kernel_rfl) (fun s => by kernel_rfl) K01.run (by kernel_rfl) (by kernel_rfl) (by kernel_rfl) (by rfl) (by first | assumption | decide +kernel) (by decide +kernel) ⟨rfl, rfl, rfl, rfl, rfl, by decide +kernel⟩ ?hw ?hc
  case hw => w_witness2
  case hc => exact PyI.walk_P (l := PySem.Challenge.rw_slipschool_k01_forms_of_sums_tests_and_n) (rows := K01.rows) (cs := K01.cons) (r := K01.r_law) (k := 60) rfl (by kernel_rfl) ⟨rfl, by decide, by decide⟩ K01.rows_ok (List.mem_of_getElem? (i := 24) rfl) (by kernel_rfl) rfl K01.law_true
