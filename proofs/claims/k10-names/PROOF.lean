import PyProof.Rows.All
import Wide.All
import OpenK.AllK
import Wide.FinOn
import KE.KDictZip
import KE.GoesZip
import KE.GoesMore
import KE.KDictItemsList
import HandS.Base
import HandS.Call
import HandS.List
import HandS.Comp
import HandS.Text
import KE.SortKeyHeap
import HandS.Lambda
import HandS.IsInst
import HandS.Flow
import HandS.Style
import HandS.Star
import HandS.TupAny
import HandS.TupMul
import HandS.Deep
import HandS.Walk
import HandS.Zip
import HandS.Words
import HandS.WordsExc
import HandS.CallSlots
import KE.DataEq
import HandS.ExcValue
import KE.KRevSl
import PyProof.SeqIndex
import HandS.Iter
import KE.GoesEnum
import HandS.ExcField
import HandS.ExcInit
import HandS.SortKw
import HandS.DictComp
import HandS.More
import HandS.Nested
import KE.KExcSuper
import HandS.Defaults
import HandS.HeadHook1
import HandS.HeadHook2
import HandS.HeadEnd
import HandS.EndTab
import KE.KStateDown
import Lean
import HandS.Ends
import HandS.Head0
import HandS.Head1
import HandS.Head2
import HandS.Keys
import PySem.Challenge.RW_slipschool_k10_names_of_changes_and_part
set_option Elab.async false
set_option linter.all false
set_option maxRecDepth 100000
set_option maxHeartbeats 4000000
namespace PyZ
open PySem PySem.Calls PyProof.Rows PyProof.V PySem.Spec PySem.W
/-! list(zip(a, b)) -/
theorem zip_no_len : typeLookup (.type "zip") "__len__" = pure none := am_miss_of_fast (by decide +kernel)
theorem zip_no_hint : typeLookup (.type "zip") "__length_hint__" = pure none := am_miss_of_fast (by decide +kernel)
section
variable {prog : Program} {w : World} {A : Around} {E : Value → Shared → Prop} {s : Shared} {z TI TO i1 i2 T : Addr} {f : Bool} {oT : Obj} {fp1 fp2 : List Addr} {n1 n2 i : Nat} {P1 P2 : Nat → Value → Prop} {St1 St2 : Nat → Heap → Prop}
theorem zipH_item {Q : Value → Shared → Prop} (S : ZipSep2 z TI TO i1 i2 fp1 fp2) (D1 : Draws prog w A i1 fp1 n1 P1 St1) (D2 : Draws prog w A i2 fp2 n2 P2 St2)
    (hz : IsZipHeld s.heap z TI TO T f) (hT : s.heap.get? T = some oT) (hTI : IsTupOf2 s.heap TI (.ref i1) (.ref i2)) (st1 : St1 i s.heap) (st2 : St2 i s.heap) (hlt1 : i < n1) (hlt2 : i < n2)
    (hQ : ∀ x1 x2 h' tk, P1 i x1 → P2 i x2 → IsZipHeld h' z TI TO T true → St1 (i + 1) h' → St2 (i + 1) h' → IsTupOf2 h' s.heap.objs.size x1 x2 → h'.objs.size = s.heap.objs.size + 1 →
      (∀ c o, c ≠ z → c ≠ i1 → c ≠ i2 → s.heap.get? c = some o → h'.get? c = some o) → Q (.ref s.heap.objs.size) { s with heap := h', toks := tk }) :
    wpAny (model prog w) A (Builtin.«zip.__next__» ⟨[.ref z], []⟩) (fun fin s' => ∃ v, fin = .done (.ret v) ∧ Q v s') E s := by
  obtain ⟨hp, g, d, tk0, os⟩ := s
  show wpAny _ _ (field (.ref z) 2 >>= _) _ _ _
  refine wpAny_bind (wpAny_field hz rfl (x := .bool false) rfl ?_)
  show wpAny _ _ (field (.ref z) 3 >>= _) _ _ _
  refine wpAny_bind (wpAny_field hz rfl (x := .ref TI) rfl ?_)
  refine wpAny_bind (wpAny_seqItems hTI rfl ?_)
  show wpAny _ _ (Builtin.SmallTypes.ownedTupleIsFree (.ref z) >>= _) _ _ _
  refine wpAny_bind (wpAny_tupleHeld_zip hz hT fun g0 hz0 hs0 => ?_)
  replace hs0 : Heap.SameBut z hp g0 := hs0
  simp only [Bool.false_eq_true, if_false]
  refine wpAny_bind ?_
  rw [← Array.forIn_toList]
  simp only [List.forIn_cons, List.forIn_nil]
  refine wpAny_bind (wpAny_bind (wpAny_holding ?_))
  show wpAny _ _ (Builtin.SmallTypes.nextOf (.ref i1) >>= _) _ _ ⟨g0, g, d, tk0, os⟩
  refine wpAny_bind (D1.item i _ _ _ hlt1 (D1.over st1 hs0 S.zf1) fun x1 p1 tk1 hx1 sn1 hp1 => wpAny_pure ?_)
  replace hp1 : Heap.SameBut i1 g0 p1 := hp1
  refine wpAny_pure ?_
  refine wpAny_bind (wpAny_bind (wpAny_holding ?_))
  show wpAny _ _ (Builtin.SmallTypes.nextOf (.ref i2) >>= _) _ _ ⟨p1, g, d, tk1, os⟩
  refine wpAny_bind (D2.item i _ _ _ hlt2 (D2.over (D2.over st2 hs0 S.zf2) hp1 S.sep1_2) fun x2 p2 tk2 hx2 sn2 hp2 => wpAny_pure ?_)
  replace hp2 : Heap.SameBut i2 p1 p2 := hp2
  refine wpAny_pure (wpAny_pure ?_)
  show wpAny _ _ (newTuple [x1, x2] >>= _) _ _ ⟨p2, g, d, tk2, os⟩
  refine wpAny_bind (wpAny_newTuple ?_)
  have hsz : p2.objs.size = hp.objs.size := by rw [hp2.1, hp1.1, hs0.1]
  have hzz : IsZipHeld p2 z TI TO T true := hp2.extBut _ _ S.zi2 (hp1.extBut _ _ S.zi1 hz0)
  have hkk : ∀ c o, c ≠ z → c ≠ i1 → c ≠ i2 → hp.get? c = some o → p2.get? c = some o := fun c o cz c1 c2 e => hp2.extBut _ _ c2 (hp1.extBut _ _ c1 (hs0.extBut _ _ cz e))
  refine wpAny_pure ⟨_, rfl, ?_⟩
  show Q (.ref p2.objs.size) ⟨p2.push { cls := .type "tuple", data := .seq #[x1, x2] }, g, d, tk2, os⟩
  have hq : IsTupOf2 (p2.push { cls := .type "tuple", data := .seq #[x1, x2] }) p2.objs.size x1 x2 := Heap.get?_push_size _ rfl
  have hz4 : (p2.push { cls := .type "tuple", data := .seq #[x1, x2] }).objs.size = p2.objs.size + 1 := Heap.size_push ..
  have up : ∀ c o, p2.get? c = some o → (p2.push { cls := .type "tuple", data := .seq #[x1, x2] }).get? c = some o := fun c o e => Heap.get?_push_of_some _ e
  rw [hsz] at hq hz4 ⊢
  exact hQ x1 x2 _ tk2 hx1 hx2 (up _ _ hzz) (D1.frame _ _ _ (D1.over sn1 hp2 S.sep2_1) fun b hb o e => up b o e) (D2.frame _ _ _ sn2 fun b hb o e => up b o e) hq hz4 fun c o cz c1 c2 e => up c o (hkk c o cz c1 c2 e)
theorem zipH_end {Q : Fin → Shared → Prop} (S : ZipSep2 z TI TO i1 i2 fp1 fp2) (D1 : Draws prog w A i1 fp1 n1 P1 St1) (D2 : Draws prog w A i2 fp2 n2 P2 St2)
    (hz : IsZipHeld s.heap z TI TO T f) (hT : s.heap.get? T = some oT) (hTI : IsTupOf2 s.heap TI (.ref i1) (.ref i2)) (st1 : St1 i s.heap) (st2 : St2 i s.heap) (hle1 : i ≤ n1) (hle2 : i ≤ n2) (hend : i = n1 ∨ i = n2)
    (hE : ∀ h' tk e, (∀ c o, c ≠ z → c ≠ i1 → c ≠ i2 → s.heap.get? c = some o → h'.get? c = some o) → (∃ o, h'.get? e = some o ∧ o.cls = .type "StopIteration") → E (.ref e) { s with heap := h', toks := tk }) :
    wpAny (model prog w) A (Builtin.«zip.__next__» ⟨[.ref z], []⟩) Q E s := by
  obtain ⟨hp, g, d, tk0, os⟩ := s
  show wpAny _ _ (field (.ref z) 2 >>= _) _ _ _
  refine wpAny_bind (wpAny_field hz rfl (x := .bool false) rfl ?_)
  show wpAny _ _ (field (.ref z) 3 >>= _) _ _ _
  refine wpAny_bind (wpAny_field hz rfl (x := .ref TI) rfl ?_)
  refine wpAny_bind (wpAny_seqItems hTI rfl ?_)
  show wpAny _ _ (Builtin.SmallTypes.ownedTupleIsFree (.ref z) >>= _) _ _ _
  refine wpAny_bind (wpAny_tupleHeld_zip hz hT fun g0 hz0 hs0 => ?_)
  replace hs0 : Heap.SameBut z hp g0 := hs0
  simp only [Bool.false_eq_true, if_false]
  refine wpAny_bind ?_
  rw [← Array.forIn_toList]
  simp only [List.forIn_cons, List.forIn_nil]
  refine wpAny_bind (wpAny_bind (wpAny_holding ?_))
  show wpAny _ _ (Builtin.SmallTypes.nextOf (.ref i1) >>= _) _ _ ⟨g0, g, d, tk0, os⟩
  by_cases hlt1 : i < n1
  · refine wpAny_bind (D1.item i _ _ _ hlt1 (D1.over st1 hs0 S.zf1) fun x1 p1 tk1 hx1 sn1 hp1 => wpAny_pure ?_)
    replace hp1 : Heap.SameBut i1 g0 p1 := hp1
    refine wpAny_pure ?_
    have hi2 : i = n2 := by omega
    refine wpAny_bind (wpAny_bind (wpAny_holding ?_))
    show wpAny _ _ (Builtin.SmallTypes.nextOf (.ref i2) >>= _) _ _ ⟨p1, g, d, tk1, os⟩
    refine wpAny_bind (D2.done ⟨p1, g, d, tk1, os⟩ _ _ (by rw [← hi2]; exact (D2.over (D2.over st2 hs0 S.zf2) hp1 S.sep1_2)) fun q e hq he => ?_)
    replace hq : Heap.ExtBut i2 p1 q := hq
    exact hE q tk1 e (fun c o cz c1 c2 x => hq _ _ c2 (hp1.extBut _ _ c1 (hs0.extBut _ _ cz x))) he
  · have hi1 : i = n1 := by omega
    refine wpAny_bind (D1.done ⟨g0, g, d, tk0, os⟩ _ _ (by rw [← hi1]; exact (D1.over st1 hs0 S.zf1)) fun q e hq he => ?_)
    replace hq : Heap.ExtBut i1 g0 q := hq
    exact hE q tk0 e (fun c o cz c1 c2 x => hq _ _ c1 (hs0.extBut _ _ cz x)) he
theorem nextH_item {Q : Option Value → Shared → Prop} (S : ZipSep2 z TI TO i1 i2 fp1 fp2) (D1 : Draws prog w A.in1 i1 fp1 n1 P1 St1) (D2 : Draws prog w A.in1 i2 fp2 n2 P2 St2)
    (hz : IsZipHeld s.heap z TI TO T f) (hT : s.heap.get? T = some oT) (hTI : IsTupOf2 s.heap TI (.ref i1) (.ref i2)) (st1 : St1 i s.heap) (st2 : St2 i s.heap) (hlt1 : i < n1) (hlt2 : i < n2)
    (hQ : ∀ x1 x2 h' tk, P1 i x1 → P2 i x2 → IsZipHeld h' z TI TO T true → St1 (i + 1) h' → St2 (i + 1) h' → IsTupOf2 h' s.heap.objs.size x1 x2 → h'.objs.size = s.heap.objs.size + 1 →
      (∀ c o, c ≠ z → c ≠ i1 → c ≠ i2 → s.heap.get? c = some o → h'.get? c = some o) → Q (some (.ref s.heap.objs.size)) { s with heap := h', toks := tk }) :
    wpAny (model prog w) A (pyNext (.ref z)) Q E s := by
  have hTy : s.TypeIs (.ref z) "zip" := ⟨_, hz, rfl⟩
  unfold pyNext
  exact wpAny_bind (wpAny_attempt (wpAny_callSpecial?_slot (name := Str.ofString "__next__") hTy F.slot_zip_next
    (wpAny_call_entry F.slot_zip_next hTy F.entry_zip_next
      (zipH_item S D1 D2 hz hT hTI st1 st2 hlt1 hlt2 fun x1 x2 h' tk a1 a2 a3 a4 a5 a6 a7 a8 => wpAny_pure (hQ x1 x2 h' tk a1 a2 a3 a4 a5 a6 a7 a8)) (F.args_zip_next_1 _))))
theorem nextH_end {Q : Option Value → Shared → Prop} (S : ZipSep2 z TI TO i1 i2 fp1 fp2) (D1 : Draws prog w A.in1 i1 fp1 n1 P1 St1) (D2 : Draws prog w A.in1 i2 fp2 n2 P2 St2)
    (hz : IsZipHeld s.heap z TI TO T f) (hT : s.heap.get? T = some oT) (hTI : IsTupOf2 s.heap TI (.ref i1) (.ref i2)) (st1 : St1 i s.heap) (st2 : St2 i s.heap) (hle1 : i ≤ n1) (hle2 : i ≤ n2) (hend : i = n1 ∨ i = n2)
    (hQ : ∀ h' tk, (∀ c o, c ≠ z → c ≠ i1 → c ≠ i2 → s.heap.get? c = some o → h'.get? c = some o) → Q none { s with heap := h', toks := tk }) : wpAny (model prog w) A (pyNext (.ref z)) Q E s := by
  have hTy : s.TypeIs (.ref z) "zip" := ⟨_, hz, rfl⟩
  unfold pyNext
  refine wpAny_bind (wpAny_attempt (wpAny_callSpecial?_slot (name := Str.ofString "__next__") hTy F.slot_zip_next
    (wpAny_call_entry F.slot_zip_next hTy F.entry_zip_next (zipH_end S D1 D2 hz hT hTI st1 st2 hle1 hle2 hend fun h' tk e hk he => ?_) (F.args_zip_next_1 _))))
  obtain ⟨o, ho, hc⟩ := he
  refine wpAny_bind (wpAny_isInstance (T := "StopIteration") (b := true) ⟨o, ho, hc⟩ isSubtype_stop ?_)
  exact wpAny_pure (hQ _ _ hk)
/-- the zip amid its turns; N0: what it gives out lies from there on -/
structure ZS (z TI TO i1 i2 N0 : Addr) (St1 St2 : Nat → Heap → Prop) (i : Nat) (h : Heap) : Prop where
  s1 : St1 i h
  s2 : St2 i h
  ti : IsTupOf2 h TI (.ref i1) (.ref i2)
  zz : (IsZip h z TI TO .none ∧ ∃ a1 a2, IsTupOf2 h TO a1 a2) ∨ ∃ (T : Addr) (f : Bool) (o : Obj), IsZipHeld h z TI TO T f ∧ h.get? T = some o ∧ N0 ≤ T
theorem ZS.lt {z TI TO i1 i2 N0 : Addr} {i : Nat} {h : Heap} (Z : ZS z TI TO i1 i2 N0 St1 St2 i h) : h.get? z ≠ none := by
  rcases Z.zz with ⟨e, _⟩ | ⟨_, _, _, e, _⟩ <;> rw [e] <;> simp
theorem next_item {N0 : Addr} {Q : Option Value → Shared → Prop} (S : ZipSep2 z TI TO i1 i2 fp1 fp2) (D1 : Draws prog w A.in1 i1 fp1 n1 P1 St1) (D2 : Draws prog w A.in1 i2 fp2 n2 P2 St2)
    (Z : ZS z TI TO i1 i2 N0 St1 St2 i s.heap) (hN : N0 ≤ s.heap.objs.size) (hz : z < N0) (h1 : i1 < N0) (h2 : i2 < N0) (hlt1 : i < n1) (hlt2 : i < n2)
    (hQ : ∀ x1 x2 h' tk, P1 i x1 → P2 i x2 → ZS z TI TO i1 i2 N0 St1 St2 (i + 1) h' → IsTupOf2 h' s.heap.objs.size x1 x2 → h'.objs.size = s.heap.objs.size + 1 →
      (∀ c o, c ≠ z → c ≠ TO → c ≠ i1 → c ≠ i2 → s.heap.get? c = some o → h'.get? c = some o) → Q (some (.ref s.heap.objs.size)) { s with heap := h', toks := tk }) :
    wpAny (model prog w) A (pyNext (.ref z)) Q E s := by
  rcases Z.zz with ⟨hz0, a1, a2, hTO⟩ | ⟨T, f, o, hz0, hT, hge⟩
  · refine wpAny_pyNext_zipD2_item S D1 D2 hz0 Z.ti hTO Z.s1 Z.s2 hlt1 hlt2 fun x1 x2 h' tk p1 p2 q1 q2 q3 q4 q5 q6 q7 => ?_
    refine hQ x1 x2 h' tk p1 p2 ⟨q3, q4, q7 _ _ S.TIz S.TITO S.TIi1 S.TIi2 Z.ti, .inr ⟨_, false, _, q1, q5, hN⟩⟩ q5 q6 q7
  · refine nextH_item S D1 D2 hz0 hT Z.ti Z.s1 Z.s2 hlt1 hlt2 fun x1 x2 h' tk p1 p2 q1 q3 q4 q5 q6 q7 => ?_
    refine hQ x1 x2 h' tk p1 p2 ⟨q3, q4, q7 _ _ S.TIz S.TIi1 S.TIi2 Z.ti, .inr ⟨T, true, o, q1, q7 _ _ ?_ ?_ ?_ hT, hge⟩⟩ q5 q6 fun c o cz _ c1 c2 e => q7 c o cz c1 c2 e
    · exact fun e => absurd (e ▸ hge) (Nat.not_le.mpr hz)
    · exact fun e => absurd (e ▸ hge) (Nat.not_le.mpr h1)
    · exact fun e => absurd (e ▸ hge) (Nat.not_le.mpr h2)
theorem next_end {N0 : Addr} {Q : Option Value → Shared → Prop} (S : ZipSep2 z TI TO i1 i2 fp1 fp2) (D1 : Draws prog w A.in1 i1 fp1 n1 P1 St1) (D2 : Draws prog w A.in1 i2 fp2 n2 P2 St2)
    (Z : ZS z TI TO i1 i2 N0 St1 St2 i s.heap) (hle1 : i ≤ n1) (hle2 : i ≤ n2) (hend : i = n1 ∨ i = n2)
    (hQ : ∀ h' tk, (∀ c o, c ≠ z → c ≠ TO → c ≠ i1 → c ≠ i2 → s.heap.get? c = some o → h'.get? c = some o) → Q none { s with heap := h', toks := tk }) :
    wpAny (model prog w) A (pyNext (.ref z)) Q E s := by
  rcases Z.zz with ⟨hz0, a1, a2, hTO⟩ | ⟨T, f, o, hz0, hT, hge⟩
  · exact wpAny_pyNext_zipD2_end S D1 D2 hz0 Z.ti hTO Z.s1 Z.s2 hle1 hle2 hend hQ
  · exact nextH_end S D1 D2 hz0 hT Z.ti Z.s1 Z.s2 hle1 hle2 hend fun h' tk hk => hQ h' tk fun c o cz _ c1 c2 e => hk c o cz c1 c2 e
theorem ZS.frame {N0 SS : Addr} {h h' : Heap} (S : ZipSep2 z TI TO i1 i2 fp1 fp2) (D1 : Draws prog w A i1 fp1 n1 P1 St1) (D2 : Draws prog w A i2 fp2 n2 P2 St2) (Z : ZS z TI TO i1 i2 N0 St1 St2 i h)
    (k : ∀ b o, b ≠ SS → h.get? b = some o → h'.get? b = some o) (n0 : SS < N0) (n1' : SS ≠ z) (n2' : SS ≠ TI) (n3 : SS ≠ TO) (n4 : SS ∉ fp1) (n5 : SS ∉ fp2) : ZS z TI TO i1 i2 N0 St1 St2 i h' := by
  refine ⟨D1.frame _ _ _ Z.s1 fun b hb o e => k b o (fun q => n4 (q ▸ hb)) e, D2.frame _ _ _ Z.s2 fun b hb o e => k b o (fun q => n5 (q ▸ hb)) e, k _ _ n2'.symm Z.ti, ?_⟩
  rcases Z.zz with ⟨hz0, a1, a2, hTO⟩ | ⟨T, f, o, hz0, hT, hge⟩
  · exact .inl ⟨k _ _ n1'.symm hz0, a1, a2, k _ _ n3.symm hTO⟩
  · exact .inr ⟨T, f, o, k _ _ n1'.symm hz0, k _ _ (fun q => absurd (q ▸ hge) (Nat.not_le.mpr n0)) hT, hge⟩
/-- the pairs that were given out -/
structure ZG (P1 P2 : Nat → Value → Prop) (N0 : Addr) (h : Heap) (as : List Addr) : Prop where
  rise : as.Pairwise (· < ·)
  above : ∀ a ∈ as, N0 ≤ a
  pairs : ∀ (j : Nat) (a : Addr), as[j]? = some a → ∃ x y, P1 j x ∧ P2 j y ∧ IsTupOf2 h a x y
theorem ZG.there {N0 : Addr} {h : Heap} {as : List Addr} (g : ZG P1 P2 N0 h as) {a : Addr} (ha : a ∈ as) : a < h.objs.size := by
  obtain ⟨j, hj⟩ := List.mem_iff_getElem?.mp ha
  obtain ⟨_, _, _, _, e⟩ := g.pairs j a hj
  exact Heap.lt_size e
end
section
variable {prog : Program} {w : World} {A : Around} {s : Shared} {R : Result → Shared → Prop} {z TI TO i1 i2 SS N0 : Addr} {fp1 fp2 : List Addr} {n1 n2 n : Nat} {P1 P2 : Nat → Value → Prop} {St1 St2 : Nat → Heap → Prop}
theorem zil_loop (S : ZipSep2 z TI TO i1 i2 fp1 fp2) (D1 : Draws prog w A.in1.in1 i1 fp1 n1 P1 St1) (D2 : Draws prog w A.in1.in1 i2 fp2 n2 P2 St2) (hn : n = min n1 n2) (hn2 : n ≤ sizeLine)
    (b0 : SS < N0) (b1 : SS ≠ z) (b2 : SS ≠ TI) (b3 : SS ≠ TO) (b4 : SS ∉ fp1) (b5 : SS ∉ fp2) (bz : z < N0) (bo : TO < N0) (bi1 : i1 < N0) (bi2 : i2 < N0) (res : Value) {h₁ : Heap}
    (hR : ∀ h' tk acc c as, (∀ b o, b ≠ SS → b ≠ z → b ≠ TO → b ≠ i1 → b ≠ i2 → h₁.get? b = some o → h'.get? b = some o) → h'.get? SS = some { cls := .type "list", dict := none, data := .seq acc c, slots := #[] } → as.length = n → ZG P1 P2 N0 h' as →
      acc.toList = as.map Value.ref → R (.ok (.ret res)) { s with heap := h', toks := tk }) :
    ∀ (k i : Nat) (h : Heap) (tk c : Nat) (acc : Array Value) (as : List Addr), n - i = k → i ≤ n → ZS z TI TO i1 i2 N0 St1 St2 i h → N0 ≤ h.objs.size → (∀ b o, b ≠ SS → b ≠ z → b ≠ TO → b ≠ i1 → b ≠ i2 → h₁.get? b = some o → h.get? b = some o) →
      h.get? SS = some { cls := .type "list", dict := none, data := .seq acc c, slots := #[] } → acc.toList = as.map Value.ref → as.length = i → ZG P1 P2 N0 h as →
      codeAny (model prog w) A (.builtin "list.extend.loop" ⟨[.ref SS, .ref z, res], []⟩) R { s with heap := h, toks := tk } := by
  have c1 : SS ≠ i1 := fun e => b4 (e ▸ S.mem1)
  have c2 : SS ≠ i2 := fun e => b5 (e ▸ S.mem2)
  intro k
  induction k with
  | zero =>
    intro i h tk c acc as hk hi hst hD hkeep hS hacc hal hG
    refine codeAny_builtin PySem.F.entry_extend_loop ?_
    rw [Around.under_plainId PySem.F.plain_extend_loop _]
    show wpAny _ A.in1 (pyNext (.ref z) >>= _) _ _ _
    refine wpAny_bind (next_end (s := { s with heap := h, toks := tk }) (A := A.in1) S D1 D2 hst (by omega) (by omega) (by omega) fun h' tk' he => ?_)
    refine wpAny_pure (hR h' tk' acc c as (fun b o d1 d2 d3 d4 d5 e => he b o d2 d3 d4 d5 (hkeep b o d1 d2 d3 d4 d5 e)) (he SS _ b1 b3 c1 c2 hS) (by omega) ⟨hG.rise, hG.above, fun j a hj => ?_⟩ hacc)
    obtain ⟨x, y, p1, p2, e3⟩ := hG.pairs j a hj
    have ha := hG.above a (List.mem_of_getElem? hj)
    have hb : ∀ b : Addr, b < N0 → a ≠ b := fun b hb e => absurd (e ▸ ha) (Nat.not_le.mpr hb)
    exact ⟨x, y, p1, p2, he a _ (hb _ bz) (hb _ bo) (hb _ bi1) (hb _ bi2) e3⟩
  | succ k ih =>
    intro i h tk c acc as hk hi hst hD hkeep hS hacc hal hG
    have hsz : acc.size = i := by rw [← Array.length_toList, hacc, List.length_map, hal]
    refine codeAny_builtin PySem.F.entry_extend_loop ?_
    rw [Around.under_plainId PySem.F.plain_extend_loop _]
    show wpAny _ A.in1 (pyNext (.ref z) >>= _) _ _ _
    refine wpAny_bind (next_item (s := { s with heap := h, toks := tk }) (A := A.in1) S D1 D2 hst hD bz bi1 bi2 (by omega) (by omega) fun x y h' tk' p1 p2 hst' ht hz hkp => ?_)
    dsimp only at ht hz hkp ⊢
    have hS' := hkp SS _ b1 b3 c1 c2 hS
    have up : ∀ b o, b ≠ SS → h'.get? b = some o → (h'.update SS (Obj.mapSeq (·.push (Value.ref h.objs.size)))).get? b = some o := fun b o hb e => (Heap.get?_update_other _ _ (Ne.symm hb)).trans e
    have hSl : SS < h.objs.size := Heap.lt_size hS
    have hab : ∀ a : Addr, N0 ≤ a → ∀ b : Addr, b < N0 → a ≠ b := fun a ha b hb e => absurd (e ▸ ha) (Nat.not_le.mpr hb)
    have ht2 := up h.objs.size _ (Nat.ne_of_gt hSl) ht
    show wpAny _ A.in1 (updateSeq SS (·.push (Value.ref h.objs.size)) >>= _) _ _ _
    refine wpAny_bind ?_
    refine wpAny_updateSeq hS' rfl (wpAny_pure ⟨plainId_quiet PySem.F.plain_extend_loop _, ih (i + 1) _ tk' _ (acc.push (Value.ref h.objs.size)) (as ++ [h.objs.size]) (by omega) (by omega) (hst'.frame S D1 D2 up b0 b1 b2 b3 b4 b5) (Nat.le_trans hD (Nat.le_of_lt (Heap.lt_size ht2)))
      (fun b o d1 d2 d3 d4 d5 e => up b o d1 (hkp b o d2 d3 d4 d5 (hkeep b o d1 d2 d3 d4 d5 e))) (Heap.get?_update_self _ hS' rfl) (by rw [Array.toList_push, hacc, List.map_append]; rfl) (by rw [List.length_append, hal]; rfl) ⟨?_, ?_, ?_⟩⟩) (by rw [hsz]; omega) (by show (acc.push (Value.ref h.objs.size)).size ≤ sizeLine + 1; rw [Array.size_push, hsz]; omega)
    · refine List.pairwise_append.mpr ⟨hG.rise, List.pairwise_singleton _ _, fun a ha b hb => ?_⟩
      rw [List.mem_singleton.mp hb]
      exact hG.there ha
    · intro a ha
      rcases List.mem_append.mp ha with ha | ha
      · exact hG.above a ha
      · rw [List.mem_singleton.mp ha]; exact hD
    · intro j b hj
      rcases Nat.lt_trichotomy j as.length with h1 | h1 | h1
      · rw [List.getElem?_append_left h1] at hj
        obtain ⟨x', y', q1, q2, e3⟩ := hG.pairs j b hj
        have hb := hG.above b (List.mem_of_getElem? hj)
        exact ⟨x', y', q1, q2, up b _ (hab b hb _ b0) (hkp b _ (hab b hb _ bz) (hab b hb _ bo) (hab b hb _ bi1) (hab b hb _ bi2) e3)⟩
      · subst h1
        have hb : h.objs.size = b := by simpa using hj
        subst hb
        exact ⟨x, y, by rw [hal]; exact p1, by rw [hal]; exact p2, ht2⟩
      · have hnone : (as ++ [h.objs.size])[j]? = none := List.getElem?_eq_none (by rw [List.length_append, List.length_singleton]; omega)
        rw [hnone] at hj; cases hj
end
end PyZ

set_option maxRecDepth 100000
set_option maxHeartbeats 4000000
namespace PyZ
open PySem PySem.Calls PyProof.Rows PyProof.V PySem.Spec PySem.W
section
variable {prog : Program} {w : World} {A : Around} {E : Value → Shared → Prop} {s : Shared} {z TI TO i1 i2 : Addr} {fp1 fp2 : List Addr} {n1 n2 n : Nat} {P1 P2 : Nat → Value → Prop} {St1 St2 : Nat → Heap → Prop}
abbrev DrawsA (prog : Program) (w : World) (it : Addr) (fp : List Addr) (n : Nat) (P : Nat → Value → Prop) (St : Nat → Heap → Prop) : Prop := ∀ A : Around, A.handled = none → Draws prog w A it fp n P St
theorem ZS.ty {N0 : Addr} {i : Nat} (Z : ZS z TI TO i1 i2 N0 St1 St2 i s.heap) : s.TypeIs (.ref z) "zip" := by
  rcases Z.zz with ⟨e, _⟩ | ⟨_, _, _, e, _⟩ <;> exact ⟨_, e, rfl⟩
theorem zil_call {N1 : Addr} {Q : Value → Shared → Prop} (hh : A.handled = none) (S : ZipSep2 z TI TO i1 i2 fp1 fp2) (D1 : DrawsA prog w i1 fp1 n1 P1 St1) (D2 : DrawsA prog w i2 fp2 n2 P2 St2) (hn : n = min n1 n2) (hn2 : n ≤ sizeLine)
    (Z : ZS z TI TO i1 i2 N1 St1 St2 0 s.heap) (hz0 : IsZip s.heap z TI TO .none) (hTO : ∃ a1 a2, IsTupOf2 s.heap TO a1 a2) (l1 : ∀ b ∈ fp1, b < s.heap.objs.size) (l2 : ∀ b ∈ fp2, b < s.heap.objs.size)
    (hQ : ∀ h' tk acc c as, (∀ b o, b ≠ z → b ≠ TO → b ≠ i1 → b ≠ i2 → s.heap.get? b = some o → h'.get? b = some o) → h'.get? s.heap.objs.size = some { cls := .type "list", dict := none, data := .seq acc c, slots := #[] } → as.length = n → ZG P1 P2 (s.heap.objs.size + 1) h' as →
      acc.toList = as.map Value.ref → Q (.ref s.heap.objs.size) { s with heap := h', toks := tk }) :
    wpAny (model prog w) A (call (.type "list") [.ref z]) Q E s := by
  have hzl : z < s.heap.objs.size := Heap.lt_size hz0
  have hTIl : TI < s.heap.objs.size := Heap.lt_size Z.ti
  obtain ⟨a1, a2, hTO⟩ := hTO
  have hTOl : TO < s.heap.objs.size := Heap.lt_size hTO
  have hi1 : i1 < s.heap.objs.size := l1 _ S.mem1
  have hi2 : i2 < s.heap.objs.size := l2 _ S.mem2
  refine callType_codes (Q₁ := fun obj s₁ => obj = .ref s.heap.objs.size ∧ s₁ = { s with heap := s.heap.push { cls := .type "list", data := .seq #[] } }) PySem.F.called_list (PySem.F.typeCall_list_1 _) PySem.F.entry_list_init
    (code_list_new _ ⟨rfl, rfl⟩) fun obj s₁ h₁ => ?_
  obtain ⟨rfl, rfl⟩ := h₁
  have hS : (s.heap.push { cls := .type "list", data := .seq #[] }).get? s.heap.objs.size = some { cls := .type "list", data := .seq #[] } := Heap.get?_push_size _ rfl
  refine ⟨⟨_, hS, rfl⟩, PySem.F.args_list_init_2 _ _, ?_⟩
  show wpAny _ A.in1.in1 (do let old ← Builtin.List.listItems (.ref s.heap.objs.size); Builtin.List.listUpdate (.ref s.heap.objs.size) (fun _ => #[]); letGo old.toList.reverse; Builtin.List.listExtendWith (.ref s.heap.objs.size) (.ref z) .none) _ _ _
  refine wpAny_bind ?_
  unfold Builtin.List.listItems
  refine wpAny_bind (wpAny_seqItems hS rfl (wpAny_pure ?_))
  show wpAny _ A.in1.in1 (updateSeq s.heap.objs.size (fun _ => #[]) >>= fun _ => letGo (#[] : Array Value).toList.reverse >>= fun _ => Builtin.List.listExtendWith (.ref s.heap.objs.size) (.ref z) .none) _ _ _
  refine wpAny_bind (wpAny_updateSeq hS rfl ?_)
  have hS2 := Heap.get?_update_self (Obj.mapSeq (fun _ => (#[] : Array Value))) hS rfl
  refine wpAny_bind (wpAny_letGo ?_)
  unfold Builtin.List.listExtendWith
  have up : ∀ (h : Heap) (f : Obj → Obj), (∀ b o, s.heap.get? b = some o → h.get? b = some o) → ∀ b o, s.heap.get? b = some o → (h.update s.heap.objs.size f).get? b = some o := fun h f q b o e =>
    (Heap.get?_update_other _ _ (Ne.symm (Nat.ne_of_lt (Heap.lt_size e)))).trans (q b o e)
  have k1 : ∀ b o, s.heap.get? b = some o → (s.heap.push { cls := .type "list", data := .seq #[] }).get? b = some o := fun b o e => Heap.get?_push_of_some _ e
  have k2 := up _ (Obj.mapSeq (fun _ => (#[] : Array Value))) k1
  have hSz : s.heap.objs.size ≠ z := Nat.ne_of_gt hzl
  refine wpAny_bind (wpAny_typeOf (T := "zip") ⟨_, k2 _ _ hz0, rfl⟩ ?_)
  have h1 : Builtin.List.listSameRef (.ref s.heap.objs.size) (.ref z) = false := by simp [Builtin.List.listSameRef, hSz]
  have h2 : (Value.type "zip" == Value.type "list") = false := by decide
  have h3 : (Value.type "zip" == Value.type "tuple") = false := by decide
  simp only [h1, h2, h3, Bool.or_false, Bool.false_eq_true, if_false]
  refine wpAny_bind (wpAny_pyIter_zip (s := { s with heap := _ }) (k2 _ _ hz0) ?_)
  refine wpAny_bind (wpAny_holding ?_)
  unfold Builtin.List.listLengthHint
  refine wpAny_bind (wpAny_specialOf (T := "zip") ⟨_, k2 _ _ hz0, rfl⟩ zip_no_len ?_)
  show wpAny _ A.in1.in1 (specialOf (Value.ref z) (Str.ofString "__length_hint__") >>= _) _ _ _
  refine wpAny_bind (wpAny_specialOf (T := "zip") ⟨_, k2 _ _ hz0, rfl⟩ zip_no_hint ?_)
  refine wpAny_pure ?_
  have fin : ∀ (h : Heap) (c₁ tk : Nat), (∀ b o, s.heap.get? b = some o → h.get? b = some o) → h.get? s.heap.objs.size = some { cls := .type "list", data := .seq #[] c₁ } →
      codeAny (model prog w) A.in1 (.builtin "list.extend.loop" ⟨[.ref s.heap.objs.size, .ref z, .none], []⟩) (wants (fun r s₂ => r = Value.none ∧ Q (.ref s.heap.objs.size) s₂) E) { s with heap := h, toks := tk } := by
    intro h c₁ tk hk hS₁
    have hlt : s.heap.objs.size < h.objs.size := Heap.lt_size hS₁
    refine zil_loop (s := s) (A := A.in1) (h₁ := h) (N0 := s.heap.objs.size + 1) S (D1 _ hh) (D2 _ hh) hn hn2 (Nat.lt_succ_self _) hSz (Nat.ne_of_gt hTIl) (Nat.ne_of_gt hTOl) (fun q => Nat.lt_irrefl _ (l1 _ q)) (fun q => Nat.lt_irrefl _ (l2 _ q))
      (Nat.lt_succ_of_lt hzl) (Nat.lt_succ_of_lt hTOl) (Nat.lt_succ_of_lt hi1) (Nat.lt_succ_of_lt hi2) .none (fun h' tk' acc c as d1 d2 d3 d4 d5 => ⟨rfl, hQ h' tk' acc c as (fun b o q2 q3 q4 q5 e => d1 b o (Nat.ne_of_lt (Heap.lt_size e)) q2 q3 q4 q5 (hk b o e)) d2 d3 d4 d5⟩)
      n 0 h tk c₁ #[] [] (Nat.sub_zero _) (Nat.zero_le _) ⟨(D1 A hh).frame _ _ _ Z.s1 fun b _ o e => hk b o e, (D2 A hh).frame _ _ _ Z.s2 fun b _ o e => hk b o e, hk _ _ Z.ti, .inl ⟨hk _ _ hz0, a1, a2, hk _ _ hTO⟩⟩ hlt (fun b o _ _ _ _ _ e => e) hS₁ rfl rfl
      ⟨List.Pairwise.nil, (fun _ ha => nomatch ha), (fun j a hj => by simp at hj)⟩
  refine wpAny_ite_split (fun _ => ?_) (fun _ => wpAny_pure ⟨plainId_quiet PySem.F.plain_extend_loop _, fin _ _ _ k2 hS2⟩)
  refine wpAny_bind (wpAny_rule ?_)
  refine wpAny_bind ?_
  show wpAny _ _ (updateSeq s.heap.objs.size (·.push .none) >>= fun _ => updateSeq s.heap.objs.size (·.pop)) _ _ _
  refine wpAny_bind (wpAny_updateSeq hS2 rfl ?_)
  have hS3 := Heap.get?_update_self (Obj.mapSeq (·.push Value.none)) hS2 rfl
  refine wpAny_updateSeq (hz := by seq_fits) hS3 rfl ?_
  have hS4 := Heap.get?_update_self (Obj.mapSeq (·.pop)) hS3 rfl
  exact wpAny_pure ⟨plainId_quiet PySem.F.plain_extend_loop _, fin _ _ _ (up _ (Obj.mapSeq (·.pop)) (up _ (Obj.mapSeq (·.push Value.none)) k2)) hS4⟩
end
end PyZ

set_option maxRecDepth 100000
namespace PyI
open PySem PySem.Spec L2

/-! ## values as data -/
inductive D where
  | non | bl (b : Bool) | int (i : Int) | str (x : Str)
  | tup (ds : List D) | lst (ds : List D) | rol (ds : List D)
  | obj (r : Nat) | edic
  | exc (a d : Nat) (ns : List String) (ds : List D)
  | clo (x : Bool) (C : Nat) (ns : List String) (ms : List (String × String))
  | ftup (ds : List D)
  deriving Inhabited

/-- the most items of a list -/
abbrev SZ : Nat := 16777216

mutual
/-- data without references -/
def D.pure : D → Bool
  | .obj _ => false
  | .tup ds => pures ds
  | .lst ds => pures ds
  | .rol ds => pures ds
  | .exc _ _ _ _ => false
  | .ftup ds => pures ds
  | _ => true
def pures : List D → Bool
  | [] => true
  | d :: ds => d.pure && pures ds
end
mutual
/-- references below n alone -/
def D.lim (n : Nat) : D → Bool
  | .obj r => decide (r < n)
  | .tup ds => lims n ds
  | .lst ds => lims n ds
  | .rol ds => lims n ds
  | .exc _ _ _ ds => lims n ds
  | .ftup ds => lims n ds
  | _ => true
def lims (n : Nat) : List D → Bool
  | [] => true
  | d :: ds => d.lim n && lims n ds
end
mutual
/-- what == may be asked of: its data -/
def D.py : D → Option PyData
  | .non => some .none
  | .bl b => some (.bool b)
  | .int i => some (.int i)
  | .str x => some (.str x)
  | .tup ds => match pys ds with | some xs => some (.tuple xs) | none => none
  | .lst ds => match pys ds with | some xs => some (.list xs) | none => none
  | _ => none
def pys : List D → Option (List PyData)
  | [] => some []
  | d :: ds => match d.py, pys ds with
    | some x, some xs => some (x :: xs)
    | _, _ => none
end
mutual
/-- Python's == of data -/
def D.eqv : D → D → Bool
  | .non, .non => true
  | .bl a, .bl b => a == b
  | .bl a, .int j => (if a then 1 else 0) == j
  | .int i, .bl b => i == (if b then 1 else 0)
  | .int i, .int j => i == j
  | .str x, .str y => x == y
  | .lst xs, .lst ys => eqvs xs ys
  | .tup xs, .tup ys => eqvs xs ys
  | _, _ => false
def eqvs : List D → List D → Bool
  | [], [] => true
  | x :: xs, y :: ys => x.eqv y && eqvs xs ys
  | _, _ => false
end
mutual
/-- data alone: what == may be asked of -/
def D.dat : D → Bool
  | .non => true
  | .bl _ => true
  | .int _ => true
  | .str _ => true
  | .tup ds => dats ds
  | .lst ds => dats ds
  | _ => false
def dats : List D → Bool
  | [] => true
  | d :: ds => d.dat && dats ds
end
mutual
/-- depth at most n -/
def D.flat : Nat → D → Bool
  | 0, .tup _ => false
  | 0, .lst _ => false
  | n + 1, .tup ds => flats n ds
  | n + 1, .lst ds => flats n ds
  | _, _ => true
def flats : Nat → List D → Bool
  | _, [] => true
  | n, d :: ds => d.flat n && flats n ds
end

/-! ## the store -/
inductive MO where
  | dead
  | lst (ds : List D)
  | ins (C : Nat) (ns : List String) (fs : List (String × D))
  deriving Inhabited
abbrev Store := List MO
abbrev Env := List (Option D)

/-- an exception: its class, its fields -/
abbrev Xc := String × List (String × D)
inductive Rs (α : Type) where
  | ok (a : α) (S : Store)
  | exc (x : Xc) (e : Env) (S : Store)
  | bad
@[simp] def Rs.bind {α β : Type} : Rs α → (α → Store → Rs β) → Rs β
  | .ok a S, f => f a S
  | .exc x e S, _ => .exc x e S
  | .bad, _ => .bad
inductive Fl where
  | nx (e : Env) | rt (d : D) | bk (e : Env) | ct (e : Env)

/-! ## the syntax -/
inductive BO where | add | sub | mul | mod | fdiv | pow | band | bor | shr | shl
inductive CO where | eq | ne | lt | le | gt | ge | isn | nisn | inn | nin
/-- built-ins by name, over the values of their arguments -/
inductive Bi where | len | tuple | list | all | any | sum | min | max | abs | int | sorted | zipl
/-- methods of texts, of one argument -/
inductive Me where | split | join
  deriving DecidableEq
inductive Ty where | int | bool | str | tuple | list | dict
  deriving DecidableEq
/-- targets -/
inductive Tg where
  | nm (i : Nat)
  | tp (is : List Nat)
  | tp2 (i : Nat) (js : List Nat)
mutual
inductive Ex where
  | var (i : Nat)
  | cst (d : D)
  | glo (x : String)
  | bin (o : BO) (a b : Ex)
  | neg (a : Ex)
  | cmp (o : CO) (a b : Ex)
  | chn (o p : CO) (a b c : Ex)
  | nt (a : Ex)
  | and (a b : Ex)
  | or (a b : Ex)
  | ife (c : Tx) (a b : Ex)
  | tup (es : Exs)
  | lst (es : Exs)
  | mls (es : Exs)
  | dic
  | ix (a i : Ex)
  | sl (a : Ex) (lo hi : Eo)
  | isi (a : Ex) (ts : List Ty)
  | cB (b : Bi) (es : Exs)
  | cF (f : String) (es : Exs)
  | app (a e : Ex)
  | ext (a e : Ex)
  | popl (a : Ex)
  | comp (own : List Nat) (elt : Ex) (t : Tg) (it : It) (c : Tx)
  | comp2 (own own2 : List Nat) (elt : Ex) (t : Tg) (it : It) (t2 : Tg) (it2 : It) (c : Tx)
  | fz (a : Ex)
  | zipl (es : Exs)
  | idx (a e : Ex)
  | m1 (m : Me) (a e : Ex)
  | rev (a : Ex)
  | srt (a : Ex)
  | mkl (es : Exs)
  | fld (a : Ex) (f : String)
  | mk (x : String) (es : Exs)
  | cM (x m : String) (a : Ex) (es : Exs)
  | cv (i : Nat)
  | ask (g : String) (a : Ex)
  | idxT (a e : Ex)
  | revT (a : Ex)
  | tupF (a : Ex)
  | unf (a : Ex)
  | sdc (own : List Nat) (elt : Ex) (t : Tg) (it : It)
  | popi (a e : Ex)
inductive Exs where
  | nil
  | cons (e : Ex) (es : Exs)
  | star (e : Ex) (es : Exs)
inductive Eo where
  | no
  | so (e : Ex)
/-- tests -/
inductive Tx where
  | yes
  | tst (e : Ex)
  | cmp (o : CO) (a b : Ex)
  | chn (o p : CO) (a b c : Ex)
  | ife (c a b : Tx)
  | nt (t : Tx)
  | and (a b : Tx)
  | or (a b : Tx)
inductive It where
  | seq (e : Ex)
  | rng (e : Ex)
  | rng2 (a b : Ex)
  | enu (es : Exs)
  | zip (es : Exs)
end
mutual
inductive Sm where
  | asg (t : Tg) (e : Ex)
  | par (i j : Nat) (a b : Ex)
  | par3 (i j l : Nat) (a b c : Ex)
  | aug (i : Nat) (o : BO) (e : Ex)
  | sto (a i e : Ex)
  | augs (a i : Ex) (o : BO) (e : Ex)
  | exp (e : Ex)
  | ret (e : Ex)
  | ret0
  | ifs (c : Tx) (a b : Sms)
  | for (t : Tg) (it : It) (b : Sms)
  | whl (c : Tx) (b : Sms)
  | brk | cnt | pas
  | sfl (a : Ex) (f : String) (x : Ex)
  | afl (a : Ex) (f : String) (o : BO) (x : Ex)
  | sfls (i : Nat) (fs : List String) (x : Ex)
  | rai (x : String) (es : Exs)
  | tryx (b : Sms) (x : String) (i : Nat) (su : Sms)
  | ask0 (told : Str) (hs : List (String × Str × String))
inductive Sms where
  | nil
  | cons (s : Sm) (r : Sms)
end
structure Fn where
  np : Nat
  n : Nat
  body : Sms

/-! ## what operators do -/
def binop : BO → D → D → Option D
  | .add, .int i, .int j => some (.int (i + j))
  | .add, .str x, .str y => if x.length + y.length ≤ SZ then some (.str (x ++ y)) else none
  | .add, .tup x, .tup y => if x.length + y.length ≤ SZ then some (.tup (x ++ y)) else none
  | .add, .lst x, .lst y => if x.length + y.length ≤ SZ then some (.lst (x ++ y)) else none
  | .sub, .int i, .int j => some (.int (i - j))
  | .mul, .int i, .int j => if i.natAbs < 2 ^ 64 ∨ j.natAbs < 2 ^ 64 then some (.int (i * j)) else none
  | .mod, .int i, .int j => if 0 < j then some (.int (i % j)) else none
  | .fdiv, .int i, .int j => if 0 < j ∧ j < 1073741824 then some (.int (i / j)) else none
  | .pow, .int i, .int j => if 0 ≤ j ∧ j ≤ 1000000 ∧ i.natAbs < 2 ^ 64 then some (.int (i ^ j.toNat)) else none
  | .mul, .tup x, .int k => if 1 ≤ k ∧ k ≤ 1000 ∧ x.length ≤ 1000 ∧ x ≠ [] then some (.tup (List.replicate k.toNat x).flatten) else none
  | .band, .int i, .int j => some (.int (Builtin.bitAnd i j))
  | .shr, .int i, .int j => if 0 ≤ j then some (.int (i / 2 ^ j.toNat)) else none
  | _, _, _ => none
/-- x op= y -/
def augop : BO → D → D → Option D
  | o, .int i, .int j => (match o with
    | .add => some (.int (i + j))
    | .sub => some (.int (i - j))
    | .mul => if i.natAbs < 2 ^ 64 ∨ j.natAbs < 2 ^ 64 then some (.int (i * j)) else none
    | .shr => if 0 ≤ j then some (.int (i / 2 ^ j.toNat)) else none
    | _ => none)
  | .add, .str x, .str y => if x.length + y.length ≤ SZ then some (.str (x ++ y)) else none
  | _, _, _ => none
/-- the place that an index tells -/
def place (n : Nat) (i : Int) : Option Nat := ixN n i
def ixop : D → D → Option D
  | .tup ds, .int i => atI ds i
  | .lst ds, .int i => atI ds i
  | .str x, .int i => if x.length ≤ SZ then (atI x.cps.toList i).map fun c => .str ⟨#[c]⟩ else none
  | _, _ => none
def cut {α : Type} (xs : List α) (lo hi : Option Int) : List α := (xs.drop (HT.sIx xs.length 0 lo)).take (HT.sIx xs.length xs.length hi - HT.sIx xs.length 0 lo)
def slop : D → Option Int → Option Int → Option D
  | .tup ds, lo, hi => some (.tup (cut ds lo hi))
  | .lst ds, lo, hi => some (.lst (cut ds lo hi))
  | .rol ds, lo, hi => some (.lst (cut ds lo hi))
  | .str x, lo, hi => if x.length ≤ SZ then some (.str (cutS x lo hi)) else none
  | _, _, _ => none
/-- x in ds -/
def isIn (x : D) (ds : List D) : Bool := ds.any fun z => z.eqv x
def D.isNon : D → Bool
  | .non => true
  | _ => false
def cmpop : CO → D → D → Option Bool
  | .isn, x, .non => some x.isNon
  | .nisn, x, .non => some (!x.isNon)
  | .isn, .bl a, .bl b => some (a == b)
  | .nisn, .bl a, .bl b => some (!(a == b))
  | .lt, .int i, .int j => some (decide (i < j))
  | .le, .int i, .int j => some (decide (i ≤ j))
  | .gt, .int i, .int j => some (decide (j < i))
  | .ge, .int i, .int j => some (decide (j ≤ i))
  | .eq, x, y => if x.dat && y.dat && (x.flat 64 || y.flat 64) then some (x.eqv y) else none
  | .ne, x, y => if x.dat && y.dat && (x.flat 64 || y.flat 64) then some (!x.eqv y) else none
  | .inn, x, .tup ds => if x.dat && dats ds && (x.flat 64 || flats 64 ds) then some (isIn x ds) else none
  | .inn, x, .lst ds => if x.dat && dats ds && (x.flat 64 || flats 64 ds) then some (isIn x ds) else none
  | .nin, x, .tup ds => if x.dat && dats ds && (x.flat 64 || flats 64 ds) then some (!isIn x ds) else none
  | .nin, x, .lst ds => if x.dat && dats ds && (x.flat 64 || flats 64 ds) then some (!isIn x ds) else none
  | .inn, .str x, .str y => some (!(Builtin.Str.occurrences y x 0 y.length 1).isEmpty)
  | .nin, .str x, .str y => some (!(!(Builtin.Str.occurrences y x 0 y.length 1).isEmpty))
  | _, _, _ => none
/-- an object of the store as data, if it is a list -/
def asLst (S : Store) : D → Option (List D)
  | .obj r => match S[r]? with
    | some (.lst ds) => some ds
    | _ => none
  | .lst ds => some ds
  | .tup ds => some ds
  | .rol ds => some ds
  | _ => none
/-- a list of the store -/
def objL (S : Store) : D → Option Nat
  | .obj r => match S[r]? with
    | some (.lst _) => some r
    | _ => none
  | _ => none
def truth (S : Store) : D → Option Bool
  | .non => some false
  | .bl b => some b
  | .int i => some (i != 0)
  | .tup ds => some (!ds.isEmpty)
  | .lst ds => some (!ds.isEmpty)
  | _ => none
def isTy (S : Store) (x : D) (t : Ty) : Option Bool := match x with
  | .non => some false
  | .bl _ => some (t == .int || t == .bool)
  | .int _ => some (t == .int)
  | .str _ => some (t == .str)
  | .tup _ => some (t == .tuple)
  | .lst _ => some (t == .list)
  | .edic => some (t == .dict)
  | .obj r => match S[r]? with
    | some (.lst _) => some (t == .list)
    | _ => none
  | .rol _ => none
  | .exc _ _ _ _ => none
  | .clo _ _ _ _ => none
  | .ftup _ => none
def isTys (S : Store) (x : D) : List Ty → Option Bool
  | [] => some false
  | t :: ts => match isTy S x t with
    | some true => some true
    | some false => isTys S x ts
    | none => none
def intsOf : List D → Option (List Int)
  | [] => some []
  | .int i :: r => (intsOf r).map (i :: ·)
  | _ :: _ => none
def blsOf : List D → Option (List Bool)
  | [] => some []
  | .bl i :: r => (blsOf r).map (i :: ·)
  | _ :: _ => none
/-- built-ins that leave the store -/
def biop (S : Store) : Bi → List D → Option D
  | .len, [.str x] => if x.length ≤ SZ then some (.int x.length) else none
  | .len, [x] => (asLst S x).map fun ds => .int ds.length
  | .tuple, [x] => (asLst S x).map .tup
  | .list, [x] => (asLst S x).map .lst
  | .all, [.lst ds] => (blsOf ds).map fun bs => .bl (bs.all id)
  | .any, [.lst ds] => (blsOf ds).map fun bs => .bl (bs.any id)
  | .sum, [.lst ds] => (intsOf ds).map fun ns => .int ns.sum
  | .abs, [.int i] => some (.int (if i < 0 then -i else i))
  | .max, [.int i, .int j] => some (.int (if j > i then j else i))
  | .min, [.int i, .int j] => some (.int (if j < i then j else i))
  | .int, [.int i] => some (.int i)
  | .int, [.str x] => if x.length ≤ 640 then (PySem.intText? x).map .int else none
  | .int, [.bl b] => some (.int (if b then 1 else 0))
  | _, _ => none

/-! ## loops over data -/
def forR {α β : Type} (chk : Store → Bool) (f : α → β → Store → Rs β) : List α → β → Store → Rs β
  | [], b, S => if chk S then .ok b S else .bad
  | x :: xs, b, S => if chk S then (f x b S).bind fun b' S' => forR chk f xs b' S' else .bad
/-- a loop of statements: the body may leave it -/
def forF (chk : Store → Bool) (f : D → Env → Store → Rs Fl) : List D → Env → Store → Rs Fl
  | [], e, S => if chk S then .ok (.nx e) S else .bad
  | x :: xs, e, S => if chk S then (f x e S).bind fun fl S' => match fl with
    | .nx e' => forF chk f xs e' S'
    | .ct e' => forF chk f xs e' S'
    | .bk e' => .ok (.nx e') S'
    | .rt d => .ok (.rt d) S' else .bad
/-- a while: its turns, at most n -/
def whlN (c : Env → Store → Rs Bool) (f : Env → Store → Rs Fl) : Nat → Env → Store → Option (Rs Fl)
  | 0, _, _ => none
  | n + 1, e, S => match c e S with
    | .bad => some .bad
    | .exc x e' S' => some (.exc x e' S')
    | .ok false S' => some (.ok (.nx e) S')
    | .ok true S' => match f e S' with
      | .bad => some .bad
      | .exc x e' S2 => some (.exc x e' S2)
      | .ok (.nx e') S2 => whlN c f n e' S2
      | .ok (.ct e') S2 => whlN c f n e' S2
      | .ok (.bk e') S2 => some (.ok (.nx e') S2)
      | .ok (.rt d) S2 => some (.ok (.rt d) S2)
open Classical in
noncomputable def whlR (c : Env → Store → Rs Bool) (f : Env → Store → Rs Fl) (e : Env) (S : Store) : Rs Fl :=
  if h : ∃ n r, whlN c f n e S = some r then h.choose_spec.choose else .bad

/-! ## the evaluator -/
def wip (e : Env) : List Nat → Env
  | [] => e
  | v :: vs => (wip e vs).set v none
def setN (e : Env) : List Nat → List D → Option Env
  | [], [] => some e
  | i :: is, d :: ds => setN (e.set i (some d)) is ds
  | _, _ => none
def setT (e : Env) : Tg → D → Option Env
  | .nm i, d => some (e.set i (some d))
  | .tp is, .tup ds => setN e is ds
  | .tp2 i js, .tup [d, .tup ds] => setN (e.set i (some d)) js ds
  | _, _ => none
structure Wd where
  call : String → List D → Store → Rs D
  con : String → Option D
  xa : Option (Nat × Nat × List String)
  ak : String → Option (Str × List (String × Str × String))
/-- an exception of a callee, at the caller's names -/
@[simp] def Rs.at {α : Type} : Rs α → Env → Rs α
  | .ok a S, _ => .ok a S
  | .exc x _ S, e => .exc x e S
  | .bad, _ => .bad
def optR {α : Type} (o : Option α) (S : Store) : Rs α := match o with
  | some a => .ok a S
  | none => .bad
@[simp] theorem optR_some {α : Type} (a : α) (S : Store) : optR (some a) S = .ok a S := rfl
@[simp] theorem optR_none {α : Type} (S : Store) : optR (none : Option α) S = .bad := rfl
/-- within a comprehension nothing may be raised -/
@[simp] def Rs.nox {α : Type} : Rs α → Rs α
  | .ok a S => .ok a S
  | _ => .bad
/-- the source of a loop as it stands at its start, and the object it is, if it is one -/
abbrev Src := List D × Option Nat
open Classical in
noncomputable def srcOk (S : Store) (s : Src) : Bool := match s.2 with
  | none => true
  | some r => decide (S[r]? = some (MO.lst s.1))
@[simp] theorem srcOk_none {S : Store} {ds : List D} : srcOk S (ds, none) = true := rfl
theorem srcOk_some {S : Store} {ds : List D} {r : Nat} : srcOk S (ds, some r) = true ↔ S[r]? = some (MO.lst ds) := by simp [srcOk]
def srcOf (S : Store) : D → Option Src
  | .obj r => match S[r]? with
    | some (.lst ds) => some (ds, some r)
    | _ => none
  | .lst ds => some (ds, none)
  | .tup ds => some (ds, none)
  | .rol ds => some (ds, none)
  | .str x => if x.length ≤ SZ then some (x.cps.toList.map fun c => .str ⟨#[c]⟩, none) else none
  | _ => none
def itInts (lo : Int) (n : Nat) : List D := (List.range n).map fun i => .int (lo + (i : Nat))
def small62 (i : Int) : Bool := decide (-(2 ^ 62) ≤ i) && decide (i < 2 ^ 62)
def enumD : Nat → List D → List D
  | _, [] => []
  | n, d :: ds => .tup [.int (n : Nat), d] :: enumD (n + 1) ds
def zipD : List D → List D → List D
  | a :: as, b :: bs => .tup [a, b] :: zipD as bs
  | _, _ => []
def strsOf : List D → Option (List Str)
  | [] => some []
  | .str x :: r => (strsOf r).map (x :: ·)
  | _ :: _ => none
def m1op (S : Store) : Me → Str → D → Option D
  | .split, a, .str b => if (b.length == 0) = false ∧ a.length + 2 ≤ SZ ∧ (Txt.split a b).length ≤ SZ then some (.lst ((Txt.split a b).map .str)) else none
  | .join, a, d => match asLst S d with
    | some ds => (match strsOf ds with
      | some ys => if (ys.map (·.length)).sum + ys.length * a.length ≤ 16777216 then some (.str (Txt.join a ys)) else none
      | none => none)
    | none => none
  | _, _, _ => none
/-- a list, not a tuple -/
def lstOf (S : Store) (o : D) : Option (List D) := match o with
  | .tup _ => none
  | _ => asLst S o
/-- a list, data or an object of the store -/
def objLs (S : Store) : D → Option (List D)
  | .obj r => (match S[r]? with
    | some (.lst ds) => some ds
    | _ => none)
  | .lst ds => some ds
  | _ => none
/-- an operator that may read lists of the store -/
def binS (S : Store) (o : BO) (x y : D) : Option D := match binop o x y with
  | some d => some d
  | none => (match o, objLs S x, objLs S y with
    | .add, some ds, some es => if ds.length + es.length ≤ SZ then some (.lst (ds ++ es)) else none
    | _, _, _ => none)
/-- a list of the store as data -/
def rdS (S : Store) : D → Option D
  | .obj r => (match S[r]? with
    | some (.lst ds) => some (.lst ds)
    | _ => none)
  | _ => none
def cmpS (S : Store) (o : CO) (x y : D) : Option Bool := match cmpop o x y with
  | some b => some b
  | none => (match rdS S x with
    | some x' => cmpop o x' y
    | none => (match rdS S y with
      | some y' => cmpop o x y'
      | none => none))
theorem binS_of {S : Store} {o : BO} {x y d : D} (h : binop o x y = some d) : binS S o x y = some d := by unfold binS; rw [h]
theorem cmpS_of {S : Store} {o : CO} {x y : D} {b : Bool} (h : cmpop o x y = some b) : cmpS S o x y = some b := by unfold cmpS; rw [h]
/-- a tuple of ints -/
def tupI : D → Option (List Int)
  | .tup ds => intsOf ds
  | _ => none
/-- the key (len(x), x) -/
def keyLen (d : D) : PyData := match tupI d with
  | some ns => .tuple [.int ns.length, .tuple (ns.map .int)]
  | none => .none
def srtD (ds : List D) : List D := ds.mergeSort (PySem.W.dataLe false keyLen)
/-- sorted(l, key=lambda x: (len(x), x)) of tuples of ints -/
def srtop (S : Store) (o : D) : Option D := match lstOf S o with
  | some ds => if ds.all (fun d => (tupI d).isSome) then some (.lst (srtD ds)) else none
  | none => none
def findI (d : D) : List D → Option Nat
  | [] => none
  | z :: r => if z.eqv d then some 0 else (findI d r).map (· + 1)
def shD (d : D) : Bool := match d.py with
  | some p => SeqAt.shaped p
  | none => false
def shL (ds : List D) : Bool := match pys ds with
  | some ps => SeqAt.shaped (.list ps)
  | none => false
/-- l.index(x), where it is found -/
def idxop (S : Store) (o d : D) : Option D := match lstOf S o with
  | some ds => if d.dat && dats ds && shD d && shL ds then (findI d ds).map fun j => .int (j : Nat) else none
  | none => none
def tupOf : D → Option (List D)
  | .tup ds => some ds
  | _ => none
/-- a tuple that a call of tuple made -/
def ftpOf : D → Option (List D)
  | .ftup ds => some ds
  | _ => none
def unfD : D → D
  | .ftup ds => .tup ds
  | d => d
/-- t.index(x) of a tuple, where it is found -/
def idxL (ds : List D) (d : D) : Option D := if d.dat && dats ds && shD d && shL ds then (findI d ds).map fun j => .int (j : Nat) else none
/-- what a loop over enumerate, zip may go over -/
def srcZ : D → Option (List D)
  | .tup ds => some ds
  | .lst ds => some ds
  | .rol ds => some ds
  | _ => none
def enuop : List D → Option Src
  | [d] => (srcZ d).map fun ds => (enumD 0 ds, none)
  | _ => none
def zipI : List D → Option Src
  | [a, b] => match srcZ a, srcZ b with
    | some x, some y => some (zipD x y, none)
    | _, _ => none
  | _ => none
/-- list(zip(x, y)) -/
def zipop (S : Store) : List D → Option D
  | [x, y] => match asLst S x, asLst S y with
    | some xs, some ys => some (.lst (zipD xs ys))
    | _, _ => none
  | _ => none
/-! ## fields -/
def putL (f : String) (v : D) : List (String × D) → List (String × D)
  | [] => [(f, v)]
  | (g, x) :: r => if g = f then (g, v) :: r else (g, x) :: putL f v r
def fldop (xa : Option (Nat × Nat × List String)) (S : Store) (f : String) : D → Option D
  | .exc a d ns ds => if xa = some (a, d, ns) ∧ f ∈ ns then (ns.zip ds).lookup f else none
  | .obj r => match S[r]? with
    | some (.ins _ ns fs) => if f ∈ ns then fs.lookup f else none
    | _ => none
  | _ => none
def sflop (S : Store) (f : String) (v : D) : D → Option Store
  | .obj r => match S[r]? with
    | some (.ins C ns fs) => if f ∈ ns ∧ fs.length < 900 then some (S.set r (.ins C ns (putL f v fs))) else none
    | _ => none
  | _ => none
def insC (S : Store) : D → Option Nat
  | .obj r => match S[r]? with
    | some (.ins C _ _) => some C
    | _ => none
  | _ => none
def sflsop (o : D) : Store → List String → List D → Option Store
  | S, [], [] => some S
  | S, f :: fs, v :: vs => match sflop S f v o with
    | some S' => sflsop o S' fs vs
    | none => none
  | _, _, _ => none
/-- the method m of the class x: its key -/
def mKey (con : String → Option D) (x m : String) : Option (Nat × List String × String) := match con x with
  | some (.clo false C ns ms) => (ms.lookup m).map fun k => (C, ns, k)
  | _ => none
/-- an object of a class -/
def mOf (C : Nat) (ns : List String) (S : Store) : D → Option Nat
  | .obj r => match S[r]? with
    | some (.ins C' ns' _) => if C' = C ∧ ns' = ns then some r else none
    | _ => none
  | _ => none
/-- an exception of the program's own -/
def xOf (ns : List String) (ds : List D) : Option (List (String × D)) := if ds.length = ns.length ∧ ds.length ≤ 900 then some (ns.zip ds) else none
open Classical in
/-- what is the same at all addresses -/
noncomputable def tryR {α : Type} (f : Nat → Nat → Rs α) : Rs α := if h : ∃ r, ∀ a d, f a d = r then h.choose else .bad
theorem tryR_of {α : Type} {f : Nat → Nat → Rs α} {r : Rs α} (h : ∀ a d, f a d = r) : tryR f = r := by
  unfold tryR
  have hx : ∃ r, ∀ a d, f a d = r := ⟨r, h⟩
  rw [dif_pos hx]
  exact (hx.choose_spec 0 0).symm.trans (h 0 0)
theorem tryR_at {α : Type} {f : Nat → Nat → Rs α} (h : tryR f ≠ .bad) (a d : Nat) : tryR f = f a d := by
  by_cases hx : ∃ r, ∀ a d, f a d = r
  · obtain ⟨r, q⟩ := hx
    rw [tryR_of q, q a d]
  · unfold tryR at h
    rw [dif_neg hx] at h
    exact absurd rfl h
/-- behind an except suite: its name goes, nothing is raised there -/
def clr (i : Nat) : Rs Fl → Rs Fl
  | .ok (.nx e) S => .ok (.nx (e.set i none)) S
  | .ok (.ct e) S => .ok (.ct (e.set i none)) S
  | .ok (.bk e) S => .ok (.bk (e.set i none)) S
  | .ok (.rt d) S => .ok (.rt d) S
  | .exc _ _ _ => .bad
  | .bad => .bad
def Wd.inTry (W : Wd) : Wd := ⟨W.call, W.con, none, W.ak⟩
def Wd.suite (W : Wd) (a d : Nat) (ns : List String) : Wd := ⟨fun _ _ _ => .bad, W.con, some (a, d, ns), fun _ => none⟩
def xNs (con : String → Option D) (x : String) : Option (List String) := match con x with
  | some (.clo true _ ns _) => some ns
  | _ => none
/-- an asker's clauses: the class, the word, the field -/
abbrev Hds := List (String × Str × String)
/-- the clause that takes y -/
def hdOf (y : String) : Hds → Option (Str × String)
  | [] => none
  | (x, lbl, fld) :: hs => if x = y then some (lbl, fld) else hdOf y hs
def hdsOk (con : String → Option D) (hs : Hds) : Bool := hs.all fun h => match xNs con h.1 with
  | some ns => decide (h.2.2 ∈ ns)
  | none => false
/-- what comes of an asker's try: g(lambda: a), g's text try: return (told, a()) except x as e: return (lbl, e.fld) .. -/
noncomputable def askR (told : Str) (hs : Hds) (con : String → Option D) : Rs D → Rs D
  | .ok d S => .ok (.tup [.str told, d]) S
  | .exc y _ S => match hdOf y.1 hs with
    | some (lbl, fld) => if xNs con y.1 = some (y.2.map (·.1)) then (match y.2.lookup fld with
      | some v => .ok (.tup [.str lbl, v]) S
      | none => .bad) else .bad
    | none => .bad
  | .bad => .bad
/-- the keys of a dict that is filled -/
def insU (ks : List Int) (i : Int) : List Int := if i ∈ ks then ks else ks ++ [i]
def srtI (ks : List Int) : List Int := ks.mergeSort fun a b => decide (a ≤ b)
def intD : D → Option Int
  | .int i => some i
  | _ => none
/-- list.pop(i) -/
def popL (ds : List D) : D → Option (D × List D)
  | .int i => if 0 ≤ i ∧ i < 2 ^ 62 then (ds[i.toNat]?).map fun d => (d, ds.eraseIdx i.toNat) else none
  | _ => none
section
variable (W : Wd)
mutual
noncomputable def evE : Ex → Env → Store → Rs D
  | .var i, e, S => match e[i]? with
    | some (some d) => .ok d S
    | _ => .bad
  | .cst d, _, S => .ok d S
  | .glo x, _, S => optR (W.con x) S
  | .bin o a b, e, S => (evE a e S).bind fun x S => (evE b e S).bind fun y S => optR (binS S o x y) S
  | .neg a, e, S => (evE a e S).bind fun x S => match x with
    | .int i => .ok (.int (-i)) S
    | _ => .bad
  | .cmp o a b, e, S => (evE a e S).bind fun x S => (evE b e S).bind fun y S => optR ((cmpS S o x y).map .bl) S
  | .chn o p a b c, e, S => (evE a e S).bind fun x S => (evE b e S).bind fun y S => (optR (cmpop o x y) S).bind fun t S =>
    if t then (evE c e S).bind fun z S => optR ((cmpop p y z).map .bl) S else .ok (.bl false) S
  | .nt a, e, S => (evE a e S).bind fun x S => optR ((truth S x).map fun b => .bl (!b)) S
  | .and a b, e, S => (evE a e S).bind fun x S => (optR (truth S x) S).bind fun t S => if t then evE b e S else .ok x S
  | .or a b, e, S => (evE a e S).bind fun x S => (optR (truth S x) S).bind fun t S => if t then .ok x S else evE b e S
  | .ife c a b, e, S => (evT c e S).bind fun t S => if t then evE a e S else evE b e S
  | .tup es, e, S => (evA es e S).bind fun ds S => if ds.length ≤ SZ then .ok (.tup ds) S else .bad
  | .lst es, e, S => (evA es e S).bind fun ds S => if ds.length ≤ SZ then .ok (.lst ds) S else .bad
  | .mls es, e, S => (evA es e S).bind fun ds S => if ds.length ≤ SZ then .ok (.obj S.length) (S ++ [.lst ds]) else .bad
  | .dic, _, S => .ok .edic S
  | .ix a i, e, S => (evE a e S).bind fun x S => (evE i e S).bind fun y S => match x with
    | .obj r => match S[r]?, y with
      | some (.lst ds), .int i => optR (atI ds i) S
      | _, _ => .bad
    | _ => optR (ixop x y) S
  | .sl a lo hi, e, S => (evE a e S).bind fun x S => (evO lo e S).bind fun l S => (evO hi e S).bind fun h S => match x with
    | .obj r => match S[r]? with
      | some (.lst ds) => .ok (.lst (cut ds l h)) S
      | _ => .bad
    | _ => optR (slop x l h) S
  | .isi a ts, e, S => (evE a e S).bind fun x S => optR ((isTys S x ts).map .bl) S
  | .cB b es, e, S => (evA es e S).bind fun ds S => optR (biop S b ds) S
  | .cF f es, e, S => (evA es e S).bind fun ds S => (W.call f ds S).at e
  | .app a x, e, S => (evE a e S).bind fun o S => (optR (objL S o) S).bind fun r S => (evE x e S).bind fun d S => match S[r]? with
    | some (.lst ds) => if ds.length < SZ then .ok .non (S.set r (.lst (ds ++ [d]))) else .bad
    | _ => .bad
  | .ext a x, e, S => (evE a e S).bind fun o S => (optR (objL S o) S).bind fun r S => (evE x e S).bind fun d S => match S[r]?, d with
    | some (.lst ds), .lst xs => if ds.length + xs.length ≤ SZ then .ok .non (S.set r (.lst (ds ++ xs))) else .bad
    | _, _ => .bad
  | .popl a, e, S => (evE a e S).bind fun o S => (optR (objL S o) S).bind fun r S => match S[r]? with
    | some (.lst ds) => match ds.getLast? with
      | some d => .ok d (S.set r (.lst ds.dropLast))
      | none => .bad
    | _ => .bad
  | .comp own elt t it c, e, S => (evI it e S).bind fun s S =>
      (forR (fun S => srcOk S s) (fun x acc S => match setT (wip e own) t x with
        | some e' => (evT c e' S).bind fun b S => if b then (evE elt e' S).bind fun d S => if acc.length < SZ then .ok (acc ++ [d]) S else .bad else .ok acc S
        | none => .bad) s.1 [] S).nox.bind fun ds S => .ok (.lst ds) S
  | .comp2 own own2 elt t it t2 it2 c, e, S => (evI it e S).bind fun s S =>
      (forR (fun S => srcOk S s) (fun x acc S => match setT (wip e own) t x with
        | some e' => (evI it2 e' S).bind fun s2 S => forR (fun S => srcOk S s2) (fun x2 acc S => match setT (wip e' own2) t2 x2 with
          | some e2 => (evT c e2 S).bind fun b S => if b then (evE elt e2 S).bind fun d S => if acc.length < SZ then .ok (acc ++ [d]) S else .bad else .ok acc S
          | none => .bad) s2.1 acc S
        | none => .bad) s.1 [] S).nox.bind fun ds S => .ok (.lst ds) S
  | .m1 m a x, e, S => (evE a e S).bind fun o S => match o with
    | .str t => (evE x e S).bind fun d S => optR (m1op S m t d) S
    | _ => .bad
  | .cv _, _, _ => .bad
  | .tupF a, e, S => (evE a e S).bind fun o S => optR ((lstOf S o).map fun ds => .ftup ds) S
  | .unf a, e, S => (evE a e S).bind fun o S => .ok (unfD o) S
  | .idxT a x, e, S => (evE a e S).bind fun o S => (optR (ftpOf o) S).bind fun ds S => (evE x e S).bind fun d S => optR (idxL ds d) S
  | .revT a, e, S => (evE a e S).bind fun o S => optR ((tupOf o).map fun ds => .tup ds.reverse) S
  | .ask g a, e, S => match W.ak g with
    | some (told, hs) => if hdsOk W.con hs = true then askR told hs W.con (evE a e S) else .bad
    | none => .bad
  | .sdc own elt t it, e, S => (evI it e S).bind fun s S =>
      (forR (fun S => srcOk S s) (fun x acc S => match setT (wip e own) t x with
        | some e' => (evE elt e' S).bind fun d S => (optR (intD d) S).bind fun i S => if acc.length < 63 then .ok (insU acc i) S else .bad
        | none => .bad) s.1 [] S).nox.bind fun ks S => .ok (.lst ((srtI ks).map .int)) S
  | .popi a x, e, S => (evE a e S).bind fun o S => (optR (objL S o) S).bind fun r S => (evE x e S).bind fun d S => match S[r]? with
    | some (.lst ds) => match popL ds d with
      | some (y, ds') => .ok y (S.set r (.lst ds'))
      | none => .bad
    | _ => .bad
  | .rev a, e, S => (evE a e S).bind fun o S => optR ((lstOf S o).map fun ds => .lst ds.reverse) S
  | .srt a, e, S => (evE a e S).bind fun o S => optR (srtop S o) S
  | .mkl es, e, S => (evA es e S).bind fun ds S => match ds with
    | [x] => (match asLst S x with
      | some xs => .ok (.obj S.length) (S ++ [.lst xs])
      | none => .bad)
    | _ => .bad
  | .idx a x, e, S => (evE a e S).bind fun o S => (optR (lstOf S o) S).bind fun _ S => (evE x e S).bind fun d S => optR (idxop S o d) S
  | .zipl es, e, S => (evA es e S).bind fun ds S => optR (zipop S ds) S
  | .fld a f, e, S => (evE a e S).bind fun x S => optR (fldop W.xa S f x) S
  | .mk x es, e, S => match mKey W.con x "__init__" with
    | some p => (evA es e S).bind fun ds S => (W.call p.2.2 (.obj S.length :: ds) (S ++ [.ins p.1 p.2.1 []])).nox.bind fun d S' => match d with
      | .non => .ok (.obj S.length) S'
      | _ => .bad
    | none => .bad
  | .cM x m a es, e, S => match mKey W.con x m with
    | some p => (evE a e S).bind fun o S => (optR (mOf p.1 p.2.1 S o) S).bind fun r S => (evA es e S).bind fun ds S => (W.call p.2.2 (.obj r :: ds) S).at e
    | none => .bad
  | .fz a, e, S => (evE a e S).bind fun o S => match o with
    | .obj r => match S[r]? with
      | some (.lst ds) => .ok (.lst ds) (S.set r .dead)
      | _ => .bad
    | _ => .bad
/-- as a test -/
noncomputable def evT : Tx → Env → Store → Rs Bool
  | .yes, _, S => .ok true S
  | .tst x, e, S => (evE x e S).bind fun d S => optR (truth S d) S
  | .cmp o a b, e, S => (evE a e S).bind fun x S => (evE b e S).bind fun y S => optR (cmpS S o x y) S
  | .chn o p a b c, e, S => (evE a e S).bind fun x S => (evE b e S).bind fun y S => (optR (cmpop o x y) S).bind fun t S =>
    if t then (evE c e S).bind fun z S => optR (cmpop p y z) S else .ok false S
  | .ife c a b, e, S => (evT c e S).bind fun t S => if t then evT a e S else evT b e S
  | .nt a, e, S => (evT a e S).bind fun b S => .ok (!b) S
  | .and a b, e, S => (evT a e S).bind fun t S => if t then evT b e S else .ok false S
  | .or a b, e, S => (evT a e S).bind fun t S => if t then .ok true S else evT b e S
noncomputable def evA : Exs → Env → Store → Rs (List D)
  | .nil, _, S => .ok [] S
  | .cons x es, e, S => (evE x e S).bind fun d S => (evA es e S).bind fun ds S => .ok (d :: ds) S
  | .star x es, e, S => (evE x e S).bind fun d S => match d with
    | .tup xs => (evA es e S).bind fun ds S => .ok (xs ++ ds) S
    | .lst xs => (evA es e S).bind fun ds S => .ok (xs ++ ds) S
    | .obj r => (match S[r]? with
      | some (.lst xs) => (evA es e S).bind fun ds S => .ok (xs ++ ds) S
      | _ => .bad)
    | _ => .bad
noncomputable def evO : Eo → Env → Store → Rs (Option Int)
  | .no, _, S => .ok none S
  | .so x, e, S => (evE x e S).bind fun d S => match d with
    | .int i => .ok (some i) S
    | _ => .bad
noncomputable def evI : It → Env → Store → Rs Src
  | .seq x, e, S => (evE x e S).bind fun d S => optR (srcOf S d) S
  | .rng x, e, S => (evE x e S).bind fun d S => match d with
    | .int j => if small62 j then .ok (itInts 0 j.toNat, none) S else .bad
    | _ => .bad
  | .rng2 x y, e, S => (evE x e S).bind fun d S => (evE y e S).bind fun d2 S => match d, d2 with
    | .int i, .int j => if small62 i && small62 j then .ok (itInts i (j - i).toNat, none) S else .bad
    | _, _ => .bad
  | .enu es, e, S => (evA es e S).bind fun ds S => optR (enuop ds) S
  | .zip es, e, S => (evA es e S).bind fun ds S => optR (zipI ds) S
end
end
def MO.lim (n : Nat) : MO → Bool
  | .dead => true
  | .lst ds => lims n ds
  | .ins _ _ fs => lims n (fs.map (·.2))
mutual
noncomputable def evS (W : Wd) : Sm → Env → Store → Rs Fl
  | .asg t x, e, S => (evE W x e S).bind fun d S => (optR (setT e t d) S).bind fun e' S => .ok (.nx e') S
  | .par i j a b, e, S => (evE W a e S).bind fun x S => (evE W b e S).bind fun y S => .ok (.nx ((e.set i (some x)).set j (some y))) S
  | .par3 i j l a b c, e, S => (evE W a e S).bind fun x S => (evE W b e S).bind fun y S => (evE W c e S).bind fun z S => .ok (.nx (((e.set i (some x)).set j (some y)).set l (some z))) S
  | .aug i o x, e, S => match e[i]? with
    | some (some d) => (evE W x e S).bind fun y S => (optR (augop o d y) S).bind fun z S => .ok (.nx (e.set i (some z))) S
    | _ => .bad
  | .sto a i x, e, S => (evE W x e S).bind fun v S => (evE W a e S).bind fun o S => (evE W i e S).bind fun y S => match o, y with
    | .obj r, .int k => match S[r]? with
      | some (.lst ds) => match place ds.length k with
        | some j => .ok (.nx e) (S.set r (.lst (ds.set j v)))
        | none => .bad
      | _ => .bad
    | _, _ => .bad
  | .augs a i o x, e, S => (evE W a e S).bind fun ob S => (evE W i e S).bind fun y S => match ob, y with
    | .obj r, .int k => match S[r]? with
      | some (.lst ds) => match atI ds k with
        | some old => (evE W x e S).bind fun v S => (optR (augop o old v) S).bind fun z S => match S[r]? with
          | some (.lst ds) => match place ds.length k with
            | some j => .ok (.nx e) (S.set r (.lst (ds.set j z)))
            | none => .bad
          | _ => .bad
        | none => .bad
      | _ => .bad
    | _, _ => .bad
  | .exp x, e, S => (evE W x e S).bind fun _ S => .ok (.nx e) S
  | .ret0, e, S => .ok (.rt .non) S
  | .ret x, e, S => (evE W x e S).bind fun d S => .ok (.rt d) S
  | .ifs c a b, e, S => (evT W c e S).bind fun t S => if t then evSs W a e S else evSs W b e S
  | .for t it b, e, S => (evI W it e S).bind fun s S => forF (fun S => srcOk S s) (fun x e S => match setT e t x with
      | some e' => evSs W b e' S
      | none => .bad) s.1 e S
  | .whl c b, e, S => whlR (evT W c) (fun e S => evSs W b e S) e S
  | .brk, e, S => .ok (.bk e) S
  | .cnt, e, S => .ok (.ct e) S
  | .pas, e, S => .ok (.nx e) S
  | .sfl a f x, e, S => (evE W x e S).bind fun v S => (evE W a e S).bind fun o S => match sflop S f v o with
    | some S' => .ok (.nx e) S'
    | none => .bad
  | .afl a f o x, e, S => (evE W a e S).bind fun ob S1 => (optR (fldop none S1 f ob) S1).bind fun old S => (evE W x e S).bind fun v S => (optR (augop o old v) S).bind fun z S => if insC S ob = insC S1 ob then (match sflop S f z ob with
    | some S' => .ok (.nx e) S'
    | none => .bad) else .bad
  | .sfls i fs x, e, S => (evE W x e S).bind fun v S => match v with
    | .tup ds => match e[i]? with
      | some (some o) => (match sflsop o S fs ds with
        | some S' => .ok (.nx e) S'
        | none => .bad)
      | _ => .bad
    | _ => .bad
  | .ask0 _ _, _, _ => .bad
  | .rai x es, e, S => match xNs W.con x with
    | some ns => (evA W es e S).bind fun ds S => (match xOf ns ds with
      | some fs => .exc (x, fs) e S
      | none => .bad)
    | none => .bad
  | .tryx b x i su, e, S => match xNs W.con x with
    | some ns => (match evSs W.inTry b e S with
      | .ok fl S' => .ok fl S'
      | .exc y e' S' => if y.1 = x ∧ ns = y.2.map (·.1) then tryR fun a d => clr i (evSs (W.suite a d ns) su (e'.set i (some (.exc a d ns (y.2.map (·.2))))) S') else .bad
      | .bad => .bad)
    | none => .bad
noncomputable def evSs (W : Wd) : Sms → Env → Store → Rs Fl
  | .nil, e, S => .ok (.nx e) S
  | .cons s r, e, S => (evS W s e S).bind fun fl S => match fl with
    | .nx e' => evSs W r e' S
    | f => .ok f S
end
/-- a call's end: what it has made and nobody holds is forgotten -/
def TrOk (S S' : Store) : Prop := ∀ i mo, i < S.length → S'[i]? = some mo → S[i]? = some mo ∨ mo.lim S.length = true
open Classical in
noncomputable def trunc (S : Store) (ok : Bool) (S' : Store) : Store := if ok = true ∧ S.length ≤ S'.length ∧ TrOk S S' then S'.take S.length else S'
noncomputable def retn (S : Store) (d : D) (S' : Store) : Rs D := .ok d (trunc S (d.lim S.length) S')
/-- an asker, by its text -/
def askOf : Sms → Option (Str × Hds)
  | .cons (.ask0 told hs) .nil => some (told, hs)
  | _ => none
def akT (T : String → Option Fn) (g : String) : Option (Str × Hds) := (T g).bind fun fd => if fd.np = 1 ∧ fd.n = 2 then askOf fd.body else none
noncomputable def callN (T : String → Option Fn) (con : String → Option D) : Nat → String → List D → Store → Rs D
  | 0, _, _, _ => .bad
  | k + 1, f, ds, S => match T f with
    | none => .bad
    | some fd => if ds.length = fd.np then
        match evSs ⟨callN T con k, con, none, akT T⟩ fd.body (ds.map some ++ List.replicate (fd.n - ds.length) none) S with
        | .ok (.rt d) S' => retn S d S'
        | .ok (.nx _) S' => retn S .non S'
        | .ok _ _ => .bad
        | .exc x _ S' => .exc x [] S'
        | .bad => .bad
      else .bad
theorem trunc_junk {S J : Store} : trunc S true (S ++ J) = S := by
  unfold trunc
  rw [if_pos]
  · simp
  · refine ⟨rfl, by simp, fun i mo hi h => .inl ?_⟩
    rwa [List.getElem?_append_left hi] at h
theorem trunc_self {S : Store} {b : Bool} : trunc S b S = S := by
  unfold trunc
  split
  · simp
  · rfl
theorem trunc_set {S J : Store} {r : Nat} {mo : MO} (h : mo.lim S.length = true) : trunc S true (S.set r mo ++ J) = S.set r mo := by
  unfold trunc
  rw [if_pos]
  · have : S.length = (S.set r mo).length := by simp
    rw [this]; simp
  · refine ⟨rfl, by simp, fun i m hi q => ?_⟩
    rw [List.getElem?_append_left (by simpa using hi)] at q
    by_cases e : r = i
    · subst e
      rw [List.getElem?_set_self hi] at q
      cases q; exact .inr h
    · rw [List.getElem?_set_ne e] at q
      exact .inl q
theorem whl_det {c : Env → Store → Rs Bool} {f : Env → Store → Rs Fl} : ∀ {n m : Nat} {e : Env} {S : Store} {r q : Rs Fl}, whlN c f n e S = some r → whlN c f m e S = some q → r = q
  | 0, _, _, _, _, _, h, _ => by simp [whlN] at h
  | _ + 1, 0, _, _, _, _, _, h => by simp [whlN] at h
  | n + 1, m + 1, e, S, r, q, h1, h2 => by
    unfold whlN at h1 h2
    split at h1 <;> simp_all
    split at h1 <;> simp_all
    · exact whl_det h1 h2
    · exact whl_det h1 h2
theorem whlR_of {c : Env → Store → Rs Bool} {f : Env → Store → Rs Fl} {n : Nat} {e : Env} {S : Store} {r : Rs Fl} (h : whlN c f n e S = some r) : whlR c f e S = r := by
  unfold whlR
  have hx : ∃ n r, whlN c f n e S = some r := ⟨n, r, h⟩
  rw [dif_pos hx]
  exact whl_det hx.choose_spec.choose_spec h
theorem whlR_cases {c : Env → Store → Rs Bool} {f : Env → Store → Rs Fl} (e : Env) (S : Store) : (∃ n, whlN c f n e S = some (whlR c f e S)) ∨ whlR c f e S = .bad := by
  by_cases hx : ∃ n r, whlN c f n e S = some r
  · obtain ⟨n, r, h⟩ := hx
    rw [whlR_of h]; exact .inl ⟨n, h⟩
  · right; unfold whlR; rw [dif_neg hx]
/-- one turn -/
theorem whlR_eq {c : Env → Store → Rs Bool} {f : Env → Store → Rs Fl} (e : Env) (S : Store) : whlR c f e S = (c e S).bind fun t S' => if t then (f e S').bind fun fl S2 => match fl with
    | .nx e' => whlR c f e' S2
    | .ct e' => whlR c f e' S2
    | .bk e' => .ok (.nx e') S2
    | .rt d => .ok (.rt d) S2
  else .ok (.nx e) S' := by
  cases hc : c e S with
  | bad => exact whlR_of (n := 1) (by simp [whlN, hc])
  | exc x e' S' => exact whlR_of (n := 1) (by simp [whlN, hc])
  | ok t S' =>
    cases t with
    | false => exact whlR_of (n := 1) (by simp [whlN, hc])
    | true =>
      simp only [Rs.bind, if_true]
      cases hf : f e S' with
      | bad => exact whlR_of (n := 1) (by simp [whlN, hc, hf])
      | exc x e' S2 => exact whlR_of (n := 1) (by simp [whlN, hc, hf])
      | ok fl S2 =>
        have go : ∀ e', (fl = .nx e' ∨ fl = .ct e') → whlR c f e S = whlR c f e' S2 := fun e' hfl => by
          rcases whlR_cases (c := c) (f := f) e' S2 with ⟨n, h⟩ | h
          · refine whlR_of (n := n + 1) ?_
            rcases hfl with rfl | rfl <;> simp [whlN, hc, hf, h]
          · rcases whlR_cases (c := c) (f := f) e S with ⟨n, h'⟩ | h'
            · cases n with
              | zero => simp [whlN] at h'
              | succ n =>
                have h2 : whlN c f n e' S2 = some (whlR c f e S) := by
                  rcases hfl with rfl | rfl <;> simpa [whlN, hc, hf] using h'
                exact (whlR_of h2).symm
            · rw [h, h']
        cases fl with
        | nx e' => exact go e' (.inl rfl)
        | ct e' => exact go e' (.inr rfl)
        | bk e' => exact whlR_of (n := 1) (by simp [whlN, hc, hf])
        | rt d => exact whlR_of (n := 1) (by simp [whlN, hc, hf])
example (W : Wd) (S : Store) : evE W (.cmp .eq (.ix (.var 0) (.cst (.int 0))) (.cst (.int 1))) [some (.tup [.int 1])] S = .ok (.bl true) S := by rfl
end PyI

set_option maxRecDepth 100000
namespace PyI
open PySem PySem.Spec PyProof.Rows L2

/-! ## data and heap -/
structure Zw where
  hd : List Addr
  ρ : List Addr
  S : Store
  H : Hp
def Live (z : Zw) (a : Addr) : Prop := ∃ (r : Nat) (mo : MO), z.ρ[r]? = some a ∧ z.S[r]? = some mo ∧ mo ≠ MO.dead
/-- no table of code objects -/
def NT (o : HO) : Prop := ∀ ps, o ≠ .tbl ps
/-- what stands and is never written -/
def Im (z : Zw) (a : Addr) (o : HO) : Prop := z.H a = some o ∧ ¬ (Live z a ∨ a ∈ z.hd) ∧ NT o
/-- a code object: its table, its name -/
def codeHd : Obj → Option (Addr × Str)
  | ⟨_, _, .fields vs, _⟩ => (match vs[11]?, vs[1]? with
    | some (Value.ref P), some (Value.str q _) => some (P, q)
    | _, _ => none)
  | _ => none
def tbC (K : PySem.W.Frag) : List (Addr × Addr × Str) := K.filterMap fun p => (codeHd p.2).map fun q => (p.1, q.1, q.2)
/-- the tables, the names of the lambdas that they may hold -/
def tbT (K : PySem.W.Frag) : List (Addr × Str) := (tbC K).map fun p => (p.2.1, p.2.2 ++ ".<locals>." ++ "<lambda>")
abbrev H0 : Hp := fun _ => none
section
variable (K : PySem.W.Frag) (z : Zw)
mutual
def Rep : D → V → Prop
  | .non, v => v = .non
  | .bl b, v => v = .bl b
  | .int i, v => v = .int i
  | .str x, v => v = .str x
  | .tup ds, v => ∃ a xs, v = .ref a ∧ ((Im z a (.tup xs) ∨ ∃ q, Im z a (.frz q (.tup xs))) ∨ SqT K H0 a xs) ∧ ds.length ≤ SZ ∧ Reps ds xs
  | .lst ds, v => ∃ a xs, v = .ref a ∧ Im z a (.lst xs) ∧ ds.length ≤ SZ ∧ Reps ds xs
  | .rol ds, v => ∃ a xs, v = .ref a ∧ ((∃ o, Im z a o ∧ (o = .lst xs ∨ ∃ q, o = .frz q (.lst xs))) ∨ SqL K H0 a xs) ∧ ds.length ≤ SZ ∧ Reps ds xs
  | .obj r, v => ∃ a, v = .ref a ∧ z.ρ[r]? = some a
  | .edic, v => ∃ a, v = .ref a ∧ Im z a (.dK [])
  | .exc a d ns ds, v => v = .ref a ∧ ns.length = ds.length ∧ ∃ vs, Im z d (.xd ((ns.map Str.ofString).zip vs)) ∧ Reps ds vs
  | .clo _ C _ _, v => v = .ref C
  | .ftup ds, v => ∃ a xs, v = .ref a ∧ (∃ q : Obj, Im z a (.frz q (.tup xs)) ∧ q.cls = .type "tuple" ∧ q.dict = none) ∧ ds.length ≤ SZ ∧ Reps ds xs
def Reps : List D → List V → Prop
  | [], xs => xs = []
  | d :: ds, xs => ∃ v r, xs = v :: r ∧ Rep d v ∧ Reps ds r
end
end
/-- names stay, what is never written stays -/
structure Ex0 (z z' : Zw) : Prop where
  pre : z.ρ <+: z'.ρ
  im : ∀ a o, Im z a o → Im z' a o
/-- from z on; what others write stays, too -/
structure Ext (z z' : Zw) : Prop where
  pre : z.ρ <+: z'.ρ
  im : ∀ a o, Im z a o → Im z' a o
  hd : z'.hd = z.hd
  hk : ∀ a ∈ z.hd, z'.H a = z.H a
theorem Ext.ex0 {z z' : Zw} (x : Ext z z') : Ex0 z z' := ⟨x.pre, x.im⟩
theorem Ext.refl (z : Zw) : Ext z z := ⟨List.prefix_refl _, fun _ _ h => h, rfl, fun _ _ => rfl⟩
theorem Ext.trans {a b c : Zw} (x : Ext a b) (y : Ext b c) : Ext a c := ⟨x.pre.trans y.pre, fun p o h => y.im p o (x.im p o h), y.hd.trans x.hd, fun p hp => (y.hk p (by rw [x.hd]; exact hp)).trans (x.hk p hp)⟩
theorem pre_get {α : Type} {a b : List α} (h : a <+: b) {i : Nat} {x : α} (e : a[i]? = some x) : b[i]? = some x := by
  obtain ⟨t, rfl⟩ := h
  have hi : i < a.length := (List.getElem?_eq_some_iff.mp e).1
  rw [List.getElem?_append_left hi]; exact e
section
variable {K : PySem.W.Frag} {z z' : Zw}
mutual
theorem Rep.mono0 (x : Ex0 z z') : ∀ {d : D} {v : V}, Rep K z d v → Rep K z' d v
  | .non, _, h => by unfold Rep at h ⊢; exact h
  | .bl _, _, h => by unfold Rep at h ⊢; exact h
  | .int _, _, h => by unfold Rep at h ⊢; exact h
  | .str _, _, h => by unfold Rep at h ⊢; exact h
  | .tup ds, _, h => by
    unfold Rep at h ⊢
    obtain ⟨a, xs, e, h1, h2, h3⟩ := h
    exact ⟨a, xs, e, h1.imp (fun h => h.imp (x.im _ _) fun ⟨q, h⟩ => ⟨q, x.im _ _ h⟩) id, h2, Reps.mono0 x h3⟩
  | .lst ds, _, h => by
    unfold Rep at h ⊢
    obtain ⟨a, xs, e, h1, h2, h3⟩ := h
    exact ⟨a, xs, e, x.im _ _ h1, h2, Reps.mono0 x h3⟩
  | .rol ds, _, h => by
    unfold Rep at h ⊢
    obtain ⟨a, xs, e, h1, h2, h3⟩ := h
    exact ⟨a, xs, e, h1.imp (fun ⟨o, q, r⟩ => ⟨o, x.im _ _ q, r⟩) id, h2, Reps.mono0 x h3⟩
  | .obj r, _, h => by
    unfold Rep at h ⊢
    obtain ⟨a, e, h1⟩ := h
    exact ⟨a, e, pre_get x.pre h1⟩
  | .edic, _, h => by
    unfold Rep at h ⊢
    obtain ⟨a, e, h1⟩ := h
    exact ⟨a, e, x.im _ _ h1⟩
  | .exc a d ns ds, _, h => by
    unfold Rep at h ⊢
    obtain ⟨e, hl, vs, h1, h2⟩ := h
    exact ⟨e, hl, vs, x.im _ _ h1, Reps.mono0 x h2⟩
  | .clo _ C _ _, _, h => by unfold Rep at h ⊢; exact h
  | .ftup ds, _, h => by
    unfold Rep at h ⊢
    obtain ⟨a, xs, e, ⟨q, h1, h4⟩, h2, h3⟩ := h
    exact ⟨a, xs, e, ⟨q, x.im _ _ h1, h4⟩, h2, Reps.mono0 x h3⟩
theorem Reps.mono0 (x : Ex0 z z') : ∀ {ds : List D} {vs : List V}, Reps K z ds vs → Reps K z' ds vs
  | [], _, h => by unfold Reps at h ⊢; exact h
  | d :: ds, _, h => by
    unfold Reps at h ⊢
    obtain ⟨v, r, e, h1, h2⟩ := h
    exact ⟨v, r, e, Rep.mono0 x h1, Reps.mono0 x h2⟩
end
theorem Rep.mono (x : Ext z z') {d : D} {v : V} (h : Rep K z d v) : Rep K z' d v := Rep.mono0 x.ex0 h
theorem Reps.mono (x : Ext z z') {d : List D} {v : List V} (h : Reps K z d v) : Reps K z' d v := Reps.mono0 x.ex0 h
/-! lists of them -/
theorem Reps.nil : Reps K z [] [] := by unfold Reps; rfl
theorem Reps.cons {d : D} {ds : List D} {v : V} {vs : List V} (h : Rep K z d v) (r : Reps K z ds vs) : Reps K z (d :: ds) (v :: vs) := by
  unfold Reps; exact ⟨v, vs, rfl, h, r⟩
theorem Reps.nil_inv {vs : List V} (h : Reps K z [] vs) : vs = [] := by unfold Reps at h; exact h
theorem Reps.cons_inv {d : D} {ds : List D} {vs : List V} (h : Reps K z (d :: ds) vs) : ∃ v r, vs = v :: r ∧ Rep K z d v ∧ Reps K z ds r := by unfold Reps at h; exact h
theorem Reps.length : ∀ {ds : List D} {vs : List V}, Reps K z ds vs → ds.length = vs.length
  | [], _, h => by rw [h.nil_inv]; rfl
  | d :: ds, _, h => by
    obtain ⟨v, r, rfl, _, h2⟩ := h.cons_inv
    simp [h2.length]
theorem Reps.get : ∀ {ds : List D} {vs : List V} {i : Nat} {d : D}, Reps K z ds vs → ds[i]? = some d → ∃ v, vs[i]? = some v ∧ Rep K z d v
  | [], _, _, _, _, e => by simp at e
  | d :: ds, _, i, x, h, e => by
    obtain ⟨v, r, rfl, h1, h2⟩ := h.cons_inv
    cases i with
    | zero => simp at e; subst e; exact ⟨v, by simp, h1⟩
    | succ i => simp at e; obtain ⟨w, q1, q2⟩ := h2.get e; exact ⟨w, by simpa using q1, q2⟩
theorem Reps.app : ∀ {ds es : List D} {vs ws : List V}, Reps K z ds vs → Reps K z es ws → Reps K z (ds ++ es) (vs ++ ws)
  | [], _, _, _, h, h2 => by rw [h.nil_inv]; exact h2
  | d :: ds, _, _, _, h, h2 => by
    obtain ⟨v, r, rfl, h1, h3⟩ := h.cons_inv
    exact .cons h1 (h3.app h2)
theorem Reps.one {d : D} {v : V} (h : Rep K z d v) : Reps K z [d] [v] := .cons h .nil
theorem Reps.take : ∀ {ds : List D} {vs : List V} (n : Nat), Reps K z ds vs → Reps K z (ds.take n) (vs.take n)
  | [], _, n, h => by rw [h.nil_inv]; simp; exact .nil
  | d :: ds, _, 0, h => by simp; exact .nil
  | d :: ds, _, n + 1, h => by
    obtain ⟨v, r, rfl, h1, h3⟩ := h.cons_inv
    exact .cons h1 (h3.take n)
theorem Reps.drop : ∀ {ds : List D} {vs : List V} (n : Nat), Reps K z ds vs → Reps K z (ds.drop n) (vs.drop n)
  | [], _, n, h => by rw [h.nil_inv]; simp; exact .nil
  | d :: ds, _, 0, h => by simpa using h
  | d :: ds, _, n + 1, h => by
    obtain ⟨v, r, rfl, h1, h3⟩ := h.cons_inv
    exact h3.drop n
theorem Reps.set : ∀ {ds : List D} {vs : List V} (i : Nat) {d : D} {v : V}, Reps K z ds vs → Rep K z d v → Reps K z (ds.set i d) (vs.set i v)
  | [], _, n, _, _, h, _ => by rw [h.nil_inv]; exact .nil
  | d :: ds, _, 0, _, _, h, q => by
    obtain ⟨v, r, rfl, h1, h3⟩ := h.cons_inv
    exact .cons q h3
  | d :: ds, _, n + 1, _, _, h, q => by
    obtain ⟨v, r, rfl, h1, h3⟩ := h.cons_inv
    exact .cons h1 (h3.set n q)
theorem Reps.dropLast {ds : List D} {vs : List V} (h : Reps K z ds vs) : Reps K z ds.dropLast vs.dropLast := by
  rw [List.dropLast_eq_take, List.dropLast_eq_take, h.length]; exact h.take _
theorem Reps.cut {ds : List D} {vs : List V} (h : Reps K z ds vs) (lo hi : Option Int) : Reps K z (cut ds lo hi) (cutV vs lo hi) := by
  unfold PyI.cut cutV
  rw [h.length]
  exact (h.drop _).take _
theorem Reps.rep {ds : List D} {vs : List V} (h : Reps K z ds vs) : ∀ k : Nat, Reps K z (List.replicate k ds).flatten (List.replicate k vs).flatten
  | 0 => .nil
  | k + 1 => by simpa [List.replicate_succ] using h.app (h.rep k)
theorem Reps.atI {ds : List D} {vs : List V} {i : Int} {d : D} (h : Reps K z ds vs) (e : atI ds i = some d) : ∃ v, atI vs i = some v ∧ Rep K z d v := by
  unfold L2.atI at e ⊢
  rw [← h.length]
  cases q : ixN ds.length i with
  | none => rw [q] at e; cases e
  | some j => rw [q] at e; exact h.get e
end

/-! ## the store in the heap -/
/-- what a class must be whose instances stand in the store -/
def NsOk (ns : List String) : Prop := ∀ f ∈ ns, ∀ g ∈ ns, Str.ofString f = Str.ofString g → f = g
structure ClsI (K : PySem.W.Frag) (C : Addr) (ns : List String) : Prop where
  cls : Cls K C
  inj : NsOk ns
  no : ∀ f ∈ ns, NoAttr K C (Str.ofString f)
abbrev fNs (fs : List (String × D)) : List Str := fs.map fun p => Str.ofString p.1
abbrev fDs (fs : List (String × D)) : List D := fs.map (·.2)
def MoOk (K : PySem.W.Frag) (z : Zw) (a : Addr) : MO → Prop
  | .dead => True
  | .lst ds => ∃ xs, z.H a = some (.lst xs) ∧ ds.length ≤ SZ ∧ Reps K z ds xs
  | .ins C ns fs => (ClsI K C ns ∧ ∀ p ∈ fs, p.1 ∈ ns) ∧ fs.length ≤ 900 ∧ ∃ dx vs, z.H a = some (.ins C dx ((fNs fs).zip vs)) ∧ Reps K z (fDs fs) vs
/-- what a comprehension fills: a list, a dict -/
def HdO (o : HO) : Prop := (∃ xs, o = .lst xs) ∨ ∃ kvs, o = .dK kvs
theorem HdO.lst (xs : List V) : HdO (.lst xs) := .inl ⟨xs, rfl⟩
theorem HdO.dic (kvs : List (Key × V)) : HdO (.dK kvs) := .inr ⟨kvs, rfl⟩
theorem HdO.nt {o : HO} (h : HdO o) : ∀ ps, o ≠ .tbl ps := fun ps e => by
  rcases h with ⟨_, h⟩ | ⟨_, h⟩ <;> (rw [h] at e; cases e)
structure StOk (K : PySem.W.Frag) (z : Zw) : Prop where
  len : z.ρ.length = z.S.length
  nd : z.ρ.Nodup
  tr : ∀ a ∈ z.ρ, ∃ o, z.H a = some o ∧ NT o
  ht : ∀ a ∈ z.hd, ∃ o, z.H a = some o ∧ HdO o
  dj : ∀ a ∈ z.ρ, a ∉ z.hd
  ob : ∀ (r : Nat) (mo : MO) (a : Addr), z.S[r]? = some mo → z.ρ[r]? = some a → MoOk K z a mo
  tb : LamX.Tabs (tbT K) z.H
section
variable {K : PySem.W.Frag} {z z' : Zw}
theorem nodup_get {α : Type} {l : List α} (h : l.Nodup) {i j : Nat} {x : α} (a : l[i]? = some x) (b : l[j]? = some x) : i = j := by
  obtain ⟨h1, e1⟩ := List.getElem?_eq_some_iff.mp a
  obtain ⟨h2, e2⟩ := List.getElem?_eq_some_iff.mp b
  exact (List.getElem_inj h).mp (e1.trans e2.symm)
theorem StOk.live (s : StOk K z) {a : Addr} (h : Live z a) : ∃ o, z.H a = some o := by
  obtain ⟨r, mo, h1, h2, h3⟩ := h
  have q := s.ob r mo a h2 h1
  cases mo with
  | dead => exact absurd rfl h3
  | lst ds => obtain ⟨xs, e, _⟩ := q; exact ⟨_, e⟩
  | ins C ns fs => obtain ⟨_, _, dx, vs, e, _⟩ := q; exact ⟨_, e⟩
theorem StOk.nolive (s : StOk K z) {a : Addr} (h : z.H a = none) : ¬ (Live z a ∨ a ∈ z.hd) := fun l => by
  rcases l with l | l
  · obtain ⟨o, e⟩ := s.live l
    rw [h] at e; cases e
  · obtain ⟨o, e, _⟩ := s.ht a l
    rw [h] at e; cases e
theorem MoOk.mono0 {mo : MO} {a : Addr} (x : Ex0 z z') (h : MoOk K z a mo) (e : ∀ o, z.H a = some o → z'.H a = some o) : MoOk K z' a mo := by
  cases mo with
  | dead => trivial
  | lst ds => obtain ⟨xs, h1, h2, h3⟩ := h; exact ⟨xs, e _ h1, h2, h3.mono0 x⟩
  | ins C ns fs => obtain ⟨h0, hl, dx, vs, h1, h2⟩ := h; exact ⟨h0, hl, dx, vs, e _ h1, h2.mono0 x⟩
theorem MoOk.mono {mo : MO} {a : Addr} (x : Ext z z') (h : MoOk K z a mo) (e : ∀ o, z.H a = some o → z'.H a = some o) : MoOk K z' a mo := h.mono0 x.ex0 e
theorem codeO_lst {c : Addr} {q : Str} {xs : List V} : LamX.CodeO c q ≠ .lst xs := fun h => by unfold LamX.CodeO at h; cases h
theorem codeO_dK {c : Addr} {q : Str} {kvs : List (Key × V)} : LamX.CodeO c q ≠ .dK kvs := fun h => by unfold LamX.CodeO at h; cases h
theorem codeO_ins {c : Addr} {q : Str} {C d : Addr} {xs : List (Str × V)} : LamX.CodeO c q ≠ .ins C d xs := fun h => by unfold LamX.CodeO at h; cases h
/-- what may be written without harm to the tables -/
def Wr (H : Hp) (a : Addr) : Prop := ∀ o, H a = some o → (∀ ps, o ≠ .tbl ps) ∧ ∀ c q, o ≠ LamX.CodeO c q
theorem tabs_upd {T : List (Addr × Str)} {H : Hp} {a : Addr} {o : HO} (t : LamX.Tabs T H) (w : Wr H a) : LamX.Tabs T (upd H a o) := fun p hp => by
  obtain ⟨ps, h1, h2, h3⟩ := t p hp
  have ne : ∀ {b u}, H b = some u → ((∃ ps, u = .tbl ps) ∨ ∃ c q, u = LamX.CodeO c q) → upd H a o b = some u := fun {b u} e k => by
    rw [upd_ne]
    · exact e
    · rintro rfl
      obtain ⟨k1, k2⟩ := w _ e
      rcases k with ⟨ps, k⟩ | ⟨c, q, k⟩
      · exact k1 _ k
      · exact k2 _ _ k
  refine ⟨ps, ne h1 (.inl ⟨_, rfl⟩), h2, fun pos cv hc => ?_⟩
  obtain ⟨c, e1, e2⟩ := h3 pos cv hc
  exact ⟨c, e1, ne e2 (.inr ⟨_, _, rfl⟩)⟩
theorem wr_none {H : Hp} {a : Addr} (h : H a = none) : Wr H a := fun o e => by rw [h] at e; cases e
theorem wr_lst {H : Hp} {a : Addr} {xs : List V} (h : H a = some (.lst xs)) : Wr H a := fun o e => by
  rw [h] at e; cases e
  exact ⟨fun ps h => (nomatch h), fun c q h => codeO_lst h.symm⟩
theorem wr_hd {H : Hp} {a : Addr} {u : HO} (h : H a = some u) (w : HdO u) : Wr H a := fun o e => by
  rw [h] at e; cases e
  rcases w with ⟨xs, rfl⟩ | ⟨kvs, rfl⟩
  · exact ⟨fun ps h => (nomatch h), fun c q h => codeO_lst h.symm⟩
  · exact ⟨fun ps h => (nomatch h), fun c q h => codeO_dK h.symm⟩
theorem wr_ins {H : Hp} {a C d : Addr} {xs : List (Str × V)} (h : H a = some (.ins C d xs)) : Wr H a := fun o e => by
  rw [h] at e; cases e
  exact ⟨fun ps h => (nomatch h), fun c q h => codeO_ins h.symm⟩
theorem StOk.wr (s : StOk K z) {a : Addr} (h : Live z a) : Wr z.H a := by
  obtain ⟨r, mo, h1, h2, h3⟩ := h
  have q := s.ob r mo a h2 h1
  cases mo with
  | dead => exact absurd rfl h3
  | lst ds => obtain ⟨xs, e, _⟩ := q; exact wr_lst e
  | ins C ns fs => obtain ⟨_, _, dx, vs, e, _⟩ := q; exact wr_ins e
/-- a new thing that is never written -/
theorem new_im (s : StOk K z) {p : Addr} (o : HO) (hp : z.H p = none) (nt : NT o := by exact fun _ h => nomatch h) : Ext z ⟨z.hd, z.ρ, z.S, upd z.H p o⟩ ∧ StOk K ⟨z.hd, z.ρ, z.S, upd z.H p o⟩ ∧ Im ⟨z.hd, z.ρ, z.S, upd z.H p o⟩ p o := by
  have nl := s.nolive hp
  have ne : ∀ {a u}, z.H a = some u → upd z.H p o a = some u := fun {a u} h => by
    rw [upd_ne (by rintro rfl; rw [hp] at h; cases h)]; exact h
  have x : Ext z ⟨z.hd, z.ρ, z.S, upd z.H p o⟩ := ⟨List.prefix_refl _, fun a u ⟨h1, h2⟩ => ⟨ne h1, h2⟩, rfl, fun a ha => by obtain ⟨u, e, _⟩ := s.ht a ha; show upd z.H p o a = _; rw [ne e, e]⟩
  exact ⟨x, ⟨s.len, s.nd, fun a ha => let ⟨u, e, n⟩ := s.tr a ha; ⟨u, ne e, n⟩, fun a ha => let ⟨u, e, n⟩ := s.ht a ha; ⟨u, ne e, n⟩, s.dj, fun r mo a h1 h2 => (s.ob r mo a h1 h2).mono x fun u h => ne h, tabs_upd s.tb (wr_none hp)⟩, upd_same, nl, nt⟩
/-- a new thing of the store -/
theorem new_obG (s : StOk K z) {p : Addr} {mo : MO} {o : HO} (hp : z.H p = none) (hmo : ∀ z', Ext z z' → z'.H p = some o → MoOk K z' p mo) (nt : NT o := by exact fun _ h => nomatch h) :
    Ext z ⟨z.hd, z.ρ ++ [p], z.S ++ [mo], upd z.H p o⟩ ∧ StOk K ⟨z.hd, z.ρ ++ [p], z.S ++ [mo], upd z.H p o⟩ := by
  have nl := s.nolive hp
  have ne : ∀ {a u o'}, z.H a = some u → upd z.H p o' a = some u := fun {a u o'} h => by
    rw [upd_ne (by rintro rfl; rw [hp] at h; cases h)]; exact h
  have at_ : ∀ {r a m'}, (z.ρ ++ [p])[r]? = some a → (z.S ++ [mo])[r]? = some m' → (z.ρ[r]? = some a ∧ z.S[r]? = some m') ∨ (a = p ∧ m' = mo) := fun {r a m'} h1 h2 => by
    by_cases hr : r < z.ρ.length
    · rw [List.getElem?_append_left hr] at h1
      rw [List.getElem?_append_left (by rw [← s.len]; exact hr)] at h2
      exact .inl ⟨h1, h2⟩
    · rw [List.getElem?_append_right (by omega)] at h1
      rw [List.getElem?_append_right (by rw [← s.len]; omega), ← s.len] at h2
      by_cases q : r - z.ρ.length = 0
      · rw [q] at h1 h2; simp at h1 h2; exact .inr ⟨h1.symm, h2.symm⟩
      · rw [List.getElem?_eq_none (by simp; omega)] at h1; cases h1
  have x : Ext z ⟨z.hd, z.ρ ++ [p], z.S ++ [mo], upd z.H p o⟩ := ⟨List.prefix_append _ _, fun a u ⟨h1, h2, h3⟩ => by
    have ha : a ≠ p := by rintro rfl; rw [hp] at h1; cases h1
    refine ⟨ne h1, fun l => ?_, h3⟩
    rcases l with ⟨r, m', q1, q2, q3⟩ | l
    · rcases at_ q1 q2 with ⟨q4, q5⟩ | ⟨q4, _⟩
      · exact h2 (.inl ⟨r, m', q4, q5, q3⟩)
      · exact ha q4
    · exact h2 (.inr l), rfl, fun a ha => by obtain ⟨u, e, _⟩ := s.ht a ha; show upd z.H p _ a = _; rw [ne e, e]⟩
  refine ⟨x, ⟨by simp [s.len], ?_, fun a ha => ?_, fun a ha => let ⟨u, e, n⟩ := s.ht a ha; ⟨u, ne e, n⟩, fun a ha hh => ?_, fun r' m' a h1 h2 => ?_, tabs_upd s.tb (wr_none hp)⟩⟩
  · refine List.nodup_append.mpr ⟨s.nd, by simp, fun a ha b hb => ?_⟩
    rintro rfl
    have : a = p := by simpa using hb
    subst this
    obtain ⟨u, e, _⟩ := s.tr a ha
    rw [hp] at e; cases e
  · rcases List.mem_append.mp ha with ha | ha
    · obtain ⟨u, e, n⟩ := s.tr a ha; exact ⟨u, ne e, n⟩
    · have : a = p := by simpa using ha
      subst this; exact ⟨_, upd_same, nt⟩
  · rcases List.mem_append.mp ha with ha | ha
    · exact s.dj a ha hh
    · have : a = p := by simpa using ha
      subst this
      exact nl (.inr hh)
  · rcases at_ h2 h1 with ⟨q1, q2⟩ | ⟨q1, q2⟩
    · exact (s.ob r' m' a q2 q1).mono x fun u h => ne h
    · subst q1; subst q2
      exact hmo _ x upd_same
theorem new_ob (s : StOk K z) {p : Addr} {ds : List D} {xs : List V} (hp : z.H p = none) (hl : ds.length ≤ SZ) (r : Reps K z ds xs) :
    Ext z ⟨z.hd, z.ρ ++ [p], z.S ++ [MO.lst ds], upd z.H p (.lst xs)⟩ ∧ StOk K ⟨z.hd, z.ρ ++ [p], z.S ++ [MO.lst ds], upd z.H p (.lst xs)⟩ := new_obG s hp fun z' x e => ⟨xs, e, hl, r.mono x⟩
/-- a new instance and its dict -/
theorem new_ins (s : StOk K z) {p dx C : Addr} {ns : List String} (hc : ClsI K C ns) (hp : z.H p = none) (hd : z.H dx = none) (ne : dx ≠ p) :
    Ext z ⟨z.hd, z.ρ ++ [p], z.S ++ [MO.ins C ns []], upd (upd z.H dx (.own p)) p (.ins C dx [])⟩ ∧ StOk K ⟨z.hd, z.ρ ++ [p], z.S ++ [MO.ins C ns []], upd (upd z.H dx (.own p)) p (.ins C dx [])⟩ := by
  obtain ⟨x1, s1, _⟩ := new_im s (.own p) hd
  obtain ⟨x2, s2⟩ := new_obG (mo := MO.ins C ns []) (o := .ins C dx []) s1 (p := p) (by show upd z.H dx (.own p) p = none; rw [upd_ne (Ne.symm ne)]; exact hp) fun z' x e => ⟨⟨hc, fun p h => (nomatch h)⟩, by simp, dx, [], e, .nil⟩
  exact ⟨x1.trans x2, s2⟩
/-- a thing of the store is written -/
theorem set_obG (s : StOk K z) {r : Nat} {a : Addr} {m0 mo : MO} {o : HO} (hr : z.S[r]? = some m0) (h0 : m0 ≠ MO.dead) (ha : z.ρ[r]? = some a) (hmo : ∀ z', Ext z z' → z'.H a = some o → MoOk K z' a mo) (nt : NT o := by exact fun _ h => nomatch h) :
    Ext z ⟨z.hd, z.ρ, z.S.set r (mo), upd z.H a o⟩ ∧ StOk K ⟨z.hd, z.ρ, z.S.set r (mo), upd z.H a o⟩ := by
  have la : Live z a := ⟨r, _, ha, hr, h0⟩
  have hrl : r < z.S.length := (List.getElem?_eq_some_iff.mp hr).1
  have at_ : ∀ {i b m'}, z.ρ[i]? = some b → (z.S.set r (mo))[i]? = some m' → (b ≠ a ∧ z.S[i]? = some m') ∨ (b = a ∧ m' = mo) := fun {i b m'} h1 h2 => by
    by_cases hi : r = i
    · subst hi
      rw [List.getElem?_set_self hrl] at h2
      rw [ha] at h1
      exact .inr ⟨(Option.some.inj h1).symm, (Option.some.inj h2).symm⟩
    · rw [List.getElem?_set_ne hi] at h2
      exact .inl ⟨fun e => hi (nodup_get s.nd ha (e ▸ h1)), h2⟩
  have x : Ext z ⟨z.hd, z.ρ, z.S.set r (mo), upd z.H a o⟩ := ⟨List.prefix_refl _, fun b u ⟨h1, h2, h3⟩ => by
    have hb : b ≠ a := by rintro rfl; exact h2 (.inl la)
    refine ⟨by show upd z.H a _ b = _; rw [upd_ne hb]; exact h1, fun l => ?_, h3⟩
    rcases l with ⟨i, m', q1, q2, q3⟩ | l
    · rcases at_ q1 q2 with ⟨_, q5⟩ | ⟨q4, _⟩
      · exact h2 (.inl ⟨i, m', q1, q5, q3⟩)
      · exact hb q4
    · exact h2 (.inr l), rfl, fun b hb => ?_⟩
  rotate_left
  · show upd z.H a _ b = _
    rw [upd_ne]
    rintro rfl
    exact s.dj b (List.mem_of_getElem? ha) hb
  refine ⟨x, ⟨by simp [s.len], s.nd, fun b hb => ?_, fun b hb => ?_, s.dj, fun i m' b h1 h2 => ?_, tabs_upd s.tb (s.wr la)⟩⟩
  · show ∃ o', upd z.H a o b = some o' ∧ NT o'
    by_cases e : b = a
    · subst e; exact ⟨_, upd_same, nt⟩
    · rw [upd_ne e]; exact s.tr b hb
  · show ∃ u, upd z.H a o b = some u ∧ HdO u
    rw [upd_ne (by rintro rfl; exact s.dj b (List.mem_of_getElem? ha) hb)]
    exact s.ht b hb
  · rcases at_ h2 h1 with ⟨q1, q2⟩ | ⟨q1, q2⟩
    · exact (s.ob i m' b q2 h2).mono x fun u h => by show upd z.H a _ b = _; rw [upd_ne q1]; exact h
    · subst q1; subst q2
      exact hmo _ x upd_same
theorem set_ob (s : StOk K z) {r : Nat} {a : Addr} {es ds : List D} {xs : List V} (hr : z.S[r]? = some (MO.lst es)) (ha : z.ρ[r]? = some a) (hl : ds.length ≤ SZ) (q : Reps K z ds xs) :
    Ext z ⟨z.hd, z.ρ, z.S.set r (MO.lst ds), upd z.H a (.lst xs)⟩ ∧ StOk K ⟨z.hd, z.ρ, z.S.set r (MO.lst ds), upd z.H a (.lst xs)⟩ := set_obG s hr (fun h => nomatch h) ha fun z' x e => ⟨xs, e, hl, q.mono x⟩
/-- a thing of the store is never written from now on -/
theorem freeze (s : StOk K z) {r : Nat} {a : Addr} {es : List D} (hr : z.S[r]? = some (MO.lst es)) (ha : z.ρ[r]? = some a) :
    Ext z ⟨z.hd, z.ρ, z.S.set r MO.dead, z.H⟩ ∧ StOk K ⟨z.hd, z.ρ, z.S.set r MO.dead, z.H⟩ ∧ Rep K ⟨z.hd, z.ρ, z.S.set r MO.dead, z.H⟩ (.lst es) (.ref a) := by
  have hrl : r < z.S.length := (List.getElem?_eq_some_iff.mp hr).1
  have at_ : ∀ {i mo}, (z.S.set r MO.dead)[i]? = some mo → (i ≠ r ∧ z.S[i]? = some mo) ∨ (i = r ∧ mo = MO.dead) := fun {i mo} h2 => by
    by_cases hi : r = i
    · subst hi
      rw [List.getElem?_set_self hrl] at h2
      exact .inr ⟨rfl, (Option.some.inj h2).symm⟩
    · rw [List.getElem?_set_ne hi] at h2
      exact .inl ⟨fun e => hi e.symm, h2⟩
  have lv : ∀ b, Live ⟨z.hd, z.ρ, z.S.set r MO.dead, z.H⟩ b → Live z b := fun b ⟨i, mo, q1, q2, q3⟩ => by
    rcases at_ q2 with ⟨_, q5⟩ | ⟨_, q4⟩
    · exact ⟨i, mo, q1, q5, q3⟩
    · exact absurd q4 q3
  have x : Ext z ⟨z.hd, z.ρ, z.S.set r MO.dead, z.H⟩ := ⟨List.prefix_refl _, fun b u ⟨h1, h2, h3⟩ => ⟨h1, fun l => h2 (l.imp (lv b) id), h3⟩, rfl, fun _ _ => rfl⟩
  refine ⟨x, ⟨by simp [s.len], s.nd, s.tr, s.ht, s.dj, fun i mo b h1 h2 => ?_, s.tb⟩, ?_⟩
  · rcases at_ h1 with ⟨_, q2⟩ | ⟨_, q2⟩
    · exact (s.ob i mo b q2 h2).mono x fun u h => h
    · subst q2; trivial
  · obtain ⟨xs, e1, e2, e3⟩ := s.ob r _ a hr ha
    unfold Rep
    refine ⟨a, xs, rfl, ⟨e1, fun l => ?_, fun _ h => nomatch h⟩, e2, e3.mono x⟩
    rcases l with ⟨i, mo, q1, q2, q3⟩ | l
    · rcases at_ q2 with ⟨q4, _⟩ | ⟨_, q4⟩
      · exact q4 (nodup_get s.nd q1 ha)
      · exact q3 q4
    · exact s.dj a (List.mem_of_getElem? ha) l
end
end PyI

set_option maxRecDepth 100000
namespace PyI
open PySem PySem.Spec PyProof.Rows L2

/-! ## what is wanted behind a piece of code -/
structure EnvOk (K : PySem.W.Frag) (z : Zw) (e : Env) (σ : L2.St) : Prop where
  len : e.length = σ.length
  at_ : ∀ (i : Nat) (d : D), e[i]? = some (some d) → ∃ v, σ[i]? = some (some v) ∧ Rep K z d v
theorem EnvOk.mono0 {K : PySem.W.Frag} {z z' : Zw} {e : Env} {σ : L2.St} (x : Ex0 z z') (h : EnvOk K z e σ) : EnvOk K z' e σ :=
  ⟨h.len, fun i d q => let ⟨v, h1, h2⟩ := h.at_ i d q; ⟨v, h1, h2.mono0 x⟩⟩
theorem EnvOk.mono {K : PySem.W.Frag} {z z' : Zw} {e : Env} {σ : L2.St} (x : Ext z z') (h : EnvOk K z e σ) : EnvOk K z' e σ :=
  ⟨h.len, fun i d q => let ⟨v, h1, h2⟩ := h.at_ i d q; ⟨v, h1, h2.mono x⟩⟩
theorem EnvOk.set {K : PySem.W.Frag} {z : Zw} {e : Env} {σ : L2.St} (h : EnvOk K z e σ) (i : Nat) {d : D} {v : V} (r : Rep K z d v) : EnvOk K z (e.set i (some d)) (σ.set i (some v)) := by
  refine ⟨by simp [h.len], fun j d' q => ?_⟩
  by_cases hj : i = j
  · subst hj
    have hl : i < e.length := by
      have := (List.getElem?_eq_some_iff.mp q).1
      simpa using this
    rw [List.getElem?_set_self hl] at q
    cases q
    exact ⟨v, List.getElem?_set_self (by rw [← h.len]; exact hl), r⟩
  · rw [List.getElem?_set_ne hj] at q
    rw [List.getElem?_set_ne hj]
    exact h.at_ j d' q
theorem EnvOk.wip {K : PySem.W.Frag} {z : Zw} {e : Env} {σ : L2.St} (h : EnvOk K z e σ) : ∀ vs : List Nat, EnvOk K z (wip e vs) (wipe σ vs)
  | [] => h
  | v :: vs => by
    have ih := h.wip vs
    unfold PyI.wip wipe
    refine ⟨by simp [ih.len], fun j d q => ?_⟩
    by_cases hj : v = j
    · subst hj
      have hl : v < (PyI.wip e vs).length := by
        have := (List.getElem?_eq_some_iff.mp q).1
        simpa using this
      rw [List.getElem?_set_self hl] at q; cases q
    · rw [List.getElem?_set_ne hj] at q
      rw [List.getElem?_set_ne hj]
      exact ih.at_ j d q
theorem EnvOk.none {K : PySem.W.Frag} {z : Zw} {e : Env} {σ : L2.St} (h : EnvOk K z e σ) (i : Nat) : EnvOk K z (e.set i none) (σ.set i none) := by
  have := h.wip [i]
  simpa [PyI.wip, wipe] using this

/-- an exception of the program's own, its fields in its own dict -/
def XRep (K : PySem.W.Frag) (mg : Str → Option Value) (z : Zw) (x : Xc) (cls : Value) (d : Option Addr) : Prop :=
  mg (Str.ofString x.1) = some cls ∧ ((x.2 = [] ∧ d = none) ∨ ∃ (dx : Addr) (vs : List V), d = some dx ∧ Im z dx (.xd ((x.2.map fun p => Str.ofString p.1).zip vs)) ∧ Reps K z (x.2.map (·.2)) vs)
theorem XRep.mono {K : PySem.W.Frag} {mg : Str → Option Value} {z z' : Zw} {x : Xc} {cls : Value} {d : Option Addr} (e : Ext z z') (h : XRep K mg z x cls d) : XRep K mg z' x cls d := by
  obtain ⟨h1, h2⟩ := h
  refine ⟨h1, h2.imp id ?_⟩
  rintro ⟨dx, vs, q1, q2, q3⟩
  exact ⟨dx, vs, q1, e.im _ _ q2, q3.mono e⟩
section
variable (K : PySem.W.Frag) (mg : Str → Option Value) (W : WX)
def Post (z : Zw) {α : Type} (r : Rs α) (Q : α → Zw → Prop) : Prop := match r with
  | .ok a S1 => ∀ z1 : Zw, z1.S = S1 → Ext z z1 → StOk K z1 → Q a z1
  | .exc x e S1 => ∀ (z1 : Zw) (cls : Value) (d : Option Addr) (σ : L2.St), z1.S = S1 → Ext z z1 → StOk K z1 → EnvOk K z1 e σ → XRep K mg z1 x cls d → W cls d σ z1.H
  | .bad => False
end
section
variable {K : PySem.W.Frag} {mg : Str → Option Value} {W : WX} {z z1 : Zw} {α β : Type}
theorem Post.rebase {r : Rs α} {Q : α → Zw → Prop} (x : Ext z z1) (P : Post K mg W z r Q) : Post K mg W z1 r Q := by
  cases r with
  | ok a S => exact fun z2 h1 h2 h3 => P z2 h1 (x.trans h2) h3
  | exc y e S => exact fun z2 cls d σ h1 h2 h3 h4 h5 => P z2 cls d σ h1 (x.trans h2) h3 h4 h5
  | bad => exact P
theorem Post.imp {r : Rs α} {Q Q' : α → Zw → Prop} (P : Post K mg W z r Q) (h : ∀ a z1, Ext z z1 → StOk K z1 → Q a z1 → Q' a z1) : Post K mg W z r Q' := by
  cases r with
  | ok a S => exact fun z2 h1 h2 h3 => h _ _ h2 h3 (P z2 h1 h2 h3)
  | exc y e S => exact P
  | bad => exact P
theorem Post.bind {r : Rs α} {f : α → Store → Rs β} {Q : β → Zw → Prop} (P : Post K mg W z (r.bind f) Q) : Post K mg W z r (fun a z1 => Post K mg W z1 (f a z1.S) Q) := by
  cases r with
  | ok a S =>
    intro z2 h1 h2 h3
    subst h1
    exact Post.rebase h2 P
  | exc y e S => exact P
  | bad => exact P
/-- what has come by itself -/
theorem Post.val {a : α} {Q : α → Zw → Prop} (P : Post K mg W z (.ok a z.S) Q) (s : StOk K z) : Q a z := P z rfl (Ext.refl z) s
theorem Post.opt {o : Option α} {Q : α → Zw → Prop} (P : Post K mg W z (optR o z.S) Q) (s : StOk K z) : ∃ a, o = some a ∧ Q a z := by
  cases o with
  | none => exact P.elim
  | some a => exact ⟨a, rfl, Post.val P s⟩
end
/-- an expression's reading by the evaluator -/
def tE (X : Cx) (W : WX) (f : Env → Store → Rs D) : TE := fun σ H Q => ∃ z e, z.H = H ∧ StOk X.K z ∧ EnvOk X.K z e σ ∧ Post X.K X.mg W z (f e z.S) fun d z1 => ∀ v, Rep X.K z1 d v → Q v z1.H
def tT (X : Cx) (W : WX) (f : Env → Store → Rs Bool) : TT := fun σ H Q => ∃ z e, z.H = H ∧ StOk X.K z ∧ EnvOk X.K z e σ ∧ Post X.K X.mg W z (f e z.S) fun d z1 => Q d z1.H
def tA (X : Cx) (W : WX) (f : Env → Store → Rs (List D)) : TA := fun σ H Q => ∃ z e, z.H = H ∧ StOk X.K z ∧ EnvOk X.K z e σ ∧ Post X.K X.mg W z (f e z.S) fun d z1 => ∀ v, Reps X.K z1 d v → Q v z1.H
def tO (X : Cx) (W : WX) (f : Env → Store → Rs (Option Int)) : TO := fun σ H Q => ∃ z e, z.H = H ∧ StOk X.K z ∧ EnvOk X.K z e σ ∧ Post X.K X.mg W z (f e z.S) fun d z1 => Q d z1.H
section
variable {X : Cx} {W : WX} {pa pb pc : Expr} {fa fb fc : Env → Store → Rs D} {pos : Pos}
theorem PE_imp {e : Expr} {t t' : TE} (h : PE X e t) (f : ∀ σ H Q, t' σ H Q → t σ H Q) : PE X e t' := ⟨fun pins s σ H Q I q => h.run pins s σ H Q I (f _ _ _ q)⟩
theorem PT_imp {e : Expr} {t t' : TT} (h : PT X e t) (f : ∀ σ H Q, t' σ H Q → t σ H Q) : PT X e t' := ⟨fun pins s σ H Q I q => h.run pins s σ H Q I (f _ _ _ q)⟩
theorem PW_imp {e : Expr} {t t' : TT} (h : PW X e t) (f : ∀ σ H Q, t' σ H Q → t σ H Q) : PW X e t' := ⟨fun wh pins s σ H Q I q => h.run wh pins s σ H Q I (f _ _ _ q)⟩
theorem PA_imp {e : List Expr} {t t' : TA} (h : PA X e t) (f : ∀ σ H Q, t' σ H Q → t σ H Q) : PA X e t' := ⟨fun p pins s σ H Q I q => h.run p pins s σ H Q I (f _ _ _ q)⟩
theorem PO_imp {e : Option Expr} {t t' : TO} (h : PO X e t) (f : ∀ σ H Q, t' σ H Q → t σ H Q) : PO X e t' := ⟨fun pins s σ H Q I q => h.run pins s σ H Q I (f _ _ _ q)⟩

/-! ### an operator of two values -/
/-- the values' data, and what is wanted of the result -/
def rD (X : Cx) (g : D → D → Option D) : R2 := fun v u H Q => ∃ z x y d, z.H = H ∧ StOk X.K z ∧ Rep X.K z x v ∧ Rep X.K z y u ∧ g x y = some d ∧ ∀ w z1, z1.S = z.S → Ext z z1 → StOk X.K z1 → Rep X.K z1 d w → Q w z1.H
/-- a value without a place in the heap is handed back -/
theorem fin_val {X : Cx} {z : Zw} {d : D} {w : V} {Q : VK} (s : StOk X.K z) (h : ∀ w z1, z1.S = z.S → Ext z z1 → StOk X.K z1 → Rep X.K z1 d w → Q w z1.H) (r : Rep X.K z d w) : Q w z.H := h w z rfl (Ext.refl z) s r
theorem Rep.int_ {K : PySem.W.Frag} {z : Zw} {i : Int} : Rep K z (.int i) (.int i) := by unfold Rep; rfl
theorem Rep.bl_ {K : PySem.W.Frag} {z : Zw} {i : Bool} : Rep K z (.bl i) (.bl i) := by unfold Rep; rfl
theorem Rep.str_ {K : PySem.W.Frag} {z : Zw} {i : Str} : Rep K z (.str i) (.str i) := by unfold Rep; rfl
theorem Rep.non_ {K : PySem.W.Frag} {z : Zw} : Rep K z .non .non := by unfold Rep; rfl
theorem Rep.int_inv {K : PySem.W.Frag} {z : Zw} {i : Int} {v : V} (h : Rep K z (.int i) v) : v = .int i := by unfold Rep at h; exact h
theorem Rep.bl_inv {K : PySem.W.Frag} {z : Zw} {i : Bool} {v : V} (h : Rep K z (.bl i) v) : v = .bl i := by unfold Rep at h; exact h
theorem Rep.str_inv {K : PySem.W.Frag} {z : Zw} {i : Str} {v : V} (h : Rep K z (.str i) v) : v = .str i := by unfold Rep at h; exact h
theorem Rep.non_inv {K : PySem.W.Frag} {z : Zw} {v : V} (h : Rep K z .non v) : v = .non := by unfold Rep at h; exact h
theorem sq0 {K : PySem.W.Frag} {H : Hp} {a : Addr} {xs : List V} (h : SqT K H0 a xs) : SqT K H a xs := by
  rcases h with (h | ⟨o, h⟩) | h
  · cases h
  · cases h
  · exact .inr h
theorem sl0 {K : PySem.W.Frag} {H : Hp} {a : Addr} {xs : List V} (h : SqL K H0 a xs) : SqL K H a xs := by
  rcases h with (h | ⟨o, h⟩) | h
  · cases h
  · cases h
  · exact .inr h
theorem sqI {K : PySem.W.Frag} {z : Zw} {a : Addr} {xs : List V} (h : (Im z a (.tup xs) ∨ ∃ q, Im z a (.frz q (.tup xs))) ∨ SqT K (fun _ => none) a xs) : SqT K z.H a xs := by
  rcases h with (h1 | ⟨q, h1⟩) | h1
  · exact SqT.of h1.1
  · exact .inl (.inr ⟨q, h1.1⟩)
  · exact sq0 h1
theorem ImT.ext {z z' : Zw} {a : Addr} {xs : List V} (x : Ext z z') (h : Im z a (.tup xs) ∨ ∃ q, Im z a (.frz q (.tup xs))) : Im z' a (.tup xs) ∨ ∃ q, Im z' a (.frz q (.tup xs)) := h.imp (x.im _ _) fun ⟨q, h⟩ => ⟨q, x.im _ _ h⟩
theorem Rep.tup_inv {K : PySem.W.Frag} {z : Zw} {ds : List D} {v : V} (h : Rep K z (.tup ds) v) : ∃ a xs, v = .ref a ∧ SqT K z.H a xs ∧ ds.length ≤ SZ ∧ Reps K z ds xs := by
  unfold Rep at h
  obtain ⟨a, xs, e, h1, h2, h3⟩ := h
  refine ⟨a, xs, e, ?_, h2, h3⟩
  rcases h1 with (h1 | ⟨q, h1⟩) | h1
  · exact SqT.of h1.1
  · exact .inl (.inr ⟨q, h1.1⟩)
  · exact sq0 h1
theorem Rep.lst_inv {K : PySem.W.Frag} {z : Zw} {ds : List D} {v : V} (h : Rep K z (.lst ds) v) : ∃ a xs, v = .ref a ∧ z.H a = some (.lst xs) ∧ ds.length ≤ SZ ∧ Reps K z ds xs := by
  unfold Rep at h
  obtain ⟨a, xs, e, h1, h2, h3⟩ := h
  exact ⟨a, xs, e, h1.1, h2, h3⟩
theorem Rep.rol_inv {K : PySem.W.Frag} {z : Zw} {ds : List D} {v : V} (h : Rep K z (.rol ds) v) : ∃ a xs, v = .ref a ∧ SqL K z.H a xs ∧ ds.length ≤ SZ ∧ Reps K z ds xs := by
  unfold Rep at h
  obtain ⟨a, xs, e, h1, h2, h3⟩ := h
  refine ⟨a, xs, e, ?_, h2, h3⟩
  rcases h1 with ⟨o, h1⟩ | h1
  · obtain ⟨h1, e | ⟨q, e⟩⟩ := h1
    · subst e; exact .inl (.inl h1.1)
    · subst e; exact .inl (.inr ⟨_, h1.1⟩)
  · exact sl0 h1
theorem obj_inv {K : PySem.W.Frag} {z : Zw} {r : Nat} {ds : List D} {v : V} (s : StOk K z) (h : Rep K z (.obj r) v) (q : z.S[r]? = some (MO.lst ds)) : ∃ a xs, v = .ref a ∧ z.ρ[r]? = some a ∧ z.H a = some (.lst xs) ∧ ds.length ≤ SZ ∧ Reps K z ds xs := by
  unfold Rep at h
  obtain ⟨a, e, h1⟩ := h
  obtain ⟨xs, h2, h3, h4⟩ := s.ob r _ a q h1
  exact ⟨a, xs, e, h1, h2, h3, h4⟩
theorem new_tup {K : PySem.W.Frag} {z : Zw} {ds : List D} {xs : List V} {p : Addr} (s : StOk K z) (hp : z.H p = none) (hl : ds.length ≤ SZ) (r : Reps K z ds xs) :
    ∃ z1 : Zw, z1.H = upd z.H p (.tup xs) ∧ z1.S = z.S ∧ Ext z z1 ∧ StOk K z1 ∧ Rep K z1 (.tup ds) (.ref p) := by
  obtain ⟨x, s1, i⟩ := new_im s (.tup xs) hp
  refine ⟨⟨z.hd, z.ρ, z.S, upd z.H p (.tup xs)⟩, rfl, rfl, x, s1, ?_⟩
  unfold Rep
  exact ⟨p, xs, rfl, .inl (.inl i), hl, r.mono x⟩
theorem new_lst {K : PySem.W.Frag} {z : Zw} {ds : List D} {xs : List V} {p : Addr} (s : StOk K z) (hp : z.H p = none) (hl : ds.length ≤ SZ) (r : Reps K z ds xs) :
    ∃ z1 : Zw, z1.H = upd z.H p (.lst xs) ∧ z1.S = z.S ∧ Ext z z1 ∧ StOk K z1 ∧ Rep K z1 (.lst ds) (.ref p) := by
  obtain ⟨x, s1, i⟩ := new_im s (.lst xs) hp
  refine ⟨⟨z.hd, z.ρ, z.S, upd z.H p (.lst xs)⟩, rfl, rfl, x, s1, ?_⟩
  unfold Rep
  exact ⟨p, xs, rfl, i, hl, r.mono x⟩
theorem sz_le {n : Nat} : n ≤ SZ ↔ n ≤ sizeLine := by rw [sizeLine_eq]
theorem nat_abs_64 {i : Int} (h : i.natAbs < 2 ^ 64) : -(2 ^ 64) < i ∧ i < 2 ^ 64 := by omega
def boOf : BO → Operator
  | .add => .Add | .sub => .Sub | .mul => .Mult | .mod => .Mod | .fdiv => .FloorDiv | .pow => .Pow | .band => .BitAnd | .bor => .BitOr | .shr => .RShift | .shl => .LShift
theorem repT_self {l : Addr} {items : Array Value} {n : Nat} {dd : Option Addr} {sl : Array (Option Value)} {u : Tok} :
    Meets (Builtin.«tuple.__mul__» ⟨[.ref l, .int 1 u], []⟩) (fun _ R s => s.heap.get? l = some { cls := .type "tuple", dict := dd, data := .seq items n, slots := sl } ∧ R (.ok (.ret (Value.ref l))) s) :=
  .of_wp fun prog w A R s h => by
    obtain ⟨hp, g, d, tk, os⟩ := s
    obtain ⟨hl, h⟩ := h
    have f1 := AutoSeq1.idx_int
    wp_walk using wpAny_loadPart' hl
    repeat (first
      | (refine wpAny_ite_true (by simp) ?_; wp_walk using wpAny_loadPart' hl)
      | (refine wpAny_ite_false (by simp) ?_; wp_walk using wpAny_loadPart' hl))
    all_goals exact ⟨_, rfl, h⟩
def rRepT1 (K : PySem.W.Frag) : R2 := fun x y H Q => ∃ l xs, x = .ref l ∧ y = .int 1 ∧ SqT K H l xs ∧ Q (.ref l) H
theorem op_repT1 : OpR X (binaryOp .Mult) (rRepT1 X.K) := by
  intro pins s σ H x y v u Q I rx ry h
  obtain ⟨l, xs, rfl, rfl, hT, q⟩ := h
  cases rx
  obtain ⟨t, rfl⟩ := ry
  obtain ⟨its, r, ⟨⟨cls, dd, data, sl⟩, ho, hc, n, hd⟩, hs⟩ := I.tuple hT
  simp only at hc hd
  subst hc hd
  refine wpAny_binaryOp_repeat_ref (T := "tuple") (U := "int") (by decide) ⟨_, ho, rfl⟩ (fun s' => typeIs_int s' 1 t) noFill_tuple_mul F.fills_int_mul F.slot_int_rmul repeat_tuple F.slot_int_index.lookup
    (call_meets F.slot_int_rmul (typeIs_int s 1 t) F.entry_int_rmul (F.args_int_rmul_2 _ _) (int_rmul_tuple 1 t l its.toArray n dd sl)
      ⟨ho, rfl, ⟨_, ho, rfl⟩, call_meets F.slot_tuple_mul ⟨_, ho, rfl⟩ F.entry_tuple_mul (F.args_tuple_mul_2 _ _) repT_self ⟨ho, ?_⟩⟩)
  exact ⟨.ref l, H, I, rfl, q⟩
theorem op_bo (o : BO) : OpR X (binaryOp (boOf o)) (rD X (binop o)) := by
  intro pins s σ H v u v' u' Q I rv ru h
  obtain ⟨z, x, y, d, rfl, hs, hx, hy, hg, q⟩ := h
  have q0 : ∀ w, Rep X.K z d w → Q w z.H := fun w r => q w z rfl (Ext.refl z) hs r
  unfold binop at hg
  split at hg
  · obtain rfl := Option.some.inj hg
    exact op_add pins s σ _ _ _ _ _ Q I rv ru ⟨_, _, hx.int_inv, hy.int_inv, q0 _ .int_⟩
  · split at hg
    · rename_i hz
      obtain rfl := Option.some.inj hg
      exact op_add_str pins s σ _ _ _ _ _ Q I rv ru ⟨_, _, hx.str_inv, hy.str_inv, sz_le.mp hz, q0 _ .str_⟩
    · cases hg
  · split at hg
    · rename_i xs ys hz
      obtain rfl := Option.some.inj hg
      have hx0 := hx
      have hy0 := hy
      obtain ⟨a, vs, e1, h1, _, r1⟩ := hx.tup_inv
      obtain ⟨b, ws, e2, h2, _, r2⟩ := hy.tup_inv
      subst e1 e2
      have l1 := r1.length
      have l2 := r2.length
      refine op_catA pins s σ _ _ _ _ _ Q I rv ru ⟨a, b, vs, ws, rfl, rfl, h1, h2, by rw [← l1, ← l2]; exact sz_le.mp hz, fun e => ?_, fun _ e => ?_, fun _ _ p hp => ?_⟩
      · have : xs = [] := List.eq_nil_of_length_eq_zero (by rw [l1, e]; rfl)
        subst this
        exact q0 _ (by simpa using hy0)
      · have : ys = [] := List.eq_nil_of_length_eq_zero (by rw [l2, e]; rfl)
        subst this
        exact q0 _ (by simpa using hx0)
      · obtain ⟨z1, e1, e2, e3, e4, e5⟩ := new_tup hs hp (by simpa using hz) (r1.app r2)
        rw [← e1]; exact q _ z1 e2 e3 e4 e5
    · cases hg
  · split at hg
    · rename_i xs ys hz
      obtain rfl := Option.some.inj hg
      obtain ⟨a, vs, e1, h1, _, r1⟩ := hx.lst_inv
      obtain ⟨b, ws, e2, h2, _, r2⟩ := hy.lst_inv
      subst e1 e2
      refine op_cat pins s σ _ _ _ _ _ Q I rv ru ⟨a, b, vs, ws, rfl, rfl, h1, h2, by rw [← r1.length, ← r2.length]; exact sz_le.mp hz, fun p hp => ?_⟩
      obtain ⟨z1, e1, e2, e3, e4, e5⟩ := new_lst hs hp (by simpa using hz) (r1.app r2)
      rw [← e1]; exact q _ z1 e2 e3 e4 e5
    · cases hg
  · obtain rfl := Option.some.inj hg
    exact op_sub pins s σ _ _ _ _ _ Q I rv ru ⟨_, _, hx.int_inv, hy.int_inv, q0 _ .int_⟩
  · split at hg
    · rename_i hz
      obtain rfl := Option.some.inj hg
      exact op_mul pins s σ _ _ _ _ _ Q I rv ru ⟨_, _, hx.int_inv, hy.int_inv, hz.imp nat_abs_64 nat_abs_64, q0 _ .int_⟩
    · cases hg
  · split at hg
    · rename_i hz
      obtain rfl := Option.some.inj hg
      exact op_mod pins s σ _ _ _ _ _ Q I rv ru ⟨_, _, hx.int_inv, hy.int_inv, hz, q0 _ .int_⟩
    · cases hg
  · split at hg
    · rename_i hz
      obtain rfl := Option.some.inj hg
      exact op_fdiv pins s σ _ _ _ _ _ Q I rv ru ⟨_, _, hx.int_inv, hy.int_inv, hz, q0 _ .int_⟩
    · cases hg
  · split at hg
    · rename_i hz
      obtain rfl := Option.some.inj hg
      exact op_pow pins s σ _ _ _ _ _ Q I rv ru ⟨_, _, hx.int_inv, hy.int_inv, hz, q0 _ .int_⟩
    · cases hg
  · split at hg
    · rename_i xs k hz
      obtain rfl := Option.some.inj hg
      have hx0 := hx
      obtain ⟨a, vs, e1, h1, hl, r1⟩ := hx.tup_inv
      have e2 := hy.int_inv
      subst e1 e2
      have l1 := r1.length
      obtain ⟨z1, z2, z3, z4⟩ := hz
      by_cases hk : k = 1
      · subst hk
        exact op_repT1 pins s σ _ _ _ _ _ Q I rv ru ⟨a, vs, rfl, rfl, h1, q0 _ (by simpa using hx0)⟩
      · refine op_repT pins s σ _ _ _ _ _ Q I rv ru ⟨a, k, vs, rfl, rfl, h1, fun e => z4 (List.eq_nil_of_length_eq_zero (by rw [l1, e]; rfl)), by omega, z2, by rw [← l1]; exact z3, fun p hp => ?_⟩
        have hlen : (List.replicate k.toNat xs).flatten.length ≤ SZ := by
          rw [List.length_flatten, List.map_replicate, List.sum_replicate_nat]
          have : k.toNat * xs.length ≤ 1000 * 1000 := Nat.mul_le_mul (by omega) z3
          show _ ≤ 16777216
          omega
        obtain ⟨z1, e1, e2, e3, e4, e5⟩ := new_tup hs hp hlen (r1.rep k.toNat)
        rw [← e1]; exact q _ z1 e2 e3 e4 e5
    · cases hg
  · obtain rfl := Option.some.inj hg
    exact op_and pins s σ _ _ _ _ _ Q I rv ru ⟨_, _, hx.int_inv, hy.int_inv, q0 _ .int_⟩
  · split at hg
    · rename_i hz
      obtain rfl := Option.some.inj hg
      exact op_shr pins s σ _ _ _ _ _ Q I rv ru ⟨_, _, hx.int_inv, hy.int_inv, hz, q0 _ .int_⟩
    · cases hg
  · cases hg
end
/-! ### comparisons -/
def coOf : CO → CmpOp
  | .eq => .Eq | .ne => .NotEq | .lt => .Lt | .le => .LtE | .gt => .Gt | .ge => .GtE | .isn => .Is | .nisn => .IsNot | .inn => .In | .nin => .NotIn
section
variable {K : PySem.W.Frag} {z : Zw}
mutual
theorem dat_py : ∀ {d : D} {v : V}, d.dat = true → Rep K z d v → ∃ p, d.py = some p ∧ p.plain = true ∧ Dp K z.H v p
  | .non, v, _, h => by cases h.non_inv; exact ⟨_, rfl, rfl, .non⟩
  | .bl b, v, _, h => by cases h.bl_inv; exact ⟨_, rfl, rfl, .bl b⟩
  | .int b, v, _, h => by cases h.int_inv; exact ⟨_, rfl, rfl, .int b⟩
  | .str b, v, _, h => by cases h.str_inv; exact ⟨_, rfl, rfl, .str b⟩
  | .tup ds, v, e, h => by
    obtain ⟨a, xs, rfl, h1, _, h3⟩ := h.tup_inv
    obtain ⟨ps, q1, q2, q3⟩ := dats_py (ds := ds) (by simpa [D.dat] using e) h3
    exact ⟨.tuple ps, by simp [D.py, q1], by simpa [PyData.plain] using q2, .tup h1 q3⟩
  | .lst ds, v, e, h => by
    obtain ⟨a, xs, rfl, h1, _, h3⟩ := h.lst_inv
    obtain ⟨ps, q1, q2, q3⟩ := dats_py (ds := ds) (by simpa [D.dat] using e) h3
    exact ⟨.list ps, by simp [D.py, q1], by simpa [PyData.plain] using q2, .lst (.of h1) q3⟩
  | .rol ds, _, e, _ => by simp [D.dat] at e
  | .obj r, _, e, _ => by simp [D.dat] at e
  | .edic, _, e, _ => by simp [D.dat] at e
  | .exc _ _ _ _, _, e, _ => by simp [D.dat] at e
  | .clo _ _ _ _, _, e, _ => by simp [D.dat] at e
  | .ftup _, _, e, _ => by simp [D.dat] at e
theorem dats_py : ∀ {ds : List D} {vs : List V}, dats ds = true → Reps K z ds vs → ∃ ps, pys ds = some ps ∧ PyData.plainAll ps = true ∧ DpAll K z.H vs ps
  | [], _, _, h => by cases h.nil_inv; exact ⟨[], rfl, rfl, .nil⟩
  | d :: ds, _, e, h => by
    obtain ⟨v, r, rfl, h1, h2⟩ := h.cons_inv
    have e : d.dat = true ∧ dats ds = true := by simpa [dats] using e
    obtain ⟨p, a1, a2, a3⟩ := dat_py e.1 h1
    obtain ⟨ps, b1, b2, b3⟩ := dats_py e.2 h2
    exact ⟨p :: ps, by simp [pys, a1, b1], by simp [PyData.plainAll, a2, b2], .cons a3 b3⟩
end
mutual
theorem flat_depth : ∀ {d : D} {n : Nat} {p : PyData}, d.flat n = true → d.py = some p → p.depth ≤ n
  | .non, n, p, _, h => by cases h; simp [PyData.depth]
  | .bl b, n, p, _, h => by cases h; simp [PyData.depth]
  | .int b, n, p, _, h => by cases h; simp [PyData.depth]
  | .str b, n, p, _, h => by cases h; simp [PyData.depth]
  | .tup ds, 0, p, e, h => by simp [D.flat] at e
  | .tup ds, n + 1, p, e, h => by
    unfold D.py at h
    split at h
    · cases h
      have := flats_depth (ds := ds) (n := n) (by simpa [D.flat] using e) (by assumption)
      simp [PyData.depth]; omega
    · cases h
  | .lst ds, 0, p, e, h => by simp [D.flat] at e
  | .lst ds, n + 1, p, e, h => by
    unfold D.py at h
    split at h
    · cases h
      have := flats_depth (ds := ds) (n := n) (by simpa [D.flat] using e) (by assumption)
      simp [PyData.depth]; omega
    · cases h
  | .rol ds, _, _, _, h => by simp [D.py] at h
  | .obj r, _, _, _, h => by simp [D.py] at h
  | .edic, _, _, _, h => by simp [D.py] at h
  | .exc _ _ _ _, _, _, _, h => by simp [D.py] at h
  | .clo _ _ _ _, _, _, _, h => by simp [D.py] at h
  | .ftup _, _, _, _, h => by simp [D.py] at h
theorem flats_depth : ∀ {ds : List D} {n : Nat} {ps : List PyData}, flats n ds = true → pys ds = some ps → PyData.depthAll ps ≤ n
  | [], n, ps, _, h => by cases h; simp [PyData.depthAll]
  | d :: ds, n, ps, e, h => by
    unfold pys at h
    split at h
    · cases h
      have e : d.flat n = true ∧ flats n ds = true := by simpa [flats] using e
      have h1 := flat_depth (d := d) e.1 (by assumption)
      have h2 := flats_depth (ds := ds) e.2 (by assumption)
      simp [PyData.depthAll]; omega
    · cases h
end
mutual
theorem eqv_py : ∀ {x y : D} {p q : PyData}, x.py = some p → y.py = some q → PyData.eqv p q = x.eqv y
  | .tup xs, y, p, q, h1, h2 => by
    unfold D.py at h1
    split at h1
    · cases h1
      cases y <;> simp only [D.py] at h2 <;> first
        | (split at h2 <;> cases h2 <;> simp only [PyData.eqv, D.eqv] <;> (try exact eqvs_py (by assumption) (by assumption)))
        | (cases h2 <;> simp [PyData.eqv, D.eqv])
    · cases h1
  | .lst xs, y, p, q, h1, h2 => by
    unfold D.py at h1
    split at h1
    · cases h1
      cases y <;> simp only [D.py] at h2 <;> first
        | (split at h2 <;> cases h2 <;> simp only [PyData.eqv, D.eqv] <;> (try exact eqvs_py (by assumption) (by assumption)))
        | (cases h2 <;> simp [PyData.eqv, D.eqv])
    · cases h1
  | .non, y, p, q, h1, h2 => by
    cases h1
    cases y <;> simp only [D.py] at h2 <;> first
      | (split at h2 <;> cases h2 <;> simp [PyData.eqv, D.eqv])
      | (cases h2 <;> simp [PyData.eqv, D.eqv])
  | .bl b, y, p, q, h1, h2 => by
    cases h1
    cases y <;> simp only [D.py] at h2 <;> first
      | (split at h2 <;> cases h2 <;> simp [PyData.eqv, D.eqv])
      | (cases h2 <;> simp [PyData.eqv, D.eqv])
  | .int b, y, p, q, h1, h2 => by
    cases h1
    cases y <;> simp only [D.py] at h2 <;> first
      | (split at h2 <;> cases h2 <;> simp [PyData.eqv, D.eqv])
      | (cases h2 <;> simp [PyData.eqv, D.eqv])
  | .str b, y, p, q, h1, h2 => by
    cases h1
    cases y <;> simp only [D.py] at h2 <;> first
      | (split at h2 <;> cases h2 <;> simp [PyData.eqv, D.eqv])
      | (cases h2 <;> simp [PyData.eqv, D.eqv])
  | .rol ds, _, _, _, h, _ => by simp [D.py] at h
  | .obj r, _, _, _, h, _ => by simp [D.py] at h
  | .edic, _, _, _, h, _ => by simp [D.py] at h
  | .exc _ _ _ _, _, _, _, h, _ => by simp [D.py] at h
  | .clo _ _ _ _, _, _, _, h, _ => by simp [D.py] at h
  | .ftup _, _, _, _, h, _ => by simp [D.py] at h
theorem eqvs_py : ∀ {xs ys : List D} {ps qs : List PyData}, pys xs = some ps → pys ys = some qs → PyData.eqvAll ps qs = eqvs xs ys
  | [], ys, ps, qs, h1, h2 => by
    cases h1
    cases ys with
    | nil => cases h2; rfl
    | cons y ys =>
      unfold pys at h2
      split at h2
      · cases h2; rfl
      · cases h2
  | x :: xs, ys, ps, qs, h1, h2 => by
    unfold pys at h1
    split at h1
    · cases h1
      cases ys with
      | nil => cases h2; rfl
      | cons y ys =>
        unfold pys at h2
        split at h2
        · cases h2
          simp only [PyData.eqvAll, eqvs]
          rw [eqv_py (x := x) (y := y) (by assumption) (by assumption), eqvs_py (xs := xs) (ys := ys) (by assumption) (by assumption)]
        · cases h2
    · cases h1
end
theorem isIn_py {x : D} {p : PyData} (h : x.py = some p) : ∀ {ds : List D} {ps : List PyData}, pys ds = some ps → (ps.any fun y => PyData.eqv y p) = isIn x ds
  | [], ps, e => by cases e; rfl
  | d :: ds, ps, e => by
    unfold pys at e
    split at e
    · cases e
      unfold isIn
      simp only [List.any_cons]
      rw [eqv_py (x := d) (y := x) (by assumption) h]
      have := isIn_py h (ds := ds) (by assumption)
      unfold isIn at this
      rw [this]
    · cases e
end
theorem rep_non {K : PySem.W.Frag} {z : Zw} {x : D} {v : V} (h : Rep K z x v) : decide (v = V.non) = x.isNon := by
  cases x with
  | non => rw [h.non_inv]; rfl
  | bl b => rw [h.bl_inv]; rfl
  | int b => rw [h.int_inv]; rfl
  | str b => rw [h.str_inv]; rfl
  | tup ds => obtain ⟨a, xs, rfl, _⟩ := h.tup_inv; rfl
  | lst ds => obtain ⟨a, xs, rfl, _⟩ := h.lst_inv; rfl
  | rol ds => obtain ⟨a, xs, rfl, _⟩ := h.rol_inv; rfl
  | obj r => unfold Rep at h; obtain ⟨a, rfl, _⟩ := h; rfl
  | edic => unfold Rep at h; obtain ⟨a, rfl, _⟩ := h; rfl
  | exc a d ns ds => unfold Rep at h; obtain ⟨rfl, _⟩ := h; rfl
  | clo x C ns ms => unfold Rep at h; rw [h]; rfl
  | ftup ds => unfold Rep at h; obtain ⟨a, xs, rfl, _⟩ := h; rfl
section
variable {X : Cx} {pins : List (Addr × Obj)} {s : Shared} {σ : L2.St} {z : Zw} {v u : V} {v' u' : Value} {x y : D}
theorem two_py (I : Inv X pins σ z.H s) (rv : RelV v v') (ru : RelV u u') (hx : Rep X.K z x v) (hy : Rep X.K z y u) (h : (x.dat && y.dat && (x.flat 64 || y.flat 64)) = true) (hu : X.A.units + 65 < cLine) :
    ∃ p q as bs, Reads s.heap v' p as ∧ Reads s.heap u' q bs ∧ p.plain = true ∧ q.plain = true ∧ X.A.units + min p.depth q.depth < cLine ∧ PyData.eqv p q = x.eqv y := by
  simp only [Bool.and_eq_true, Bool.or_eq_true] at h
  obtain ⟨⟨h1, h2⟩, h3⟩ := h
  obtain ⟨p, p1, p2, p3⟩ := dat_py h1 hx
  obtain ⟨q, q1, q2, q3⟩ := dat_py h2 hy
  obtain ⟨as, r1⟩ := Dp.reads I p v v' p3 rv
  obtain ⟨bs, r2⟩ := Dp.reads I q u u' q3 ru
  refine ⟨p, q, as, bs, r1, r2, p2, q2, ?_, eqv_py p1 q1⟩
  have m1 := Nat.min_le_left p.depth q.depth
  have m2 := Nat.min_le_right p.depth q.depth
  rcases h3 with h3 | h3
  · have := flat_depth h3 p1; omega
  · have := flat_depth h3 q1; omega
/-- a comparison -/
def rC0 (X : Cx) (g : D → D → Option Bool) : R2 := fun v u H Q => ∃ z x y b, z.H = H ∧ StOk X.K z ∧ Rep X.K z x v ∧ Rep X.K z y u ∧ g x y = some b ∧ Q (.bl b) z.H
theorem op_co0 (o : CO) (hu : X.A.units + 65 < cLine) : OpR X (compareOp (coOf o)) (rC0 X (cmpop o)) := by
  intro pins s σ H v u v' u' Q I rv ru h
  obtain ⟨z, x, y, b, rfl, hs, hx, hy, hg, q0⟩ := h
  have fin : ∀ {s' : Shared}, Inv X pins σ z.H s' → EP X pins σ Q (.bool b) s' := fun I' => ⟨.bl b, z.H, I', rfl, q0⟩
  have inn : ∀ {ds : List D}, (x.dat && dats ds && (x.flat 64 || flats 64 ds)) = true → ∀ {p : PyData} {ps : List PyData}, x.py = some p → pys ds = some ps → X.A.units + 1 + min (PyData.depthAll ps) p.depth < cLine := fun {ds} h {p ps} e1 e2 => by
    simp only [Bool.and_eq_true, Bool.or_eq_true] at h
    have m1 := Nat.min_le_left (PyData.depthAll ps) p.depth
    have m2 := Nat.min_le_right (PyData.depthAll ps) p.depth
    rcases h.2 with h3 | h3
    · have := flat_depth h3 e1; omega
    · have := flats_depth h3 e2; omega
  unfold cmpop at hg
  split at hg
  · obtain rfl := Option.some.inj hg
    refine op_isN pins s σ _ _ _ _ _ Q I rv ru ⟨hy.non_inv, ?_⟩
    rw [rep_non hx]; exact q0
  · obtain rfl := Option.some.inj hg
    refine op_notN pins s σ _ _ _ _ _ Q I rv ru ⟨hy.non_inv, ?_⟩
    rw [rep_non hx]; exact q0
  · obtain rfl := Option.some.inj hg
    refine op_isBl pins s σ _ _ _ _ _ Q I rv ru ⟨_, _, hx.bl_inv, hy.bl_inv, ?_⟩
    rw [← Bool.beq_eq_decide_eq]; exact q0
  · obtain rfl := Option.some.inj hg
    refine op_notBl pins s σ _ _ _ _ _ Q I rv ru ⟨_, _, hx.bl_inv, hy.bl_inv, ?_⟩
    rw [← Bool.beq_eq_decide_eq]; exact q0
  · obtain rfl := Option.some.inj hg
    exact op_lt pins s σ _ _ _ _ _ Q I rv ru ⟨_, _, hx.int_inv, hy.int_inv, q0⟩
  · obtain rfl := Option.some.inj hg
    exact op_le pins s σ _ _ _ _ _ Q I rv ru ⟨_, _, hx.int_inv, hy.int_inv, q0⟩
  · obtain rfl := Option.some.inj hg
    exact op_gt pins s σ _ _ _ _ _ Q I rv ru ⟨_, _, hx.int_inv, hy.int_inv, q0⟩
  · obtain rfl := Option.some.inj hg
    exact op_ge pins s σ _ _ _ _ _ Q I rv ru ⟨_, _, hx.int_inv, hy.int_inv, q0⟩
  · split at hg
    · rename_i hc
      obtain ⟨p, r, as, bs, r1, r2, p1, p2, hd, he⟩ := two_py I rv ru hx hy hc hu
      refine SeqAt.eq_plain r1 r2 p1 p2 hd ?_
      rw [he, Option.some.inj hg]; exact fin I
    · cases hg
  · split at hg
    · rename_i hc
      obtain ⟨p, r, as, bs, r1, r2, p1, p2, hd, he⟩ := two_py I rv ru hx hy hc hu
      refine SeqAt.ne_plain r1 r2 p1 p2 hd ?_
      rw [he, Option.some.inj hg]; exact fin I
    · cases hg
  · split at hg
    · rename_i ds hc
      have hc' := hc
      simp only [Bool.and_eq_true] at hc'
      obtain ⟨p, p1, p2, p3⟩ := dat_py hc'.1.1 hx
      obtain ⟨a, xs, rfl, h1, _, h3⟩ := hy.tup_inv
      obtain ⟨ps, s1, s2, s3⟩ := dats_py hc'.1.2 h3
      obtain ⟨as, r1⟩ := Dp.reads I p v v' p3 rv
      obtain ⟨bs, r2⟩ := Dp.reads I (.tuple ps) _ u' (.tup h1 s3) ru
      refine SeqAt.in_tuple_data r2 r1 s2 p2 (inn hc p1 s1) ?_
      rw [isIn_py p1 s1, Option.some.inj hg]; exact fin I
    · cases hg
  · split at hg
    · rename_i ds hc
      have hc' := hc
      simp only [Bool.and_eq_true] at hc'
      obtain ⟨p, p1, p2, p3⟩ := dat_py hc'.1.1 hx
      obtain ⟨a, xs, rfl, h1, _, h3⟩ := hy.lst_inv
      obtain ⟨ps, s1, s2, s3⟩ := dats_py hc'.1.2 h3
      obtain ⟨as, r1⟩ := Dp.reads I p v v' p3 rv
      obtain ⟨bs, r2⟩ := Dp.reads I (.list ps) _ u' (.lst (.of h1) s3) ru
      refine SeqAt.in_list_data r2 r1 s2 p2 (inn hc p1 s1) ?_
      rw [isIn_py p1 s1, Option.some.inj hg]; exact fin I
    · cases hg
  · split at hg
    · rename_i ds hc
      have hc' := hc
      simp only [Bool.and_eq_true] at hc'
      obtain ⟨p, p1, p2, p3⟩ := dat_py hc'.1.1 hx
      obtain ⟨a, xs, rfl, h1, _, h3⟩ := hy.tup_inv
      obtain ⟨ps, s1, s2, s3⟩ := dats_py hc'.1.2 h3
      obtain ⟨as, r1⟩ := Dp.reads I p v v' p3 rv
      obtain ⟨bs, r2⟩ := Dp.reads I (.tuple ps) _ u' (.tup h1 s3) ru
      refine SeqAt.notIn_tuple_data r2 r1 s2 p2 (inn hc p1 s1) ?_
      rw [isIn_py p1 s1, Option.some.inj hg]; exact fin I
    · cases hg
  · split at hg
    · rename_i ds hc
      have hc' := hc
      simp only [Bool.and_eq_true] at hc'
      obtain ⟨p, p1, p2, p3⟩ := dat_py hc'.1.1 hx
      obtain ⟨a, xs, rfl, h1, _, h3⟩ := hy.lst_inv
      obtain ⟨ps, s1, s2, s3⟩ := dats_py hc'.1.2 h3
      obtain ⟨as, r1⟩ := Dp.reads I p v v' p3 rv
      obtain ⟨bs, r2⟩ := Dp.reads I (.list ps) _ u' (.lst (.of h1) s3) ru
      refine SeqAt.notIn_list_data r2 r1 s2 p2 (inn hc p1 s1) ?_
      rw [isIn_py p1 s1, Option.some.inj hg]; exact fin I
    · cases hg
  · obtain rfl := Option.some.inj hg
    exact op_in_str pins s σ _ _ _ _ _ Q I rv ru ⟨_, _, hx.str_inv, hy.str_inv, q0⟩
  · obtain rfl := Option.some.inj hg
    exact op_notin_str pins s σ _ _ _ _ _ Q I rv ru ⟨_, _, hx.str_inv, hy.str_inv, q0⟩
  · cases hg
theorem op_co (o : CO) (hu : X.A.units + 65 < cLine) : OpR X (compareOp (coOf o)) (rD X (fun x y => (cmpop o x y).map .bl)) := by
  intro pins s σ H v u v' u' Q I rv ru h
  obtain ⟨z, x, y, d, rfl, hs, hx, hy, hgm, q⟩ := h
  obtain ⟨b, hg, rfl⟩ := Option.map_eq_some_iff.mp hgm
  exact op_co0 o hu pins s σ _ _ _ _ _ Q I rv ru ⟨z, x, y, b, rfl, hs, hx, hy, hg, q _ z rfl (Ext.refl z) hs .bl_⟩
/-! ### lists of the store read by an operator -/
theorem rdS_ok {K : PySem.W.Frag} {z : Zw} {x x' : D} {v : V} (s : StOk K z) (r : Rep K z x v) (h : rdS z.S x = some x') : ∃ z' : Zw, z'.H = z.H ∧ Ext z z' ∧ StOk K z' ∧ Rep K z' x' v := by
  cases x with
  | obj n =>
    have h : (match z.S[n]? with
      | some (.lst ds) => some (D.lst ds)
      | _ => none) = some x' := h
    cases e : z.S[n]? with
    | none => rw [e] at h; cases h
    | some mo =>
      rw [e] at h
      cases mo with
      | lst ds =>
        cases h
        obtain ⟨a, xs, rfl, h1, _⟩ := obj_inv s r e
        obtain ⟨q1, q2, q3⟩ := freeze s e h1
        exact ⟨⟨z.hd, z.ρ, z.S.set n MO.dead, z.H⟩, rfl, q1, q2, q3⟩
      | _ => cases h
  | _ => cases h
def rCS (X : Cx) (o : CO) : R2 := fun v u H Q => ∃ z x y b, z.H = H ∧ StOk X.K z ∧ Rep X.K z x v ∧ Rep X.K z y u ∧ cmpS z.S o x y = some b ∧ Q (.bl b) z.H
theorem op_cS (o : CO) (hu : X.A.units + 65 < cLine) : OpR X (compareOp (coOf o)) (rCS X o) := by
  intro pins s σ H v u v' u' Q I rv ru h
  obtain ⟨z, x, y, b, rfl, hs, hx, hy, hg, q0⟩ := h
  unfold cmpS at hg
  split at hg
  · rename_i b' e
    cases hg
    exact op_co0 o hu pins s σ _ _ _ _ _ Q I rv ru ⟨z, x, y, _, rfl, hs, hx, hy, e, q0⟩
  · split at hg
    · rename_i x' e
      obtain ⟨z', e1, e2, e3, e4⟩ := rdS_ok hs hx e
      rw [← e1] at q0 I
      exact op_co0 o hu pins s σ z'.H _ _ _ _ Q I rv ru ⟨z', x', y, b, rfl, e3, e4, hy.mono e2, hg, q0⟩
    · split at hg
      · rename_i y' e
        obtain ⟨z', e1, e2, e3, e4⟩ := rdS_ok hs hy e
        rw [← e1] at q0 I
        exact op_co0 o hu pins s σ z'.H _ _ _ _ Q I rv ru ⟨z', x, y', b, rfl, e3, hx.mono e2, e4, hg, q0⟩
      · cases hg
theorem objLs_ok {K : PySem.W.Frag} {z : Zw} {x : D} {v : V} {ds : List D} (s : StOk K z) (r : Rep K z x v) (h : objLs z.S x = some ds) : ∃ a xs, v = .ref a ∧ z.H a = some (.lst xs) ∧ Reps K z ds xs := by
  unfold objLs at h
  split at h
  · split at h
    · rename_i n ds' e
      cases h
      obtain ⟨a, xs, rfl, _, h1, _, h3⟩ := obj_inv s r e
      exact ⟨a, xs, rfl, h1, h3⟩
    · cases h
  · cases h
    obtain ⟨a, xs, rfl, h1, _, h3⟩ := r.lst_inv
    exact ⟨a, xs, rfl, h1, h3⟩
  · cases h
def rBS (X : Cx) (o : BO) : R2 := fun v u H Q => ∃ z x y d, z.H = H ∧ StOk X.K z ∧ Rep X.K z x v ∧ Rep X.K z y u ∧ binS z.S o x y = some d ∧ ∀ w z1, z1.S = z.S → Ext z z1 → StOk X.K z1 → Rep X.K z1 d w → Q w z1.H
theorem op_boS (o : BO) : OpR X (binaryOp (boOf o)) (rBS X o) := by
  intro pins s σ H v u v' u' Q I rv ru h
  obtain ⟨z, x, y, d, rfl, hs, hx, hy, hg, q⟩ := h
  unfold binS at hg
  split at hg
  · rename_i d' e
    cases hg
    exact op_bo o pins s σ _ _ _ _ _ Q I rv ru ⟨z, x, y, _, rfl, hs, hx, hy, e, q⟩
  · split at hg
    · rename_i ds es e1 e2 _
      split at hg
      · rename_i hz
        cases hg
        obtain ⟨a, vs, rfl, h1, r1⟩ := objLs_ok hs hx e1
        obtain ⟨b, ws, rfl, h2, r2⟩ := objLs_ok hs hy e2
        refine op_cat pins s σ _ _ _ _ _ Q I rv ru ⟨a, b, vs, ws, rfl, rfl, h1, h2, by rw [← r1.length, ← r2.length]; exact sz_le.mp hz, fun p hp => ?_⟩
        obtain ⟨z1, e1, e2, e3, e4, e5⟩ := new_lst hs hp (by simpa using hz) (r1.app r2)
        rw [← e1]; exact q _ z1 e2 e3 e4 e5
      · cases hg
    · cases hg
end
end PyI

set_option maxRecDepth 100000
namespace PyI
open PySem PySem.Spec PyProof.Rows L2
section
variable {X : Cx} {W : WX} {pa pb pc : Expr} {fa fb fc : Env → Store → Rs D} {pos : Pos}
/-! ## expressions, one by one -/
/-- the reading of two expressions one behind the other -/
theorem two_step {σ : L2.St} {H : Hp} {R : V → V → Hp → Prop} {α : Type} {g : D → D → Store → Rs α} {Q : α → Zw → Prop}
    (h : ∃ z e, z.H = H ∧ StOk X.K z ∧ EnvOk X.K z e σ ∧ Post X.K X.mg W z ((fa e z.S).bind fun x S => (fb e S).bind fun y S => g x y S) Q)
    (k : ∀ z x y v u, StOk X.K z → Rep X.K z x v → Rep X.K z y u → Post X.K X.mg W z (g x y z.S) Q → R v u z.H) :
    tE X W fa σ H fun v H1 => tE X W fb σ H1 fun u H2 => R v u H2 := by
  obtain ⟨z, e, rfl, hs, he, P⟩ := h
  refine ⟨z, e, rfl, hs, he, P.bind.imp fun x z1 x1 s1 P1 v rv => ⟨z1, e, rfl, s1, he.mono x1, P1.bind.imp fun y z2 x2 s2 P2 u ru => ?_⟩⟩
  exact k z2 x y v u s2 (rv.mono x2) ru P2
theorem s_bin (o : BO) (ha : PE X pa (tE X W fa)) (hb : PE X pb (tE X W fb)) :
    PE X (.BinOp pa (boOf o) pb pos) (tE X W fun e S => (fa e S).bind fun x S => (fb e S).bind fun y S => optR (binS S o x y) S) :=
  PE_imp (pe_op (op_boS o) ha hb) fun σ H Q h => two_step h fun z x y v u s rv ru P => by
    obtain ⟨d, e, q⟩ : ∃ d, binS z.S o x y = some d ∧ ∀ w z1, z1.S = z.S → Ext z z1 → StOk X.K z1 → Rep X.K z1 d w → Q w z1.H := by
      cases e : binS z.S o x y with
      | none => rw [e] at P; exact P.elim
      | some d => rw [e] at P; exact ⟨d, rfl, fun w z1 h1 h2 h3 h4 => P z1 h1 h2 h3 w h4⟩
    exact ⟨z, x, y, d, rfl, s, rv, ru, e, q⟩
theorem s_cmp (o : CO) (hu : X.A.units + 65 < cLine) (ha : PE X pa (tE X W fa)) (hb : PE X pb (tE X W fb)) (hm : behindInMarks (coOf o) pb = false) :
    PE X (.Compare pa [coOf o] [pb] pos) (tE X W fun e S => (fa e S).bind fun x S => (fb e S).bind fun y S => optR ((cmpS S o x y).map .bl) S) :=
  PE_imp (pe_cmpR (op_cS o hu) ha hb hm) fun σ H Q h => two_step h fun z x y v u s rv ru P => by
    cases e : cmpS z.S o x y with
    | none => rw [e] at P; exact P.elim
    | some d =>
      rw [e] at P
      exact ⟨z, x, y, d, rfl, s, rv, ru, e, P z rfl (Ext.refl z) s _ .bl_⟩
theorem s_cmpT (o : CO) (hu : X.A.units + 65 < cLine) (ha : PE X pa (tE X W fa)) (hb : PE X pb (tE X W fb)) (hm : behindInMarks (coOf o) pb = false) :
    PT X (.Compare pa [coOf o] [pb] pos) (tT X W fun e S => (fa e S).bind fun x S => (fb e S).bind fun y S => optR (cmpS S o x y) S) :=
  PT_imp (pt_cmpR (op_cS o hu) ha hb hm) fun σ H Q h => two_step h fun z x y v u s rv ru P => by
    cases e : cmpS z.S o x y with
    | none => rw [e] at P; exact P.elim
    | some d =>
      rw [e] at P
      exact ⟨z, x, y, d, rfl, s, rv, ru, e, ⟨d, rfl, P z rfl (Ext.refl z) s⟩⟩
theorem s_chn {op op' : CmpOp} {g g' : D → D → Option Bool} (ho : OpR X (compareOp op) (rD X fun x y => (g x y).map .bl)) (ho' : OpR X (compareOp op') (rD X fun x y => (g' x y).map .bl))
    (ha : PE X pa (tE X W fa)) (hb : PE X pb (tE X W fb)) (hc : PE X pc (tE X W fc)) (hm : lastMarks [op, op'] [pb, pc] = false) :
    PE X (.Compare pa [op, op'] [pb, pc] pos) (tE X W fun e S => (fa e S).bind fun x S => (fb e S).bind fun y S => (optR (g x y) S).bind fun t S =>
      if t then (fc e S).bind fun w S => optR ((g' y w).map .bl) S else .ok (.bl false) S) :=
  PE_imp (pe_chain ho ho' ha hb hc hm) fun σ H Q h => by
    obtain ⟨z, e, rfl, hs, he, P⟩ := h
    refine ⟨z, e, rfl, hs, he, P.bind.imp fun x z1 x1 s1 P1 v rv => ⟨z1, e, rfl, s1, he.mono x1, P1.bind.imp fun y z2 x2 s2 P2 u ru => ?_⟩⟩
    obtain ⟨t, e1, P3⟩ := P2.bind.opt s2
    refine ⟨z2, x, y, .bl t, rfl, s2, rv.mono x2, ru, (congrArg (Option.map D.bl) e1), fun w z3 h1 h2 h3 h4 => ⟨t, h4.bl_inv, ?_⟩⟩
    have he2 := (he.mono x1).mono x2
    cases t with
    | false =>
      rw [if_neg Bool.false_ne_true] at P3 ⊢
      exact P3 z3 h1 h2 h3 _ .bl_
    | true =>
      rw [if_pos rfl] at P3 ⊢
      rw [← h1] at P3
      refine ⟨z3, e, rfl, h3, he2.mono h2, (Post.rebase h2 P3).bind.imp fun w' z4 x4 s4 P4 u' ru' => ?_⟩
      cases e2 : g' y w' with
      | none => rw [e2] at P4; exact P4.elim
      | some b =>
        rw [e2] at P4
        exact ⟨z4, y, w', .bl b, rfl, s4, (ru.mono h2).mono x4, ru', (congrArg (Option.map D.bl) e2), fun w2 z5 k1 k2 k3 k4 => P4 z5 k1 k2 k3 w2 k4⟩
theorem s_chnT {op op' : CmpOp} {g g' : D → D → Option Bool} (ho : OpR X (compareOp op) (rD X fun x y => (g x y).map .bl)) (ho' : OpR X (compareOp op') (rD X fun x y => (g' x y).map .bl))
    (ha : PE X pa (tE X W fa)) (hb : PE X pb (tE X W fb)) (hc : PE X pc (tE X W fc)) (hm : lastMarks [op, op'] [pb, pc] = false) :
    PT X (.Compare pa [op, op'] [pb, pc] pos) (tT X W fun e S => (fa e S).bind fun x S => (fb e S).bind fun y S => (optR (g x y) S).bind fun t S =>
      if t then (fc e S).bind fun w S => optR (g' y w) S else .ok false S) :=
  PT_imp (pt_chain ho ho' ha hb hc hm) fun σ H Q h => by
    obtain ⟨z, e, rfl, hs, he, P⟩ := h
    refine ⟨z, e, rfl, hs, he, P.bind.imp fun x z1 x1 s1 P1 v rv => ⟨z1, e, rfl, s1, he.mono x1, P1.bind.imp fun y z2 x2 s2 P2 u ru => ?_⟩⟩
    obtain ⟨t, e1, P3⟩ := P2.bind.opt s2
    refine ⟨z2, x, y, .bl t, rfl, s2, rv.mono x2, ru, (congrArg (Option.map D.bl) e1), fun w z3 h1 h2 h3 h4 => ⟨t, h4.bl_inv, ?_⟩⟩
    have he2 := (he.mono x1).mono x2
    cases t with
    | false =>
      rw [if_neg Bool.false_ne_true] at P3 ⊢
      exact ⟨false, rfl, P3 z3 h1 h2 h3⟩
    | true =>
      rw [if_pos rfl] at P3 ⊢
      rw [← h1] at P3
      refine ⟨z3, e, rfl, h3, he2.mono h2, (Post.rebase h2 P3).bind.imp fun w' z4 x4 s4 P4 u' ru' => ?_⟩
      cases e2 : g' y w' with
      | none => rw [e2] at P4; exact P4.elim
      | some b =>
        rw [e2] at P4
        exact ⟨z4, y, w', .bl b, rfl, s4, (ru.mono h2).mono x4, ru', (congrArg (Option.map D.bl) e2), fun w2 z5 k1 k2 k3 k4 => ⟨b, k4.bl_inv, P4 z5 k1 k2 k3⟩⟩
/-! ### names, constants -/
theorem s_var {i : Nat} {x : Str} (hN : X.N[i]? = some x) (hv : Vis X.env.scope x) (hd : (x == ("__debug__" : Str)) = false) (hcd : (x == ("__classdict__" : Str)) = false) :
    PE X (.Name x pos) (tE X W fun e S => match e[i]? with | some (some d) => .ok d S | _ => .bad) :=
  PE_imp (pe_var hN hv hd hcd) fun σ H Q h => by
    obtain ⟨z, e, rfl, hs, he, P⟩ := h
    cases q : e[i]? with
    | none => simp only [q] at P; exact P.elim
    | some o =>
      cases o with
      | none => simp only [q] at P; exact P.elim
      | some d =>
        simp only [q] at P
        obtain ⟨v, h1, h2⟩ := he.at_ i d q
        exact ⟨v, h1, Post.val P hs v h2⟩
theorem s_const {d : D} {t : TE} (h : PE X pa t) (r : ∀ σ H Q, (∃ v, (∀ z, Rep X.K z d v) ∧ Q v H) → t σ H Q) (hr : ∃ v, ∀ z, Rep X.K z d v) : PE X pa (tE X W fun _ S => .ok d S) :=
  PE_imp h fun σ H Q hh => by
    obtain ⟨z, e, rfl, hs, he, P⟩ := hh
    obtain ⟨v, hv⟩ := hr
    exact r σ z.H Q ⟨v, hv, Post.val P hs v (hv z)⟩
theorem s_int {i : Int} {j : Nat} : PE X (.Constant (.int i) j pos) (tE X W fun _ S => .ok (.int i) S) := by
  refine s_const pe_int (fun σ H Q h => ?_) ⟨.int i, fun _ => .int_⟩
  obtain ⟨v, hv, q⟩ := h
  have e := (hv ⟨[], [], [], H⟩).int_inv
  subst e; exact q
theorem s_bl {i : Bool} {j : Nat} : PE X (.Constant (.bool i) j pos) (tE X W fun _ S => .ok (.bl i) S) := by
  refine s_const pe_bl (fun σ H Q h => ?_) ⟨.bl i, fun _ => .bl_⟩
  obtain ⟨v, hv, q⟩ := h
  have e := (hv ⟨[], [], [], H⟩).bl_inv
  subst e; exact q
theorem s_str {i : Str} {j : Nat} : PE X (.Constant (.str i) j pos) (tE X W fun _ S => .ok (.str i) S) := by
  refine s_const pe_str (fun σ H Q h => ?_) ⟨.str i, fun _ => .str_⟩
  obtain ⟨v, hv, q⟩ := h
  have e := (hv ⟨[], [], [], H⟩).str_inv
  subst e; exact q
theorem s_non {j : Nat} : PE X (.Constant .none j pos) (tE X W fun _ S => .ok .non S) := by
  refine s_const pe_non (fun σ H Q h => ?_) ⟨.non, fun _ => .non_⟩
  obtain ⟨v, hv, q⟩ := h
  have e := (hv ⟨[], [], [], H⟩).non_inv
  subst e; exact q
theorem s_glo {x : Str} {d : D} {v : V} {u : Value} (hg : Gl X x) (hm : X.mg x = some u) (r : RelV v u) (hr : ∀ z, Rep X.K z d v) (hd : (x == ("__debug__" : Str)) = false) : PE X (.Name x pos) (tE X W fun _ S => .ok d S) :=
  PE_imp (pe_glob hg hm r hd) fun σ H Q hh => by
    obtain ⟨z, e, rfl, hs, he, P⟩ := hh
    exact Post.val P hs v (hr z)
theorem s_neg (ha : PE X pa (tE X W fa)) : PE X (.UnaryOp .USub pa pos) (tE X W fun e S => (fa e S).bind fun x S => match x with | .int i => .ok (.int (-i)) S | _ => .bad) :=
  PE_imp (pe_un un_neg ha) fun σ H Q h => by
    obtain ⟨z, e, rfl, hs, he, P⟩ := h
    refine ⟨z, e, rfl, hs, he, P.bind.imp fun x z1 x1 s1 P1 v rv => ?_⟩
    cases x with
    | int i => exact ⟨i, rv.int_inv, Post.val P1 s1 _ .int_⟩
    | _ => exact P1.elim
/-! ### truth -/
theorem truth_ok {z : Zw} {x : D} {v : V} {b : Bool} (s : StOk X.K z) (r : Rep X.K z x v) (h : truth z.S x = some b) : TruV X.K v z.H b := by
  cases x with
  | non => rw [r.non_inv]; exact (Option.some.inj h).symm
  | bl c => rw [r.bl_inv]; exact (Option.some.inj h).symm
  | int c => rw [r.int_inv]; exact (Option.some.inj h).symm
  | tup ds =>
    obtain ⟨a, xs, rfl, h1, _, h3⟩ := r.tup_inv
    refine .inr (.inl ⟨xs, h1, ?_⟩)
    rw [← Option.some.inj h]
    have := h3.length
    cases ds <;> cases xs <;> simp_all
  | lst ds =>
    obtain ⟨a, xs, rfl, h1, _, h3⟩ := r.lst_inv
    refine .inl ⟨xs, .of h1, ?_⟩
    rw [← Option.some.inj h]
    have := h3.length
    cases ds <;> cases xs <;> simp_all
  | str c => cases h
  | rol ds => cases h
  | obj r => cases h
  | edic => cases h
  | ftup ds => cases h
  | exc _ _ _ _ => cases h
  | clo _ _ _ _ => cases h
theorem s_nt (ha : PE X pa (tE X W fa)) : PE X (.UnaryOp .Not pa pos) (tE X W fun e S => (fa e S).bind fun x S => optR ((truth S x).map fun b => .bl (!b)) S) :=
  PE_imp (pe_notT ha) fun σ H Q h => by
    obtain ⟨z, e, rfl, hs, he, P⟩ := h
    refine ⟨z, e, rfl, hs, he, P.bind.imp fun x z1 x1 s1 P1 v rv => ?_⟩
    cases q : truth z1.S x with
    | none => rw [q] at P1; exact P1.elim
    | some b =>
      rw [q] at P1
      exact ⟨b, truth_ok s1 rv q, Post.val P1 s1 _ .bl_⟩
theorem s_and {rest : List Expr} (ha : PE X pa (tE X W fa)) (hb : PE X (.BoolOp .And (pb :: rest) pos) (tE X W fb)) :
    PE X (.BoolOp .And (pa :: pb :: rest) pos) (tE X W fun e S => (fa e S).bind fun x S => (optR (truth S x) S).bind fun t S => if t then fb e S else .ok x S) :=
  PE_imp (pe_andT ha hb) fun σ H Q h => by
    obtain ⟨z, e, rfl, hs, he, P⟩ := h
    refine ⟨z, e, rfl, hs, he, P.bind.imp fun x z1 x1 s1 P1 v rv => ?_⟩
    obtain ⟨t, e1, P2⟩ := P1.bind.opt s1
    refine ⟨t, truth_ok s1 rv e1, ?_⟩
    cases t with
    | false => rw [if_neg Bool.false_ne_true] at P2 ⊢; exact Post.val P2 s1 _ rv
    | true => rw [if_pos rfl] at P2 ⊢; exact ⟨z1, e, rfl, s1, he.mono x1, P2⟩
theorem s_or {rest : List Expr} (ha : PE X pa (tE X W fa)) (hb : PE X (.BoolOp .Or (pb :: rest) pos) (tE X W fb)) :
    PE X (.BoolOp .Or (pa :: pb :: rest) pos) (tE X W fun e S => (fa e S).bind fun x S => (optR (truth S x) S).bind fun t S => if t then .ok x S else fb e S) :=
  PE_imp (pe_orT ha hb) fun σ H Q h => by
    obtain ⟨z, e, rfl, hs, he, P⟩ := h
    refine ⟨z, e, rfl, hs, he, P.bind.imp fun x z1 x1 s1 P1 v rv => ?_⟩
    obtain ⟨t, e1, P2⟩ := P1.bind.opt s1
    refine ⟨t, truth_ok s1 rv e1, ?_⟩
    cases t with
    | false => rw [if_neg Bool.false_ne_true] at P2 ⊢; exact ⟨z1, e, rfl, s1, he.mono x1, P2⟩
    | true => rw [if_pos rfl] at P2 ⊢; exact Post.val P2 s1 _ rv
/-! ### tests -/
variable {ta tb tc : Env → Store → Rs Bool}
theorem s_tst (ha : PE X pa (tE X W fa)) (he : ∀ whole, PySem.isTrue pa X.env whole = (do let v ← whole; standAt pa.pos; holding [v] (truthy v))) :
    PT X pa (tT X W fun e S => (fa e S).bind fun d S => optR (truth S d) S) :=
  PT_imp (pt_truth ha he) fun σ H Q h => by
    obtain ⟨z, e, rfl, hs, he, P⟩ := h
    refine ⟨z, e, rfl, hs, he, P.bind.imp fun x z1 x1 s1 P1 v rv => ?_⟩
    obtain ⟨t, e1, q⟩ := P1.opt s1
    exact ⟨t, truth_ok s1 rv e1, q⟩
theorem s_ntT (ha : PT X pa (tT X W ta)) : PT X (.UnaryOp .Not pa pos) (tT X W fun e S => (ta e S).bind fun b S => .ok (!b) S) :=
  PT_imp (pt_not ha) fun σ H Q h => by
    obtain ⟨z, e, rfl, hs, he, P⟩ := h
    exact ⟨z, e, rfl, hs, he, P.bind.imp fun x z1 x1 s1 P1 => Post.val P1 s1⟩
theorem s_andT {rest : List Expr} (ha : PT X pa (tT X W ta)) (hb : PW X (.BoolOp .And (pb :: rest) pos) (tT X W tb)) :
    PW X (.BoolOp .And (pa :: pb :: rest) pos) (tT X W fun e S => (ta e S).bind fun t S => if t then tb e S else .ok false S) :=
  PW_imp (pw_and ha hb) fun σ H Q h => by
    obtain ⟨z, e, rfl, hs, he, P⟩ := h
    refine ⟨z, e, rfl, hs, he, P.bind.imp fun t z1 x1 s1 P2 => ?_⟩
    cases t with
    | false => rw [if_neg Bool.false_ne_true] at P2 ⊢; exact Post.val P2 s1
    | true => rw [if_pos rfl] at P2 ⊢; exact ⟨z1, e, rfl, s1, he.mono x1, P2⟩
theorem s_orT {rest : List Expr} (ha : PT X pa (tT X W ta)) (hb : PW X (.BoolOp .Or (pb :: rest) pos) (tT X W tb)) :
    PW X (.BoolOp .Or (pa :: pb :: rest) pos) (tT X W fun e S => (ta e S).bind fun t S => if t then .ok true S else tb e S) :=
  PW_imp (pw_or ha hb) fun σ H Q h => by
    obtain ⟨z, e, rfl, hs, he, P⟩ := h
    refine ⟨z, e, rfl, hs, he, P.bind.imp fun t z1 x1 s1 P2 => ?_⟩
    cases t with
    | false => rw [if_neg Bool.false_ne_true] at P2 ⊢; exact ⟨z1, e, rfl, s1, he.mono x1, P2⟩
    | true => rw [if_pos rfl] at P2 ⊢; exact Post.val P2 s1
theorem s_ife (hc : PT X pc (tT X W tc)) (ha : PE X pa (tE X W fa)) (hb : PE X pb (tE X W fb)) :
    PE X (.IfExp pc pa pb pos) (tE X W fun e S => (tc e S).bind fun t S => if t then fa e S else fb e S) :=
  PE_imp (pe_ifExp hc ha hb) fun σ H Q h => by
    obtain ⟨z, e, rfl, hs, he, P⟩ := h
    refine ⟨z, e, rfl, hs, he, P.bind.imp fun t z1 x1 s1 P2 => ?_⟩
    cases t with
    | false => rw [if_neg Bool.false_ne_true] at P2 ⊢; exact ⟨z1, e, rfl, s1, he.mono x1, P2⟩
    | true => rw [if_pos rfl] at P2 ⊢; exact ⟨z1, e, rfl, s1, he.mono x1, P2⟩
theorem pt_ifT {tcc tpa tpb : TT} (hc : PT X pc tcc) (ha : PT X pa tpa) (hb : PT X pb tpb) : PT X (.IfExp pc pa pb pos) (fun σ H Q => tcc σ H fun c H1 => if c = true then tpa σ H1 Q else tpb σ H1 Q) := by
  refine ⟨fun pins s σ H Q I h => ?_⟩
  have e : PySem.isTrue (.IfExp pc pa pb pos) X.env (eval (.IfExp pc pa pb pos) X.env) = (do if ← PySem.isTrue pc X.env (eval pc X.env) then PySem.isTrue pa X.env (eval pa X.env) else PySem.isTrue pb X.env (eval pb X.env)) := by rw [PySem.isTrue]
  rw [e]
  refine wpAny_bind (thn (hc.run pins s σ H _ I h) fun d s1 ⟨H1, I1, q1⟩ => ?_)
  cases d with
  | true => exact ha.run pins s1 σ H1 Q I1 q1
  | false => exact hb.run pins s1 σ H1 Q I1 q1
theorem s_ifeT (hc : PT X pc (tT X W tc)) (ha : PT X pa (tT X W ta)) (hb : PT X pb (tT X W tb)) :
    PT X (.IfExp pc pa pb pos) (tT X W fun e S => (tc e S).bind fun t S => if t then ta e S else tb e S) :=
  PT_imp (pt_ifT hc ha hb) fun σ H Q h => by
    obtain ⟨z, e, rfl, hs, he, P⟩ := h
    refine ⟨z, e, rfl, hs, he, P.bind.imp fun t z1 x1 s1 P2 => ?_⟩
    cases t with
    | false => rw [if_neg Bool.false_ne_true] at P2 ⊢; exact ⟨z1, e, rfl, s1, he.mono x1, P2⟩
    | true => rw [if_pos rfl] at P2 ⊢; exact ⟨z1, e, rfl, s1, he.mono x1, P2⟩
/-! ### lists of expressions, displays -/
variable {es : List Expr} {ga : Env → Store → Rs (List D)}
theorem s_nil : PA X [] (tA X W fun _ S => .ok [] S) :=
  PA_imp pa_nil fun σ H Q h => by
    obtain ⟨z, e, rfl, hs, he, P⟩ := h
    exact Post.val P hs [] .nil
theorem s_cons (ha : PE X pa (tE X W fa)) (hr : PA X es (tA X W ga)) (hst : starEach (pa :: es) X.env = (false, eval pa X.env) :: starEach es X.env) :
    PA X (pa :: es) (tA X W fun e S => (fa e S).bind fun d S => (ga e S).bind fun ds S => .ok (d :: ds) S) :=
  PA_imp (pa_cons ha hr hst) fun σ H Q h => by
    obtain ⟨z, e, rfl, hs, he, P⟩ := h
    refine ⟨z, e, rfl, hs, he, P.bind.imp fun d z1 x1 s1 P1 v rv => ⟨z1, e, rfl, s1, he.mono x1, P1.bind.imp fun ds z2 x2 s2 P2 vs rvs => ?_⟩⟩
    exact Post.val P2 s2 _ (.cons (rv.mono x2) rvs)
theorem s_star {p : Pos} (ha : PE X pa (tE X W fa)) (hr : PA X es (tA X W ga)) :
    PA X (.Starred pa p :: es) (tA X W fun e S => (fa e S).bind fun d S => match d with
      | .tup xs => (ga e S).bind fun ds S => .ok (xs ++ ds) S
      | .lst xs => (ga e S).bind fun ds S => .ok (xs ++ ds) S
      | .obj r => (match S[r]? with
        | some (.lst xs) => (ga e S).bind fun ds S => .ok (xs ++ ds) S
        | _ => .bad)
      | _ => .bad) :=
  PA_imp (StX.pa_star ha hr rfl) fun σ H Q h => by
    obtain ⟨z, e, rfl, hs, he, P⟩ := h
    refine ⟨z, e, rfl, hs, he, P.bind.imp fun d z1 x1 s1 P1 v rv => ?_⟩
    cases d with
    | tup xs =>
      obtain ⟨a, vs, rfl, h1, _, h3⟩ := rv.tup_inv
      exact ⟨a, vs, rfl, .inl h1, z1, e, rfl, s1, he.mono x1, P1.bind.imp fun ds z2 x2 s2 P2 ws rws => Post.val P2 s2 _ ((h3.mono x2).app rws)⟩
    | lst xs =>
      obtain ⟨a, vs, rfl, h1, _, h3⟩ := rv.lst_inv
      exact ⟨a, vs, rfl, .inr (.of h1), z1, e, rfl, s1, he.mono x1, P1.bind.imp fun ds z2 x2 s2 P2 ws rws => Post.val P2 s2 _ ((h3.mono x2).app rws)⟩
    | obj r =>
      have P1 : Post X.K X.mg W z1 (match z1.S[r]? with
        | some (.lst xs) => (ga e z1.S).bind fun ds S => .ok (xs ++ ds) S
        | _ => .bad) (fun d z1 => ∀ v, Reps X.K z1 d v → Q v z1.H) := P1
      cases q : z1.S[r]? with
      | none => rw [q] at P1; exact P1.elim
      | some mo =>
        rw [q] at P1
        cases mo with
        | lst xs =>
          have P1 : Post X.K X.mg W z1 ((ga e z1.S).bind fun ds S => .ok (xs ++ ds) S) (fun d z1 => ∀ v, Reps X.K z1 d v → Q v z1.H) := P1
          obtain ⟨a, vs, rfl, _, h1, _, h3⟩ := obj_inv s1 rv q
          exact ⟨a, vs, rfl, .inr (.of h1), z1, e, rfl, s1, he.mono x1, P1.bind.imp fun ds z2 x2 s2 P2 ws rws => Post.val P2 s2 _ ((h3.mono x2).app rws)⟩
        | _ => exact P1.elim
    | _ => exact P1.elim
theorem s_tup {k : Nat} (ha : PA X es (tA X W ga)) : PE X (.Tuple es k pos) (tE X W fun e S => (ga e S).bind fun ds S => if ds.length ≤ SZ then .ok (.tup ds) S else .bad) :=
  PE_imp (pe_tup ha) fun σ H Q h => by
    obtain ⟨z, e, rfl, hs, he, P⟩ := h
    refine ⟨z, e, rfl, hs, he, P.bind.imp fun ds z1 x1 s1 P1 vs rv => ?_⟩
    by_cases hl : ds.length ≤ SZ
    · rw [if_pos hl] at P1
      refine ⟨by rw [← rv.length]; exact sz_le.mp hl, fun p hp => ?_⟩
      obtain ⟨z2, e1, e2, e3, e4, e5⟩ := new_tup s1 hp hl rv
      rw [← e1]; exact P1 z2 e2 e3 e4 _ e5
    · rw [if_neg hl] at P1; exact P1.elim
theorem s_lst (ha : PA X es (tA X W ga)) : PE X (.List es pos) (tE X W fun e S => (ga e S).bind fun ds S => if ds.length ≤ SZ then .ok (.lst ds) S else .bad) :=
  PE_imp (pe_lst ha) fun σ H Q h => by
    obtain ⟨z, e, rfl, hs, he, P⟩ := h
    refine ⟨z, e, rfl, hs, he, P.bind.imp fun ds z1 x1 s1 P1 vs rv => ?_⟩
    by_cases hl : ds.length ≤ SZ
    · rw [if_pos hl] at P1
      refine ⟨by rw [← rv.length]; exact sz_le.mp hl, fun p hp => ?_⟩
      obtain ⟨z2, e1, e2, e3, e4, e5⟩ := new_lst s1 hp hl rv
      rw [← e1]; exact P1 z2 e2 e3 e4 _ e5
    · rw [if_neg hl] at P1; exact P1.elim
theorem obj_new {K : PySem.W.Frag} {z : Zw} {p : Addr} {ds : List D} {xs : List V} (s : StOk K z) (hp : z.H p = none) (hl : ds.length ≤ SZ) (r : Reps K z ds xs) :
    ∃ z1 : Zw, z1.H = upd z.H p (.lst xs) ∧ z1.S = z.S ++ [MO.lst ds] ∧ Ext z z1 ∧ StOk K z1 ∧ Rep K z1 (.obj z.S.length) (.ref p) := by
  obtain ⟨x, s1⟩ := new_ob s hp hl r
  refine ⟨_, rfl, rfl, x, s1, ?_⟩
  unfold Rep
  refine ⟨p, rfl, ?_⟩
  show (z.ρ ++ [p])[z.S.length]? = some p
  rw [← s.len]; simp
theorem s_mls (ha : PA X es (tA X W ga)) : PE X (.List es pos) (tE X W fun e S => (ga e S).bind fun ds S => if ds.length ≤ SZ then .ok (.obj S.length) (S ++ [MO.lst ds]) else .bad) :=
  PE_imp (pe_lst ha) fun σ H Q h => by
    obtain ⟨z, e, rfl, hs, he, P⟩ := h
    refine ⟨z, e, rfl, hs, he, P.bind.imp fun ds z1 x1 s1 P1 vs rv => ?_⟩
    by_cases hl : ds.length ≤ SZ
    · rw [if_pos hl] at P1
      refine ⟨by rw [← rv.length]; exact sz_le.mp hl, fun p hp => ?_⟩
      obtain ⟨z2, e1, e2, e3, e4, e5⟩ := obj_new s1 hp hl rv
      rw [← e1]; exact P1 z2 e2 e3 e4 _ e5
    · rw [if_neg hl] at P1; exact P1.elim
theorem s_dic : PE X (.Dict [] [] pos) (tE X W fun _ S => .ok .edic S) :=
  PE_imp pe_dnewK fun σ H Q h p hp => by
    obtain ⟨z, e, rfl, hs, he, P⟩ := h
    obtain ⟨x, s1, i⟩ := new_im hs (.dK []) hp
    refine P ⟨z.hd, z.ρ, z.S, upd z.H p (.dK [])⟩ rfl x s1 _ ?_
    unfold Rep
    exact ⟨p, rfl, i⟩
end
end PyI

set_option maxRecDepth 100000
namespace PyI
open PySem PySem.Spec PyProof.Rows L2
section
variable {X : Cx} {W : WX} {pa pb pc : Expr} {fa fb fc : Env → Store → Rs D} {pos : Pos}
/-! ## items, slices -/
theorem s_ix (ha : PE X pa (tE X W fa)) (hb : PE X pb (tE X W fb)) (hs : PlainIx pb) :
    PE X (.Subscript pa pb pos) (tE X W fun e S => (fa e S).bind fun x S => (fb e S).bind fun y S => match x with
    | .obj r => match S[r]?, y with
      | some (.lst ds), .int i => optR (atI ds i) S
      | _, _ => .bad
    | _ => optR (ixop x y) S) :=
  PE_imp (pe_ix ix_seq ha hb hs) fun σ H Q h => two_step h fun z x y v u s rv ru P => by
    cases x with
    | obj r =>
      cases e : z.S[r]? with
      | none => simp only [e] at P; exact P.elim
      | some mo =>
        cases mo with
        | lst ds =>
          cases y with
          | int i =>
            simp only [e] at P
            obtain ⟨d, e1, q⟩ := P.opt s
            obtain ⟨a, xs, rfl, _, h1, _, h3⟩ := obj_inv s rv e
            obtain ⟨w, h4, h5⟩ := h3.atI e1
            exact .inl ⟨a, xs, i, w, rfl, ru.int_inv, .of h1, h4, q w h5⟩
          | _ => simp only [e] at P; exact P.elim
        | _ => simp only [e] at P; exact P.elim
    | tup ds =>
      obtain ⟨d, e1, q⟩ := P.opt s
      cases y with
      | int i =>
        obtain ⟨a, xs, rfl, h1, _, h3⟩ := rv.tup_inv
        obtain ⟨w, h4, h5⟩ := h3.atI e1
        exact .inr (.inl ⟨a, xs, i, w, rfl, ru.int_inv, h1, h4, q w h5⟩)
      | _ => cases e1
    | lst ds =>
      obtain ⟨d, e1, q⟩ := P.opt s
      cases y with
      | int i =>
        obtain ⟨a, xs, rfl, h1, _, h3⟩ := rv.lst_inv
        obtain ⟨w, h4, h5⟩ := h3.atI e1
        exact .inl ⟨a, xs, i, w, rfl, ru.int_inv, .of h1, h4, q w h5⟩
      | _ => cases e1
    | str t =>
      obtain ⟨d, e1, q⟩ := P.opt s
      cases y with
      | int i =>
        simp only [ixop] at e1
        split at e1
        · rename_i hz
          obtain ⟨c, e2, rfl⟩ := Option.map_eq_some_iff.mp e1
          exact .inr (.inr ⟨t, i, c, rv.str_inv, ru.int_inv, sz_le.mp hz, e2, q _ .str_⟩)
        · cases e1
      | _ => cases e1
    | _ => obtain ⟨d, e1, q⟩ := P.opt s; cases y <;> cases e1
variable {po ph : Option Expr} {ol oh : Env → Store → Rs (Option Int)}
theorem s_no : PO X none (tO X W fun _ S => .ok none S) :=
  PO_imp po_none fun σ H Q h => by
    obtain ⟨z, e, rfl, hs, he, P⟩ := h
    exact Post.val P hs
theorem s_so (ha : PE X pa (tE X W fa)) : PO X (some pa) (tO X W fun e S => (fa e S).bind fun d S => match d with | .int i => .ok (some i) S | _ => .bad) :=
  PO_imp (po_some ha) fun σ H Q h => by
    obtain ⟨z, e, rfl, hs, he, P⟩ := h
    refine ⟨z, e, rfl, hs, he, P.bind.imp fun d z1 x1 s1 P1 v rv => ?_⟩
    cases d with
    | int i => exact ⟨i, rv.int_inv, Post.val P1 s1⟩
    | _ => exact P1.elim
theorem s_sl {p2 : Pos} (ha : PE X pa (tE X W fa)) (hl : PO X po (tO X W ol)) (hh : PO X ph (tO X W oh)) :
    PE X (.Subscript pa (.Slice po ph none p2) pos) (tE X W fun e S => (fa e S).bind fun x S => (ol e S).bind fun l S => (oh e S).bind fun h S => match x with
    | .obj r => match S[r]? with
      | some (.lst ds) => .ok (.lst (cut ds l h)) S
      | _ => .bad
    | _ => optR (slop x l h) S) :=
  PE_imp (pe_slice (SlR.or sl_list (SlR.or sl_tupA sl_str)) ha hl hh) fun σ H Q h => by
    obtain ⟨z, e, rfl, hs, he, P⟩ := h
    refine ⟨z, e, rfl, hs, he, P.bind.imp fun x z1 x1 s1 P1 v rv => ⟨z1, e, rfl, s1, he.mono x1, P1.bind.imp fun l z2 x2 s2 P2 => ⟨z2, e, rfl, s2, (he.mono x1).mono x2, P2.bind.imp fun h z3 x3 s3 P3 => ?_⟩⟩⟩
    have rv := (rv.mono x2).mono x3
    have cl : ∀ ds : List D, (cut ds l h).length ≤ ds.length := fun ds => by
      unfold cut
      rw [List.length_take, List.length_drop]; omega
    cases x with
    | obj r =>
      cases e1 : z3.S[r]? with
      | none => simp only [e1] at P3; exact P3.elim
      | some mo =>
        cases mo with
        | lst ds =>
          simp only [e1] at P3
          obtain ⟨a, xs, rfl, _, h1, h2, h3⟩ := obj_inv s3 rv e1
          refine .inl ⟨a, xs, rfl, .of h1, fun p hp => ?_⟩
          obtain ⟨z4, e4, e5, e6, e7, e8⟩ := new_lst s3 hp (Nat.le_trans (cl ds) h2) (h3.cut l h)
          rw [← e4]; exact P3 z4 e5 e6 e7 _ e8
        | _ => simp only [e1] at P3; exact P3.elim
    | lst ds =>
      obtain ⟨d, e1, q⟩ := P3.opt s3
      cases e1
      obtain ⟨a, xs, rfl, h1, h2, h3⟩ := rv.lst_inv
      refine .inl ⟨a, xs, rfl, .of h1, fun p hp => ?_⟩
      obtain ⟨z4, e4, e5, e6, e7, e8⟩ := new_lst s3 hp (Nat.le_trans (cl ds) h2) (h3.cut l h)
      rw [← e4]; exact P3 z4 e5 e6 e7 _ e8
    | rol ds =>
      obtain ⟨d, e1, q⟩ := P3.opt s3
      cases e1
      obtain ⟨a, xs, rfl, h1, h2, h3⟩ := rv.rol_inv
      refine .inl ⟨a, xs, rfl, h1, fun p hp => ?_⟩
      obtain ⟨z4, e4, e5, e6, e7, e8⟩ := new_lst s3 hp (Nat.le_trans (cl ds) h2) (h3.cut l h)
      rw [← e4]; exact P3 z4 e5 e6 e7 _ e8
    | tup ds =>
      obtain ⟨d, e1, q⟩ := P3.opt s3
      cases e1
      have rv0 := rv
      obtain ⟨a, xs, rfl, h1, h2, h3⟩ := rv.tup_inv
      refine .inr (.inl ⟨a, xs, rfl, h1, fun hw => ?_, fun _ p hp => ?_⟩)
      · have e9 : cut ds l h = ds := by
          unfold cut
          rw [h3.length, hw.1, hw.2]
          simp [← h3.length]
        rw [e9] at q; exact q _ rv0
      · obtain ⟨z4, e4, e5, e6, e7, e8⟩ := new_tup s3 hp (Nat.le_trans (cl ds) h2) (h3.cut l h)
        rw [← e4]; exact P3 z4 e5 e6 e7 _ e8
    | str t =>
      obtain ⟨d, e1, q⟩ := P3.opt s3
      have hz : t.length ≤ SZ := by
        by_cases hz : t.length ≤ SZ
        · exact hz
        · simp only [slop, if_neg hz] at e1; cases e1
      simp only [slop, if_pos hz] at e1
      cases e1
      exact .inr (.inr ⟨t, rv.str_inv, sz_le.mp hz, q _ .str_⟩)
    | _ => obtain ⟨d, e1, q⟩ := P3.opt s3; cases e1
/-! ## isinstance -/
def tyN : Ty → String
  | .int => "int" | .bool => "bool" | .str => "str" | .tuple => "tuple" | .list => "list" | .dict => "dict"
/-- the type of a value by its data -/
def dTy (S : Store) : D → Option String
  | .non => some "NoneType"
  | .bl _ => some "bool"
  | .int _ => some "int"
  | .str _ => some "str"
  | .tup _ => some "tuple"
  | .lst _ => some "list"
  | .edic => some "dict"
  | .exc _ _ _ _ => none
  | .clo _ _ _ _ => none
  | .ftup _ => none
  | .obj r => match S[r]? with
    | some (.lst _) => some "list"
    | _ => none
  | .rol _ => none
theorem kit_all : ∀ t : Ty, kitB "NoneType" (tyN t) = some false ∧ kitB "bool" (tyN t) = some (t == .int || t == .bool) ∧ kitB "int" (tyN t) = some (t == .int) ∧ kitB "str" (tyN t) = some (t == .str) ∧
    kitB "tuple" (tyN t) = some (t == .tuple) ∧ kitB "list" (tyN t) = some (t == .list) ∧ kitB "dict" (tyN t) = some (t == .dict) := by
  intro t
  cases t <;> refine ⟨?_, ?_, ?_, ?_, ?_, ?_, ?_⟩ <;> decide +kernel
theorem isTy_ok {z : Zw} {x : D} {v : V} (s : StOk X.K z) (r : Rep X.K z x v) {n : String} (h : dTy z.S x = some n) : TyX X.K z.H v (.type n) := by
  cases x with
  | non => cases h; rw [r.non_inv]; exact .base .non
  | bl b => cases h; rw [r.bl_inv]; exact .base (.bl b)
  | int b => cases h; rw [r.int_inv]; exact .base (.int b)
  | str b => cases h; rw [r.str_inv]; exact .base (.str b)
  | tup ds =>
    cases h
    unfold Rep at r
    obtain ⟨a, xs, rfl, h1, _⟩ := r
    rcases h1 with (h1 | ⟨q, h1⟩) | h1
    · exact .base (.tup h1.1)
    · exact .fTuple h1.1
    · rcases h1 with (h1 | ⟨o, h1⟩) | ⟨o, its, n, h1, h2, _⟩
      · cases h1
      · cases h1
      · exact .kTuple h1 h2
  | lst ds => cases h; obtain ⟨a, xs, rfl, h1, _⟩ := r.lst_inv; exact .base (.lst h1)
  | rol ds => cases h
  | exc _ _ _ _ => cases h
  | clo _ _ _ _ => cases h
  | ftup _ => cases h
  | edic =>
    cases h
    unfold Rep at r
    obtain ⟨a, rfl, h1⟩ := r
    exact .base (.dK h1.1)
  | obj r' =>
    simp only [dTy] at h
    split at h
    · rename_i ds e
      cases h
      obtain ⟨a, xs, rfl, _, h1, _⟩ := obj_inv s r e
      exact .base (.lst h1)
    · cases h
theorem isTy_kit {S : Store} {x : D} {n : String} (h : dTy S x = some n) (t : Ty) {b : Bool} (hb : isTy S x t = some b) : kitB n (tyN t) = some b := by
  obtain ⟨k1, k2, k3, k4, k5, k6, k7⟩ := kit_all t
  cases x <;> simp only [dTy] at h <;> simp only [isTy] at hb <;> first
    | (cases h; cases hb; assumption)
    | (split at h <;> first | (cases h; rename_i e; simp only [e] at hb; cases hb; assumption) | cases h)
    | (cases h)
theorem isTy_some {S : Store} {x : D} {t : Ty} {b : Bool} (hb : isTy S x t = some b) : ∃ n, dTy S x = some n := by
  cases x <;> simp only [isTy] at hb <;> first
    | exact ⟨_, rfl⟩
    | (split at hb <;> first | cases hb; done | (rename_i e; exact ⟨"list", by simp only [dTy, e]⟩))
    | cases hb
theorem isTys_kit {K : PySem.W.Frag} {S : Store} {x : D} {n : String} (h : dTy S x = some n) : ∀ (ts : List Ty) {b : Bool}, isTys S x ts = some b → PySem.W.kitAny K (.type n) (ts.map fun t => Value.type (tyN t)) = some b
  | [], b, e => by cases e; exact kitAny_nil
  | t :: ts, b, e => by
    simp only [isTys] at e
    cases q : isTy S x t with
    | none => rw [q] at e; cases e
    | some c =>
      rw [q] at e
      have k := isTy_kit h t q
      cases c with
      | true => cases e; exact kitAny_cons (kit_ty k) (fun z => by cases z) fun _ => rfl
      | false => exact kitAny_cons (kit_ty k) (fun _ => isTys_kit h ts e) fun z => by cases z
theorem isTys_some {S : Store} {x : D} : ∀ (ts : List Ty) {b : Bool}, isTys S x ts = some b → ts ≠ [] → ∃ n, dTy S x = some n
  | [], _, _, h => absurd rfl h
  | t :: ts, b, e, _ => by
    simp only [isTys] at e
    cases q : isTy S x t with
    | none => rw [q] at e; cases e
    | some c => exact isTy_some q
theorem s_isi {p : Pos} {x : Str} {px : Pos} (t : Ty) (ha : PE X pa (tE X W fa)) (hg : Gl X "isinstance") (hm : X.mg "isinstance" = none) (hst : starEach (pa :: [Expr.Name x px]) X.env = (false, eval pa X.env) :: starEach [Expr.Name x px] X.env)
    (hx : Gl X x) (hmx : X.mg x = none) (hv : bootBuiltins x = some (.type (tyN t))) (hn : x ≠ "__name__") (hd : (x == ("__debug__" : Str)) = false) :
    PE X (.Call (.Name "isinstance" p) [pa, .Name x px] [] pos) (tE X W fun e S => (fa e S).bind fun x S => optR ((isTys S x [t]).map .bl) S) :=
  PE_imp (pe_callB call_isi hg hm boot_isinstance (pa_cons ha (pa_cons (pe_bltn (v := .ty (tyN t)) hx hmx hv rfl hn hd) pa_nil) hst) (he := hst)) fun σ H Q h => by
    obtain ⟨z, e, rfl, hs, he, P⟩ := h
    refine ⟨z, e, rfl, hs, he, P.bind.imp fun x z1 x1 s1 P1 v rv => ?_⟩
    obtain ⟨d, e1, q⟩ := P1.opt s1
    obtain ⟨b, e2, rfl⟩ := Option.map_eq_some_iff.mp e1
    obtain ⟨n, hn⟩ := isTys_some [t] e2 (by simp)
    have hb : isTy z1.S x t = some b := by
      simp only [isTys] at e2
      cases q : isTy z1.S x t with
      | none => rw [q] at e2; cases e2
      | some c => rw [q] at e2; cases c <;> exact e2
    exact ⟨v, .ty (tyN t), .type n, .type (tyN t), b, rfl, .ty _, isTy_ok s1 rv hn, kit_ty (isTy_kit hn t hb), q _ .bl_⟩
/-- several built-in types, as a tuple that is written there -/
theorem pa_tys (ts : List Ty) : ∀ {es : List Expr}, es.length = ts.length → (∀ (i : Nat) (e : Expr) (t : Ty), es[i]? = some e → ts[i]? = some t → ∃ (x : Str) (px : Pos), e = Expr.Name x px ∧ Gl X x ∧ X.mg x = none ∧ bootBuiltins x = some (.type (tyN t)) ∧ x ≠ "__name__" ∧ (x == ("__debug__" : Str)) = false) →
    PA X es (fun σ H Q => Q (ts.map fun t => V.ty (tyN t)) H) := by
  induction ts with
  | nil =>
    intro es hl h
    cases es with
    | nil => exact PA_imp pa_nil fun _ _ _ h => h
    | cons e r => cases hl
  | cons t ts ih =>
    intro es hl h
    cases es with
    | nil => cases hl
    | cons e r =>
      obtain ⟨x, px, rfl, h1, h2, h3, h4, h5⟩ := h 0 e t rfl rfl
      exact PA_imp (pa_cons (pe_bltn (v := .ty (tyN t)) h1 h2 h3 rfl h4 h5) (ih (Nat.succ.inj hl) fun i e t a b => h (i + 1) e t a b)) fun _ _ _ h => h
theorem s_isis {p : Pos} {es : List Expr} {k : Nat} {px : Pos} (ts : List Ty) (ha : PE X pa (tE X W fa)) (hg : Gl X "isinstance") (hm : X.mg "isinstance" = none) (hst : starEach (pa :: [Expr.Tuple es k px]) X.env = (false, eval pa X.env) :: starEach [Expr.Tuple es k px] X.env)
    (hl : es.length = ts.length) (h0 : ts ≠ []) (h9 : ts.length ≤ 100) (he : ∀ (i : Nat) (e : Expr) (t : Ty), es[i]? = some e → ts[i]? = some t → ∃ (x : Str) (px : Pos), e = Expr.Name x px ∧ Gl X x ∧ X.mg x = none ∧ bootBuiltins x = some (.type (tyN t)) ∧ x ≠ "__name__" ∧ (x == ("__debug__" : Str)) = false) :
    PE X (.Call (.Name "isinstance" p) [pa, .Tuple es k px] [] pos) (tE X W fun e S => (fa e S).bind fun x S => optR ((isTys S x ts).map .bl) S) :=
  PE_imp (pe_callB call_isiT hg hm boot_isinstance (pa_cons ha (pa_cons (pe_tup (pa_tys ts hl he)) pa_nil) hst) (he := hst)) fun σ H Q h => by
    obtain ⟨z, e, rfl, hs, he, P⟩ := h
    refine ⟨z, e, rfl, hs, he, P.bind.imp fun x z1 x1 s1 P1 v rv => ?_⟩
    obtain ⟨d, e1, q⟩ := P1.opt s1
    obtain ⟨b, e2, rfl⟩ := Option.map_eq_some_iff.mp e1
    obtain ⟨n, hn⟩ := isTys_some ts e2 h0
    refine ⟨by rw [List.length_map, sizeLine_eq]; omega, fun p' hp => ?_⟩
    obtain ⟨xx, ss, ii⟩ := new_im s1 (.tup (ts.map fun t => V.ty (tyN t))) hp
    have cls : ∀ ts : List Ty, Paired ClsV (ts.map fun t => V.ty (tyN t)) (ts.map fun t => Value.type (tyN t)) := fun ts => by
      induction ts with
      | nil => exact .nil
      | cons t ts ih => exact .cons (.ty _) ih
    refine ⟨v, p', _, .type n, _, b, rfl, upd_same, cls ts, ?_, isTys_kit hn ts e2, ?_⟩
    · exact isTy_ok (z := ⟨z1.hd, z1.ρ, z1.S, upd z1.H p' (.tup (ts.map fun t => V.ty (tyN t)))⟩) ss (rv.mono xx) hn
    · rw [e2] at P1
      exact P1 ⟨z1.hd, z1.ρ, z1.S, upd z1.H p' (.tup (ts.map fun t => V.ty (tyN t)))⟩ rfl xx ss _ .bl_
end
end PyI

set_option maxRecDepth 100000
namespace PyI
open PySem PySem.Spec PyProof.Rows L2
/-! ## built-ins -/
def biName : Bi → Str
  | .len => "len" | .tuple => "tuple" | .list => "list" | .all => "all" | .any => "any" | .sum => "sum" | .min => "min" | .max => "max" | .abs => "abs" | .int => "int" | .sorted => "sorted" | .zipl => "zip"
def biVal : Bi → Value
  | .len => .builtin "len" | .tuple => .type "tuple" | .list => .type "list" | .all => .builtin "all" | .any => .builtin "any" | .sum => .builtin "sum" | .min => .builtin "min" | .max => .builtin "max" | .abs => .builtin "abs" | .int => .type "int"
  | .sorted => .builtin "sorted" | .zipl => .type "zip"
theorem bi_boot : ∀ b : Bi, bootBuiltins (biName b) = some (biVal b) := by
  intro b; cases b <;> decide +kernel
def rB (X : Cx) (b : Bi) : List V → Hp → VK → Prop := fun vs H Q => ∃ z ds d, z.H = H ∧ StOk X.K z ∧ Reps X.K z ds vs ∧ biop z.S b ds = some d ∧ ∀ w z1, z1.S = z.S → Ext z z1 → StOk X.K z1 → Rep X.K z1 d w → Q w z1.H
section
variable {K : PySem.W.Frag} {z : Zw}
theorem Reps.one_inv {d : D} {vs : List V} (h : Reps K z [d] vs) : ∃ v, vs = [v] ∧ Rep K z d v := by
  obtain ⟨v, r, rfl, h1, h2⟩ := h.cons_inv
  rw [h2.nil_inv]; exact ⟨v, rfl, h1⟩
theorem Reps.two_inv {d e : D} {vs : List V} (h : Reps K z [d, e] vs) : ∃ v u, vs = [v, u] ∧ Rep K z d v ∧ Rep K z e u := by
  obtain ⟨v, r, rfl, h1, h2⟩ := h.cons_inv
  obtain ⟨u, rfl, h3⟩ := h2.one_inv
  exact ⟨v, u, rfl, h1, h3⟩
/-- what can be read as a list -/
theorem asLst_ok (s : StOk K z) {x : D} {v : V} {ds : List D} (r : Rep K z x v) (h : asLst z.S x = some ds) : ∃ a xs, v = .ref a ∧ ds.length ≤ SZ ∧ Reps K z ds xs ∧ (SqL K z.H a xs ∨ (SqT K z.H a xs ∧ x = .tup ds)) := by
  cases x with
  | tup es => cases h; obtain ⟨a, xs, e, h1, h2, h3⟩ := r.tup_inv; exact ⟨a, xs, e, h2, h3, .inr ⟨h1, rfl⟩⟩
  | lst es => cases h; obtain ⟨a, xs, e, h1, h2, h3⟩ := r.lst_inv; exact ⟨a, xs, e, h2, h3, .inl (.of h1)⟩
  | rol es => cases h; obtain ⟨a, xs, e, h1, h2, h3⟩ := r.rol_inv; exact ⟨a, xs, e, h2, h3, .inl h1⟩
  | obj i =>
    simp only [asLst] at h
    split at h
    · rename_i es e
      cases h
      obtain ⟨a, xs, e1, _, h1, h2, h3⟩ := obj_inv s r e
      exact ⟨a, xs, e1, h2, h3, .inl (.of h1)⟩
    · cases h
  | _ => cases h
theorem intsOf_ok : ∀ {ds : List D} {vs : List V} {ns : List Int}, Reps K z ds vs → intsOf ds = some ns → vs = ns.map V.int
  | [], _, _, h, e => by cases e; rw [h.nil_inv]; rfl
  | d :: ds, _, _, h, e => by
    obtain ⟨v, r, rfl, h1, h2⟩ := h.cons_inv
    cases d with
    | int i =>
      obtain ⟨ms, e1, rfl⟩ := Option.map_eq_some_iff.mp (show (intsOf ds).map (i :: ·) = some _ from e)
      rw [h1.int_inv, intsOf_ok h2 e1]; rfl
    | _ => cases e
theorem blsOf_ok : ∀ {ds : List D} {vs : List V} {ns : List Bool}, Reps K z ds vs → blsOf ds = some ns → vs = ns.map V.bl
  | [], _, _, h, e => by cases e; rw [h.nil_inv]; rfl
  | d :: ds, _, _, h, e => by
    obtain ⟨v, r, rfl, h1, h2⟩ := h.cons_inv
    cases d with
    | bl i =>
      obtain ⟨ms, e1, rfl⟩ := Option.map_eq_some_iff.mp (show (blsOf ds).map (i :: ·) = some _ from e)
      rw [h1.bl_inv, blsOf_ok h2 e1]; rfl
    | _ => cases e
end
/-- those that want that nothing is handled -/
def biCalm : Bi → Bool
  | .all => true | .any => true | .sum => true | .min => true | .max => true | _ => false
section
variable {X : Cx}
theorem bi_ok (b : Bi) (hc : biCalm b = true → X.calm = true) : CallR X (biVal b) (rB X b) := by
  intro pins s σ H vs us Q I rv h
  obtain ⟨z, ds, d, rfl, hs, hr, hb, q⟩ := h
  have q0 : ∀ w, Rep X.K z d w → Q w z.H := fun w r => q w z rfl (Ext.refl z) hs r
  unfold biop at hb
  split at hb
  · split at hb
    · rename_i x hz
      cases hb
      obtain ⟨v, rfl, h1⟩ := hr.one_inv
      exact call_len pins s σ _ _ _ Q I rv ⟨v, x.length, rfl, by rw [h1.str_inv]; exact ⟨sz_le.mp hz, rfl⟩, q0 _ .int_⟩
    · cases hb
  · rename_i x hx
    obtain ⟨es, e1, rfl⟩ := Option.map_eq_some_iff.mp hb
    obtain ⟨v, rfl, h1⟩ := hr.one_inv
    obtain ⟨a, xs, rfl, h2, h3, h4⟩ := asLst_ok hs h1 e1
    refine call_len pins s σ _ _ _ Q I rv ⟨.ref a, es.length, rfl, ?_, q0 _ .int_⟩
    rcases h4 with h4 | ⟨h4, _⟩
    · exact .inl ⟨xs, h4, h3.length⟩
    · exact .inr ⟨xs, h4, h3.length⟩
  · obtain ⟨es, e1, rfl⟩ := Option.map_eq_some_iff.mp hb
    obtain ⟨v, rfl, h1⟩ := hr.one_inv
    obtain ⟨a, xs, rfl, h2, h3, h4⟩ := asLst_ok hs h1 e1
    refine call_tuple_of pins s σ _ _ _ Q I rv ⟨a, xs, rfl, ?_⟩
    rcases h4 with h4 | ⟨h4, rfl⟩
    · refine .inl ⟨h4, fun p hp => ?_⟩
      obtain ⟨z1, e1, e2, e3, e4, e5⟩ := new_tup hs hp h2 h3
      rw [← e1]; exact q _ z1 e2 e3 e4 e5
    · exact .inr ⟨h4, q0 _ h1⟩
  · obtain ⟨es, e1, rfl⟩ := Option.map_eq_some_iff.mp hb
    obtain ⟨v, rfl, h1⟩ := hr.one_inv
    obtain ⟨a, xs, rfl, h2, h3, h4⟩ := asLst_ok hs h1 e1
    refine call_list_of pins s σ _ _ _ Q I rv ⟨a, xs, rfl, h4.imp id (·.1), fun p hp => ?_⟩
    obtain ⟨z1, e1, e2, e3, e4, e5⟩ := new_lst hs hp h2 h3
    rw [← e1]; exact q _ z1 e2 e3 e4 e5
  · obtain ⟨bs, e1, rfl⟩ := Option.map_eq_some_iff.mp hb
    obtain ⟨v, rfl, h1⟩ := hr.one_inv
    obtain ⟨a, xs, rfl, h2, _, h4⟩ := h1.lst_inv
    rw [blsOf_ok h4 e1] at h2
    exact cr_all (hc rfl) pins s σ _ _ _ Q I rv ⟨a, bs, rfl, .of h2, q0 _ .bl_⟩
  · obtain ⟨bs, e1, rfl⟩ := Option.map_eq_some_iff.mp hb
    obtain ⟨v, rfl, h1⟩ := hr.one_inv
    obtain ⟨a, xs, rfl, h2, _, h4⟩ := h1.lst_inv
    rw [blsOf_ok h4 e1] at h2
    exact cr_any (hc rfl) pins s σ _ _ _ Q I rv ⟨a, bs, rfl, .of h2, q0 _ .bl_⟩
  · obtain ⟨ns, e1, rfl⟩ := Option.map_eq_some_iff.mp hb
    obtain ⟨v, rfl, h1⟩ := hr.one_inv
    obtain ⟨a, xs, rfl, h2, _, h4⟩ := h1.lst_inv
    rw [intsOf_ok h4 e1] at h2
    exact cr_sum (hc rfl) pins s σ _ _ _ Q I rv ⟨a, ns, rfl, .of h2, q0 _ .int_⟩
  · cases hb
    obtain ⟨v, rfl, h1⟩ := hr.one_inv
    rw [h1.int_inv] at rv
    exact call_abs pins s σ _ _ _ Q I rv ⟨_, rfl, q0 _ .int_⟩
  · cases hb
    obtain ⟨v, u, rfl, h1, h2⟩ := hr.two_inv
    rw [h1.int_inv, h2.int_inv] at rv
    exact call_max2 (hc rfl) pins s σ _ _ _ Q I rv ⟨_, _, rfl, q0 _ .int_⟩
  · cases hb
    obtain ⟨v, u, rfl, h1, h2⟩ := hr.two_inv
    rw [h1.int_inv, h2.int_inv] at rv
    exact call_min2 (hc rfl) pins s σ _ _ _ Q I rv ⟨_, _, rfl, q0 _ .int_⟩
  · cases hb
    obtain ⟨v, rfl, h1⟩ := hr.one_inv
    rw [h1.int_inv] at rv
    exact call_int1 pins s σ _ _ _ Q I rv (.inl ⟨_, rfl, q0 _ .int_⟩)
  · split at hb
    · rename_i x hz
      obtain ⟨n, e1, rfl⟩ := Option.map_eq_some_iff.mp hb
      obtain ⟨v, rfl, h1⟩ := hr.one_inv
      rw [h1.str_inv] at rv
      exact call_int_str pins s σ _ _ _ Q I rv ⟨_, _, rfl, e1, hz, q0 _ .int_⟩
    · cases hb
  · cases hb
    obtain ⟨v, rfl, h1⟩ := hr.one_inv
    rw [h1.bl_inv] at rv
    exact call_int1 pins s σ _ _ _ Q I rv (.inr ⟨_, rfl, q0 _ .int_⟩)
  · cases hb
variable {W : WX} {pa pb pc : Expr} {fa fb fc : Env → Store → Rs D} {pos : Pos} {es : List Expr} {ga : Env → Store → Rs (List D)}
theorem s_bi {p : Pos} (b : Bi) (hc : biCalm b = true → X.calm = true) (hg : Gl X (biName b)) (hm : X.mg (biName b) = none) (ha : PA X (pa :: es) (tA X W ga))
    (he : starEach (pa :: es) X.env = (false, eval pa X.env) :: starEach es X.env) (hpl : (backTo pos (starEach es X.env)).any (·.1) = false) :
    PE X (.Call (.Name (biName b) p) (pa :: es) [] pos) (tE X W fun e S => (ga e S).bind fun ds S => optR (biop S b ds) S) := by
  have nn : biName b ≠ "__name__" := by cases b <;> decide
  have nd : (biName b == ("__debug__" : Str)) = false := by cases b <;> decide
  have fin : ∀ σ H Q, tE X W (fun e S => (ga e S).bind fun ds S => optR (biop S b ds) S) σ H Q → tCB (rB X b) (tA X W ga) σ H Q := fun σ H Q h => by
    obtain ⟨z, e, rfl, hs, he, P⟩ := h
    refine ⟨z, e, rfl, hs, he, P.bind.imp fun ds z1 x1 s1 P1 vs rv => ?_⟩
    obtain ⟨d, e1, _⟩ := P1.opt s1
    rw [e1] at P1
    exact ⟨z1, ds, d, rfl, s1, rv, e1, fun w z2 h1 h2 h3 h4 => P1 z2 h1 h2 h3 w h4⟩
  have ok := bi_ok b hc
  have bt := bi_boot b
  cases b <;> first
    | exact PE_imp (pe_callB ok hg hm bt ha nn nd he hpl) fin
    | exact PE_imp (pe_callTy ok hg hm bt ha nn nd he hpl) fin
/-- list(x) as a new object -/
def rML (X : Cx) : List V → Hp → VK → Prop := fun vs H Q => ∃ z x ds, z.H = H ∧ StOk X.K z ∧ Reps X.K z [x] vs ∧ asLst z.S x = some ds ∧ ∀ w z1, z1.S = z.S ++ [.lst ds] → Ext z z1 → StOk X.K z1 → Rep X.K z1 (.obj z.S.length) w → Q w z1.H
theorem ml_ok : CallR X (.type "list") (rML X) := by
  intro pins s σ H vs us Q I rv h
  obtain ⟨z, x, ds, rfl, hs, hr, e1, q⟩ := h
  obtain ⟨v, rfl, h1⟩ := hr.one_inv
  obtain ⟨a, xs, rfl, h2, h3, h4⟩ := asLst_ok hs h1 e1
  refine call_list_of pins s σ _ _ _ Q I rv ⟨a, xs, rfl, h4.imp id (·.1), fun p hp => ?_⟩
  obtain ⟨z1, e1, e2, e3, e4, e5⟩ := obj_new hs hp h2 h3
  rw [← e1]; exact q _ z1 e2 e3 e4 e5
theorem s_mkl {p : Pos} (hg : Gl X "list") (hm : X.mg "list" = none) (ha : PA X (pa :: es) (tA X W ga))
    (he : starEach (pa :: es) X.env = (false, eval pa X.env) :: starEach es X.env) (hpl : (backTo pos (starEach es X.env)).any (·.1) = false) :
    PE X (.Call (.Name "list" p) (pa :: es) [] pos) (tE X W fun e S => (ga e S).bind fun ds S => match ds with
      | [x] => (match asLst S x with
        | some xs => .ok (.obj S.length) (S ++ [.lst xs])
        | none => .bad)
      | _ => .bad) :=
  PE_imp (pe_callTy ml_ok hg hm (bi_boot .list) ha (by decide) (by decide) he hpl) fun σ H Q h => by
    obtain ⟨z, e, rfl, hs, he, P⟩ := h
    refine ⟨z, e, rfl, hs, he, P.bind.imp fun ds z1 x1 s1 P1 vs rv => ?_⟩
    match ds, P1, rv with
    | [x], P1, rv =>
      have P1 : Post X.K X.mg W z1 (match asLst z1.S x with
        | some xs => .ok (.obj z1.S.length) (z1.S ++ [.lst xs])
        | none => .bad) (fun d z1 => ∀ v, Rep X.K z1 d v → Q v z1.H) := P1
      cases q : asLst z1.S x with
      | none => rw [q] at P1; exact P1.elim
      | some xs =>
        rw [q] at P1
        exact ⟨z1, x, xs, rfl, s1, rv, q, fun w z2 h1 h2 h3 h4 => P1 z2 h1 h2 h3 w h4⟩
    | [], P1, _ => exact P1.elim
    | _ :: _ :: _, P1, _ => exact P1.elim
/-! ## calls of the text's own defs -/
/-- what a def promises: the evaluator's own word -/
def spOf (K : PySem.W.Frag) (mg : Str → Option Value) (np : Nat) (c : List D → Store → Rs D) : Sp := fun vs H Q E => vs.length = np ∧ ∃ z ds, z.H = H ∧ StOk K z ∧ Reps K z ds vs ∧
  match c ds z.S with
  | .ok d S1 => ∀ w z1, z1.S = S1 → Ext z z1 → StOk K z1 → Rep K z1 d w → Q w z1.H
  | .exc x _ S1 => ∀ z1 cls dx, z1.S = S1 → Ext z z1 → StOk K z1 → XRep K mg z1 x cls dx → E cls dx z1.H
  | .bad => False
theorem s_call {p : Pos} {x : Str} {f : Addr} {fd : FuncData} {ps : List Str} {k : Nat} {c : List D → Store → Rs D} (F : FnOk X.prog X.w X.K X.mg X.base (L2.CX X.prog X.w) k f fd ps (spOf X.K X.mg ps.length c)) (hr : Room k X.A) (hg : Gl X x) (hm : X.mg x = some (.ref f))
    (hk : PySem.W.keepIn X.K (.ref f) = true) (hb : Binds X.K fd ps []) (tk : Takes X W) (hcl : ∀ ds S, c ds S ≠ .bad → ds.length = ps.length) (ha : PA X (pa :: es) (tA X W ga)) (hdb : (x == ("__debug__" : Str)) = false)
    (he : starEach (pa :: es) X.env = (false, eval pa X.env) :: starEach es X.env) (hpl : (backTo pos (starEach es X.env)).any (·.1) = false) :
    PE X (.Call (.Name x p) (pa :: es) [] pos) (tE X W fun e S => (ga e S).bind fun ds S => (c ds S).at e) :=
  PE_imp (pe_callSD F hr hg hm hk hb .nil (E := fun σ cls d H => W cls d σ H) (fun σ => passAt tk σ) ha hdb he hpl) fun σ H Q h => by
    obtain ⟨z, e, rfl, hs, he, P⟩ := h
    refine ⟨z, e, rfl, hs, he, ?_⟩
    have P : Post X.K X.mg W z ((ga e z.S).bind fun ds S => (c ds S).at e) (fun d z1 => ∀ v, Rep X.K z1 d v → Q v z1.H) := P
    refine P.bind.imp fun ds z1 h2 h3 P vs rv => ?_
    show spOf X.K X.mg ps.length c (vs ++ []) z1.H Q fun cls d H => W cls d σ H
    rw [List.append_nil]
    have hd : ds.length = ps.length := hcl ds z1.S fun q => by rw [q] at P; exact P
    refine ⟨by rw [← rv.length, hd], z1, ds, rfl, h3, rv, ?_⟩
    cases q2 : c ds z1.S with
    | bad => rw [q2] at P; exact P.elim
    | ok d S2 => rw [q2] at P; exact fun w z2 k1 k2 k3 k4 => P z2 k1 k2 k3 w k4
    | exc y e2 S2 =>
      rw [q2] at P
      exact fun z2 cls dx k1 k2 k3 k4 => P z2 cls dx σ k1 k2 k3 ((he.mono h2).mono k2) k4
/-! ## lists that change -/
theorem objL_ok {z : Zw} {o : D} {v : V} {r : Nat} (s : StOk X.K z) (rv : Rep X.K z o v) (h : objL z.S o = some r) : o = .obj r ∧ tyV X.K "list" v z.H := by
  cases o with
  | obj i =>
    simp only [objL] at h
    split at h
    · rename_i ds e
      cases h
      obtain ⟨a, xs, rfl, _, h1, _⟩ := obj_inv s rv e
      exact ⟨rfl, .inl ⟨rfl, _, .of h1⟩⟩
    · cases h
  | _ => cases h
theorem s_app {apos : Pos} (ho : PE X pa (tE X W fa)) (hx : PE X pb (tE X W fb)) (hbase : attributeBase pa "append" X.env (eval pa X.env) = eval pa X.env) (hline : (apos.endLine == pos.line) = true)
    (hst : starEach [pb] X.env = [(false, eval pb X.env)]) :
    PE X (.Call (.Attribute pa "append" apos) [pb] [] pos) (tE X W fun e S => (fa e S).bind fun o S => (optR (objL S o) S).bind fun r S => (fb e S).bind fun d S => match S[r]? with
    | some (.lst ds) => if ds.length < SZ then .ok .non (S.set r (.lst (ds ++ [d]))) else .bad
    | _ => .bad) :=
  PE_imp (pe_bm PySem.F.plainAttrs_list PySem.F.slot_list_append PySem.F.type_list_append mt_append ho (pa_cons hx pa_nil hst) hbase (by rw [hst]; rfl) hline hst (by rfl)) fun σ H Q h => by
    obtain ⟨z, e, rfl, hs, he, P⟩ := h
    refine ⟨z, e, rfl, hs, he, P.bind.imp fun o z1 x1 s1 P1 v rv => ?_⟩
    obtain ⟨r, e1, P2⟩ := P1.bind.opt s1
    obtain ⟨rfl, ty⟩ := objL_ok s1 rv e1
    refine ⟨ty, z1, e, rfl, s1, he.mono x1, P2.bind.imp fun d z2 x2 s2 P3 u ru => ?_⟩
    cases q : z2.S[r]? with
    | none => simp only [q] at P3; exact P3.elim
    | some mo =>
      cases mo with
      | lst ds =>
        simp only [q] at P3
        obtain ⟨a, xs, e2, h1, h2, h3, h4⟩ := obj_inv s2 (rv.mono x2) q
        by_cases hl : ds.length < SZ
        · rw [if_pos hl] at P3
          obtain ⟨x3, s3⟩ := set_ob (ds := ds ++ [d]) (xs := xs ++ [u]) s2 q h1 (by rw [List.length_append]; exact hl) (h4.app (.one ru))
          exact ⟨a, xs, u, e2, rfl, h2, by rw [← h4.length, sizeLine_eq]; exact hl, P3 _ rfl x3 s3 _ .non_⟩
        · rw [if_neg hl] at P3; exact P3.elim
      | _ => simp only [q] at P3; exact P3.elim
theorem s_ext {apos : Pos} (ho : PE X pa (tE X W fa)) (hx : PE X pb (tE X W fb)) (hbase : attributeBase pa "extend" X.env (eval pa X.env) = eval pa X.env) (hline : (apos.endLine == pos.line) = true)
    (hst : starEach [pb] X.env = [(false, eval pb X.env)]) :
    PE X (.Call (.Attribute pa "extend" apos) [pb] [] pos) (tE X W fun e S => (fa e S).bind fun o S => (optR (objL S o) S).bind fun r S => (fb e S).bind fun d S => match S[r]?, d with
    | some (.lst ds), .lst xs => if ds.length + xs.length ≤ SZ then .ok .non (S.set r (.lst (ds ++ xs))) else .bad
    | _, _ => .bad) :=
  PE_imp (pe_bm PySem.F.plainAttrs_list PySem.F.slot_list_extend PySem.F.type_list_extend mt_extend ho (pa_cons hx pa_nil hst) hbase (by rw [hst]; rfl) hline hst (by rfl)) fun σ H Q h => by
    obtain ⟨z, e, rfl, hs, he, P⟩ := h
    refine ⟨z, e, rfl, hs, he, P.bind.imp fun o z1 x1 s1 P1 v rv => ?_⟩
    obtain ⟨r, e1, P2⟩ := P1.bind.opt s1
    obtain ⟨rfl, ty⟩ := objL_ok s1 rv e1
    refine ⟨ty, z1, e, rfl, s1, he.mono x1, P2.bind.imp fun d z2 x2 s2 P3 u ru => ?_⟩
    cases q : z2.S[r]? with
    | none => simp only [q] at P3; exact P3.elim
    | some mo =>
      cases mo with
      | lst ds =>
        cases d with
        | lst ys =>
          simp only [q] at P3
          obtain ⟨a, xs, e2, h1, h2, h3, h4⟩ := obj_inv s2 (rv.mono x2) q
          obtain ⟨b, ws, rfl, k1, k2, k3⟩ := ru.lst_inv
          by_cases hl : ds.length + ys.length ≤ SZ
          · rw [if_pos hl] at P3
            obtain ⟨x3, s3⟩ := set_ob (ds := ds ++ ys) (xs := xs ++ ws) s2 q h1 (by simpa using hl) (h4.app k3)
            exact ⟨a, b, xs, ws, e2, rfl, h2, k1, by rw [← h4.length, ← k3.length, sizeLine_eq]; exact hl, P3 _ rfl x3 s3 _ .non_⟩
          · rw [if_neg hl] at P3; exact P3.elim
        | _ => simp only [q] at P3; exact P3.elim
      | _ => simp only [q] at P3; exact P3.elim
theorem s_popl {apos : Pos} (ho : PE X pa (tE X W fa)) (hbase : attributeBase pa "pop" X.env (eval pa X.env) = eval pa X.env) (hline : (apos.endLine == pos.line) = true) :
    PE X (.Call (.Attribute pa "pop" apos) [] [] pos) (tE X W fun e S => (fa e S).bind fun o S => (optR (objL S o) S).bind fun r S => match S[r]? with
    | some (.lst ds) => match ds.getLast? with
      | some d => .ok d (S.set r (.lst ds.dropLast))
      | none => .bad
    | _ => .bad) :=
  PE_imp (pe_bm0 PySem.F.plainAttrs_list PySem.F.slot_list_pop PySem.F.type_list_pop mt_pop ho hbase hline) fun σ H Q h => by
    obtain ⟨z, e, rfl, hs, he, P⟩ := h
    refine ⟨z, e, rfl, hs, he, P.bind.imp fun o z1 x1 s1 P1 v rv => ?_⟩
    obtain ⟨r, e1, P2⟩ := P1.bind.opt s1
    obtain ⟨rfl, ty⟩ := objL_ok s1 rv e1
    refine ⟨ty, ?_⟩
    cases q : z1.S[r]? with
    | none => simp only [q] at P2; exact P2.elim
    | some mo =>
      cases mo with
      | lst ds =>
        simp only [q] at P2
        obtain ⟨a, xs, e2, h1, h2, h3, h4⟩ := obj_inv s1 rv q
        cases q2 : ds.getLast? with
        | none => simp only [q2] at P2; exact P2.elim
        | some d =>
          simp only [q2] at P2
          obtain ⟨x3, s3⟩ := set_ob (ds := ds.dropLast) (xs := xs.dropLast) s1 q h1 (by simp; omega) h4.dropLast
          rw [List.getLast?_eq_getElem?] at q2
          obtain ⟨u, k1, k2⟩ := h4.get q2
          exact ⟨a, xs, u, e2, rfl, h2, by rw [← h4.length]; exact k1, P2 _ rfl x3 s3 _ (k2.mono x3)⟩
      | _ => simp only [q] at P2; exact P2.elim
/-- frozen from here on -/
theorem s_fz (ho : PE X pa (tE X W fa)) : PE X pa (tE X W fun e S => (fa e S).bind fun o S => match o with
    | .obj r => match S[r]? with
      | some (.lst ds) => .ok (.lst ds) (S.set r .dead)
      | _ => .bad
    | _ => .bad) :=
  PE_imp ho fun σ H Q h => by
    obtain ⟨z, e, rfl, hs, he, P⟩ := h
    refine ⟨z, e, rfl, hs, he, P.bind.imp fun o z1 x1 s1 P1 v rv => ?_⟩
    cases o with
    | obj r =>
      cases q : z1.S[r]? with
      | none => simp only [q] at P1; exact P1.elim
      | some mo =>
        cases mo with
        | lst ds =>
          simp only [q] at P1
          obtain ⟨a, xs, rfl, h1, h2, h3, h4⟩ := obj_inv s1 rv q
          obtain ⟨x2, s2, r2⟩ := freeze s1 q h1
          exact P1 _ rfl x2 s2 _ r2
        | _ => simp only [q] at P1; exact P1.elim
    | _ => exact P1.elim
end
end PyI

set_option maxRecDepth 100000
set_option maxHeartbeats 4000000
namespace PyI
open PySem PySem.Spec PyProof.Rows L2
theorem un_lay {fs : List Addr} {H H1 : Hp} {h h' : Heap} {a : Addr} {o : HO} (u : Un fs [] H H1 h h') (hp : h.objs.size ≤ a) (hn : H1 a = none) : Un fs [] H (upd H1 a o) h h' where
  keep := u.keep
  slot := u.slot
  free := fun b u' q n hx => by rw [upd_ne (Nat.ne_of_lt (Nat.lt_of_lt_of_le (Heap.lt_size q) hp))]; exact u.free b u' q n hx
  there := u.there
  tups := fun b xs q => by have := u.tups b xs q; rw [upd_ne (ne_of_none this hn)]; exact this
  frzs := fun b v xs q => by have := u.frzs b v xs q; rw [upd_ne (ne_of_none this hn)]; exact this
  tbls := fun b ps q => by obtain ⟨m, this⟩ := u.tbls b ps q; exact ⟨m, by rw [upd_ne (ne_of_none this hn)]; exact this⟩
theorem lay_zip {P : Program} {w : World} {K : PySem.W.Frag} {fs : List Addr} {Hb : Hp} {h h' : Heap} : ∀ (as : List Addr) {z : Zw} {xs ys : List D} {xv yv : List V} {iu iw : List Value},
    StOk K z → Reps K z xs xv → Reps K z ys yv → Vals xv iu → Vals yv iw → as.length = min xs.length ys.length → as.Nodup → (∀ a ∈ as, z.H a = none ∧ h.objs.size ≤ a) →
    (∀ (j : Nat) (a : Addr), as[j]? = some a → ∃ x y, iu[j]? = some x ∧ iw[j]? = some y ∧ PySem.IsTupOf2 h' a x y) → Un fs [] Hb z.H h h' → HOk P w z.H h' →
    ∃ z' : Zw, z'.S = z.S ∧ Ext z z' ∧ StOk K z' ∧ Reps K z' (zipD xs ys) (as.map V.ref) ∧ Un fs [] Hb z'.H h h' ∧ HOk P w z'.H h' ∧ ∀ a, a ∉ as → z'.H a = z.H a
  | [], z, xs, ys, xv, yv, iu, iw, s, r1, r2, _, _, hl, _, _, _, u, ok => by
    have : zipD xs ys = [] := by
      cases xs with
      | nil => cases ys <;> rfl
      | cons x xs =>
        cases ys with
        | nil => rfl
        | cons y ys => simp at hl
    rw [this]
    exact ⟨z, rfl, Ext.refl z, s, .nil, u, ok, fun _ _ => rfl⟩
  | a :: as, z, xs, ys, xv, yv, iu, iw, s, r1, r2, v1, v2, hl, nd, ha, hp, u, ok => by
    cases xs with
    | nil => simp at hl
    | cons x xs =>
      cases ys with
      | nil => simp at hl
      | cons y ys =>
        obtain ⟨p, xv', rfl, q1, q2⟩ := r1.cons_inv
        obtain ⟨p2, yv', rfl, q3, q4⟩ := r2.cons_inv
        cases v1 with
        | cons e1 v1 =>
          cases v2 with
          | cons e2 v2 =>
            rename_i u1 iu' u2 iw'
            obtain ⟨hn, hg⟩ := ha a List.mem_cons_self
            obtain ⟨x0, y0, g1, g2, g3⟩ := hp 0 a rfl
            obtain rfl : u1 = x0 := Option.some.inj g1
            obtain rfl : u2 = y0 := Option.some.inj g2
            obtain ⟨nd1, nd2⟩ := List.nodup_cons.mp nd
            obtain ⟨z1, w1, w2, w3, w4, w5⟩ := new_tup (ds := [x, y]) (xs := [p, p2]) s hn (show (2 : Nat) ≤ SZ by decide) (.cons q1 (.cons q3 .nil))
            have ob : ObjOk P w (upd z.H a (.tup [p, p2])) h' a (.tup [p, p2]) := ⟨by simp [sizeLine_eq], [u1, u2], .cons e1 (.cons e2 .nil), ⟨_, g3, rfl, 0, rfl⟩⟩
            obtain ⟨z', k1, k2, k3, k4, k5, k6, k7⟩ := lay_zip (P := P) (w := w) (Hb := Hb) (fs := fs) (h := h) (h' := h') as (z := z1) w4 (q2.mono w3) (q4.mono w3) v1 v2 (by simp at hl; omega) nd2 (fun b hb => by
              have hne : b ≠ a := fun e => nd1 (e ▸ hb)
              rw [w1, upd_ne hne]
              exact ha b (List.mem_cons_of_mem _ hb)) (fun j b hj => hp (j + 1) b hj) (by rw [w1]; exact un_lay u hg hn) (by
                rw [w1]
                exact ok.laidN (fun _ _ e => e) hn ob)
            refine ⟨z', k1.trans w2, w3.trans k2, k3, .cons (w5.mono k2) k4, k5, k6, fun b hb => ?_⟩
            rw [k7 b fun m => hb (List.mem_cons_of_mem _ m), w1, upd_ne]
            rintro rfl; exact hb List.mem_cons_self
theorem nin2 {x y c : Nat} (h1 : c ≠ x) (h2 : c ≠ y) : (c : Addr) ∉ ([x, y] : List Addr) := by
  intro h
  rcases List.mem_cons.mp h with h | h
  · exact h1 h
  · exact h2 (List.mem_singleton.mp h)
theorem zsep {n a b : Nat} (la : a < n) (lb : b < n) : PySem.ZipSep2 (n + 4) (n + 2) (n + 3) n (n + 1) [n, a] [n + 1, b] := by
  constructor
  all_goals first
    | exact List.mem_cons_self
    | exact nin2 (by omega) (by omega)
    | exact Nat.ne_of_lt (by omega)
    | exact Nat.ne_of_gt (by omega)
theorem lt2 {x y m : Nat} (h1 : x < m) (h2 : y < m) : ∀ c ∈ ([x, y] : List Addr), c < m := by
  intro c h
  rcases List.mem_cons.mp h with h | h
  · rw [h]; exact h1
  · rw [List.mem_singleton.mp h]; exact h2
theorem zipD_length : ∀ (xs ys : List D), (zipD xs ys).length = min xs.length ys.length
  | [], ys => by cases ys <;> simp [zipD]
  | x :: xs, [] => by simp [zipD]
  | x :: xs, y :: ys => by
    simp only [zipD, List.length_cons, zipD_length xs ys]
    omega
/-- a source of a zip: what begins it, how it is drawn -/
structure ZSrc (P : Program) (w : World) (a : Addr) (items : List Value) (h : Heap) where
  o : Obj
  H : Heap → Prop
  St : Addr → Nat → Heap → Prop
  beg : PySem.Begins (.ref a) o H
  at_ : H h
  st : ∀ it h, h.get? it = some o → H h → St it 0 h
  dr : ∀ it, a ≠ it → PyZ.DrawsA P w it [it, a] items.length (fun i v => items[i]? = some v) (St it)
  lt : a < h.objs.size
section
variable {X : Cx} {pins : List (Addr × Obj)} {σ : L2.St} {s : Shared}
theorem zsrc {z : Zw} {x : D} {v : V} {ds : List D} (I : Inv X pins σ z.H s) (sk : StOk X.K z) (r : Rep X.K z x v) (h : asLst z.S x = some ds) :
    ∃ a xs its, v = .ref a ∧ ds.length ≤ SZ ∧ Reps X.K z ds xs ∧ Vals xs its ∧ Nonempty (ZSrc X.prog X.w a its s.heap) := by
  obtain ⟨a, xs, rfl, h2, h3, h4⟩ := asLst_ok sk r h
  rcases h4 with h4 | ⟨h4, _⟩
  · obtain ⟨its, rv, p, _⟩ := I.list h4
    refine ⟨a, xs, its, rfl, h2, h3, rv, ⟨⟨_, _, fun it i h => h.IsListIter it a i ∧ h.IsList a its.toArray, PySem.begins_list a its.toArray, p.isList, fun it h e k => ⟨⟨_, e, rfl, rfl⟩, k⟩, fun it ne A hh => ?_, p.lt⟩⟩⟩
    have D := PySem.Draws.list (prog := X.prog) (w := X.w) (A := A) hh it a ne its.toArray
    simpa using D
  · obtain ⟨its, rv, p, _⟩ := I.tuple h4
    obtain ⟨o1, ho1, _⟩ := id p
    refine ⟨a, xs, its, rfl, h2, h3, rv, ⟨⟨_, _, fun it i h => h.IsTupleIter it a i ∧ h.IsTuple a its.toArray, PySem.begins_tuple a its.toArray, p, fun it h e k => ⟨⟨_, e, rfl, rfl⟩, k⟩, fun it ne A hh => ?_, Heap.lt_size ho1⟩⟩⟩
    have D := PySem.Draws.tuple (prog := X.prog) (w := X.w) (A := A) hh it a ne its.toArray
    simpa using D
end
section
variable {X : Cx} {W : WX} {pa pb : Expr} {ga : Env → Store → Rs (List D)}
theorem s_zipl {p p2 pos pos2 : Pos} (hc : X.calm = true) (hg : Gl X "list") (hm : X.mg "list" = none) (hg2 : Gl X "zip") (hm2 : X.mg "zip" = none) (ha : PA X [pa, pb] (tA X W ga))
    (he : starEach [pa, pb] X.env = (false, eval pa X.env) :: starEach [pb] X.env) (hpl : (backTo pos2 (starEach [pb] X.env)).any (·.1) = false) :
    PE X (.Call (.Name "list" p) [.Call (.Name "zip" p2) [pa, pb] [] pos2] [] pos) (tE X W fun e S => (ga e S).bind fun ds S => optR (zipop S ds) S) := by
  refine ⟨fun pins s σ H Q I h => ?_⟩
  obtain ⟨z, e, rfl, hs, hev, Pq⟩ := h
  have hA : tA X W ga σ z.H (fun vs H' => ∃ z1 ds d, z1.H = H' ∧ StOk X.K z1 ∧ Reps X.K z1 ds vs ∧ zipop z1.S ds = some d ∧ ∀ w z2, z2.S = z1.S → Ext z1 z2 → StOk X.K z2 → Rep X.K z2 d w → Q w z2.H) :=
    ⟨z, e, rfl, hs, hev, Pq.bind.imp fun ds z1 x1 s1 P1 vs rv => by
      obtain ⟨d, e1, _⟩ := P1.opt s1
      rw [e1] at P1
      exact ⟨z1, ds, d, rfl, s1, rv, e1, fun w z2 h1 h2 h3 h4 => P1 z2 h1 h2 h3 w h4⟩⟩
  refine Call_ (ld_blt I hg hm boot_list (PyProof.Rows.callWith_type1 (args_cons ?_ rfl) rfl rfl))
  refine Call_ (ld_blt I hg2 hm2 PyProof.Rows.boot_zip (PyProof.Rows.callWith_type1 (thn (ha.run pos2 pins s σ z.H _ I hA) fun us s1 ⟨vs, H1, I1, r1, q1⟩ => ?_) he hpl))
  obtain ⟨z1, ds, d, rfl, s1k, rv, eo, hq⟩ := q1
  have : ∃ x y xs ys, ds = [x, y] ∧ asLst z1.S x = some xs ∧ asLst z1.S y = some ys ∧ d = .lst (zipD xs ys) := by
    unfold zipop at eo
    split at eo
    · split at eo
      · rename_i x y _ _ xs ys h1 h2
        cases eo
        exact ⟨x, y, xs, ys, rfl, h1, h2, rfl⟩
      · cases eo
    · cases eo
  obtain ⟨x, y, xs, ys, rfl, hx, hy, rfl⟩ := this
  obtain ⟨v, u, rfl, rx, ry⟩ := rv.two_inv
  obtain ⟨a, xv, iu, rfl, lx, qx, vx, ⟨Zx⟩⟩ := zsrc I1 s1k rx hx
  obtain ⟨b, yv, iw, rfl, ly, qy, vy, ⟨Zy⟩⟩ := zsrc I1 s1k ry hy
  cases r1 with
  | cons r r1 =>
    cases r1 with
    | cons r' r1 =>
      cases r1
      cases r
      cases r'
      have la := Zx.lt
      have lb := Zy.lt
      refine PySem.zip_begins2 Zx.beg Zy.beg Zx.at_ Zy.at_ fun h' hz hTI hTO g1 g2 hsz hk => ?_
      have hk1 := Zx.beg.keeps _ _ Zx.at_ hk
      have hk2 := Zy.beg.keeps _ _ Zy.at_ hk
      refine args_nil ?_
      have hlen1 : iu.length = xs.length := by rw [qx.length, vx.length]
      have hlen2 : iw.length = ys.length := by rw [qy.length, vy.length]
      refine PyZ.zil_call (z := s1.heap.objs.size + 4) (TI := s1.heap.objs.size + 2) (TO := s1.heap.objs.size + 3) (i1 := s1.heap.objs.size) (i2 := s1.heap.objs.size + 1) (s := { s1 with heap := h' }) (n := min iu.length iw.length) (N1 := 0) (I1.ok.hd hc)
        ?S (Zx.dr s1.heap.objs.size (Nat.ne_of_lt la)) (Zy.dr (s1.heap.objs.size + 1) (Nat.ne_of_lt (Nat.lt_add_right 1 lb))) rfl ?L ⟨Zx.st _ _ g1 hk1, Zy.st _ _ g2 hk2, hTI, .inl ⟨hz, _, _, hTO⟩⟩ hz ⟨_, _, hTO⟩ ?l1 ?l2 fun h2 tk acc c as d1 d2 d3 d4 d5 => ?_
      case L => rw [hlen1, hlen2]; exact Nat.le_trans (Nat.min_le_left _ _) (sz_le.mp lx)
      case S => exact zsep la lb
      case l1 => exact lt2 (Nat.lt_of_lt_of_le (Nat.lt_add_of_pos_right (by decide : 0 < 5)) (Nat.le_of_eq hsz.symm)) (Nat.lt_of_lt_of_le la (by rw [hsz]; exact Nat.le_add_right _ _))
      case l2 => exact lt2 (Nat.lt_of_lt_of_le (Nat.add_lt_add_left (by decide : 1 < 5) _) (Nat.le_of_eq hsz.symm)) (Nat.lt_of_lt_of_le lb (by rw [hsz]; exact Nat.le_add_right _ _))
      have d1 : ∀ b o, s1.heap.get? b = some o → h2.get? b = some o := fun b o e => by
        have := Heap.lt_size e
        exact d1 b o (Nat.ne_of_lt (Nat.lt_add_right 4 this)) (Nat.ne_of_lt (Nat.lt_add_right 3 this)) (Nat.ne_of_lt this) (Nat.ne_of_lt (Nat.lt_add_right 1 this)) (hk b o e)
      have I2 : Inv X pins σ z1.H { s1 with heap := h2, toks := tk } := I1.kept d1
      have ab : ∀ q ∈ as, s1.heap.objs.size ≤ q := fun q hq => by
        have := d4.above q hq
        have h3 : h'.objs.size + 1 ≤ q := this
        omega
      obtain ⟨z', k1, k2, k3, k4, k5, k6, k7⟩ := lay_zip (P := X.prog) (w := X.w) (K := X.K) (fs := X.fs) (Hb := z1.H) (h := s1.heap) (h' := h2) as (z := z1) s1k qx qy vx vy (by rw [d3, hlen1, hlen2]) (d4.rise.imp fun h => Nat.ne_of_lt h)
        (fun q hq => ⟨I1.hok.fresh (ab q hq), ab q hq⟩) (fun j q hj => by
          obtain ⟨x, y, p1, p2, e3⟩ := d4.pairs j q hj
          exact ⟨x, y, p1, p2, e3⟩) (Un.kept d1) (I1.hok.kept d1)
      have hSn : h'.objs.size ∉ as := fun hm => by
        have := d4.above _ hm
        exact absurd this (Nat.not_le.mpr (Nat.lt_succ_self _))
      have hSf : z'.H h'.objs.size = none := by rw [k7 _ hSn]; exact I1.hok.fresh (by rw [hsz]; exact Nat.le_add_right _ _)
      have hzl : (zipD xs ys).length ≤ SZ := by rw [zipD_length]; exact Nat.le_trans (Nat.min_le_left _ _) lx
      obtain ⟨z3, e1, e2, e3, e4, e5⟩ := new_lst k3 hSf hzl k4
      have ob : ObjOk X.prog X.w (upd z'.H h'.objs.size (.lst (as.map V.ref))) h2 h'.objs.size (.lst (as.map V.ref)) := by
        refine ⟨?_, acc.toList, c, ?_, ?_⟩
        · rw [List.length_map, d3, hlen1, hlen2]; exact Nat.le_trans (Nat.min_le_left _ _) (sz_le.mp lx)
        · rw [d5]
          have : ∀ l : List Addr, Vals (l.map V.ref) (l.map Value.ref) := fun l => by
            induction l with
            | nil => exact .nil
            | cons q l ih => exact .cons rfl ih
          exact this as
        · rw [Array.toArray_toList]; exact d2
      have I3 : Inv X pins σ z3.H { s1 with heap := h2, toks := tk } := by
        rw [e1]
        exact I1.un (un_lay k5 (by rw [hsz]; exact Nat.le_add_right _ _) hSf) (k6.laidN (fun _ _ e => e) hSf ob)
      exact ⟨.ref h'.objs.size, z3.H, I3, rfl, hq _ z3 (e2.trans k1) (k2.trans e3) e4 e5⟩
end
end PyI

set_option maxRecDepth 100000
set_option maxHeartbeats 2000000
namespace PyI
open PySem PySem.Spec PyProof.Rows L2
theorem findI_ok {d : D} : ∀ {ds : List D} {j : Nat}, findI d ds = some j → (∃ z, ds[j]? = some z ∧ z.eqv d = true) ∧ ∀ (m : Nat) (z : D), m < j → ds[m]? = some z → z.eqv d = false
  | [], j, h => by cases h
  | z :: r, j, h => by
    unfold findI at h
    cases q : z.eqv d with
    | true =>
      rw [q, if_pos rfl] at h
      cases h
      exact ⟨⟨z, rfl, q⟩, fun m z' hm => absurd hm (Nat.not_lt_zero _)⟩
    | false =>
      rw [q, if_neg (by decide)] at h
      obtain ⟨i, h1, rfl⟩ := Option.map_eq_some_iff.mp h
      obtain ⟨⟨z', e1, e2⟩, hno⟩ := findI_ok h1
      refine ⟨⟨z', e1, e2⟩, fun m w hm hw => ?_⟩
      cases m with
      | zero => cases hw; exact q
      | succ m => exact hno m w (by omega) hw
theorem pys_get : ∀ {ds : List D} {ps : List PyData} {i : Nat}, pys ds = some ps → (∀ d, ds[i]? = some d → ∃ p, ps[i]? = some p ∧ d.py = some p) ∧ ∀ p, ps[i]? = some p → ∃ d, ds[i]? = some d ∧ d.py = some p
  | [], ps, i, h => by cases h; exact ⟨fun d q => by simp at q, fun d q => by simp at q⟩
  | d :: ds, ps, i, h => by
    unfold pys at h
    split at h
    · rename_i x xs h1 h2
      cases h
      cases i with
      | zero => exact ⟨fun e q => by cases q; exact ⟨x, rfl, h1⟩, fun e q => by cases q; exact ⟨d, rfl, h1⟩⟩
      | succ i =>
        obtain ⟨a, b⟩ := pys_get (i := i) h2
        exact ⟨fun e q => a e q, fun e q => b e q⟩
    · cases h
section
variable {X : Cx} {W : WX} {pa pb : Expr} {fa fb : Env → Store → Rs D} {pos : Pos}
theorem lstOf_ok {z : Zw} {o : D} {v : V} {ds : List D} (s : StOk X.K z) (rv : Rep X.K z o v) (h : lstOf z.S o = some ds) : ∃ a xs, v = .ref a ∧ SqL X.K z.H a xs ∧ Reps X.K z ds xs := by
  have h' : asLst z.S o = some ds ∧ ∀ es, o ≠ .tup es := by
    unfold lstOf at h
    split at h
    · cases h
    · rename_i hn
      exact ⟨h, fun es e => hn es e⟩
  obtain ⟨a, xs, rfl, h2, h3, h4⟩ := asLst_ok s rv h'.1
  rcases h4 with h4 | ⟨_, rfl⟩
  · exact ⟨a, xs, rfl, h4, h3⟩
  · exact absurd rfl (h'.2 ds)
theorem s_idx {apos : Pos} (hu : X.A.units + 65 < cLine) (ho : PE X pa (tE X W fa)) (hx : PE X pb (tE X W fb)) (hbase : attributeBase pa "index" X.env (eval pa X.env) = eval pa X.env) (hline : (apos.endLine == pos.line) = true)
    (hst : starEach [pb] X.env = [(false, eval pb X.env)]) :
    PE X (.Call (.Attribute pa "index" apos) [pb] [] pos) (tE X W fun e S => (fa e S).bind fun o S => (optR (lstOf S o) S).bind fun _ S => (fb e S).bind fun d S => optR (idxop S o d) S) :=
  PE_imp (pe_bm PySem.F.plainAttrs_list PySem.F.slot_list_index PySem.F.type_list_index (mt_indexD hu) ho (pa_cons hx pa_nil hst) hbase (by rw [hst]; rfl) hline hst (by rfl)) fun σ H Q h => by
    obtain ⟨z, e, rfl, hs, he, P⟩ := h
    refine ⟨z, e, rfl, hs, he, P.bind.imp fun o z1 x1 s1 P1 v rv => ?_⟩
    obtain ⟨ds0, e1, P2⟩ := P1.bind.opt s1
    obtain ⟨a0, xs0, rfl, k1, _⟩ := lstOf_ok s1 rv e1
    refine ⟨.inl ⟨rfl, _, k1⟩, z1, e, rfl, s1, he.mono x1, P2.bind.imp fun d z2 x2 s2 P3 u ru => ?_⟩
    obtain ⟨r, e2, P4⟩ := P3.opt s2
    unfold idxop at e2
    cases q : lstOf z2.S o with
    | none => rw [q] at e2; cases e2
    | some ds =>
      rw [q] at e2
      obtain ⟨a, xs, ea, k2, k3⟩ := lstOf_ok s2 (rv.mono x2) q
      have e2 : (if (d.dat && dats ds && shD d && shL ds) = true then (findI d ds).map fun j => D.int (j : Nat) else none) = some r := e2
      by_cases hc : (d.dat && dats ds && shD d && shL ds) = true
      · rw [if_pos hc] at e2
        simp only [Bool.and_eq_true] at hc
        obtain ⟨⟨⟨c1, c2⟩, c3⟩, c4⟩ := hc
        obtain ⟨j, hj, rfl⟩ := Option.map_eq_some_iff.mp e2
        obtain ⟨p, p1, p2, p3⟩ := dat_py c1 ru
        obtain ⟨ps, s3, s4, s5⟩ := dats_py c2 k3
        obtain ⟨⟨w, w1, w2⟩, hno⟩ := findI_ok hj
        obtain ⟨wp, w3, w4⟩ := (pys_get (i := j) s3).1 w w1
        refine ⟨a, u, p, ps, j, wp, ea, rfl, ?_, p3, ?_, ?_, w3, ?_, fun m z' hm hz => ?_, P4 _ .int_⟩
        · rw [← ea]; rw [ea]; exact .lst k2 s5
        · unfold shL at c4; rw [s3] at c4; exact c4
        · unfold shD at c3; rw [p1] at c3; exact c3
        · rw [eqv_py w4 p1]; exact w2
        · obtain ⟨y, y1, y2⟩ := (pys_get (i := m) s3).2 z' hz
          rw [eqv_py y2 p1]; exact hno m y hm y1
      · rw [if_neg hc] at e2; cases e2
theorem Reps.reverse {K : PySem.W.Frag} {z : Zw} : ∀ {ds : List D} {vs : List V}, Reps K z ds vs → Reps K z ds.reverse vs.reverse
  | [], _, h => by rw [h.nil_inv]; exact .nil
  | d :: ds, _, h => by
    obtain ⟨v, r, rfl, h1, h2⟩ := h.cons_inv
    rw [List.reverse_cons, List.reverse_cons]
    exact (Reps.reverse h2).app (.one h1)
theorem lstOf_len {z : Zw} {o : D} {v : V} {ds : List D} (s : StOk X.K z) (rv : Rep X.K z o v) (h : lstOf z.S o = some ds) : ds.length ≤ SZ := by
  have h' : asLst z.S o = some ds := by
    unfold lstOf at h
    split at h
    · cases h
    · exact h
  obtain ⟨_, _, _, h2, _⟩ := asLst_ok s rv h'
  exact h2
/-- xs[::-1] of a list -/
theorem s_rev {k : Nat} {p1 p2 p3 : Pos} (ho : PE X pa (tE X W fa)) : PE X (.Subscript pa (.Slice none none (some (.UnaryOp .USub (.Constant (.int 1) k p1) p2)) p3) pos) (tE X W fun e S => (fa e S).bind fun o S => optR ((lstOf S o).map fun ds => .lst ds.reverse) S) :=
  PE_imp (pe_revL ho) fun σ H Q h => by
    obtain ⟨z, e, rfl, hs, he, P⟩ := h
    refine ⟨z, e, rfl, hs, he, P.bind.imp fun o z1 x1 s1 P1 v rv => ?_⟩
    obtain ⟨r, e1, P2⟩ := P1.opt s1
    rw [e1] at P1
    obtain ⟨ds, e2, rfl⟩ := Option.map_eq_some_iff.mp e1
    obtain ⟨a, xs, rfl, k1, k3⟩ := lstOf_ok s1 rv e2
    have hl := lstOf_len s1 rv e2
    refine ⟨a, xs, rfl, k1, fun p hp => ?_⟩
    obtain ⟨z2, w1, w2, w3, w4, w5⟩ := new_lst (ds := ds.reverse) (xs := xs.reverse) s1 hp (by rw [List.length_reverse]; exact hl) k3.reverse
    rw [← w1]
    exact P1 z2 w2 w3 w4 _ w5
theorem strsOf_ok {z : Zw} : ∀ {ds : List D} {vs : List V} {ns : List Str}, Reps X.K z ds vs → strsOf ds = some ns → vs = ns.map V.str
  | [], _, _, h, e => by cases e; rw [h.nil_inv]; rfl
  | d :: ds, _, _, h, e => by
    obtain ⟨v, r, rfl, h1, h2⟩ := h.cons_inv
    cases d with
    | str i =>
      obtain ⟨ms, e1, rfl⟩ := Option.map_eq_some_iff.mp (show (strsOf ds).map (i :: ·) = some _ from e)
      rw [h1.str_inv, strsOf_ok h2 e1]; rfl
    | _ => cases e
theorem reps_strs {z : Zw} : ∀ ns : List Str, Reps X.K z (ns.map D.str) (ns.map V.str)
  | [] => .nil
  | n :: ns => .cons .str_ (reps_strs ns)
def meName : Me → Str
  | .split => "split" | .join => "join"
def meId : Me → String
  | .split => "str.split" | .join => "str.join"
def rMe (X : Cx) (m : Me) : V → List V → Hp → VK → Prop := fun v vs H Q => ∃ z t d r u, z.H = H ∧ StOk X.K z ∧ v = .str t ∧ vs = [u] ∧ Rep X.K z d u ∧ m1op z.S m t d = some r ∧ ∀ w z1, z1.S = z.S → Ext z z1 → StOk X.K z1 → Rep X.K z1 r w → Q w z1.H
theorem me_ok : ∀ m : Me, MtR X (meId m) (rMe X m)
  | .split => by
    intro pins s σ H x xs v us Q I rx rs h
    obtain ⟨z, t, d, r, u, rfl, hs, rfl, rfl, hd, e, q⟩ := h
    cases d with
    | str b =>
      have e : (if (b.length == 0) = false ∧ t.length + 2 ≤ SZ ∧ (Txt.split t b).length ≤ SZ then some (D.lst ((Txt.split t b).map .str)) else none) = some r := e
      by_cases hc : (b.length == 0) = false ∧ t.length + 2 ≤ SZ ∧ (Txt.split t b).length ≤ SZ
      · rw [if_pos hc] at e
        cases e
        refine mt_split pins s σ z.H _ _ v us Q I rx rs ⟨t, b, rfl, by rw [hd.str_inv], hc.1, by rw [sizeLine_eq]; exact hc.2.1, fun p hp => ?_⟩
        obtain ⟨z1, e1, e2, e3, e4, e5⟩ := new_lst hs hp (by rw [List.length_map]; exact hc.2.2) (reps_strs (Txt.split t b))
        rw [← e1]; exact q _ z1 e2 e3 e4 e5
      · rw [if_neg hc] at e; cases e
    | _ => cases e
  | .join => by
    intro pins s σ H x xs v us Q I rx rs h
    obtain ⟨z, t, d, r, u, rfl, hs, rfl, rfl, hd, e, q⟩ := h
    have e : (match asLst z.S d with
      | some ds => (match strsOf ds with
        | some ys => if (ys.map (·.length)).sum + ys.length * t.length ≤ 16777216 then some (D.str (Txt.join t ys)) else none
        | none => none)
      | none => none) = some r := e
    split at e
    · rename_i ds h1
      split at e
      · rename_i ys h2
        obtain ⟨a, vs, rfl, _, h3, h4⟩ := asLst_ok hs hd h1
        rw [strsOf_ok h3 h2] at h4
        split at e
        · rename_i hz
          cases e
          exact mt_join pins s σ z.H _ _ v us Q I rx rs ⟨t, a, ys, rfl, rfl, h4.imp id (·.1), hz, q _ z rfl (Ext.refl z) hs .str_⟩
        · cases e
      · cases e
    · cases e
theorem me_slot : ∀ m : Me, Slot "str" (meName m) (meId m) ∧ typeOf (.builtin (meId m)) = pure (.type "method_descriptor")
  | .split => ⟨F.slot_str_split, F.type_str_split⟩
  | .join => ⟨F.slot_str_join, F.type_str_join⟩
theorem s_m1 {apos : Pos} (m : Me) (ho : PE X pa (tE X W fa)) (hx : PE X pb (tE X W fb)) (hbase : attributeBase pa (meName m) X.env (eval pa X.env) = eval pa X.env) (hline : (apos.endLine == pos.line) = true)
    (hst : starEach [pb] X.env = [(false, eval pb X.env)]) :
    PE X (.Call (.Attribute pa (meName m) apos) [pb] [] pos) (tE X W fun e S => (fa e S).bind fun o S => match o with
    | .str t => (fb e S).bind fun d S => optR (m1op S m t d) S
    | _ => .bad) :=
  PE_imp (pe_m1 (me_slot m).1 (me_slot m).2 (me_ok m) ho hx hst hbase hline) fun σ H Q h => by
    obtain ⟨z, e, rfl, hs, he, P⟩ := h
    refine ⟨z, e, rfl, hs, he, P.bind.imp fun o z1 x1 s1 P1 v rv => ?_⟩
    cases o with
    | str t =>
      refine ⟨⟨t, rv.str_inv⟩, z1, e, rfl, s1, he.mono x1, P1.bind.imp fun d z2 x2 s2 P3 u ru => ?_⟩
      obtain ⟨r, e2, _⟩ := P3.opt s2
      rw [e2] at P3
      exact ⟨z2, t, d, r, u, rfl, s2, rv.str_inv, rfl, ru, e2, fun w z3 h1 h2 h3 h4 => P3 z3 h1 h2 h3 w h4⟩
    | _ => exact P1.elim
end
end PyI

set_option maxRecDepth 100000
set_option maxHeartbeats 4000000
namespace PyI
open PySem PySem.Spec PyProof.Rows L2
/-! ## t.index(x) of a tuple -/
def rIdxT (K : PySem.W.Frag) : V → List V → Hp → VK → Prop := fun x xs H Q => ∃ (a : Addr) (y : V) (d : PyData) (ds : List PyData) (j : Nat) (z : PyData), x = .ref a ∧ xs = [y] ∧ Dp K H (.ref a) (.tuple ds) ∧ Dp K H y d ∧
  SeqAt.shaped (.list ds) = true ∧ SeqAt.shaped d = true ∧ ds[j]? = some z ∧ PyData.eqv z d = true ∧ (∀ (m : Nat) (z' : PyData), m < j → ds[m]? = some z' → PyData.eqv z' d = false) ∧ Q (.int (j : Nat)) H
theorem mt_idxT {X : Cx} (hu : X.A.units + 65 < cLine) : MtR X "tuple.index" (rIdxT X.K) := by
  intro pins s σ H x xs v us Q I rx rxs h
  obtain ⟨a, y, d, ds, j, z, rfl, rfl, hl, hy, sl, sd, hz, hzj, hno, q⟩ := h
  cases rx
  obtain ⟨uy, rfl, ry⟩ : ∃ uy, us = [uy] ∧ RelV y uy := by
    cases rxs with
    | cons r1 r2 => cases r2; exact ⟨_, rfl, r1⟩
  obtain ⟨bs, q1⟩ := Dp.reads I d y uy hy ry
  cases hl with
  | tup hs ha =>
    obtain ⟨its, rv, ⟨⟨cl, dd, dt, sls⟩, ho, hc, n, hd⟩, hlen⟩ := I.tuple hs
    simp only at hc hd
    subst hc hd
    obtain ⟨as, q2⟩ := Dp.readsAll I ds _ its ha rv
    have lay : PyData.canLayAll0 ds = true := SeqAt.canLay_of_shaped sl
    have ln : its.length = ds.length := SeqAt.ReadsAll.length ds its as q2
    have mp : its.map (SeqAt.readOf s.heap) = ds := SeqAt.readsAll_map ds its as lay q2
    have jd : j < ds.length := (List.getElem?_eq_some_iff.mp hz).1
    have jl : j < its.toArray.size := by rw [List.size_toArray, ln]; exact jd
    have rd : ∀ (m : Nat) (hm : m < its.toArray.size) (w : PyData), ds[m]? = some w → SeqAt.readOf s.heap its.toArray[m] = w := fun m hm w hw => by
      have hm' : m < its.length := by rwa [List.size_toArray] at hm
      rw [← mp, List.getElem?_map, List.getElem?_eq_getElem hm', Option.map_some] at hw
      rw [List.getElem_toArray]
      exact Option.some.inj hw
    refine call_meets PySem.F.slot_tuple_index ⟨_, ho, rfl⟩ PySem.F.entry_tuple_index (PySem.F.args_tuple_index_2 _ _) (SeqAt.tuple_index2_found a its.toArray n dd sls uy (fun j => if hj : j < its.toArray.size then PyData.eqv (SeqAt.readOf s.heap its.toArray[j]) d else false) j jl (Nat.zero_le _) jl ?_ fun m hm _ hmj => ?_)
      ⟨ho, fun i hi => ?_, ?_⟩
    · rw [dif_pos jl, rd j jl z hz]; exact hzj
    · have hmd : m < ds.length := by omega
      rw [dif_pos hm, rd m hm _ (List.getElem?_eq_getElem hmd)]
      exact hno m _ hmj (List.getElem?_eq_getElem hmd)
    · simp only [dif_pos hi]
      exact SeqAt.items_eqAt (vs := its.toArray) (show ReadsAll s.heap its.toArray.toList ds as from q2) q1 lay (SeqAt.canLay_of_shaped sd) (room_in_shaped sd hu) _ (Array.getElem_mem hi)
    · exact ⟨.int (j : Nat), H, I.tok _, ⟨_, rfl⟩, q⟩

section
variable {X : Cx} {W : WX} {pa pb : Expr} {fa fb : Env → Store → Rs D} {pos : Pos}
/-- a method of a tuple whose object is known -/
theorem pe_bmF {name id : String} {r : V → List V → Hp → VK → Prop} {to : TE} {t : TA} {o e : Expr} {es : List Expr} {apos cpos : Pos} (pa : PlainAttrs "tuple") (slot : Slot "tuple" name id) (hty : typeOf (.builtin id) = pure (.type "method_descriptor")) (hm : MtR X id r) (ho : PE X o to) (ha : PA X (e :: es) t)
    (hbase : attributeBase o name X.env (eval o X.env) = eval o X.env) (hfew : ((backTo cpos (starEach (e :: es) X.env)).all (fun x => !x.1) && (backToKw cpos (keywordEach [] X.env)).all (fun x => x.1.isSome) && decide ((e :: es).length + ([] : List Keyword).length + (if ([] : List Keyword).isEmpty then 0 else 1) < 30)) = true)
    (hline : (apos.endLine == cpos.line) = true) (hs : starEach (e :: es) X.env = (false, eval e X.env) :: starEach es X.env) (hplain : (backTo cpos (starEach es X.env)).any (·.1) = false) :
    PE X (.Call (.Attribute o name apos) (e :: es) [] cpos) (fun σ H Q => to σ H fun x H1 => ∃ a q xs, x = .ref a ∧ H1 a = some (.frz q (.tup xs)) ∧ q.cls = .type "tuple" ∧ q.dict = none ∧ t σ H1 fun vs H2 => r x vs H2 Q) := by
  refine ⟨fun pins s σ H Q I h => ?_⟩
  refine wpAny_Call_method_late hbase hfew hline rfl (thn (ho.run pins s σ H _ I h) fun v s1 ⟨x, H1, I1, r1, a, q, xs, ex, ea, e1, e2, q1⟩ => ?_)
  subst ex
  obtain rfl : v = Value.ref a := r1
  obtain ⟨hob, _⟩ := I1.hok a _ ea
  refine ⟨"tuple", id, pa, slot, hty, ⟨q, hob, e1⟩, fun b hb => (by cases hb; exact ⟨q, hob, e2⟩), ?_⟩
  have hA := ha.run cpos pins s1 σ H1 _ I1 q1
  rw [hs] at hA ⊢
  exact Calls.callWith_builtin (by show (false || (backTo cpos (starEach es X.env)).any (·.1)) = false; rw [hplain]; rfl) (Calls.evalArgs_plain (thn hA fun us s2 ⟨vs, H2, I2, r2, q2⟩ => hm pins s2 σ H2 _ vs _ us Q I2 (show RelV (.ref a) (Value.ref a) from rfl) r2 q2))
theorem s_idxT {apos : Pos} (hu : X.A.units + 65 < cLine) (ho : PE X pa (tE X W fa)) (hx : PE X pb (tE X W fb)) (hbase : attributeBase pa "index" X.env (eval pa X.env) = eval pa X.env) (hline : (apos.endLine == pos.line) = true)
    (hst : starEach [pb] X.env = [(false, eval pb X.env)]) :
    PE X (.Call (.Attribute pa "index" apos) [pb] [] pos) (tE X W fun e S => (fa e S).bind fun o S => (optR (ftpOf o) S).bind fun ds S => (fb e S).bind fun d S => optR (idxL ds d) S) :=
  PE_imp (pe_bmF PySem.F.plainAttrs_tuple PySem.F.slot_tuple_index PySem.F.type_tuple_index (mt_idxT hu) ho (pa_cons hx pa_nil hst) hbase (by rw [hst]; rfl) hline hst (by rfl)) fun σ H Q h => by
    obtain ⟨z, e, rfl, hs, he, P⟩ := h
    refine ⟨z, e, rfl, hs, he, P.bind.imp fun o z1 x1 s1 P1 v rv => ?_⟩
    obtain ⟨ds, e1, P2⟩ := P1.bind.opt s1
    cases o with
    | ftup es =>
      cases e1
      have rv0 := rv
      unfold Rep at rv
      obtain ⟨a, xs, rfl, ⟨q, i1, i2, i3⟩, k2, k3⟩ := rv
      refine ⟨a, q, xs, rfl, i1.1, i2, i3, z1, e, rfl, s1, he.mono x1, P2.bind.imp fun d z2 x2 s2 P3 u ru => ?_⟩
      obtain ⟨r, e2, P4⟩ := P3.opt s2
      have e2 : (if (d.dat && dats ds && shD d && shL ds) = true then (findI d ds).map fun j => D.int (j : Nat) else none) = some r := e2
      by_cases hc : (d.dat && dats ds && shD d && shL ds) = true
      · rw [if_pos hc] at e2
        simp only [Bool.and_eq_true] at hc
        obtain ⟨⟨⟨c1, c2⟩, c3⟩, c4⟩ := hc
        obtain ⟨j, hj, rfl⟩ := Option.map_eq_some_iff.mp e2
        obtain ⟨p, p1, p2, p3⟩ := dat_py c1 ru
        obtain ⟨ps, s3, s4, s5⟩ := dats_py c2 (k3.mono x2)
        obtain ⟨⟨w, w1, w2⟩, hno⟩ := findI_ok hj
        obtain ⟨wp, w3, w4⟩ := (pys_get (i := j) s3).1 w w1
        have m1 : SqT X.K z2.H a xs := .inl (.inr ⟨q, (x2.im _ _ i1).1⟩)
        refine ⟨a, u, p, ps, j, wp, rfl, rfl, .tup m1 s5, p3, ?_, ?_, w3, ?_, fun m z' hm hz => ?_, P4 _ .int_⟩
        · unfold shL at c4; rw [s3] at c4; exact c4
        · unfold shD at c3; rw [p1] at c3; exact c3
        · rw [eqv_py w4 p1]; exact w2
        · obtain ⟨y, y1, y2⟩ := (pys_get (i := m) s3).2 z' hz
          rw [eqv_py y2 p1]; exact hno m y hm y1
      · rw [if_neg hc] at e2; cases e2
    | _ => cases e1
/-! ## tuple(l) of a list: its object is known -/
theorem call_frz : CallR X (.type "tuple") (fun xs H Q => ∃ p ys, xs = [.ref p] ∧ SqL X.K H p ys ∧ ∀ l (q : Obj), H l = none → q.cls = .type "tuple" → q.dict = none → Q (.ref l) (upd H l (.frz q (.tup ys)))) := by
  intro pins s σ H xs us Q I r h
  obtain ⟨p, ys, rfl, hq, q⟩ := h
  obtain ⟨u, rfl, rx⟩ := vals1 r
  cases rx
  obtain ⟨its, r', pl, hz⟩ := I.list hq
  have hlen := r'.length
  refine call_tuple_list pl.isList (fun h' kp => ?_) (by simp only [List.size_toArray] <;> omega)
  have J : Inv X pins σ H { s with heap := h' } := I.kept (t' := s.toks) kp
  exact ⟨.ref h'.objs.size, _, J.laid (t' := s.toks) (o := .frz { cls := .type "tuple", data := .seq its.toArray } (.tup ys)) (fun b o e => Heap.get?_push_of_some _ e) (Nat.le_refl _) ⟨Heap.get?_push_size _ rfl, hz, its, r', IsTup.new _ _⟩, rfl, q _ _ (J.hok.fresh (Nat.le_refl _)) rfl rfl⟩
theorem s_tupF {p : Pos} (hg : Gl X "tuple") (hm : X.mg "tuple" = none) (ha : PE X pa (tE X W fa)) (hst : starEach [pa] X.env = [(false, eval pa X.env)]) :
    PE X (.Call (.Name "tuple" p) [pa] [] pos) (tE X W fun e S => (fa e S).bind fun o S => optR ((lstOf S o).map fun ds => .ftup ds) S) :=
  PE_imp (pe_callTy call_frz hg hm (bi_boot .tuple) (pa_cons ha pa_nil hst) (by decide) (by decide) hst (by rfl)) fun σ H Q h => by
    obtain ⟨z, e, rfl, hs, he, P⟩ := h
    refine ⟨z, e, rfl, hs, he, P.bind.imp fun o z1 x1 s1 P1 v rv => ?_⟩
    obtain ⟨r, e1, _⟩ := P1.opt s1
    rw [e1] at P1
    obtain ⟨ds, e2, rfl⟩ := Option.map_eq_some_iff.mp e1
    obtain ⟨a, xs, rfl, k1, k3⟩ := lstOf_ok s1 rv e2
    have hl := lstOf_len s1 rv e2
    refine ⟨a, xs, rfl, k1, fun p q hp c1 c2 => ?_⟩
    obtain ⟨y1, y2, y3⟩ := new_im s1 (.frz q (.tup xs)) hp
    refine P1 ⟨z1.hd, z1.ρ, z1.S, upd z1.H p (.frz q (.tup xs))⟩ rfl y1 y2 _ ?_
    unfold Rep
    exact ⟨p, xs, rfl, ⟨q, y3, c1, c2⟩, hl, k3.mono y1⟩
/-! ## t[::-1] of a tuple -/
theorem adj_rev (n : Nat) : Builtin.Slice.sliceAdjust none none (-1) (n : Int) = ((n : Int) - 1, -1) := by
  unfold Builtin.Slice.sliceAdjust
  simp
theorem plc_rev (n : Nat) : Builtin.Slice.slicePlaces ((n : Int) - 1) (-1) (-1) = n := by
  unfold Builtin.Slice.slicePlaces
  have h1 : ¬ ((-1 : Int) > 0) := by omega
  simp only [h1, if_false]
  by_cases h : (n : Int) - 1 > -1
  · rw [if_pos h]
    have : ((n : Int) - 1 - -1 - 1) / (- -1) = n - 1 := by
      have e : (- -1 : Int) = 1 := rfl
      rw [e, Int.ediv_one]; omega
    rw [this]; omega
  · rw [if_neg h]; omega
theorem fm_congr {α β : Type} {f g : α → Option β} : ∀ {l : List α}, (∀ x ∈ l, f x = g x) → l.filterMap f = l.filterMap g
  | [], _ => rfl
  | x :: l, h => by
    rw [List.filterMap_cons, List.filterMap_cons, h x List.mem_cons_self, fm_congr fun y hy => h y (List.mem_cons_of_mem _ hy)]
theorem pick_rev (xs : Array Value) : ((List.range xs.size).filterMap fun (k : Nat) => xs[((xs.size : Int) - 1 + (k : Int) * -1).toNat]?).toArray = xs.toList.reverse.toArray := by
  have h := HT.pick_gen xs.toList.reverse.toArray 0 xs.size
  have e2 : ((xs.toList.reverse.toArray.toList.drop 0).take xs.size) = xs.toList.reverse := by
    rw [List.drop_zero, List.take_of_length_le]
    show xs.toList.reverse.length ≤ xs.size
    rw [List.length_reverse, Array.length_toList]
    exact Nat.le_refl _
  rw [e2] at h
  rw [← h]
  congr 1
  refine fm_congr fun k hk => ?_
  have hk : k < xs.size := List.mem_range.mp hk
  have hk2 : k < xs.toList.length := by rw [Array.length_toList]; exact hk
  have e3 : (((0 : Nat) : Int) + (k : Int) * 1).toNat = k := by omega
  have e : ((xs.size : Int) - 1 + (k : Int) * -1).toNat = xs.toList.length - 1 - k := by rw [Array.length_toList]; omega
  rw [e3, e, List.getElem?_toArray]
  rw [List.getElem?_toArray, List.getElem?_reverse hk2]
section
variable {prog : Program} {w : World} {A : Around} {E : Value → Shared → Prop} {s : Shared}
theorem app_rev {sl : Addr} {vl vu vs : Value} {n : Nat} {Q : Int × Int × Nat → Shared → Prop} (hs : s.heap.IsSliceOf sl vl vu vs) (pl : IsPart vl none) (pu : IsPart vu none) (ps : IsPart vs (some (-1))) (h : Q ((n : Int) - 1, -1, n) s) : wpAny (model prog w) A (Builtin.Slice.sliceApplied (.ref sl) (pure (n : Int))) Q E s := by
  obtain ⟨ob, h1, h2, h3⟩ := id hs
  unfold Builtin.Slice.sliceApplied Builtin.Slice.sliceFields
  refine wpAny_bind (wpAny_bind (wpAny_field h1 h3 (x := vl) rfl (wpAny_bind (wpAny_field h1 h3 (x := vu) rfl (wpAny_bind (wpAny_field h1 h3 (x := vs) rfl (wpAny_pure ?_)))))))
  refine wpAny_bind (HT.slicePart_ ps ?_)
  show wpAny _ _ (if ((-1 : Int) == 0) = true then _ else _) _ _ s
  rw [if_neg (by decide)]
  refine wpAny_bind (HT.slicePart_ pl (wpAny_bind (HT.slicePart_ pu (wpAny_bind (wpAny_pure ?_)))))
  show wpAny _ _ (match Builtin.Slice.sliceAdjust none none (-1) (n : Int) with | (lo, hi) => pure (lo, (-1 : Int), Builtin.Slice.slicePlaces lo hi (-1))) _ _ s
  rw [adj_rev n]
  show wpAny _ _ (pure ((n : Int) - 1, (-1 : Int), Builtin.Slice.slicePlaces ((n : Int) - 1) (-1) (-1))) _ _ s
  rw [plc_rev]
  exact wpAny_pure h
theorem get_rev {t sl : Addr} {items : Array Value} {vl vu vs : Value} {Q : Value → Shared → Prop} (ht : IsTup s.heap t items) (hs : s.heap.IsSliceOf sl vl vu vs) (pl : IsPart vl none) (pu : IsPart vu none) (ps : IsPart vs (some (-1)))
    (h : Q (.ref s.heap.objs.size) { s with heap := s.heap.push { cls := .type "tuple", data := .seq items.toList.reverse.toArray } }) (hz : items.size ≤ sizeLine) : wpAny (model prog w) A (getItem (.ref t) (.ref sl)) Q E s := by
  have fits : sizeOk (.seq items.toList.reverse.toArray) := by
    show items.toList.reverse.toArray.size ≤ sizeLine
    rw [List.size_toArray, List.length_reverse, Array.length_toList]; exact hz
  obtain ⟨ob, h1, h2, h3⟩ := id hs
  have isS : s.TypeIs (.ref sl) "slice" := ⟨ob, h1, h2⟩
  unfold getItem
  try with_reducible refine wpAny_holding ?_
  first | refine wpAny_bind (wpAny_pure ?_) | skip
  refine wpAny_bind (wpAny_sequenceKey ht.typeIs (by decide) (wpAny_bind (wpAny_callSpecial?_slot (name := Str.ofString "__getitem__") ht.typeIs PyProof.Rows.slot_tuple_getitem (wpAny_call_entry PyProof.Rows.slot_tuple_getitem ht.typeIs entry_tuple_getitem ?_ (args_tuple_getitem _ _)))))
  show wpAny _ _ (Builtin.Tuple.tupleItemsOf (.ref t) >>= _) _ _ s
  refine wpAny_bind (tupleItemsOf_ ht (wpAny_bind (wpAny_typeOf isS ?_)))
  rw [if_pos (by decide)]
  refine wpAny_bind (app_rev hs pl pu ps ?_)
  have hno : ¬ (((((items.size : Int) - 1)) == 0 && (-1 : Int) == 1 && items.size == items.size) = true) := by
    rw [show ((-1 : Int) == 1) = false by decide, Bool.and_false, Bool.false_and]
    exact Bool.false_ne_true
  show wpAny _ _ (if (((items.size : Int) - 1) == 0 && (-1 : Int) == 1 && items.size == items.size) = true then _ else _) _ _ s
  rw [if_neg hno, pick_rev]
  first
    | exact wpAny_bind (m := Builtin.Tuple.tupleExact _) (wpAny_newObj_type (wpAny_pure ⟨_, rfl, wpAny_pure h⟩) fits)
    | exact wpAny_bind (m := Builtin.Tuple.tupleExact _) (wpAny_newObj_type (wpAny_bind (wpAny_pure (wpAny_pure ⟨_, rfl, wpAny_pure h⟩))) fits)
    | exact wpAny_bind (wpAny_bind (m := Builtin.Tuple.tupleExact _) (wpAny_newObj_type (wpAny_pure (wpAny_pure ⟨_, rfl, wpAny_pure h⟩)) fits))
    | exact wpAny_bind (wpAny_bind (m := Builtin.Tuple.tupleExact _) (wpAny_newObj_type (wpAny_pure ⟨_, rfl, wpAny_pure h⟩) fits))
end
theorem pe_revT {e : Expr} {te : TE} {k : Nat} {p1 p2 p3 : Pos} (he : PE X e te) : PE X (.Subscript e (.Slice none none (some (.UnaryOp .USub (.Constant (.int 1) k p1) p2)) p3) pos) (fun σ H Q => te σ H fun x H1 => ∃ a xs, x = .ref a ∧ SqT X.K H1 a xs ∧ ∀ p, H1 p = none → Q (.ref p) (upd H1 p (.tup xs.reverse))) := by
  refine ⟨fun pins s σ H Q I h => ?_⟩
  refine Subscript_ (thn (he.run pins s σ H _ I h) fun v s1 ⟨x, H1, I1, r1, a, xs, ex, hx, q⟩ => ?_)
  subst ex
  obtain rfl : v = Value.ref a := r1
  have hp : PO X (some (.UnaryOp .USub (.Constant (.int 1) k p1) p2)) (tPart (tUn (rU fun i => .int (-i)) (tC (.int 1)))) := po_some (pe_un un_neg pe_int)
  refine wpAny_Slice (thn (po_none.run pins s1 σ H1 (fun o G => o = none ∧ G = H1) I1 ⟨rfl, rfl⟩) fun vl s2 ⟨l, G2, I2, pl, el, e2⟩ => ?_)
  subst el e2
  refine thn (po_none.run pins s2 σ G2 (fun o G => o = none ∧ G = G2) I2 ⟨rfl, rfl⟩) fun vu s3 ⟨u, G3, I3, pu, eu, e3⟩ => ?_
  subst eu e3
  refine thn (hp.run pins s3 σ G3 (fun o G => o = some (-1) ∧ G = G3) I3 ⟨1, rfl, -1, rfl, rfl, rfl⟩) fun vs s4 ⟨o, G4, I4, ps, eo, e4⟩ => ?_
  subst eo e4
  have J : Inv X pins σ G4 { s4 with heap := s4.heap.push { cls := .type "slice", data := .fields #[vl, vu, vs] } } := I4.kept (t' := s4.toks) fun b ob q => Heap.get?_push_of_some _ q
  obtain ⟨its, r, ht, hz⟩ := J.tuple hx
  have hlen := r.length
  show wpAny (model X.prog X.w) X.A (subscriptTail e (.Slice none none (some (.UnaryOp .USub (.Constant (.int 1) k p1) p2)) p3) (.ref a) (.ref s4.heap.objs.size)) (EP X pins σ Q) X.xe { s4 with heap := s4.heap.push { cls := .type "slice", data := .fields #[vl, vu, vs] } }
  refine tail_any (ops := [.ref a, .ref s4.heap.objs.size]) ht.typeIs PyProof.Rows.slot_tuple_getitem.lookup ?_ (by with_unfolding_all rfl)
  refine get_rev ht (Heap.IsSliceOf.new _ vl vu vs) pl pu ps ?_ (by rw [List.size_toArray]; omega)
  refine ⟨.ref _, _, J.laid (t' := s4.toks) (o := .tup xs.reverse) (fun b ob q => Heap.get?_push_of_some _ q) (Nat.le_refl _) ?_, rfl, q _ (J.hok.fresh (Nat.le_refl _))⟩
  exact ⟨by rw [List.length_reverse]; exact hz, _, r.reverse, IsTup.new _ _⟩
theorem s_revT {k : Nat} {p1 p2 p3 : Pos} (ho : PE X pa (tE X W fa)) : PE X (.Subscript pa (.Slice none none (some (.UnaryOp .USub (.Constant (.int 1) k p1) p2)) p3) pos) (tE X W fun e S => (fa e S).bind fun o S => optR ((tupOf o).map fun ds => .tup ds.reverse) S) :=
  PE_imp (pe_revT ho) fun σ H Q h => by
    obtain ⟨z, e, rfl, hs, he, P⟩ := h
    refine ⟨z, e, rfl, hs, he, P.bind.imp fun o z1 x1 s1 P1 v rv => ?_⟩
    cases o with
    | tup ds =>
      obtain ⟨a, xs, rfl, k1, k2, k3⟩ := rv.tup_inv
      refine ⟨a, xs, rfl, k1, fun p hp => ?_⟩
      obtain ⟨z2, w1, w2, w3, w4, w5⟩ := new_tup (ds := ds.reverse) (xs := xs.reverse) s1 hp (by rw [List.length_reverse]; exact k2) k3.reverse
      rw [← w1]
      exact P1 z2 w2 w3 w4 _ w5
    | _ => exact P1.elim
theorem s_unf (ha : PE X pa (tE X W fa)) : PE X pa (tE X W fun e S => (fa e S).bind fun o S => .ok (unfD o) S) :=
  PE_imp ha fun σ H Q h => by
    obtain ⟨z, e, rfl, hs, he, P⟩ := h
    refine ⟨z, e, rfl, hs, he, P.bind.imp fun o z1 x1 s1 P1 v rv => ?_⟩
    refine Post.val P1 s1 v ?_
    cases o with
    | ftup ds =>
      unfold Rep at rv
      obtain ⟨a, xs, rfl, ⟨q, i1, _⟩, k2, k3⟩ := rv
      unfold unfD Rep
      exact ⟨a, xs, rfl, .inl (.inr ⟨q, i1⟩), k2, k3⟩
    | _ => exact rv
end
end PyI

set_option maxRecDepth 100000
namespace PyI
open PySem PySem.Spec PyProof.Rows L2
/-! ## targets -/
def setVs (σ : L2.St) : List Nat → List V → L2.St
  | i :: is, v :: vs => setVs (σ.set i (some v)) is vs
  | _, _ => σ
theorem wipe_set {i : Nat} {v : Option V} : ∀ {own : List Nat} {σ : L2.St}, i ∈ own → wipe (σ.set i v) own = wipe σ own
  | [], _, h => by simp at h
  | o :: own, σ, h => by
    unfold wipe
    by_cases ho : i ∈ own
    · rw [wipe_set ho]
    · have : i = o := by
        rcases List.mem_cons.mp h with h | h
        · exact h
        · exact absurd h ho
      subst this
      have e : ∀ {own : List Nat} {σ : L2.St}, i ∉ own → (wipe (σ.set i v) own).set i none = (wipe σ own).set i none := by
        intro own
        induction own with
        | nil => intro σ _; simp [wipe]
        | cons o own ih =>
          intro σ h
          have h1 : i ≠ o := fun e => h (by rw [e]; exact List.mem_cons_self)
          have h2 : i ∉ own := fun e => h (List.mem_cons_of_mem _ e)
          unfold wipe
          rw [List.set_comm _ _ (Ne.symm h1), ih h2, List.set_comm _ _ (Ne.symm h1)]
      exact e ho
theorem wipe_sub {own : List Nat} {σ : L2.St} : ∀ {own' : List Nat}, (∀ i ∈ own', i ∈ own) → wipe (wipe σ own') own = wipe σ own
  | [], _ => rfl
  | o :: own', h => by
    show wipe ((wipe σ own').set o none) own = _
    rw [wipe_set (h o List.mem_cons_self), wipe_sub fun i hi => h i (List.mem_cons_of_mem _ hi)]
theorem wipe_wipe (σ : L2.St) (own : List Nat) : wipe (wipe σ own) own = wipe σ own := wipe_sub fun _ h => h
theorem wipe_setVs {own : List Nat} : ∀ {is : List Nat} {vs : List V} {σ : L2.St}, (∀ i ∈ is, i ∈ own) → wipe (setVs σ is vs) own = wipe σ own
  | [], _, _, _ => rfl
  | _ :: _, [], _, _ => rfl
  | i :: is, v :: vs, σ, h => by
    show wipe (setVs (σ.set i (some v)) is vs) own = _
    rw [wipe_setVs (fun j hj => h j (List.mem_cons_of_mem _ hj)), wipe_set (h i List.mem_cons_self)]
theorem setVs_length : ∀ {is : List Nat} {vs : List V} {σ : L2.St}, (setVs σ is vs).length = σ.length
  | [], _, _ => rfl
  | _ :: _, [], _ => rfl
  | i :: is, v :: vs, σ => by
    show (setVs (σ.set i (some v)) is vs).length = _
    rw [setVs_length, List.length_set]
theorem setN_ok {K : PySem.W.Frag} {z : Zw} : ∀ {is : List Nat} {ds : List D} {vs : List V} {e e' : Env} {σ : L2.St}, setN e is ds = some e' → EnvOk K z e σ → Reps K z ds vs → vs.length = is.length ∧ EnvOk K z e' (setVs σ is vs)
  | [], [], _, _, _, _, h, he, r => by cases h; rw [r.nil_inv]; exact ⟨rfl, he⟩
  | i :: is, d :: ds, _, e, e', σ, h, he, r => by
    obtain ⟨v, vs, rfl, h1, h2⟩ := r.cons_inv
    have := setN_ok (is := is) (e := e.set i (some d)) (σ := σ.set i (some v)) h (he.set i h1) h2
    exact ⟨by simp [this.1], this.2⟩
  | [], _ :: _, _, _, _, _, h, _, _ => by cases h
  | _ :: _, [], _, _, _, _, h, _, _ => by cases h
def tgI : Tg → List Nat
  | .nm i => [i]
  | .tp is => is
  | .tp2 i js => i :: js
/-- storing to a target, by the evaluator -/
def tG (X : Cx) (t : Tg) : TG := fun v σ H Q => ∃ z e d e', z.H = H ∧ StOk X.K z ∧ EnvOk X.K z e σ ∧ Rep X.K z d v ∧ setT e t d = some e' ∧
  ∀ σ', EnvOk X.K z e' σ' → (∀ own : List Nat, (∀ i ∈ tgI t, i ∈ own) → wipe σ' own = wipe σ own) → Q σ' z.H
/-- a name that may be stored -/
def Sto (X : Cx) (i : Nat) (x : Str) : Prop := X.N[i]? = some x ∧ Loc X.env.scope x ∧ (X.fn x = true ∨ X.env.scope.names.lookup x = some .local)
section
variable {X : Cx} {W : WX} {pos : Pos}
theorem PG_imp {e : Expr} {t t' : TG} (h : PG X e t) (f : ∀ v σ H Q, t' v σ H Q → t v σ H Q) : PG X e t' := ⟨fun pins s σ H v u Q I r q => h.run pins s σ H v u Q I r (f _ _ _ _ q)⟩
theorem s_nm {i : Nat} {x : Str} (hN : X.N.Nodup) (s : Sto X i x) : PG X (.Name x pos) (tG X (.nm i)) :=
  PG_imp (pg_name hN s.1 s.2.1 s.2.2) fun v σ H Q h => by
    obtain ⟨z, e, d, e', rfl, hs, he, r, q, k⟩ := h
    cases q
    exact k _ (he.set i r) fun own ho => wipe_set (ho i (by simp [tgI]))
inductive Stos (X : Cx) : List Nat → List Expr → Prop
  | nil : Stos X [] []
  | cons {i : Nat} {x : Str} {p : Pos} {is : List Nat} {es : List Expr} : Sto X i x → Stos X is es → Stos X (i :: is) (.Name x p :: es)
theorem assignEach_name {x : Str} {p : Pos} {es : List Expr} {env : PySem.Env} : (assignEach (Expr.Name x p :: es) env) = (false, assign (Expr.Name x p) env) :: assignEach es env := by rfl
theorem Stos.each {is : List Nat} {es : List Expr} (h : Stos X is es) : (assignEach es X.env).length = is.length ∧ (assignEach es X.env).findIdx? (·.1) = none := by
  induction h with
  | nil => exact ⟨rfl, rfl⟩
  | cons s _ ih =>
    rw [assignEach_name]
    refine ⟨by simp [ih.1], ?_⟩
    rw [List.findIdx?_cons]
    simp [ih.2]
theorem s_nms (hN : X.N.Nodup) {is : List Nat} {es : List Expr} (h : Stos X is es) : PGs X es (fun vs σ H Q => vs.length = is.length ∧ Q (setVs σ is vs) H) := by
  induction h with
  | nil =>
    refine ⟨fun pins s σ H vs us Q I r hq => pgs_nil.run pins s σ H vs us Q I r ?_⟩
    have : vs = [] := List.eq_nil_of_length_eq_zero hq.1
    subst this
    exact ⟨rfl, hq.2⟩
  | @cons i x p is es s _ ih =>
    refine ⟨fun pins st σ H vs us Q I r hq => (pgs_cons (pg_name (pos := p) hN s.1 s.2.1 s.2.2) ih (by rw [assignEach_name]; rfl)).run pins st σ H vs us Q I r ?_⟩
    obtain ⟨hl, hq⟩ := hq
    cases vs with
    | nil => cases hl
    | cons v vs => exact ⟨v, vs, rfl, Nat.succ.inj hl, hq⟩
theorem s_tp {is : List Nat} {es : List Expr} {k : Nat} (hN : X.N.Nodup) (hc : X.calm = true) (h : Stos X is es) : PG X (.Tuple es k pos) (tG X (.tp is)) :=
  PG_imp (pg_tup (n := is.length) hc (s_nms hN h) h.each.1 h.each.2) fun v σ H Q hh => by
    obtain ⟨z, e, d, e', rfl, hs, he, r, q, kk⟩ := hh
    cases d with
    | tup ds =>
      obtain ⟨a, xs, rfl, h1, _, h3⟩ := r.tup_inv
      obtain ⟨h4, h5⟩ := setN_ok (show setN e is ds = some e' from q) he h3
      exact ⟨a, xs, rfl, h1, h4, h4, kk _ h5 fun own ho => wipe_setVs ho⟩
    | _ => cases q
theorem s_tp2 {i : Nat} {x : Str} {js : List Nat} {es : List Expr} {k k2 : Nat} {p p2 : Pos} (hN : X.N.Nodup) (hc : X.calm = true) (s : Sto X i x) (h : Stos X js es) : PG X (.Tuple [.Name x p, .Tuple es k2 p2] k pos) (tG X (.tp2 i js)) :=
  PG_imp (pg_tup (n := 2) hc (pgs_cons (pg_name (pos := p) hN s.1 s.2.1 s.2.2) (pgs_cons (pg_tup (n := js.length) hc (s_nms hN h) h.each.1 h.each.2) pgs_nil)) rfl rfl) fun v σ H Q hh => by
    obtain ⟨z, e, d, e', rfl, hs, he, r, q, kk⟩ := hh
    have : ∃ d1 ds, d = .tup [d1, .tup ds] ∧ setN (e.set i (some d1)) js ds = some e' := by
      cases d with
      | tup l =>
        rcases l with _ | ⟨d1, _ | ⟨d2, _ | ⟨d3, l⟩⟩⟩
        · cases q
        · cases q
        · cases d2 with
          | tup ds => exact ⟨d1, ds, rfl, q⟩
          | _ => cases q
        · cases d2 <;> cases q
      | _ => cases q
    obtain ⟨d1, ds, rfl, q⟩ := this
    obtain ⟨a, xs, rfl, h1, _, h3⟩ := r.tup_inv
    obtain ⟨v1, r1, rfl, w1, w2⟩ := h3.cons_inv
    obtain ⟨v2, r2, rfl, w3, w4⟩ := w2.cons_inv
    have := w4.nil_inv
    subst this
    obtain ⟨b, ys, rfl, h4, _, h6⟩ := w3.tup_inv
    obtain ⟨h7, h8⟩ := setN_ok q (he.set i w1) h6
    refine ⟨a, _, rfl, h1, rfl, v1, _, rfl, _, [], rfl, b, ys, rfl, h4, h7, h7, rfl, kk _ h8 fun own ho => ?_⟩
    rw [wipe_setVs fun j hj => ho j (List.mem_cons_of_mem _ hj), wipe_set (ho i List.mem_cons_self)]
/-! ## what is walked -/
structure ItOk (K : PySem.W.Frag) (z : Zw) (s : Src) (J : L2.It) : Prop where
  goes : ∀ z' i, Ex0 z z' → StOk K z' → srcOk z'.S s = true → i < s.1.length → J.go i z'.H
  stops : ∀ z', Ex0 z z' → StOk K z' → srcOk z'.S s = true → J.stop s.1.length z'.H
  yields : ∀ z' i x H', Ex0 z z' → StOk K z' → srcOk z'.S s = true → i < s.1.length → J.yld i z'.H x H' → ∃ z2 d, z2.H = H' ∧ z2.S = z'.S ∧ Ext z' z2 ∧ StOk K z2 ∧ s.1[i]? = some d ∧ Rep K z2 d x
theorem Ex0.trans {a b c : Zw} (x : Ex0 a b) (y : Ex0 b c) : Ex0 a c := ⟨x.pre.trans y.pre, fun p o h => y.im p o (x.im p o h)⟩
theorem Ex0.refl (z : Zw) : Ex0 z z := ⟨List.prefix_refl _, fun _ _ h => h⟩
theorem ItOk.mono {K : PySem.W.Frag} {z z1 : Zw} {s : Src} {J : L2.It} (x : Ex0 z z1) (h : ItOk K z s J) : ItOk K z1 s J :=
  ⟨fun z' i a => h.goes z' i (x.trans a), fun z' a => h.stops z' (x.trans a), fun z' i y H' a => h.yields z' i y H' (x.trans a)⟩
def tI (X : Cx) (W : WX) (f : Env → Store → Rs Src) : TI := fun σ H R => ∃ z e, z.H = H ∧ StOk X.K z ∧ EnvOk X.K z e σ ∧ Post X.K X.mg W z (f e z.S) fun s z1 => ∀ J, ItOk X.K z1 s J → R J z1.H
theorem PI_imp {tg e : Expr} {t t' : TI} (h : PI X tg e t) (f : ∀ σ H Q, t' σ H Q → t σ H Q) : PI X tg e t' := ⟨fun pins s σ H Q I q => h.run pins s σ H Q I (f _ _ _ q)⟩
theorem PI_or {tg e : Expr} {t t' : TI} (h : PI X tg e t) (h' : PI X tg e t') : PI X tg e (fun σ H Q => t σ H Q ∨ t' σ H Q) :=
  ⟨fun pins s σ H Q I q => q.elim (fun q => h.run pins s σ H Q I q) fun q => h'.run pins s σ H Q I q⟩
section
variable {K : PySem.W.Frag} {z : Zw}
theorem it_seqL {ds : List D} {a : Addr} {xs : List V} (h : ∀ z', Ex0 z z' → SqL K z'.H a xs) (r : Reps K z ds xs) : ItOk K z (ds, none) (Itl K a) where
  goes := fun z' i x s _ hi => ⟨xs, xs[i]'(by rw [← r.length]; exact hi), h z' x, by simp [List.getElem?_eq_getElem, ← r.length, show i < ds.length from hi]⟩
  stops := fun z' x s _ => ⟨xs, h z' x, by rw [← r.length]; exact Nat.le_refl _⟩
  yields := fun z' i v H' x s _ hi y => by
    obtain ⟨rfl, y⟩ := y
    have e := y xs (h z' x)
    have hi : i < ds.length := hi
    obtain ⟨w, e1, e2⟩ := r.get (List.getElem?_eq_getElem hi)
    rw [e] at e1; cases e1
    exact ⟨z', ds[i], rfl, rfl, Ext.refl _, s, List.getElem?_eq_getElem hi, e2.mono0 x⟩
theorem it_seqT {ds : List D} {a : Addr} {xs : List V} (h : ∀ z', Ex0 z z' → SqT K z'.H a xs) (r : Reps K z ds xs) : ItOk K z (ds, none) (Itt K a) where
  goes := fun z' i x s _ hi => ⟨xs, xs[i]'(by rw [← r.length]; exact hi), h z' x, by simp [List.getElem?_eq_getElem, ← r.length, show i < ds.length from hi]⟩
  stops := fun z' x s _ => ⟨xs, h z' x, by rw [← r.length]; exact Nat.le_refl _⟩
  yields := fun z' i v H' x s _ hi y => by
    obtain ⟨rfl, y⟩ := y
    have e := y xs (h z' x)
    have hi : i < ds.length := hi
    obtain ⟨w, e1, e2⟩ := r.get (List.getElem?_eq_getElem hi)
    rw [e] at e1; cases e1
    exact ⟨z', ds[i], rfl, rfl, Ext.refl _, s, List.getElem?_eq_getElem hi, e2.mono0 x⟩
theorem it_obj {r : Nat} {ds : List D} {a : Addr} (ha : z.ρ[r]? = some a) : ItOk K z (ds, some r) (Itl K a) := by
  have at_ : ∀ z', Ex0 z z' → StOk K z' → srcOk z'.S (ds, some r) = true → ∃ xs, z'.H a = some (.lst xs) ∧ Reps K z' ds xs := fun z' x s h => by
    obtain ⟨xs, h1, _, h3⟩ := s.ob r _ a (srcOk_some.mp h) (pre_get x.pre ha)
    exact ⟨xs, h1, h3⟩
  refine ⟨fun z' i x s h hi => ?_, fun z' x s h => ?_, fun z' i v H' x s h hi y => ?_⟩
  · obtain ⟨xs, h1, h3⟩ := at_ z' x s h
    exact ⟨xs, xs[i]'(by rw [← h3.length]; exact hi), .of h1, by simp [List.getElem?_eq_getElem, ← h3.length, show i < ds.length from hi]⟩
  · obtain ⟨xs, h1, h3⟩ := at_ z' x s h
    exact ⟨xs, .of h1, by rw [← h3.length]; exact Nat.le_refl _⟩
  · obtain ⟨xs, h1, h3⟩ := at_ z' x s h
    obtain ⟨rfl, y⟩ := y
    have e := y xs (.of h1)
    have hi : i < ds.length := hi
    obtain ⟨w, e1, e2⟩ := h3.get (List.getElem?_eq_getElem hi)
    rw [e] at e1; cases e1
    exact ⟨z', ds[i], rfl, rfl, Ext.refl _, s, List.getElem?_eq_getElem hi, e2⟩
theorem it_rng {lo : Int} {n : Nat} : ItOk K z (itInts lo n, none) (Itr lo n) where
  goes := fun z' i x s _ hi => by
    show i < n
    simpa [itInts] using hi
  stops := fun z' x s _ => by simp [itInts, Itr]
  yields := fun z' i v H' x s _ hi y => by
    obtain ⟨rfl, rfl⟩ := y
    have hi : i < n := by simpa [itInts] using hi
    exact ⟨z', .int (lo + (i : Nat)), rfl, rfl, Ext.refl _, s, by simp [itInts, hi], .int_⟩
theorem it_str {t : Str} : ItOk K z (t.cps.toList.map fun c => D.str ⟨#[c]⟩, none) (Its t) where
  goes := fun z' i x s _ hi => by
    show i < t.cps.size
    simpa using hi
  stops := fun z' x s _ => by simp [Its]
  yields := fun z' i v H' x s _ hi y => by
    obtain ⟨rfl, c, h1, rfl⟩ := y
    exact ⟨z', .str ⟨#[c]⟩, rfl, rfl, Ext.refl _, s, by simp [List.getElem?_map, h1], .str_⟩
end
variable {pa pb : Expr} {fa fb : Env → Store → Rs D} {tg : Expr}
theorem s_seq (ha : PE X pa (tE X W fa)) : PI X tg pa (tI X W fun e S => (fa e S).bind fun d S => optR (srcOf S d) S) :=
  PI_imp (PI_or (pi_list ha) (PI_or (pi_tup ha) (pi_str ha))) fun σ H Q h => by
    obtain ⟨z, e, rfl, hs, he, P⟩ := h
    have P : Post X.K X.mg W z ((fa e z.S).bind fun d S => optR (srcOf S d) S) (fun s z1 => ∀ J, ItOk X.K z1 s J → Q J z1.H) := P
    cases q : fa e z.S with
    | bad => rw [q] at P; exact P.elim
    | exc y e' S1 =>
      rw [q] at P
      refine .inl ⟨z, e, rfl, hs, he, ?_⟩
      rw [q]; exact P
    | ok d S1 =>
      rw [q] at P
      have P : Post X.K X.mg W z (optR (srcOf S1 d) S1) (fun s z1 => ∀ J, ItOk X.K z1 s J → Q J z1.H) := P
      have lst : ∀ ds, srcOf S1 d = some (ds, none) → (∀ z1, z1.S = S1 → Ext z z1 → StOk X.K z1 → ∀ J, ItOk X.K z1 (ds, none) J → Q J z1.H) := fun ds h => by
        rw [h] at P; exact P
      cases d with
      | tup ds =>
        refine .inr (.inl ⟨z, e, rfl, hs, he, ?_⟩)
        rw [q]
        intro z1 h1 h2 h3 v rv
        have rv0 := rv
        unfold Rep at rv
        obtain ⟨a, xs, rfl, k1, _, k3⟩ := rv
        refine ⟨a, rfl, ⟨xs, sqI k1⟩, lst ds rfl z1 h1 h2 h3 _ (it_seqT (xs := xs) (fun z' x => ?_) k3)⟩
        exact k1.elim (fun k => k.elim (fun k => SqT.of (x.im _ _ k).1) fun ⟨q, k⟩ => .inl (.inr ⟨q, (x.im _ _ k).1⟩)) sq0
      | lst ds =>
        refine .inl ⟨z, e, rfl, hs, he, ?_⟩
        rw [q]
        intro z1 h1 h2 h3 v rv
        unfold Rep at rv
        obtain ⟨a, xs, rfl, k1, _, k3⟩ := rv
        refine ⟨a, rfl, ⟨xs, .of k1.1⟩, lst ds rfl z1 h1 h2 h3 _ ?_⟩
        exact it_seqL (xs := xs) (fun z' x => .of (x.im _ _ k1).1) k3
      | rol ds =>
        refine .inl ⟨z, e, rfl, hs, he, ?_⟩
        rw [q]
        intro z1 h1 h2 h3 v rv
        unfold Rep at rv
        obtain ⟨a, xs, rfl, k1, _, k3⟩ := rv
        have hq : ∀ z', Ex0 z1 z' → SqL X.K z'.H a xs := fun z' x => k1.elim (fun ⟨_, k, e⟩ => .inl (e.imp (fun e => by subst e; exact (x.im _ _ k).1) fun ⟨q, e⟩ => by subst e; exact ⟨q, (x.im _ _ k).1⟩)) sl0
        exact ⟨a, rfl, ⟨xs, hq z1 (Ex0.refl _)⟩, lst ds rfl z1 h1 h2 h3 _ (it_seqL (xs := xs) hq k3)⟩
      | obj r =>
        simp only [srcOf] at P
        cases q2 : S1[r]? with
        | none => simp only [q2] at P; exact P.elim
        | some mo =>
          cases mo with
          | lst ds =>
            simp only [q2] at P
            refine .inl ⟨z, e, rfl, hs, he, ?_⟩
            rw [q]
            intro z1 h1 h2 h3 v rv
            obtain ⟨a, xs, rfl, k0, k1, _, k3⟩ := obj_inv h3 rv (by rw [h1]; exact q2)
            exact ⟨a, rfl, ⟨xs, .of k1⟩, P z1 h1 h2 h3 _ (it_obj k0)⟩
          | _ => simp only [q2] at P; exact P.elim
      | str t =>
        simp only [srcOf] at P
        by_cases hz : t.length ≤ SZ
        · rw [if_pos hz] at P
          refine .inr (.inr ⟨z, e, rfl, hs, he, ?_⟩)
          rw [q]
          exact fun z1 h1 h2 h3 v rv => ⟨t, rv.str_inv, P z1 h1 h2 h3 _ it_str⟩
        · rw [if_neg hz] at P; exact P.elim
      | _ => exact P.elim
theorem small_ok {i : Int} (h : small62 i = true) : -(2 ^ 62) ≤ i ∧ i < 2 ^ 62 := by
  unfold small62 at h
  obtain ⟨h1, h2⟩ := Bool.and_eq_true_iff.mp h
  exact ⟨of_decide_eq_true h1, of_decide_eq_true h2⟩
theorem s_rng {p : Pos} (ha : PE X pa (tE X W fa)) (hg : Gl X "range") (hm : X.mg "range" = none) (hst : starEach [pa] X.env = [(false, eval pa X.env)]) :
    PI X tg (.Call (.Name "range" p) [pa] [] pos) (tI X W fun e S => (fa e S).bind fun d S => match d with
    | .int j => if small62 j then .ok (itInts 0 j.toNat, none) S else .bad
    | _ => .bad) :=
  PI_imp (pi_range1 hg hm (pa_cons ha pa_nil hst) hst) fun σ H Q h => by
    obtain ⟨z, e, rfl, hs, he, P⟩ := h
    refine ⟨z, e, rfl, hs, he, P.bind.imp fun d z1 x1 s1 P1 v rv => ?_⟩
    cases d with
    | int j =>
      cases q : small62 j with
      | false => simp only [q] at P1; exact P1.elim
      | true =>
        simp only [q, if_true] at P1
        obtain ⟨h1, h2⟩ := small_ok q
        refine ⟨j, ?_, h1, h2, Post.val P1 s1 _ it_rng⟩
        rw [rv.int_inv]
    | _ => exact P1.elim
theorem s_rng2 {p : Pos} (ha : PE X pa (tE X W fa)) (hb : PE X pb (tE X W fb)) (hg : Gl X "range") (hm : X.mg "range" = none) (hst : starEach [pa, pb] X.env = [(false, eval pa X.env), (false, eval pb X.env)]) (hst2 : starEach [pb] X.env = [(false, eval pb X.env)]) :
    PI X tg (.Call (.Name "range" p) [pa, pb] [] pos) (tI X W fun e S => (fa e S).bind fun d S => (fb e S).bind fun d2 S => match d, d2 with
    | .int i, .int j => if small62 i && small62 j then .ok (itInts i (j - i).toNat, none) S else .bad
    | _, _ => .bad) :=
  PI_imp (pi_range2 hg hm (pa_cons ha (pa_cons hb pa_nil hst2) (by rw [hst, hst2])) hst hst2) fun σ H Q h => by
    obtain ⟨z, e, rfl, hs, he, P⟩ := h
    refine ⟨z, e, rfl, hs, he, P.bind.imp fun d z1 x1 s1 P1 v rv => ⟨z1, e, rfl, s1, he.mono x1, P1.bind.imp fun d2 z2 x2 s2 P2 u ru => ?_⟩⟩
    cases d with
    | int i =>
      cases d2 with
      | int j =>
        cases q : (small62 i && small62 j) with
        | false => simp only [q] at P2; exact P2.elim
        | true =>
          simp only [q, if_true] at P2
          obtain ⟨q1, q2⟩ := Bool.and_eq_true_iff.mp q
          obtain ⟨h1, h2⟩ := small_ok q1
          obtain ⟨h3, h4⟩ := small_ok q2
          refine ⟨i, j, ?_, ⟨h1, h2, h3, h4⟩, Post.val P2 s2 _ it_rng⟩
          rw [(rv.mono x2).int_inv, ru.int_inv]
      | _ => exact P2.elim
    | _ => exact P2.elim
/-! ## comprehensions -/
abbrev WF : WX := fun _ _ _ _ => False
theorem bind_ok {α β : Type} {r : Rs α} {f : α → Store → Rs β} {b : β} {S : Store} (h : r.bind f = .ok b S) : ∃ a S1, r = .ok a S1 ∧ f a S1 = .ok b S := by
  cases r with
  | ok a S1 => exact ⟨a, S1, rfl, h⟩
  | exc x e S1 => cases h
  | bad => cases h
theorem nox_ok {α : Type} {r : Rs α} {a : α} {S : Store} (h : r.nox = .ok a S) : r = .ok a S := by
  cases r with
  | ok b S1 => exact h
  | _ => cases h
/-- with a list held besides: D is written by the comprehension alone -/
structure ExtD (p : Addr) (z z' : Zw) : Prop where
  pre : z.ρ <+: z'.ρ
  im : ∀ a o, Im z a o → Im z' a o
  hd : z'.hd = p :: z.hd
  hk : ∀ a ∈ z.hd, z'.H a = z.H a
theorem ExtD.trans {p : Addr} {a b c : Zw} (x : ExtD p a b) (y : Ext b c) : ExtD p a c :=
  ⟨x.pre.trans y.pre, fun q o h => y.im q o (x.im q o h), y.hd.trans x.hd, fun q hq => (y.hk q (by rw [x.hd]; exact List.mem_cons_of_mem _ hq)).trans (x.hk q hq)⟩
theorem held_startO {K : PySem.W.Frag} {z : Zw} {p : Addr} (s : StOk K z) (hp : z.H p = none) {ho : HO} (hd : HdO ho) : ExtD p z ⟨p :: z.hd, z.ρ, z.S, upd z.H p ho⟩ ∧ StOk K ⟨p :: z.hd, z.ρ, z.S, upd z.H p ho⟩ := by
  have nl := s.nolive hp
  have ne : ∀ {a u o}, z.H a = some u → upd z.H p o a = some u := fun {a u o} h => by
    rw [upd_ne (by rintro rfl; rw [hp] at h; cases h)]; exact h
  have im : ∀ a o, Im z a o → Im ⟨p :: z.hd, z.ρ, z.S, upd z.H p ho⟩ a o := fun a o ⟨h1, h2, h3⟩ => ⟨ne h1, fun l => by
    rcases l with l | l
    · exact h2 (.inl l)
    · rcases List.mem_cons.mp l with l | l
      · subst l; rw [hp] at h1; cases h1
      · exact h2 (.inr l), h3⟩
  refine ⟨⟨List.prefix_refl _, im, rfl, fun a ha => ?_⟩, ⟨s.len, s.nd, fun a ha => ?_, fun a ha => ?_, fun a ha h => ?_, fun r mo a h1 h2 => ?_, tabs_upd s.tb (wr_none hp)⟩⟩
  · obtain ⟨u, e, _⟩ := s.ht a ha
    show upd z.H p _ a = _
    rw [ne e, e]
  · obtain ⟨u, e, n⟩ := s.tr a ha; exact ⟨u, ne e, n⟩
  · rcases List.mem_cons.mp ha with ha | ha
    · subst ha; exact ⟨_, upd_same, hd⟩
    · obtain ⟨u, e, n⟩ := s.ht a ha; exact ⟨u, ne e, n⟩
  · rcases List.mem_cons.mp h with h | h
    · subst h
      obtain ⟨u, e, _⟩ := s.tr a ha
      rw [hp] at e; cases e
    · exact s.dj a ha h
  · exact MoOk.mono0 (z := z) (z' := ⟨p :: z.hd, z.ρ, z.S, upd z.H p ho⟩) ⟨List.prefix_refl _, im⟩ (s.ob r mo a h1 h2) fun u e => ne e
theorem held_start {K : PySem.W.Frag} {z : Zw} {p : Addr} (s : StOk K z) (hp : z.H p = none) (xs : List V) : ExtD p z ⟨p :: z.hd, z.ρ, z.S, upd z.H p (.lst xs)⟩ ∧ StOk K ⟨p :: z.hd, z.ρ, z.S, upd z.H p (.lst xs)⟩ := held_startO s hp (.lst xs)
/-- the held thing grows -/
theorem held_setO {K : PySem.W.Frag} {z : Zw} {p : Addr} (s : StOk K z) (hp : p ∈ z.hd) {ho : HO} (hd : HdO ho) : Ex0 z ⟨z.hd, z.ρ, z.S, upd z.H p ho⟩ ∧ StOk K ⟨z.hd, z.ρ, z.S, upd z.H p ho⟩ := by
  have im : ∀ a o, Im z a o → Im ⟨z.hd, z.ρ, z.S, upd z.H p ho⟩ a o := fun a o ⟨h1, h2, h3⟩ => ⟨by
    show upd z.H p _ a = _
    rw [upd_ne (by rintro rfl; exact h2 (.inr hp))]; exact h1, h2, h3⟩
  have x : Ex0 z ⟨z.hd, z.ρ, z.S, upd z.H p ho⟩ := ⟨List.prefix_refl _, im⟩
  have there : ∀ a, (∃ o, z.H a = some o ∧ NT o) → ∃ o, upd z.H p ho a = some o ∧ NT o := fun a ⟨o, e, n⟩ => by
    by_cases h : a = p
    · subst h; exact ⟨_, upd_same, hd.nt⟩
    · rw [upd_ne h]; exact ⟨o, e, n⟩
  refine ⟨x, ⟨s.len, s.nd, fun a ha => there a (s.tr a ha), fun a ha => ?_, s.dj, fun r mo a h1 h2 => (s.ob r mo a h1 h2).mono0 x fun u e => ?_, tabs_upd s.tb (let ⟨_, e, n⟩ := s.ht p hp; wr_hd e n)⟩⟩
  · show ∃ u, upd z.H p ho a = some u ∧ HdO u
    by_cases h : a = p
    · subst h; exact ⟨_, upd_same, hd⟩
    · rw [upd_ne h]; exact s.ht a ha
  show upd z.H p _ a = _
  rw [upd_ne]
  · exact e
  · rintro rfl
    exact s.dj a (List.mem_of_getElem? h2) hp
theorem held_set {K : PySem.W.Frag} {z : Zw} {p : Addr} (s : StOk K z) (hp : p ∈ z.hd) (xs : List V) : Ex0 z ⟨z.hd, z.ρ, z.S, upd z.H p (.lst xs)⟩ ∧ StOk K ⟨z.hd, z.ρ, z.S, upd z.H p (.lst xs)⟩ := held_setO s hp (.lst xs)
/-- it is held no more -/
theorem held_end {K : PySem.W.Frag} {z z1 : Zw} {p : Addr} (s0 : StOk K z) (hp : z.H p = none) (x : ExtD p z z1) (s : StOk K z1) {acc : List D} {xs : List V} (h : z1.H p = some (.lst xs)) (hl : acc.length ≤ SZ) (r : Reps K z1 acc xs) :
    Ext z ⟨z.hd, z1.ρ, z1.S, z1.H⟩ ∧ StOk K ⟨z.hd, z1.ρ, z1.S, z1.H⟩ ∧ Rep K ⟨z.hd, z1.ρ, z1.S, z1.H⟩ (.lst acc) (.ref p) := by
  have sub : ∀ a ∈ z.hd, a ∈ z1.hd := fun a ha => by rw [x.hd]; exact List.mem_cons_of_mem _ ha
  have x1 : Ex0 z1 ⟨z.hd, z1.ρ, z1.S, z1.H⟩ := ⟨List.prefix_refl _, fun a o ⟨h1, h2, h3⟩ => ⟨h1, fun l => h2 (l.imp id (sub a)), h3⟩⟩
  refine ⟨⟨x.pre, fun a o q => x1.im a o (x.im a o q), rfl, x.hk⟩, ⟨s.len, s.nd, s.tr, fun a ha => s.ht a (sub a ha), fun a ha h => s.dj a ha (sub a h), fun i mo a h1 h2 => (s.ob i mo a h1 h2).mono0 x1 fun u e => e, s.tb⟩, ?_⟩
  unfold Rep
  refine ⟨p, xs, rfl, ⟨h, fun l => ?_, fun _ h => nomatch h⟩, hl, r.mono0 x1⟩
  rcases l with ⟨i, mo, q1, _, _⟩ | l
  · exact s.dj p (List.mem_of_getElem? q1) (by rw [x.hd]; exact List.mem_cons_self)
  · obtain ⟨u, e, _⟩ := s0.ht p l
    rw [hp] at e; cases e
theorem pts_of {ifs : List Expr} {t t' : TT} (h : PTs X ifs t) (f : ∀ σ H Q, t' σ H Q → t σ H Q) : PTs X ifs t' := ⟨fun pins s σ H Q I q => h.run pins s σ H Q I (f _ _ _ q)⟩
theorem s_yes : PTs X [] (tT X W fun _ S => .ok true S) :=
  pts_of pts_nil fun σ H Q h => by
    obtain ⟨z, e, rfl, hs, he, P⟩ := h
    exact Post.val P hs
/-- one turn of a comprehension, by the evaluator -/
def lcF (t : Tg) (own : List Nat) (ft : Env → Store → Rs Bool) (fe : Env → Store → Rs D) (e : Env) : D → List D → Store → Rs (List D) := fun x acc S => match setT (wip e own) t x with
  | some e' => (ft e' S).bind fun b S => if b then (fe e' S).bind fun d S => if acc.length < SZ then .ok (acc ++ [d]) S else .bad else .ok acc S
  | none => .bad
theorem lcF_acc {t : Tg} {own : List Nat} {ft : Env → Store → Rs Bool} {fe : Env → Store → Rs D} {e : Env} {x : D} {acc acc' : List D} {S S' : Store} (h : lcF t own ft fe e x acc S = .ok acc' S') :
    ∃ e' b S1, setT (wip e own) t x = some e' ∧ ft e' S = .ok b S1 ∧ (if b then ∃ d S2, fe e' S1 = .ok d S2 ∧ acc.length < SZ ∧ acc' = acc ++ [d] ∧ S' = S2 else acc' = acc ∧ S' = S1) := by
  unfold lcF at h
  cases q : setT (wip e own) t x with
  | none => simp only [q] at h; cases h
  | some e' =>
    simp only [q] at h
    obtain ⟨b, S1, h1, h2⟩ := bind_ok h
    refine ⟨e', b, S1, rfl, h1, ?_⟩
    cases b with
    | false => simp at h2 ⊢; exact ⟨h2.1.symm, h2.2.symm⟩
    | true =>
      simp only [if_true] at h2 ⊢
      obtain ⟨d, S2, h3, h4⟩ := bind_ok h2
      refine ⟨d, S2, h3, ?_⟩
      by_cases hl : acc.length < SZ
      · rw [if_pos hl] at h4
        injection h4 with h5 h6
        exact ⟨hl, h5.symm, h6.symm⟩
      · rw [if_neg hl] at h4; cases h4
noncomputable def lcE (fi : Env → Store → Rs Src) (t : Tg) (own : List Nat) (ft : Env → Store → Rs Bool) (fe : Env → Store → Rs D) : Env → Store → Rs D := fun e S => (fi e S).bind fun s S => (forR (fun S => srcOk S s) (lcF t own ft fe e) s.1 [] S).nox.bind fun ds S => .ok (.lst ds) S
theorem comp_core {own : List (Str × Nat)} {t : Tg} {fi : Env → Store → Rs Src} {ft : Env → Store → Rs Bool} {fe : Env → Store → Rs D} (ho : ∀ i ∈ tgI t, i ∈ own.map (·.2)) {σ : L2.St} {H : Hp} {Q : VK}
    (h : tE X W (lcE fi t (own.map (·.2)) ft fe) σ H Q) : tLc (tI X W fi) (tG X t) (tT X WF ft) (tE X WF fe) (own.map (·.2)) σ H Q := by
  obtain ⟨z, e, rfl, hs, he, P⟩ := h
  refine ⟨z, e, rfl, hs, he, P.bind.imp fun s z1 x1 s1 P1 J IO p hp => ?_⟩
  have he1 := he.mono x1
  obtain ⟨ds, Sf, hR⟩ : ∃ ds Sf, forR (fun S => srcOk S s) (lcF t (own.map (·.2)) ft fe e) s.1 [] z1.S = .ok ds Sf := by
    cases q : forR (fun S => srcOk S s) (lcF t (own.map (·.2)) ft fe e) s.1 [] z1.S with
    | ok ds Sf => exact ⟨ds, Sf, rfl⟩
    | _ => rw [q] at P1; exact P1.elim
  rw [hR] at P1
  have P1 : Post X.K X.mg W z1 (.ok (.lst ds) Sf) (fun d z1 => ∀ v, Rep X.K z1 d v → Q v z1.H) := P1
  -- what holds between two turns
  let Pv : Nat → Hp → Prop := fun i H => ∃ zi acc xs, zi.H = H ∧ ExtD p z1 zi ∧ StOk X.K zi ∧ H p = some (.lst xs) ∧ acc.length ≤ SZ ∧ Reps X.K zi acc xs ∧ forR (fun S => srcOk S s) (lcF t (own.map (·.2)) ft fe e) (s.1.drop i) acc zi.S = .ok ds Sf
  have itok : ∀ zi, ExtD p z1 zi → ItOk X.K zi s J := fun zi x => IO.mono ⟨x.pre, x.im⟩
  refine ⟨fun i m H => m = s.1.length - i ∧ i ≤ s.1.length ∧ Pv i H, ⟨s.1.length, by simp, Nat.zero_le _, ?_⟩, ?_⟩
  · obtain ⟨a1, a2⟩ := held_start s1 hp []
    exact ⟨_, [], [], rfl, a1, a2, upd_same, by simp, .nil, by simpa using hR⟩
  · rintro i m H ⟨rfl, hi, zi, acc, xs, rfl, xd, si, hxs, hl, rr, hF⟩
    by_cases hlt : i < s.1.length
    · right
      obtain ⟨d, hd⟩ : ∃ d, s.1[i]? = some d := ⟨_, List.getElem?_eq_getElem hlt⟩
      have hdr : s.1.drop i = d :: s.1.drop (i + 1) := by
        rw [List.drop_eq_getElem_cons hlt]
        rw [List.getElem?_eq_getElem hlt] at hd; cases hd; rfl
      rw [hdr] at hF
      unfold forR at hF
      cases hch : srcOk zi.S s with
      | false => simp only [hch] at hF; cases hF
      | true =>
        simp only [hch, if_true] at hF
        obtain ⟨acc', S', hf, hrest⟩ := bind_ok hF
        refine ⟨(itok zi xd).goes zi i (Ex0.refl _) si hch hlt, Pv (i + 1), fun H' h' => ⟨_, by omega, rfl, hlt, h'⟩, fun x H' y => ?_⟩
        obtain ⟨z2, d2, rfl, e2, x2, s2, hd2, r2⟩ := (itok zi xd).yields zi i x H' (Ex0.refl _) si hch hlt y
        rw [hd] at hd2; cases hd2
        obtain ⟨e', b, S1, hst, hft, hrest2⟩ := lcF_acc hf
        have he2 : EnvOk X.K z2 (wip e (own.map (·.2))) (wipe σ (own.map (·.2))) := (EnvOk.mono0 (x2.ex0) (EnvOk.mono0 ⟨xd.pre, xd.im⟩ he1)).wip _
        refine ⟨z2, _, d, e', rfl, s2, he2, r2, hst, fun σ2 he3 hw => ⟨(hw _ ho).trans (wipe_wipe _ _), z2, e', rfl, s2, he3, ?_⟩⟩
        rw [e2, hft]
        intro z3 q1 x3 s3
        subst q1
        cases b with
        | false =>
          simp only [Bool.false_eq_true, if_false] at hrest2 ⊢
          obtain ⟨rfl, rfl⟩ := hrest2
          have xx := (xd.trans x2).trans x3
          refine ⟨z3, acc', xs, rfl, xx, s3, ?_, hl, (rr.mono x2).mono x3, hrest⟩
          have pin : p ∈ zi.hd := by rw [xd.hd]; exact List.mem_cons_self
          rw [x3.hk p (by rw [x2.hd]; exact pin), x2.hk p pin]; exact hxs
        | true =>
          simp only [if_true] at hrest2 ⊢
          obtain ⟨dd, S2, hfe, hlen, rfl, rfl⟩ := hrest2
          refine ⟨z3, e', rfl, s3, he3.mono x3, ?_⟩
          rw [hfe]
          intro z4 q2 x4 s4 v rv
          subst q2
          have xx := ((xd.trans x2).trans x3).trans x4
          have pin : p ∈ zi.hd := by rw [xd.hd]; exact List.mem_cons_self
          have hp4 : z4.H p = some (.lst xs) := by rw [x4.hk p (by rw [x3.hd, x2.hd]; exact pin), x3.hk p (by rw [x2.hd]; exact pin), x2.hk p pin]; exact hxs
          have pin4 : p ∈ z4.hd := by rw [xx.hd]; exact List.mem_cons_self
          obtain ⟨b1, b2⟩ := held_set s4 pin4 (xs ++ [v])
          refine ⟨xs, hp4, by rw [← rr.length, sizeLine_eq]; exact hlen, ⟨z4.hd, z4.ρ, z4.S, upd z4.H p (.lst (xs ++ [v]))⟩, acc ++ [dd], xs ++ [v], rfl, ⟨xx.pre, fun a o q => b1.im a o (xx.im a o q), xx.hd, fun a ha => ?_⟩, b2, upd_same, by rw [List.length_append]; exact hlen, ?_, hrest⟩
          · show upd z4.H p _ a = _
            rw [upd_ne]
            · exact xx.hk a ha
            · rintro rfl
              obtain ⟨u, eu, _⟩ := s1.ht a ha
              rw [hp] at eu; cases eu
          · exact ((((rr.mono x2).mono x3).mono x4).mono0 b1).app (.one (rv.mono0 b1))
    · left
      have hin : i = s.1.length := by omega
      subst hin
      rw [List.drop_length] at hF
      unfold forR at hF
      cases hch : srcOk zi.S s with
      | false => simp only [hch] at hF; cases hF
      | true =>
        simp only [hch, if_true] at hF
        injection hF with h1 h2
        subst h1
        refine ⟨(itok zi xd).stops zi (Ex0.refl _) si hch, ?_⟩
        obtain ⟨c1, c2, c3⟩ := held_end s1 hp xd si hxs hl rr
        exact P1 ⟨z1.hd, zi.ρ, zi.S, zi.H⟩ h2 c1 c2 _ c3
theorem s_comp {elt iter : Expr} {ifs : List Expr} {scope : Scope} {own : List (Str × Nat)} {t : Tg} {fi : Env → Store → Rs Src} {ft : Env → Store → Rs Bool} {fe : Env → Store → Rs D} (hc : X.calm = true) (hN : X.N.Nodup) (hi : PI X tg iter (tI X W fi)) (ok : BlkOk X.N X.env.scope scope own)
    (ho : ∀ i ∈ tgI t, i ∈ own.map (·.2))
    (hg : ∀ (s : Shared) (H : Hp) (C : Addr) (cl : List (Str × Addr)) (fp : List Addr), PG (X.blk s H scope (compEnvC scope cl C X.env) fp) tg (tG X t)) (ht : ∀ (s : Shared) (H : Hp) (C : Addr) (cl : List (Str × Addr)) (fp : List Addr), PTs (X.blk s H scope (compEnvC scope cl C X.env) fp) ifs (tT X WF ft))
    (he : ∀ (s : Shared) (H : Hp) (C : Addr) (cl : List (Str × Addr)) (fp : List Addr), PE (X.blk s H scope (compEnvC scope cl C X.env) fp) elt (tE X WF fe)) (hs : ∀ x, foldedSetIterable iter X.env x = pure x) :
    PE X (.ListComp elt [⟨tg, iter, ifs, 0⟩] scope pos) (tE X W (lcE fi t (own.map (·.2)) ft fe)) :=
  PE_imp (pe_lc hc hN hi ok hg ht he hs) fun σ H Q h => comp_core ho h
theorem s_setComp {i : Nat} {y : Str} {py spos : Pos} {elt iter : Expr} {ifs : List Expr} {scope : Scope} {own : List (Str × Nat)} {t : Tg} {fi : Env → Store → Rs Src} {ft : Env → Store → Rs Bool} {fe : Env → Store → Rs D} (hc : X.calm = true) (hN : X.N.Nodup)
    (hy : X.N[i]? = some y) (hyl : X.env.scope.names.lookup y = some .local) (hsw : swapsWith (.ListComp elt [⟨tg, iter, ifs, 0⟩] scope pos) (some (.Name y py)) spos.line X.env = pure true)
    (hi : PI X tg iter (tI X W fi)) (ok : BlkOk X.N X.env.scope scope own)
    (ho : ∀ i ∈ tgI t, i ∈ own.map (·.2))
    (hg : ∀ (s : Shared) (H : Hp) (C : Addr) (cl : List (Str × Addr)) (fp : List Addr), PG (X.blk s H scope (compEnvC scope cl C X.env) fp) tg (tG X t)) (ht : ∀ (s : Shared) (H : Hp) (C : Addr) (cl : List (Str × Addr)) (fp : List Addr), PTs (X.blk s H scope (compEnvC scope cl C X.env) fp) ifs (tT X WF ft))
    (he : ∀ (s : Shared) (H : Hp) (C : Addr) (cl : List (Str × Addr)) (fp : List Addr), PE (X.blk s H scope (compEnvC scope cl C X.env) fp) elt (tE X WF fe)) (hs : ∀ x, foldedSetIterable iter X.env x = pure x) :
    PS X (.Assign [.Name y py] (.ListComp elt [⟨tg, iter, ifs, 0⟩] scope pos) spos) (tAsg (tE X W (lcE fi t (own.map (·.2)) ft fe)) (gName i)) := by
  have h := ps_setLc (X := X) (spos := spos) hc hN hy hyl hsw hi ok hg ht he hs
  exact ⟨fun pins s σ H Dn I q => h.run pins s σ H Dn I (comp_core ho q)⟩
end
end PyI

set_option maxRecDepth 100000
set_option maxHeartbeats 4000000
namespace PyE
open PySem PySem.Spec PyProof.Rows L2
/-! ## loops over zip, enumerate: lists and tuples in any mixture -/
def SqB (K : PySem.W.Frag) (t : Bool) (H : Hp) (a : Addr) (xs : List V) : Prop := match t with
  | true => SqT K H a xs
  | false => SqL K H a xs
def ItAt (t : Bool) (h : Heap) (it a : Addr) (i : Nat) : Prop := match t with
  | true => h.IsTupleIter it a i
  | false => h.IsListIter it a i
def isAt (t : Bool) (h : Heap) (a : Addr) (items : Array Value) : Prop := match t with
  | true => h.IsTuple a items
  | false => h.IsList a items
def itObj (t : Bool) (a : Addr) : Obj := match t with
  | true => { cls := .type "tuple_iterator", data := .fields #[.ref a, .int 0 0] }
  | false => { cls := .type "list_iterator", data := .fields #[.ref a, .int 0 0] }
section
variable {X : Cx} {pins : List (Addr × Obj)} {σ : L2.St} {H : Hp} {s : Shared} {t : Bool} {a it : Addr} {xs ys : List V}
theorem sqb_at (I : Inv X pins σ H s) (h : SqB X.K t H a xs) : ∃ its : List Value, Vals xs its ∧ isAt t s.heap a its.toArray ∧ xs.length ≤ sizeLine ∧ a < s.heap.objs.size := by
  cases t with
  | true =>
    obtain ⟨its, rv, p, hz⟩ := I.tuple h
    obtain ⟨o, ho, _⟩ := id p
    exact ⟨its, rv, p, hz, Heap.lt_size ho⟩
  | false =>
    obtain ⟨its, rv, p, hz⟩ := I.list h
    exact ⟨its, rv, p.isList, hz, p.lt⟩
theorem sqb_inj (I : Inv X pins σ H s) (h : SqB X.K t H a xs) (h2 : SqB X.K t H a ys) : xs = ys := by
  cases t with
  | true => exact I.tuple_inj h h2
  | false => exact I.list_inj h h2
theorem drawsB {prog : Program} {w : World} {A : Around} (hh : A.handled = none) (hne : a ≠ it) (items : Array Value) : Draws prog w A it [it, a] items.size (fun i v => items[i]? = some v) (fun i h => ItAt t h it a i ∧ isAt t h a items) := by
  cases t with
  | true => exact Draws.tuple hh it a hne items
  | false => exact Draws.list hh it a hne items
theorem begB (items : Array Value) : Begins (.ref a) (itObj t a) fun h => isAt t h a items := by
  cases t with
  | true => exact begins_tuple a items
  | false => exact begins_list a items
theorem itAt0 {h : Heap} (e : h.get? it = some (itObj t a)) : ItAt t h it a 0 := by
  cases t with
  | true => exact ⟨_, e, rfl, rfl⟩
  | false => exact ⟨_, e, rfl, rfl⟩
theorem ItAt.at' {h h' : Heap} {i : Nat} (x : ItAt t h it a i) (k : ∀ o, h.get? it = some o → h'.get? it = some o) : ItAt t h' it a i := by
  cases t with
  | true => exact Heap.IsTupleIter.at x k
  | false => exact Heap.IsListIter.at x k
theorem ItAt.obj {h : Heap} {i : Nat} (x : ItAt t h it a i) : ∃ o, h.get? it = some o ∧ ∀ v, o.data ≠ .cell v := by
  cases t with
  | true => obtain ⟨o, e, _, d⟩ := x; exact ⟨o, e, fun v q => by rw [d] at q; cases q⟩
  | false => obtain ⟨o, e, _, d⟩ := x; exact ⟨o, e, fun v q => by rw [d] at q; cases q⟩
theorem ItAt.lt {h : Heap} {i : Nat} (x : ItAt t h it a i) : it < h.objs.size := let ⟨_, e, _⟩ := x.obj; Heap.lt_size e
end
def ItzB (K : PySem.W.Frag) (t1 t2 : Bool) (a b : Addr) : It :=
  ⟨fun i H => ∃ (xs ys : List V) (x y : V), SqB K t1 H a xs ∧ SqB K t2 H b ys ∧ xs[i]? = some x ∧ ys[i]? = some y,
    fun i H v H' => ∃ T x y, v = .ref T ∧ H T = none ∧ H' = upd H T (.tup [x, y]) ∧ (∀ xs, SqB K t1 H a xs → xs[i]? = some x) ∧ ∀ ys, SqB K t2 H b ys → ys[i]? = some y,
    fun i H => ∃ xs ys : List V, SqB K t1 H a xs ∧ SqB K t2 H b ys ∧ i ≤ xs.length ∧ i ≤ ys.length ∧ (xs.length = i ∨ ys.length = i)⟩
theorem turn_zipB {P : Program} {w : World} {K : PySem.W.Frag} {t1 t2 : Bool} {elts : List Expr} {kk : Nat} {tpos : Pos} {a b z TI TO i1 i2 : Addr} (S : ZipSep2 z TI TO i1 i2 [i1, a] [i2, b]) (na : a ≠ i1) (nb : b ≠ i2) :
    Turn P w K (.Tuple elts kk tpos) (ItzB K t1 t2 a b) [z, TI, TO, i1, i2] z (fun i h => IsZip h z TI TO .none ∧ IsTupOf2 h TI (.ref i1) (.ref i2) ∧ (∃ x y, IsTupOf2 h TO x y) ∧ ItAt t1 h i1 a i ∧ ItAt t2 h i2 b i) where
  mem := by simp
  obj := fun i h st c hc => by
    obtain ⟨hz, hTI, ⟨x, y, hTO⟩, h1, h2⟩ := st
    have e' : c = z ∨ c = TI ∨ c = TO ∨ c = i1 ∨ c = i2 := by simpa using hc
    rcases e' with q | q | q | q | q
    · rw [q]; exact ⟨_, hz, fun v q => nomatch q⟩
    · rw [q]; exact ⟨_, hTI, fun v q => nomatch q⟩
    · rw [q]; exact ⟨_, hTO, fun v q => nomatch q⟩
    · rw [q]; exact h1.obj
    · rw [q]; exact h2.obj
  keep := fun i h h' st k => by
    obtain ⟨hz, hTI, ⟨x, y, hTO⟩, h1, h2⟩ := st
    exact ⟨k z (by simp) _ hz, k TI (by simp) _ hTI, ⟨x, y, k TO (by simp) _ hTO⟩, h1.at' fun o q => k i1 (by simp) o q, h2.at' fun o q => k i2 (by simp) o q⟩
  item := by
    intro X hP hw hK hc i pins s σ H E I hf st hg
    subst hP hw hK
    obtain ⟨hz, hTI, ⟨x0, y0, hTO⟩, h1, h2⟩ := st
    obtain ⟨xs, ys, x, y, hqx, hqy, hx, hy⟩ := hg
    obtain ⟨its, rv, p, _, _⟩ := sqb_at I hqx
    obtain ⟨its2, rv2, p2, _, _⟩ := sqb_at I hqy
    obtain ⟨u, hu, ru⟩ := rv.get hx
    obtain ⟨u2, hu2, ru2⟩ := rv2.get hy
    have hzl : z < s.heap.objs.size := Heap.lt_size hz
    have l1 : i < its.toArray.size := by simpa using (List.getElem?_eq_some_iff.mp hu).1
    have l2 : i < its2.toArray.size := by simpa using (List.getElem?_eq_some_iff.mp hu2).1
    refine wpAny_pyNext_zipD2_item S (drawsB (A := X.A.in1) (t := t1) (show X.A.in1.handled = none from I.ok.hd hc) na its.toArray) (drawsB (A := X.A.in1) (t := t2) (show X.A.in1.handled = none from I.ok.hd hc) nb its2.toArray) hz hTI hTO ⟨h1, p⟩ ⟨h2, p2⟩ l1 l2 fun v1 v2 h' tk e1 e2 z' TO' j1 j2 hT hsz hk => ?_
    obtain rfl : u = v1 := Option.some.inj (by rw [← hu, ← e1]; simp)
    obtain rfl : u2 = v2 := Option.some.inj (by rw [← hu2, ← e2]; simp)
    refine ⟨_, rfl, wpAny_letOwnedTupleGo_zip (s := { s with heap := h', toks := tk }) z' fun h'' z'' sb => ?_⟩
    have hT2 : h''.get? s.heap.objs.size = some { cls := .type "tuple", data := .seq #[u, u2] } := (sb.2 _ (Nat.ne_of_gt hzl)).trans hT
    have new : ObjOk X.prog X.w (upd H s.heap.objs.size (.tup [x, y])) h'' s.heap.objs.size (.tup [x, y]) :=
      ⟨by show 2 ≤ sizeLine; decide, [u, u2], .cons ru (.cons ru2 .nil), ⟨_, hT2, rfl, _, rfl⟩⟩
    have I1 : Inv X pins σ (upd H s.heap.objs.size (.tup [x, y])) { s with heap := h'', toks := tk } :=
      I.turnedNew (t' := tk) (ch := [z, TI, TO, i1, i2]) (fun c o hb q => (sb.2 c (fun q' => hb (by simp [q']))).trans (hk c o (fun q' => hb (by simp [q'])) (fun q' => hb (by simp [q'])) (fun q' => hb (by simp [q'])) (fun q' => hb (by simp [q'])) q)) hf (Nat.le_refl _) new
    refine ⟨.ref s.heap.objs.size, _, I1, rfl, ⟨_, x, y, rfl, I.hok.fresh (Nat.le_refl _), rfl, fun l hl => by rw [sqb_inj I hl hqx]; exact hx, fun l hl => by rw [sqb_inj I hl hqy]; exact hy⟩, ⟨z'', ?_, ⟨u, u2, ?_⟩, ?_, ?_⟩, fun c hcm => ?_⟩
    · exact (sb.2 _ S.TIz).trans (hk _ _ S.TIz S.TITO S.TIi1 S.TIi2 hTI)
    · exact (sb.2 _ S.TOz).trans TO'
    · exact j1.1.at' fun o q => (sb.2 _ S.zi1.symm).trans q
    · exact j2.1.at' fun o q => (sb.2 _ S.zi2.symm).trans q
    · have hlt : c < s.heap.objs.size := by
        have e' : c = z ∨ c = TI ∨ c = TO ∨ c = i1 ∨ c = i2 := by simpa using hcm
        rcases e' with q | q | q | q | q
        · rw [q]; exact hzl
        · rw [q]; exact Heap.lt_size hTI
        · rw [q]; exact Heap.lt_size hTO
        · rw [q]; exact h1.lt
        · rw [q]; exact h2.lt
      rw [upd_ne (Nat.ne_of_lt hlt)]
      exact (hf c hcm).1
  done := by
    intro X hP hw hK hc i pins s σ H E I hf st hg
    subst hP hw hK
    obtain ⟨hz, hTI, ⟨x0, y0, hTO⟩, h1, h2⟩ := st
    obtain ⟨xs, ys, hqx, hqy, m1, m2, hend⟩ := hg
    obtain ⟨its, rv, p, _, _⟩ := sqb_at I hqx
    obtain ⟨its2, rv2, p2, _, _⟩ := sqb_at I hqy
    have l1 : xs.length = its.toArray.size := by rw [rv.length]; simp
    have l2 : ys.length = its2.toArray.size := by rw [rv2.length]; simp
    exact wpAny_pyNext_zipD2_end S (drawsB (A := X.A.in1) (t := t1) (show X.A.in1.handled = none from I.ok.hd hc) na its.toArray) (drawsB (A := X.A.in1) (t := t2) (show X.A.in1.handled = none from I.ok.hd hc) nb its2.toArray) hz hTI hTO ⟨h1, p⟩ ⟨h2, p2⟩ (by omega) (by omega) (by omega) fun h' tk hk => ⟨rfl, I.turnedL (t' := tk) (ch := [z, TI, TO, i1, i2]) (fun c o hb q =>
      hk c o (fun q' => hb (by simp [q'])) (fun q' => hb (by simp [q'])) (fun q' => hb (by simp [q'])) (fun q' => hb (by simp [q'])) q) hf⟩
  self := fun A i s Q E st h => wpAny_pyIter_zip st.1 h
end PyE

set_option maxRecDepth 100000
set_option maxHeartbeats 4000000
namespace PyE
open PySem PySem.Spec PyProof.Rows L2
theorem meets_enum1 {v : Value} {o : Obj} {H : Heap → Prop} (B : Begins v o H) :
    Meets (Builtin.«enumerate.__new__» ⟨[.type "enumerate", v], []⟩) (fun _ R s => H s.heap ∧
      R (.ok (.ret (.ref (s.heap.push o).objs.size))) { s with heap := (s.heap.push o).push { cls := .type "enumerate", data := .fields #[.none, .bool false, .ref s.heap.objs.size, rawInt 0, .none, .none] } }) :=
  .of_wp fun prog w A R s h => by
    obtain ⟨hp, g, d, tk, os⟩ := s; obtain ⟨h1, h⟩ := h
    have hsub := sub_enumerate
    have q1 : ∀ {A' : Around} {E : Value → Shared → Prop} {Q : Value → Shared → Prop}, Q (.ref hp.objs.size) ⟨hp.push o, g, d, tk, os⟩ → wpAny (model prog w) A' (pyIter v) Q E ⟨hp, g, d, tk, os⟩ :=
      fun q => B.iter prog w _ _ ⟨hp, g, d, tk, os⟩ _ h1 q
    wp_walk using q1
    refine wpAny_stack_any fun st => wpAny_pure ?_
    split
    · rename_i c _ _ _ _ _
      cases (c == Value.type "enumerate")
      · wp_walk using q1
        exact ⟨_, rfl, h⟩
      · wp_walk using q1
        exact ⟨_, rfl, h⟩
    · wp_walk using q1
      exact ⟨_, rfl, h⟩
theorem enum_begins1 {prog : Program} {w : World} {A : Around} {E : Value → Shared → Prop} {s : Shared} {v : Value} {o : Obj} {H : Heap → Prop} {Q : Value → Shared → Prop} (B : Begins v o H) (h1 : H s.heap)
    (h : ∀ h', IsEnum h' (s.heap.objs.size + 1) s.heap.objs.size 0 .none → h'.get? s.heap.objs.size = some o → h'.objs.size = s.heap.objs.size + 2 →
      (∀ b o, s.heap.get? b = some o → h'.get? b = some o) → Q (.ref (s.heap.objs.size + 1)) { s with heap := h' }) :
    wpAny (model prog w) A (call (.type "enumerate") [v]) Q E s := by
  refine callType_new F.called_enumerate (by decide) (F.typeCall_enumerate_1 _) (F.newCall_enumerate_1 _) (fun obj => F.args_object_init_2 obj _) F.entry_enumerate_new
    (meets_enum1 B) ⟨h1, ?_⟩
  have hz : (s.heap.push o).objs.size = s.heap.objs.size + 1 := Heap.size_push ..
  show _ ∧ _
  rw [hz]
  have he : IsEnum ((s.heap.push o).push { cls := .type "enumerate", data := .fields #[.none, .bool false, .ref s.heap.objs.size, rawInt 0, .none, .none] }) (s.heap.objs.size + 1) s.heap.objs.size 0 .none := by
    have := Heap.get?_push_size (s.heap.push o) (o := { cls := .type "enumerate", data := .fields #[.none, .bool false, .ref s.heap.objs.size, rawInt 0, .none, .none] }) rfl
    rw [hz] at this; exact this
  refine ⟨⟨_, he, rfl⟩, h _ he (Heap.get?_push_of_some _ (Heap.get?_push_size _ B.free)) (by rw [Heap.size_push, hz]) fun b o x => Heap.get?_push_of_some _ (Heap.get?_push_of_some _ x)⟩
def IteB (K : PySem.W.Frag) (t : Bool) (a : Addr) : It :=
  ⟨fun i H => ∃ (xs : List V) (x : V), SqB K t H a xs ∧ xs[i]? = some x, fun i H v H' => ∃ T x, v = .ref T ∧ H T = none ∧ H' = upd H T (.tup [.int (i : Nat), x]) ∧ ∀ xs, SqB K t H a xs → xs[i]? = some x, fun i H => ∃ xs : List V, SqB K t H a xs ∧ xs.length = i⟩
theorem turn_enumB {P : Program} {w : World} {K : PySem.W.Frag} {t : Bool} {elts : List Expr} {kk : Nat} {tpos : Pos} (a e it : Addr) (hne : e ≠ it) (hea : e ≠ a) (na : a ≠ it) :
    Turn P w K (.Tuple elts kk tpos) (IteB K t a) [e, it] e (fun i h => (∃ old, IsEnum h e it ((i : Nat) : Int) old) ∧ ItAt t h it a i) where
  mem := by simp
  obj := fun i h st b hb => by
    obtain ⟨⟨old, he⟩, h1⟩ := st
    have e' : b = e ∨ b = it := by simpa using hb
    rcases e' with z | z
    · rw [z]; exact ⟨_, he, fun v q => nomatch q⟩
    · rw [z]; exact h1.obj
  keep := fun i h h' st k => let ⟨⟨old, he⟩, hi⟩ := st; ⟨⟨old, k e (by simp) _ he⟩, hi.at' fun o q => k it (by simp) o q⟩
  item := by
    intro X hP hw hK hc i pins s σ H E I hf st hg
    subst hP hw hK
    obtain ⟨⟨old, he⟩, hit⟩ := st
    obtain ⟨xs, x, hq, hx⟩ := hg
    obtain ⟨its, rv, p, _, _⟩ := sqb_at I hq
    obtain ⟨u, hu, ru⟩ := rv.get hx
    have hel : e < s.heap.objs.size := Heap.lt_size he
    have hil : it < s.heap.objs.size := hit.lt
    have l1 : i < its.toArray.size := by simpa using (List.getElem?_eq_some_iff.mp hu).1
    have hef : e ∉ [it, a] := by
      intro hm
      rcases List.mem_cons.mp hm with h | h
      · exact hne h
      · exact hea (List.mem_singleton.mp h)
    refine wpAny_pyNext_enum_itemD (drawsB (A := X.A.in1) (t := t) (show X.A.in1.handled = none from I.ok.hd hc) na its.toArray) he ⟨hit, p⟩ l1 hne hef fun v h' tk e1 ho hit' hT hsz hk => ?_
    obtain rfl : u = v := Option.some.inj (by rw [← hu, ← e1]; simp)
    refine ⟨_, rfl, wpAny_letOwnedTupleGo_enum (s := { s with heap := h', toks := tk + 1 }) ho fun h'' he' sb => ?_⟩
    have hT2 : h''.get? s.heap.objs.size = some { cls := .type "tuple", data := .seq #[.int i tk, u] } := (sb.2 _ (Nat.ne_of_gt hel)).trans hT
    have new : ObjOk X.prog X.w (upd H s.heap.objs.size (.tup [.int (i : Nat), x])) h'' s.heap.objs.size (.tup [.int (i : Nat), x]) :=
      ⟨by show 2 ≤ sizeLine; decide, [.int i tk, u], .cons ⟨_, rfl⟩ (.cons ru .nil), ⟨_, hT2, rfl, _, rfl⟩⟩
    have I1 : Inv X pins σ (upd H s.heap.objs.size (.tup [.int (i : Nat), x])) { s with heap := h'', toks := tk + 1 } :=
      I.turnedNew (ch := [e, it]) (fun b ob hb q => (sb.2 b (fun z => hb (by simp [z]))).trans (hk b ob (fun z => hb (by simp [z])) (fun z => hb (by simp [z])) q)) hf (Nat.le_refl _) new
    refine ⟨.ref s.heap.objs.size, _, I1, rfl, ⟨_, x, rfl, I.hok.fresh (Nat.le_refl _), rfl, fun ys hy => by rw [sqb_inj I hy hq]; exact hx⟩, ⟨⟨u, ?_⟩, hit'.1.at' fun o q => (sb.2 it (Ne.symm hne)).trans q⟩, fun b hb => ?_⟩
    · have e1 : ((i + 1 : Nat) : Int) = (i : Int) + 1 := by omega
      rw [e1]; exact he'
    · have hb' : b < s.heap.objs.size := by
        have e' : b = e ∨ b = it := by simpa using hb
        rcases e' with z | z
        · rw [z]; exact hel
        · rw [z]; exact hil
      rw [upd_ne (Nat.ne_of_lt hb')]
      exact (hf b hb).1
  done := by
    intro X hP hw hK hc i pins s σ H E I hf st hg
    subst hP hw hK
    obtain ⟨⟨old, he⟩, hit⟩ := st
    obtain ⟨xs, hq, hx⟩ := hg
    obtain ⟨its, rv, p, _, _⟩ := sqb_at I hq
    obtain ⟨f0, f1, f2, f3, f4, f5⟩ := hf it (by simp)
    have hl : its.toArray.size = i := by rw [← hx, rv.length]; simp
    subst hl
    exact wpAny_pyNext_enum_endD (drawsB (A := X.A.in1) (t := t) (show X.A.in1.handled = none from I.ok.hd hc) na its.toArray) he ⟨hit, p⟩ fun h' eb => ⟨rfl, I.turned (t' := s.toks) (fun b o hb q => eb b o hb q) f0 f1 f3 f4 f5⟩
  self := fun A i s Q E st h => let ⟨⟨_, he⟩, _⟩ := st; wpAny_pyIter_enum he h
def iEnumB (K : PySem.W.Frag) (ta : TA) : TI := fun σ H R => ta σ H fun vs H1 => ∃ t a xs, vs = [.ref a] ∧ SqB K t H1 a xs ∧ R (IteB K t a) H1
theorem pi_enumB {X : Cx} {e : Expr} {ta : TA} {p pos tpos : Pos} {elts : List Expr} {kk : Nat} (hg : Gl X "enumerate") (hm : X.mg "enumerate" = none) (ha : PA X [e] ta) (hs : starEach [e] X.env = [(false, eval e X.env)] := by rfl) :
    PI X (.Tuple elts kk tpos) (.Call (.Name "enumerate" p) [e] [] pos) (iEnumB X.K ta) := by
  refine ⟨fun pins s σ H R I h => ?_⟩
  refine Call_ (ld_blt I hg hm boot_enumerate (PyProof.Rows.callWith_type1 (thn (ha.run pos pins s σ H _ I h) fun us s1 ⟨vs, H1, I1, r1, q1⟩ => ?_) hs rfl))
  obtain ⟨t, a, xs, ex, hq, q⟩ := q1
  subst ex
  cases r1 with
  | cons r rr =>
    cases rr
    cases r
    obtain ⟨its, rv, p', _, la⟩ := sqb_at I1 hq
    refine enum_begins1 (begB (t := t) its.toArray) p' fun h' he hit hsz hk => wpAny_pyIter_enum he ?_
    have I2 : Inv X pins σ H1 { s1 with heap := h' } := I1.kept (t' := s1.toks) hk
    refine ⟨s1.heap.objs.size + 1, [s1.heap.objs.size + 1, s1.heap.objs.size], _, _, H1, rfl, I2, turn_enumB a (s1.heap.objs.size + 1) s1.heap.objs.size (Nat.succ_ne_self _) (Nat.ne_of_gt (Nat.lt_succ_of_lt la)) (Nat.ne_of_lt la), ⟨⟨.none, he⟩, itAt0 hit⟩, fun b hb => ?_, q⟩
    have e' : b = s1.heap.objs.size + 1 ∨ b = s1.heap.objs.size := by simpa using hb
    have hle : s1.heap.objs.size ≤ b := by
      rcases e' with z | z
      · rw [z]; exact Nat.le_add_right _ _
      · rw [z]; exact Nat.le_refl _
    exact I1.fpOk hle (I1.hok.fresh hle)
def iZipB (K : PySem.W.Frag) (ta : TA) : TI := fun σ H R => ta σ H fun vs H1 => ∃ t1 t2 a b xs ys, vs = [.ref a, .ref b] ∧ SqB K t1 H1 a xs ∧ SqB K t2 H1 b ys ∧ R (ItzB K t1 t2 a b) H1
theorem pi_zipB {X : Cx} {e e2 : Expr} {ta : TA} {p pos tpos : Pos} {elts : List Expr} {kk : Nat} (hg : Gl X "zip") (hm : X.mg "zip" = none) (ha : PA X [e, e2] ta)
    (hs : starEach [e, e2] X.env = (false, eval e X.env) :: starEach [e2] X.env := by rfl) (hpl : (backTo pos (starEach [e2] X.env)).any (·.1) = false := by rfl) :
    PI X (.Tuple elts kk tpos) (.Call (.Name "zip" p) [e, e2] [] pos) (iZipB X.K ta) := by
  refine ⟨fun pins s σ H R I h => ?_⟩
  refine Call_ (ld_blt I hg hm PyProof.Rows.boot_zip (PyProof.Rows.callWith_type1 (thn (ha.run pos pins s σ H _ I h) fun us s1 ⟨vs, H1, I1, r1, q1⟩ => ?_) hs hpl))
  obtain ⟨t1, t2, a, b, xs, ys, ex, hqx, hqy, q⟩ := q1
  subst ex
  cases r1 with
  | cons r rr =>
    cases rr with
    | cons r' rr =>
      cases rr
      cases r
      cases r'
      have fresh5 : ∀ c, c ∈ [s1.heap.objs.size + 4, s1.heap.objs.size + 2, s1.heap.objs.size + 3, s1.heap.objs.size, s1.heap.objs.size + 1] → FpOk X pins H1 c := fun c hcm => by
        have e' : c = s1.heap.objs.size + 4 ∨ c = s1.heap.objs.size + 2 ∨ c = s1.heap.objs.size + 3 ∨ c = s1.heap.objs.size ∨ c = s1.heap.objs.size + 1 := by simpa using hcm
        have hle : s1.heap.objs.size ≤ c := by
          rcases e' with z | z | z | z | z
          · rw [z]; exact Nat.le_add_right _ _
          · rw [z]; exact Nat.le_add_right _ _
          · rw [z]; exact Nat.le_add_right _ _
          · rw [z]; exact Nat.le_refl _
          · rw [z]; exact Nat.le_add_right _ _
        exact I1.fpOk hle (I1.hok.fresh hle)
      obtain ⟨its, rv, p1, _, la⟩ := sqb_at I1 hqx
      obtain ⟨its2, rv2, p2, _, lb⟩ := sqb_at I1 hqy
      refine PySem.zip_begins2 (begB (t := t1) its.toArray) (begB (t := t2) its2.toArray) p1 p2 fun h' hz hTI hTO g1 g2 hsz hk => wpAny_pyIter_zip hz ?_
      have I2 : Inv X pins σ H1 { s1 with heap := h' } := I1.kept (t' := s1.toks) hk
      exact ⟨s1.heap.objs.size + 4, [s1.heap.objs.size + 4, s1.heap.objs.size + 2, s1.heap.objs.size + 3, s1.heap.objs.size, s1.heap.objs.size + 1], _, _, H1, rfl, I2, turn_zipB (PyI.zsep la lb) (Nat.ne_of_lt la) (Nat.ne_of_lt (Nat.lt_succ_of_lt lb)), ⟨hz, hTI, ⟨_, _, hTO⟩, itAt0 g1, itAt0 g2⟩, fresh5, q⟩
end PyE

set_option maxRecDepth 100000
set_option maxHeartbeats 2000000
namespace PyI
open PySem PySem.Spec PyProof.Rows L2
/-! ## loops over enumerate, zip -/
theorem enumD_length : ∀ (n : Nat) (ds : List D), (enumD n ds).length = ds.length
  | _, [] => rfl
  | n, d :: ds => by simp [enumD, enumD_length (n + 1) ds]
theorem enumD_get : ∀ (n : Nat) (ds : List D) (i : Nat), (enumD n ds)[i]? = ds[i]?.map fun d => .tup [.int ((n + i : Nat) : Int), d]
  | _, [], i => by simp [enumD]
  | n, d :: ds, 0 => by simp [enumD]
  | n, d :: ds, i + 1 => by
    simp only [enumD, List.getElem?_cons_succ]
    rw [enumD_get (n + 1) ds i]
    have : n + 1 + i = n + (i + 1) := by omega
    rw [this]
theorem zipD_get : ∀ (xs ys : List D) (i : Nat) (x y : D), xs[i]? = some x → ys[i]? = some y → (zipD xs ys)[i]? = some (.tup [x, y])
  | [], _, i, _, _, h, _ => by simp at h
  | _ :: _, [], i, _, _, _, h => by simp at h
  | a :: xs, b :: ys, 0, x, y, h, h2 => by
    simp at h h2
    subst h h2
    rfl
  | a :: xs, b :: ys, i + 1, x, y, h, h2 => by
    simp only [zipD, List.getElem?_cons_succ] at h h2 ⊢
    exact zipD_get xs ys i x y h h2
section
variable {K : PySem.W.Frag} {z : Zw}
theorem srcZ_ok {d : D} {v : V} {ds : List D} (h : srcZ d = some ds) (r : Rep K z d v) : ∃ t a xs, v = .ref a ∧ (∀ z', Ex0 z z' → PyE.SqB K t z'.H a xs) ∧ Reps K z ds xs := by
  cases d with
  | tup es =>
    cases h
    unfold Rep at r
    obtain ⟨a, xs, rfl, k1, _, k3⟩ := r
    exact ⟨true, a, xs, rfl, fun z' x => k1.elim (fun k => k.elim (fun k => SqT.of (x.im _ _ k).1) fun ⟨q, k⟩ => .inl (.inr ⟨q, (x.im _ _ k).1⟩)) sq0, k3⟩
  | lst es =>
    cases h
    unfold Rep at r
    obtain ⟨a, xs, rfl, k1, _, k3⟩ := r
    exact ⟨false, a, xs, rfl, fun z' x => SqL.of (x.im _ _ k1).1, k3⟩
  | rol es =>
    cases h
    unfold Rep at r
    obtain ⟨a, xs, rfl, k1, _, k3⟩ := r
    exact ⟨false, a, xs, rfl, fun z' x => k1.elim (fun ⟨_, k, e⟩ => .inl (e.imp (fun e => by subst e; exact (x.im _ _ k).1) fun ⟨q, e⟩ => by subst e; exact ⟨q, (x.im _ _ k).1⟩)) sl0, k3⟩
  | _ => cases h
theorem it_enu {t : Bool} {ds : List D} {a : Addr} {xs : List V} (h : ∀ z', Ex0 z z' → PyE.SqB K t z'.H a xs) (r : Reps K z ds xs) : ItOk K z (enumD 0 ds, none) (PyE.IteB K t a) where
  goes := fun z' i x s _ hi => by
    have hi : i < ds.length := by simpa [enumD_length] using hi
    exact ⟨xs, xs[i]'(by rw [← r.length]; exact hi), h z' x, by simp [List.getElem?_eq_getElem, ← r.length, hi]⟩
  stops := fun z' x s _ => ⟨xs, h z' x, by show _ = (enumD 0 ds).length; rw [enumD_length, r.length]⟩
  yields := fun z' i v H' x s _ hi y => by
    have hi : i < ds.length := by simpa [enumD_length] using hi
    obtain ⟨T, u, rfl, hn, rfl, y⟩ := y
    have e := y xs (h z' x)
    obtain ⟨w, e1, e2⟩ := r.get (List.getElem?_eq_getElem hi)
    rw [e] at e1; cases e1
    obtain ⟨z2, k1, k2, k3, k4, k5⟩ := new_tup (ds := [.int (i : Nat), ds[i]]) (xs := [.int (i : Nat), u]) s hn (show (2 : Nat) ≤ SZ by decide) (.cons .int_ (.cons (e2.mono0 x) .nil))
    refine ⟨z2, _, k1, k2, k3, k4, ?_, k5⟩
    show (enumD 0 ds)[i]? = _
    rw [enumD_get, List.getElem?_eq_getElem hi]
    simp
theorem it_zip {t1 t2 : Bool} {ds es : List D} {a b : Addr} {xs ys : List V} (h : ∀ z', Ex0 z z' → PyE.SqB K t1 z'.H a xs) (r : Reps K z ds xs) (h2 : ∀ z', Ex0 z z' → PyE.SqB K t2 z'.H b ys) (r2 : Reps K z es ys) :
    ItOk K z (zipD ds es, none) (PyE.ItzB K t1 t2 a b) where
  goes := fun z' i x s _ hi => by
    have hi : i < min ds.length es.length := by simpa [zipD_length] using hi
    have l1 : i < xs.length := by rw [← r.length]; omega
    have l2 : i < ys.length := by rw [← r2.length]; omega
    exact ⟨xs, ys, xs[i], ys[i], h z' x, h2 z' x, List.getElem?_eq_getElem l1, List.getElem?_eq_getElem l2⟩
  stops := fun z' x s _ => by
    have e : (zipD ds es).length = min ds.length es.length := zipD_length ds es
    have l1 := r.length
    have l2 := r2.length
    refine ⟨xs, ys, h z' x, h2 z' x, ?_, ?_, ?_⟩
    · show (zipD ds es).length ≤ _; omega
    · show (zipD ds es).length ≤ _; omega
    · show _ = (zipD ds es).length ∨ _ = (zipD ds es).length; omega
  yields := fun z' i v H' x s _ hi y => by
    have hi : i < min ds.length es.length := by simpa [zipD_length] using hi
    have l1 : i < ds.length := by omega
    have l2 : i < es.length := by omega
    obtain ⟨T, u, u', rfl, hn, rfl, y, y'⟩ := y
    have e := y xs (h z' x)
    have e' := y' ys (h2 z' x)
    obtain ⟨w, e1, e2⟩ := r.get (List.getElem?_eq_getElem l1)
    obtain ⟨w', e1', e2'⟩ := r2.get (List.getElem?_eq_getElem l2)
    rw [e] at e1; cases e1
    rw [e'] at e1'; cases e1'
    obtain ⟨z2, k1, k2, k3, k4, k5⟩ := new_tup (ds := [ds[i], es[i]]) (xs := [u, u']) s hn (show (2 : Nat) ≤ SZ by decide) (.cons (e2.mono0 x) (.cons (e2'.mono0 x) .nil))
    exact ⟨z2, _, k1, k2, k3, k4, zipD_get ds es i _ _ (List.getElem?_eq_getElem l1) (List.getElem?_eq_getElem l2), k5⟩
end
variable {X : Cx} {W : WX} {pa pb : Expr} {ga : Env → Store → Rs (List D)}
theorem s_enu {p pos tpos : Pos} {elts : List Expr} {kk : Nat} (ha : PA X [pa] (tA X W ga)) (hg : Gl X "enumerate") (hm : X.mg "enumerate" = none) (he : starEach [pa] X.env = (false, eval pa X.env) :: starEach [] X.env) :
    PI X (.Tuple elts kk tpos) (.Call (.Name "enumerate" p) [pa] [] pos) (tI X W fun e S => (ga e S).bind fun ds S => optR (enuop ds) S) :=
  PI_imp (PyE.pi_enumB hg hm ha he) fun σ H Q h => by
    obtain ⟨z, e, rfl, hs, hev, P⟩ := h
    refine ⟨z, e, rfl, hs, hev, P.bind.imp fun ds z1 x1 s1 P1 vs rv => ?_⟩
    obtain ⟨s, e1, P2⟩ := P1.opt s1
    have : ∃ d xs, ds = [d] ∧ srcZ d = some xs ∧ s = (enumD 0 xs, none) := by
      unfold enuop at e1
      split at e1
      · obtain ⟨xs, h1, h2⟩ := Option.map_eq_some_iff.mp e1
        exact ⟨_, xs, rfl, h1, h2.symm⟩
      · cases e1
    obtain ⟨d, xs, rfl, hz, rfl⟩ := this
    obtain ⟨v, rfl, r⟩ := rv.one_inv
    obtain ⟨t, a, us, rfl, h1, h2⟩ := srcZ_ok hz r
    exact ⟨t, a, us, rfl, h1 z1 (Ex0.refl _), P2 _ (it_enu h1 h2)⟩
theorem s_zip {p pos tpos : Pos} {elts : List Expr} {kk : Nat} (ha : PA X [pa, pb] (tA X W ga)) (hg : Gl X "zip") (hm : X.mg "zip" = none) (he : starEach [pa, pb] X.env = (false, eval pa X.env) :: starEach [pb] X.env) (hpl : (backTo pos (starEach [pb] X.env)).any (·.1) = false) :
    PI X (.Tuple elts kk tpos) (.Call (.Name "zip" p) [pa, pb] [] pos) (tI X W fun e S => (ga e S).bind fun ds S => optR (zipI ds) S) :=
  PI_imp (PyE.pi_zipB hg hm ha he hpl) fun σ H Q h => by
    obtain ⟨z, e, rfl, hs, hev, P⟩ := h
    refine ⟨z, e, rfl, hs, hev, P.bind.imp fun ds z1 x1 s1 P1 vs rv => ?_⟩
    obtain ⟨s, e1, P2⟩ := P1.opt s1
    have : ∃ d d2 xs ys, ds = [d, d2] ∧ srcZ d = some xs ∧ srcZ d2 = some ys ∧ s = (zipD xs ys, none) := by
      unfold zipI at e1
      split at e1
      · split at e1
        · rename_i h1 h2
          cases e1
          exact ⟨_, _, _, _, rfl, h1, h2, rfl⟩
        · cases e1
      · cases e1
    obtain ⟨d, d2, xs, ys, rfl, hz, hz2, rfl⟩ := this
    obtain ⟨v, v2, rfl, r, r2⟩ := rv.two_inv
    obtain ⟨t, a, us, rfl, h1, h2⟩ := srcZ_ok hz r
    obtain ⟨t2, b, us2, rfl, h3, h4⟩ := srcZ_ok hz2 r2
    exact ⟨t, t2, a, b, us, us2, rfl, h1 z1 (Ex0.refl _), h3 z1 (Ex0.refl _), P2 _ (it_zip h1 h2 h3 h4)⟩
end PyI

set_option maxRecDepth 100000
set_option maxHeartbeats 2000000
namespace PyI
open PySem PySem.Spec PyProof.Rows L2
/-! ## a comprehension with two fors -/
theorem ExtD.set {K : PySem.W.Frag} {p : Addr} {a b : Zw} {xs : List V} (x : ExtD p a b) (s : StOk K b) (hp : a.H p = none) (sa : StOk K a) : ExtD p a ⟨b.hd, b.ρ, b.S, upd b.H p (.lst xs)⟩ := by
  have pin : p ∈ b.hd := by rw [x.hd]; exact List.mem_cons_self
  obtain ⟨b1, _⟩ := held_set s pin xs
  refine ⟨x.pre, fun a o q => b1.im a o (x.im a o q), x.hd, fun q hq => ?_⟩
  show upd b.H p _ q = _
  rw [upd_ne]
  · exact x.hk q hq
  · rintro rfl
    obtain ⟨u, eu, _⟩ := sa.ht q hq
    rw [hp] at eu; cases eu
section
variable {X : Cx}
theorem inner_loop {t : Tg} {own : List Nat} {ft : Env → Store → Rs Bool} {fe : Env → Store → Rs D} (ho : ∀ i ∈ tgI t, i ∈ own) {σ : L2.St} {z1 z0 : Zw} {p : Addr} {s : Src} {J : L2.It} {e : Env} {acc0 accE : List D} {xs0 : List V} {SE : Store} {Nx : Hp → Prop}
    (s1 : StOk X.K z1) (hp : z1.H p = none) (xd0 : ExtD p z1 z0) (s0 : StOk X.K z0) (IO : ItOk X.K z0 s J) (he : EnvOk X.K z0 e σ) (hx0 : z0.H p = some (.lst xs0)) (hl0 : acc0.length ≤ SZ) (r0 : Reps X.K z0 acc0 xs0)
    (hR : forR (fun S => srcOk S s) (lcF t own ft fe e) s.1 acc0 z0.S = .ok accE SE)
    (fin : ∀ zf xs, ExtD p z1 zf → Ex0 z0 zf → StOk X.K zf → zf.S = SE → zf.H p = some (.lst xs) → accE.length ≤ SZ → Reps X.K zf accE xs → Nx zf.H) :
    ∃ W1 : Nat → Nat → Hp → Prop, (∃ m, W1 0 m z0.H) ∧ ∀ j k H, W1 j k H →
      (J.stop j H ∧ Nx H) ∨ (J.go j H ∧ ∃ Nx1 : Hp → Prop, (∀ H', Nx1 H' → ∃ k', k' < k ∧ W1 (j + 1) k' H') ∧ ∀ x H', J.yld j H x H' → tG X t x (wipe σ own) H' fun σ3 H5 => wipe σ3 own = wipe σ own ∧ tT X WF ft σ3 H5 fun b H6 =>
        if b = true then tE X WF fe σ3 H6 fun y H7 => ∃ acc, H7 p = some (.lst acc) ∧ acc.length < sizeLine ∧ Nx1 (upd H7 p (.lst (acc ++ [y]))) else Nx1 H6) := by
  let Pv : Nat → Hp → Prop := fun i H => ∃ zi acc xs, zi.H = H ∧ ExtD p z1 zi ∧ Ex0 z0 zi ∧ StOk X.K zi ∧ H p = some (.lst xs) ∧ acc.length ≤ SZ ∧ Reps X.K zi acc xs ∧ forR (fun S => srcOk S s) (lcF t own ft fe e) (s.1.drop i) acc zi.S = .ok accE SE
  refine ⟨fun i m H => m = s.1.length - i ∧ i ≤ s.1.length ∧ Pv i H, ⟨s.1.length, by simp, Nat.zero_le _, ?_⟩, ?_⟩
  · exact ⟨z0, acc0, xs0, rfl, xd0, Ex0.refl _, s0, hx0, hl0, r0, by simpa using hR⟩
  · rintro i m H ⟨rfl, hi, zi, acc, xs, rfl, xd, x0, si, hxs, hl, rr, hF⟩
    by_cases hlt : i < s.1.length
    · right
      obtain ⟨d, hd⟩ : ∃ d, s.1[i]? = some d := ⟨_, List.getElem?_eq_getElem hlt⟩
      have hdr : s.1.drop i = d :: s.1.drop (i + 1) := by
        rw [List.drop_eq_getElem_cons hlt]
        rw [List.getElem?_eq_getElem hlt] at hd; cases hd; rfl
      rw [hdr] at hF
      unfold forR at hF
      cases hch : srcOk zi.S s with
      | false => simp only [hch] at hF; cases hF
      | true =>
        simp only [hch, if_true] at hF
        obtain ⟨acc', S', hf, hrest⟩ := bind_ok hF
        refine ⟨IO.goes zi i x0 si hch hlt, Pv (i + 1), fun H' h' => ⟨_, by omega, rfl, hlt, h'⟩, fun x H' y => ?_⟩
        obtain ⟨z2, d2, rfl, e2, x2, s2, hd2, r2⟩ := IO.yields zi i x H' x0 si hch hlt y
        rw [hd] at hd2; cases hd2
        obtain ⟨e', b, S1, hst, hft, hrest2⟩ := lcF_acc hf
        have he2 : EnvOk X.K z2 (wip e own) (wipe σ own) := (EnvOk.mono0 (x2.ex0) (EnvOk.mono0 x0 he)).wip _
        refine ⟨z2, _, d, e', rfl, s2, he2, r2, hst, fun σ2 he3 hw => ⟨(hw _ ho).trans (wipe_wipe _ _), z2, e', rfl, s2, he3, ?_⟩⟩
        rw [e2, hft]
        intro z3 q1 x3 s3
        subst q1
        have pin : p ∈ zi.hd := by rw [xd.hd]; exact List.mem_cons_self
        cases b with
        | false =>
          simp only [Bool.false_eq_true, if_false] at hrest2 ⊢
          obtain ⟨rfl, rfl⟩ := hrest2
          refine ⟨z3, acc', xs, rfl, (xd.trans x2).trans x3, (x0.trans x2.ex0).trans x3.ex0, s3, ?_, hl, (rr.mono x2).mono x3, hrest⟩
          rw [x3.hk p (by rw [x2.hd]; exact pin), x2.hk p pin]; exact hxs
        | true =>
          simp only [if_true] at hrest2 ⊢
          obtain ⟨dd, S2, hfe, hlen, rfl, rfl⟩ := hrest2
          refine ⟨z3, e', rfl, s3, he3.mono x3, ?_⟩
          rw [hfe]
          intro z4 q2 x4 s4 v rv
          subst q2
          have xx := ((xd.trans x2).trans x3).trans x4
          have hp4 : z4.H p = some (.lst xs) := by rw [x4.hk p (by rw [x3.hd, x2.hd]; exact pin), x3.hk p (by rw [x2.hd]; exact pin), x2.hk p pin]; exact hxs
          have pin4 : p ∈ z4.hd := by rw [xx.hd]; exact List.mem_cons_self
          obtain ⟨b1, b2⟩ := held_set s4 pin4 (xs ++ [v])
          refine ⟨xs, hp4, by rw [← rr.length, sizeLine_eq]; exact hlen, ⟨z4.hd, z4.ρ, z4.S, upd z4.H p (.lst (xs ++ [v]))⟩, acc ++ [dd], xs ++ [v], rfl, xx.set s4 hp s1, (((x0.trans x2.ex0).trans x3.ex0).trans x4.ex0).trans b1, b2, upd_same, by rw [List.length_append]; exact hlen, ?_, hrest⟩
          exact ((((rr.mono x2).mono x3).mono x4).mono0 b1).app (.one (rv.mono0 b1))
    · left
      have hin : i = s.1.length := by omega
      subst hin
      rw [List.drop_length] at hF
      unfold forR at hF
      cases hch : srcOk zi.S s with
      | false => simp only [hch] at hF; cases hF
      | true =>
        simp only [hch, if_true] at hF
        injection hF with h1 h2
        subst h1
        exact ⟨IO.stops zi x0 si hch, fin zi xs xd x0 si h2 hxs hl rr⟩
noncomputable def lc2F (t : Tg) (own : List Nat) (fi2 : Env → Store → Rs Src) (t2 : Tg) (own2 : List Nat) (ft : Env → Store → Rs Bool) (fe : Env → Store → Rs D) (e : Env) : D → List D → Store → Rs (List D) := fun x acc S => match setT (wip e own) t x with
  | some e' => (fi2 e' S).bind fun s2 S => forR (fun S => srcOk S s2) (lcF t2 own2 ft fe e') s2.1 acc S
  | none => .bad
noncomputable def lc2E (fi : Env → Store → Rs Src) (t : Tg) (own : List Nat) (fi2 : Env → Store → Rs Src) (t2 : Tg) (own2 : List Nat) (ft : Env → Store → Rs Bool) (fe : Env → Store → Rs D) : Env → Store → Rs D := fun e S =>
  (fi e S).bind fun s S => (forR (fun S => srcOk S s) (lc2F t own fi2 t2 own2 ft fe e) s.1 [] S).nox.bind fun ds S => .ok (.lst ds) S
theorem comp2_core {W : WX} {own : List (Str × Nat)} {own2 : List Nat} {t t2 : Tg} {fi fi2 : Env → Store → Rs Src} {ft : Env → Store → Rs Bool} {fe : Env → Store → Rs D} (ho : ∀ i ∈ tgI t, i ∈ own.map (·.2)) (ho2 : ∀ i ∈ tgI t2, i ∈ own2) {σ : L2.St} {H : Hp} {Q : VK}
    (h : tE X W (lc2E fi t (own.map (·.2)) fi2 t2 own2 ft fe) σ H Q) : tLc2 (tI X W fi) (tG X t) (tT X WF fun _ S => .ok true S) (tI X WF fi2) (tG X t2) (tT X WF ft) (tE X WF fe) (own.map (·.2)) own2 σ H Q := by
  obtain ⟨z, e, rfl, hs, he, P⟩ := h
  refine ⟨z, e, rfl, hs, he, P.bind.imp fun s z1 x1 s1 P1 J IO p hp => ?_⟩
  have he1 := he.mono x1
  obtain ⟨ds, Sf, hR⟩ : ∃ ds Sf, forR (fun S => srcOk S s) (lc2F t (own.map (·.2)) fi2 t2 own2 ft fe e) s.1 [] z1.S = .ok ds Sf := by
    cases q : forR (fun S => srcOk S s) (lc2F t (own.map (·.2)) fi2 t2 own2 ft fe e) s.1 [] z1.S with
    | ok ds Sf => exact ⟨ds, Sf, rfl⟩
    | _ => rw [q] at P1; exact P1.elim
  rw [hR] at P1
  have P1 : Post X.K X.mg W z1 (.ok (.lst ds) Sf) (fun d z1 => ∀ v, Rep X.K z1 d v → Q v z1.H) := P1
  let Pv : Nat → Hp → Prop := fun i H => ∃ zi acc xs, zi.H = H ∧ ExtD p z1 zi ∧ StOk X.K zi ∧ H p = some (.lst xs) ∧ acc.length ≤ SZ ∧ Reps X.K zi acc xs ∧ forR (fun S => srcOk S s) (lc2F t (own.map (·.2)) fi2 t2 own2 ft fe e) (s.1.drop i) acc zi.S = .ok ds Sf
  have itok : ∀ zi, ExtD p z1 zi → ItOk X.K zi s J := fun zi x => IO.mono ⟨x.pre, x.im⟩
  refine ⟨fun i m H => m = s.1.length - i ∧ i ≤ s.1.length ∧ Pv i H, ⟨s.1.length, by simp, Nat.zero_le _, ?_⟩, ?_⟩
  · obtain ⟨a1, a2⟩ := held_start s1 hp []
    exact ⟨_, [], [], rfl, a1, a2, upd_same, by simp, .nil, by simpa using hR⟩
  · rintro i m H ⟨rfl, hi, zi, acc, xs, rfl, xd, si, hxs, hl, rr, hF⟩
    by_cases hlt : i < s.1.length
    · right
      obtain ⟨d, hd⟩ : ∃ d, s.1[i]? = some d := ⟨_, List.getElem?_eq_getElem hlt⟩
      have hdr : s.1.drop i = d :: s.1.drop (i + 1) := by
        rw [List.drop_eq_getElem_cons hlt]
        rw [List.getElem?_eq_getElem hlt] at hd; cases hd; rfl
      rw [hdr] at hF
      unfold forR at hF
      cases hch : srcOk zi.S s with
      | false => simp only [hch] at hF; cases hF
      | true =>
        simp only [hch, if_true] at hF
        obtain ⟨acc', S', hf, hrest⟩ := bind_ok hF
        refine ⟨(itok zi xd).goes zi i (Ex0.refl _) si hch hlt, Pv (i + 1), fun H' h' => ⟨_, by omega, rfl, hlt, h'⟩, fun x H' y => ?_⟩
        obtain ⟨z2, d2, rfl, e2, x2, s2, hd2, r2⟩ := (itok zi xd).yields zi i x H' (Ex0.refl _) si hch hlt y
        rw [hd] at hd2; cases hd2
        unfold lc2F at hf
        cases hst : setT (wip e (own.map (·.2))) t d with
        | none => rw [hst] at hf; cases hf
        | some e' =>
          rw [hst] at hf
          obtain ⟨src2, S1, hfi, hin⟩ := bind_ok hf
          have he2 : EnvOk X.K z2 (wip e (own.map (·.2))) (wipe σ (own.map (·.2))) := (EnvOk.mono0 (x2.ex0) (EnvOk.mono0 ⟨xd.pre, xd.im⟩ he1)).wip _
          have pin : p ∈ zi.hd := by rw [xd.hd]; exact List.mem_cons_self
          refine ⟨z2, _, d, e', rfl, s2, he2, r2, hst, fun σ2 he3 hw => ⟨(hw _ ho).trans (wipe_wipe _ _), z2, e', rfl, s2, he3, fun z3 q1 x3 s3 => ?_⟩⟩
          simp only [if_true]
          refine ⟨z3, e', rfl, s3, he3.mono x3, ?_⟩
          have q1 : z3.S = zi.S := q1.trans e2
          rw [q1, hfi]
          intro z4 q4 x4 s4 J1 IO1
          subst q4
          have xx := ((xd.trans x2).trans x3).trans x4
          have hp4 : z4.H p = some (.lst xs) := by rw [x4.hk p (by rw [x3.hd, x2.hd]; exact pin), x3.hk p (by rw [x2.hd]; exact pin), x2.hk p pin]; exact hxs
          exact inner_loop ho2 s1 hp xx s4 IO1 ((he3.mono x3).mono x4) hp4 hl (((rr.mono x2).mono x3).mono x4) hin fun zf ys w1 w2 w3 w4 w5 w6 w7 => ⟨zf, acc', ys, rfl, w1, w3, w5, w6, w7, by rw [w4]; exact hrest⟩
    · left
      have hin : i = s.1.length := by omega
      subst hin
      rw [List.drop_length] at hF
      unfold forR at hF
      cases hch : srcOk zi.S s with
      | false => simp only [hch] at hF; cases hF
      | true =>
        simp only [hch, if_true] at hF
        injection hF with h1 h2
        subst h1
        refine ⟨(itok zi xd).stops zi (Ex0.refl _) si hch, ?_⟩
        obtain ⟨c1, c2, c3⟩ := held_end s1 hp xd si hxs hl rr
        exact P1 ⟨z1.hd, zi.ρ, zi.S, zi.H⟩ h2 c1 c2 _ c3
variable {W : WX} {tg tg2 : Expr}
theorem s_comp2 {elt iter iter2 : Expr} {ifs : List Expr} {scope : Scope} {own : List (Str × Nat)} {own2 : List Nat} {t t2 : Tg} {pos : Pos} {fi fi2 : Env → Store → Rs Src} {ft : Env → Store → Rs Bool} {fe : Env → Store → Rs D} (hc : X.calm = true) (hN : X.N.Nodup) (hi : PI X tg iter (tI X W fi)) (ok : BlkOk X.N X.env.scope scope own)
    (hv : ∀ i ∈ own2, i ∈ own.map (·.2)) (ho : ∀ i ∈ tgI t, i ∈ own.map (·.2)) (ho2 : ∀ i ∈ tgI t2, i ∈ own2)
    (hg : ∀ (s : Shared) (H : Hp) (C : Addr) (cl : List (Str × Addr)) (fp : List Addr), PG (X.blk s H scope (compEnvC scope cl C X.env) fp) tg (tG X t))
    (hi2 : ∀ (s : Shared) (H : Hp) (C : Addr) (cl : List (Str × Addr)) (fp : List Addr), PI (X.blk s H scope (compEnvC scope cl C X.env) fp) tg2 iter2 (tI X WF fi2))
    (hg2 : ∀ (s : Shared) (H : Hp) (C : Addr) (cl : List (Str × Addr)) (fp : List Addr), PG (X.blk s H scope (compEnvC scope cl C X.env) fp) tg2 (tG X t2))
    (ht : ∀ (s : Shared) (H : Hp) (C : Addr) (cl : List (Str × Addr)) (fp : List Addr), PTs (X.blk s H scope (compEnvC scope cl C X.env) fp) ifs (tT X WF ft))
    (he : ∀ (s : Shared) (H : Hp) (C : Addr) (cl : List (Str × Addr)) (fp : List Addr), PE (X.blk s H scope (compEnvC scope cl C X.env) fp) elt (tE X WF fe)) (hs : ∀ x, foldedSetIterable iter X.env x = pure x) (hs2 : ∀ env x, foldedSetIterable iter2 env x = pure x) :
    PE X (.ListComp elt [⟨tg, iter, [], 0⟩, ⟨tg2, iter2, ifs, 0⟩] scope pos) (tE X W (lc2E fi t (own.map (·.2)) fi2 t2 own2 ft fe)) :=
  PE_imp (pe_lc2 (tt := tT X WF fun _ S => .ok true S) hc hN hi ok hv hg (fun s H C cl fp => s_yes) hi2 hg2 ht he hs hs2) fun σ H Q h => comp2_core ho ho2 h
theorem s_setComp2 {i : Nat} {y : Str} {py spos : Pos} {elt iter iter2 : Expr} {ifs : List Expr} {scope : Scope} {own : List (Str × Nat)} {own2 : List Nat} {t t2 : Tg} {pos : Pos} {fi fi2 : Env → Store → Rs Src} {ft : Env → Store → Rs Bool} {fe : Env → Store → Rs D} (hc : X.calm = true) (hN : X.N.Nodup)
    (hy : X.N[i]? = some y) (hyl : X.env.scope.names.lookup y = some .local) (hsw : swapsWith (.ListComp elt [⟨tg, iter, [], 0⟩, ⟨tg2, iter2, ifs, 0⟩] scope pos) (some (.Name y py)) spos.line X.env = pure true)
    (hi : PI X tg iter (tI X W fi)) (ok : BlkOk X.N X.env.scope scope own)
    (hv : ∀ i ∈ own2, i ∈ own.map (·.2)) (ho : ∀ i ∈ tgI t, i ∈ own.map (·.2)) (ho2 : ∀ i ∈ tgI t2, i ∈ own2)
    (hg : ∀ (s : Shared) (H : Hp) (C : Addr) (cl : List (Str × Addr)) (fp : List Addr), PG (X.blk s H scope (compEnvC scope cl C X.env) fp) tg (tG X t))
    (hi2 : ∀ (s : Shared) (H : Hp) (C : Addr) (cl : List (Str × Addr)) (fp : List Addr), PI (X.blk s H scope (compEnvC scope cl C X.env) fp) tg2 iter2 (tI X WF fi2))
    (hg2 : ∀ (s : Shared) (H : Hp) (C : Addr) (cl : List (Str × Addr)) (fp : List Addr), PG (X.blk s H scope (compEnvC scope cl C X.env) fp) tg2 (tG X t2))
    (ht : ∀ (s : Shared) (H : Hp) (C : Addr) (cl : List (Str × Addr)) (fp : List Addr), PTs (X.blk s H scope (compEnvC scope cl C X.env) fp) ifs (tT X WF ft))
    (he : ∀ (s : Shared) (H : Hp) (C : Addr) (cl : List (Str × Addr)) (fp : List Addr), PE (X.blk s H scope (compEnvC scope cl C X.env) fp) elt (tE X WF fe)) (hs : ∀ x, foldedSetIterable iter X.env x = pure x) (hs2 : ∀ env x, foldedSetIterable iter2 env x = pure x) :
    PS X (.Assign [.Name y py] (.ListComp elt [⟨tg, iter, [], 0⟩, ⟨tg2, iter2, ifs, 0⟩] scope pos) spos) (tAsg (tE X W (lc2E fi t (own.map (·.2)) fi2 t2 own2 ft fe)) (gName i)) := by
  have h := ps_setLc2 (X := X) (tt := tT X WF fun _ S => .ok true S) (spos := spos) hc hN hy hyl hsw hi ok hv hg (fun s H C cl fp => s_yes) hi2 hg2 ht he hs hs2
  exact ⟨fun pins s σ H Dn I q => h.run pins s σ H Dn I (comp2_core ho ho2 q)⟩
end
end PyI

set_option maxRecDepth 100000
namespace PyI
open PySem PySem.Spec PyProof.Rows L2
/-! ## fields -/
section
variable {K : PySem.W.Frag} {z : Zw}
theorem ins_inv {r C : Nat} {ns : List String} {fs : List (String × D)} {v : V} (s : StOk K z) (h : Rep K z (.obj r) v) (q : z.S[r]? = some (.ins C ns fs)) :
    ∃ a dx vs, v = .ref a ∧ z.ρ[r]? = some a ∧ ClsI K C ns ∧ (∀ p ∈ fs, p.1 ∈ ns) ∧ fs.length ≤ 900 ∧ z.H a = some (.ins C dx ((fNs fs).zip vs)) ∧ Reps K z (fDs fs) vs := by
  unfold Rep at h
  obtain ⟨a, rfl, ha⟩ := h
  obtain ⟨⟨c1, c2⟩, hl, dx, vs, h1, h2⟩ := s.ob r _ a q ha
  exact ⟨a, dx, vs, rfl, ha, c1, c2, hl, h1, h2⟩
theorem beq_str {a b : Str} : (a == b) = decide (a = b) := by
  by_cases h : a = b
  · subst h; simp
  · rw [beq_eq_false_iff_ne.mpr h]; simp [h]
theorem fs_lookup {ns : List String} (hn : NsOk ns) {f : String} (hf : f ∈ ns) : ∀ {fs : List (String × D)} {vs : List V} {d : D}, (∀ p ∈ fs, p.1 ∈ ns) → Reps K z (fDs fs) vs → fs.lookup f = some d → ∃ v, ((fNs fs).zip vs).lookup (Str.ofString f) = some v ∧ Rep K z d v
  | [], _, _, _, _, e => by cases e
  | (g, x) :: fs, vs, d, hs, r, e => by
    obtain ⟨v, ws, rfl, h1, h2⟩ := Reps.cons_inv (show Reps K z (x :: fDs fs) vs from r)
    show ∃ v', ((Str.ofString g, v) :: (fNs fs).zip ws).lookup (Str.ofString f) = some v' ∧ _
    by_cases h : f = g
    · subst h
      rw [List.lookup_cons_self] at e
      cases e
      exact ⟨v, by rw [List.lookup_cons_self], h1⟩
    · have hne : (Str.ofString f == Str.ofString g) = false := beq_eq_false_iff_ne.mpr fun q => h (hn f hf g (hs _ List.mem_cons_self) q)
      have hne2 : (f == g) = false := beq_eq_false_iff_ne.mpr h
      rw [List.lookup_cons, hne2] at e
      rw [List.lookup_cons, hne]
      exact fs_lookup hn hf (fun p hp => hs p (List.mem_cons_of_mem _ hp)) h2 e
theorem fs_no {ns : List String} {m : Str} (hm : ∀ f ∈ ns, Str.ofString f ≠ m) : ∀ {fs : List (String × D)} {vs : List V}, (∀ p ∈ fs, p.1 ∈ ns) → ((fNs fs).zip vs).lookup m = none
  | [], vs, _ => by cases vs <;> rfl
  | (g, x) :: fs, [], _ => rfl
  | (g, x) :: fs, v :: vs, hs => by
    show ((Str.ofString g, v) :: (fNs fs).zip vs).lookup m = none
    rw [List.lookup_cons, beq_eq_false_iff_ne.mpr (Ne.symm (hm g (hs _ List.mem_cons_self)))]
    exact fs_no hm fun p hp => hs p (List.mem_cons_of_mem _ hp)
theorem fs_put {ns : List String} (hn : NsOk ns) {f : String} (hf : f ∈ ns) {d : D} {v : V} (hv : Rep K z d v) : ∀ {fs : List (String × D)} {vs : List V}, (∀ p ∈ fs, p.1 ∈ ns) → Reps K z (fDs fs) vs →
    ∃ ws, putF (Str.ofString f) v ((fNs fs).zip vs) = (fNs (putL f d fs)).zip ws ∧ Reps K z (fDs (putL f d fs)) ws
  | [], vs, _, r => by
    cases r.nil_inv
    exact ⟨[v], rfl, .one hv⟩
  | (g, x) :: fs, vs, hs, r => by
    obtain ⟨u, us, rfl, h1, h2⟩ := Reps.cons_inv (show Reps K z (x :: fDs fs) vs from r)
    show ∃ ws, putF (Str.ofString f) v ((Str.ofString g, u) :: (fNs fs).zip us) = _ ∧ _
    by_cases h : g = f
    · subst h
      refine ⟨v :: us, ?_, ?_⟩
      · unfold putF putL; rw [if_pos rfl, if_pos rfl]; rfl
      · unfold putL; rw [if_pos rfl]; exact .cons hv h2
    · have hne : Str.ofString g ≠ Str.ofString f := fun q => h (hn g (hs _ List.mem_cons_self) f hf q)
      obtain ⟨ws, e1, e2⟩ := fs_put hn hf hv (fun p hp => hs p (List.mem_cons_of_mem _ hp)) h2
      refine ⟨u :: ws, ?_, ?_⟩
      · unfold putF putL; rw [if_neg hne, if_neg h, e1]; rfl
      · unfold putL; rw [if_neg h]; exact .cons h1 e2
theorem putL_mem {f : String} {d : D} {ns : List String} (hf : f ∈ ns) : ∀ {fs : List (String × D)}, (∀ p ∈ fs, p.1 ∈ ns) → ∀ p ∈ putL f d fs, p.1 ∈ ns
  | [], _, p, hp => by
    have : p = (f, d) := by simpa [putL] using hp
    rw [this]; exact hf
  | (g, x) :: fs, hs, p, hp => by
    unfold putL at hp
    split at hp
    · rename_i e
      rcases List.mem_cons.mp hp with h | h
      · rw [h]; exact hs (g, x) List.mem_cons_self
      · exact hs p (List.mem_cons_of_mem _ h)
    · rcases List.mem_cons.mp hp with h | h
      · rw [h]; exact hs (g, x) List.mem_cons_self
      · exact putL_mem hf (fun p hp => hs p (List.mem_cons_of_mem _ hp)) p h
theorem putL_len {f : String} {d : D} : ∀ {fs : List (String × D)}, (putL f d fs).length ≤ fs.length + 1
  | [] => by simp [putL]
  | (g, x) :: fs => by
    unfold putL
    split
    · simp
    · have := putL_len (f := f) (d := d) (fs := fs); simp; omega
theorem zip_mem {ns : List String} {ds : List D} : ∀ p ∈ ns.zip ds, p.1 ∈ ns := fun p hp => (List.of_mem_zip (a := p.1) (b := p.2) hp).1
theorem zip_fst : ∀ {ns : List String} {ds : List D}, ns.length = ds.length → fNs (ns.zip ds) = ns.map Str.ofString ∧ fDs (ns.zip ds) = ds
  | [], [], _ => ⟨rfl, rfl⟩
  | n :: ns, d :: ds, h => by
    obtain ⟨a, b⟩ := zip_fst (ns := ns) (ds := ds) (by simpa using h)
    exact ⟨by show Str.ofString n :: fNs (ns.zip ds) = _; rw [a]; rfl, by show d :: fDs (ns.zip ds) = _; rw [b]⟩
  | [], _ :: _, h => by cases h
  | _ :: _, [], h => by cases h
end
/-- the exception that a suite holds -/
def XaOk (X : Cx) (xa : Option (Nat × Nat × List String)) : Prop := ∀ a d ns, xa = some (a, d, ns) → ∃ (oe : Obj) (C : Addr), (a, oe) ∈ X.pn ∧ Zc (.ref C) (some d) oe ∧ (∃ vs, oe.data = .fields vs) ∧ XfC X.K C ∧ NsOk ns ∧ ∀ f ∈ ns, PySem.W.findIn X.K (.ref C) (Str.ofString f) = some none
section
variable {X : Cx} {W : WX} {pa pb pc : Expr} {fa fb fc : Env → Store → Rs D} {pos : Pos} {es : List Expr} {ga : Env → Store → Rs (List D)} {xa : Option (Nat × Nat × List String)}
theorem s_fld {f : String} (ha : PE X pa (tE X W fa)) (hb : attributeBase pa (Str.ofString f) X.env (eval pa X.env) = eval pa X.env) (hxa : XaOk X xa) :
    PE X (.Attribute pa (Str.ofString f) pos) (tE X W fun e S => (fa e S).bind fun x S => optR (fldop xa S f x) S) := by
  refine ⟨fun pins s σ H Q I h => ?_⟩
  obtain ⟨z, e, rfl, hs, he, P⟩ := h
  refine attr_of hb (thn (ha.run pins s σ z.H (fun v H1 => ∃ z1 d, z1.H = H1 ∧ StOk X.K z1 ∧ Rep X.K z1 d v ∧ Post X.K X.mg W z1 (optR (fldop xa z1.S f d) z1.S) fun d z2 => ∀ v, Rep X.K z2 d v → Q v z2.H) I ⟨z, e, rfl, hs, he, P.bind.imp fun d z1 x1 s1 P1 v rv => ⟨z1, d, rfl, s1, rv, P1⟩⟩) fun u s1 hh => ?_)
  obtain ⟨x, H1, I1, rx, z1, d, rfl, hs1, rd, P1⟩ := hh
  obtain ⟨d2, e2, q⟩ := P1.opt hs1
  cases d with
  | obj r =>
    simp only [fldop] at e2
    cases e3 : z1.S[r]? with
    | none => rw [e3] at e2; cases e2
    | some mo =>
      rw [e3] at e2
      cases mo with
      | ins C ns fs =>
        simp only at e2
        split at e2
        · rename_i hf
          obtain ⟨a, dx, vs, rfl, _, c1, c2, _, h1, h2⟩ := ins_inv hs1 rd e3
          obtain rfl : u = Value.ref a := rx
          obtain ⟨w, l, rw_⟩ := fs_lookup c1.inj hf c2 h2 e2
          exact getattr_ok I1 h1 c1.cls (c1.no f hf) l fun u' s2 I2 ru => ⟨w, _, I2, ru, q w rw_⟩
        · cases e2
      | _ => cases e2
  | exc a d ns ds =>
    simp only [fldop] at e2
    split at e2
    · rename_i hc
      obtain ⟨hc, hf⟩ := hc
      obtain ⟨oe, C, hp, hz, hfl, T, hn, hno⟩ := hxa a d ns hc
      unfold Rep at rd
      obtain ⟨rfl, hl, vs, h1, h2⟩ := rd
      obtain rfl : u = Value.ref a := rx
      obtain ⟨a1, a2⟩ := zip_fst hl
      obtain ⟨w, l, rw_⟩ := fs_lookup (K := X.K) (z := z1) (fs := ns.zip ds) (vs := vs) hn hf zip_mem (by rw [a2]; exact h2) e2
      rw [a1] at l
      obtain ⟨ho, _⟩ := I1.pin (a, oe) (List.mem_append_left _ hp)
      obtain ⟨vs2, hd⟩ := hfl
      have hx : ObjOk X.prog X.w z1.H s1.heap d (.xd ((ns.map Str.ofString).zip vs)) := I1.hok d _ h1.1
      obtain ⟨mA, hns, hr⟩ := hx
      obtain ⟨od, ho2, hl2⟩ := lookIn_ns hns
      obtain ⟨u, hu, ru⟩ := RelO.some_of (v := w) (o := mA (Str.ofString f)) (by rw [← l]; exact hr _)
      have J : PySem.W.InstAt s1.heap a oe C (some od) := ⟨ho, hz.1, by unfold PySem.W.notCls; rw [hd] <;> rfl, by rw [hz.2]; exact ho2⟩
      exact HandSPX.exc_get I1.kIn J T.ga T.gg T.exC (PySem.W.findObj_own T.hdC (hno f hf) rfl (by rw [hl2, hu])) (handed_of ru) ⟨w, _, I1.tok _, ru, q w rw_⟩
    · cases e2
  | _ => cases e2
/-! ## instances -/
structure MethOk (X : Cx) (k : Nat) (C : Addr) (m : Str) (c : List D → Store → Rs D) : Prop where
  ex : ∃ (fa : Addr) (fd : FuncData) (ps : List Str), Meth X.K C m fa ∧ L2.Binds X.K fd ps [] ∧ FnOk X.prog X.w X.K X.mg X.base (L2.CX X.prog X.w) k fa fd ps (spOf X.K X.mg ps.length c) ∧
    ∀ ds S, c ds S ≠ .bad → ds.length = ps.length
theorem s_mk {p : Pos} {x : Str} {C f : Addr} {fd : FuncData} {ps : List Str} {k : Nat} {ns : List String} {c : List D → Store → Rs D} (hcl : ClsI X.K C ns) (M : Mk X.K C f) (F : FnOk X.prog X.w X.K X.mg X.base (L2.CX X.prog X.w) k f fd ps (spOf X.K X.mg ps.length c)) (hr : Room (k + 1) X.A) (hg : Gl X x) (hm : X.mg x = some (.ref C))
    (hb : Binds X.K fd ps []) (tk : Takes X W) (hcl2 : ∀ ds S, c ds S ≠ .bad → ds.length = ps.length) (ha : PA X (pa :: es) (tA X W ga)) (hdb : (x == ("__debug__" : Str)) = false)
    (he : starEach (pa :: es) X.env = (false, eval pa X.env) :: starEach es X.env) (hpl : (backTo pos (starEach es X.env)).any (·.1) = false) :
    PE X (.Call (.Name x p) (pa :: es) [] pos) (tE X W fun e S => (ga e S).bind fun ds S => (c (.obj S.length :: ds) (S ++ [.ins C ns []])).nox.bind fun d S' => match d with
      | .non => .ok (.obj S.length) S'
      | _ => .bad) :=
  PE_imp (pe_make M F hr hg hm hb .nil (E := fun _ _ _ => False) (passes_call tk (fun _ _ _ _ h => h.elim)) ha hdb he hpl) fun σ H Q h => by
    obtain ⟨z, e, rfl, hs, he, P⟩ := h
    refine ⟨z, e, rfl, hs, he, P.bind.imp fun ds z1 x1 s1 P1 vs rv => ?_⟩
    show ∀ x dx, z1.H x = none → z1.H dx = none → dx ≠ x → spOf X.K X.mg ps.length c (.ref x :: (vs ++ [])) (upd (upd z1.H dx (.own x)) x (.ins C dx [])) (fun v H2 => v = .non ∧ Q (.ref x) H2) (fun _ _ _ => False)
    intro a dx n1 n2 ne
    rw [List.append_nil]
    obtain ⟨x2, s2⟩ := new_ins s1 hcl n1 n2 ne
    have hra : (z1.ρ ++ [a])[z1.S.length]? = some a := by
      rw [← s1.len]; simp
    have ro : Rep X.K ⟨z1.hd, z1.ρ ++ [a], z1.S ++ [MO.ins C ns []], upd (upd z1.H dx (.own a)) a (.ins C dx [])⟩ (.obj z1.S.length) (.ref a) := by
      unfold Rep; exact ⟨a, rfl, hra⟩
    cases q2 : c (.obj z1.S.length :: ds) (z1.S ++ [.ins C ns []]) with
    | bad => rw [q2] at P1; exact P1.elim
    | exc y e2 S2 => rw [q2] at P1; exact P1.elim
    | ok d S2 =>
      have hd := hcl2 _ _ (by rw [q2]; exact fun h => by cases h)
      rw [q2] at P1
      refine ⟨by rw [← hd]; simp [rv.length], ⟨z1.hd, z1.ρ ++ [a], z1.S ++ [MO.ins C ns []], upd (upd z1.H dx (.own a)) a (.ins C dx [])⟩, .obj z1.S.length :: ds, rfl, s2, .cons ro (rv.mono x2), ?_⟩
      show match c (.obj z1.S.length :: ds) (z1.S ++ [.ins C ns []]) with | _ => _
      rw [q2]
      intro w z2 k1 k2 k3 k4
      cases d with
      | non => exact ⟨k4.non_inv, P1 z2 k1 (x2.trans k2) k3 _ (ro.mono k2)⟩
      | _ => exact P1.elim
end
end PyI

set_option maxRecDepth 100000
namespace PyI
open PySem PySem.Spec PyProof.Rows L2
/-! ## a method's call -/
theorem methCall_few {M : Model} {A : Around} {E : Value → Shared → Prop} {s : Shared} {env : PySem.Env} {o : Expr} {name : Str} {apos pos : Pos} {args : List Expr} {Q : Value → Shared → Prop}
    (hbase : attributeBase o name env (eval o env) = eval o env)
    (hfew : ((backTo pos (starEach args env)).all (fun x => !x.1) && (backToKw pos (keywordEach [] env)).all (fun x => x.1.isSome)
      && decide (args.length + ([] : List Keyword).length + (if ([] : List Keyword).isEmpty then 0 else 1) < 30)) = true)
    (hline : (apos.endLine == pos.line) = true)
    (h : wpAny M A (eval o env) (fun ov s₁ => ∀ pl, wpAny M A (getMethod ov name pl) (fun fx s₂ => wpAny M A (callWith pos fx.1 fx.2 (backTo pos (starEach args env)) (backToKw pos (keywordEach [] env))) Q E s₂) E s₁) E s) :
    wpAny M A (eval (.Call (.Attribute o name apos) args [] pos) env) Q E s := by
  rw [arm_eval_Call, hbase]
  refine wpAny_bind (wpAny_mono h (fun ov s₁ h₁ => ?_) fun _ _ e => e)
  refine wpAny_bind (wpAny_standAt ?_)
  have hform : methodCallForm (args.length + ([] : List Keyword).length) (backTo pos (starEach args env)) (backToKw pos (keywordEach [] env)) = true := hfew
  have hpos : methodCallPos true o env apos pos = pure pos := by unfold methodCallPos; simp [hline]
  unfold methodCall
  rw [hform]
  refine wpAny_bind (wpAny_holding (wpAny_mono (h₁ _) (fun fx s2 h2 => ?_) fun _ _ e => e))
  exact wpAny_bind (wpAny_of_eq hpos h2)
section
variable {X : Cx} {CX : CXT} {k : Nat} {f C : Addr} {fd : FuncData} {ps : List Str} {sp : Sp} {E : L2.St → XK} {m : Str} {pos apos : Pos} {e o : Expr} {es : List Expr} {ta : TE} {t : TA}
def tMethSD (C : Addr) (m : Str) (sp : Sp) (E : L2.St → XK) (ta : TE) (t : TA) : TE := fun σ H Q => ta σ H fun x H1 => ∃ a dx fs, x = .ref a ∧ H1 a = some (.ins C dx fs) ∧ fs.lookup m = none ∧
  t σ H1 fun vs H2 => sp (x :: (vs ++ [])) H2 Q (E σ)
theorem pe_methSD (he : PE X o ta) (c : Cls X.K C) (hm : Meth X.K C m f) (F : FnOk X.prog X.w X.K X.mg X.base CX k f fd ps sp) (hr : Room k X.A) (hb : Binds X.K fd ps []) (hx : ∀ σ, PassesAt CX X σ (E σ)) (ha : PA X (e :: es) t)
    (hbase : attributeBase o m X.env (eval o X.env) = eval o X.env)
    (hfew : ((backTo pos (starEach (e :: es) X.env)).all (fun x => !x.1) && (backToKw pos (keywordEach [] X.env)).all (fun x => x.1.isSome)
      && decide ((e :: es).length + ([] : List Keyword).length + (if ([] : List Keyword).isEmpty then 0 else 1) < 30)) = true) (hline : (apos.endLine == pos.line) = true)
    (hst : starEach (e :: es) X.env = (false, eval e X.env) :: starEach es X.env) (hpl : (backTo pos (starEach es X.env)).any (·.1) = false) :
    PE X (.Call (.Attribute o m apos) (e :: es) [] pos) (tMethSD C m sp E ta t) := by
  refine ⟨fun pins s σ H Q I h => ?_⟩
  refine methCall_few hbase hfew hline (thn (he.run pins s σ H _ I h) fun u s1 hu => ?_)
  obtain ⟨x, H1, I1, rx, a, dx, fs, ex, ea, l, q⟩ := hu
  subst ex
  obtain rfl : u = Value.ref a := rx
  intro pl
  refine getmeth_ok I1 ea c hm l ?_
  refine PySem.W.callWith_K (first := [.ref a]) (h₀ := X.base) I.ok.mod.kin hm.kp (thn (ha.run pos pins s1 σ H1 _ I1 q) fun us s2 ⟨vs, H2, I2, r, q2⟩ => ⟨I2.kIn, ?_⟩) hst hpl
  exact run_fnSD (us := .ref a :: us) (vs := .ref a :: vs) F hr hb .nil (hx σ) I2 (.cons rfl r) q2
theorem pe_methSD0 (he : PE X o ta) (c : Cls X.K C) (hm : Meth X.K C m f) (F : FnOk X.prog X.w X.K X.mg X.base CX k f fd ps sp) (hr : Room k X.A) (hb : Binds X.K fd ps []) (hx : ∀ σ, PassesAt CX X σ (E σ))
    (hbase : attributeBase o m X.env (eval o X.env) = eval o X.env) (hline : (apos.endLine == pos.line) = true) :
    PE X (.Call (.Attribute o m apos) [] [] pos) (tMethSD C m sp E ta tNil) := by
  refine ⟨fun pins s σ H Q I h => ?_⟩
  refine methCall_few hbase rfl hline (thn (he.run pins s σ H _ I h) fun u s1 hu => ?_)
  obtain ⟨x, H1, I1, rx, a, dx, fs, ex, ea, l, q⟩ := hu
  subst ex
  obtain rfl : u = Value.ref a := rx
  intro pl
  refine getmeth_ok I1 ea c hm l ?_
  exact PySem.W.callWith_K0 (first := [.ref a]) I1.kIn hm.kp (run_fnSD (us := [.ref a]) (vs := [.ref a]) F hr hb .nil (hx σ) I1 (.cons rfl .nil) q)
end
section
variable {X : Cx} {W : WX} {pa pb pc : Expr} {fa fb fc : Env → Store → Rs D} {pos : Pos} {es : List Expr} {ga : Env → Store → Rs (List D)}
/-- an object of the class -/
theorem mOf_inv {C : Nat} {ns : List String} {S : Store} {o : D} {r : Nat} (h : mOf C ns S o = some r) : ∃ fs, o = .obj r ∧ S[r]? = some (.ins C ns fs) := by
  cases o with
  | obj r' =>
    simp only [mOf] at h
    split at h
    · rename_i C' ns' fs e
      split at h
      · rename_i hc
        obtain ⟨rfl, rfl⟩ := hc
        cases h
        exact ⟨_, rfl, e⟩
      · cases h
    · cases h
  | _ => cases h
theorem s_cM_core {m : Str} {ps : List Str} {r : Nat} {C : Addr} {ns : List String} {fs : List (String × D)} {c : List D → Store → Rs D} {σ : L2.St} {Q : VK} {t : TA} {z1 : Zw} {e : Env} {v : V}
    (hcl2 : ∀ ds S, c ds S ≠ .bad → ds.length = ps.length) (hm : ∀ f ∈ ns, Str.ofString f ≠ m) (s1 : StOk X.K z1) (rv : Rep X.K z1 (.obj r) v) (he : EnvOk X.K z1 e σ) (q : z1.S[r]? = some (.ins C ns fs))
    (ht : ∀ Q', tA X W ga σ z1.H Q' → t σ z1.H Q')
    (P : Post X.K X.mg W z1 ((ga e z1.S).bind fun ds S => (c (.obj r :: ds) S).at e) (fun d z2 => ∀ v, Rep X.K z2 d v → Q v z2.H)) :
    ∃ a dx fs, v = .ref a ∧ z1.H a = some (.ins C dx fs) ∧ fs.lookup m = none ∧ t σ z1.H fun vs H2 => spOf X.K X.mg ps.length c (v :: (vs ++ [])) H2 Q (WE W σ) := by
  obtain ⟨a, dx, ws, rfl, h1, c1, c2, hl, h2, h3⟩ := ins_inv s1 rv q
  refine ⟨a, dx, _, rfl, h2, fs_no hm c2, ht _ ⟨z1, e, rfl, s1, he, P.bind.imp fun ds z2 x2 s2 P2 vs rvs => ?_⟩⟩
  have P2 : Post X.K X.mg W z2 ((c (.obj r :: ds) z2.S).at e) (fun d z2 => ∀ v, Rep X.K z2 d v → Q v z2.H) := P2
  show spOf X.K X.mg ps.length c (V.ref a :: (vs ++ [])) z2.H Q (WE W σ)
  rw [List.append_nil]
  have hd : (D.obj r :: ds).length = ps.length := hcl2 _ z2.S fun q => by rw [q] at P2; exact P2
  refine ⟨by rw [← hd]; simp [rvs.length], z2, .obj r :: ds, rfl, s2, .cons (rv.mono x2) rvs, ?_⟩
  cases q2 : c (.obj r :: ds) z2.S with
  | bad => rw [q2] at P2; exact P2.elim
  | ok d S2 => rw [q2] at P2; exact fun w z3 k1 k2 k3 k4 => P2 z3 k1 k2 k3 w k4
  | exc y e2 S2 =>
    rw [q2] at P2
    exact fun z3 cls dx k1 k2 k3 k4 => P2 z3 cls dx σ k1 k2 k3 ((he.mono x2).mono k2) k4
/-- what the table says of a class -/
structure ClsOk (X : Cx) (k : Nat) (C : Addr) (ns : List String) (ms : List (String × String)) (call : String → List D → Store → Rs D) : Prop where
  cls : ClsI X.K C ns
  mks : PySem.W.makesIn X.K C = true
  kp : PySem.W.keepIn X.K (.ref C) = true
  meth : ∀ m key, ms.lookup m = some key → (∀ f ∈ ns, Str.ofString f ≠ Str.ofString m) ∧ MethOk X k C (Str.ofString m) (call key)
theorem s_cM {k : Nat} {C : Addr} {ns : List String} {m : Str} {c : List D → Store → Rs D} {apos : Pos} (hcl : ClsI X.K C ns) (hno : ∀ f ∈ ns, Str.ofString f ≠ m) (M : MethOk X k C m c) (hr : Room k X.A) (tk : Takes X W) (ho : PE X pa (tE X W fa)) (ha : PA X (pb :: es) (tA X W ga))
    (hbase : attributeBase pa m X.env (eval pa X.env) = eval pa X.env)
    (hfew : ((backTo pos (starEach (pb :: es) X.env)).all (fun x => !x.1) && (backToKw pos (keywordEach [] X.env)).all (fun x => x.1.isSome)
      && decide ((pb :: es).length + ([] : List Keyword).length + (if ([] : List Keyword).isEmpty then 0 else 1) < 30)) = true) (hline : (apos.endLine == pos.line) = true)
    (hst : starEach (pb :: es) X.env = (false, eval pb X.env) :: starEach es X.env) (hpl : (backTo pos (starEach es X.env)).any (·.1) = false) :
    PE X (.Call (.Attribute pa m apos) (pb :: es) [] pos) (tE X W fun e S => (fa e S).bind fun o S => (optR (mOf C ns S o) S).bind fun r S => (ga e S).bind fun ds S => (c (.obj r :: ds) S).at e) := by
  obtain ⟨fa', fd, ps, hm, hb, F, hl⟩ := M
  refine PE_imp (pe_methSD ho hcl.cls hm F hr hb (E := WE W) (fun σ => passAt tk σ) ha hbase hfew hline hst hpl) fun σ H Q h => ?_
  obtain ⟨z, e, rfl, hs, he, P⟩ := h
  refine ⟨z, e, rfl, hs, he, P.bind.imp fun o z1 x1 s1 P1 v rv => ?_⟩
  obtain ⟨r, e1, P2⟩ := P1.bind.opt s1
  obtain ⟨fs, rfl, q⟩ := mOf_inv e1
  exact s_cM_core hl hno s1 rv (he.mono x1) q (fun _ h => h) P2
theorem s_cM0 {k : Nat} {C : Addr} {ns : List String} {m : Str} {c : List D → Store → Rs D} {apos : Pos} (hcl : ClsI X.K C ns) (hno : ∀ f ∈ ns, Str.ofString f ≠ m) (M : MethOk X k C m c) (hr : Room k X.A) (tk : Takes X W) (ho : PE X pa (tE X W fa))
    (hbase : attributeBase pa m X.env (eval pa X.env) = eval pa X.env) (hline : (apos.endLine == pos.line) = true) :
    PE X (.Call (.Attribute pa m apos) [] [] pos) (tE X W fun e S => (fa e S).bind fun o S => (optR (mOf C ns S o) S).bind fun r S => (c (.obj r :: []) S).at e) := by
  obtain ⟨fa', fd, ps, hm, hb, F, hl⟩ := M
  refine PE_imp (pe_methSD0 ho hcl.cls hm F hr hb (E := WE W) (fun σ => passAt tk σ) hbase hline) fun σ H Q h => ?_
  obtain ⟨z, e, rfl, hs, he, P⟩ := h
  refine ⟨z, e, rfl, hs, he, P.bind.imp fun o z1 x1 s1 P1 v rv => ?_⟩
  obtain ⟨r, e1, P2⟩ := P1.bind.opt s1
  obtain ⟨fs, rfl, q⟩ := mOf_inv e1
  exact s_cM_core (ga := fun _ S => .ok [] S) (t := tNil) hl hno s1 rv (he.mono x1) q (fun Q' h => by
    obtain ⟨z, e, e1, hs, he, P⟩ := h
    have q := Post.val P hs [] .nil
    rw [e1] at q; exact q) P2
/-! ## exceptions of the program's own -/
/-- what the __init__ of an exception's class does -/
def spX (C : Addr) (ns : List String) : Sp := fun vs H Q _ => ∃ a ws, vs = .ref a :: ws ∧ ws.length = ns.length ∧ H a = some (exo a C none) ∧ ∀ d, H d = none → d ≠ a → Q .non (upd (upd H d (exd d ((ns.map Str.ofString).zip ws))) a (exo a C (some d)))
structure XclOk (X : Cx) (k : Nat) (C : Addr) (ns : List String) : Prop where
  T : OexC X.K C
  ex : ∃ (fI : Addr) (fd : FuncData) (ps : List Str), PySem.W.findIn X.K (.ref C) "__init__" = some (some (.ref fI)) ∧ PySem.W.typeIn X.K (.ref fI) = some (.type "function") ∧ L2.Binds X.K fd ps [] ∧
    FnOk X.prog X.w X.K X.mg X.base (L2.CX X.prog X.w) k fI fd ps (spX C ns)
  inj : NsOk ns
  xf : XfC X.K C
  no : ∀ f ∈ ns, PySem.W.findIn X.K (.ref C) (Str.ofString f) = some none
  exm : PySem.W.exmOne X.K (.ref C) (.ref C) = some true
  ne : ns ≠ []
/-! ## a field is set -/
theorem sfl_ok {z z0 : Zw} {f : String} {d o : D} {v w : V} {S' : Store} (s : StOk X.K z) (rv : Rep X.K z d v) (ro : Rep X.K z o w) (h : sflop z.S f d o = some S') :
    ∃ a C dx fs, w = .ref a ∧ z.H a = some (.ins C dx fs) ∧ Cls X.K C ∧ NoAttr X.K C (Str.ofString f) ∧ fs.length < 1000 ∧ insC z.S o = some C ∧
      ∃ z' : Zw, z'.H = upd z.H a (.ins C dx (putF (Str.ofString f) v fs)) ∧ z'.S = S' ∧ Ext z z' ∧ StOk X.K z' := by
  cases o with
  | obj r =>
    simp only [sflop] at h
    split at h
    · rename_i C ns fs e
      split at h
      · rename_i hc
        cases h
        obtain ⟨a, dx, vs, rfl, ha, c1, c2, hl, h1, h2⟩ := ins_inv s ro e
        obtain ⟨ws, e1, e2⟩ := fs_put c1.inj hc.1 rv c2 h2
        refine ⟨a, C, dx, _, rfl, h1, c1.cls, c1.no f hc.1, by rw [List.length_zip, List.length_map]; omega, by simp only [insC, e], ?_⟩
        rw [e1]
        obtain ⟨x', s'⟩ := set_obG (mo := .ins C ns (putL f d fs)) (o := .ins C dx ((fNs (putL f d fs)).zip ws)) s e (fun h => nomatch h) ha fun z' x e => ⟨⟨c1, putL_mem hc.1 c2⟩, by have := putL_len (f := f) (d := d) (fs := fs); omega, dx, ws, e, e2.mono x⟩
        exact ⟨_, rfl, rfl, x', s'⟩
      · cases h
    · cases h
  | _ => cases h
end
end PyI

set_option maxRecDepth 100000
set_option maxHeartbeats 2000000
namespace PyI
open PySem PySem.Spec PyProof.Rows L2
theorem look_app {x : Str} {v : Value} : ∀ {L M : List (Str × Value)}, L.lookup x = none → (L ++ M).lookup x = M.lookup x
  | [], _, _ => rfl
  | (y, u) :: L, M, h => by
    rw [List.lookup_cons] at h
    rw [List.cons_append, List.lookup_cons]
    cases q : x == y with
    | true => rw [q] at h; cases h
    | false =>
      rw [q] at h
      exact look_app (v := v) (L := L) h
theorem zip_lookup : ∀ {ps : List Str} {us : List Value} {L : List (Str × Value)}, (∀ n ∈ ps, L.lookup n = none) → ps.Nodup → us.length = ps.length → ps.filterMap (fun n => ((L ++ ps.zip us).lookup n).map (n, ·)) = ps.zip us
  | [], us, L, _, _, h => by cases us <;> simp_all
  | p :: ps, [], _, _, _, h => by cases h
  | p :: ps, u :: us, L, hL, nd, h => by
    have nd' := List.nodup_cons.mp nd
    have e1 : (L ++ (p :: ps).zip (u :: us)).lookup p = some u := by
      rw [look_app (v := u) (hL p List.mem_cons_self)]
      simp
    have e2 : L ++ (p :: ps).zip (u :: us) = (L ++ [(p, u)]) ++ ps.zip us := by simp
    rw [List.filterMap_cons, e1]
    show (p, u) :: _ = (p, u) :: _
    congr 1
    rw [e2]
    refine zip_lookup (fun n hn => ?_) nd'.2 (Nat.succ.inj h)
    rw [look_app (v := u) (hL n (List.mem_cons_of_mem _ hn))]
    have : (n == p) = false := by
      refine beq_eq_false_iff_ne.mpr ?_
      rintro rfl
      exact nd'.1 hn
    rw [List.lookup_cons, this]; rfl
def plainP (a : Arguments) (ps : List Str) : Bool := a.posonlyargs.isEmpty && a.vararg.isNone && a.kwonlyargs.isEmpty && a.kwarg.isNone && decide (a.args.map (·.arg) = ps) && decide ps.Nodup
theorem lookup_none_nil {ps : List Str} {us : List Value} (h : us.length = ps.length) : (ps.filter fun n => ((ps.zip us).lookup n).isNone) = [] := by
  rw [List.filter_eq_nil_iff]
  intro n hn
  have : ∀ {ps : List Str} {us : List Value}, us.length = ps.length → n ∈ ps → ((ps.zip us).lookup n).isNone = false := by
    intro ps
    induction ps with
    | nil => intro us _ h; simp at h
    | cons p ps ih =>
      intro us h hn
      cases us with
      | nil => cases h
      | cons u us =>
        simp only [List.zip_cons_cons, List.lookup_cons]
        cases q : n == p with
        | true => rfl
        | false =>
          refine ih (Nat.succ.inj h) ?_
          rcases List.mem_cons.mp hn with e | e
          · subst e; simp at q
          · exact e
  simp [this h hn]
theorem bind_plain {fd : FuncData} {ps : List Str} {us : List Value} (h : plainP fd.params ps = true) (hd : fd.defaults = .none) (hl : us.length = ps.length) : bindArgs fd ⟨us, []⟩ = pure (ps.zip us) := by
  unfold plainP at h
  simp only [Bool.and_eq_true, decide_eq_true_eq, List.isEmpty_iff, Option.isNone_iff_eq_none] at h
  obtain ⟨⟨⟨⟨⟨h1, h2⟩, h3⟩, h4⟩, h5⟩, h6⟩ := h
  have hs : seqItems? fd.defaults = pure none := by rw [hd]; rfl
  have hz : (fd.params.args.map (·.arg)).filterMap (fun n => (((fd.params.args.map (·.arg)).zip us).lookup n).map (n, ·)) = (fd.params.args.map (·.arg)).zip us := by
    have := zip_lookup (ps := fd.params.args.map (·.arg)) (us := us) (L := []) (fun _ _ => rfl) (by rw [h5]; exact h6) (by rw [h5]; exact hl)
    simpa using this
  have hm : ((fd.params.args.map (·.arg)).filter fun n => (((fd.params.args.map (·.arg)).zip us).lookup n).isNone) = [] := lookup_none_nil (by rw [h5]; exact hl)
  have hlen : ¬ (us.length > (fd.params.args.map (·.arg)).length) := by rw [h5, hl]; omega
  rw [← h5]
  unfold bindArgs
  simp only [h1, h2, h3, h4, hs, List.map_nil, List.nil_append, List.append_nil, List.forIn_nil, pure_bind, Option.getD_none]
  have hlen' : us.length = (fd.params.args.map (·.arg)).length := by rw [h5, hl]
  simp only [hlen', gt_iff_lt, Nat.lt_irrefl, decide_false, Bool.false_and, Bool.false_eq_true, if_false, List.drop_nil, List.length_nil, Nat.sub_zero, List.take_length, hm, List.isEmpty_nil, Bool.not_true, List.drop_length, List.zip_nil_left, List.forIn_nil, List.nil_append, List.append_nil, hz, pure_bind]
/-! ## sorted(l, key=lambda x: (len(x), x)) -/
def keyB (x : Str) : Expr → Bool
  | .Tuple [.Call (.Name f _) [.Name y _] [] _, .Name y' _] _ _ => decide (f = ("len" : Str)) && decide (y = x) && decide (y' = x)
  | _ => false
theorem keyB_ok {x : Str} {e : Expr} (h : keyB x e = true) : ∃ p1 p2 p3 p4 k p5, e = .Tuple [.Call (.Name "len" p1) [.Name x p2] [] p3, .Name x p4] k p5 := by
  unfold keyB at h
  split at h
  · simp only [Bool.and_eq_true, decide_eq_true_eq] at h
    obtain ⟨⟨rfl, rfl⟩, rfl⟩ := h
    exact ⟨_, _, _, _, _, _, rfl⟩
  · cases h
def keyS (x : Str) (sc : Scope) : Bool := decide (sc.kind = .function) && !sc.isCoroutine && !sc.isGenerator && decide (sc.names.lookup x = some .local) && decide (sc.names.lookup ("len" : Str) = some .globalImplicit) && sc.names.all (fun y => !decide (y.2 = .cell) && !decide (y.2 = .free))
section
variable {prog : Program} {w : World} {A : Around} {s : Shared}
theorem key_eval {E : Value → Shared → Prop} {Q : Value → Shared → Prop} {env : PySem.Env} {x : Str} {a : Addr} {its : List Value} {m mg mb : Str → Option Value} {p1 p2 p3 p4 p5 : Pos} {k} (hk : env.scope.kind = .function) (hx : env.scope.names.lookup x = some .local)
    (hL : env.scope.names.lookup ("len" : Str) = some .globalImplicit) (hn : s.heap.Ns env.locals m) (hm : m x = some (.ref a)) (hg : s.heap.Ns env.globals mg) (hmg : mg "len" = none) (hb : s.heap.Ns env.builtins mb) (hbb : mb "len" = some (.builtin "len"))
    (hd : (x == ("__debug__" : Str)) = false) (ht : IsTup s.heap a its.toArray) (hz : its.length ≤ sizeLine)
    (h : ∀ tk tk2, Q (.ref s.heap.objs.size) { s with heap := s.heap.push { cls := .type "tuple", data := .seq [Value.int its.length tk, .ref a].toArray }, toks := tk2 }) :
    wpAny (model prog w) A (eval (.Tuple [.Call (.Name "len" p1) [.Name x p2] [] p3, .Name x p4] k p5) env) Q E s := by
  have nm : ∀ {s' : Shared} {Q' : Value → Shared → Prop} {E' : Value → Shared → Prop} {p : Pos}, s'.heap = s.heap → Q' (.ref a) s' → wpAny (model prog w) A (eval (.Name x p) env) Q' E' s' := fun {s' Q' E' p} e hq =>
    wpAny_Name (wpAny_loadName_local hk hx (by rw [e]; exact hn) hm hq) hd
  refine wpAny_Tuple_spliced (args_cons ?_ rfl)
  refine Call_ (Calls.Name_function_global hk hL (Calls.loadGlobal_builtin hg hmg hb hbb ?_) (by decide))
  refine PyProof.Rows.callWith_builtin1 (args_cons (nm rfl (args_nil ?_)) rfl) rfl rfl
  refine len_tuple ht (by have := line63; simp only [List.size_toArray]; omega) ?_
  refine args_cons (nm rfl (args_nil ?_)) rfl
  exact ⟨by simp [sizeLine_eq], by
    have := h (s.toks + 1) (s.toks + 1 + 1)
    simpa using this⟩
theorem key_call {f a c' : Addr} {qual x : Str} {params : Arguments} {body : Expr} {sc : Scope} {cl : List (Str × Addr)} {pm ctv : Value} {its : List Value} {ns : List Int} {mg mb : Str → Option Value} (bind : ∀ cd : Value, bindArgs (PySem.W.kla_fn "<lambda>" qual params body sc cl pm cd ctv) ⟨[.ref a], []⟩ = pure [(x, .ref a)])
    (hf : s.heap.get? f = some (PySem.W.kla_obj "<lambda>" qual params body sc cl pm c' ctv)) (hcd : s.heap.CodeRec (.ref c') qual) (hB : keyB x body = true) (hS : keyS x sc = true) (hroom : A.depth < recursionLimit) (hg : s.heap.Ns mainGlobals mg) (hmg : mg "len" = none)
    (hb : s.heap.Ns builtinsNs mb) (hbb : mb "len" = some (.builtin "len")) (hlim : s.heap.NoLimit) (hd : (x == ("__debug__" : Str)) = false) (ht : IsTup s.heap a its.toArray) (hz : its.length ≤ sizeLine) (hl : its.length = ns.length) (hr : ∀ h : Heap, ReadsAll h its (ns.map .int) []) :
    wpAny (model prog w) A (call (.ref f) [.ref a]) (PySem.W.KeyPure (.tuple [.int ns.length, .tuple (ns.map .int)]) s) (fun _ _ => False) s := by
  unfold keyS at hS
  simp only [Bool.and_eq_true, Bool.not_eq_true', decide_eq_true_eq, List.all_eq_true, decide_eq_false_iff_not] at hS
  obtain ⟨⟨⟨⟨⟨k1, k2⟩, k3⟩, k4⟩, k5⟩, k6⟩ := hS
  obtain ⟨p1, p2, p3, p4, k, p5, rfl⟩ := keyB_ok hB
  refine wpAny_call (codeAny_mono (R := fun r s' => ∃ v, r = .ok (.ret v) ∧ PySem.W.KeyPure (.tuple [.int ns.length, .tuple (ns.map .int)]) s v s') ?_ fun r s' hq => ?_)
  · refine PySem.W.kla_callFunE hroom hf rfl k2 k3 rfl hcd ?_
    rw [bind]
    refine wpAny_pure (wpAny_newFunctionEnv (fun y hy => (k6 y hy).1) (fun y hy => by
      have : y = (x, Value.ref a) := by simpa using hy
      subst this; exact k4) (fun h₁ hns hsb => ⟨hlim.fresh _ hsb, ?_⟩) k1)
    have kp : ∀ b o, s.heap.get? b = some o → h₁.get? b = some o := fun b o e => hsb.extBut b o (Nat.ne_of_lt (Heap.lt_size e)) (Heap.get?_push_of_some _ e)
    refine PySem.W.kla_codeExpr (key_eval (its := its) k1 k4 k5 hns (by simp [List.lookup]) (hg.keeps kp) hmg (hb.keeps kp) hbb hd (ht.keeps kp) hz fun tk tk2 => ?_)
    refine ⟨_, rfl, _, tk2, rfl, fun b o e => Heap.get?_push_of_some _ (kp b o e), ?_⟩
    obtain ⟨o, e1, e2, n, e3⟩ := ht
    have e4 := Heap.get?_push_of_some ({ cls := .type "tuple", data := .seq [Value.int its.length tk, .ref a].toArray } : Obj) (kp _ _ e1)
    have r2 : Reads (h₁.push { cls := .type "tuple", data := .seq [Value.int its.length tk, .ref a].toArray }) (.ref a) (.tuple (ns.map .int)) [] := .tuple e4 e2 e3 (by simpa using hr _)
    rw [← hl]
    exact .tuple (as := [] ++ ([] ++ [])) (Heap.get?_push_size _ rfl) rfl rfl (.cons (.int _ tk) (.cons r2 .nil))
  · obtain ⟨v, rfl, h⟩ := hq
    exact h
end
/-- what the def's lambda needs: the def's code object and its table -/
def LamOk (X : Cx) : Prop := ∃ c P, X.env.code = .ref c ∧ LamX.TabB X.base X.mg c P ∧ (P, X.env.qual ++ "<lambda>") ∈ tbT X.K ∧ ∀ p ∈ tbT X.K, p.1 = P → p.2 = X.env.qual ++ "<lambda>"
theorem extN_ok {K : PySem.W.Frag} {z : Zw} {H1 : Hp} (s : StOk K z) (e : LamX.ExtN z.H H1) (t : LamX.Tabs (tbT K) H1) : Ext z ⟨z.hd, z.ρ, z.S, H1⟩ ∧ StOk K ⟨z.hd, z.ρ, z.S, H1⟩ := by
  have im : ∀ a o, Im z a o → Im ⟨z.hd, z.ρ, z.S, H1⟩ a o := fun a o ⟨h1, h2, h3⟩ => ⟨e a o h1 h3, h2, h3⟩
  have x : Ext z ⟨z.hd, z.ρ, z.S, H1⟩ := ⟨List.prefix_refl _, im, rfl, fun a ha => by
    obtain ⟨u, q, n⟩ := s.ht a ha
    show H1 a = _
    rw [q]
    exact e a _ q n.nt⟩
  have keepR : ∀ {a : Addr}, a ∈ z.ρ → ∃ o, H1 a = some o ∧ NT o := fun {a} ha => by
    obtain ⟨o, h, n⟩ := s.tr a ha
    exact ⟨o, e a o h n, n⟩
  refine ⟨x, ⟨s.len, s.nd, fun a ha => keepR ha, fun a ha => ?_, s.dj, fun r mo a h1 h2 => ?_, t⟩⟩
  · obtain ⟨u, q, n⟩ := s.ht a ha
    exact ⟨u, e a _ q n.nt, n⟩
  · have q := s.ob r mo a h1 h2
    cases mo with
    | dead => trivial
    | lst ds => obtain ⟨xs, q1, q2, q3⟩ := q; exact ⟨xs, e a _ q1 (fun ps h => nomatch h), q2, q3.mono x⟩
    | ins C ns fs => obtain ⟨c0, c1, dx, vs, q1, q3⟩ := q; exact ⟨c0, c1, dx, vs, e a _ q1 (fun ps h => nomatch h), q3.mono x⟩
theorem reads_ints {K : PySem.W.Frag} {z : Zw} : ∀ {ds : List D} {xs : List V} {its : List Value} {ns : List Int}, Reps K z ds xs → Vals xs its → intsOf ds = some ns → its.length = ns.length ∧ ∀ h : Heap, ReadsAll h its (ns.map .int) []
  | [], _, _, _, r, v, e => by
    cases e
    rw [r.nil_inv] at v
    cases v
    exact ⟨rfl, fun h => .nil⟩
  | d :: ds, _, _, _, r, v, e => by
    obtain ⟨x, r', rfl, h1, h2⟩ := r.cons_inv
    cases v with
    | cons rx rv =>
      cases d with
      | int i =>
        obtain ⟨ms, e1, rfl⟩ := Option.map_eq_some_iff.mp (show (intsOf ds).map (i :: ·) = some _ from e)
        have hx := h1.int_inv
        subst hx
        obtain ⟨t, rfl⟩ := rx
        obtain ⟨l, k⟩ := reads_ints h2 rv e1
        exact ⟨by simp [l], fun h => .cons (as := []) (.int i t) (k h)⟩
      | _ => cases e
/-- an item that the key may be asked of -/
def SrtR (K : PySem.W.Frag) (z : Zw) (s : Shared) (v : Value) (d : D) : Prop := ∃ (a : Addr) (its : List Value) (ns : List Int), v = .ref a ∧ tupI d = some ns ∧ IsTup s.heap a its.toArray ∧ (∀ h : Heap, ReadsAll h its (ns.map .int) []) ∧ its.length = ns.length ∧ its.length ≤ sizeLine ∧ ∃ y, RelV y v ∧ Rep K z d y
theorem srt_each {X : Cx} {z : Zw} {pins : List (Addr × Obj)} {σ : L2.St} {s : Shared} (I : Inv X pins σ z.H s) : ∀ {ds : List D} {xs : List V} {us : List Value}, Reps X.K z ds xs → Vals xs us → (ds.all fun d => (tupI d).isSome) = true → PySem.W.EachIs (SrtR X.K z s) us ds
  | [], _, _, r, v, _ => by
    rw [r.nil_inv] at v
    cases v; exact .nil
  | d :: ds, _, _, r, v, h => by
    obtain ⟨x, r', rfl, h1, h2⟩ := r.cons_inv
    rw [List.all_cons, Bool.and_eq_true] at h
    cases v with
    | cons rx rv =>
      refine .cons ?_ (srt_each I h2 rv h.2)
      obtain ⟨ns, hn⟩ := Option.isSome_iff_exists.mp h.1
      cases d with
      | tup es =>
        have h1' := h1
        obtain ⟨a, xs, rfl, q, _, q3⟩ := h1.tup_inv
        cases rx
        obtain ⟨its, r1, r2, r3⟩ := I.tuple q
        obtain ⟨l, k⟩ := reads_ints q3 r1 (show intsOf es = some ns from hn)
        exact ⟨a, its, ns, rfl, hn, r2, k, l, by rw [← r1.length]; exact r3, .ref a, rfl, h1'⟩
      | _ => cases hn
theorem srt_out {K : PySem.W.Frag} {z : Zw} {s : Shared} : ∀ {us : List Value} {ds : List D}, PySem.W.EachIs (SrtR K z s) us ds → ∃ ys, Vals ys us ∧ Reps K z ds ys
  | _, _, .nil => ⟨[], .nil, .nil⟩
  | _, _, .cons h r => by
    obtain ⟨ys, h1, h2⟩ := srt_out r
    obtain ⟨_, _, _, _, _, _, _, _, _, y, k1, k2⟩ := h
    exact ⟨y :: ys, .cons k1 h1, .cons k2 h2⟩
theorem keyLen_of {d : D} {ns : List Int} (h : tupI d = some ns) : keyLen d = .tuple [.int ns.length, .tuple (ns.map .int)] := by
  unfold keyLen; rw [h]
theorem s_srt {X : Cx} {W : WX} {pa : Expr} {fa : Env → Store → Rs D} {x : Str} {params : Arguments} {body : Expr} {scope : Scope} {p pos lpos kpos : Pos} (hu : X.A.units + 65 < cLine) (hdp : X.A.depth < recursionLimit) (hg : Gl X "sorted") (hm : X.mg "sorted" = none) (hml : X.mg "len" = none)
    (L : LamOk X) (hpl : plainP params [x] = true) (hdf : params.defaults = []) (hkd : params.kw_defaults = []) (hB : keyB x body = true) (hS : keyS x scope = true) (hd : (x == ("__debug__" : Str)) = false) (ha : PE X pa (tE X W fa)) (hst : starEach [pa] X.env = [(false, eval pa X.env)]) :
    PE X (.Call (.Name "sorted" p) [pa] [⟨some "key", .Lambda params body scope lpos, kpos⟩] pos) (tE X W fun e S => (fa e S).bind fun o S => optR (srtop S o) S) := by
  refine ⟨fun pins s σ H Q I h => ?_⟩
  obtain ⟨z, e, rfl, hs, he, P⟩ := h
  obtain ⟨c, tP, hcode, TB, hmem, huq⟩ := L
  refine wpAny_Call_Name_kw (ld_blt (u := .builtin "sorted") I hg hm (by decide +kernel) ?_ (by decide) (by decide))
  refine PyProof.Rows.callWith_kw (thn ((pa_cons ha pa_nil hst).run pos pins s σ z.H (fun vs H1 => ∃ z1 o v, vs = [v] ∧ z1.H = H1 ∧ StOk X.K z1 ∧ Rep X.K z1 o v ∧ Post X.K X.mg W z1 (optR (srtop z1.S o) z1.S) fun d z1 => ∀ v, Rep X.K z1 d v → Q v z1.H) I
    ⟨z, e, rfl, hs, he, P.bind.imp fun o z1 x1 s1 P1 v rv => ⟨z1, o, v, rfl, rfl, s1, rv, P1⟩⟩) fun us s1 ⟨vs, H1, I1, r1, q1⟩ => ?_) (by rw [hst]; rfl) (by rw [hst]; rfl) rfl rfl
  obtain ⟨z1, o, v, rfl, rfl, hs1, rv, P1⟩ := q1
  show wpAny _ _ (evalAll ((do let v ← eval (.Lambda params body scope lpos) X.env; standAt pos; pure v) :: [])) _ _ s1
  have hS' := hS
  unfold keyS at hS'
  simp only [Bool.and_eq_true, Bool.not_eq_true', decide_eq_true_eq, List.all_eq_true, decide_eq_false_iff_not] at hS'
  obtain ⟨⟨⟨⟨⟨k1, k2⟩, k3⟩, k4⟩, k5⟩, k6⟩ := hS'
  have hdef : defaultsOf params X.env = ([], []) := by
    obtain ⟨p1, p2, p3, p4, p5, p6, p7⟩ := params
    subst hdf hkd
    rfl
  refine wpAny_evalAll_cons (wpAny_bind (LamX.lam_make2 (T := tbT X.K) I1 TB hcode hmem huq hs1.tb hdef (fun y hy hf => absurd hf (k6 y hy).2) fun f c' pm ctv H2 s2 I2 eN T2 hf hfn hfr hco => ?_))
  refine wpAny_bind (wpAny_standAt (wpAny_pure (wpAny_evalAll_nil ?_)))
  obtain ⟨x2, hs2⟩ := extN_ok hs1 eN T2
  have P2 := P1.rebase x2
  have rv2 := rv.mono x2
  obtain ⟨r, e1, _⟩ := Post.opt (z := ⟨z1.hd, z1.ρ, z1.S, H2⟩) P2 hs2
  rw [e1] at P2
  unfold srtop at e1
  cases q : lstOf z1.S o with
  | none => rw [q] at e1; cases e1
  | some ds =>
    rw [q] at e1
    have e1 : (if (ds.all fun d => (tupI d).isSome) = true then some (D.lst (srtD ds)) else none) = some r := e1
    by_cases hall : (ds.all fun d => (tupI d).isSome) = true
    · rw [if_pos hall] at e1
      cases e1
      obtain ⟨a, xs, rfl, g1, g2⟩ := lstOf_ok (z := ⟨z1.hd, z1.ρ, z1.S, H2⟩) hs2 rv2 q
      have hlen := lstOf_len (z := ⟨z1.hd, z1.ρ, z1.S, H2⟩) hs2 rv2 q
      obtain ⟨u, rfl, rx⟩ := vals1 r1
      cases rx
      obtain ⟨its, v1, v2, v3⟩ := I2.list g1
      have hE := srt_each (z := ⟨z1.hd, z1.ρ, z1.S, H2⟩) I2 g2 v1 hall
      have hin : ∀ d ∈ ds, ∃ ns, tupI d = some ns := fun d hd => Option.isSome_iff_exists.mp (List.all_eq_true.mp hall d hd)
      obtain ⟨mb, b1, b2⟩ := I2.mod.blt
      have hco' : s2.heap.CodeRec (.ref c') (X.env.qual ++ "<lambda>") := by
        obtain ⟨⟨oc, vs, t, hoc, hdc, hvc⟩, _, _⟩ := I2.hok c' _ hco
        exact ⟨c', oc, vs, t, rfl, hoc, hdc, hvc⟩
      show wpAny _ _ (call (.builtin "sorted") [.ref a] [(("key" : Str), Value.ref f)]) _ _ _
      refine PySem.W.sorted_key_data (k := keyLen) (b := false) v2.isList hE ?_ ?_ (by rw [sizeLine_eq]; exact hlen) ?_ (ksk_s1 _ _) (fun _ => ksk_l1 _ _) (fun _ => ksk_t1 _ _) ?_ ?_
      · intro d hd d' hd'
        obtain ⟨b, hb, rfl⟩ := List.mem_map.mp hd
        obtain ⟨b', hb', rfl⟩ := List.mem_map.mp hd'
        obtain ⟨ns, h1⟩ := hin b hb
        obtain ⟨ns', h2⟩ := hin b' hb'
        rw [keyLen_of h1, keyLen_of h2]
        simp [PySem.W.alike, PySem.W.alikeAll, PySem.W.alike_ints]
      · refine .inl fun d hd => ?_
        obtain ⟨b, hb, rfl⟩ := List.mem_map.mp hd
        obtain ⟨ns, h1⟩ := hin b hb
        exact ⟨_, _, keyLen_of h1⟩
      · intro d hd
        obtain ⟨ns, h1⟩ := hin d hd
        rw [keyLen_of h1]
        have : (PyData.tuple [.int ns.length, .tuple (ns.map .int)]).depth ≤ 2 := by simp [PyData.depth, PyData.depthAll, PySem.W.depth_ints]
        omega
      · intro v d hR hd' h tk kp
        obtain ⟨a1, its1, ns, rfl, h1, h2, h3, h4, h5, _⟩ := hR
        rw [keyLen_of h1]
        have I2m := I2.mod
        exact key_call (s := { s2 with heap := h, toks := tk }) (A := X.A.in1.in1) (mb := mb) (fun cd => bind_plain (ps := [x]) (us := [.ref a1]) hpl rfl rfl) (kp _ _ hf) (by
          obtain ⟨c0, oc, vs, t, e0, e2, e3, e4⟩ := hco'
          exact ⟨c0, oc, vs, t, e0, kp _ _ e2, e3, e4⟩) hB hS hdp ((I2.mod.glob.keeps I2.bk).keeps kp) hml ((b1.keeps I2.bk).keeps kp) ((b2 "len" (by decide)).trans (by decide +kernel)) (I2.nolimit.keeps kp) hd (h2.keeps kp) h5 h4 h3
      · intro out cc h' tk kp hfr' hget hol hO
        obtain ⟨ys, w1, w2⟩ := srt_out (z := ⟨z1.hd, z1.ρ, z1.S, H2⟩) hO
        have hp : H2 (s2.heap.objs.size + 1) = none := I2.hok.fresh (Nat.le_succ _)
        have hsl : (srtD ds).length ≤ SZ := by unfold srtD; rw [List.length_mergeSort]; exact hlen
        obtain ⟨z3, t1, t2, t3, t4, t5⟩ := new_lst (z := ⟨z1.hd, z1.ρ, z1.S, H2⟩) (ds := srtD ds) (xs := ys) hs2 hp hsl w2
        refine ⟨.ref (s2.heap.objs.size + 1), upd H2 (s2.heap.objs.size + 1) (.lst ys), I2.laid (t' := tk) kp (Nat.le_succ _) ⟨?_, out, cc, w1, hget⟩, rfl, ?_⟩
        · rw [w1.length, hol, sizeLine_eq]; exact hlen
        · rw [← t1]; exact P2 z3 t2 t3 t4 _ t5
    · rw [if_neg hall] at e1; cases e1
end PyI

set_option maxRecDepth 100000
set_option maxHeartbeats 4000000
namespace PyI
open PySem PySem.Spec PyProof.Rows L2
/-! ## several except clauses, each with a name -/
/-- what the clauses wish of an exception of the body, one after the other -/
def wAsM (K : PySem.W.Frag) (Wout : WX) (D : Ends) : List (Value × Nat × (Addr → Value → Option Addr → TS)) → WX
  | [] => Wout
  | (c, i, ts) :: r => fun cls d σ H => ∃ b, PySem.W.exmOne K cls c = some b ∧ (b = true → ∀ a, H a = none → ts a cls d { nx := fun σ' H' => D.nx (σ'.set i none) H', rt := D.rt, bk := fun σ' H' => D.bk (σ'.set i none) H', ct := fun σ' H' => D.ct (σ'.set i none) H' } (σ.set i (some (.ref a))) H) ∧
    (b = false → wAsM K Wout D r cls d σ H)
inductive HdsAs (X : Cx) : List ExceptHandler → List (Value × Nat × (Addr → Value → Option Addr → TS)) → Prop
  | nil : HdsAs X [] []
  | cons {x n : Str} {c : Value} {i : Nat} {ts : Addr → Value → Option Addr → TS} {b₀ : Stmt} {suite : List Stmt} {np pos' : Pos} {hds : List ExceptHandler} {l : List (Value × Nat × (Addr → Value → Option Addr → TS))} (hc : Names X x c) (hi : X.N[i]? = some n) (hln : X.env.kindOf n = some .local)
      (hsu : ∀ (a : Addr) (oe : Obj) (cls : Value) (d : Option Addr) (pn : List (Addr × Obj)), Zc cls d oe → (∃ vs, oe.data = .fields vs) → PSs (X.suite a ((a, oe) :: pn)) (b₀ :: suite) (ts a cls d)) (r : HdsAs X hds l) :
      HdsAs X (.ExceptHandler (some (.Name x np)) (some n) (b₀ :: suite) pos' :: hds) ((c, i, ts) :: l)
section
variable {X : Cx} {body : List Stmt} {h₀ : ExceptHandler} {hds : List ExceptHandler} {l : List (Value × Nat × (Addr → Value → Option Addr → TS))} {pos : Pos} {tb : WX → TS} {Wout : WX}
theorem ps_try_asM (hs : X.stack = X.env :: X.outer) (hf : X.env.frame = some X.env.locals) (hN : X.N.Nodup) (tk : Takes X Wout)
    (hb : ∀ (W : WX) (pn : List (Addr × Obj)) (xe : Value → Shared → Prop), Takes (X.tr pn xe) W → PassesOwn (model X.prog X.w) X.A X.env xe → PSs (X.tr pn xe) body (tb W))
    (hh : HdsAs X (h₀ :: hds) l) : PS X (.Try body (h₀ :: hds) [] [] pos) (fun D σ H => tb (wAsM X.K Wout D l) D σ H) := by
  refine ⟨fun pins s σ H D I h => ?_⟩
  have ok := I.ok
  have hfr : X.A.frames = some (X.env :: X.outer) := by rw [ok.frames, hs]
  refine wpAny_Try_except ?_
  refine wpAny_mono ((hb (wAsM X.K Wout D l) (X.pn ++ pins) (fun e s₁ => wpAny (model X.prog X.w) X.A (noteFrame e X.env) (fun _ s₂ => wpAny (model X.prog X.w) X.A (setFlight e none) (fun _ s₃ =>
    wpAny (model X.prog X.w) X.A (handleBy e X.env (h₀ :: hds)) (SP X pins D) X.xe s₃) X.xe s₂) X.xe s₁) (fun u s' xx => ?_) PassesOwn.looking).run [] s σ H D (I.toTry _) h) (fun f s1 hsp => ?_) (fun e s1 he => he)
  · -- the catch
    obtain ⟨a, B, sI, pins', σ', H', cls, d, rfl, J', nb, up, sky, na, os, ag, w⟩ := xx
    have J : Inv X pins σ' H' sI := J'.ofTry ok
    have sky' : Sky B (X.env :: X.outer) a (Zc cls d) X.env.locals s'.heap := by rw [← hs]; exact sky
    show wpAny (model X.prog X.w) X.A (noteFrame (.ref a) X.env) _ _ _
    refine Sky.land Zc.steady hfr hf sky' fun h3 fl3 up3 => ?_
    have J3 : Inv X pins σ' H' { s' with heap := h3 } := J.landed nb fl3.1 (up.trans up3) os ag
    obtain ⟨oe3, vs3, he3, hz3, hd3⟩ := fl3.there
    have notFr : ∀ {h : Heap} {o : Obj} {vs : Array Value}, h.FunFrames B (X.env :: X.outer) → h.get? a = some o → o.data = .fields vs → a ∉ frs (X.env :: X.outer) := fun {h o vs} ff e dd hm => by
      obtain ⟨_, o', e', hnf⟩ := ff.mem hm
      rw [e] at e'; cases e'
      exact hnf _ dd
    have nfr := notFr fl3.2.2.1 he3 hd3
    have nL : a ≠ X.env.locals := fun z => nfr (List.mem_filterMap.mpr ⟨X.env, List.mem_cons_self, by rw [hf, z]⟩)
    have nF : a ∉ X.fs := fun hm => by
      obtain ⟨e, he, q⟩ := List.mem_filterMap.mp hm
      exact nfr (List.mem_filterMap.mpr ⟨e, List.mem_cons_of_mem _ he, q⟩)
    have S3 := J3.suite he3 hd3 na nL nF
    have go : ∀ {hds' : List ExceptHandler} {l' : List (Value × Nat × (Addr → Value → Option Addr → TS))}, HdsAs X hds' l' → wAsM X.K Wout D l' cls d σ' H' →
        wpAny (model X.prog X.w) X.A (handleBy (.ref a) X.env hds') (SP X pins D) X.xe { s' with heap := h3 } := by
      intro hds' l' hk
      induction hk with
      | nil =>
        intro w
        refine wpAny_handleBy_nil ?_
        obtain ⟨k1, k2, k3, oe, vs, T, oT, ts', he, hz, hd, h1, hr⟩ := id fl3
        unfold PySem.passOn
        refine wpAny_bind (wpAny_field he hd h1 ?_)
        rw [if_neg (show ¬ ((Value.ref T == Value.none) = true) from by simp)]
        have fin : wpAny (model X.prog X.w) X.A (setFlight (.ref a) X.env.frame) (fun _ s4 => wpAny (model X.prog X.w) X.A (throw (.ref a) : Sem Flow) (SP X pins D) X.xe s4) X.xe { s' with heap := h3 } := by
          rw [hf]
          refine HandSPX.setFlight_upZ fl3 fun h4 hh4 up4 => wpAny_throw (tk _ _ ?_)
          exact ⟨a, B, sI, pins, σ', H', cls, d, rfl, J, nb, (up.trans up3).trans up4, .inr (.inr (by rw [hs]; exact hh4)), na, os, ag, w⟩
        first
          | exact wpAny_bind (wpAny_pure (wpAny_bind fin))
          | exact wpAny_bind fin
      | @cons x n c i ts b₀ suite np pos' hds2 l2 hc hi hln hsu r ih =>
        intro w
        obtain ⟨b, hb1, hyes, hno⟩ := w
        have hloc : Loc X.env.scope n := .inl hln
        refine wpAny_handleBy_cons (codeAny_handlers_test ?_) (by intro q; cases q)
        have LT : PySem.W.Looks (model X.prog X.w) h3 (typeOf (.ref a)) cls := fun A Q E s k q => wpAny_typeOf_ref (k _ _ he3) (by rw [hz3.1]; exact q)
        have LM := PySem.W.exm_one (M := model X.prog X.w) (J3.kIn) LT hb1
        have test : ∀ {Q : Value → Shared → Prop} {E : Value → Shared → Prop}, Q c { s' with heap := h3 } → wpAny (model X.prog X.w) (X.A.mark (some (.ref a))) (eval (.Name x np) X.env) Q E { s' with heap := h3 } := fun {Q E} q => by
          obtain ⟨hg, hdbg, hm | ⟨hm, hv, hnn⟩⟩ := hc
          · exact ld_glob (X := X.suite a ((a, oe3) :: (X.pn ++ pins))) S3 hg hm q hdbg
          · exact ld_blt (X := X.suite a ((a, oe3) :: (X.pn ++ pins))) S3 hg hm hv q hnn hdbg
        refine test (LM.here ?_)
        cases b with
        | true =>
          refine codeAny_handlers_suite_as ?_
          refine HandSPX.lands_againZ fl3 fun h4 fl4 up4 => ?_
          have J4 : Inv X pins σ' H' { s' with heap := h4 } := J.landed nb fl4.1 ((up.trans up3).trans up4) os ag
          obtain ⟨oe4, vs4, he4, hz4, hd4⟩ := fl4.there
          have S4 := J4.suite he4 hd4 na nL nF
          refine store_ok (X := X.suite a ((a, oe4) :: (X.pn ++ pins))) (v := .ref a) S4 hN hi hloc rfl (fun s5 S5 => ?_) (.inr hln)
          refine wpAny_mono ((hsu a oe4 cls d (X.pn ++ pins) hz4 ⟨_, hd4⟩).run [] s5 _ H' _ S5 (hyes rfl a na)) (fun f s6 hsp => ?_) (fun _ _ z => False.elim z)
          have end_ : ∀ {σ6 : L2.St} {H6 : Hp} {Q : Shared → Prop}, Inv (X.suite a ((a, oe4) :: (X.pn ++ pins))) [] σ6 H6 s6 → (∀ s7, Inv X pins (σ6.set i none) H6 s7 → Q s7) →
              wpAny (model X.prog X.w) X.A (do bindName X.env n .none; unbindBehindTheSuite X.env n pos') (fun _ s7 => Q s7) X.xe s6 := fun {σ6 H6 Q} S6 hq => gone_ok (S6.unsuite ok) hN hi hln hq
          cases f with
          | next =>
            obtain ⟨σ6, H6, S6, q6⟩ := hsp
            exact end_ S6 fun s7 J7 => ⟨_, _, J7, q6⟩
          | brk =>
            obtain ⟨σ6, H6, S6, q6⟩ := hsp
            exact end_ S6 fun s7 J7 => ⟨_, _, J7, q6⟩
          | cont =>
            obtain ⟨σ6, H6, S6, q6⟩ := hsp
            exact end_ S6 fun s7 J7 => ⟨_, _, J7, q6⟩
          | ret u =>
            obtain ⟨v6, σ6, H6, S6, r6, q6⟩ := hsp
            exact end_ S6 fun s7 J7 => ⟨_, _, _, J7, r6, q6⟩
        | false =>
          show wpAny _ X.A (handleBy (.ref a) X.env hds2) _ _ _
          exact ih (hno rfl)
    exact go hh w
  · cases f with
    | next =>
      obtain ⟨σ', H', J', q⟩ := hsp
      exact wpAny_execs_nil ⟨σ', H', J'.ofTry ok, q⟩
    | brk =>
      obtain ⟨σ', H', J', q⟩ := hsp
      exact ⟨σ', H', J'.ofTry ok, q⟩
    | cont =>
      obtain ⟨σ', H', J', q⟩ := hsp
      exact ⟨σ', H', J'.ofTry ok, q⟩
    | ret u =>
      obtain ⟨v, σ', H', J', r, q⟩ := hsp
      exact ⟨v, σ', H', J'.ofTry ok, r, q⟩
end
/-! ## g(lambda: e), g's text: try: return (told, a()) except R as e: return (lbl, e.f) .. -/
/-- the clauses of an asker, by their text -/
inductive AHt (sg : Scope) (e : Str) : List ExceptHandler → Hds → Prop
  | nil : AHt sg e [] []
  | cons {x fld : String} {lbl : Str} {p5 p6 p7 p8 p9 p10 p11 : Pos} {j1 k1 : Nat} {hds : List ExceptHandler} {hs : Hds} (h1 : sg.names.lookup (Str.ofString x) = some .globalImplicit) (h2 : (Str.ofString x == ("__debug__" : Str)) = false) (r : AHt sg e hds hs) :
      AHt sg e (.ExceptHandler (some (.Name (Str.ofString x) p5)) (some e) [.Return (some (.Tuple [.Constant (.str lbl) j1 p6, .Attribute (.Name e p7) (Str.ofString fld) p8] k1 p9)) p10] p11 :: hds) ((x, lbl, fld) :: hs)
/-- the text of an asker's body -/
inductive ABody (sg : Scope) (a e told : Str) (hs : Hds) : List Stmt → Prop
  | mk {j0 k0 : Nat} {p0 p1 p2 p3 p4 p12 : Pos} {h₀ : ExceptHandler} {hds : List ExceptHandler} (h : AHt sg e (h₀ :: hds) hs) :
      ABody sg a e told hs [.Try [.Return (some (.Tuple [.Constant (.str told) j0 p0, .Call (.Name a p1) [] [] p2] k0 p3)) p4] (h₀ :: hds) [] [] p12]
section
variable {X : Cx}
/-- a couple is made -/
def kTwo (w : Str) (Q : VK) : VK := fun v H1 => ([V.str w, v] : List V).length ≤ sizeLine ∧ ∀ p, H1 p = none → Q (.ref p) (upd H1 p (.tup [.str w, v]))
/-- what the clauses make of an exception -/
def aMany (K : PySem.W.Frag) : List (Addr × Str × Str) → Value → Option Addr → Hp → VK → Prop
  | [], _, _, _, _ => False
  | (C, lbl, f) :: r, cls, d, H, Q => ∃ b, PySem.W.exmOne K cls (.ref C) = some b ∧ (b = true → cls = .ref C ∧ ∃ (dd : Addr) (fs : List (Str × V)) (v : V), d = some dd ∧ H dd = some (.xd fs) ∧ fs.lookup f = some v ∧ kTwo lbl Q v H) ∧ (b = false → aMany K r cls d H Q)
/-- what the def makes of the lambda's reading -/
def TAsk (K : PySem.W.Frag) (told : Str) (l : List (Addr × Str × Str)) : (XK → Hp → VK → Prop) → Hp → VK → Prop := fun tl H Q =>
  tl (fun cls d H' => aMany K l cls d H' Q) H (kTwo told Q)
/-- the classes of the clauses -/
inductive ACl (X : Cx) : Hds → List (Addr × Str × Str) → Prop
  | nil : ACl X [] []
  | cons {x fld : String} {lbl : Str} {C : Addr} {hs : Hds} {l : List (Addr × Str × Str)} (hm : X.mg (Str.ofString x) = some (.ref C)) (T : XfC X.K C) (hno : PySem.W.findIn X.K (.ref C) (Str.ofString fld) = some none) (r : ACl X hs l) : ACl X ((x, lbl, fld) :: hs) ((C, lbl, Str.ofString fld) :: l)
def aTs (C : Addr) (lbl f : Str) : Addr → Value → Option Addr → TS := fun a cls d D σ H => (1 < σ.length → σ[1]? = some (some (.ref a))) ∧ cls = .ref C ∧ ∃ (dd : Addr) (fs : List (Str × V)) (v : V), d = some dd ∧ H dd = some (.xd fs) ∧ fs.lookup f = some v ∧ kTwo lbl D.rt v H
theorem ask_hds {Ng : List Str} {x a e : Str} {sg : Scope} {g : Addr} {cdg : Value} {s : Shared} {H : Hp} {hds : List ExceptHandler} {hs : Hds} {l : List (Addr × Str × Str)} (hN : Ng = [a, e]) (hle : sg.names.lookup e = some .local)
    (hde : (e == ("__debug__" : Str)) = false) (hce : (e == ("__classdict__" : Str)) = false) (ht : AHt sg e hds hs) (hc : ACl X hs l) :
    HdsAs (cxOf C8.CX0 X.prog X.w X.K X.mg X.base Ng x sg g cdg X.A X.stack s H C8.E0).nox hds (l.map fun q => (Value.ref q.1, 1, aTs q.1 q.2.1 q.2.2)) := by
  have hi1 : Ng[1]? = some e := by rw [hN]; rfl
  induction ht generalizing l with
  | nil => cases hc; exact .nil
  | @cons x' fld lbl p5 p6 p7 p8 p9 p10 p11 j1 k1 hds hs h1 h2 r ih =>
    cases hc with
    | @cons _ _ _ C _ l hm T hno rc =>
    refine .cons ⟨h1, h2, .inl hm⟩ hi1 hle (fun a oe cls d pn hz hv => ?_) (ih rc)
    refine ⟨fun pins s' σ H' D I h' => ?_⟩
    obtain ⟨h1, rfl, dd, fs, v, h3, h4, h5, h6⟩ := h'
    have hl : 1 < σ.length := by
      have := I.len
      have e : (cxOf C8.CX0 X.prog X.w X.K X.mg X.base Ng x sg g cdg X.A X.stack s H C8.E0).N = Ng := rfl
      have e2 : σ.length = Ng.length := this
      rw [e2, hN]; exact Nat.lt_succ_self 1
    have h1 := h1 hl
    have he := pe_var (X := (cxOf C8.CX0 X.prog X.w X.K X.mg X.base Ng x sg g cdg X.A X.stack s H C8.E0).nox.suite a ((a, oe) :: pn)) (pos := p7) (i := 1) hi1 (.inl hle) hde hce
    have hx := pe_xf (X := (cxOf C8.CX0 X.prog X.w X.K X.mg X.base Ng x sg g cdg X.A X.stack s H C8.E0).nox) (pos := p8) T hno hz hv he
    have hq := pss_one (ps_ret (pos := p10) (pe_tup (x1 := k1) (pos := p9) (pa_cons (pe_str (x := lbl) (j := j1) (pos := p6)) (pa_cons hx pa_nil (by rfl)) (by rfl))))
    exact hq.run pins s' σ H' D I ⟨.ref a, h1, rfl, rfl, dd, fs, v, h3, h4, h5, h6⟩
theorem ask_gives {Ng : List Str} {x a e q told : Str} {sg : Scope} {g : Addr} {cdg : Value} {body : List Stmt} {hs : Hds} {l : List (Addr × Str × Str)} (hN : Ng = [a, e]) (nd : Ng.Nodup) (hkind : sg.kind = .function) (hle : sg.names.lookup e = some .local) (hla : Vis sg a)
    (hde : (e == ("__debug__" : Str)) = false) (hce : (e == ("__classdict__" : Str)) = false) (hb : ABody sg a e told hs body) (hcl : ACl X hs l) :
    LamX.GivesTo X Ng x sg g cdg body a q (TAsk X.K told l) := by
  intro f0 c' s H Q tl act hc h
  cases hb with
  | @mk j0 k0 p0 p1 p2 p3 p4 p12 h₀ hds ht =>
  refine ⟨_, pss_one (ps_try_asM (X := (cxOf C8.CX0 X.prog X.w X.K X.mg X.base Ng x sg g cdg X.A X.stack s H C8.E0).nox) (l := l.map fun q => (Value.ref q.1, 1, aTs q.1 q.2.1 q.2.2))
      (tb := fun W D σ H => ∃ Ech : XK, (∀ cls d σ' H', Ech cls d H' → W cls d σ' H') ∧ σ[0]? = some (some (.ref f0)) ∧ H c' = some (LamX.CodeO c' q) ∧ tl Ech H (kTwo told D.rt))
      (Wout := fun _ _ _ _ => False) rfl rfl nd LamX.takes0 (fun W pn xe tk _ => ?_) (ask_hds hN hle hde hce ht hcl)), ?_⟩
  · refine ⟨fun pins s' σ H' D I h' => ?_⟩
    obtain ⟨Ech, hW, h1, h2, h3⟩ := h'
    have hp := act W pn xe Ech p1 p2 tk hW
    have hq := pss_one (ps_ret (pos := p4) (pe_tup (x1 := k0) (pos := p3) (pa_cons (pe_str (x := told) (j := j0) (pos := p0)) (pa_cons hp pa_nil (by rfl)) (by rfl))))
    exact hq.run pins s' σ H' D I ⟨h1, h2, h3⟩
  · refine ⟨fun cls d H' => aMany X.K l cls d H' Q, fun cls d σ' H' hE => ?_, by rw [hN]; rfl, hc, h⟩
    clear hcl ht h
    induction l with
    | nil => exact hE
    | cons c r ih =>
      obtain ⟨C, lbl, f⟩ := c
      obtain ⟨b, hb1, hy, hn⟩ := hE
      refine ⟨b, hb1, fun hb a ha => ⟨?_, hy hb⟩, fun hb => ih (hn hb)⟩
      intro hl
      rw [List.length_set] at hl
      exact List.getElem?_set_self hl
/-- an asker of the text -/
structure AskOk (X : Cx) (k : Nat) (g : String) (told : Str) (hs : Hds) : Prop where
  ex : ∃ (ga : Addr) (a e : Str) (pg : Arguments) (bg : List Stmt) (sg : Scope) (cdv dV kV doc pm ct oc : Value) (an od : Option Addr) (osl : Array (Option Value)), X.mg (Str.ofString g) = some (.ref ga) ∧ PySem.W.keepIn X.K (.ref ga) = true ∧
    X.K.lookup ga = some ⟨oc, od, .func (PySem.W.fnOf (Str.ofString g) (Str.ofString g) pg bg sg dV kV doc pm an cdv ct), osl⟩ ∧ PySem.W.codeIn X.K cdv (Str.ofString g) = true ∧
    L2.Binds X.K (PySem.W.fnOf (Str.ofString g) (Str.ofString g) pg bg sg dV kV doc pm an cdv ct) [a] [] ∧ FnScope [a, e] [a] sg ∧ sg.names.lookup e = some .local ∧ ABody sg a e told hs bg ∧
    ((a == ("__debug__" : Str)) = false ∧ (a == ("__classdict__" : Str)) = false) ∧ ((e == ("__debug__" : Str)) = false ∧ (e == ("__classdict__" : Str)) = false)
  room : Room (k + 3) X.A
/-- what the clauses need of the classes -/
structure XclA (X : Cx) (con : String → Option D) : Prop where
  cls : ∀ x C ns ms, con x = some (.clo true C ns ms) → X.mg (Str.ofString x) = some (.ref C) ∧ XfC X.K C ∧ NsOk ns ∧ ∀ f ∈ ns, PySem.W.findIn X.K (.ref C) (Str.ofString f) = some none
  exm : ∀ x C ns ms x' C' ns' ms', con x = some (.clo true C ns ms) → con x' = some (.clo true C' ns' ms') → PySem.W.exmOne X.K (.ref C) (.ref C') = some (decide (x = x'))
theorem xNs_inv6 {con : String → Option D} {x : String} {ns : List String} (h : xNs con x = some ns) : ∃ C ms, con x = some (.clo true C ns ms) := by
  unfold xNs at h
  split at h
  · rename_i C ns' ms e
    cases h
    exact ⟨C, ms, e⟩
  · cases h
theorem acl_of {con : String → Option D} (xc : XclA X con) : ∀ {hs : Hds}, hdsOk con hs = true → ∃ l, ACl X hs l
  | [], _ => ⟨[], .nil⟩
  | (x, lbl, fld) :: hs, h => by
    unfold hdsOk at h
    rw [List.all_cons, Bool.and_eq_true] at h
    obtain ⟨l, hl⟩ := acl_of xc (hs := hs) h.2
    have h1 := h.1
    split at h1
    · rename_i ns e
      obtain ⟨C, ms, e3⟩ := xNs_inv6 e
      obtain ⟨q1, q2, q3, q4⟩ := xc.cls x C ns ms e3
      exact ⟨_, .cons q1 q2 (q4 fld (of_decide_eq_true h1)) hl⟩
    · cases h1
/-- an exception of the clause's class -/
theorem aMany_of {con : String → Option D} (xc : XclA X con) {y : String} {C : Addr} {ns : List String} {ms : List (String × String)} (hy : con y = some (.clo true C ns ms)) {d : Option Addr} {H : Hp} {Q : VK} {lbl : Str} {fld : String} :
    ∀ {hs : Hds} {l : List (Addr × Str × Str)}, hdsOk con hs = true → ACl X hs l → hdOf y hs = some (lbl, fld) → (fld ∈ ns → ∃ (dd : Addr) (fs : List (Str × V)) (v : V), d = some dd ∧ H dd = some (.xd fs) ∧ fs.lookup (Str.ofString fld) = some v ∧ kTwo lbl Q v H) → aMany X.K l (.ref C) d H Q
  | [], _, _, _, h, _ => by cases h
  | (x, lbl', fld') :: hs, _, ho, hc, h, q => by
    cases hc with
    | @cons _ _ _ C' _ l hm T hno rc =>
    unfold hdsOk at ho
    rw [List.all_cons, Bool.and_eq_true] at ho
    have h1 := ho.1
    split at h1
    · rename_i ns' e
      obtain ⟨C2, ms2, e3⟩ := xNs_inv6 e
      have e4 : C2 = C' := by
        have := (xc.cls x C2 ns' ms2 e3).1
        rw [hm] at this; cases this; rfl
      subst e4
      refine ⟨decide (y = x), xc.exm _ _ _ _ _ _ _ _ hy e3, fun hb => ?_, fun hb => ?_⟩
      · have hb := of_decide_eq_true hb
        subst hb
        unfold hdOf at h
        rw [if_pos rfl] at h
        cases h
        have e5 : C2 = C ∧ ns' = ns := by
          have := hy.symm.trans e3
          cases this; exact ⟨rfl, rfl⟩
        obtain ⟨rfl, rfl⟩ := e5
        exact ⟨rfl, q (of_decide_eq_true h1)⟩
      · have hb := of_decide_eq_false hb
        unfold hdOf at h
        rw [if_neg (fun e => hb e.symm)] at h
        exact aMany_of xc hy (show hdsOk con hs = true from ho.2) rc h q
    · cases h1
theorem hdOf_mem {con : String → Option D} {y : String} {lbl : Str} {fld : String} : ∀ {hs : Hds}, hdsOk con hs = true → hdOf y hs = some (lbl, fld) → ∃ ns, xNs con y = some ns ∧ fld ∈ ns
  | [], _, h => by cases h
  | (x, lbl', fld') :: hs, ho, h => by
    unfold hdsOk at ho
    rw [List.all_cons, Bool.and_eq_true] at ho
    unfold hdOf at h
    by_cases e : x = y
    · subst e
      rw [if_pos rfl] at h
      cases h
      have h1 := ho.1
      split at h1
      · rename_i ns e
        exact ⟨ns, e, of_decide_eq_true h1⟩
      · cases h1
    · rw [if_neg e] at h
      exact hdOf_mem (show hdsOk con hs = true from ho.2) h
theorem s_ask {W : WX} {fa : PyI.Env → Store → Rs D} {k : Nat} {g : String} {told : Str} {hs : Hds} {con : String → Option D} {params : Arguments} {body : Expr} {scope : Scope} {p lpos pos : Pos} (A : AskOk X k g told hs) (xc : XclA X con) (hok : hdsOk con hs = true)
    (L : LamOk X) (LS : LamX.LamS X.env.scope scope) (hg : Gl X (Str.ofString g)) (hdb : (Str.ofString g == ("__debug__" : Str)) = false)
    (hpl : plainP params [] = true) (hdf : params.defaults = []) (hkd : params.kw_defaults = [])
    (hbody : ∀ (A : Around) (outer : List PySem.Env) (s : Shared) (H : Hp) (E : XK) (f c' : Addr), Room (k + 1) (A.deeper (LamX.lamEnv X scope s.heap.objs.size f c')) → PE (LamX.lamCx X A outer s H E scope f c') body (tE X (fun cls d _ H => E cls d H) fa)) :
    PE X (.Call (.Name (Str.ofString g) p) [.Lambda params body scope lpos] [] pos) (tE X W fun e S => askR told hs con (fa e S)) := by
  obtain ⟨ga, a, e, pg, bg, sg, cdv, dV, kV, doc, pm, ct, oc, an, od, osl, a1, a2, a3, a4, a5, a6, a7, a8, ⟨b1, b2⟩, ⟨b3, b4⟩⟩ := A.ex
  obtain ⟨c, tP, hcode, TB, hmem, huq⟩ := L
  obtain ⟨l, hcl⟩ := acl_of xc hok
  have hdef : defaultsOf params X.env = ([], []) := by
    obtain ⟨p1, p2, p3, p4, p5, p6, p7⟩ := params
    subst hdf hkd
    rfl
  have hva : Vis sg a := by
    rcases a6.par a (by simp) with h | h
    · exact .inl h
    · exact .inr (.inl h)
  refine PE_imp (LamX.pe_lamcall (T := tbT X.K) (TT := TAsk X.K told l) (t := fun E => tE X (fun cls d _ H => E cls d H) fa) (k := k + 1) (Ng := [a, e]) hg a1 a2 a3 a4 a5 a6 rfl hva
    (ask_gives rfl a6.nd a6.kind a7 hva b3 b4 a8 hcl) TB hcode hmem huq A.room LS hdef (fun q cl pm cv ctv => bind_plain (ps := []) (us := []) hpl rfl rfl) hbody hdb b1 b2) fun σ H Q h => ?_
  obtain ⟨z, en, rfl, hs1, he, P⟩ := h
  refine ⟨hs1.tb, fun H1 eN T1 => ?_⟩
  obtain ⟨x1, hs1⟩ := extN_ok hs1 eN T1
  have P1 : Post X.K X.mg W ⟨z.hd, z.ρ, z.S, H1⟩ (askR told hs con (fa en z.S)) (fun d z1 => ∀ v, Rep X.K z1 d v → Q v z1.H) := P.rebase x1
  have two : ∀ {z2 : Zw} {w : Str} {d : D} {v : V} {S' : Store}, StOk X.K z2 → Rep X.K z2 d v → z2.S = S' → (∀ z3 : Zw, z3.S = S' → Ext z2 z3 → StOk X.K z3 → ∀ v, Rep X.K z3 (.tup [.str w, d]) v → Q v z3.H) → kTwo w Q v z2.H := fun {z2 w d v S'} s2 rv hS h => by
    refine ⟨by rw [sizeLine_eq]; exact Nat.le_of_ble_eq_true rfl, fun q hq => ?_⟩
    obtain ⟨z3, k1, k2, k3, k4, k5⟩ := new_tup (ds := [.str w, d]) (xs := [V.str w, v]) s2 hq (Nat.le_of_ble_eq_true rfl) (.cons (by unfold Rep; rfl) (.cons rv .nil))
    rw [← k1]
    exact h z3 (by rw [k2, hS]) k3 k4 _ k5
  refine ⟨⟨z.hd, z.ρ, z.S, H1⟩, en, rfl, hs1, he.mono x1, ?_⟩
  show Post X.K X.mg _ _ (fa en z.S) _
  cases q : fa en z.S with
  | bad => rw [q] at P1; exact P1.elim
  | ok d S' =>
    rw [q] at P1
    intro z2 h1 x2 s2 v rv
    exact two s2 rv h1 fun z3 k1 k2 k3 => P1 z3 k1 (x2.trans k2) k3
  | exc y e' S' =>
    rw [q] at P1
    have P1 : Post X.K X.mg W ⟨z.hd, z.ρ, z.S, H1⟩ (match hdOf y.1 hs with
      | some (lbl, fld) => if xNs con y.1 = some (y.2.map (·.1)) then (match y.2.lookup fld with
        | some v => .ok (.tup [.str lbl, v]) S'
        | none => .bad) else .bad
      | none => .bad) (fun d z1 => ∀ v, Rep X.K z1 d v → Q v z1.H) := P1
    cases qh : hdOf y.1 hs with
    | none => rw [qh] at P1; exact P1.elim
    | some lf =>
      obtain ⟨lbl, fld⟩ := lf
      rw [qh] at P1
      dsimp only at P1
      by_cases hc : xNs con y.1 = some (y.2.map (·.1))
      · rw [if_pos hc] at P1
        obtain ⟨C, ms, e3⟩ := xNs_inv6 hc
        obtain ⟨hx, T, inj, no⟩ := xc.cls _ _ _ _ e3
        cases ql : y.2.lookup fld with
        | none => rw [ql] at P1; exact P1.elim
        | some dv =>
          rw [ql] at P1
          intro z2 cls d σ' h1 x2 s2 he2 hX
          obtain ⟨m1, hX⟩ := hX
          rw [hx] at m1
          cases m1
          refine aMany_of xc e3 hok hcl qh fun hf => ?_
          rcases hX with ⟨h0, _⟩ | ⟨dx, vs, rfl, him, hr⟩
          · rw [h0] at ql; cases ql
          · have hmem2 : ∀ p ∈ y.2, p.1 ∈ y.2.map (·.1) := fun p hp => List.mem_map.mpr ⟨p, hp, rfl⟩
            obtain ⟨v, l1, rv⟩ := fs_lookup (K := X.K) (z := z2) inj hf hmem2 hr ql
            exact ⟨dx, _, v, rfl, him.1, l1, two s2 rv h1 fun z3 k1 k2 k3 => P1 z3 k1 (x2.trans k2) k3⟩
      · rw [if_neg hc] at P1; exact P1.elim
end
end PyI

set_option maxRecDepth 100000
set_option maxHeartbeats 4000000
namespace PyI
open PySem PySem.Spec PyProof.Rows L2
/-! ## sorted({e: True for t in xs}) -/
theorem insU_keys {kvs : List (Key × V)} {ks : List Int} (h : kvs.map (·.1) = ks.map Sum.inl) (i : Int) (v : V) : (putK kvs (.inl i) v).map (·.1) = (insU ks i).map Sum.inl := by
  have hm : (kvs.any fun kv => decide (kv.1 = (.inl i : Key))) = decide (i ∈ ks) := by
    have e : (kvs.any fun kv => decide (kv.1 = (.inl i : Key))) = (kvs.map (·.1)).any fun k => decide (k = (.inl i : Key)) := by rw [List.any_map]; rfl
    rw [e, h, List.any_map]
    rw [Bool.eq_iff_iff, List.any_eq_true, decide_eq_true_eq]
    constructor
    · rintro ⟨x, hx, hq⟩
      have hq : (Sum.inl x : Key) = .inl i := of_decide_eq_true hq
      cases hq; exact hx
    · exact fun hx => ⟨i, hx, by simp⟩
  unfold putK insU
  rw [hm]
  by_cases hi : i ∈ ks
  · rw [if_pos (by simpa using hi), if_pos hi, List.map_map, ← h]
    refine List.map_congr_left fun kv _ => ?_
    show (if kv.1 = Sum.inl i then (kv.1, v) else kv).1 = kv.1
    split <;> rfl
  · rw [if_neg (by simpa using hi), if_neg hi, List.map_append, List.map_append, h]; rfl
theorem srtI_uniq {ks ys : List Int} (p : ys.Perm ks) (s : ys.Pairwise (· ≤ ·)) : ys = srtI ks := by
  have s2 : (srtI ks).Pairwise (· ≤ ·) := by
    have := List.pairwise_mergeSort (le := fun a b : Int => decide (a ≤ b)) (fun a b c h1 h2 => by simp at *; omega) (fun a b => by simp; omega) ks
    exact this.imp fun h => of_decide_eq_true h
  exact (p.trans (List.mergeSort_perm ks _).symm).eq_of_pairwise (fun a b _ _ h1 h2 => by omega) s s2
theorem ints_reps {K : PySem.W.Frag} {z : Zw} : ∀ ns : List Int, Reps K z (ns.map D.int) (ns.map V.int)
  | [] => .nil
  | _ :: ns => .cons .int_ (ints_reps ns)
section
variable {X : Cx} {W : WX} {tg : Expr} {pos : Pos}
/-- one turn -/
def sdF (t : Tg) (own : List Nat) (fe : Env → Store → Rs D) (e : Env) : D → List Int → Store → Rs (List Int) := fun x acc S => match setT (wip e own) t x with
  | some e' => (fe e' S).bind fun d S => (optR (intD d) S).bind fun i S => if acc.length < 63 then .ok (insU acc i) S else .bad
  | none => .bad
theorem sdF_acc {t : Tg} {own : List Nat} {fe : Env → Store → Rs D} {e : Env} {x : D} {acc acc' : List Int} {S S' : Store} (h : sdF t own fe e x acc S = .ok acc' S') :
    ∃ e' i, setT (wip e own) t x = some e' ∧ fe e' S = .ok (.int i) S' ∧ acc.length < 63 ∧ acc' = insU acc i := by
  unfold sdF at h
  cases q : setT (wip e own) t x with
  | none => simp only [q] at h; cases h
  | some e' =>
    simp only [q] at h
    obtain ⟨d, S1, h1, h2⟩ := bind_ok h
    obtain ⟨i, S2, h3, h4⟩ := bind_ok h2
    cases d with
    | int j =>
      cases h3
      by_cases hl : acc.length < 63
      · rw [if_pos hl] at h4
        cases h4
        exact ⟨e', _, rfl, h1, hl, rfl⟩
      · rw [if_neg hl] at h4; cases h4
    | _ => cases h3
theorem insU_len {ks : List Int} {i : Int} (h : ks.length < 63) : (insU ks i).length < 64 := by
  unfold insU
  split
  · omega
  · rw [List.length_append]; simp; omega
noncomputable def sdE (fi : Env → Store → Rs Src) (t : Tg) (own : List Nat) (fe : Env → Store → Rs D) : Env → Store → Rs D := fun e S => (fi e S).bind fun s S => (forR (fun S => srcOk S s) (sdF t own fe e) s.1 [] S).nox.bind fun ks S => .ok (.lst ((srtI ks).map .int)) S
/-- what sorted wants of the dict -/
def rSdI : List V → Hp → VK → Prop := fun xs H Q => ∃ (a : Addr) (kvs : List (Key × V)) (ks : List Int), xs = [.ref a] ∧ Rd H a (.dK kvs) ∧ kvs.map (·.1) = ks.map Sum.inl ∧ ks.length < 64 ∧
    ∀ (ys : List Int) (p : Addr), ys.Perm ks → ys.Pairwise (· ≤ ·) → H p = none → Q (.ref p) (upd H p (.lst (ys.map V.int)))
theorem sdc_core {own : List (Str × Nat)} {t : Tg} {fi : Env → Store → Rs Src} {fe : Env → Store → Rs D} (ho : ∀ i ∈ tgI t, i ∈ own.map (·.2)) {σ : L2.St} {H : Hp} {Q : VK}
    (h : tE X W (sdE fi t (own.map (·.2)) fe) σ H Q) : tDc (tI X W fi) (tG X t) (tT X WF fun _ S => .ok true S) (tE X WF fe) (fun _ H Q => Q (.bl true) H) (own.map (·.2)) σ H (fun v H1 => rSdI [v] H1 Q) := by
  obtain ⟨z, e, rfl, hs, he, P⟩ := h
  refine ⟨z, e, rfl, hs, he, P.bind.imp fun s z1 x1 s1 P1 J IO p hp => ?_⟩
  have he1 := he.mono x1
  obtain ⟨ds, Sf, hR⟩ : ∃ ds Sf, forR (fun S => srcOk S s) (sdF t (own.map (·.2)) fe e) s.1 [] z1.S = .ok ds Sf := by
    cases q : forR (fun S => srcOk S s) (sdF t (own.map (·.2)) fe e) s.1 [] z1.S with
    | ok ds Sf => exact ⟨ds, Sf, rfl⟩
    | _ => rw [q] at P1; exact P1.elim
  rw [hR] at P1
  have P1 : Post X.K X.mg W z1 (.ok (.lst ((srtI ds).map .int)) Sf) (fun d z1 => ∀ v, Rep X.K z1 d v → Q v z1.H) := P1
  -- what holds between two turns
  let Pv : Nat → Hp → Prop := fun i H => ∃ zi acc kvs, zi.H = H ∧ ExtD p z1 zi ∧ StOk X.K zi ∧ H p = some (.dK kvs) ∧ acc.length < 64 ∧ kvs.map (·.1) = acc.map Sum.inl ∧ forR (fun S => srcOk S s) (sdF t (own.map (·.2)) fe e) (s.1.drop i) acc zi.S = .ok ds Sf
  have itok : ∀ zi, ExtD p z1 zi → ItOk X.K zi s J := fun zi x => IO.mono ⟨x.pre, x.im⟩
  refine ⟨fun i m H => m = s.1.length - i ∧ i ≤ s.1.length ∧ Pv i H, ⟨s.1.length, by simp, Nat.zero_le _, ?_⟩, ?_⟩
  · obtain ⟨a1, a2⟩ := held_startO s1 hp (HdO.dic [])
    exact ⟨_, [], [], rfl, a1, a2, upd_same, by simp, rfl, by simpa using hR⟩
  · rintro i m H ⟨rfl, hi, zi, acc, kvs, rfl, xd, si, hxs, hl, rr, hF⟩
    by_cases hlt : i < s.1.length
    · right
      obtain ⟨d, hd⟩ : ∃ d, s.1[i]? = some d := ⟨_, List.getElem?_eq_getElem hlt⟩
      have hdr : s.1.drop i = d :: s.1.drop (i + 1) := by
        rw [List.drop_eq_getElem_cons hlt]
        rw [List.getElem?_eq_getElem hlt] at hd; cases hd; rfl
      rw [hdr] at hF
      unfold forR at hF
      cases hch : srcOk zi.S s with
      | false => simp only [hch] at hF; cases hF
      | true =>
        simp only [hch, if_true] at hF
        obtain ⟨acc', S', hf, hrest⟩ := bind_ok hF
        refine ⟨(itok zi xd).goes zi i (Ex0.refl _) si hch hlt, Pv (i + 1), fun H' h' => ⟨_, by omega, rfl, hlt, h'⟩, fun x H' y => ?_⟩
        obtain ⟨z2, d2, rfl, e2, x2, s2, hd2, r2⟩ := (itok zi xd).yields zi i x H' (Ex0.refl _) si hch hlt y
        rw [hd] at hd2; cases hd2
        obtain ⟨e', n, hst, hfe, hlen, rfl⟩ := sdF_acc hf
        have he2 : EnvOk X.K z2 (wip e (own.map (·.2))) (wipe σ (own.map (·.2))) := (EnvOk.mono0 (x2.ex0) (EnvOk.mono0 ⟨xd.pre, xd.im⟩ he1)).wip _
        refine ⟨z2, _, d, e', rfl, s2, he2, r2, hst, fun σ2 he3 hw => ⟨(hw _ ho).trans (wipe_wipe _ _), z2, e', rfl, s2, he3, ?_⟩⟩
        intro z3 q1 x3 s3
        simp only [if_true]
        refine ⟨z3, e', rfl, s3, he3.mono x3, ?_⟩
        rw [q1, e2, hfe]
        intro z4 q2 x4 s4 v rv
        subst q2
        have xx := ((xd.trans x2).trans x3).trans x4
        have pin : p ∈ zi.hd := by rw [xd.hd]; exact List.mem_cons_self
        have hp4 : z4.H p = some (.dK kvs) := by rw [x4.hk p (by rw [x3.hd, x2.hd]; exact pin), x3.hk p (by rw [x2.hd]; exact pin), x2.hk p pin]; exact hxs
        have pin4 : p ∈ z4.hd := by rw [xx.hd]; exact List.mem_cons_self
        obtain ⟨b1, b2⟩ := held_setO s4 pin4 (HdO.dic (putK kvs (.inl n) (.bl true)))
        have hkl : kvs.length < sizeLine := by
          have : kvs.length = acc.length := by
            have := congrArg List.length rr
            simpa using this
          rw [this, sizeLine_eq]
          exact Nat.lt_of_lt_of_le hlen (by decide)
        refine ⟨kvs, .inl n, rv.int_inv, hp4, hkl, ⟨z4.hd, z4.ρ, z4.S, upd z4.H p (.dK (putK kvs (.inl n) (.bl true)))⟩, insU acc n, _, rfl, ⟨xx.pre, fun a o q => b1.im a o (xx.im a o q), xx.hd, fun a ha => ?_⟩, b2, upd_same, insU_len hlen, insU_keys rr n _, hrest⟩
        show upd z4.H p _ a = _
        rw [upd_ne]
        · exact xx.hk a ha
        · rintro rfl
          obtain ⟨u, eu, _⟩ := s1.ht a ha
          rw [hp] at eu; cases eu
    · left
      have hin : i = s.1.length := by omega
      subst hin
      rw [List.drop_length] at hF
      unfold forR at hF
      cases hch : srcOk zi.S s with
      | false => simp only [hch] at hF; cases hF
      | true =>
        simp only [hch, if_true] at hF
        injection hF with h1 h2
        subst h1
        refine ⟨(itok zi xd).stops zi (Ex0.refl _) si hch, p, kvs, acc, rfl, .inl hxs, rr, hl, fun ys q hperm hsort hq => ?_⟩
        have hys := srtI_uniq hperm hsort
        subst hys
        -- the dict is held no more
        have sub : ∀ a ∈ z1.hd, a ∈ zi.hd := fun a ha => by rw [xd.hd]; exact List.mem_cons_of_mem _ ha
        have x9 : Ex0 zi ⟨z1.hd, zi.ρ, zi.S, zi.H⟩ := ⟨List.prefix_refl _, fun a o ⟨h1, h2, h3⟩ => ⟨h1, fun l => h2 (l.imp id (sub a)), h3⟩⟩
        have c1 : Ext z1 ⟨z1.hd, zi.ρ, zi.S, zi.H⟩ := ⟨xd.pre, fun a o q => x9.im a o (xd.im a o q), rfl, xd.hk⟩
        have c2 : StOk X.K ⟨z1.hd, zi.ρ, zi.S, zi.H⟩ := ⟨si.len, si.nd, si.tr, fun a ha => si.ht a (sub a ha), fun a ha h => si.dj a ha (sub a h), fun i mo a h1 h2 => (si.ob i mo a h1 h2).mono0 x9 fun u e => e, si.tb⟩
        have hlen : (srtI acc).length = acc.length := (List.mergeSort_perm acc _).length_eq
        obtain ⟨z5, k1, k2, k3, k4, k5⟩ := new_lst (ds := (srtI acc).map D.int) (xs := (srtI acc).map V.int) c2 hq (by rw [List.length_map, hlen]; exact Nat.le_trans (Nat.le_of_lt hl) (by decide)) (ints_reps _)
        rw [← k1]
        exact P1 z5 (k2.trans h2) (c1.trans k3) k4 _ k5
theorem s_sdc {p : Pos} {elt iter : Expr} {scope : Scope} {own : List (Str × Nat)} {t : Tg} {fi : Env → Store → Rs Src} {fe : Env → Store → Rs D} {j : Nat} {bp q : Pos} (hc : X.calm = true) (hN : X.N.Nodup) (hi : PI X tg iter (tI X W fi)) (ok : BlkOk X.N X.env.scope scope own)
    (ho : ∀ i ∈ tgI t, i ∈ own.map (·.2)) (hgl : Gl X "sorted") (hm : X.mg "sorted" = none)
    (hg : ∀ (s : Shared) (H : Hp) (C : Addr) (cl : List (Str × Addr)) (fp : List Addr), PG (X.blk s H scope (compEnvC scope cl C X.env) fp) tg (tG X t))
    (he : ∀ (s : Shared) (H : Hp) (C : Addr) (cl : List (Str × Addr)) (fp : List Addr), PE (X.blk s H scope (compEnvC scope cl C X.env) fp) elt (tE X WF fe)) (hs : ∀ x, foldedSetIterable iter X.env x = pure x) :
    PE X (.Call (.Name "sorted" p) [.DictComp elt (.Constant (.bool true) j bp) [⟨tg, iter, [], 0⟩] scope q] [] pos) (tE X W (sdE fi t (own.map (·.2)) fe)) :=
  PE_imp (pe_callB (call_sortedDI hc) hgl hm boot_sorted (pa_cons (pe_dc (tv := fun _ H Q => Q (.bl true) H) hc hN hi ok hg (fun s H C cl fp => s_yes) he (fun s H C cl fp => PE_imp pe_bl fun _ _ _ h => h) hs) pa_nil)) fun σ H Q h => sdc_core ho h
theorem popL_ok {ds ds' : List D} {d y : D} (h : popL ds d = some (y, ds')) : ∃ i : Int, d = .int i ∧ 0 ≤ i ∧ i < 2 ^ 62 ∧ ds[i.toNat]? = some y ∧ ds' = ds.eraseIdx i.toNat := by
  cases d with
  | int i =>
    simp only [popL] at h
    split at h
    · rename_i c
      obtain ⟨x, h1, h2⟩ := Option.map_eq_some_iff.mp h
      cases h2
      exact ⟨i, rfl, c.1, c.2, h1, rfl⟩
    · cases h
  | _ => cases h
theorem Reps.erase {K : PySem.W.Frag} {z : Zw} : ∀ {ds : List D} {vs : List V}, Reps K z ds vs → ∀ k, Reps K z (ds.eraseIdx k) (vs.eraseIdx k)
  | [], _, h, k => by rw [h.nil_inv]; simpa using .nil
  | d :: ds, _, h, k => by
    obtain ⟨v, r, rfl, h1, h2⟩ := h.cons_inv
    cases k with
    | zero => exact h2
    | succ k => exact .cons h1 (Reps.erase h2 k)
theorem s_popi {pa pb : Expr} {fa fb : Env → Store → Rs D} {apos : Pos} (ho : PE X pa (tE X W fa)) (hx : PE X pb (tE X W fb)) (hbase : attributeBase pa "pop" X.env (eval pa X.env) = eval pa X.env) (hline : (apos.endLine == pos.line) = true)
    (hst : starEach [pb] X.env = [(false, eval pb X.env)]) :
    PE X (.Call (.Attribute pa "pop" apos) [pb] [] pos) (tE X W fun e S => (fa e S).bind fun o S => (optR (objL S o) S).bind fun r S => (fb e S).bind fun d S => match S[r]? with
    | some (.lst ds) => match popL ds d with
      | some (y, ds') => .ok y (S.set r (.lst ds'))
      | none => .bad
    | _ => .bad) :=
  PE_imp (pe_bm PySem.F.plainAttrs_list PySem.F.slot_list_pop PySem.F.type_list_pop mt_popAt ho (pa_cons hx pa_nil hst) hbase (by rw [hst]; rfl) hline hst (by rfl)) fun σ H Q h => by
    obtain ⟨z, e, rfl, hs, he, P⟩ := h
    refine ⟨z, e, rfl, hs, he, P.bind.imp fun o z1 x1 s1 P1 v rv => ?_⟩
    obtain ⟨r, e1, P2⟩ := P1.bind.opt s1
    obtain ⟨rfl, ty⟩ := objL_ok s1 rv e1
    refine ⟨ty, z1, e, rfl, s1, he.mono x1, P2.bind.imp fun d z2 x2 s2 P3 u ru => ?_⟩
    cases q : z2.S[r]? with
    | none => simp only [q] at P3; exact P3.elim
    | some mo =>
      cases mo with
      | lst ds =>
        simp only [q] at P3
        obtain ⟨a, xs, e2, h1, h2, h3, h4⟩ := obj_inv s2 (rv.mono x2) q
        cases q2 : popL ds d with
        | none => simp only [q2] at P3; exact P3.elim
        | some yd =>
          obtain ⟨y, ds'⟩ := yd
          simp only [q2] at P3
          obtain ⟨i, rfl, i1, i2, i3, rfl⟩ := popL_ok q2
          have hlt : i.toNat < ds.length := (List.getElem?_eq_some_iff.mp i3).1
          obtain ⟨x3, s3⟩ := set_ob (ds := ds.eraseIdx i.toNat) (xs := xs.eraseIdx i.toNat) s2 q h1 (Nat.le_trans (List.length_eraseIdx_le _ _) h3) (h4.erase _)
          obtain ⟨w, k1, k2⟩ := h4.get i3
          refine ⟨a, xs, i, i.toNat, w, e2, by rw [ru.int_inv], h2, by omega, by omega, ?_, k1, P3 _ rfl x3 s3 _ (k2.mono x3)⟩
          rw [← h4.length]
          unfold seqIndex?
          simp only [if_neg (show ¬ i < 0 by omega)]
          rw [if_pos (by simp; omega)]
      | _ => simp only [q] at P3; exact P3.elim
end
end PyI

set_option maxRecDepth 100000
namespace PyI
open PySem PySem.Spec PyProof.Rows L2
/-! ## the syntax against the model's -/
def asName : Expr → Option Str
  | .Name x _ => some x
  | _ => none
def asBin : Expr → Option (Expr × Operator × Expr)
  | .BinOp a o b _ => some (a, o, b)
  | _ => none
def asUn : Expr → Option (UnaryOp × Expr)
  | .UnaryOp o a _ => some (o, a)
  | _ => none
def asCmp1 : Expr → Option (Expr × CmpOp × Expr)
  | .Compare a [o] [b] _ => some (a, o, b)
  | _ => none
def asCmp2 : Expr → Option (Expr × CmpOp × CmpOp × Expr × Expr)
  | .Compare a [o, p] [b, c] _ => some (a, o, p, b, c)
  | _ => none
/-- x op y .. : x, and the rest as an expression -/
def asBool (o : BoolOp) : Expr → Option (Expr × Expr × Bool)
  | .BoolOp p (a :: b :: r) pos => if p = o then some (a, (match r with | [] => b | _ :: _ => .BoolOp p (b :: r) pos), r.isEmpty) else none
  | _ => none
def asIf : Expr → Option (Expr × Expr × Expr)
  | .IfExp c a b _ => some (c, a, b)
  | _ => none
def asTup : Expr → Option (List Expr)
  | .Tuple es _ _ => some es
  | _ => none
def asLs : Expr → Option (List Expr)
  | .List es _ => some es
  | _ => none
def isDic : Expr → Bool
  | .Dict [] [] _ => true
  | _ => false
def asSub : Expr → Option (Expr × Expr)
  | .Subscript a i _ => some (a, i)
  | _ => none
def asSl : Expr → Option (Expr × Option Expr × Option Expr)
  | .Subscript a (.Slice lo hi none _) _ => some (a, lo, hi)
  | _ => none
/-- a block's scope, as the owner of what is told in it -/
def genS (s : Scope) : Scope := { s with isGenerator := true }
def asAsk : Expr → Option (Str × Arguments × Expr × Scope)
  | .Call (.Name g _) [.Lambda params body s2 _] [] _ => some (g, params, body, s2)
  | _ => none
def asCall : Expr → Option (Str × List Expr)
  | .Call (.Name f _) es [] _ => some (f, es)
  | _ => none
def asMeth : Expr → Option (Expr × Str × List Expr)
  | .Call (.Attribute a m ap) es [] cp => if (ap.endLine == cp.line) = true then some (a, m, es) else none
  | _ => none
def asAttr : Expr → Option (Expr × Str)
  | .Attribute a m _ => some (a, m)
  | _ => none
def asComp : Expr → Option (Expr × Expr × Expr × List Expr × Scope)
  | .ListComp elt [⟨tg, it, ifs, 0⟩] sc _ => some (elt, tg, it, ifs, sc)
  | _ => none
/-- sorted({e: True for t in xs}) -/
def asSdc : Expr → Option (Str × Expr × Expr × Expr × Scope)
  | .Call (.Name f _) [.DictComp elt (.Constant (.bool true) _ _) [⟨tg, it, [], 0⟩] sc _] [] _ => some (f, elt, tg, it, sc)
  | _ => none
theorem asSdc_ok {e : Expr} {f : Str} {elt tg it : Expr} {sc : Scope} (h : asSdc e = some (f, elt, tg, it, sc)) : ∃ p j bp q pos, e = .Call (.Name f p) [.DictComp elt (.Constant (.bool true) j bp) [⟨tg, it, [], 0⟩] sc q] [] pos := by
  unfold asSdc at h
  split at h
  · cases h; exact ⟨_, _, _, _, _, rfl⟩
  · cases h
def asComp2 : Expr → Option (Expr × Expr × Expr × Expr × Expr × List Expr × Scope)
  | .ListComp elt [⟨tg, it, [], 0⟩, ⟨tg2, it2, ifs, 0⟩] sc _ => some (elt, tg, it, tg2, it2, ifs, sc)
  | _ => none
def asRev : Expr → Option Expr
  | .Subscript a (.Slice none none (some (.UnaryOp .USub (.Constant (.int 1) _ _) _)) _) _ => some a
  | _ => none
/-- sorted(a, key=lambda ..: ..) -/
def asSrt : Expr → Option (Expr × Arguments × Expr × Scope)
  | .Call (.Name f _) [pa] [⟨some k, .Lambda params body scope _, _⟩] _ => if f = ("sorted" : Str) ∧ k = ("key" : Str) then some (pa, params, body, scope) else none
  | _ => none
def srtB (params : Arguments) (body : Expr) (s2 : Scope) : Bool := match params.args with
  | [ar] => plainP params [ar.arg] && params.defaults.isEmpty && params.kw_defaults.isEmpty && keyB ar.arg body && keyS ar.arg s2 && !(ar.arg == ("__debug__" : Str))
  | _ => false
def asStar : Expr → Option Expr
  | .Starred a _ => some a
  | _ => none
def nst : Expr → Bool
  | .Starred _ _ => false
  | _ => true
def nsl : Expr → Bool
  | .Slice _ _ _ _ => false
  | _ => true
def nse : Expr → Bool
  | .Set _ _ _ => false
  | _ => true
def nab : Expr → Bool
  | .Call (.Name _ _) [] [] _ => false
  | _ => true
def plT : Expr → Bool
  | .UnaryOp .Not _ _ => false
  | .BoolOp _ _ _ => false
  | .IfExp _ _ _ _ => false
  | .Compare _ _ _ _ => false
  | _ => true
def visB (sc : Scope) (x : Str) : Bool := match sc.names.lookup x with
  | some .local => true
  | some .cell => true
  | some .free => true
  | _ => false
def stoB (ow : Scope) (x : Str) : Bool := match ow.names.lookup x with
  | some .local => true
  | some .cell => true
  | _ => false
def glB (sc : Scope) (x : Str) : Bool := match sc.names.lookup x with
  | some .globalImplicit => true
  | _ => false
def dbB (x : Str) : Bool := !(x == ("__debug__" : Str)) && !(x == ("__classdict__" : Str)) && !(x == ("__name__" : Str))
def isN (N : List Str) (i : Nat) (x : Str) : Bool := match N[i]? with
  | some y => decide (y = x)
  | none => false
def mTgs (N : List Str) (ow : Scope) : List Nat → List Expr → Bool
  | [], [] => true
  | i :: is, .Name x _ :: es => isN N i x && stoB ow x && mTgs N ow is es
  | _, _ => false
def mTg (N : List Str) (ow : Scope) : Tg → Expr → Bool
  | .nm i, .Name x _ => isN N i x && stoB ow x
  | .tp is, .Tuple es _ _ => !ow.isCoroutine && mTgs N ow is es
  | .tp2 i js, .Tuple [.Name x _, .Tuple es _ _] _ _ => !ow.isCoroutine && isN N i x && stoB ow x && mTgs N ow js es
  | _, _ => false
def isTup : Expr → Bool
  | .Tuple _ _ _ => true
  | _ => false
def mTys (sc : Scope) : List Ty → List Expr → Bool
  | [], [] => true
  | t :: ts, .Name x _ :: es => decide (x = Str.ofString (tyN t)) && glB sc x && mTys sc ts es
  | _, _ => false
def mTyx (sc : Scope) (ts : List Ty) : Expr → Bool
  | .Name x _ => (match ts with
    | [t] => decide (x = Str.ofString (tyN t)) && glB sc x
    | _ => false)
  | .Tuple es _ _ => !ts.isEmpty && decide (ts.length ≤ 100) && mTys sc ts es
  | _ => false
def mCst : D → Expr → Bool
  | .non, .Constant .none _ _ => true
  | .bl b, .Constant (.bool c) _ _ => b == c
  | .int i, .Constant (.int j) _ _ => decide (i = j)
  | .str x, .Constant (.str y) _ _ => decide (x = y)
  | _, _ => false
def ownP (N : List Str) (own : List Nat) : List (Str × Nat) := own.filterMap fun i => N[i]?.map fun x => (x, i)
def isYes : Tx → Bool
  | .yes => true
  | _ => false
section
variable (fns : List String) (N : List Str)
mutual
def mE : Scope → Scope → Ex → Expr → Bool
  | sc, ow, .var i, p => (match asName p with
    | some x => isN N i x && visB sc x && dbB x
    | none => false)
  | sc, ow, .cst d, p => mCst d p
  | sc, ow, .glo g, p => (match asName p with
    | some x => decide (x = Str.ofString g) && glB sc x && dbB x
    | none => false)
  | sc, ow, .bin o a b, p => (match asBin p with
    | some (pa, op, pb) => decide (op = boOf o) && mE sc ow a pa && mE sc ow b pb
    | none => false)
  | sc, ow, .neg a, p => (match asUn p with
    | some (.USub, pa) => mE sc ow a pa
    | _ => false)
  | sc, ow, .cmp o a b, p => (match asCmp1 p with
    | some (pa, op, pb) => decide (op = coOf o) && mE sc ow a pa && mE sc ow b pb && !behindInMarks op pb
    | none => false)
  | sc, ow, .chn o q a b c, p => (match asCmp2 p with
    | some (pa, op, oq, pb, pc) => decide (op = coOf o) && decide (oq = coOf q) && mE sc ow a pa && mE sc ow b pb && mE sc ow c pc && !lastMarks [op, oq] [pb, pc]
    | none => false)
  | sc, ow, .nt a, p => (match asUn p with
    | some (.Not, pa) => mE sc ow a pa
    | _ => false)
  | sc, ow, .and a b, p => (match asBool .And p with
    | some (pa, pb, _) => mE sc ow a pa && mE sc ow b pb
    | none => false)
  | sc, ow, .or a b, p => (match asBool .Or p with
    | some (pa, pb, _) => mE sc ow a pa && mE sc ow b pb
    | none => false)
  | sc, ow, .ife c a b, p => (match asIf p with
    | some (pc, pa, pb) => mT sc ow c pc && mE sc ow a pa && mE sc ow b pb
    | none => false)
  | sc, ow, .tup es, p => (match asTup p with
    | some ps => mA sc ow es ps
    | none => false)
  | sc, ow, .lst es, p => (match asLs p with
    | some ps => mA sc ow es ps
    | none => false)
  | sc, ow, .mls es, p => (match asLs p with
    | some ps => mA sc ow es ps
    | none => false)
  | sc, ow, .dic, p => isDic p
  | sc, ow, .ix a i, p => (match asSub p with
    | some (pa, pi) => nsl pi && mE sc ow a pa && mE sc ow i pi
    | none => false)
  | sc, ow, .sl a lo hi, p => (match asSl p with
    | some (pa, pl, ph) => mE sc ow a pa && mO sc ow lo pl && mO sc ow hi ph
    | none => false)
  | sc, ow, .isi a ts, p => (match asCall p with
    | some (f, [pa, pt]) => decide (f = "isinstance") && glB sc f && nst pa && mE sc ow a pa && mTyx sc ts pt
    | _ => false)
  | sc, ow, .cB b es, p => (match asCall p with
    | some (f, pa :: ps) => decide (f = biName b) && (!biCalm b || !ow.isCoroutine) && glB sc f && mA sc ow es (pa :: ps) && (pa :: ps).all nst
    | _ => false)
  | sc, ow, .mkl es, p => (match asCall p with
    | some (f, pa :: ps) => decide (f = ("list" : Str)) && glB sc f && mA sc ow es (pa :: ps) && (pa :: ps).all nst
    | _ => false)
  | sc, ow, .cF f es, p => (match asCall p with
    | some (g, pa :: ps) => decide (g = Str.ofString f) && !ow.isCoroutine && glB sc g && dbB g && fns.contains f && mA sc ow es (pa :: ps) && (pa :: ps).all nst
    | _ => false)
  | sc, ow, .app a x, p => (match asMeth p with
    | some (pa, m, [px]) => decide (m = "append") && nab pa && nst px && mE sc ow a pa && mE sc ow x px
    | _ => false)
  | sc, ow, .ext a x, p => (match asMeth p with
    | some (pa, m, [px]) => decide (m = "extend") && nab pa && nst px && mE sc ow a pa && mE sc ow x px
    | _ => false)
  | sc, ow, .srt a, p => (match asSrt p with
    | some (pa, params, body, s2) => !ow.isCoroutine && !ow.isGenerator && srtB params body s2 && glB sc "sorted" && nst pa && mE sc ow a pa
    | none => false)
  | sc, ow, .rev a, p => (match asRev p with
    | some pa => mE sc ow a pa
    | none => false)
  | sc, ow, .m1 me a x, p => (match asMeth p with
    | some (pa, m, [px]) => decide (m = meName me) && nab pa && nst px && mE sc ow a pa && mE sc ow x px
    | _ => false)
  | sc, ow, .idx a x, p => (match asMeth p with
    | some (pa, m, [px]) => decide (m = "index") && nab pa && nst px && mE sc ow a pa && mE sc ow x px
    | _ => false)
  | sc, ow, .popl a, p => (match asMeth p with
    | some (pa, m, []) => decide (m = "pop") && nab pa && mE sc ow a pa
    | _ => false)
  | sc, ow, .comp own elt t it c, p => (match asComp p with
    | some (pe, pt, pi, pc, s2) => !ow.isCoroutine && !s2.isCoroutine && nse pi && blkC N sc s2 (ownP N own) && decide ((ownP N own).map (·.2) = own) && (tgI t).all (fun i => own.contains i) && mTg N (genS s2) t pt && mI sc ow (isTup pt) it pi &&
      mE (relS s2 sc) (genS s2) elt pe && (match pc with
        | [] => isYes c
        | [q] => mT (relS s2 sc) (genS s2) c q
        | _ => false)
    | none => false)
  | sc, ow, .comp2 own own2 elt t it t2 it2 c, p => (match asComp2 p with
    | some (pe, pt, pi, pt2, pi2, pc, s2) => !ow.isCoroutine && !s2.isCoroutine && (nse pi && nse pi2 && blkC N sc s2 (ownP N own) && decide ((ownP N own).map (·.2) = own)) && (own2.all (fun i => own.contains i) && (tgI t).all (fun i => own.contains i) && (tgI t2).all (fun i => own2.contains i)) &&
      (mTg N (genS s2) t pt && mTg N (genS s2) t2 pt2) && (mI sc ow (isTup pt) it pi && mI (relS s2 sc) (genS s2) (isTup pt2) it2 pi2) && mE (relS s2 sc) (genS s2) elt pe && (match pc with
        | [] => isYes c
        | [q] => mT (relS s2 sc) (genS s2) c q
        | _ => false)
    | none => false)
  | sc, ow, .sdc own elt t it, p => (match asSdc p with
    | some (f, pe, pt, pi, s2) => decide (f = ("sorted" : Str)) && (glB sc f && (!ow.isCoroutine && (!s2.isCoroutine && (nse pi && (blkC N sc s2 (ownP N own) && (decide ((ownP N own).map (·.2) = own) && ((tgI t).all (fun i => own.contains i) && (mTg N (genS s2) t pt && (mI sc ow (isTup pt) it pi &&
      mE (relS s2 sc) (genS s2) elt pe)))))))))
    | none => false)
  | sc, ow, .popi a x, p => (match asMeth p with
    | some (pa, m, [px]) => decide (m = "pop") && nab pa && nst px && mE sc ow a pa && mE sc ow x px
    | _ => false)
  | sc, ow, .idxT a x, p => (match asMeth p with
    | some (pa, m, [px]) => decide (m = "index") && nab pa && nst px && mE sc ow a pa && mE sc ow x px
    | _ => false)
  | sc, ow, .revT a, p => (match asRev p with
    | some pa => mE sc ow a pa
    | none => false)
  | sc, ow, .tupF a, p => (match asCall p with
    | some (f, [pa]) => decide (f = ("tuple" : Str)) && (glB sc f && (nst pa && mE sc ow a pa))
    | _ => false)
  | sc, ow, .unf a, p => mE sc ow a p
  | sc, ow, .cv i, p => (match asCall p with
    | some (x, []) => isN N i x
    | _ => false)
  | sc, ow, .ask g a, p => (match asAsk p with
    | some (f, params, body, s2) => decide (f = Str.ofString g) && (!ow.isCoroutine && (!ow.isGenerator && (glB sc f && (dbB f && ((LamX.lamSB sc s2 && (plainP params [] && (params.defaults.isEmpty && params.kw_defaults.isEmpty))) && mE s2 (genS s2) a body)))))
    | none => false)
  | sc, ow, .fz a, p => mE sc ow a p
  | sc, ow, .zipl es, p => (match asCall p with
    | some (f, [q]) => !ow.isCoroutine && decide (f = "list") && glB sc f && (match asCall q with
      | some (g, [pa, pb]) => decide (g = "zip") && glB sc g && mA sc ow es [pa, pb] && [pa, pb].all nst
      | _ => false)
    | _ => false)
  | sc, ow, .fld a f, p => (match asAttr p with
    | some (pa, m) => decide (m = Str.ofString f) && nab pa && mE sc ow a pa
    | none => false)
  | sc, ow, .mk x es, p => (match asCall p with
    | some (g, pa :: ps) => decide (g = Str.ofString x) && !ow.isCoroutine && glB sc g && dbB g && mA sc ow es (pa :: ps) && (pa :: ps).all nst
    | _ => false)
  | sc, ow, .cM x m a es, p => (match asMeth p with
    | some (pa, n, ps) => decide (n = Str.ofString m) && nab pa && !ow.isCoroutine && mE sc ow a pa && mA sc ow es ps && ps.all nst && decide (ps.length < 29)
    | _ => false)
def mT : Scope → Scope → Tx → Expr → Bool
  | sc, ow, .yes, p => false
  | sc, ow, .tst a, p => plT p && mE sc ow a p
  | sc, ow, .cmp o a b, p => (match asCmp1 p with
    | some (pa, op, pb) => decide (op = coOf o) && mE sc ow a pa && mE sc ow b pb && !behindInMarks op pb
    | none => false)
  | sc, ow, .chn o q a b c, p => (match asCmp2 p with
    | some (pa, op, oq, pb, pc) => decide (op = coOf o) && decide (oq = coOf q) && mE sc ow a pa && mE sc ow b pb && mE sc ow c pc && !lastMarks [op, oq] [pb, pc]
    | none => false)
  | sc, ow, .ife c a b, p => (match asIf p with
    | some (pc, pa, pb) => mT sc ow c pc && mT sc ow a pa && mT sc ow b pb
    | none => false)
  | sc, ow, .nt a, p => (match asUn p with
    | some (.Not, pa) => mT sc ow a pa
    | _ => false)
  | sc, ow, .and a b, p => (match asBool .And p with
    | some (pa, pb, _) => mT sc ow a pa && mT sc ow b pb
    | none => false)
  | sc, ow, .or a b, p => (match asBool .Or p with
    | some (pa, pb, _) => mT sc ow a pa && mT sc ow b pb
    | none => false)
def mA : Scope → Scope → Exs → List Expr → Bool
  | sc, ow, .nil, [] => true
  | sc, ow, .cons e es, p :: ps => nst p && mE sc ow e p && mA sc ow es ps
  | sc, ow, .star e es, p :: ps => (match asStar p with
    | some q => mE sc ow e q && mA sc ow es ps
    | none => false)
  | _, _, _, _ => false
def mO : Scope → Scope → Eo → Option Expr → Bool
  | sc, ow, .no, none => true
  | sc, ow, .so e, some p => mE sc ow e p
  | _, _, _, _ => false
def mI : Scope → Scope → Bool → It → Expr → Bool
  | sc, ow, tt, .seq e, p => mE sc ow e p
  | sc, ow, tt, .rng e, p => (match asCall p with
    | some (f, [pa]) => decide (f = "range") && glB sc f && nst pa && mE sc ow e pa
    | _ => false)
  | sc, ow, tt, .rng2 a b, p => (match asCall p with
    | some (f, [pa, pb]) => decide (f = "range") && glB sc f && nst pa && nst pb && mE sc ow a pa && mE sc ow b pb
    | _ => false)
  | sc, ow, tt, .enu es, p => (match asCall p with
    | some (f, [pa]) => tt && decide (f = "enumerate") && glB sc f && nst pa && mA sc ow es [pa]
    | _ => false)
  | sc, ow, tt, .zip es, p => (match asCall p with
    | some (f, [pa, pb]) => tt && decide (f = "zip") && glB sc f && nst pa && nst pb && mA sc ow es [pa, pb]
    | _ => false)
end
end
end PyI

set_option maxRecDepth 100000
namespace PyI
open PySem PySem.Spec PyProof.Rows L2
/-! ## the text's expressions do what the evaluator says -/
theorem isTup_ok {tg : Expr} (h : isTup tg = true) : ∃ elts kk tpos, tg = .Tuple elts kk tpos := by
  unfold isTup at h
  split at h
  · exact ⟨_, _, _, rfl⟩
  · cases h
def bnames : List Str := ["len", "tuple", "list", "all", "any", "sum", "min", "max", "abs", "int", "sorted", "zip", "isinstance", "bool", "str", "dict", "range", "enumerate", "super"]
structure Gd (X : Cx) (W : WX) (N : List Str) (sc ow : Scope) : Prop where
  hN : X.N = N
  nd : N.Nodup
  sc : X.env.scope = sc
  calm : ow.isCoroutine = false → X.calm = true
  tk : Takes X W
  st : ∀ x, stoB ow x = true → Loc X.env.scope x ∧ (X.fn x = true ∨ X.env.scope.names.lookup x = some .local)
  hu : X.A.units + 65 < cLine
  bn : ∀ x ∈ bnames, X.mg x = none
  gen : ow.isGenerator = false → ∀ x, X.fn x = true
structure CallOk (X : Cx) (k : Nat) (f : String) (c : List D → Store → Rs D) : Prop where
  ex : ∃ (fa : Addr) (fd : FuncData) (ps : List Str), X.mg (Str.ofString f) = some (.ref fa) ∧ PySem.W.keepIn X.K (.ref fa) = true ∧ L2.Binds X.K fd ps [] ∧ FnOk X.prog X.w X.K X.mg X.base (L2.CX X.prog X.w) k fa fd ps (spOf X.K X.mg ps.length c) ∧
    ∀ ds S, c ds S ≠ .bad → ds.length = ps.length
structure WdOk (X : Cx) (fns : List String) (wd : Wd) (k : Nat) : Prop where
  con : ∀ g d, wd.con g = some d → ∃ (u : Value) (v : V), X.mg (Str.ofString g) = some u ∧ RelV v u ∧ ∀ z, Rep X.K z d v
  call : ∀ f, fns.contains f = true → CallOk X k f (wd.call f)
  room : X.calm = true → Room (k + 1) X.A
  cls : X.calm = true → ∀ x C ns ms, wd.con x = some (.clo false C ns ms) → ClsOk X k C ns ms wd.call
  xa : XaOk X wd.xa
  exc : X.calm = true → ∀ x C ns ms, wd.con x = some (.clo true C ns ms) → XclOk X k C ns
  xn : X.calm = true → wd.xa = none
  lam : X.calm = true → (∀ x, X.fn x = true) → LamOk X
  ask : X.calm = true → (∀ x, X.fn x = true) → ∀ g told hs, wd.ak g = some (told, hs) → AskOk X k g told hs
  xp : X.calm = true → XclA X wd.con
section
variable {X : Cx} {W : WX} {N : List Str} {sc ow : Scope}
theorem Gd.gl (G : Gd X W N sc ow) {x : Str} (h : glB sc x = true) : Gl X x := by
  show X.env.scope.names.lookup x = _
  rw [G.sc]
  unfold glB at h
  split at h
  · assumption
  · cases h
theorem Gd.vis (G : Gd X W N sc ow) {x : Str} (h : visB sc x = true) : Vis X.env.scope x := by
  unfold Vis
  rw [G.sc]
  unfold visB at h
  split at h
  · exact .inl (by assumption)
  · exact .inr (.inl (by assumption))
  · exact .inr (.inr (by assumption))
  · cases h
theorem Gd.ix (G : Gd X W N sc ow) {i : Nat} {x : Str} (h : isN N i x = true) : X.N[i]? = some x := by
  rw [G.hN]
  unfold isN at h
  split at h
  · rename_i y e
    rw [e, of_decide_eq_true h]
  · cases h
theorem db_ok {x : Str} (h : dbB x = true) : (x == ("__debug__" : Str)) = false ∧ (x == ("__classdict__" : Str)) = false ∧ x ≠ "__name__" := by
  unfold dbB at h
  simp only [Bool.and_eq_true, Bool.not_eq_true'] at h
  exact ⟨h.1.1, h.1.2, fun e => by rw [e] at h; simp at h⟩
theorem Gd.sto (G : Gd X W N sc ow) {i : Nat} {x : Str} (h1 : isN N i x = true) (h2 : stoB ow x = true) : Sto X i x := ⟨G.ix h1, (G.st x h2).1, (G.st x h2).2⟩
theorem Gd.stos (G : Gd X W N sc ow) : ∀ {is : List Nat} {es : List Expr}, mTgs N ow is es = true → Stos X is es
  | [], [], _ => .nil
  | i :: is, e :: es, h => by
    unfold mTgs at h
    split at h
    · rename_i h1 h2; cases h1
    · rename_i i' is' x p es' h1 h2
      cases h1; cases h2
      simp only [Bool.and_eq_true] at h
      exact .cons (G.sto h.1.1 h.1.2) (G.stos h.2)
    · cases h
  | [], _ :: _, h => by simp [mTgs] at h
  | _ :: _, [], h => by simp [mTgs] at h
theorem Gd.tg (G : Gd X W N sc ow) {t : Tg} {e : Expr} (h : mTg N ow t e = true) : PG X e (tG X t) := by
  have nd : X.N.Nodup := by rw [G.hN]; exact G.nd
  unfold mTg at h
  split at h
  · simp only [Bool.and_eq_true] at h
    exact s_nm nd (G.sto h.1 h.2)
  · simp only [Bool.and_eq_true, Bool.not_eq_true'] at h
    exact s_tp nd (G.calm h.1) (G.stos h.2)
  · simp only [Bool.and_eq_true, Bool.not_eq_true'] at h
    exact s_tp2 nd (G.calm h.1.1.1) (G.sto h.1.1.2 h.1.2) (G.stos h.2)
  · cases h
theorem nst_ok {e : Expr} {es : List Expr} {env : PySem.Env} (h : nst e = true) : starEach (e :: es) env = (false, eval e env) :: starEach es env := by
  cases e <;> first | rfl | cases h
theorem nsl_ok {e : Expr} (h : nsl e = true) : PlainIx e := fun o i => by
  cases e <;> first | rfl | cases h
theorem nse_ok {e : Expr} (h : nse e = true) (env : PySem.Env) : ∀ x, foldedSetIterable e env x = pure x := fun x => by
  cases e <;> first | rfl | cases h
theorem nab_ok {e : Expr} (h : nab e = true) (a : Str) (env : PySem.Env) : attributeBase e a env (eval e env) = eval e env := by
  cases e with
  | Call f as kws p =>
    cases f with
    | Name x q =>
      cases as with
      | nil =>
        cases kws with
        | nil => cases h
        | cons _ _ => rfl
      | cons _ _ => rfl
    | _ => rfl
  | _ => rfl
theorem plT_ok {e : Expr} (h : plT e = true) (env : PySem.Env) : ∀ whole, PySem.isTrue e env whole = (do let v ← whole; standAt e.pos; holding [v] (truthy v)) := fun wh => by
  cases e with
  | UnaryOp o a p => cases o <;> first | rfl | cases h
  | BoolOp _ _ _ => cases h
  | IfExp _ _ _ _ => cases h
  | Compare _ _ _ _ => cases h
  | _ => rfl
theorem all_few : ∀ {ps : List Expr} {env : PySem.Env} {pos : Pos}, ps.all nst = true → (backTo pos (starEach ps env)).all (fun x => !x.1) = true
  | [], _, _, _ => rfl
  | p :: ps, env, pos, h => by
    rw [List.all_cons, Bool.and_eq_true] at h
    rw [nst_ok h.1]
    show (true && (backTo pos (starEach ps env)).all (fun x => !x.1)) = true
    rw [all_few h.2]; rfl
theorem all_nst : ∀ {ps : List Expr} {env : PySem.Env} {pos : Pos}, ps.all nst = true → (backTo pos (starEach ps env)).any (·.1) = false
  | [], _, _, _ => rfl
  | p :: ps, env, pos, h => by
    rw [List.all_cons, Bool.and_eq_true] at h
    rw [nst_ok h.1]
    show (false || (backTo pos (starEach ps env)).any (·.1)) = false
    rw [all_nst h.2]; rfl
/-! the forms -/
theorem asName_ok {p : Expr} {x : Str} (h : asName p = some x) : ∃ q, p = .Name x q := by
  unfold asName at h; split at h <;> cases h; exact ⟨_, rfl⟩
theorem asBin_ok {p a b : Expr} {o : Operator} (h : asBin p = some (a, o, b)) : ∃ q, p = .BinOp a o b q := by
  unfold asBin at h; split at h <;> cases h; exact ⟨_, rfl⟩
theorem asUn_ok {p a : Expr} {o : UnaryOp} (h : asUn p = some (o, a)) : ∃ q, p = .UnaryOp o a q := by
  unfold asUn at h; split at h <;> cases h; exact ⟨_, rfl⟩
theorem asCmp1_ok {p a b : Expr} {o : CmpOp} (h : asCmp1 p = some (a, o, b)) : ∃ q, p = .Compare a [o] [b] q := by
  unfold asCmp1 at h; split at h <;> cases h; exact ⟨_, rfl⟩
theorem asCmp2_ok {p a b c : Expr} {o o' : CmpOp} (h : asCmp2 p = some (a, o, o', b, c)) : ∃ q, p = .Compare a [o, o'] [b, c] q := by
  unfold asCmp2 at h; split at h <;> cases h; exact ⟨_, rfl⟩
theorem asIf_ok {p a b c : Expr} (h : asIf p = some (c, a, b)) : ∃ q, p = .IfExp c a b q := by
  unfold asIf at h; split at h <;> cases h; exact ⟨_, rfl⟩
theorem asTup_ok {p : Expr} {es : List Expr} (h : asTup p = some es) : ∃ k q, p = .Tuple es k q := by
  unfold asTup at h; split at h <;> cases h; exact ⟨_, _, rfl⟩
theorem asLs_ok {p : Expr} {es : List Expr} (h : asLs p = some es) : ∃ q, p = .List es q := by
  unfold asLs at h; split at h <;> cases h; exact ⟨_, rfl⟩
theorem isDic_ok {p : Expr} (h : isDic p = true) : ∃ q, p = .Dict [] [] q := by
  unfold isDic at h; split at h <;> first | exact ⟨_, rfl⟩ | cases h
theorem asSub_ok {p a i : Expr} (h : asSub p = some (a, i)) : ∃ q, p = .Subscript a i q := by
  unfold asSub at h; split at h <;> cases h; exact ⟨_, rfl⟩
theorem asSl_ok {p a : Expr} {lo hi : Option Expr} (h : asSl p = some (a, lo, hi)) : ∃ q q2, p = .Subscript a (.Slice lo hi none q) q2 := by
  unfold asSl at h; split at h <;> cases h; exact ⟨_, _, rfl⟩
theorem asCall_ok {p : Expr} {f : Str} {es : List Expr} (h : asCall p = some (f, es)) : ∃ q q2, p = .Call (.Name f q) es [] q2 := by
  unfold asCall at h; split at h <;> cases h; exact ⟨_, _, rfl⟩
theorem asMeth_ok {p a : Expr} {m : Str} {es : List Expr} (h : asMeth p = some (a, m, es)) : ∃ ap cp, p = .Call (.Attribute a m ap) es [] cp ∧ (ap.endLine == cp.line) = true := by
  unfold asMeth at h
  split at h
  · split at h
    · cases h; exact ⟨_, _, rfl, by assumption⟩
    · cases h
  · cases h
theorem asAttr_ok {p a : Expr} {m : Str} (h : asAttr p = some (a, m)) : ∃ q, p = .Attribute a m q := by
  unfold asAttr at h; split at h <;> cases h; exact ⟨_, rfl⟩
theorem asComp_ok {p elt tg it : Expr} {ifs : List Expr} {s : Scope} (h : asComp p = some (elt, tg, it, ifs, s)) : ∃ q, p = .ListComp elt [⟨tg, it, ifs, 0⟩] s q := by
  unfold asComp at h; split at h <;> cases h; exact ⟨_, rfl⟩
theorem asComp2_ok {p elt tg it tg2 it2 : Expr} {ifs : List Expr} {s : Scope} (h : asComp2 p = some (elt, tg, it, tg2, it2, ifs, s)) : ∃ q, p = .ListComp elt [⟨tg, it, [], 0⟩, ⟨tg2, it2, ifs, 0⟩] s q := by
  unfold asComp2 at h; split at h <;> cases h; exact ⟨_, rfl⟩
theorem all_sub {a b : List Nat} (h : a.all (fun i => b.contains i) = true) : ∀ i ∈ a, i ∈ b := fun i hi => by
  have := List.all_eq_true.mp h i hi
  simpa using this
theorem asSrt_ok {p pa body : Expr} {params : Arguments} {s2 : Scope} (h : asSrt p = some (pa, params, body, s2)) : ∃ q lp kp pos, p = .Call (.Name "sorted" q) [pa] [⟨some "key", .Lambda params body s2 lp, kp⟩] pos := by
  unfold asSrt at h
  split at h
  · split at h
    · rename_i e
      obtain ⟨rfl, rfl⟩ := e
      cases h; exact ⟨_, _, _, _, rfl⟩
    · cases h
  · cases h
theorem srtB_ok {params : Arguments} {body : Expr} {s2 : Scope} (h : srtB params body s2 = true) : ∃ x : Str, plainP params [x] = true ∧ params.defaults = [] ∧ params.kw_defaults = [] ∧ keyB x body = true ∧ keyS x s2 = true ∧ (x == ("__debug__" : Str)) = false := by
  unfold srtB at h
  split at h
  · simp only [Bool.and_eq_true, List.isEmpty_iff, Bool.not_eq_true'] at h
    obtain ⟨⟨⟨⟨⟨h1, h2⟩, h3⟩, h4⟩, h5⟩, h6⟩ := h
    exact ⟨_, h1, h2, h3, h4, h5, h6⟩
  · cases h
theorem asAsk_ok {p body : Expr} {g : Str} {params : Arguments} {s2 : Scope} (h : asAsk p = some (g, params, body, s2)) : ∃ q lp pos, p = .Call (.Name g q) [.Lambda params body s2 lp] [] pos := by
  unfold asAsk at h
  split at h
  · cases h; exact ⟨_, _, _, rfl⟩
  · cases h
theorem asRev_ok {p a : Expr} (h : asRev p = some a) : ∃ k p1 p2 p3 q, p = .Subscript a (.Slice none none (some (.UnaryOp .USub (.Constant (.int 1) k p1) p2)) p3) q := by
  unfold asRev at h; split at h <;> cases h; exact ⟨_, _, _, _, _, rfl⟩
theorem asStar_ok {p a : Expr} (h : asStar p = some a) : ∃ q, p = .Starred a q := by
  unfold asStar at h; split at h <;> cases h; exact ⟨_, rfl⟩
theorem asBool_ok {p a b : Expr} {o : BoolOp} {l : Bool} (h : asBool o p = some (a, b, l)) : ∃ x r q, p = .BoolOp o (a :: x :: r) q ∧ ((r = [] ∧ b = x) ∨ (r ≠ [] ∧ b = .BoolOp o (x :: r) q)) := by
  unfold asBool at h
  split at h
  · rename_i o' a' x r q
    split at h
    · rename_i e
      subst e
      cases r with
      | nil => cases h; exact ⟨_, _, _, rfl, .inl ⟨rfl, rfl⟩⟩
      | cons y r => cases h; exact ⟨_, _, _, rfl, .inr ⟨List.cons_ne_nil _ _, rfl⟩⟩
    · cases h
  · cases h
theorem pe_bool_rest {o : BoolOp} {x b : Expr} {r : List Expr} {q : Pos} {t : TE} (h : (r = [] ∧ b = x) ∨ (r ≠ [] ∧ b = .BoolOp o (x :: r) q)) (hb : PE X b t) : PE X (.BoolOp o (x :: r) q) t := by
  rcases h with ⟨rfl, rfl⟩ | ⟨_, rfl⟩
  · exact pe_one hb
  · exact hb
theorem mTys_ok (G : Gd X W N sc ow) (hb : ∀ t : Ty, X.mg (Str.ofString (tyN t)) = none) : ∀ {ts : List Ty} {es : List Expr}, mTys sc ts es = true → es.length = ts.length ∧ ∀ (i : Nat) (e : Expr) (t : Ty), es[i]? = some e → ts[i]? = some t →
    ∃ (x : Str) (px : Pos), e = Expr.Name x px ∧ Gl X x ∧ X.mg x = none ∧ bootBuiltins x = some (.type (tyN t)) ∧ x ≠ "__name__" ∧ (x == ("__debug__" : Str)) = false
  | [], [], _ => ⟨rfl, fun i e t h => by simp at h⟩
  | t :: ts, e :: es, h => by
    unfold mTys at h
    split at h
    · rename_i h1 h2; cases h1
    · rename_i t' ts' x p es' h1 h2
      cases h1; cases h2
      simp only [Bool.and_eq_true] at h
      obtain ⟨l, k⟩ := mTys_ok G hb h.2
      refine ⟨by simp [l], fun i e t' e1 e2 => ?_⟩
      cases i with
      | zero =>
        simp at e1 e2
        subst e1 e2
        have hx := of_decide_eq_true h.1.1
        subst hx
        exact ⟨_, _, rfl, G.gl h.1.2, hb t, by cases t <;> decide +kernel, by cases t <;> decide, by cases t <;> decide⟩
      | succ i => exact k i e t' (by simpa using e1) (by simpa using e2)
    · cases h
  | [], _ :: _, h => by simp [mTys] at h
  | _ :: _, [], h => by simp [mTys] at h
theorem Gd.ty (G : Gd X W N sc ow) (t : Ty) : X.mg (Str.ofString (tyN t)) = none := G.bn _ (by cases t <;> decide)
/-- within a comprehension -/
theorem Gd.blk (G : Gd X W N sc ow) (hc : X.calm = true) {s2 : Scope} (s : Shared) (H : Hp) (C : Addr) (cl : List (Str × Addr)) (fp : List Addr) : Gd (X.blk s H s2 (compEnvC s2 cl C X.env) fp) WF N (relS s2 sc) (genS s2) := by
  refine ⟨G.hN, G.nd, ?_, fun _ => hc, takes0, fun x h => ?_, G.hu, G.bn, fun h => by cases h⟩
  · rw [← G.sc]; rfl
  · have e : (compEnvC s2 cl C X.env).scope = relS s2 X.env.scope := rfl
    show Loc (compEnvC s2 cl C X.env).scope x ∧ ((s2.names.lookup x == some .cell) = true ∨ (compEnvC s2 cl C X.env).scope.names.lookup x = some .local)
    rw [e]
    have h : stoB s2 x = true := h
    unfold stoB at h
    split at h
    · rename_i q
      have := lookup_relS_keep (sc := X.env.scope) (k := .local) (by decide) q
      exact ⟨.inl this, .inr this⟩
    · rename_i q
      have := lookup_relS_keep (sc := X.env.scope) (k := .cell) (by decide) q
      exact ⟨.inr this, .inl (by rw [q]; rfl)⟩
    · cases h
theorem str_len_sum {x : Str} {k : NameKind} : ∀ {l : List (Str × NameKind)}, (x, k) ∈ l → x.length ≤ (l.map fun p => p.1.length).sum
  | p :: l, h => by
    rw [List.map_cons, List.sum_cons]
    rcases List.mem_cons.mp h with e | e
    · rw [← e]; exact Nat.le_add_right _ _
    · have := str_len_sum e
      omega
/-- a name that a block's scope does not have -/
def longS (s2 : Scope) : Str := ⟨Array.replicate ((s2.names.map fun p => p.1.length).sum + 1) 0⟩
theorem blk_fn (s2 : Scope) : ¬ ((s2.names.lookup (longS s2) == some .cell) = true) := fun h => by
  have h1 : s2.names.lookup (longS s2) = some .cell := by simpa using h
  have h2 := str_len_sum (PySem.mem_of_lookup h1)
  have h3 : (longS s2).length = (s2.names.map fun p => p.1.length).sum + 1 := by
    show (Array.replicate _ _).size = _
    exact Array.size_replicate
  omega
theorem WdOk.blk {fns : List String} {wd : Wd} {k : Nat} (h : WdOk X fns wd k) (hc : X.calm = true) {s2 : Scope} (s : Shared) (H : Hp) (C : Addr) (cl : List (Str × Addr)) (fp : List Addr) : WdOk (X.blk s H s2 (compEnvC s2 cl C X.env) fp) fns wd k :=
  ⟨h.con, fun f hf => ⟨(h.call f hf).ex⟩, h.room, fun c x C ns ms e => let q := h.cls c x C ns ms e; ⟨q.cls, q.mks, q.kp, fun m key e => let ⟨a, b⟩ := q.meth m key e; ⟨a, ⟨b.ex⟩⟩⟩, fun a d ns e => by (rw [h.xn hc] at e; cases e), fun c x C ns ms e => let q := h.exc c x C ns ms e; ⟨q.T, q.ex, q.inj, q.xf, q.no, q.exm, q.ne⟩, h.xn, fun c hf => absurd (hf _) (blk_fn s2), fun c hf => absurd (hf _) (blk_fn s2), fun c => let q := h.xp c; ⟨q.cls, q.exm⟩⟩
theorem mKey_inv {con : String → Option D} {x m : String} {C : Nat} {ns : List String} {key : String} (h : mKey con x m = some (C, ns, key)) : ∃ ms, con x = some (.clo false C ns ms) ∧ ms.lookup m = some key := by
  unfold mKey at h
  split at h
  · rename_i C0 ns0 ms e
    obtain ⟨k0, e4, e5⟩ := Option.map_eq_some_iff.mp h
    cases e5
    exact ⟨_, e, e4⟩
  · cases h
theorem WdOk.clo {fns : List String} {wd : Wd} {k : Nat} (w : WdOk X fns wd k) {x : String} {b : Bool} {C : Nat} {ns : List String} {ms : List (String × String)} (h : wd.con x = some (.clo b C ns ms)) : X.mg (Str.ofString x) = some (.ref C) := by
  obtain ⟨u, v, h1, h2, h3⟩ := w.con x _ h
  have := h3 ⟨[], [], [], fun _ => none⟩
  unfold Rep at this
  subst this
  rw [h1]
  cases h2
  rfl
/-- within a lambda's body -/
theorem Gd.lamb (G : Gd X W N sc ow) {k : Nat} {A : Around} {outer : List PySem.Env} {s : Shared} {H : Hp} {E : XK} {s2 : Scope} {f c' : Addr} (LS : LamX.LamS X.env.scope s2) (hr : Room (k + 1) (A.deeper (LamX.lamEnv X s2 s.heap.objs.size f c'))) : Gd (LamX.lamCx X A outer s H E s2 f c') (fun cls d _ H => E cls d H) N s2 (genS s2) := by
  refine ⟨G.hN, G.nd, rfl, fun _ => rfl, takes_of rfl rfl rfl rfl, fun x hx => ?_, ?_, G.bn, fun h => by cases h⟩
  · have hx : stoB s2 x = true := hx
    unfold stoB at hx
    split at hx
    · rename_i q; exact absurd rfl (LS.own _ (PySem.mem_of_lookup q)).1
    · rename_i q; exact absurd rfl (LS.own _ (PySem.mem_of_lookup q)).2
    · cases hx
  · have := hr.un
    show (A.deeper (LamX.lamEnv X s2 s.heap.objs.size f c')).units + 65 < _
    omega
theorem WdOk.lamb {fns : List String} {wd : Wd} {k : Nat} (w : WdOk X fns wd k) (hc : X.calm = true) {A : Around} {outer : List PySem.Env} {s : Shared} {H : Hp} {E : XK} {s2 : Scope} {f c' : Addr} (hr : Room (k + 1) (A.deeper (LamX.lamEnv X s2 s.heap.objs.size f c'))) : WdOk (LamX.lamCx X A outer s H E s2 f c') fns wd k :=
  ⟨w.con, fun f hf => ⟨(w.call f hf).ex⟩, fun _ => hr, fun _ x C ns ms e => let q := w.cls hc x C ns ms e; ⟨q.cls, q.mks, q.kp, fun m key e => let ⟨a, b⟩ := q.meth m key e; ⟨a, ⟨b.ex⟩⟩⟩, fun a d ns e => by (rw [w.xn hc] at e; cases e), fun _ x C ns ms e => let q := w.exc hc x C ns ms e; ⟨q.T, q.ex, q.inj, q.xf, q.no, q.exm, q.ne⟩, fun _ => w.xn hc,
    fun _ hf => (nomatch (show false = true from hf "")), fun _ hf => (nomatch (show false = true from hf "")), fun _ => let q := w.xp hc; ⟨q.cls, q.exm⟩⟩
theorem xNs_inv {con : String → Option D} {x : String} {ns : List String} (h : xNs con x = some ns) : ∃ C ms, con x = some (.clo true C ns ms) := by
  unfold xNs at h
  split at h
  · rename_i C ns' ms e
    cases h
    exact ⟨C, ms, e⟩
  · cases h
theorem ba3 {a b : Bool} (h : (a && b) = true) : a = true ∧ b = true := Bool.and_eq_true_iff.mp h
end
end PyI

set_option maxRecDepth 100000
set_option maxHeartbeats 4000000
namespace PyI
open PySem PySem.Spec PyProof.Rows L2
section
variable {fns : List String} {N : List Str} {wd : Wd} {k : Nat}
mutual
theorem sE : ∀ (e : Ex) {X : Cx} {W : WX} {sc ow : Scope} {p : Expr}, Gd X W N sc ow → WdOk X fns wd k → mE fns N sc ow e p = true → PE X p (tE X W (evE wd e))
  | .var i, X, W, sc, ow, p, G, w, h => by
    simp only [mE] at h
    split at h
    · rename_i x e
      obtain ⟨q, rfl⟩ := asName_ok e
      obtain ⟨h1, h3⟩ := ba3 h
      obtain ⟨h1, h2⟩ := ba3 h1
      obtain ⟨d1, d2, _⟩ := db_ok h3
      exact s_var (G.ix h1) (G.vis h2) d1 d2
    · cases h
  | .cst d, X, W, sc, ow, p, G, w, h => by
    simp only [mE] at h
    unfold mCst at h
    split at h
    · exact s_non
    · rw [eq_of_beq h]; exact s_bl
    · rw [of_decide_eq_true h]; exact s_int
    · rw [of_decide_eq_true h]; exact s_str
    · cases h
  | .glo g, X, W, sc, ow, p, G, w, h => by
    simp only [mE] at h
    split at h
    · rename_i x e
      obtain ⟨q, rfl⟩ := asName_ok e
      obtain ⟨h1, h3⟩ := ba3 h
      obtain ⟨h1, h2⟩ := ba3 h1
      obtain ⟨d1, _, _⟩ := db_ok h3
      have hx := of_decide_eq_true h1
      subst hx
      show PE X _ (tE X W fun e S => optR (wd.con g) S)
      cases q : wd.con g with
      | some d =>
        obtain ⟨u, v, k1, k2, k3⟩ := w.con g d q
        exact s_glo (G.gl h2) k1 k2 k3 d1
      | none =>
        refine PE_imp (t := fun _ _ _ => False) ⟨fun _ _ _ _ _ _ h => h.elim⟩ fun σ H Q h => ?_
        obtain ⟨z, e, _, _, _, P⟩ := h
        exact P
    · cases h
  | .bin o a b, X, W, sc, ow, p, G, w, h => by
    simp only [mE] at h
    split at h
    · rename_i pa op pb e
      obtain ⟨q, rfl⟩ := asBin_ok e
      obtain ⟨h1, h3⟩ := ba3 h
      obtain ⟨h1, h2⟩ := ba3 h1
      rw [of_decide_eq_true h1]
      exact s_bin o (sE a G w h2) (sE b G w h3)
    · cases h
  | .neg a, X, W, sc, ow, p, G, w, h => by
    simp only [mE] at h
    split at h
    · rename_i pa e
      obtain ⟨q, rfl⟩ := asUn_ok e
      exact s_neg (sE a G w h)
    · cases h
  | .cmp o a b, X, W, sc, ow, p, G, w, h => by
    simp only [mE] at h
    split at h
    · rename_i pa op pb e
      obtain ⟨q, rfl⟩ := asCmp1_ok e
      obtain ⟨h1, h4⟩ := ba3 h
      obtain ⟨h1, h3⟩ := ba3 h1
      obtain ⟨h1, h2⟩ := ba3 h1
      have ho := of_decide_eq_true h1
      subst ho
      exact s_cmp o G.hu (sE a G w h2) (sE b G w h3) (by simpa using h4)
    · cases h
  | .chn o o' a b c, X, W, sc, ow, p, G, w, h => by
    simp only [mE] at h
    split at h
    · rename_i pa op oq pb pc e
      obtain ⟨q, rfl⟩ := asCmp2_ok e
      obtain ⟨h1, h6⟩ := ba3 h
      obtain ⟨h1, h5⟩ := ba3 h1
      obtain ⟨h1, h4⟩ := ba3 h1
      obtain ⟨h1, h3⟩ := ba3 h1
      obtain ⟨h1, h2⟩ := ba3 h1
      have ho := of_decide_eq_true h1
      have ho' := of_decide_eq_true h2
      subst ho ho'
      exact s_chn (op_co o G.hu) (op_co o' G.hu) (sE a G w h3) (sE b G w h4) (sE c G w h5) (by simpa using h6)
    · cases h
  | .nt a, X, W, sc, ow, p, G, w, h => by
    simp only [mE] at h
    split at h
    · rename_i pa e
      obtain ⟨q, rfl⟩ := asUn_ok e
      exact s_nt (sE a G w h)
    · cases h
  | .and a b, X, W, sc, ow, p, G, w, h => by
    simp only [mE] at h
    split at h
    · rename_i pa pb l e
      obtain ⟨x, r, q, rfl, hr⟩ := asBool_ok e
      obtain ⟨h1, h2⟩ := ba3 h
      exact s_and (sE a G w h1) (pe_bool_rest hr (sE b G w h2))
    · cases h
  | .or a b, X, W, sc, ow, p, G, w, h => by
    simp only [mE] at h
    split at h
    · rename_i pa pb l e
      obtain ⟨x, r, q, rfl, hr⟩ := asBool_ok e
      obtain ⟨h1, h2⟩ := ba3 h
      exact s_or (sE a G w h1) (pe_bool_rest hr (sE b G w h2))
    · cases h
  | .ife c a b, X, W, sc, ow, p, G, w, h => by
    simp only [mE] at h
    split at h
    · rename_i pc pa pb e
      obtain ⟨q, rfl⟩ := asIf_ok e
      obtain ⟨h1, h3⟩ := ba3 h
      obtain ⟨h1, h2⟩ := ba3 h1
      exact s_ife (sT c G w h1).1 (sE a G w h2) (sE b G w h3)
    · cases h
  | .tup es, X, W, sc, ow, p, G, w, h => by
    simp only [mE] at h
    split at h
    · rename_i ps e
      obtain ⟨kk, q, rfl⟩ := asTup_ok e
      exact s_tup (sA es G w h)
    · cases h
  | .lst es, X, W, sc, ow, p, G, w, h => by
    simp only [mE] at h
    split at h
    · rename_i ps e
      obtain ⟨q, rfl⟩ := asLs_ok e
      exact s_lst (sA es G w h)
    · cases h
  | .mls es, X, W, sc, ow, p, G, w, h => by
    simp only [mE] at h
    split at h
    · rename_i ps e
      obtain ⟨q, rfl⟩ := asLs_ok e
      exact s_mls (sA es G w h)
    · cases h
  | .dic, X, W, sc, ow, p, G, w, h => by
    simp only [mE] at h
    obtain ⟨q, rfl⟩ := isDic_ok h
    exact s_dic
  | .ix a i, X, W, sc, ow, p, G, w, h => by
    simp only [mE] at h
    split at h
    · rename_i pa pi e
      obtain ⟨q, rfl⟩ := asSub_ok e
      obtain ⟨h1, h3⟩ := ba3 h
      obtain ⟨h1, h2⟩ := ba3 h1
      exact s_ix (sE a G w h2) (sE i G w h3) (nsl_ok h1)
    · cases h
  | .sl a lo hi, X, W, sc, ow, p, G, w, h => by
    simp only [mE] at h
    split at h
    · rename_i pa pl ph e
      obtain ⟨q, q2, rfl⟩ := asSl_ok e
      obtain ⟨h1, h3⟩ := ba3 h
      obtain ⟨h1, h2⟩ := ba3 h1
      exact s_sl (sE a G w h1) (sO lo G w h2) (sO hi G w h3)
    · cases h
  | .isi a ts, X, W, sc, ow, p, G, w, h => by
    simp only [mE] at h
    split at h
    · rename_i f pa pt e
      obtain ⟨q, q2, rfl⟩ := asCall_ok e
      obtain ⟨h1, h5⟩ := ba3 h
      obtain ⟨h1, h4⟩ := ba3 h1
      obtain ⟨h1, h3⟩ := ba3 h1
      obtain ⟨h1, h2⟩ := ba3 h1
      have hf := of_decide_eq_true h1
      subst hf
      have hm : X.mg "isinstance" = none := G.bn _ (by decide)
      unfold mTyx at h5
      split at h5
      · rename_i x px
        split at h5
        · rename_i t
          obtain ⟨k1, k2⟩ := ba3 h5
          have hx := of_decide_eq_true k1
          subst hx
          exact s_isi t (sE a G w h4) (G.gl h2) hm (nst_ok h3) (G.gl k2) (G.ty t) (by cases t <;> decide +kernel) (by cases t <;> decide) (by cases t <;> decide)
        · cases h5
      · rename_i es kk px
        obtain ⟨k1, k3⟩ := ba3 h5
        obtain ⟨k1, k2⟩ := ba3 k1
        obtain ⟨l1, l2⟩ := mTys_ok G G.ty k3
        exact s_isis ts (sE a G w h4) (G.gl h2) hm (nst_ok h3) l1 (by intro e; subst e; simp at k1) (of_decide_eq_true k2) l2
      · cases h5
    · cases h
  | .cB b es, X, W, sc, ow, p, G, w, h => by
    simp only [mE] at h
    split at h
    · rename_i f pa ps e
      obtain ⟨q, q2, rfl⟩ := asCall_ok e
      obtain ⟨h1, h4⟩ := ba3 h
      obtain ⟨h1, h3⟩ := ba3 h1
      obtain ⟨h1, h2⟩ := ba3 h1
      obtain ⟨h1, h0⟩ := ba3 h1
      have hf := of_decide_eq_true h1
      subst hf
      rw [List.all_cons, Bool.and_eq_true] at h4
      exact s_bi b (fun hb => G.calm (by rw [hb] at h0; simpa using h0)) (G.gl h2) (G.bn _ (by cases b <;> decide)) (sA es G w h3) (nst_ok h4.1) (all_nst h4.2)
    · cases h
  | .mkl es, X, W, sc, ow, p, G, w, h => by
    simp only [mE] at h
    split at h
    · rename_i f pa ps e
      obtain ⟨q, q2, rfl⟩ := asCall_ok e
      obtain ⟨h1, h4⟩ := ba3 h
      obtain ⟨h1, h3⟩ := ba3 h1
      obtain ⟨h1, h2⟩ := ba3 h1
      have hf := of_decide_eq_true h1
      subst hf
      rw [List.all_cons, Bool.and_eq_true] at h4
      exact s_mkl (G.gl h2) (G.bn _ (by decide)) (sA es G w h3) (nst_ok h4.1) (all_nst h4.2)
    · cases h
  | .zipl es, X, W, sc, ow, p, G, w, h => by
    simp only [mE] at h
    split at h
    · rename_i f q e
      obtain ⟨h1, h2⟩ := ba3 h
      split at h2
      · rename_i g pa pb e2
        obtain ⟨q1, q2, rfl⟩ := asCall_ok e
        obtain ⟨q3, q4, rfl⟩ := asCall_ok e2
        obtain ⟨h2, h6⟩ := ba3 h2
        obtain ⟨h2, h5⟩ := ba3 h2
        obtain ⟨h2, h4⟩ := ba3 h2
        obtain ⟨h1, h3⟩ := ba3 h1
        obtain ⟨h0, h1⟩ := ba3 h1
        have hf := of_decide_eq_true h1
        have hg := of_decide_eq_true h2
        subst hf hg
        rw [List.all_cons, Bool.and_eq_true] at h6
        exact s_zipl (G.calm (by simpa using h0)) (G.gl h3) (G.bn _ (by decide)) (G.gl h4) (G.bn _ (by decide)) (sA es G w h5) (nst_ok h6.1) (all_nst h6.2)
      · cases h2
    · cases h
  | .cF f es, X, W, sc, ow, p, G, w, h => by
    simp only [mE] at h
    split at h
    · rename_i g pa ps e
      obtain ⟨q, q2, rfl⟩ := asCall_ok e
      obtain ⟨h1, h6⟩ := ba3 h
      obtain ⟨h1, h5⟩ := ba3 h1
      obtain ⟨h1, h4⟩ := ba3 h1
      obtain ⟨h1, h3⟩ := ba3 h1
      obtain ⟨h1, h2⟩ := ba3 h1
      obtain ⟨h1, h0⟩ := ba3 h1
      have hf := of_decide_eq_true h1
      subst hf
      obtain ⟨fa, fd, prs, c1, c2, c3, c4, c5⟩ := (w.call f h4).ex
      rw [List.all_cons, Bool.and_eq_true] at h6
      exact s_call c4 ((w.room (G.calm (by simpa using h0))).mono (Nat.le_succ _)) (G.gl h2) c1 c2 c3 G.tk c5 (sA es G w h5) (db_ok h3).1 (nst_ok h6.1) (all_nst h6.2)
    · cases h
  | .app a x, X, W, sc, ow, p, G, w, h => by
    simp only [mE] at h
    split at h
    · rename_i pa m px e
      obtain ⟨ap, cp, rfl, hl⟩ := asMeth_ok e
      obtain ⟨h1, h5⟩ := ba3 h
      obtain ⟨h1, h4⟩ := ba3 h1
      obtain ⟨h1, h3⟩ := ba3 h1
      obtain ⟨h1, h2⟩ := ba3 h1
      have hf := of_decide_eq_true h1
      subst hf
      exact s_app (sE a G w h4) (sE x G w h5) (nab_ok h2 _ _) hl (nst_ok h3)
    · cases h
  | .srt a, X, W, sc, ow, p, G, w, h => by
    simp only [mE] at h
    split at h
    · rename_i pa params body s2 e
      obtain ⟨q, lp, kp, pos, rfl⟩ := asSrt_ok e
      obtain ⟨h1, h5⟩ := ba3 h
      obtain ⟨h1, h4⟩ := ba3 h1
      obtain ⟨h1, h3⟩ := ba3 h1
      obtain ⟨h1, h2⟩ := ba3 h1
      obtain ⟨h1, h6⟩ := ba3 h1
      have hc := G.calm (by simpa using h1)
      obtain ⟨x, a1, a2, a3, a4, a5, a6⟩ := srtB_ok h2
      exact s_srt G.hu (w.room hc).depth (G.gl h3) (G.bn _ (by decide)) (G.bn _ (by decide)) (w.lam hc (G.gen (by simpa using h6))) a1 a2 a3 a4 a5 a6 (sE a G w h5) (nst_ok h4)
    · cases h
  | .cv i, X, W, sc, ow, p, G, w, h => by
    refine PE_imp (t := fun _ _ _ => False) ⟨fun _ _ _ _ _ _ h => h.elim⟩ fun σ H Q h => ?_
    obtain ⟨z, e, _, _, _, P⟩ := h
    exact P
  | .ask g a, X, W, sc, ow, p, G, w, h => by
    simp only [mE] at h
    split at h
    · rename_i f params body s2 e
      obtain ⟨q, lp, pos, rfl⟩ := asAsk_ok e
      obtain ⟨h1, h⟩ := ba3 h
      obtain ⟨h2, h⟩ := ba3 h
      obtain ⟨h3, h⟩ := ba3 h
      obtain ⟨h4, h⟩ := ba3 h
      obtain ⟨h5, h⟩ := ba3 h
      obtain ⟨h6, h7⟩ := ba3 h
      obtain ⟨h6, h8⟩ := ba3 h6
      obtain ⟨h8, h9⟩ := ba3 h8
      obtain ⟨h9, h10⟩ := ba3 h9
      have hf := of_decide_eq_true h1
      subst hf
      have hc := G.calm (by simpa using h2)
      have hfn := G.gen (by simpa using h3)
      have bad : ∀ {f : PyI.Env → Store → Rs D}, (∀ e S, f e S = .bad) → PE X (.Call (.Name (Str.ofString g) q) [.Lambda params body s2 lp] [] pos) (tE X W f) := fun {f} hb => by
        refine PE_imp (t := fun _ _ _ => False) ⟨fun _ _ _ _ _ _ h => h.elim⟩ fun σ H Q h => ?_
        obtain ⟨z, e, _, _, _, P⟩ := h
        rw [hb] at P
        exact P
      show PE X _ (tE X W fun e S => match wd.ak g with
        | some (told, hs) => if hdsOk wd.con hs = true then askR told hs wd.con (evE wd a e S) else .bad
        | none => .bad)
      cases qa : wd.ak g with
      | none => exact bad fun _ _ => rfl
      | some t =>
        obtain ⟨told, hs⟩ := t
        by_cases hm : hdsOk wd.con hs = true
        · have LS : LamX.LamS X.env.scope s2 := by rw [G.sc]; exact LamX.lamS_by h6
          simp only [if_pos hm]
          exact s_ask (w.ask hc hfn g told hs qa) (w.xp hc) hm (w.lam hc hfn) LS (G.gl h4) (db_ok h5).1 h8 (by simpa using h9) (by simpa using h10) fun A outer s H E f c' hr => sE a (G.lamb LS hr) (w.lamb hc hr) h7
        · exact bad fun _ _ => by simp only [if_neg hm]
    · cases h
  | .sdc own elt t it, X, W, sc, ow, p, G, w, h => by
    simp only [mE] at h
    split at h
    · rename_i f pe pt pi s2 e
      obtain ⟨q1, j, bp, q, q2, rfl⟩ := asSdc_ok e
      obtain ⟨h1, h⟩ := ba3 h
      obtain ⟨hgl, h⟩ := ba3 h
      obtain ⟨h0, h⟩ := ba3 h
      obtain ⟨_, h⟩ := ba3 h
      obtain ⟨hn, h⟩ := ba3 h
      obtain ⟨h2, h⟩ := ba3 h
      obtain ⟨h3, h⟩ := ba3 h
      obtain ⟨h4, h⟩ := ba3 h
      obtain ⟨h5, h⟩ := ba3 h
      obtain ⟨h6, h7⟩ := ba3 h
      have hf := of_decide_eq_true h1
      subst hf
      have hca := G.calm (by simpa using h0)
      have hown := of_decide_eq_true h3
      have blk : BlkOk X.N X.env.scope s2 (ownP N own) := by
        rw [G.hN, G.sc]; exact blkOk_by h2
      have nd : X.N.Nodup := by rw [G.hN]; exact G.nd
      have ho : ∀ i ∈ tgI t, i ∈ (ownP N own).map (·.2) := fun i hi => by
        rw [hown]
        have := List.all_eq_true.mp h4 i hi
        simpa using this
      have main := s_sdc (X := X) (W := W) (p := q1) (pos := q2) (q := q) (j := j) (bp := bp) (scope := s2) (own := ownP N own) (t := t) (fe := evE wd elt) hca nd (sI it (tg := pt) G w rfl h6) blk ho (G.gl hgl) (G.bn _ (by decide))
        (fun s H C cl fp => (G.blk hca (s2 := s2) s H C cl fp).tg h5)
        (fun s H C cl fp => sE elt (G.blk hca (s2 := s2) s H C cl fp) (w.blk hca s H C cl fp) h7) (nse_ok hn _)
      rw [hown] at main
      exact main
    · cases h
  | .popi a x, X, W, sc, ow, p, G, w, h => by
    simp only [mE] at h
    split at h
    · rename_i pa m px e
      obtain ⟨ap, cp, rfl, hl⟩ := asMeth_ok e
      obtain ⟨h1, h5⟩ := ba3 h
      obtain ⟨h1, h4⟩ := ba3 h1
      obtain ⟨h1, h3⟩ := ba3 h1
      obtain ⟨h1, h2⟩ := ba3 h1
      have hf := of_decide_eq_true h1
      subst hf
      exact s_popi (sE a G w h4) (sE x G w h5) (nab_ok h2 _ _) hl (nst_ok h3)
    · cases h
  | .rev a, X, W, sc, ow, p, G, w, h => by
    simp only [mE] at h
    split at h
    · rename_i pa e
      obtain ⟨k, p1, p2, p3, q, rfl⟩ := asRev_ok e
      exact s_rev (sE a G w h)
    · cases h
  | .idxT a x, X, W, sc, ow, p, G, w, h => by
    simp only [mE] at h
    split at h
    · rename_i pa m px e
      obtain ⟨ap, cp, rfl, hl⟩ := asMeth_ok e
      obtain ⟨h1, h5⟩ := ba3 h
      obtain ⟨h1, h4⟩ := ba3 h1
      obtain ⟨h1, h3⟩ := ba3 h1
      obtain ⟨h1, h2⟩ := ba3 h1
      have hf := of_decide_eq_true h1
      subst hf
      exact s_idxT G.hu (sE a G w h4) (sE x G w h5) (nab_ok h2 _ _) hl (nst_ok h3)
    · cases h
  | .revT a, X, W, sc, ow, p, G, w, h => by
    simp only [mE] at h
    split at h
    · rename_i pa e
      obtain ⟨k, p1, p2, p3, q, rfl⟩ := asRev_ok e
      exact s_revT (sE a G w h)
    · cases h
  | .tupF a, X, W, sc, ow, p, G, w, h => by
    simp only [mE] at h
    split at h
    · rename_i f pa e
      obtain ⟨q, q2, rfl⟩ := asCall_ok e
      obtain ⟨h1, h⟩ := ba3 h
      obtain ⟨h2, h⟩ := ba3 h
      obtain ⟨h3, h4⟩ := ba3 h
      have hf := of_decide_eq_true h1
      subst hf
      exact s_tupF (G.gl h2) (G.bn _ (by decide)) (sE a G w h4) (nst_ok h3)
    · cases h
  | .unf a, X, W, sc, ow, p, G, w, h => by
    simp only [mE] at h
    exact s_unf (sE a G w h)
  | .m1 me a x, X, W, sc, ow, p, G, w, h => by
    simp only [mE] at h
    split at h
    · rename_i pa m px e
      obtain ⟨ap, cp, rfl, hl⟩ := asMeth_ok e
      obtain ⟨h1, h5⟩ := ba3 h
      obtain ⟨h1, h4⟩ := ba3 h1
      obtain ⟨h1, h3⟩ := ba3 h1
      obtain ⟨h1, h2⟩ := ba3 h1
      have hf := of_decide_eq_true h1
      subst hf
      exact s_m1 me (sE a G w h4) (sE x G w h5) (nab_ok h2 _ _) hl (nst_ok h3)
    · cases h
  | .idx a x, X, W, sc, ow, p, G, w, h => by
    simp only [mE] at h
    split at h
    · rename_i pa m px e
      obtain ⟨ap, cp, rfl, hl⟩ := asMeth_ok e
      obtain ⟨h1, h5⟩ := ba3 h
      obtain ⟨h1, h4⟩ := ba3 h1
      obtain ⟨h1, h3⟩ := ba3 h1
      obtain ⟨h1, h2⟩ := ba3 h1
      have hf := of_decide_eq_true h1
      subst hf
      exact s_idx G.hu (sE a G w h4) (sE x G w h5) (nab_ok h2 _ _) hl (nst_ok h3)
    · cases h
  | .ext a x, X, W, sc, ow, p, G, w, h => by
    simp only [mE] at h
    split at h
    · rename_i pa m px e
      obtain ⟨ap, cp, rfl, hl⟩ := asMeth_ok e
      obtain ⟨h1, h5⟩ := ba3 h
      obtain ⟨h1, h4⟩ := ba3 h1
      obtain ⟨h1, h3⟩ := ba3 h1
      obtain ⟨h1, h2⟩ := ba3 h1
      have hf := of_decide_eq_true h1
      subst hf
      exact s_ext (sE a G w h4) (sE x G w h5) (nab_ok h2 _ _) hl (nst_ok h3)
    · cases h
  | .popl a, X, W, sc, ow, p, G, w, h => by
    simp only [mE] at h
    split at h
    · rename_i pa m e
      obtain ⟨ap, cp, rfl, hl⟩ := asMeth_ok e
      obtain ⟨h1, h4⟩ := ba3 h
      obtain ⟨h1, h2⟩ := ba3 h1
      have hf := of_decide_eq_true h1
      subst hf
      exact s_popl (sE a G w h4) (nab_ok h2 _ _) hl
    · cases h
  | .comp own elt t it c, X, W, sc, ow, p, G, w, h => by
    simp only [mE] at h
    split at h
    · rename_i pe pt pi pc s2 e
      obtain ⟨q, rfl⟩ := asComp_ok e
      obtain ⟨h1, h8⟩ := ba3 h
      obtain ⟨h1, h7⟩ := ba3 h1
      obtain ⟨h1, h6⟩ := ba3 h1
      obtain ⟨h1, h5⟩ := ba3 h1
      obtain ⟨h1, h4⟩ := ba3 h1
      obtain ⟨h1, h3⟩ := ba3 h1
      obtain ⟨h1, h2⟩ := ba3 h1
      obtain ⟨h0, h1⟩ := ba3 h1
      obtain ⟨h0, _⟩ := ba3 h0
      have hca := G.calm (by simpa using h0)
      have hown := of_decide_eq_true h3
      have blk : BlkOk X.N X.env.scope s2 (ownP N own) := by
        rw [G.hN, G.sc]; exact blkOk_by h2
      have nd : X.N.Nodup := by rw [G.hN]; exact G.nd
      have ho : ∀ i ∈ tgI t, i ∈ (ownP N own).map (·.2) := fun i hi => by
        rw [hown]
        have := List.all_eq_true.mp h4 i hi
        simpa using this
      have main := s_comp (X := X) (W := W) (pos := q) (scope := s2) (own := ownP N own) (t := t) (ft := evT wd c) (fe := evE wd elt) hca nd (sI it (tg := pt) G w rfl h6) blk ho
        (fun s H C cl fp => (G.blk hca (s2 := s2) s H C cl fp).tg h5)
        (ifs := pc) (fun s H C cl fp => by
          split at h8
          · cases c with
            | yes => exact s_yes
            | _ => cases h8
          · exact pts_one (sT c (G.blk hca (s2 := s2) s H C cl fp) (w.blk hca s H C cl fp) h8).1
          · cases h8)
        (fun s H C cl fp => sE elt (G.blk hca (s2 := s2) s H C cl fp) (w.blk hca s H C cl fp) h7) (nse_ok h1 _)
      rw [hown] at main
      exact main
    · cases h
  | .comp2 own own2 elt t it t2 it2 c, X, W, sc, ow, p, G, w, h => by
    simp only [mE] at h
    split at h
    · rename_i pe pt pi pt2 pi2 pc s2 e
      obtain ⟨q, rfl⟩ := asComp2_ok e
      obtain ⟨h0, h8⟩ := ba3 h
      obtain ⟨h0, h7⟩ := ba3 h0
      obtain ⟨h0, h6⟩ := ba3 h0
      obtain ⟨h0, h5⟩ := ba3 h0
      obtain ⟨h0, h4⟩ := ba3 h0
      obtain ⟨hq, h0⟩ := ba3 h0
      obtain ⟨hq, _⟩ := ba3 hq
      have hca := G.calm (by simpa using hq)
      obtain ⟨h0, h3⟩ := ba3 h0
      obtain ⟨h0, h2⟩ := ba3 h0
      obtain ⟨h0, h1⟩ := ba3 h0
      obtain ⟨h6, h6b⟩ := ba3 h6
      obtain ⟨h5, h5b⟩ := ba3 h5
      obtain ⟨h4, h4c⟩ := ba3 h4
      obtain ⟨h4, h4b⟩ := ba3 h4
      have hown := of_decide_eq_true h3
      have blk : BlkOk X.N X.env.scope s2 (ownP N own) := by
        rw [G.hN, G.sc]; exact blkOk_by h2
      have nd : X.N.Nodup := by rw [G.hN]; exact G.nd
      have hv : ∀ i ∈ own2, i ∈ (ownP N own).map (·.2) := fun i hi => by rw [hown]; exact all_sub h4 i hi
      have ho : ∀ i ∈ tgI t, i ∈ (ownP N own).map (·.2) := fun i hi => by rw [hown]; exact all_sub h4b i hi
      have ho2 : ∀ i ∈ tgI t2, i ∈ own2 := all_sub h4c
      have main := s_comp2 (X := X) (W := W) (pos := q) (scope := s2) (own := ownP N own) (t := t) (t2 := t2) (fi2 := evI wd it2) (ft := evT wd c) (fe := evE wd elt) hca nd (sI it (tg := pt) G w rfl h6) blk (hv) ho ho2
        (fun s H C cl fp => (G.blk hca (s2 := s2) s H C cl fp).tg h5)
        (fun s H C cl fp => sI it2 (G.blk hca (s2 := s2) s H C cl fp) (w.blk hca s H C cl fp) rfl h6b)
        (fun s H C cl fp => (G.blk hca (s2 := s2) s H C cl fp).tg h5b)
        (ifs := pc) (fun s H C cl fp => by
          split at h8
          · cases c with
            | yes => exact s_yes
            | _ => cases h8
          · exact pts_one (sT c (G.blk hca (s2 := s2) s H C cl fp) (w.blk hca s H C cl fp) h8).1
          · cases h8)
        (fun s H C cl fp => sE elt (G.blk hca (s2 := s2) s H C cl fp) (w.blk hca s H C cl fp) h7) (nse_ok h0 _) (fun env => nse_ok h1 env)
      rw [hown] at main
      exact main
    · cases h
  | .fz a, X, W, sc, ow, p, G, w, h => by
    simp only [mE] at h
    exact s_fz (sE a G w h)
  | .fld a f, X, W, sc, ow, p, G, w, h => by
    simp only [mE] at h
    split at h
    · rename_i pa m e
      obtain ⟨q, rfl⟩ := asAttr_ok e
      obtain ⟨h1, h3⟩ := ba3 h
      obtain ⟨h1, h2⟩ := ba3 h1
      have hf := of_decide_eq_true h1
      subst hf
      exact s_fld (sE a G w h3) (nab_ok h2 _ _) w.xa
    · cases h
  | .mk x es, X, W, sc, ow, p, G, w, h => by
    simp only [mE] at h
    split at h
    · rename_i g pa ps e
      obtain ⟨q, q2, rfl⟩ := asCall_ok e
      obtain ⟨h1, h6⟩ := ba3 h
      obtain ⟨h1, h5⟩ := ba3 h1
      obtain ⟨h1, h4⟩ := ba3 h1
      obtain ⟨h1, h3⟩ := ba3 h1
      obtain ⟨h1, h2⟩ := ba3 h1
      have hf := of_decide_eq_true h1
      subst hf
      have hca := G.calm (by simpa using h2)
      rw [List.all_cons, Bool.and_eq_true] at h6
      cases e1 : mKey wd.con x "__init__" with
      | none => 
        refine PE_imp (t := fun _ _ _ => False) ⟨fun _ _ _ _ _ _ h => h.elim⟩ fun σ H Q h => ?_
        obtain ⟨z, e, _, _, _, P⟩ := h
        simp only [evE, e1] at P
        exact P
      | some pp =>
        obtain ⟨C, ns, key⟩ := pp
        obtain ⟨ms, e2, e3⟩ := mKey_inv e1
        have ok := w.cls hca x C ns ms e2
        obtain ⟨hno, fa, fd, prs, hm, hb, F, hl⟩ := ok.meth _ _ e3
        have main := s_mk (pos := q2) (p := q) ok.cls ⟨ok.mks, hm.at_, hm.fn, ok.kp⟩ F (w.room hca) (G.gl h3) (w.clo e2) hb G.tk hl (sA es G w h5) (db_ok h4).1 (nst_ok h6.1) (all_nst h6.2)
        refine PE_imp main fun σ H Q h => ?_
        obtain ⟨z, e, r1, r2, r3, P⟩ := h
        simp only [evE, e1] at P
        exact ⟨z, e, r1, r2, r3, P⟩
    · cases h
  | .cM x m a es, X, W, sc, ow, p, G, w, h => by
    simp only [mE] at h
    split at h
    · rename_i pa n ps e
      obtain ⟨ap, cp, rfl, hl⟩ := asMeth_ok e
      obtain ⟨h1, h7⟩ := ba3 h
      obtain ⟨h1, h6⟩ := ba3 h1
      obtain ⟨h1, h5⟩ := ba3 h1
      obtain ⟨h1, h4⟩ := ba3 h1
      obtain ⟨h1, h3⟩ := ba3 h1
      obtain ⟨h1, h2⟩ := ba3 h1
      have hf := of_decide_eq_true h1
      subst hf
      have hca := G.calm (by simpa using h3)
      have h7 := of_decide_eq_true h7
      cases e1 : mKey wd.con x m with
      | none => 
        refine PE_imp (t := fun _ _ _ => False) ⟨fun _ _ _ _ _ _ h => h.elim⟩ fun σ H Q h => ?_
        obtain ⟨z, e, _, _, _, P⟩ := h
        simp only [evE, e1] at P
        exact P
      | some pp =>
        obtain ⟨C, ns, key⟩ := pp
        obtain ⟨ms, e2, e3⟩ := mKey_inv e1
        have ok := w.cls hca x C ns ms e2
        obtain ⟨hno, M⟩ := ok.meth _ _ e3
        have hr := (w.room hca).mono (Nat.le_succ _)
        have ho := sE a G w h4
        have ha := sA es G w h5
        cases ps with
        | nil =>
          have main := s_cM0 (apos := ap) (pos := cp) ok.cls hno M hr G.tk ho (nab_ok h2 _ _) hl
          refine PE_imp main fun σ H Q h => ?_
          obtain ⟨z, e, r1, r2, r3, P⟩ := h
          cases es with
          | nil =>
            simp only [evE, e1, evA] at P
            exact ⟨z, e, r1, r2, r3, P⟩
          | cons _ _ => simp [mA] at h5
          | star _ _ => simp [mA] at h5
        | cons pb ps =>
          have h6' := h6
          rw [List.all_cons, Bool.and_eq_true] at h6'
          have main := s_cM (apos := ap) (pos := cp) ok.cls hno M hr G.tk ho ha (nab_ok h2 _ _) (by
            rw [all_few h6]
            show (true && true && decide _) = true
            simp only [Bool.true_and, decide_eq_true_eq]
            show (pb :: ps).length + 0 + 0 < 30
            omega) hl (nst_ok h6'.1) (all_nst h6'.2)
          refine PE_imp main fun σ H Q h => ?_
          obtain ⟨z, e, r1, r2, r3, P⟩ := h
          simp only [evE, e1] at P
          exact ⟨z, e, r1, r2, r3, P⟩
    · cases h
theorem sT : ∀ (c : Tx) {X : Cx} {W : WX} {sc ow : Scope} {p : Expr}, Gd X W N sc ow → WdOk X fns wd k → mT fns N sc ow c p = true → PT X p (tT X W (evT wd c)) ∧ ∀ o vs pos, p = .BoolOp o vs pos → PW X p (tT X W (evT wd c))
  | .yes, X, W, sc, ow, p, G, w, h => by
    simp only [mT] at h
    cases h
  | .tst a, X, W, sc, ow, p, G, w, h => by
    simp only [mT] at h
    obtain ⟨h1, h2⟩ := ba3 h
    refine ⟨s_tst (sE a G w h2) (plT_ok h1 _), fun o vs pos e => ?_⟩
    subst e; cases h1
  | .cmp o a b, X, W, sc, ow, p, G, w, h => by
    simp only [mT] at h
    split at h
    · rename_i pa op pb e
      obtain ⟨q, rfl⟩ := asCmp1_ok e
      obtain ⟨h1, h4⟩ := ba3 h
      obtain ⟨h1, h3⟩ := ba3 h1
      obtain ⟨h1, h2⟩ := ba3 h1
      have ho := of_decide_eq_true h1
      subst ho
      exact ⟨s_cmpT o G.hu (sE a G w h2) (sE b G w h3) (by simpa using h4), fun _ _ _ e => by cases e⟩
    · cases h
  | .chn o o' a b c, X, W, sc, ow, p, G, w, h => by
    simp only [mT] at h
    split at h
    · rename_i pa op oq pb pc e
      obtain ⟨q, rfl⟩ := asCmp2_ok e
      obtain ⟨h1, h6⟩ := ba3 h
      obtain ⟨h1, h5⟩ := ba3 h1
      obtain ⟨h1, h4⟩ := ba3 h1
      obtain ⟨h1, h3⟩ := ba3 h1
      obtain ⟨h1, h2⟩ := ba3 h1
      have ho := of_decide_eq_true h1
      have ho' := of_decide_eq_true h2
      subst ho ho'
      exact ⟨s_chnT (op_co o G.hu) (op_co o' G.hu) (sE a G w h3) (sE b G w h4) (sE c G w h5) (by simpa using h6), fun _ _ _ e => by cases e⟩
    · cases h
  | .ife c a b, X, W, sc, ow, p, G, w, h => by
    simp only [mT] at h
    split at h
    · rename_i pc pa pb e
      obtain ⟨q, rfl⟩ := asIf_ok e
      obtain ⟨h1, h3⟩ := ba3 h
      obtain ⟨h1, h2⟩ := ba3 h1
      exact ⟨s_ifeT (sT c G w h1).1 (sT a G w h2).1 (sT b G w h3).1, fun _ _ _ e => by cases e⟩
    · cases h
  | .nt a, X, W, sc, ow, p, G, w, h => by
    simp only [mT] at h
    split at h
    · rename_i pa e
      obtain ⟨q, rfl⟩ := asUn_ok e
      exact ⟨s_ntT (sT a G w h).1, fun _ _ _ e => by cases e⟩
    · cases h
  | .and a b, X, W, sc, ow, p, G, w, h => by
    simp only [mT] at h
    split at h
    · rename_i pa pb l e
      obtain ⟨x, r, q, rfl, hr⟩ := asBool_ok e
      obtain ⟨h1, h2⟩ := ba3 h
      obtain ⟨b1, b2⟩ := sT b G w h2
      have hb : PW X (.BoolOp .And (x :: r) q) (tT X W (evT wd b)) := by
        rcases hr with ⟨rfl, rfl⟩ | ⟨_, rfl⟩
        · exact pw_and1 b1
        · exact b2 _ _ _ rfl
      have := s_andT (sT a G w h1).1 hb
      exact ⟨this.pt, fun _ _ _ _ => this⟩
    · cases h
  | .or a b, X, W, sc, ow, p, G, w, h => by
    simp only [mT] at h
    split at h
    · rename_i pa pb l e
      obtain ⟨x, r, q, rfl, hr⟩ := asBool_ok e
      obtain ⟨h1, h2⟩ := ba3 h
      obtain ⟨b1, b2⟩ := sT b G w h2
      have hb : PW X (.BoolOp .Or (x :: r) q) (tT X W (evT wd b)) := by
        rcases hr with ⟨rfl, rfl⟩ | ⟨_, rfl⟩
        · exact pw_or1 b1
        · exact b2 _ _ _ rfl
      have := s_orT (sT a G w h1).1 hb
      exact ⟨this.pt, fun _ _ _ _ => this⟩
    · cases h
theorem sA : ∀ (es : Exs) {X : Cx} {W : WX} {sc ow : Scope} {ps : List Expr}, Gd X W N sc ow → WdOk X fns wd k → mA fns N sc ow es ps = true → PA X ps (tA X W (evA wd es))
  | .nil, X, W, sc, ow, ps, G, w, h => by
    cases ps with
    | nil => exact s_nil
    | cons p ps => simp [mA] at h
  | .cons e es, X, W, sc, ow, ps, G, w, h => by
    cases ps with
    | nil => simp [mA] at h
    | cons p ps =>
      simp only [mA] at h
      obtain ⟨h1, h3⟩ := ba3 h
      obtain ⟨h1, h2⟩ := ba3 h1
      exact s_cons (sE e G w h2) (sA es G w h3) (nst_ok h1)
  | .star e es, X, W, sc, ow, ps, G, w, h => by
    cases ps with
    | nil => simp [mA] at h
    | cons p ps =>
      simp only [mA] at h
      split at h
      · rename_i q e1
        obtain ⟨pp, rfl⟩ := asStar_ok e1
        obtain ⟨h1, h2⟩ := ba3 h
        exact s_star (sE e G w h1) (sA es G w h2)
      · cases h
theorem sO : ∀ (o : Eo) {X : Cx} {W : WX} {sc ow : Scope} {p : Option Expr}, Gd X W N sc ow → WdOk X fns wd k → mO fns N sc ow o p = true → PO X p (tO X W (evO wd o))
  | .no, X, W, sc, ow, p, G, w, h => by
    cases p with
    | none => exact s_no
    | some p => simp [mO] at h
  | .so e, X, W, sc, ow, p, G, w, h => by
    cases p with
    | none => simp [mO] at h
    | some p =>
      simp only [mO] at h
      exact s_so (sE e G w h)
theorem sI : ∀ (it : It) {X : Cx} {W : WX} {sc ow : Scope} {p tg : Expr} {tt : Bool}, Gd X W N sc ow → WdOk X fns wd k → isTup tg = tt → mI fns N sc ow tt it p = true → PI X tg p (tI X W (evI wd it))
  | .seq e, X, W, sc, ow, p, tg, tt, G, w, ht, h => by
    simp only [mI] at h
    exact s_seq (sE e G w h)
  | .rng e, X, W, sc, ow, p, tg, tt, G, w, ht, h => by
    simp only [mI] at h
    split at h
    · rename_i f pa e1
      obtain ⟨q, q2, rfl⟩ := asCall_ok e1
      obtain ⟨h1, h4⟩ := ba3 h
      obtain ⟨h1, h3⟩ := ba3 h1
      obtain ⟨h1, h2⟩ := ba3 h1
      have hf := of_decide_eq_true h1
      subst hf
      exact s_rng (sE e G w h4) (G.gl h2) (G.bn _ (by decide)) (nst_ok h3)
    · cases h
  | .rng2 a b, X, W, sc, ow, p, tg, tt, G, w, ht, h => by
    simp only [mI] at h
    split at h
    · rename_i f pa pb e1
      obtain ⟨q, q2, rfl⟩ := asCall_ok e1
      obtain ⟨h1, h6⟩ := ba3 h
      obtain ⟨h1, h5⟩ := ba3 h1
      obtain ⟨h1, h4⟩ := ba3 h1
      obtain ⟨h1, h3⟩ := ba3 h1
      obtain ⟨h1, h2⟩ := ba3 h1
      have hf := of_decide_eq_true h1
      subst hf
      exact s_rng2 (sE a G w h5) (sE b G w h6) (G.gl h2) (G.bn _ (by decide)) (by rw [nst_ok h3, nst_ok h4]; rfl) (nst_ok h4)
    · cases h
  | .enu es, X, W, sc, ow, p, tg, tt, G, w, ht, h => by
    simp only [mI] at h
    split at h
    · rename_i f pa e1
      obtain ⟨q, q2, rfl⟩ := asCall_ok e1
      obtain ⟨h1, h5⟩ := ba3 h
      obtain ⟨h1, h4⟩ := ba3 h1
      obtain ⟨h1, h3⟩ := ba3 h1
      obtain ⟨h1, h2⟩ := ba3 h1
      subst h1
      have hf := of_decide_eq_true h2
      subst hf
      obtain ⟨elts, kk, tpos, rfl⟩ := isTup_ok ht
      exact s_enu (sA es G w h5) (G.gl h3) (G.bn _ (by decide)) (nst_ok h4)
    · cases h
  | .zip es, X, W, sc, ow, p, tg, tt, G, w, ht, h => by
    simp only [mI] at h
    split at h
    · rename_i f pa pb e1
      obtain ⟨q, q2, rfl⟩ := asCall_ok e1
      obtain ⟨h1, h6⟩ := ba3 h
      obtain ⟨h1, h5⟩ := ba3 h1
      obtain ⟨h1, h4⟩ := ba3 h1
      obtain ⟨h1, h3⟩ := ba3 h1
      obtain ⟨h1, h2⟩ := ba3 h1
      subst h1
      have hf := of_decide_eq_true h2
      subst hf
      obtain ⟨elts, kk, tpos, rfl⟩ := isTup_ok ht
      exact s_zip (sA es G w h6) (G.gl h3) (G.bn _ (by decide)) (nst_ok h4) (by rw [nst_ok h5]; rfl)
    · cases h
end
end
end PyI

set_option maxRecDepth 100000
set_option maxHeartbeats 4000000
namespace PyI
open PySem PySem.Spec PyProof.Rows L2
/-! ## statements -/
def tS (X : Cx) (W : WX) (f : Env → Store → Rs Fl) : TS := fun Dn σ H => ∃ z e, z.H = H ∧ StOk X.K z ∧ EnvOk X.K z e σ ∧ Post X.K X.mg W z (f e z.S) fun fl z1 => match fl with
  | .nx e' => ∀ σ', EnvOk X.K z1 e' σ' → Dn.nx σ' z1.H
  | .ct e' => ∀ σ', EnvOk X.K z1 e' σ' → Dn.ct σ' z1.H
  | .bk e' => ∀ σ', EnvOk X.K z1 e' σ' → Dn.bk σ' z1.H
  | .rt d => ∀ v, Rep X.K z1 d v → Dn.rt v z1.H
section
variable {X : Cx} {W : WX} {pos : Pos} {pa pb pc tg : Expr} {fa fb fc : Env → Store → Rs D} {ta : Env → Store → Rs Bool} {ss : List Stmt} {s : Stmt} {gs hs : Env → Store → Rs Fl}
theorem PS_imp {st : Stmt} {t t' : TS} (h : PS X st t) (f : ∀ D σ H, t' D σ H → t D σ H) : PS X st t' := ⟨fun pins s σ H D I q => h.run pins s σ H D I (f _ _ _ q)⟩
theorem PSs_imp {st : List Stmt} {t t' : TS} (h : PSs X st t) (f : ∀ D σ H, t' D σ H → t D σ H) : PSs X st t' := ⟨fun pins s σ H D I q => h.run pins s σ H D I (f _ _ _ q)⟩
theorem s_snil : PSs X [] (tS X W fun e S => .ok (.nx e) S) :=
  PSs_imp pss_nil fun D σ H h => by
    obtain ⟨z, e, rfl, hs, he, P⟩ := h
    exact Post.val P hs σ he
theorem s_scons (h1 : PS X s (tS X W gs)) (h2 : PSs X ss (tS X W hs)) : PSs X (s :: ss) (tS X W fun e S => (gs e S).bind fun fl S => match fl with
    | .nx e' => hs e' S
    | f => .ok f S) :=
  PSs_imp (pss_cons h1 h2) fun D σ H h => by
    obtain ⟨z, e, rfl, hs, he, P⟩ := h
    refine ⟨z, e, rfl, hs, he, P.bind.imp fun fl z1 x1 s1 P1 => ?_⟩
    cases fl with
    | nx e' => exact fun σ' he' => ⟨z1, e', rfl, s1, he', P1⟩
    | ct e' => exact Post.val P1 s1
    | bk e' => exact Post.val P1 s1
    | rt d => exact Post.val P1 s1
theorem asg_core {t : Tg} {D : Ends} {σ : L2.St} {H : Hp} (h : tS X W (fun e S => (fa e S).bind fun d S => (optR (setT e t d) S).bind fun e' S => .ok (.nx e') S) D σ H) : tAsg (tE X W fa) (tG X t) D σ H := by
  obtain ⟨z, e, rfl, hs, he, P⟩ := h
  refine ⟨z, e, rfl, hs, he, P.bind.imp fun d z1 x1 s1 P1 v rv => ?_⟩
  obtain ⟨e', e1, P2⟩ := P1.bind.opt s1
  exact ⟨z1, e, d, e', rfl, s1, he.mono x1, rv, e1, fun σ' he' _ => Post.val P2 s1 σ' he'⟩
/-- target = e -/
theorem s_asg {t : Tg} (ha : PE X pa (tE X W fa)) (hg : PG X tg (tG X t)) (hsw : swapsWithSole [tg] pa pos.line X.env = pure false) (hw : swappedStores [tg] pa X.env = pure none)
    (h1 : (assignEach [tg] X.env).map (·.2) = [assign tg X.env]) : PS X (.Assign [tg] pa pos) (tS X W fun e S => (fa e S).bind fun d S => (optR (setT e t d) S).bind fun e' S => .ok (.nx e') S) :=
  PS_imp (ps_asg ha hg hsw hw h1) fun D σ H h => asg_core h
theorem s_asgComp {i : Nat} {y : Str} {py : Pos} (h : PS X (.Assign [.Name y py] pa pos) (tAsg (tE X W fa) (gName i))) : PS X (.Assign [.Name y py] pa pos) (tS X W fun e S => (fa e S).bind fun d S => (optR (setT e (.nm i) d) S).bind fun e' S => .ok (.nx e') S) :=
  PS_imp h fun D σ H h => by
    obtain ⟨z, e, rfl, hs, he, P⟩ := h
    refine ⟨z, e, rfl, hs, he, P.bind.imp fun d z1 x1 s1 P1 v rv => ?_⟩
    exact Post.val P1 s1 _ ((he.mono x1).set i rv)
theorem s_par {i j : Nat} {x y : Str} {px py pt : Pos} {kt k2 : Nat} {pt2 : Pos} (hc : X.calm = true) (hN : X.N.Nodup) (hi : X.N[i]? = some x) (hj : X.N[j]? = some y) (hij : i ≠ j)
    (hx : X.env.scope.names.lookup x = some .local) (hy : X.env.scope.names.lookup y = some .local) (ha : PE X pa (tE X W fa)) (hb : PE X pb (tE X W fb)) (n1 : nst pa = true) (n2 : nst pb = true)
    (hw : swappedStores [.Tuple [.Name x px, .Name y py] kt pt] (.Tuple [pa, pb] k2 pt2) X.env = pure (some [x, y])) :
    PS X (.Assign [.Tuple [.Name x px, .Name y py] kt pt] (.Tuple [pa, pb] k2 pt2) pos) (tS X W fun e S => (fa e S).bind fun x S => (fb e S).bind fun y S => .ok (.nx ((e.set i (some x)).set j (some y))) S) :=
  PS_imp (ps_par hc hN hi hj hij hx hy (pa_cons ha (pa_cons hb pa_nil (nst_ok n2)) (nst_ok n1)) hw rfl) fun D σ H h => by
    obtain ⟨z, e, rfl, hs, he, P⟩ := h
    refine ⟨z, e, rfl, hs, he, P.bind.imp fun d z1 x1 s1 P1 v rv => ⟨z1, e, rfl, s1, he.mono x1, P1.bind.imp fun d2 z2 x2 s2 P2 u ru => ?_⟩⟩
    exact ⟨v, u, rfl, Post.val P2 s2 _ ((((he.mono x1).mono x2).set i (rv.mono x2)).set j ru)⟩
theorem s_par3 {i j l : Nat} {x y w : Str} {px py pz pt : Pos} {kt k2 : Nat} {pt2 : Pos} (hc : X.calm = true) (hN : X.N.Nodup) (hi : X.N[i]? = some x) (hj : X.N[j]? = some y) (hl : X.N[l]? = some w) (hij : i ≠ j) (hil : i ≠ l) (hjl : j ≠ l)
    (hx : X.env.scope.names.lookup x = some .local) (hy : X.env.scope.names.lookup y = some .local) (hz : X.env.scope.names.lookup w = some .local) (ha : PE X pa (tE X W fa)) (hb : PE X pb (tE X W fb)) (hcc : PE X pc (tE X W fc)) (n1 : nst pa = true) (n2 : nst pb = true) (n3 : nst pc = true)
    (hw : swappedStores [.Tuple [.Name x px, .Name y py, .Name w pz] kt pt] (.Tuple [pa, pb, pc] k2 pt2) X.env = pure (some [x, y, w])) :
    PS X (.Assign [.Tuple [.Name x px, .Name y py, .Name w pz] kt pt] (.Tuple [pa, pb, pc] k2 pt2) pos) (tS X W fun e S => (fa e S).bind fun x S => (fb e S).bind fun y S => (fc e S).bind fun z S => .ok (.nx (((e.set i (some x)).set j (some y)).set l (some z))) S) :=
  PS_imp (ps_par3 hc hN hi hj hl hij hil hjl hx hy hz (pa_cons ha (pa_cons hb (pa_cons hcc pa_nil (nst_ok n3)) (nst_ok n2)) (nst_ok n1)) hw rfl) fun D σ H h => by
    obtain ⟨z, e, rfl, hs, he, P⟩ := h
    refine ⟨z, e, rfl, hs, he, P.bind.imp fun d z1 x1 s1 P1 v rv => ⟨z1, e, rfl, s1, he.mono x1, P1.bind.imp fun d2 z2 x2 s2 P2 u ru => ⟨z2, e, rfl, s2, (he.mono x1).mono x2, P2.bind.imp fun d3 z3 x3 s3 P3 u3 ru3 => ?_⟩⟩⟩
    exact ⟨v, u, u3, rfl, Post.val P3 s3 _ ((((((he.mono x1).mono x2).mono x3).set i ((rv.mono x2).mono x3)).set j (ru.mono x3)).set l ru3)⟩
/-! ### x op= e -/
theorem op_aug (o : BO) : OpR X (inplaceOp (boOf o)) (rD X (augop o)) := by
  intro pins s σ H v u v' u' Q I rv ru h
  obtain ⟨z, x, y, d, rfl, hs, hx, hy, hg, q⟩ := h
  have q0 : ∀ w, Rep X.K z d w → Q w z.H := fun w r => q w z rfl (Ext.refl z) hs r
  unfold augop at hg
  split at hg
  · rename_i i j
    split at hg
    · cases hg
      exact iop_add pins s σ _ _ _ _ _ Q I rv ru ⟨_, _, hx.int_inv, hy.int_inv, q0 _ .int_⟩
    · cases hg
      exact iop_sub pins s σ _ _ _ _ _ Q I rv ru ⟨_, _, hx.int_inv, hy.int_inv, q0 _ .int_⟩
    · split at hg
      · rename_i hz
        cases hg
        exact iop_mul pins s σ _ _ _ _ _ Q I rv ru ⟨_, _, hx.int_inv, hy.int_inv, hz.imp nat_abs_64 nat_abs_64, q0 _ .int_⟩
      · cases hg
    · split at hg
      · rename_i hz
        cases hg
        exact iop_shr pins s σ _ _ _ _ _ Q I rv ru ⟨_, _, hx.int_inv, hy.int_inv, hz, q0 _ .int_⟩
      · cases hg
    · cases hg
  · split at hg
    · rename_i hz
      cases hg
      exact iop_add_str pins s σ _ _ _ _ _ Q I rv ru ⟨_, _, hx.str_inv, hy.str_inv, sz_le.mp hz, q0 _ .str_⟩
    · cases hg
  · cases hg
theorem rD_of {g : D → D → Option D} {z : Zw} {x y : D} {v u : V} {Q : D → Zw → Prop} {Q' : VK} (s : StOk X.K z) (rv : Rep X.K z x v) (ru : Rep X.K z y u) (P : Post X.K X.mg W z (optR (g x y) z.S) Q) (k : ∀ d z1 w, Ext z z1 → StOk X.K z1 → z1.S = z.S → Rep X.K z1 d w → Q d z1 → Q' w z1.H) :
    rD X g v u z.H Q' := by
  cases e : g x y with
  | none => rw [e] at P; exact P.elim
  | some d => rw [e] at P; exact ⟨z, x, y, d, rfl, s, rv, ru, e, fun w z1 h1 h2 h3 h4 => k d z1 w h2 h3 h1 h4 (P z1 h1 h2 h3)⟩
theorem s_aug {i : Nat} {x : Str} {o : BO} {px : Pos} (hN : X.N.Nodup) (st : Sto X i x) (ha : PE X pa (tE X W fa)) :
    PS X (.AugAssign (.Name x px) (boOf o) pa pos) (tS X W fun e S => match e[i]? with
    | some (some d) => (fa e S).bind fun y S => (optR (augop o d y) S).bind fun z S => .ok (.nx (e.set i (some z))) S
    | _ => .bad) :=
  PS_imp (ps_aug hN st.1 st.2.1 ha (op_aug o) st.2.2) fun D σ H h => by
    obtain ⟨z, e, rfl, hs, he, P⟩ := h
    cases q : e[i]? with
    | none => simp only [q] at P; exact P.elim
    | some oo =>
      cases oo with
      | none => simp only [q] at P; exact P.elim
      | some d =>
        simp only [q] at P
        obtain ⟨v, h1, h2⟩ := he.at_ i d q
        refine ⟨v, h1, z, e, rfl, hs, he, P.bind.imp fun y z1 x1 s1 P1 u ru => ?_⟩
        exact rD_of s1 (h2.mono x1) ru P1.bind fun d2 z2 w x2 s2 _ rw_ P2 => Post.val P2 s2 _ (((he.mono x1).mono x2).set i rw_)
/-! ### a[i] = e -/
theorem s_sto {tpos : Pos} (hx : PE X pc (tE X W fc)) (ha : PE X pa (tE X W fa)) (hb : PE X pb (tE X W fb)) (hsl : nsl pb = true) :
    PS X (.Assign [.Subscript pa pb tpos] pc pos) (tS X W fun e S => (fc e S).bind fun v S => (fa e S).bind fun o S => (fb e S).bind fun y S => match o, y with
    | .obj r, .int k => match S[r]? with
      | some (.lst ds) => match place ds.length k with
        | some j => .ok (.nx e) (S.set r (.lst (ds.set j v)))
        | none => .bad
      | _ => .bad
    | _, _ => .bad) :=
  PS_imp (ps_asg hx (pg_sub ha hb set_list (by intro v; cases pb <;> first | rfl | cases hsl)) (by cases pc <;> rfl) (by cases pc <;> rfl) (by rfl)) fun D σ H h => by
    obtain ⟨z, e, rfl, hs, he, P⟩ := h
    refine ⟨z, e, rfl, hs, he, P.bind.imp fun v z1 x1 s1 P1 vv rv => ⟨z1, e, rfl, s1, he.mono x1, P1.bind.imp fun o z2 x2 s2 P2 ov ro => ⟨z2, e, rfl, s2, (he.mono x1).mono x2, P2.bind.imp fun y z3 x3 s3 P3 yv ry => ?_⟩⟩⟩
    cases o with
    | obj r =>
      cases y with
      | int k =>
        cases q : z3.S[r]? with
        | none => simp only [q] at P3; exact P3.elim
        | some mo =>
          cases mo with
          | lst ds =>
            simp only [q] at P3
            cases q2 : place ds.length k with
            | none => simp only [q2] at P3; exact P3.elim
            | some j =>
              simp only [q2] at P3
              obtain ⟨a, xs, e2, h1, h2, h3, h4⟩ := obj_inv s3 (ro.mono x3) q
              obtain ⟨x4, s4⟩ := set_ob (ds := ds.set j v) (xs := xs.set j vv) s3 q h1 (by simpa using h3) (h4.set j ((rv.mono x2).mono x3))
              exact ⟨a, xs, k, j, e2, ry.int_inv, h2, by rw [← h4.length]; exact q2, P3 _ rfl x4 s4 _ ((((he.mono x1).mono x2).mono x3).mono x4)⟩
          | _ => simp only [q] at P3; exact P3.elim
      | _ => exact P3.elim
    | _ => exact P3.elim
theorem augStore_ok {i : Expr} (h : nsl i = true) : ∀ ov iv new, augStore i ov iv new = (do holding [new, ov, iv] (setItem ov iv new); release [new, ov, iv] []; pure .next) := by
  intro ov iv new
  cases i <;> first | rfl | cases h
theorem get_list : PGet X (rIxL X.K) := by
  intro pins s σ H x y v u Q I rx ry h
  obtain ⟨p, xs, i, z, rfl, rfl, hq, he, q⟩ := h
  cases rx
  obtain ⟨t, rfl⟩ := ry
  obtain ⟨its, r, pl, hz⟩ := I.list hq
  obtain ⟨j, h1, h2, h3, h4, h5⟩ := atI_get he
  obtain ⟨w, ew, rw'⟩ := r.get h2
  have hl := r.length
  have hn := line63
  have fin : EP X pins σ Q w s := ⟨z, H, I, rw', q⟩
  by_cases h0 : 0 ≤ i
  · have hj : i.toNat = j := by
      rw [seqIndex_of h0 h5] at h1
      exact Option.some.inj h1
    exact wpAny_getItem_list pl.isList h0 (by omega) (by rw [hj]; simpa using ew) fin
  · have hj : (i + (its.toArray.size : Int)).toNat = j := by
      rw [seqIndex_neg (by omega) h4] at h1
      rw [List.size_toArray, ← hl]
      exact Option.some.inj h1
    exact wpAny_getItem_list_neg pl.isList (by omega) (by rw [List.size_toArray] <;> omega) (by omega) (by rw [hj]; simpa using ew) fin
theorem s_augs {o : BO} {tpos : Pos} (ha : PE X pa (tE X W fa)) (hb : PE X pb (tE X W fb)) (hx : PE X pc (tE X W fc)) (hsl : nsl pb = true) :
    PS X (.AugAssign (.Subscript pa pb tpos) (boOf o) pc pos) (tS X W fun e S => (fa e S).bind fun ob S => (fb e S).bind fun y S => match ob, y with
    | .obj r, .int k => match S[r]? with
      | some (.lst ds) => match atI ds k with
        | some old => (fc e S).bind fun v S => (optR (augop o old v) S).bind fun z S => match S[r]? with
          | some (.lst ds) => match place ds.length k with
            | some j => .ok (.nx e) (S.set r (.lst (ds.set j z)))
            | none => .bad
          | _ => .bad
        | none => .bad
      | _ => .bad
    | _, _ => .bad) :=
  PS_imp (ps_augS ha hb get_list hx (op_aug o) set_list (augStore_ok hsl)) fun D σ H h => by
    obtain ⟨z, e, rfl, hs, he, P⟩ := h
    refine ⟨z, e, rfl, hs, he, P.bind.imp fun ob z1 x1 s1 P1 ov ro => ⟨z1, e, rfl, s1, he.mono x1, P1.bind.imp fun y z2 x2 s2 P2 yv ry => ?_⟩⟩
    have he2 := (he.mono x1).mono x2
    cases ob with
    | obj r =>
      cases y with
      | int k =>
        cases q : z2.S[r]? with
        | none => simp only [q] at P2; exact P2.elim
        | some mo =>
          cases mo with
          | lst ds =>
            simp only [q] at P2
            cases q2 : atI ds k with
            | none => simp only [q2] at P2; exact P2.elim
            | some old =>
              simp only [q2] at P2
              have ro2 := ro.mono x2
              obtain ⟨a, xs, e2, h1, h2, h3, h4⟩ := obj_inv s2 ro2 q
              obtain ⟨w, h5, h6⟩ := h4.atI q2
              refine ⟨a, xs, k, w, e2, ry.int_inv, .of h2, h5, z2, e, rfl, s2, he2, P2.bind.imp fun v z3 x3 s3 P3 vv rv => ?_⟩
              refine rD_of s3 (h6.mono x3) rv P3.bind fun d2 z4 w4 x4 s4 _ rw_ P4 => ?_
              cases q3 : z4.S[r]? with
              | none => simp only [q3] at P4; exact P4.elim
              | some mo =>
                cases mo with
                | lst ds' =>
                  simp only [q3] at P4
                  cases q4 : place ds'.length k with
                  | none => simp only [q4] at P4; exact P4.elim
                  | some j =>
                    simp only [q4] at P4
                    obtain ⟨a', xs', e2', h1', h2', h3', h4'⟩ := obj_inv s4 ((ro2.mono x3).mono x4) q3
                    obtain ⟨x5, s5⟩ := set_ob (ds := ds'.set j d2) (xs := xs'.set j w4) s4 q3 h1' (by simpa using h3') (h4'.set j rw_)
                    exact ⟨a', xs', k, j, e2', ry.int_inv, h2', by rw [← h4'.length]; exact q4, P4 _ rfl x5 s5 _ (((he2.mono x3).mono x4).mono x5)⟩
                | _ => simp only [q3] at P4; exact P4.elim
          | _ => simp only [q] at P2; exact P2.elim
      | _ => exact P2.elim
    | _ => exact P2.elim
/-! ### small ones -/
theorem s_exp (ha : PE X pa (tE X W fa)) (hs : swapsWith pa none pos.line X.env = pure false) : PS X (.Expr pa pos) (tS X W fun e S => (fa e S).bind fun _ S => .ok (.nx e) S) :=
  PS_imp (ps_expr ha hs) fun D σ H h => by
    obtain ⟨z, e, rfl, hs, he, P⟩ := h
    exact ⟨z, e, rfl, hs, he, P.bind.imp fun d z1 x1 s1 P1 v rv => Post.val P1 s1 σ (he.mono x1)⟩
theorem s_ret (ha : PE X pa (tE X W fa)) : PS X (.Return (some pa) pos) (tS X W fun e S => (fa e S).bind fun d S => .ok (.rt d) S) :=
  PS_imp (ps_ret ha) fun D σ H h => by
    obtain ⟨z, e, rfl, hs, he, P⟩ := h
    exact ⟨z, e, rfl, hs, he, P.bind.imp fun d z1 x1 s1 P1 v rv => Post.val P1 s1 v rv⟩
theorem s_ret0 : PS X (.Return none pos) (tS X W fun _ S => .ok (.rt .non) S) :=
  PS_imp ps_retN fun D σ H h => by
    obtain ⟨z, e, rfl, hs, he, P⟩ := h
    exact Post.val P hs .non .non_
theorem s_pas : PS X (.Pass pos) (tS X W fun e S => .ok (.nx e) S) :=
  PS_imp ps_pass fun D σ H h => by
    obtain ⟨z, e, rfl, hs, he, P⟩ := h
    exact Post.val P hs σ he
theorem s_brk : PS X (.Break pos) (tS X W fun e S => .ok (.bk e) S) :=
  PS_imp ps_break fun D σ H h => by
    obtain ⟨z, e, rfl, hs, he, P⟩ := h
    exact Post.val P hs σ he
theorem s_cnt : PS X (.Continue pos) (tS X W fun e S => .ok (.ct e) S) :=
  PS_imp ps_continue fun D σ H h => by
    obtain ⟨z, e, rfl, hs, he, P⟩ := h
    exact Post.val P hs σ he
theorem s_ifs {a b : List Stmt} (hc : PT X pa (tT X W ta)) (ha : PSs X a (tS X W gs)) (hb : PSs X b (tS X W hs)) : PS X (.If pa a b pos) (tS X W fun e S => (ta e S).bind fun t S => if t then gs e S else hs e S) :=
  PS_imp (ps_if hc ha hb) fun D σ H h => by
    obtain ⟨z, e, rfl, hs, he, P⟩ := h
    refine ⟨z, e, rfl, hs, he, P.bind.imp fun t z1 x1 s1 P1 => ?_⟩
    cases t with
    | true => rw [if_pos rfl] at P1 ⊢; exact ⟨z1, e, rfl, s1, he.mono x1, P1⟩
    | false => rw [if_neg Bool.false_ne_true] at P1 ⊢; exact ⟨z1, e, rfl, s1, he.mono x1, P1⟩
/-! ### loops -/
theorem s_for {iter : Expr} {t : Tg} {fi : Env → Store → Rs Src} (hp : PassesOwn (model X.prog X.w) X.A X.env X.xe) (hc : X.calm = true) (hi : PI X tg iter (tI X W fi)) (hg : PG X tg (tG X t)) (hb : PSs X ss (tS X W gs)) (hs : ∀ x, foldedSetIterable iter X.env x = pure x) :
    PS X (.For tg iter ss [] pos) (tS X W fun e S => (fi e S).bind fun s S => forF (fun S => srcOk S s) (fun x e S => match setT e t x with
      | some e' => gs e' S
      | none => .bad) s.1 e S) :=
  PS_imp (ps_for hp hc hi hg hb hs) fun D σ H h => by
    obtain ⟨z, e, rfl, hs, he, P⟩ := h
    refine ⟨z, e, rfl, hs, he, P.bind.imp fun s z1 x1 s1 P1 J IO => ?_⟩
    let Qf : Fl → Zw → Prop := fun fl z1 => match fl with
      | .nx e' => ∀ σ', EnvOk X.K z1 e' σ' → D.nx σ' z1.H
      | .ct e' => ∀ σ', EnvOk X.K z1 e' σ' → D.ct σ' z1.H
      | .bk e' => ∀ σ', EnvOk X.K z1 e' σ' → D.bk σ' z1.H
      | .rt d => ∀ v, Rep X.K z1 d v → D.rt v z1.H
    let F : PyI.D → Env → Store → Rs Fl := fun x e S => match setT e t x with
      | some e' => gs e' S
      | none => .bad
    let Pv : Nat → L2.St → Hp → Prop := fun i σ H => ∃ zi ei, zi.H = H ∧ Ext z1 zi ∧ StOk X.K zi ∧ EnvOk X.K zi ei σ ∧ Post X.K X.mg W zi (forF (fun S => srcOk S s) F (s.1.drop i) ei zi.S) Qf
    refine ⟨fun i m σ H => m = s.1.length - i ∧ i ≤ s.1.length ∧ Pv i σ H, ⟨s.1.length, by simp, Nat.zero_le _, z1, e, rfl, Ext.refl _, s1, he.mono x1, by simpa using P1⟩, ?_⟩
    rintro i m σi H ⟨rfl, hi, zi, ei, rfl, xi, si, hei, Pi⟩
    have IO' := IO.mono xi.ex0
    by_cases hlt : i < s.1.length
    · right
      obtain ⟨d, hd⟩ : ∃ d, s.1[i]? = some d := ⟨_, List.getElem?_eq_getElem hlt⟩
      have hdr : s.1.drop i = d :: s.1.drop (i + 1) := by
        rw [List.drop_eq_getElem_cons hlt]
        rw [List.getElem?_eq_getElem hlt] at hd; cases hd; rfl
      rw [hdr] at Pi
      unfold forF at Pi
      cases hch : srcOk zi.S s with
      | false => simp only [hch] at Pi; exact Pi.elim
      | true =>
        simp only [hch, if_true] at Pi
        refine ⟨IO'.goes zi i (Ex0.refl _) si hch hlt, Pv (i + 1), fun σ' H' h' => ⟨_, by omega, rfl, hlt, h'⟩, fun x H' y => ?_⟩
        obtain ⟨z2, d2, rfl, e2, x2, s2, hd2, r2⟩ := IO'.yields zi i x H' (Ex0.refl _) si hch hlt y
        rw [hd] at hd2; cases hd2
        rw [← e2] at Pi
        have Pi := Post.rebase x2 Pi
        have F1 : F d ei z2.S = (match setT ei t d with | some e' => gs e' z2.S | none => .bad) := rfl
        rw [F1] at Pi
        cases q : setT ei t d with
        | none => simp only [q] at Pi; exact Pi.elim
        | some e' =>
          simp only [q] at Pi
          refine ⟨z2, ei, d, e', rfl, s2, hei.mono x2, r2, q, fun σ2 he3 _ => ⟨z2, e', rfl, s2, he3, Pi.bind.imp fun fl z3 x3 s3 P3 => ?_⟩⟩
          have xx := (xi.trans x2).trans x3
          cases fl with
          | nx e4 => exact fun σ4 he4 => ⟨z3, e4, rfl, xx, s3, he4, P3⟩
          | ct e4 => exact fun σ4 he4 => ⟨z3, e4, rfl, xx, s3, he4, P3⟩
          | bk e4 => exact fun σ4 he4 => Post.val P3 s3 σ4 he4
          | rt d4 => exact fun v rv => Post.val P3 s3 v rv
    · left
      have hin : i = s.1.length := by omega
      subst hin
      rw [List.drop_length] at Pi
      unfold forF at Pi
      cases hch : srcOk zi.S s with
      | false => simp only [hch] at Pi; exact Pi.elim
      | true =>
        simp only [hch, if_true] at Pi
        exact ⟨IO'.stops zi (Ex0.refl _) si hch, Post.val Pi si σi hei⟩
theorem s_whl (hp : PassesOwn (model X.prog X.w) X.A X.env X.xe) (hc : PT X pa (tT X W ta)) (hb : PSs X ss (tS X W gs)) :
    PS X (.While pa ss [] pos) (tS X W fun e S => whlR (ta) (fun e S => gs e S) e S) :=
  PS_imp (ps_while hp hc hb) fun D σ H h => by
    obtain ⟨z, e, rfl, hs, he, P⟩ := h
    let Qf : Fl → Zw → Prop := fun fl z1 => match fl with
      | .nx e' => ∀ σ', EnvOk X.K z1 e' σ' → D.nx σ' z1.H
      | .ct e' => ∀ σ', EnvOk X.K z1 e' σ' → D.ct σ' z1.H
      | .bk e' => ∀ σ', EnvOk X.K z1 e' σ' → D.bk σ' z1.H
      | .rt d => ∀ v, Rep X.K z1 d v → D.rt v z1.H
    have P : Post X.K X.mg W z (whlR ta (fun e S => gs e S) e z.S) Qf := P
    rcases whlR_cases (c := ta) (f := fun e S => gs e S) e z.S with ⟨n0, h0⟩ | h0
    · refine ⟨fun n σ H => ∃ zi ei r, zi.H = H ∧ StOk X.K zi ∧ EnvOk X.K zi ei σ ∧ whlN ta (fun e S => gs e S) n ei zi.S = some r ∧ Post X.K X.mg W zi r Qf, ⟨n0, z, e, _, rfl, hs, he, h0, P⟩, ?_⟩
      rintro n σi H ⟨zi, ei, r, rfl, si, hei, hw, Pi⟩
      cases n with
      | zero => simp [whlN] at hw
      | succ n =>
        unfold whlN at hw
        refine ⟨zi, ei, rfl, si, hei, ?_⟩
        cases q : ta ei zi.S with
        | bad => simp only [q] at hw; cases hw; exact Pi.elim
        | exc y e' S1 => simp only [q] at hw; cases hw; exact Pi
        | ok b S1 =>
          simp only [q] at hw
          intro z1 h1 x1 s1
          subst h1
          cases b with
          | false =>
            simp only at hw
            cases hw
            rw [if_neg Bool.false_ne_true]
            exact Pi z1 rfl x1 s1 σi (hei.mono x1)
          | true =>
            rw [if_pos rfl]
            refine ⟨fun σ' H' => ∃ m', m' < n + 1 ∧ ∃ zi ei r, zi.H = H' ∧ StOk X.K zi ∧ EnvOk X.K zi ei σ' ∧ whlN ta (fun e S => gs e S) m' ei zi.S = some r ∧ Post X.K X.mg W zi r Qf, fun σ' H' ⟨m', hm, k⟩ => ⟨m', hm, k⟩, z1, ei, rfl, s1, hei.mono x1, ?_⟩
            have Pi := Post.rebase x1 Pi
            cases q2 : gs ei z1.S with
            | bad => simp only [q2] at hw; cases hw; exact Pi.elim
            | exc y e' S2 => simp only [q2] at hw; cases hw; exact Pi
            | ok fl S2 =>
              simp only [q2] at hw
              intro z2 h2 x2 s2
              subst h2
              have Pi := Post.rebase x2 Pi
              cases fl with
              | nx e4 => exact fun σ4 he4 => ⟨n, Nat.lt_succ_self _, z2, e4, r, rfl, s2, he4, hw, Pi⟩
              | ct e4 => exact fun σ4 he4 => ⟨n, Nat.lt_succ_self _, z2, e4, r, rfl, s2, he4, hw, Pi⟩
              | bk e4 => cases hw; exact fun σ4 he4 => Post.val Pi s2 σ4 he4
              | rt d4 => cases hw; exact fun v rv => Post.val Pi s2 v rv
    · rw [h0] at P; exact P.elim
end
end PyI

set_option maxRecDepth 100000
set_option maxHeartbeats 4000000
namespace PyI
open PySem PySem.Spec PyProof.Rows L2
section
variable {X : Cx} {W : WX} {pos : Pos} {pa pb pc : Expr} {fa fb fc : Env → Store → Rs D} {es : List Expr} {ga : Env → Store → Rs (List D)}
theorem s_sfl {f : String} {tpos : Pos} (hx : PE X pc (tE X W fc)) (ha : PE X pa (tE X W fa)) (hs : swapsWith pc (some (.Attribute pa (Str.ofString f) tpos)) pos.line X.env = pure false) :
    PS X (.Assign [.Attribute pa (Str.ofString f) tpos] pc pos) (tS X W fun e S => (fc e S).bind fun v S => (fa e S).bind fun o S => match sflop S f v o with
    | some S' => .ok (.nx e) S'
    | none => .bad) :=
  PS_imp (ps_fld ha hx hs) fun D σ H h => by
    obtain ⟨z, e, rfl, hs, he, P⟩ := h
    refine ⟨z, e, rfl, hs, he, P.bind.imp fun d z1 x1 s1 P1 v rv => ⟨z1, e, rfl, s1, he.mono x1, P1.bind.imp fun o z2 x2 s2 P2 w ro => ?_⟩⟩
    cases q : sflop z2.S f d o with
    | none => simp only [q] at P2; exact P2.elim
    | some S' =>
      simp only [q] at P2
      obtain ⟨a, C, dx, fs, rfl, h1, h2, h3, h4, _, z', h5, h6, h7, h8⟩ := sfl_ok (z0 := z2) s2 (rv.mono x2) ro q
      refine ⟨a, C, dx, fs, rfl, h1, h2, h3, h4, ?_⟩
      rw [← h5]
      exact P2 z' h6 h7 h8 _ (((he.mono x1).mono x2).mono h7)
theorem fld_ins {S : Store} {f : String} {o old : D} (h : fldop none S f o = some old) : ∃ r C ns fs, o = .obj r ∧ S[r]? = some (.ins C ns fs) ∧ f ∈ ns ∧ fs.lookup f = some old := by
  cases o with
  | obj r =>
    simp only [fldop] at h
    split at h
    · rename_i C ns fs e
      split at h
      · exact ⟨r, C, ns, fs, rfl, e, by assumption, h⟩
      · cases h
    · cases h
  | exc a d ns ds => simp [fldop] at h
  | _ => cases h
theorem s_afl {f : String} {o : BO} {tpos : Pos} (ha : PE X pa (tE X W fa)) (hx : PE X pc (tE X W fc)) :
    PS X (.AugAssign (.Attribute pa (Str.ofString f) tpos) (boOf o) pc pos) (tS X W fun e S => (fa e S).bind fun ob S1 => (optR (fldop none S1 f ob) S1).bind fun old S => (fc e S).bind fun v S => (optR (augop o old v) S).bind fun z S => if insC S ob = insC S1 ob then (match sflop S f z ob with
    | some S' => .ok (.nx e) S'
    | none => .bad) else .bad) :=
  PS_imp (ps_fldaug ha hx (op_aug o)) fun D σ H h => by
    obtain ⟨z, e, rfl, hs, he, P⟩ := h
    refine ⟨z, e, rfl, hs, he, P.bind.imp fun ob z1 x1 s1 P1 w ro => ?_⟩
    obtain ⟨old, e1, P2⟩ := P1.bind.opt s1
    obtain ⟨r, C, ns, fs, rfl, q, hf, hl⟩ := fld_ins e1
    obtain ⟨a, dx, vs, rfl, ha, c1, c2, _, h1, h2⟩ := ins_inv s1 ro q
    obtain ⟨u, l, ru⟩ := fs_lookup c1.inj hf c2 h2 hl
    refine ⟨a, C, dx, _, u, rfl, h1, c1.cls, c1.no f hf, l, z1, e, rfl, s1, he.mono x1, P2.bind.imp fun y z2 x2 s2 P3 uu ruu => ?_⟩
    refine rD_of s2 (ru.mono x2) ruu P3.bind fun d2 z3 w3 x3 s3 hS rw3 P4 => ?_
    have hC1 : insC z1.S (.obj r) = some C := by simp only [insC, q]
    by_cases hc : insC z3.S (.obj r) = insC z1.S (.obj r)
    · rw [if_pos hc] at P4
      cases q4 : sflop z3.S f d2 (.obj r) with
      | none => simp only [q4] at P4; exact P4.elim
      | some S' =>
        simp only [q4] at P4
        obtain ⟨a', C', dx', fs', ea, k1, k2, k3, k4, k5, z', h5, h6, h7, h8⟩ := sfl_ok (z0 := z3) s3 rw3 ((ro.mono x2).mono x3) q4
        cases ea
        rw [k5, hC1] at hc
        cases hc
        refine ⟨dx', fs', k1, k4, ?_⟩
        rw [← h5]
        exact P4 z' h6 h7 h8 _ ((((he.mono x1).mono x2).mono x3).mono h7)
    · rw [if_neg hc] at P4; exact P4.elim
/-! ## several fields at once -/
theorem pg_attr {o : Expr} {to : TE} {f : Str} (ho : PE X o to) : PG X (.Attribute o f pos) (fun v σ H Q => to σ H fun x H1 => ∃ a C dx fs, x = .ref a ∧ H1 a = some (.ins C dx fs) ∧ Cls X.K C ∧ NoAttr X.K C f ∧ fs.length < 1000 ∧ Q σ (upd H1 a (.ins C dx (putF f v fs)))) := by
  refine ⟨fun pins s σ H v u Q I r h => ?_⟩
  rw [assign_Attribute]
  refine wpAny_bind (wpAny_holding (thn (ho.run pins s σ H _ I h) fun ov s1 hh => ?_))
  obtain ⟨x, H1, I1, rx, a, C, dx, fs, ex, ea, c, n, l, q⟩ := hh
  subst ex
  obtain rfl : ov = Value.ref a := rx
  refine wpAny_bind (wpAny_standAt (wpAny_bind (wpAny_holding ?_)))
  exact setattr_ok I1 ea c n l r fun s2 I2 => wpAny_release ⟨σ, _, I2, q⟩
theorem assignEach_attr {o : Expr} {f : Str} {p : Pos} {es : List Expr} {env : PySem.Env} : (assignEach (Expr.Attribute o f p :: es) env) = (false, assign (Expr.Attribute o f p) env) :: assignEach es env := by rfl
/-- the targets o.f, .. -/
inductive Atts (x : Str) : List String → List Expr → Prop
  | nil : Atts x [] []
  | cons {f : String} {p p2 : Pos} {fs : List String} {es : List Expr} : Atts x fs es → Atts x (f :: fs) (.Attribute (.Name x p2) (Str.ofString f) p :: es)
theorem Atts.each {x : Str} {fs : List String} {es : List Expr} (h : Atts x fs es) {env : PySem.Env} : (assignEach es env).length = fs.length ∧ (assignEach es env).findIdx? (·.1) = none := by
  induction h with
  | nil => exact ⟨rfl, rfl⟩
  | cons _ ih =>
    rw [assignEach_attr]
    refine ⟨by simp [ih.1], ?_⟩
    rw [List.findIdx?_cons]
    simp [ih.2]
theorem s_atts {i : Nat} {x : Str} (hv : ∀ p, PE X (.Name x p) (tE X W fun e S => match e[i]? with | some (some d) => .ok d S | _ => .bad)) {fs : List String} {es : List Expr} (h : Atts x fs es) : PGs X es (fun vs σ H Q => ∃ z e o ds S', z.H = H ∧ StOk X.K z ∧ EnvOk X.K z e σ ∧ e[i]? = some (some o) ∧
    Reps X.K z ds vs ∧ sflsop o z.S fs ds = some S' ∧ ∀ z', z'.S = S' → Ext z z' → StOk X.K z' → Q σ z'.H) := by
  induction h with
  | nil =>
    refine ⟨fun pins s σ H vs us Q I r hq => pgs_nil.run pins s σ H vs us Q I r ?_⟩
    obtain ⟨z, e, o, ds, S', rfl, hs, he, ho, hr, hS, q⟩ := hq
    cases ds with
    | nil => cases hS; exact ⟨hr.nil_inv, q z rfl (Ext.refl z) hs⟩
    | cons d ds => cases hS
  | @cons f p p2 fs es _ ih =>
    refine ⟨fun pins st σ H vs us Q I r hq => (pgs_cons (pg_attr (pos := p) (f := Str.ofString f) (hv p2)) ih (by rw [assignEach_attr]; rfl)).run pins st σ H vs us Q I r ?_⟩
    obtain ⟨z, e, o, ds, S', rfl, hs, he, ho, hr, hS, q⟩ := hq
    cases ds with
    | nil => cases hS
    | cons d ds =>
      obtain ⟨v, vr, rfl, h1, h2⟩ := hr.cons_inv
      simp only [sflsop] at hS
      cases q1 : sflop z.S f d o with
      | none => rw [q1] at hS; cases hS
      | some S1 =>
        rw [q1] at hS
        refine ⟨v, vr, rfl, z, e, rfl, hs, he, ?_⟩
        show Post X.K X.mg W z (match e[i]? with | some (some d) => .ok d z.S | _ => .bad) _
        rw [ho]
        intro z1 e1 x1 s1 w rw_
        obtain ⟨a, C, dx, fs', rfl, h3, h4, h5, h6, _, z', k1, k2, k3, k4⟩ := sfl_ok (z0 := z1) s1 (h1.mono x1) rw_ (by rw [e1]; exact q1)
        refine ⟨a, C, dx, fs', rfl, h3, h4, h5, h6, ?_⟩
        rw [← k1]
        exact ⟨z', e, o, ds, S', rfl, k4, (he.mono x1).mono k3, ho, (h2.mono x1).mono k3, by rw [k2]; exact hS, fun z2 a1 a2 a3 => q z2 a1 ((x1.trans k3).trans a2) a3⟩
theorem s_sfls {i : Nat} {x : Str} {fs : List String} {es : List Expr} {kt : Nat} {pt : Pos} (hc : X.calm = true) (hv : ∀ p, PE X (.Name x p) (tE X W fun e S => match e[i]? with | some (some d) => .ok d S | _ => .bad)) (h : Atts x fs es) (hx : PE X pc (tE X W fc))
    (hs : swapsWithSole [.Tuple es kt pt] pc pos.line X.env = pure false) (hw : swappedStores [.Tuple es kt pt] pc X.env = pure none) :
    PS X (.Assign [.Tuple es kt pt] pc pos) (tS X W fun e S => (fc e S).bind fun v S => match v with
    | .tup ds => match e[i]? with
      | some (some o) => (match sflsop o S fs ds with
        | some S' => .ok (.nx e) S'
        | none => .bad)
      | _ => .bad
    | _ => .bad) :=
  PS_imp (ps_asg hx (pg_tup (n := fs.length) hc (s_atts hv h) h.each.1 h.each.2) hs hw (by rfl)) fun D σ H hh => by
    obtain ⟨z, e, rfl, hs, he, P⟩ := hh
    refine ⟨z, e, rfl, hs, he, P.bind.imp fun v z1 x1 s1 P1 u ru => ?_⟩
    cases v with
    | tup ds =>
      cases q : e[i]? with
      | none => simp only [q] at P1; exact P1.elim
      | some oo =>
        cases oo with
        | none => simp only [q] at P1; exact P1.elim
        | some o =>
          simp only [q] at P1
          cases q2 : sflsop o z1.S fs ds with
          | none => simp only [q2] at P1; exact P1.elim
          | some S' =>
            simp only [q2] at P1
            obtain ⟨a, xs, rfl, h1, _, h3⟩ := ru.tup_inv
            have hl : ∀ {S S' : Store} {fs : List String} {ds : List PyI.D}, sflsop o S fs ds = some S' → ds.length = fs.length := by
              intro S S' fs
              induction fs generalizing S with
              | nil => intro ds h; cases ds with | nil => rfl | cons _ _ => cases h
              | cons f fs ih =>
                intro ds h
                cases ds with
                | nil => cases h
                | cons d ds =>
                  simp only [sflsop] at h
                  split at h
                  · simp [ih h]
                  · cases h
            exact ⟨a, xs, rfl, h1, by rw [← h3.length, hl q2], z1, e, o, ds, S', rfl, s1, he.mono x1, q, h3, q2, fun z' a1 a2 a3 => P1 z' a1 a2 a3 _ ((he.mono x1).mono a2)⟩
    | _ => exact P1.elim
/-! ## raise -/
theorem xOf_inv {ns : List String} {ds : List PyI.D} {fs : List (String × PyI.D)} (h : xOf ns ds = some fs) : ds.length = ns.length ∧ ds.length ≤ 900 ∧ fs = ns.zip ds := by
  unfold xOf at h
  split at h
  · rename_i c; cases h; exact ⟨c.1, c.2, rfl⟩
  · cases h
theorem s_rai {x : String} {C : Addr} {ns : List String} {k : Nat} {p p2 : Pos} (ok : XclOk X k C ns) (hc : X.calm = true) (tk : Takes X W) (hr : Room (k + 1) X.A) (hg : Gl X (Str.ofString x)) (hm : X.mg (Str.ofString x) = some (.ref C)) (ha : PA X (pa :: es) (tA X W ga))
    (hdb : (Str.ofString x == ("__debug__" : Str)) = false) (he : starEach (pa :: es) X.env = (false, eval pa X.env) :: starEach es X.env) (hpl : (backTo p2 (starEach es X.env)).any (·.1) = false) :
    PS X (.Raise (some (.Call (.Name (Str.ofString x) p) (pa :: es) [] p2)) none pos) (tS X W fun e S => (ga e S).bind fun ds S => (match xOf ns ds with
      | some fs => .exc (x, fs) e S
      | none => .bad)) := by
  obtain ⟨fI, fd, ps, i1, i2, hb, F⟩ := ok.ex
  refine PS_imp (ps_raise hc tk (pmk_oex ok.T i1 i2 F hr hb .nil (passes_call tk (fun _ _ _ _ h => h.elim)) hg hm ha hdb he hpl)) fun D σ H h => ?_
  obtain ⟨z, e, rfl, hs, he, P⟩ := h
  refine ⟨z, e, rfl, hs, he, P.bind.imp fun ds z1 x1 s1 P1 vs rv => ?_⟩
  cases q : xOf ns ds with
  | none => simp only [q] at P1; exact P1.elim
  | some fs =>
    simp only [q] at P1
    obtain ⟨hl, h9, rfl⟩ := xOf_inv q
    have hlv := rv.length
    show vs.length ≤ 1000 ∧ ∀ a, z1.H a = none → spX C ns (.ref a :: (vs ++ [])) (upd z1.H a (exo a C none)) _ _
    refine ⟨by omega, fun a ha => ?_⟩
    rw [List.append_nil]
    refine ⟨a, vs, rfl, by omega, upd_same, fun d hd hda => ⟨rfl, d, (ns.map Str.ofString).zip vs, upd_same, ?_, ?_, ?_⟩⟩
    · rw [upd_ne hda, upd_same]
    · rw [upd_ne hda] at hd; exact hd
    · rw [upd_ne hda] at hd
      have eH : upd (del (upd (upd (upd z1.H a (exo a C none)) d (exd d ((ns.map Str.ofString).zip vs))) a (exo a C (some d))) a) d (.xd ((ns.map Str.ofString).zip vs)) = upd z1.H d (.xd ((ns.map Str.ofString).zip vs)) := by
        funext b
        by_cases h1 : b = d
        · subst h1; rw [upd_same, upd_same]
        · rw [upd_ne h1, upd_ne h1]
          by_cases h2 : b = a
          · subst h2; rw [del_same, ha]
          · rw [del_ne h2, upd_ne h2, upd_ne h1, upd_ne h2]
      rw [eH]
      obtain ⟨x2, s2, im⟩ := new_im s1 (.xd ((ns.map Str.ofString).zip vs)) hd
      obtain ⟨z1f, z2f⟩ := zip_fst (ns := ns) (ds := ds) hl.symm
      refine P1 ⟨z1.hd, z1.ρ, z1.S, upd z1.H d (.xd ((ns.map Str.ofString).zip vs))⟩ (.ref C) (some d) σ rfl x2 s2 ((he.mono x1).mono x2) ⟨hm, .inr ⟨d, vs, rfl, ?_, ?_⟩⟩
      · show Im _ d (.xd ((fNs (ns.zip ds)).zip vs))
        rw [z1f]; exact im
      · show Reps X.K _ (fDs (ns.zip ds)) vs
        rw [z2f]; exact rv.mono x2
/-! ## try -/
theorem s_try {x : String} {n : Str} {C : Addr} {ns : List String} {i : Nat} {body suite : List Stmt} {b₀ : Stmt} {np pos' : Pos} {gb : Env → Store → Rs Fl} {gs : Nat → Nat → List String → Env → Store → Rs Fl}
    (hst : X.stack = X.env :: X.outer) (hf : X.env.frame = some X.env.locals) (hN : X.N.Nodup) (hi : X.N[i]? = some n) (hln : X.env.kindOf n = some .local) (hg : Gl X (Str.ofString x)) (hdb : (Str.ofString x == ("__debug__" : Str)) = false) (hm : X.mg (Str.ofString x) = some (.ref C)) (tk : Takes X W)
    (exm : PySem.W.exmOne X.K (.ref C) (.ref C) = some true) (hne : ns ≠ [])
    (hb : ∀ (W' : WX) (pn : List (Addr × Obj)) (xe : Value → Shared → Prop), Takes (X.tr pn xe) W' → PassesOwn (model X.prog X.w) X.A X.env xe → PSs (X.tr pn xe) body (tS X W' gb))
    (hsu : ∀ (a : Addr) (oe : Obj) (d : Addr) (pn : List (Addr × Obj)), Zc (.ref C) (some d) oe → (∃ vs, oe.data = .fields vs) → PSs (X.suite a ((a, oe) :: pn)) (b₀ :: suite) (tS X (fun _ _ _ _ => False) (gs a d ns))) :
    PS X (.Try body [.ExceptHandler (some (.Name (Str.ofString x) np)) (some n) (b₀ :: suite) pos'] [] [] pos) (tS X W fun e S => match gb e S with
    | .ok fl S' => .ok fl S'
    | .exc y e' S' => if y.1 = x ∧ ns = y.2.map (·.1) then tryR fun a d => clr i (gs a d ns (e'.set i (some (.exc a d ns (y.2.map (·.2))))) S') else .bad
    | .bad => .bad) := by
  refine PS_imp (ps_try_as hst hf hN hi hln ⟨hg, hdb, .inl hm⟩ tk (tb := fun W' => tS X W' gb) hb (ts := fun a cls d D σ H => ∃ dd, cls = .ref C ∧ d = some dd ∧ tS X (fun _ _ _ _ => False) (gs a dd ns) D σ H) (fun a oe cls d pn hz hv => ⟨fun pins s σ H D I h => ?_⟩)) fun D σ H h => ?_
  · obtain ⟨dd, rfl, rfl, h⟩ := h
    exact (hsu a oe dd pn hz hv).run pins s σ H D I h
  obtain ⟨z, e, rfl, hs, he, P⟩ := h
  refine ⟨z, e, rfl, hs, he, ?_⟩
  cases q : gb e z.S with
  | bad => simp only [q] at P; exact P
  | ok fl S' => simp only [q] at P; exact P
  | exc y e' S' =>
    simp only [q] at P
    by_cases hc : y.1 = x ∧ ns = y.2.map (·.1)
    · rw [if_pos hc] at P
      intro z1 cls d σ1 h1 x1 s1 he1 hx
      obtain ⟨m1, hx⟩ := hx
      rw [hc.1, hm] at m1
      cases m1
      have hns : ns = y.2.map (·.1) := hc.2
      refine ⟨true, exm, fun _ a ha => ?_, fun h => by cases h⟩
      rcases hx with ⟨h0, _⟩ | ⟨dx, vs, rfl, him, hr⟩
      · rw [h0] at hns; exact absurd hns hne
      have hneb : (tryR fun a d => clr i (gs a d ns (e'.set i (some (.exc a d ns (y.2.map (·.2))))) S')) ≠ .bad := fun hb => by rw [hb] at P; exact P
      rw [tryR_at hneb a dx] at P
      have P := P.rebase x1
      subst h1
      have rep : Rep X.K z1 (.exc a dx ns (y.2.map (·.2))) (.ref a) := by
        unfold Rep
        refine ⟨rfl, by rw [hns]; simp, vs, ?_, hr⟩
        rw [hns, List.map_map]; exact him
      refine ⟨dx, rfl, rfl, z1, e'.set i (some (.exc a dx ns (y.2.map (·.2)))), rfl, s1, he1.set i rep, ?_⟩
      cases q2 : gs a dx ns (e'.set i (some (.exc a dx ns (y.2.map (·.2))))) z1.S with
      | bad => rw [q2] at P; exact P
      | exc _ _ _ => rw [q2] at P; exact P.elim
      | ok fl S2 =>
        rw [q2] at P
        cases fl with
        | nx e2 => exact fun z2 k1 k2 k3 σ2 he2 => P z2 k1 k2 k3 _ (he2.none i)
        | ct e2 => exact fun z2 k1 k2 k3 σ2 he2 => P z2 k1 k2 k3 _ (he2.none i)
        | bk e2 => exact fun z2 k1 k2 k3 σ2 he2 => P z2 k1 k2 k3 _ (he2.none i)
        | rt d => exact fun z2 k1 k2 k3 v rv => P z2 k1 k2 k3 v rv
    · rw [if_neg hc] at P; exact P.elim
end
end PyI

set_option maxRecDepth 100000
set_option maxHeartbeats 4000000
namespace PyI
open PySem PySem.Spec PyProof.Rows L2
/-! ## statements against the model's -/
def swB (sc : Scope) (y : Str) (py : Pos) (v : Expr) : Bool := match (match v with
    | .ListComp _ _ s _ => some s
    | .SetComp _ _ s _ => some s
    | .DictComp _ _ _ s _ => some s
    | _ => none) with
  | some s2 => sc.names.lookup y == some .local && py.line == v.pos.line && !(s2.names.any fun (n, k) => n == y && (k == .local || k == .cell))
  | none => false
theorem swB_ok {env : PySem.Env} {sc : Scope} (h1 : env.scope = sc) (h2 : sc.kind = .function) (y : Str) (py : Pos) (v : Expr) (l : Nat) : swapsWith v (some (.Name y py)) l env = pure (swB sc y py v) := by
  have hb : (env.blockKind == ScopeKind.function) = true := by
    unfold Env.blockKind
    rw [h1, h2]; rfl
  have hk : env.kindOf y = sc.names.lookup y := by rw [← h1]; rfl
  cases v <;> first
    | rfl
    | (show (pure _ : Sem Bool) = pure _
       simp only [swB, hb, hk, Bool.true_and])
def nco : Expr → Bool
  | .ListComp _ _ _ _ => false
  | .SetComp _ _ _ _ => false
  | .DictComp _ _ _ _ _ => false
  | _ => true
theorem nco_ok {v : Expr} (h : nco v = true) (t : Option Expr) (l : Nat) (env : PySem.Env) : swapsWith v t l env = pure false := by
  cases v <;> first | rfl | cases h
/-- does a, b = x, y swap its stores? (none: not told) -/
def swS (sc : Scope) (ts vs : List Expr) : Option (Option (List Str)) :=
  if !(ts.length == 2 || ts.length == 3) || vs.length != ts.length then some none
  else if vs.any (fun | .Starred .. => true | _ => false) then some none
  else if (ts.filterMap fun
    | .Name id pos => if sc.names.lookup id == some .local && pos.line == ((ts.head?.map (·.pos.line)).getD 0) then some id else none
    | _ => none).length != ts.length || ((ts.filterMap fun
    | .Name id pos => if sc.names.lookup id == some .local && pos.line == ((ts.head?.map (·.pos.line)).getD 0) then some id else none
    | _ => none).eraseDups.length != (ts.filterMap fun
    | .Name id pos => if sc.names.lookup id == some .local && pos.line == ((ts.head?.map (·.pos.line)).getD 0) then some id else none
    | _ => none).length) then some none
  else if vs.all (foldedForSure 8) then some none
  else if vs.all (constantsAlone 8) then none
  else some (some (ts.filterMap fun
    | .Name id pos => if sc.names.lookup id == some .local && pos.line == ((ts.head?.map (·.pos.line)).getD 0) then some id else none
    | _ => none))
theorem swS_ok {env : PySem.Env} {sc : Scope} (h1 : env.scope = sc) (h2 : sc.kind = .function) {ts vs : List Expr} {k k' : Nat} {p p' : Pos} {r : Option (List Str)} (h : swS sc ts vs = some r) :
    swappedStores [.Tuple ts k p] (.Tuple vs k' p') env = pure r := by
  have hb : (env.blockKind != ScopeKind.function) = false := by
    unfold Env.blockKind
    rw [h1, h2]; rfl
  have hk : ∀ y, env.kindOf y = sc.names.lookup y := fun y => by rw [← h1]; rfl
  unfold swS at h
  unfold swappedStores
  simp only [hb, Bool.or_false, hk]
  split at h
  · rename_i c; cases h; exact if_pos c
  · rename_i c
    refine Eq.trans (if_neg c) ?_
    split at h
    · rename_i c; cases h; exact if_pos c
    · rename_i c
      refine Eq.trans (if_neg c) ?_
      split at h
      · rename_i c; cases h; exact if_pos c
      · rename_i c
        refine Eq.trans (if_neg c) ?_
        split at h
        · rename_i c; cases h; exact if_pos c
        · rename_i c
          refine Eq.trans (if_neg c) ?_
          split at h
          · cases h
          · rename_i c; cases h; exact if_neg c

def locB (sc : Scope) (x : Str) : Bool := match sc.names.lookup x with
  | some .local => true
  | _ => false
def isCompE : Ex → Bool
  | .comp _ _ _ _ _ => true
  | .comp2 .. => true
  | _ => false
def asAssign : Stmt → Option (Expr × Expr)
  | .Assign [t] v _ => some (t, v)
  | _ => none
def asAug : Stmt → Option (Expr × Operator × Expr)
  | .AugAssign t o v _ => some (t, o, v)
  | _ => none
def asExp : Stmt → Option Expr
  | .Expr v _ => some v
  | _ => none
def asRet : Stmt → Option (Option Expr)
  | .Return v _ => some v
  | _ => none
def asIfS : Stmt → Option (Expr × List Stmt × List Stmt)
  | .If c a b _ => some (c, a, b)
  | _ => none
def asForS : Stmt → Option (Expr × Expr × List Stmt)
  | .For t i b [] _ => some (t, i, b)
  | _ => none
def asWhl : Stmt → Option (Expr × List Stmt)
  | .While c b [] _ => some (c, b)
  | _ => none
def asRaise : Stmt → Option (Str × List Expr)
  | .Raise (some (.Call (.Name g _) ps [] _)) none _ => some (g, ps)
  | _ => none
def asTry : Stmt → Option (List Stmt × Str × Str × List Stmt)
  | .Try b [.ExceptHandler (some (.Name x _)) (some n) su _] [] [] _ => some (b, x, n, su)
  | _ => none
def attsB (x : Str) : List String → List Expr → Bool
  | [], [] => true
  | f :: fs, .Attribute (.Name y _) m _ :: es => decide (y = x) && decide (m = Str.ofString f) && attsB x fs es
  | _, _ => false
theorem attsB_ok {x : Str} : ∀ {fs : List String} {es : List Expr}, attsB x fs es = true → Atts x fs es
  | [], [], _ => .nil
  | f :: fs, e :: es, h => by
    unfold attsB at h
    split at h
    · rename_i h1 h2; cases h1
    · rename_i f' fs' y py m pm es' h1 h2
      cases h1; cases h2
      simp only [Bool.and_eq_true, decide_eq_true_eq] at h
      obtain ⟨⟨rfl, rfl⟩, h⟩ := h
      exact .cons (attsB_ok h)
    · cases h
  | [], _ :: _, h => by simp [attsB] at h
  | _ :: _, [], h => by simp [attsB] at h
/-- the own scope of an except suite: nothing that wants calm stands there -/
def hotS (sc : Scope) : Scope := { sc with isCoroutine := true }
def isBrk : Stmt → Bool
  | .Break _ => true
  | _ => false
def isCnt : Stmt → Bool
  | .Continue _ => true
  | _ => false
def isPas : Stmt → Bool
  | .Pass _ => true
  | _ => false
def swOk (sc : Scope) (e : Ex) : Expr → Expr → Bool
  | .Name x px, v => !swB sc x px v || (isCompE e && locB sc x)
  | .Tuple es _ _, v => nco v && (match v with
    | .Tuple vs _ _ => decide (swS sc es vs = some none)
    | _ => true)
  | _, _ => false
theorem asAssign_ok {p : Stmt} {t v : Expr} (h : asAssign p = some (t, v)) : ∃ q, p = .Assign [t] v q := by
  unfold asAssign at h; split at h <;> cases h; exact ⟨_, rfl⟩
theorem asAug_ok {p : Stmt} {t v : Expr} {o : Operator} (h : asAug p = some (t, o, v)) : ∃ q, p = .AugAssign t o v q := by
  unfold asAug at h; split at h <;> cases h; exact ⟨_, rfl⟩
theorem asExp_ok {p : Stmt} {v : Expr} (h : asExp p = some v) : ∃ q, p = .Expr v q := by
  unfold asExp at h; split at h <;> cases h; exact ⟨_, rfl⟩
theorem asRet_ok {p : Stmt} {v : Option Expr} (h : asRet p = some v) : ∃ q, p = .Return v q := by
  unfold asRet at h; split at h <;> cases h; exact ⟨_, rfl⟩
theorem asIfS_ok {p : Stmt} {c : Expr} {a b : List Stmt} (h : asIfS p = some (c, a, b)) : ∃ q, p = .If c a b q := by
  unfold asIfS at h; split at h <;> cases h; exact ⟨_, rfl⟩
theorem asForS_ok {p : Stmt} {t i : Expr} {b : List Stmt} (h : asForS p = some (t, i, b)) : ∃ q, p = .For t i b [] q := by
  unfold asForS at h; split at h <;> cases h; exact ⟨_, rfl⟩
theorem asWhl_ok {p : Stmt} {c : Expr} {b : List Stmt} (h : asWhl p = some (c, b)) : ∃ q, p = .While c b [] q := by
  unfold asWhl at h; split at h <;> cases h; exact ⟨_, rfl⟩
theorem asRaise_ok {p : Stmt} {g : Str} {ps : List Expr} (h : asRaise p = some (g, ps)) : ∃ q q2 q3, p = .Raise (some (.Call (.Name g q) ps [] q2)) none q3 := by
  unfold asRaise at h; split at h <;> cases h; exact ⟨_, _, _, rfl⟩
theorem asTry_ok {p : Stmt} {b su : List Stmt} {x n : Str} (h : asTry p = some (b, x, n, su)) : ∃ q q2 q3, p = .Try b [.ExceptHandler (some (.Name x q)) (some n) su q2] [] [] q3 := by
  unfold asTry at h; split at h <;> cases h; exact ⟨_, _, _, rfl⟩
theorem isBrk_ok {p : Stmt} (h : isBrk p = true) : ∃ q, p = .Break q := by
  unfold isBrk at h; split at h <;> first | exact ⟨_, rfl⟩ | cases h
theorem isCnt_ok {p : Stmt} (h : isCnt p = true) : ∃ q, p = .Continue q := by
  unfold isCnt at h; split at h <;> first | exact ⟨_, rfl⟩ | cases h
theorem isPas_ok {p : Stmt} (h : isPas p = true) : ∃ q, p = .Pass q := by
  unfold isPas at h; split at h <;> first | exact ⟨_, rfl⟩ | cases h
section
variable (N : List Str)
mutual
/-- within an except suite -/
def mU : Scope → Sm → Stmt → Bool
  | sc, .ret e, p => (match asRet p with
    | some (some v) => mE [] N sc (hotS sc) e v
    | _ => false)
  | sc, .ifs c a b, p => (match asIfS p with
    | some (pc, pa, pb) => mT [] N sc (hotS sc) c pc && mUs sc a pa && mUs sc b pb
    | none => false)
  | sc, .pas, p => isPas p
  | _, _, _ => false
def mUs : Scope → Sms → List Stmt → Bool
  | sc, .nil, [] => true
  | sc, .cons s r, p :: ps => mU sc s p && mUs sc r ps
  | _, _, _ => false
end
end
section
variable (fns : List String) (N : List Str)
mutual
def mS : Scope → Sm → Stmt → Bool
  | sc, .asg t e, p => (match asAssign p with
    | some (tg, v) => mTg N sc t tg && mE fns N sc sc e v && swOk sc e tg v
    | none => false)
  | sc, .par i j a b, p => (match asAssign p with
    | some (.Tuple [.Name x px, .Name y py] _ _, .Tuple [pa, pb] _ _) => (isN N i x && isN N j y && !(i == j)) && (locB sc x && locB sc y) && (nst pa && nst pb) && (mE fns N sc sc a pa && mE fns N sc sc b pb) &&
      decide (swS sc [.Name x px, .Name y py] [pa, pb] = some (some [x, y]))
    | _ => false)
  | sc, .par3 i j l a b c, p => (match asAssign p with
    | some (.Tuple [.Name x px, .Name y py, .Name z pz] _ _, .Tuple [pa, pb, pc] _ _) => (isN N i x && isN N j y && isN N l z) && (!(i == j) && !(i == l) && !(j == l)) && (locB sc x && locB sc y && locB sc z) && (nst pa && nst pb && nst pc) &&
      (mE fns N sc sc a pa && mE fns N sc sc b pb && mE fns N sc sc c pc) && decide (swS sc [.Name x px, .Name y py, .Name z pz] [pa, pb, pc] = some (some [x, y, z]))
    | _ => false)
  | sc, .aug i o e, p => (match asAug p with
    | some (.Name x _, op, v) => isN N i x && stoB sc x && decide (op = boOf o) && mE fns N sc sc e v
    | _ => false)
  | sc, .sto a i e, p => (match asAssign p with
    | some (.Subscript pa pi _, v) => nsl pi && mE fns N sc sc a pa && mE fns N sc sc i pi && mE fns N sc sc e v
    | _ => false)
  | sc, .augs a i o e, p => (match asAug p with
    | some (.Subscript pa pi _, op, v) => nsl pi && decide (op = boOf o) && mE fns N sc sc a pa && mE fns N sc sc i pi && mE fns N sc sc e v
    | _ => false)
  | sc, .exp e, p => (match asExp p with
    | some v => nco v && mE fns N sc sc e v
    | none => false)
  | sc, .ret e, p => (match asRet p with
    | some (some v) => mE fns N sc sc e v
    | _ => false)
  | sc, .ret0, p => (match asRet p with
    | some none => true
    | _ => false)
  | sc, .ifs c a b, p => (match asIfS p with
    | some (pc, pa, pb) => mT fns N sc sc c pc && mSs sc a pa && mSs sc b pb
    | none => false)
  | sc, .for t it b, p => (match asForS p with
    | some (tg, pi, pb) => nse pi && mTg N sc t tg && mI fns N sc sc (isTup tg) it pi && mSs sc b pb
    | none => false)
  | sc, .whl c b, p => (match asWhl p with
    | some (pc, pb) => mT fns N sc sc c pc && mSs sc b pb
    | none => false)
  | sc, .brk, p => isBrk p
  | sc, .cnt, p => isCnt p
  | sc, .pas, p => isPas p
  | sc, .sfl a f x, p => (match asAssign p with
    | some (.Attribute pa m _, v) => decide (m = Str.ofString f) && nco v && mE fns N sc sc a pa && mE fns N sc sc x v
    | _ => false)
  | sc, .afl a f o x, p => (match asAug p with
    | some (.Attribute pa m _, op, v) => decide (m = Str.ofString f) && decide (op = boOf o) && mE fns N sc sc a pa && mE fns N sc sc x v
    | _ => false)
  | sc, .sfls i fs x, p => (match asAssign p, N[i]? with
    | some (.Tuple es _ _, v), some y => visB sc y && dbB y && attsB y fs es && (nco v && (match v with
      | .Tuple vs _ _ => decide (swS sc es vs = some none)
      | _ => true)) && mE fns N sc sc x v
    | _, _ => false)
  | sc, .rai x es, p => (match asRaise p with
    | some (g, pa :: ps) => decide (g = Str.ofString x) && glB sc g && dbB g && mA fns N sc sc es (pa :: ps) && (pa :: ps).all nst
    | _ => false)
  | sc, .tryx b x i su, p => (match asTry p with
    | some (pb, g, n, s0 :: ss) => decide (g = Str.ofString x) && glB sc g && dbB g && isN N i n && locB sc n && mSs sc b pb && mUs N sc su (s0 :: ss)
    | _ => false)
  | _, .ask0 _ _, _ => true
def mSs : Scope → Sms → List Stmt → Bool
  | sc, .nil, [] => true
  | sc, .cons s r, p :: ps => mS sc s p && mSs sc r ps
  | _, _, _ => false
end
end
structure GdS (X : Cx) (W : WX) (N : List Str) (sc : Scope) : Prop where
  gd : Gd X W N sc sc
  po : PassesOwn (model X.prog X.w) X.A X.env X.xe
  kind : sc.kind = .function
  calm : X.calm = true
  stk : X.stack = X.env :: X.outer
  frm : X.env.frame = some X.env.locals
section
variable {fns : List String} {N : List Str} {wd : Wd} {k : Nat} {X : Cx} {W : WX} {sc : Scope}
theorem WdOk.tr (w : WdOk X fns wd k) (pn : List (Addr × Obj)) (xe : Value → Shared → Prop) : WdOk (X.tr pn xe) fns wd.inTry k :=
  ⟨w.con, fun f hf => ⟨(w.call f hf).ex⟩, w.room, fun c x C ns ms e => let q := w.cls c x C ns ms e; ⟨q.cls, q.mks, q.kp, fun m key e => let ⟨a, b⟩ := q.meth m key e; ⟨a, ⟨b.ex⟩⟩⟩, fun a d ns e => (by cases e), fun c x C ns ms e => let q := w.exc c x C ns ms e; ⟨q.T, q.ex, q.inj, q.xf, q.no, q.exm, q.ne⟩, fun _ => rfl, w.lam, fun c hf g told hs e => let q := w.ask c hf g told hs e; ⟨q.ex, q.room⟩, fun c => let q := w.xp c; ⟨q.cls, q.exm⟩⟩
theorem WdOk.suite (w : WdOk X fns wd k) {C : Addr} {ns : List String} (ok : XclOk X k C ns) {a d : Addr} {oe : Obj} {pn : List (Addr × Obj)} (hz : Zc (.ref C) (some d) oe) (hv : ∃ vs, oe.data = .fields vs) : WdOk (X.suite a ((a, oe) :: pn)) [] (wd.suite a d ns) k :=
  ⟨w.con, fun f hf => (by simp at hf), fun c => (by cases c), fun c => (by cases c), fun a' d' ns' e => (by cases e; exact ⟨oe, C, List.mem_cons_self, hz, hv, ok.xf, ok.inj, ok.no⟩), fun c => (by cases c), fun c => (by cases c), fun c => (by cases c), fun c => (by cases c), fun c => (by cases c)⟩
theorem Gd.tr (G : Gd X W N sc sc) {W' : WX} {pn : List (Addr × Obj)} {xe : Value → Shared → Prop} (tk : Takes (X.tr pn xe) W') : Gd (X.tr pn xe) W' N sc sc :=
  ⟨G.hN, G.nd, G.sc, G.calm, tk, G.st, G.hu, G.bn, G.gen⟩
theorem Gd.suite (G : Gd X W N sc sc) {a : Addr} {pn : List (Addr × Obj)} : Gd (X.suite a pn) WF N sc (hotS sc) :=
  ⟨G.hN, G.nd, G.sc, fun h => (by cases h), takes0, G.st, G.hu, G.bn, G.gen⟩
mutual
theorem sU : ∀ (s : Sm) {X : Cx} {W : WX} {wd : Wd} {p : Stmt}, Gd X W N sc (hotS sc) → WdOk X [] wd k → mU N sc s p = true → PS X p (tS X W (evS wd s))
  | .ret e, X, W, wd, p, G, w, h => by
    simp only [mU] at h
    split at h
    · rename_i v e1
      obtain ⟨q, rfl⟩ := asRet_ok e1
      exact s_ret (sE e G w h)
    · cases h
  | .ifs c a b, X, W, wd, p, G, w, h => by
    simp only [mU] at h
    split at h
    · rename_i pc pa pb e1
      obtain ⟨q, rfl⟩ := asIfS_ok e1
      obtain ⟨h1, h3⟩ := ba3 h
      obtain ⟨h1, h2⟩ := ba3 h1
      exact s_ifs (sT c G w h1).1 (sUs a G w h2) (sUs b G w h3)
    · cases h
  | .pas, X, W, wd, p, G, w, h => by
    simp only [mU] at h
    obtain ⟨q, rfl⟩ := isPas_ok h
    exact s_pas
  | .asg _ _, _, _, _, _, _, _, h => by simp [mU] at h
  | .par _ _ _ _, _, _, _, _, _, _, h => by simp [mU] at h
  | .par3 _ _ _ _ _ _, _, _, _, _, _, _, h => by simp [mU] at h
  | .aug _ _ _, _, _, _, _, _, _, h => by simp [mU] at h
  | .sto _ _ _, _, _, _, _, _, _, h => by simp [mU] at h
  | .augs _ _ _ _, _, _, _, _, _, _, h => by simp [mU] at h
  | .exp _, _, _, _, _, _, _, h => by simp [mU] at h
  | .ret0, _, _, _, _, _, _, h => by simp [mU] at h
  | .for _ _ _, _, _, _, _, _, _, h => by simp [mU] at h
  | .whl _ _, _, _, _, _, _, _, h => by simp [mU] at h
  | .brk, _, _, _, _, _, _, h => by simp [mU] at h
  | .cnt, _, _, _, _, _, _, h => by simp [mU] at h
  | .sfl _ _ _, _, _, _, _, _, _, h => by simp [mU] at h
  | .afl _ _ _ _, _, _, _, _, _, _, h => by simp [mU] at h
  | .sfls _ _ _, _, _, _, _, _, _, h => by simp [mU] at h
  | .rai _ _, _, _, _, _, _, _, h => by simp [mU] at h
  | .tryx _ _ _ _, _, _, _, _, _, _, h => by simp [mU] at h
  | .ask0 _ _, _, _, _, _, _, _, h => by simp [mU] at h
theorem sUs : ∀ (s : Sms) {X : Cx} {W : WX} {wd : Wd} {p : List Stmt}, Gd X W N sc (hotS sc) → WdOk X [] wd k → mUs N sc s p = true → PSs X p (tS X W (evSs wd s))
  | .nil, X, W, wd, p, G, w, h => by
    cases p with
    | nil => exact s_snil
    | cons p ps => simp [mUs] at h
  | .cons s r, X, W, wd, p, G, w, h => by
    cases p with
    | nil => simp [mUs] at h
    | cons p ps =>
      simp only [mUs] at h
      obtain ⟨h1, h2⟩ := ba3 h
      exact s_scons (sU s G w h1) (sUs r G w h2)
end
theorem locB_ok (G : Gd X W N sc sc) {x : Str} (h : locB sc x = true) : X.env.scope.names.lookup x = some .local := by
  rw [G.sc]
  unfold locB at h
  split at h
  · assumption
  · cases h
theorem locB_ok' (G : Gd X W N sc sc) {x : Str} (h : locB sc x = true) : X.env.scope.names.lookup x = some .local := by
  rw [G.sc]
  unfold locB at h
  split at h
  · assumption
  · cases h
/-- a name = a comprehension, on one line -/
theorem s_nameComp (G : GdS X W N sc) (w : WdOk X fns wd k) {i : Nat} {x : Str} {px pos : Pos} {own : List Nat} {elt : Ex} {t : Tg} {it : PyI.It} {c : Tx} {v : Expr} (h1 : isN N i x = true) (h2 : locB sc x = true) (hsw : swB sc x px v = true) (h : mE fns N sc sc (.comp own elt t it c) v = true) :
    PS X (.Assign [.Name x px] v pos) (tS X W (evS wd (.asg (.nm i) (.comp own elt t it c)))) := by
  have sw := swB_ok G.gd.sc G.kind x px v pos.line
  rw [hsw] at sw
  have hca := G.calm
  have G := G.gd
  simp only [mE] at h
  split at h
  · rename_i pe pt pi pc s2 e
    obtain ⟨q, rfl⟩ := asComp_ok e
    obtain ⟨a1, h8⟩ := ba3 h
    obtain ⟨a1, h7⟩ := ba3 a1
    obtain ⟨a1, h6⟩ := ba3 a1
    obtain ⟨a1, h5⟩ := ba3 a1
    obtain ⟨a1, h4⟩ := ba3 a1
    obtain ⟨a1, h3⟩ := ba3 a1
    obtain ⟨a1, a2⟩ := ba3 a1
    obtain ⟨_, a1⟩ := ba3 a1
    have hown := of_decide_eq_true h3
    have blk : BlkOk X.N X.env.scope s2 (ownP N own) := by
      rw [G.hN, G.sc]; exact blkOk_by a2
    have nd : X.N.Nodup := by rw [G.hN]; exact G.nd
    have ho : ∀ i ∈ tgI t, i ∈ (ownP N own).map (·.2) := fun i hi => by
      rw [hown]
      have := List.all_eq_true.mp h4 i hi
      simpa using this
    have main := s_setComp (X := X) (W := W) (pos := q) (spos := pos) (py := px) (scope := s2) (own := ownP N own) (t := t) (ft := evT wd c) (fe := evE wd elt) hca nd (G.ix h1) (locB_ok G h2) sw (sI it (tg := pt) G w rfl h6) blk ho
      (fun s H C cl fp => (G.blk hca (s2 := s2) s H C cl fp).tg h5)
      (ifs := pc) (fun s H C cl fp => by
        split at h8
        · cases c with
          | yes => exact s_yes
          | _ => cases h8
        · exact pts_one (sT c (G.blk hca (s2 := s2) s H C cl fp) (w.blk hca s H C cl fp) h8).1
        · cases h8)
      (fun s H C cl fp => sE elt (G.blk hca (s2 := s2) s H C cl fp) (w.blk hca s H C cl fp) h7) (nse_ok a1 _)
    rw [hown] at main
    exact s_asgComp main
  · cases h
theorem s_nameComp2 (G : GdS X W N sc) (w : WdOk X fns wd k) {i : Nat} {x : Str} {px pos : Pos} {own own2 : List Nat} {elt : Ex} {t t2 : Tg} {it it2 : PyI.It} {c : Tx} {v : Expr} (h1 : isN N i x = true) (h2 : locB sc x = true) (hsw : swB sc x px v = true) (h : mE fns N sc sc (.comp2 own own2 elt t it t2 it2 c) v = true) :
    PS X (.Assign [.Name x px] v pos) (tS X W (evS wd (.asg (.nm i) (.comp2 own own2 elt t it t2 it2 c)))) := by
  have sw := swB_ok G.gd.sc G.kind x px v pos.line
  rw [hsw] at sw
  have hca := G.calm
  have G := G.gd
  have hy := G.ix h1
  have hyl := locB_ok' G h2
  clear h1 h2
  simp only [mE] at h
  split at h
  · rename_i pe pt pi pt2 pi2 pc s2 e
    obtain ⟨q, rfl⟩ := asComp2_ok e
    obtain ⟨h0, h8⟩ := ba3 h
    obtain ⟨h0, h7⟩ := ba3 h0
    obtain ⟨h0, h6⟩ := ba3 h0
    obtain ⟨h0, h5⟩ := ba3 h0
    obtain ⟨h0, h4⟩ := ba3 h0
    obtain ⟨_, h0⟩ := ba3 h0
    obtain ⟨h0, h3⟩ := ba3 h0
    obtain ⟨h0, h2⟩ := ba3 h0
    obtain ⟨h0, h1⟩ := ba3 h0
    obtain ⟨h6, h6b⟩ := ba3 h6
    obtain ⟨h5, h5b⟩ := ba3 h5
    obtain ⟨h4, h4c⟩ := ba3 h4
    obtain ⟨h4, h4b⟩ := ba3 h4
    have hown := of_decide_eq_true h3
    have blk : BlkOk X.N X.env.scope s2 (ownP N own) := by
      rw [G.hN, G.sc]; exact blkOk_by h2
    have nd : X.N.Nodup := by rw [G.hN]; exact G.nd
    have hv : ∀ i ∈ own2, i ∈ (ownP N own).map (·.2) := fun i hi => by rw [hown]; exact all_sub h4 i hi
    have ho : ∀ i ∈ tgI t, i ∈ (ownP N own).map (·.2) := fun i hi => by rw [hown]; exact all_sub h4b i hi
    have ho2 : ∀ i ∈ tgI t2, i ∈ own2 := all_sub h4c
    have main := s_setComp2 (X := X) (W := W) (pos := q) (spos := pos) (py := px) (scope := s2) (own := ownP N own) (t := t) (t2 := t2) (fi2 := evI wd it2) (ft := evT wd c) (fe := evE wd elt) hca nd hy hyl sw (sI it (tg := pt) G w rfl h6) blk (hv) ho ho2
        (fun s H C cl fp => (G.blk hca (s2 := s2) s H C cl fp).tg h5)
        (fun s H C cl fp => sI it2 (G.blk hca (s2 := s2) s H C cl fp) (w.blk hca s H C cl fp) rfl h6b)
        (fun s H C cl fp => (G.blk hca (s2 := s2) s H C cl fp).tg h5b)
        (ifs := pc) (fun s H C cl fp => by
          split at h8
          · cases c with
            | yes => exact s_yes
            | _ => cases h8
          · exact pts_one (sT c (G.blk hca (s2 := s2) s H C cl fp) (w.blk hca s H C cl fp) h8).1
          · cases h8)
        (fun s H C cl fp => sE elt (G.blk hca (s2 := s2) s H C cl fp) (w.blk hca s H C cl fp) h7) (nse_ok h0 _) (fun env => nse_ok h1 env)
    rw [hown] at main
    exact s_asgComp main
  · cases h
mutual
theorem sS : ∀ (s : Sm) {X : Cx} {W : WX} {wd : Wd} {p : Stmt}, GdS X W N sc → WdOk X fns wd k → mS fns N sc s p = true → PS X p (tS X W (evS wd s))
  | .asg t e, X, W, wd, p, G, w, h => by
    simp only [mS] at h
    split at h
    · rename_i tg v e1
      obtain ⟨q, rfl⟩ := asAssign_ok e1
      obtain ⟨h1, h3⟩ := ba3 h
      obtain ⟨h1, h2⟩ := ba3 h1
      have ge := sE e G.gd w h2
      unfold swOk at h3
      split at h3
      · rename_i x px v'
        cases hb : swB sc x px v with
        | false =>
          exact s_asg ge (G.gd.tg h1) (by show swapsWith v (some (.Name x px)) q.line X.env = _; rw [swB_ok G.gd.sc G.kind, hb]) (by cases v <;> rfl) (by rfl)
        | true =>
          rw [hb] at h3
          obtain ⟨k1, k2⟩ := ba3 (show (isCompE e && locB sc x) = true by simpa using h3)
          cases t with
          | nm i =>
            cases e with
            | comp own elt t it c =>
              obtain ⟨n1, _⟩ := ba3 (show (isN N i x && stoB sc x) = true from h1)
              exact s_nameComp G w n1 k2 hb h2
            | comp2 own own2 elt t it t2 it2 c =>
              obtain ⟨n1, _⟩ := ba3 (show (isN N i x && stoB sc x) = true from h1)
              exact s_nameComp2 G w n1 k2 hb h2
            | _ => cases k1
          | tp is => cases h1
          | tp2 i js => cases h1
      · rename_i es kk pp v'
        obtain ⟨k1, k2⟩ := ba3 h3
        refine s_asg ge (G.gd.tg h1) (by show swapsWith v (some (.Tuple es kk pp)) q.line X.env = _; exact nco_ok k1 _ _ _) ?_ (by rfl)
        split at k2
        · exact swS_ok G.gd.sc G.kind (of_decide_eq_true k2)
        · rename_i nt
          cases v <;> first | rfl | exact absurd rfl (nt _ _ _)
      · cases h3
    · cases h
  | .par i j a b, X, W, wd, p, G, w, h => by
    simp only [mS] at h
    split at h
    · rename_i x px y py kt pt pa pb k2 pt2 e1
      obtain ⟨q, rfl⟩ := asAssign_ok e1
      obtain ⟨h1, h5⟩ := ba3 h
      obtain ⟨h1, h4⟩ := ba3 h1
      obtain ⟨h1, h3⟩ := ba3 h1
      obtain ⟨h1, h2⟩ := ba3 h1
      obtain ⟨h1, h13⟩ := ba3 h1
      obtain ⟨h11, h12⟩ := ba3 h1
      obtain ⟨h21, h22⟩ := ba3 h2
      obtain ⟨h31, h32⟩ := ba3 h3
      obtain ⟨h41, h42⟩ := ba3 h4
      have nd : X.N.Nodup := by rw [G.gd.hN]; exact G.gd.nd
      exact s_par G.calm nd (G.gd.ix h11) (G.gd.ix h12) (by simpa using h13) (locB_ok G.gd h21) (locB_ok G.gd h22) (sE a G.gd w h41) (sE b G.gd w h42) h31 h32 (swS_ok G.gd.sc G.kind (of_decide_eq_true h5))
    · cases h
  | .par3 i j l a b c, X, W, wd, p, G, w, h => by
    simp only [mS] at h
    split at h
    · rename_i x px y py z pz kt pt pa pb pc k2 pt2 e1
      obtain ⟨q, rfl⟩ := asAssign_ok e1
      obtain ⟨h1, h6⟩ := ba3 h
      obtain ⟨h1, h5⟩ := ba3 h1
      obtain ⟨h1, h4⟩ := ba3 h1
      obtain ⟨h1, h3⟩ := ba3 h1
      obtain ⟨h1, h2⟩ := ba3 h1
      obtain ⟨h1, h13⟩ := ba3 h1
      obtain ⟨h11, h12⟩ := ba3 h1
      obtain ⟨h2, h23⟩ := ba3 h2
      obtain ⟨h21, h22⟩ := ba3 h2
      obtain ⟨h3, h33⟩ := ba3 h3
      obtain ⟨h31, h32⟩ := ba3 h3
      obtain ⟨h4, h43⟩ := ba3 h4
      obtain ⟨h41, h42⟩ := ba3 h4
      obtain ⟨h5, h53⟩ := ba3 h5
      obtain ⟨h51, h52⟩ := ba3 h5
      have nd : X.N.Nodup := by rw [G.gd.hN]; exact G.gd.nd
      exact s_par3 G.calm nd (G.gd.ix h11) (G.gd.ix h12) (G.gd.ix h13) (by simpa using h21) (by simpa using h22) (by simpa using h23) (locB_ok G.gd h31) (locB_ok G.gd h32) (locB_ok G.gd h33)
        (sE a G.gd w h51) (sE b G.gd w h52) (sE c G.gd w h53) h41 h42 h43 (swS_ok G.gd.sc G.kind (of_decide_eq_true h6))
    · cases h
  | .aug i o e, X, W, wd, p, G, w, h => by
    simp only [mS] at h
    split at h
    · rename_i x px op v e1
      obtain ⟨q, rfl⟩ := asAug_ok e1
      obtain ⟨h1, h4⟩ := ba3 h
      obtain ⟨h1, h3⟩ := ba3 h1
      obtain ⟨h1, h2⟩ := ba3 h1
      rw [of_decide_eq_true h3]
      have nd : X.N.Nodup := by rw [G.gd.hN]; exact G.gd.nd
      exact s_aug nd (G.gd.sto h1 h2) (sE e G.gd w h4)
    · cases h
  | .sto a i e, X, W, wd, p, G, w, h => by
    simp only [mS] at h
    split at h
    · rename_i pa pi pp v e1
      obtain ⟨q, rfl⟩ := asAssign_ok e1
      obtain ⟨h1, h4⟩ := ba3 h
      obtain ⟨h1, h3⟩ := ba3 h1
      obtain ⟨h1, h2⟩ := ba3 h1
      exact s_sto (sE e G.gd w h4) (sE a G.gd w h2) (sE i G.gd w h3) h1
    · cases h
  | .augs a i o e, X, W, wd, p, G, w, h => by
    simp only [mS] at h
    split at h
    · rename_i pa pi pp op v e1
      obtain ⟨q, rfl⟩ := asAug_ok e1
      obtain ⟨h1, h5⟩ := ba3 h
      obtain ⟨h1, h4⟩ := ba3 h1
      obtain ⟨h1, h3⟩ := ba3 h1
      obtain ⟨h1, h2⟩ := ba3 h1
      rw [of_decide_eq_true h2]
      exact s_augs (sE a G.gd w h3) (sE i G.gd w h4) (sE e G.gd w h5) h1
    · cases h
  | .exp e, X, W, wd, p, G, w, h => by
    simp only [mS] at h
    split at h
    · rename_i v e1
      obtain ⟨q, rfl⟩ := asExp_ok e1
      obtain ⟨h1, h2⟩ := ba3 h
      exact s_exp (sE e G.gd w h2) (nco_ok h1 _ _ _)
    · cases h
  | .ret e, X, W, wd, p, G, w, h => by
    simp only [mS] at h
    split at h
    · rename_i v e1
      obtain ⟨q, rfl⟩ := asRet_ok e1
      exact s_ret (sE e G.gd w h)
    · cases h
  | .ret0, X, W, wd, p, G, w, h => by
    simp only [mS] at h
    split at h
    · rename_i e1
      obtain ⟨q, rfl⟩ := asRet_ok e1
      exact s_ret0
    · cases h
  | .ifs c a b, X, W, wd, p, G, w, h => by
    simp only [mS] at h
    split at h
    · rename_i pc pa pb e1
      obtain ⟨q, rfl⟩ := asIfS_ok e1
      obtain ⟨h1, h3⟩ := ba3 h
      obtain ⟨h1, h2⟩ := ba3 h1
      exact s_ifs (sT c G.gd w h1).1 (sSs a G w h2) (sSs b G w h3)
    · cases h
  | .for t it b, X, W, wd, p, G, w, h => by
    simp only [mS] at h
    split at h
    · rename_i tg pi pb e1
      obtain ⟨q, rfl⟩ := asForS_ok e1
      obtain ⟨h1, h4⟩ := ba3 h
      obtain ⟨h1, h3⟩ := ba3 h1
      obtain ⟨h1, h2⟩ := ba3 h1
      exact s_for G.po G.calm (sI it G.gd w rfl h3) (G.gd.tg h2) (sSs b G w h4) (nse_ok h1 _)
    · cases h
  | .whl c b, X, W, wd, p, G, w, h => by
    simp only [mS] at h
    split at h
    · rename_i pc pb e1
      obtain ⟨q, rfl⟩ := asWhl_ok e1
      obtain ⟨h1, h2⟩ := ba3 h
      exact s_whl G.po (sT c G.gd w h1).1 (sSs b G w h2)
    · cases h
  | .brk, X, W, wd, p, G, w, h => by
    simp only [mS] at h
    obtain ⟨q, rfl⟩ := isBrk_ok h
    exact s_brk
  | .cnt, X, W, wd, p, G, w, h => by
    simp only [mS] at h
    obtain ⟨q, rfl⟩ := isCnt_ok h
    exact s_cnt
  | .pas, X, W, wd, p, G, w, h => by
    simp only [mS] at h
    obtain ⟨q, rfl⟩ := isPas_ok h
    exact s_pas
  | .sfl a f x, X, W, wd, p, G, w, h => by
    simp only [mS] at h
    split at h
    · rename_i pa m tp v e1
      obtain ⟨q, rfl⟩ := asAssign_ok e1
      obtain ⟨h1, h4⟩ := ba3 h
      obtain ⟨h1, h3⟩ := ba3 h1
      obtain ⟨h1, h2⟩ := ba3 h1
      have hf := of_decide_eq_true h1
      subst hf
      exact s_sfl (sE x G.gd w h4) (sE a G.gd w h3) (nco_ok h2 _ _ _)
    · cases h
  | .afl a f o x, X, W, wd, p, G, w, h => by
    simp only [mS] at h
    split at h
    · rename_i pa m tp op v e1
      obtain ⟨q, rfl⟩ := asAug_ok e1
      obtain ⟨h1, h4⟩ := ba3 h
      obtain ⟨h1, h3⟩ := ba3 h1
      obtain ⟨h1, h2⟩ := ba3 h1
      have hf := of_decide_eq_true h1
      subst hf
      rw [of_decide_eq_true h2]
      exact s_afl (sE a G.gd w h3) (sE x G.gd w h4)
    · cases h
  | .sfls i fs x, X, W, wd, p, G, w, h => by
    simp only [mS] at h
    split at h
    · rename_i es kk pp v y e1 e2
      obtain ⟨q, rfl⟩ := asAssign_ok e1
      obtain ⟨h1, h5⟩ := ba3 h
      obtain ⟨h1, h4⟩ := ba3 h1
      obtain ⟨h1, h3⟩ := ba3 h1
      obtain ⟨h1, h2⟩ := ba3 h1
      obtain ⟨k1, k2⟩ := ba3 h4
      obtain ⟨d1, d2, _⟩ := db_ok h2
      refine s_sfls G.calm (fun p => s_var (by rw [G.gd.hN]; exact e2) (G.gd.vis h1) d1 d2) (attsB_ok h3) (sE x G.gd w h5) (by show swapsWith v (some (.Tuple es kk pp)) q.line X.env = _; exact nco_ok k1 _ _ _) ?_
      split at k2
      · exact swS_ok G.gd.sc G.kind (of_decide_eq_true k2)
      · rename_i nt
        cases v <;> first | rfl | exact absurd rfl (nt _ _ _)
    · cases h
  | .rai x es, X, W, wd, p, G, w, h => by
    simp only [mS] at h
    split at h
    · rename_i g pa ps e1
      obtain ⟨q, q2, q3, rfl⟩ := asRaise_ok e1
      obtain ⟨h1, h5⟩ := ba3 h
      obtain ⟨h1, h4⟩ := ba3 h1
      obtain ⟨h1, h3⟩ := ba3 h1
      obtain ⟨h1, h2⟩ := ba3 h1
      have hf := of_decide_eq_true h1
      subst hf
      rw [List.all_cons, Bool.and_eq_true] at h5
      cases e2 : xNs wd.con x with
      | none =>
        refine PS_imp (t := fun _ _ _ => False) ⟨fun _ _ _ _ _ _ h => h.elim⟩ fun D σ H h => ?_
        obtain ⟨z, e, _, _, _, P⟩ := h
        simp only [evS, e2] at P
        exact P
      | some ns =>
        obtain ⟨C, ms, e3⟩ := xNs_inv e2
        refine PS_imp (s_rai (w.exc G.calm x C ns ms e3) G.calm G.gd.tk (w.room G.calm) (G.gd.gl h2) (w.clo e3) (sA es G.gd w h4) (db_ok h3).1 (nst_ok h5.1) (all_nst h5.2)) fun D σ H h => ?_
        obtain ⟨z, e, r1, r2, r3, P⟩ := h
        simp only [evS, e2] at P
        exact ⟨z, e, r1, r2, r3, P⟩
    · cases h
  | .ask0 told hs, X, W, wd, p, G, w, h => by
    refine PS_imp (t := fun _ _ _ => False) ⟨fun _ _ _ _ _ _ h => h.elim⟩ fun D σ H h => ?_
    obtain ⟨z, e, _, _, _, P⟩ := h
    exact P
  | .tryx b x i su, X, W, wd, p, G, w, h => by
    simp only [mS] at h
    split at h
    · rename_i pb g n s0 ss e1
      obtain ⟨q, q2, q3, rfl⟩ := asTry_ok e1
      obtain ⟨h1, h7⟩ := ba3 h
      obtain ⟨h1, h6⟩ := ba3 h1
      obtain ⟨h1, h5⟩ := ba3 h1
      obtain ⟨h1, h4⟩ := ba3 h1
      obtain ⟨h1, h3⟩ := ba3 h1
      obtain ⟨h1, h2⟩ := ba3 h1
      have hf := of_decide_eq_true h1
      subst hf
      have nd : X.N.Nodup := by rw [G.gd.hN]; exact G.gd.nd
      have hb : ∀ (W' : WX) (pn : List (Addr × Obj)) (xe : Value → Shared → Prop), Takes (X.tr pn xe) W' → PassesOwn (model X.prog X.w) X.A X.env xe → PSs (X.tr pn xe) pb (tS X W' (evSs wd.inTry b)) := fun W' pn xe tk po =>
        sSs b (X := X.tr pn xe) ⟨G.gd.tr tk, po, G.kind, G.calm, G.stk, G.frm⟩ (w.tr pn xe) h6
      cases e2 : xNs wd.con x with
      | none =>
        refine PS_imp (t := fun _ _ _ => False) ⟨fun _ _ _ _ _ _ h => h.elim⟩ fun D σ H h => ?_
        obtain ⟨z, e, _, _, _, P⟩ := h
        simp only [evS, e2] at P
        exact P
      | some ns =>
        obtain ⟨C, ms, e3⟩ := xNs_inv e2
        have ok := w.exc G.calm x C ns ms e3
        refine PS_imp (s_try (np := q) (pos' := q2) (gb := evSs wd.inTry b) (gs := fun a d ns => evSs (wd.suite a d ns) su) G.stk G.frm nd (G.gd.ix h4) (locB_ok G.gd h5) (G.gd.gl h2) (db_ok h3).1 (w.clo e3) G.gd.tk ok.exm ok.ne hb (fun a oe d pn hz hv => sUs su (X := X.suite a ((a, oe) :: pn)) (G.gd.suite) (w.suite ok hz hv) h7)) fun D σ H h => ?_
        obtain ⟨z, e, r1, r2, r3, P⟩ := h
        simp only [evS, e2] at P
        exact ⟨z, e, r1, r2, r3, P⟩
    · cases h
theorem sSs : ∀ (s : Sms) {X : Cx} {W : WX} {wd : Wd} {p : List Stmt}, GdS X W N sc → WdOk X fns wd k → mSs fns N sc s p = true → PSs X p (tS X W (evSs wd s))
  | .nil, X, W, wd, p, G, w, h => by
    cases p with
    | nil => exact s_snil
    | cons p ps => simp [mSs] at h
  | .cons s r, X, W, wd, p, G, w, h => by
    cases p with
    | nil => simp [mSs] at h
    | cons p ps =>
      simp only [mSs] at h
      obtain ⟨h1, h2⟩ := ba3 h
      exact s_scons (sS s G w h1) (sSs r G w h2)
end
end
end PyI

set_option maxRecDepth 100000
set_option maxHeartbeats 4000000
namespace PyI
open PySem PySem.Spec PyProof.Rows L2 NdefX
/-! ## an exception's class whose __init__ says super().__init__(a, b), self.a = a, self.b = b -/
def xBody (f1 f2 : Str) (p : Nat → Pos) : List Stmt :=
  [.Expr (.Call (.Attribute (.Call (.Name "super" (p 0)) [] [] (p 1)) "__init__" (p 2)) [.Name f1 (p 3), .Name f2 (p 4)] [] (p 5)) (p 6),
   .Assign [.Attribute (.Name "self" (p 7)) f1 (p 8)] (.Name f1 (p 9)) (p 10), .Assign [.Attribute (.Name "self" (p 11)) f2 (p 12)] (.Name f2 (p 13)) (p 14)]
structure XInit (P : Program) (K : PySem.W.Frag) (C : Addr) (f1 f2 : Str) (fI cda cc : Addr) (G : NF) (fd : FuncData) : Prop where
  lk : ∃ (oc : Value) (od : Option Addr) (osl : Array (Option Value)) (dV kV doc pm : Value) (an : Option Addr) (ct : Value), fd = PySem.W.fnX G.name G.qual G.params G.body G.scope [(("__class__" : Str), cc)] dV kV doc pm an (.ref cda) ct ∧ K.lookup fI = some ⟨oc, od, .func fd, osl⟩
  hF : G.cl = [(("__class__" : Str), cc)] ∧ G.c = cda
  code : PySem.W.codeIn K (.ref cda) G.qual = true
  codf : ∃ (ccl : Value) (cdd : Option Addr) (vs : Array Value) (ccs : Array (Option Value)) (file : Str) (tf : Tok), K.lookup cda = some ⟨ccl, cdd, .fields vs, ccs⟩ ∧ vs[2]? = some (.str file tf) ∧ ((P.main.file : Str) == file) = true
  cell : ∃ (cl : Value) (cld : Option Addr) (csl : Array (Option Value)), K.lookup cc = some ⟨cl, cld, .cell (some (.ref C)), csl⟩
  head : ∃ ar : Arg, (G.params.posonlyargs ++ G.params.args).head? = some ar ∧ ar.arg = "self"
  S : NScope ([("self" : Str), f1, f2, ("__class__" : Str)] : List Str) ([("self" : Str), f1, f2] : List Str) ([("__class__" : Str)] : List Str) G.scope
  ksup : G.scope.names.lookup ("super" : Str) = some .globalImplicit
  top : (P.main.scope.names.lookup ("super" : Str)).isSome = false
  sup : PySem.W.ks_superIn K C C "__init__" = some (some (.builtin "ValueError.__init__"))
  sub : PySem.W.mroIn K C (.ref C) = some true
  subV : PySem.W.subIn K (.ref C) (.type "ValueError") = some true
  opq : PySem.W.nsIn K cStatics "thirdparty.any" = some none
  T : OexC K C
  n1 : PySem.W.findIn K (.ref C) f1 = some none
  n2 : PySem.W.findIn K (.ref C) f2 = some none
  ne : f1 ≠ f2
  body : ∃ p : Nat → Pos, G.body = xBody f1 f2 p ∧ ((p 2).endLine == (p 5).line) = true
  db : (f1 == ("__debug__" : Str)) = false ∧ (f1 == ("__classdict__" : Str)) = false ∧ (f2 == ("__debug__" : Str)) = false ∧ (f2 == ("__classdict__" : Str)) = false
def spX2 (C : Addr) (f1 f2 : Str) : Sp := fun vs H Q _ => ∃ a y1 y2, vs = [.ref a, y1, y2] ∧ H a = some (exo a C none) ∧ ∀ d, H d = none → d ≠ a → Q .non (upd (upd H d (exd d [(f1, y1), (f2, y2)])) a (exo a C (some d)))
theorem exd_swap {d : Addr} {f1 f2 : Str} {y1 y2 : V} (h : f1 ≠ f2) : exd d [(f2, y2), (f1, y1)] = exd d [(f1, y1), (f2, y2)] := by
  have e : ∀ f : Str, List.lookup f [(f2, y2), (f1, y1)] = List.lookup f [(f1, y1), (f2, y2)] := fun f => by
    by_cases h1 : f = f1
    · have h3 : (f == f2) = false := by rw [h1]; exact beq_eq_false_iff_ne.mpr h
      have h4 : (f == f1) = true := by rw [h1]; exact beq_self_eq_true _
      simp only [List.lookup, h3, h4]
    · have h3 : (f == f1) = false := beq_eq_false_iff_ne.mpr h1
      cases h2 : f == f2 <;> simp only [List.lookup, h3, h2]
  unfold exd
  congr 1
  funext h
  simp only [e]
section
variable {P : Program} {w : World} {K : PySem.W.Frag} {mg : Str → Option Value} {base : Heap} {C fI cda cc : Addr} {f1 f2 : Str} {G : NF} {fd : FuncData} {k : Nat}
theorem mw_call {A : Around} {E : Value → Shared → Prop} {s : Shared} {u a t0 : Addr} {rest : List Value} {Q : Value → Shared → Prop} (T : OexC K C) (X : K.In s.heap) (hu : s.heap.get? u = some (PySem.W.kxs_mw "ValueError.__init__" a))
    (he : s.heap.get? a = some (PySem.W.excObj C t0 none .none)) (hz : rest.length ≤ sizeLine)
    (h : ∀ h', (∀ b o, b ≠ a → s.heap.get? b = some o → h'.get? b = some o) → (∃ t1, h'.get? a = some (PySem.W.excObj C t1 none .none)) → Q .none { s with heap := h' }) :
    wpAny (model P w) A (call (.ref u) rest) Q E s := by
  obtain ⟨nm, q, N, bs, bm, sn, sub, ab, col, dd, k0, k1, k2, k3, k5, hC, hbm⟩ := T.cls
  have hC := X _ _ hC
  obtain ⟨hh, g, d, tk, os⟩ := s
  refine wpAny_call (codeAny_of_tree ?_)
  show wpAny _ A.in1 (callAny (.ref u) ⟨rest, []⟩) _ _ _
  simp only [callAny]
  refine wpAny_bind (wpAny_load hu ?_)
  simp only [PySem.W.kxs_mw, show (Value.type "method-wrapper" == Value.type "method" || Value.type "method-wrapper" == Value.type "builtin_function_or_method" || Value.type "method-wrapper" == Value.type "method-wrapper") = true by decide, if_true]
  refine PySem.W.KFB.if_so (by decide) ?_
  refine wpAny_bind (PySem.W.check_bound_init F.excBase_ValueError.toExcCallFacts hC he rfl ?_)
  refine wpAny_bind (wpAny_pure (wpAny_pure ?_))
  refine ⟨plainId_quiet F.excBase_ValueError.init.plain _, codeAny_builtin F.excBase_ValueError.initEntry ?_⟩
  exact PySem.W.exc_init_tree (cls := .ref C) (t0 := t0) (dv := none) (c2 := .none) (c3 := .none) (b4 := .bool false) he hz fun h' kk e1 e2 => h h' kk ⟨_, e1⟩
theorem methCall_fewAt {M : Model} {A : Around} {c : Code} {E : Value → Shared → Prop} {s : Shared} {env : PySem.Env} {o : Expr} {name : Str} {apos pos : Pos} {args : List Expr} {Q : Value → Shared → Prop}
    (hfew : ((backTo pos (starEach args env)).all (fun x => !x.1) && (backToKw pos (keywordEach [] env)).all (fun x => x.1.isSome)
      && decide (args.length + ([] : List Keyword).length + (if ([] : List Keyword).isEmpty then 0 else 1) < 30)) = true)
    (hline : (apos.endLine == pos.line) = true)
    (h : _root_.PySem.wpAt M A c (attributeBase o name env (eval o env)) (fun ov s₁ => ∀ pl, wpAny M A (getMethod ov name pl) (fun fx s₂ => wpAny M A (callWith pos fx.1 fx.2 (backTo pos (starEach args env)) (backToKw pos (keywordEach [] env))) Q E s₂) E s₁) E s) :
    _root_.PySem.wpAt M A c (eval (.Call (.Attribute o name apos) args [] pos) env) Q E s := by
  rw [arm_eval_Call]
  refine _root_.PySem.wpAt_bind (ks_wpAt_mono h (fun ov s₁ h₁ => _root_.PySem.wpAt_of_wpAny (wpAny_bind (wpAny_standAt ?_))) fun _ _ e => e)
  have hform : methodCallForm (args.length + ([] : List Keyword).length) (backTo pos (starEach args env)) (backToKw pos (keywordEach [] env)) = true := hfew
  have hpos : methodCallPos true o env apos pos = pure pos := by unfold methodCallPos; simp [hline]
  unfold methodCall
  rw [hform]
  refine wpAny_bind (wpAny_holding (wpAny_mono (h₁ _) (fun fx s2 h2 => ?_) fun _ _ e => e))
  exact wpAny_bind (wpAny_of_eq hpos h2)
theorem xrest {X : Cx} {p : Nat → Pos} (T : OexC X.K C) (n1 : PySem.W.findIn X.K (.ref C) f1 = some none) (n2 : PySem.W.findIn X.K (.ref C) f2 = some none) (hN : X.N = ([("self" : Str), f1, f2, ("__class__" : Str)] : List Str)) (hv : ∀ x ∈ ([("self" : Str), f1, f2] : List Str), Vis X.env.scope x)
    (db : (f1 == ("__debug__" : Str)) = false ∧ (f1 == ("__classdict__" : Str)) = false ∧ (f2 == ("__debug__" : Str)) = false ∧ (f2 == ("__classdict__" : Str)) = false) :
    PSs X [.Assign [.Attribute (.Name "self" (p 7)) f1 (p 8)] (.Name f1 (p 9)) (p 10), .Assign [.Attribute (.Name "self" (p 11)) f2 (p 12)] (.Name f2 (p 13)) (p 14)]
      (fun D σ H => ∃ a y1 y2, σ[0]? = some (some (.ref a)) ∧ σ[1]? = some (some y1) ∧ σ[2]? = some (some y2) ∧ H a = some (exo a C none) ∧ ∀ d, H d = none → d ≠ a → D.nx σ (upd (upd (upd H d (exd d [(f1, y1)])) a (exo a C (some d))) d (exd d [(f2, y2), (f1, y1)]))) := by
  have v0 : ∀ q, PE X (.Name "self" q) (tVar 0) := fun q => pe_var (by rw [hN]; rfl) (hv _ (by simp)) (by decide) (by decide)
  have v1 : ∀ q, PE X (.Name f1 q) (tVar 1) := fun q => pe_var (by rw [hN]; rfl) (hv _ (by simp)) db.1 db.2.1
  have v2 : ∀ q, PE X (.Name f2 q) (tVar 2) := fun q => pe_var (by rw [hN]; rfl) (hv _ (by simp)) db.2.2.1 db.2.2.2
  refine PSs_imp (pss_cons (ps_ost (v0 _) (v1 _)) (pss_cons (ps_ost (v0 _) (v2 _)) pss_nil)) fun D σ H h => ?_
  obtain ⟨a, y1, y2, e0, e1, e2, ha, q⟩ := h
  refine ⟨y1, e1, .ref a, e0, a, C, rfl, T, n1, .inl ⟨ha, fun d hd hda => ?_⟩⟩
  refine ⟨y2, e2, .ref a, e0, a, C, rfl, T, n2, .inr ⟨d, [(f1, y1)], upd_same, ?_, by simp, ?_⟩⟩
  · rw [upd_ne hda, upd_same]
  · exact q d hd hda
theorem xinit_ok (x : XInit P K C f1 f2 fI cda cc G fd) (hms : mg "super" = none) (k : Nat) : FnOk P w K mg base (L2.CX P w) (k + 1) fI fd ([("self" : Str), f1, f2] : List Str) (spX2 C f1 f2) := by
  refine ⟨fun vs H Q E h => ?_, fun A outer s H args us vs Q E hr e0 hb r hsp => ?_⟩
  · obtain ⟨a, y1, y2, rfl, _⟩ := h; rfl
  obtain ⟨a, y1, y2, rfl, ha, q⟩ := hsp
  obtain ⟨oc, od, osl, dV, kV, doc, pm, an, ct, rfl, lk⟩ := x.lk
  obtain ⟨cl1, cl2⟩ := x.hF
  have kin : K.In s.heap := e0.mod.kin.keeps fun b o e => (e0.bs b o e).1
  have ho := kin _ _ lk
  have lim : s.heap.NoLimit := e0.mod.nolimit.keeps fun b o e => (e0.bs b o e).1
  obtain ⟨p, hbody, hline⟩ := x.body
  have hl : ([V.ref a, y1, y2] : List V).length = ([("self" : Str), f1, f2] : List Str).length := rfl
  have nocell : ∀ y ∈ G.scope.names, y.2 ≠ .cell := x.S.nocell
  refine ks_codeAny_call_defAt (body := G.body) (binds := ([("self" : Str), f1, f2] : List Str).zip us) hr.depth ho rfl lim (PySem.W.codeRec_of kin x.code) rfl hb nocell (fun ⟨n, _⟩ hy => x.S.par n (List.of_mem_zip hy).1) (fun h₁ hns kp => ?_) x.S.co x.S.gen x.S.kind
  have hE : callEnv (PySem.W.fnX G.name G.qual G.params G.body G.scope [(("__class__" : Str), cc)] dV kV doc pm an (.ref cda) ct) s.heap.objs.size fI = envF G fI s.heap.objs.size := by
    show PySem.W.envX G.qual G.scope s.heap.objs.size fI (.ref cda) [(("__class__" : Str), cc)] = PySem.W.envX G.qual G.scope s.heap.objs.size fI (.ref G.c) G.cl
    rw [cl1, cl2]
  rw [hE]
  obtain ⟨cl, cld, csl, lcc⟩ := x.cell
  have hcc := e0.bs _ _ (e0.mod.kin _ _ lcc)
  have CA : CellsAt G.cl ([("__class__" : Str)] : List Str) [none] s.heap H := by
    have lk1 : ∀ y c, G.cl.lookup y = some c → y = ("__class__" : Str) ∧ c = cc := fun y c e => by
      rw [cl1, List.lookup_cons] at e
      cases q : y == ("__class__" : Str) with
      | true => rw [q] at e; exact ⟨beq_iff_eq.mp q, (Option.some.inj e).symm⟩
      | false => rw [q] at e; cases e
    refine ⟨rfl, fun y c e => ?_, fun x y c e1 e2 => (lk1 _ _ e1).1.trans (lk1 _ _ e2).1.symm, fun i y e => ?_⟩
    · obtain ⟨_, rfl⟩ := lk1 y c e
      exact ⟨hcc.2, _, _, hcc.1, rfl⟩
    · cases i with
      | zero =>
        simp at e
        subst e
        exact ⟨cc, by rw [cl1, List.lookup_cons_self], fun v h => by simp at h⟩
      | succ i => simp at e
  have I0 : Inv (ncx (L2.CX P w) P w K mg base ([("self" : Str), f1, f2, ("__class__" : Str)] : List Str) G fI A outer s H E) [] (startF ([("self" : Str), f1, f2, ("__class__" : Str)] : List Str) [V.ref a, y1, y2] [none]) H { s with heap := h₁, toks := s.toks + (([("self" : Str), f1, f2] : List Str).zip us).length } :=
    inv_startN x.S hr.hd e0 hl r CA hns kp
  have keepI : ∀ {X : Cx} {σ : L2.St} {H : Hp} {s1 : Shared} {h' : Heap} {t' : Nat}, Inv X [] σ H s1 → (∀ b u, s1.heap.get? b = some u → h'.get? b = some u) → Inv X [] σ H { s1 with heap := h', toks := t' } := fun I k => I.kept k
  obtain ⟨us0, us1, us2, rfl⟩ : ∃ u0 u1 u2, us = [u0, u1, u2] := by
    have := r.length
    match us, this with
    | [u0, u1, u2], _ => exact ⟨u0, u1, u2, rfl⟩
  have ru0 : us0 = Value.ref a := by
    cases r with
    | cons r0 _ => exact r0
  subst ru0
  obtain ⟨t0, hoa⟩ := exo_at (I0.hok) ha
  obtain ⟨nm, q0, N0, bs, bm, sn, sub, ab, col, dd, k0, k1, k2, k3, k5, lC, hbm⟩ := x.T.cls
  have kin1 : K.In h₁ := I0.kIn
  have hC := kin1 _ _ lC
  obtain ⟨ccl, cdd, vs0, ccs, file, tf, lcd, hvs, hfile⟩ := x.codf
  obtain ⟨ar, har, hself⟩ := x.head
  rw [hbody]
  unfold xBody
  have hquiet := I0.quiet
  refine ks_wpAt_execs_cons (ks_wpAt_Expr_any (methCall_fewAt (by rfl) hline ?_) hquiet (by rfl))
  refine ks_wpAt_super_base (env := envF G fI s.heap.objs.size) (fd := PySem.W.fnX G.name G.qual G.params G.body G.scope [(("__class__" : Str), cc)] dV kV doc pm an (.ref cda) ct) x.ksup (x.S.frk _ (by simp)) (by decide) rfl (kin1 _ _ lk) rfl har (by show Value.ref G.c = _; rw [cl2]) (kin1 _ _ lcd) rfl hvs hfile x.top ?_
  obtain ⟨mb, b1, b2⟩ := I0.mod.blt
  have hgl : (envF G fI s.heap.objs.size).globals = mainGlobals := I0.ok.glob
  have hbl : (envF G fI s.heap.objs.size).builtins = builtinsNs := I0.ok.blt
  refine PySem.W.ks_loadName_global x.S.kind x.ksup (Calls.loadGlobal_builtin (by rw [hgl]; exact I0.mod.glob.keeps I0.bk) hms (by rw [hbl]; exact b1.keeps I0.bk) ((b2 _ (by decide)).trans (show bootBuiltins ("super" : Str) = some (.type "super") by decide +kernel)) ⟨rfl, ?_⟩)
  refine wpAny_loadName_free x.S.kind (x.S.frk _ (by simp)) (c := cc) (by show G.cl.lookup _ = _; rw [cl1]; rfl) ⟨_, kin1 _ _ lcc, rfl⟩ ?_
  refine wpAny_loadName_local x.S.kind (by rw [hself]; exact x.S.par _ (by simp)) hns (v := .ref a) ?_ ?_
  · rw [hself]
    exact zip_look (i := 0) (by have := x.S.nd; simp only [List.nodup_cons] at this ⊢; simp_all) rfl rfl
  refine ks_wpAny_isType_cls hC rfl ⟨rfl, ?_⟩
  refine ks_wpAny_call_super hC rfl hoa rfl (fun c e => by cases e) (PySem.W.looks_mroIn kin1 x.sub) fun h2 e2 k2' => ?_
  have hso := e2
  have kin2 : K.In h2 := kin1.keeps k2'
  have hcl : PySem.W.clsIn K C = some { name := nm, bases := bs, mro := .ref C :: bm, ns := N0, qualname := q0, hasDict := true, slotNames := sn, subclasses := sub, abstract := ab, collection := col, hasDel := false } := by unfold PySem.W.clsIn; rw [lC] <;> rfl
  have hsup := x.sup
  unfold PySem.W.ks_superIn at hsup
  rw [hcl] at hsup
  have hoa2 : h2.get? a = some ({ cls := .ref C, dict := none, data := .fields #[.ref t0, .none, .none, .none, .bool false, .none] } : Obj) := k2' _ _ hoa
  have IA : PySem.W.InstAt h2 a ({ cls := .ref C, dict := none, data := .fields #[.ref t0, .none, .none, .none, .bool false, .none] } : Obj) C none := ⟨hoa2, rfl, rfl, trivial⟩
  intro pl
  refine PySem.W.kxs_getMethod PySem.W.kxs_ValueError hso (PySem.W.looks_opaque kin2 x.opq) (l₀ := .ref C :: bm) (fun A Q E s k q => wpAny_bind ((PySem.W.looks_clsIn kin2 hcl) A _ E s k (wpAny_pure q))) rfl kin2 hsup (IA.type.andThen (PySem.W.looks_subIn kin2 x.subV)) (PySem.W.ks_ne kin2 IA hcl) (by decide) ?_
  generalize hu : h2.objs.size = u
  have hmw : (h2.push (PySem.W.kxs_mw "ValueError.__init__" a)).get? u = some (PySem.W.kxs_mw "ValueError.__init__" a) := by rw [← hu]; exact Heap.get?_push_size _ rfl
  have k3' : ∀ b o, h2.get? b = some o → (h2.push (PySem.W.kxs_mw "ValueError.__init__" a)).get? b = some o := fun b o e => Heap.get?_push_of_some _ e
  refine PySem.W.kxs_callWith (i := "ValueError.__init__") (x := a) (by rfl) (Calls.evalArgs_plain ?_)
  have I2 := keepI (t' := s.toks + (([("self" : Str), f1, f2] : List Str).zip [Value.ref a, us1, us2]).length) I0 k2'
  have hfs : ∀ b ∈ frs outer, ∃ o, s.heap.get? b = some o := fun b hb => by
    obtain ⟨_, o, e, _⟩ := e0.funs.mem hb
    exact ⟨o, e⟩
  have Imw := (keepI (t' := s.toks + (([("self" : Str), f1, f2] : List Str).zip [Value.ref a, us1, us2]).length + 1) I2 k3').pins_of (pins' := [(u, PySem.W.kxs_mw "ValueError.__init__" a)]) fun p hp => by
    have hp : p = (u, PySem.W.kxs_mw "ValueError.__init__" a) := by simpa using hp
    subst hp
    refine ⟨hmw, by rw [← hu]; exact I2.hok.fresh (Nat.le_refl _), by rw [← hu]; exact Nat.ne_of_gt I2.lt, fun hb => ?_, fun v z => by cases z⟩
    obtain ⟨o, e⟩ := hfs _ hb
    have := Heap.lt_size (k2' _ _ (kp _ _ e))
    rw [hu] at this
    exact Nat.lt_irrefl _ this
  have vis : ∀ x ∈ ([("self" : Str), f1, f2] : List Str), Vis G.scope x := fun y hy => .inl (x.S.par y hy)
  have PAa : PA (ncx (L2.CX P w) P w K mg base ([("self" : Str), f1, f2, ("__class__" : Str)] : List Str) G fI A outer s H E) [.Name f1 (p 3), .Name f2 (p 4)] (tCons (tVar 1) (tCons (tVar 2) tNil)) :=
    pa_cons (pe_var (by rfl) (vis _ (by simp)) x.db.1 x.db.2.1) (pa_cons (pe_var (by rfl) (vis _ (by simp)) x.db.2.2.1 x.db.2.2.2) pa_nil (by rfl)) (by rfl)
  refine wpAny_mono (PAa.run (p 5) _ _ _ H (fun xs H' => xs = [y1, y2] ∧ H' = H) Imw ⟨y1, rfl, y2, rfl, rfl, rfl⟩) (fun vs s3 hs3 => ?_) fun _ _ h => h
  obtain ⟨xs, H', I3, r3, rfl, rfl⟩ := hs3
  obtain ⟨hu3, _⟩ := I3.pin (u, PySem.W.kxs_mw "ValueError.__init__" a) (by simp)
  refine ⟨hu3, ?_⟩
  obtain ⟨t1, he3⟩ := exo_at I3.hok ha
  have hvl : vs.length = 2 := r3.length.symm
  refine mw_call x.T I3.kIn hu3 he3 (by show vs.length ≤ sizeLine; rw [hvl, sizeLine_eq]; decide) fun h4 kk he4 => ?_
  obtain ⟨t2, he4⟩ := he4
  have J := I3.write (t' := s3.toks) (x := a) (e := a) (o := exo a C none) (by rw [ha]; exact True.intro) (.inl rfl) kk ⟨_, he4⟩ (exo_ok he4)
  have eu : upd H' a (exo a C none) = H' := by
    funext b
    by_cases hb : b = a
    · rw [hb, upd_same, ha]
    · rw [upd_ne hb]
  rw [eu] at J
  have J := J.pins_of (pins' := []) (fun p hp => by cases hp)
  refine _root_.PySem.wpAt_of_wpAny ?_
  refine wpAny_mono ((xrest (p := p) (X := ncx (L2.CX P w) P w K mg base ([("self" : Str), f1, f2, ("__class__" : Str)] : List Str) G fI A outer s H' E) (C := C) x.T x.n1 x.n2 rfl vis x.db).run [] _ _ H' { nx := fun _ H' => Q .non H', rt := Q } J ⟨a, y1, y2, rfl, rfl, rfl, ha, fun d hd hda => ?_⟩) (fun fl s' hs => ?_) fun e s' hs => hs
  · have := q d hd hda
    have e : upd (upd (upd H' d (exd d [(f1, y1)])) a (exo a C (some d))) d (exd d [(f2, y2), (f1, y1)]) = upd (upd H' d (exd d [(f1, y1), (f2, y2)])) a (exo a C (some d)) := by
      funext b
      by_cases h1 : b = d
      · subst h1; rw [upd_same, upd_ne hda, upd_same, exd_swap x.ne]
      · rw [upd_ne h1]
        by_cases h2 : b = a
        · subst h2; rw [upd_same, upd_same]
        · rw [upd_ne h2, upd_ne h1, upd_ne h2, upd_ne h1]
    rw [e]; exact this
  · cases fl with
    | ret u =>
      obtain ⟨v, σ', H2, J2, rv, q2⟩ := hs
      exact ⟨v, H2, J2.os, J2.bare, J2.base, J2.hok, rv, q2⟩
    | next =>
      obtain ⟨σ', H2, J2, q2⟩ := hs
      exact ⟨V.non, H2, J2.os, J2.bare, J2.base, J2.hok, rfl, q2⟩
    | brk => obtain ⟨_, _, _, q2⟩ := hs; exact False.elim q2
    | cont => obtain ⟨_, _, _, q2⟩ := hs; exact False.elim q2
end
end PyI

set_option maxRecDepth 100000
set_option maxHeartbeats 4000000
namespace PyI
open PySem PySem.Spec PyProof.Rows L2 NdefX
/-! ## an exception's class whose __init__ says super().__init__(a), self.a = a -/
def xBody1 (f1 : Str) (p : Nat → Pos) : List Stmt :=
  [.Expr (.Call (.Attribute (.Call (.Name "super" (p 0)) [] [] (p 1)) "__init__" (p 2)) [.Name f1 (p 3)] [] (p 5)) (p 6),
   .Assign [.Attribute (.Name "self" (p 7)) f1 (p 8)] (.Name f1 (p 9)) (p 10)]
structure XInit1 (P : Program) (K : PySem.W.Frag) (C : Addr) (f1 : Str) (fI cda cc : Addr) (G : NF) (fd : FuncData) : Prop where
  lk : ∃ (oc : Value) (od : Option Addr) (osl : Array (Option Value)) (dV kV doc pm : Value) (an : Option Addr) (ct : Value), fd = PySem.W.fnX G.name G.qual G.params G.body G.scope [(("__class__" : Str), cc)] dV kV doc pm an (.ref cda) ct ∧ K.lookup fI = some ⟨oc, od, .func fd, osl⟩
  hF : G.cl = [(("__class__" : Str), cc)] ∧ G.c = cda
  code : PySem.W.codeIn K (.ref cda) G.qual = true
  codf : ∃ (ccl : Value) (cdd : Option Addr) (vs : Array Value) (ccs : Array (Option Value)) (file : Str) (tf : Tok), K.lookup cda = some ⟨ccl, cdd, .fields vs, ccs⟩ ∧ vs[2]? = some (.str file tf) ∧ ((P.main.file : Str) == file) = true
  cell : ∃ (cl : Value) (cld : Option Addr) (csl : Array (Option Value)), K.lookup cc = some ⟨cl, cld, .cell (some (.ref C)), csl⟩
  head : ∃ ar : Arg, (G.params.posonlyargs ++ G.params.args).head? = some ar ∧ ar.arg = "self"
  S : NScope ([("self" : Str), f1, ("__class__" : Str)] : List Str) ([("self" : Str), f1] : List Str) ([("__class__" : Str)] : List Str) G.scope
  ksup : G.scope.names.lookup ("super" : Str) = some .globalImplicit
  top : (P.main.scope.names.lookup ("super" : Str)).isSome = false
  sup : PySem.W.ks_superIn K C C "__init__" = some (some (.builtin "ValueError.__init__"))
  sub : PySem.W.mroIn K C (.ref C) = some true
  subV : PySem.W.subIn K (.ref C) (.type "ValueError") = some true
  opq : PySem.W.nsIn K cStatics "thirdparty.any" = some none
  T : OexC K C
  n1 : PySem.W.findIn K (.ref C) f1 = some none
  body : ∃ p : Nat → Pos, G.body = xBody1 f1 p ∧ ((p 2).endLine == (p 5).line) = true
  db : (f1 == ("__debug__" : Str)) = false ∧ (f1 == ("__classdict__" : Str)) = false
def spX1 (C : Addr) (f1 : Str) : Sp := fun vs H Q _ => ∃ a y1, vs = [.ref a, y1] ∧ H a = some (exo a C none) ∧ ∀ d, H d = none → d ≠ a → Q .non (upd (upd H d (exd d [(f1, y1)])) a (exo a C (some d)))
section
variable {P : Program} {w : World} {K : PySem.W.Frag} {mg : Str → Option Value} {base : Heap} {C fI cda cc : Addr} {f1 : Str} {G : NF} {fd : FuncData} {k : Nat}
theorem xrest1 {X : Cx} {p : Nat → Pos} (T : OexC X.K C) (n1 : PySem.W.findIn X.K (.ref C) f1 = some none) (hN : X.N = ([("self" : Str), f1, ("__class__" : Str)] : List Str)) (hv : ∀ x ∈ ([("self" : Str), f1] : List Str), Vis X.env.scope x)
    (db : (f1 == ("__debug__" : Str)) = false ∧ (f1 == ("__classdict__" : Str)) = false) :
    PSs X [.Assign [.Attribute (.Name "self" (p 7)) f1 (p 8)] (.Name f1 (p 9)) (p 10)]
      (fun D σ H => ∃ a y1, σ[0]? = some (some (.ref a)) ∧ σ[1]? = some (some y1) ∧ H a = some (exo a C none) ∧ ∀ d, H d = none → d ≠ a → D.nx σ (upd (upd H d (exd d [(f1, y1)])) a (exo a C (some d)))) := by
  have v0 : ∀ q, PE X (.Name "self" q) (tVar 0) := fun q => pe_var (by rw [hN]; rfl) (hv _ (by simp)) (by decide) (by decide)
  have v1 : ∀ q, PE X (.Name f1 q) (tVar 1) := fun q => pe_var (by rw [hN]; rfl) (hv _ (by simp)) db.1 db.2
  refine PSs_imp (pss_cons (ps_ost (v0 _) (v1 _)) pss_nil) fun D σ H h => ?_
  obtain ⟨a, y1, e0, e1, ha, q⟩ := h
  exact ⟨y1, e1, .ref a, e0, a, C, rfl, T, n1, .inl ⟨ha, fun d hd hda => q d hd hda⟩⟩
theorem xinit1_ok (x : XInit1 P K C f1 fI cda cc G fd) (hms : mg "super" = none) (k : Nat) : FnOk P w K mg base (L2.CX P w) (k + 1) fI fd ([("self" : Str), f1] : List Str) (spX1 C f1) := by
  refine ⟨fun vs H Q E h => ?_, fun A outer s H args us vs Q E hr e0 hb r hsp => ?_⟩
  · obtain ⟨a, y1, rfl, _⟩ := h; rfl
  obtain ⟨a, y1, rfl, ha, q⟩ := hsp
  obtain ⟨oc, od, osl, dV, kV, doc, pm, an, ct, rfl, lk⟩ := x.lk
  obtain ⟨cl1, cl2⟩ := x.hF
  have kin : K.In s.heap := e0.mod.kin.keeps fun b o e => (e0.bs b o e).1
  have ho := kin _ _ lk
  have lim : s.heap.NoLimit := e0.mod.nolimit.keeps fun b o e => (e0.bs b o e).1
  obtain ⟨p, hbody, hline⟩ := x.body
  have hl : ([V.ref a, y1] : List V).length = ([("self" : Str), f1] : List Str).length := rfl
  have nocell : ∀ y ∈ G.scope.names, y.2 ≠ .cell := x.S.nocell
  refine ks_codeAny_call_defAt (body := G.body) (binds := ([("self" : Str), f1] : List Str).zip us) hr.depth ho rfl lim (PySem.W.codeRec_of kin x.code) rfl hb nocell (fun ⟨n, _⟩ hy => x.S.par n (List.of_mem_zip hy).1) (fun h₁ hns kp => ?_) x.S.co x.S.gen x.S.kind
  have hE : callEnv (PySem.W.fnX G.name G.qual G.params G.body G.scope [(("__class__" : Str), cc)] dV kV doc pm an (.ref cda) ct) s.heap.objs.size fI = envF G fI s.heap.objs.size := by
    show PySem.W.envX G.qual G.scope s.heap.objs.size fI (.ref cda) [(("__class__" : Str), cc)] = PySem.W.envX G.qual G.scope s.heap.objs.size fI (.ref G.c) G.cl
    rw [cl1, cl2]
  rw [hE]
  obtain ⟨cl, cld, csl, lcc⟩ := x.cell
  have hcc := e0.bs _ _ (e0.mod.kin _ _ lcc)
  have CA : CellsAt G.cl ([("__class__" : Str)] : List Str) [none] s.heap H := by
    have lk1 : ∀ y c, G.cl.lookup y = some c → y = ("__class__" : Str) ∧ c = cc := fun y c e => by
      rw [cl1, List.lookup_cons] at e
      cases q : y == ("__class__" : Str) with
      | true => rw [q] at e; exact ⟨beq_iff_eq.mp q, (Option.some.inj e).symm⟩
      | false => rw [q] at e; cases e
    refine ⟨rfl, fun y c e => ?_, fun x y c e1 e2 => (lk1 _ _ e1).1.trans (lk1 _ _ e2).1.symm, fun i y e => ?_⟩
    · obtain ⟨_, rfl⟩ := lk1 y c e
      exact ⟨hcc.2, _, _, hcc.1, rfl⟩
    · cases i with
      | zero =>
        simp at e
        subst e
        exact ⟨cc, by rw [cl1, List.lookup_cons_self], fun v h => by simp at h⟩
      | succ i => simp at e
  have I0 : Inv (ncx (L2.CX P w) P w K mg base ([("self" : Str), f1, ("__class__" : Str)] : List Str) G fI A outer s H E) [] (startF ([("self" : Str), f1, ("__class__" : Str)] : List Str) [V.ref a, y1] [none]) H { s with heap := h₁, toks := s.toks + (([("self" : Str), f1] : List Str).zip us).length } :=
    inv_startN x.S hr.hd e0 hl r CA hns kp
  have keepI : ∀ {X : Cx} {σ : L2.St} {H : Hp} {s1 : Shared} {h' : Heap} {t' : Nat}, Inv X [] σ H s1 → (∀ b u, s1.heap.get? b = some u → h'.get? b = some u) → Inv X [] σ H { s1 with heap := h', toks := t' } := fun I k => I.kept k
  obtain ⟨us0, us1, rfl⟩ : ∃ u0 u1, us = [u0, u1] := by
    have := r.length
    match us, this with
    | [u0, u1], _ => exact ⟨u0, u1, rfl⟩
  have ru0 : us0 = Value.ref a := by
    cases r with
    | cons r0 _ => exact r0
  subst ru0
  obtain ⟨t0, hoa⟩ := exo_at (I0.hok) ha
  obtain ⟨nm, q0, N0, bs, bm, sn, sub, ab, col, dd, k0, k1, k2, k3, k5, lC, hbm⟩ := x.T.cls
  have kin1 : K.In h₁ := I0.kIn
  have hC := kin1 _ _ lC
  obtain ⟨ccl, cdd, vs0, ccs, file, tf, lcd, hvs, hfile⟩ := x.codf
  obtain ⟨ar, har, hself⟩ := x.head
  rw [hbody]
  unfold xBody1
  have hquiet := I0.quiet
  refine ks_wpAt_execs_cons (ks_wpAt_Expr_any (methCall_fewAt (by rfl) hline ?_) hquiet (by rfl))
  refine ks_wpAt_super_base (env := envF G fI s.heap.objs.size) (fd := PySem.W.fnX G.name G.qual G.params G.body G.scope [(("__class__" : Str), cc)] dV kV doc pm an (.ref cda) ct) x.ksup (x.S.frk _ (by simp)) (by decide) rfl (kin1 _ _ lk) rfl har (by show Value.ref G.c = _; rw [cl2]) (kin1 _ _ lcd) rfl hvs hfile x.top ?_
  obtain ⟨mb, b1, b2⟩ := I0.mod.blt
  have hgl : (envF G fI s.heap.objs.size).globals = mainGlobals := I0.ok.glob
  have hbl : (envF G fI s.heap.objs.size).builtins = builtinsNs := I0.ok.blt
  refine PySem.W.ks_loadName_global x.S.kind x.ksup (Calls.loadGlobal_builtin (by rw [hgl]; exact I0.mod.glob.keeps I0.bk) hms (by rw [hbl]; exact b1.keeps I0.bk) ((b2 _ (by decide)).trans (show bootBuiltins ("super" : Str) = some (.type "super") by decide +kernel)) ⟨rfl, ?_⟩)
  refine wpAny_loadName_free x.S.kind (x.S.frk _ (by simp)) (c := cc) (by show G.cl.lookup _ = _; rw [cl1]; rfl) ⟨_, kin1 _ _ lcc, rfl⟩ ?_
  refine wpAny_loadName_local x.S.kind (by rw [hself]; exact x.S.par _ (by simp)) hns (v := .ref a) ?_ ?_
  · rw [hself]
    exact zip_look (i := 0) (by have := x.S.nd; simp only [List.nodup_cons] at this ⊢; simp_all) rfl rfl
  refine ks_wpAny_isType_cls hC rfl ⟨rfl, ?_⟩
  refine ks_wpAny_call_super hC rfl hoa rfl (fun c e => by cases e) (PySem.W.looks_mroIn kin1 x.sub) fun h2 e2 k2' => ?_
  have hso := e2
  have kin2 : K.In h2 := kin1.keeps k2'
  have hcl : PySem.W.clsIn K C = some { name := nm, bases := bs, mro := .ref C :: bm, ns := N0, qualname := q0, hasDict := true, slotNames := sn, subclasses := sub, abstract := ab, collection := col, hasDel := false } := by unfold PySem.W.clsIn; rw [lC] <;> rfl
  have hsup := x.sup
  unfold PySem.W.ks_superIn at hsup
  rw [hcl] at hsup
  have hoa2 : h2.get? a = some ({ cls := .ref C, dict := none, data := .fields #[.ref t0, .none, .none, .none, .bool false, .none] } : Obj) := k2' _ _ hoa
  have IA : PySem.W.InstAt h2 a ({ cls := .ref C, dict := none, data := .fields #[.ref t0, .none, .none, .none, .bool false, .none] } : Obj) C none := ⟨hoa2, rfl, rfl, trivial⟩
  intro pl
  refine PySem.W.kxs_getMethod PySem.W.kxs_ValueError hso (PySem.W.looks_opaque kin2 x.opq) (l₀ := .ref C :: bm) (fun A Q E s k q => wpAny_bind ((PySem.W.looks_clsIn kin2 hcl) A _ E s k (wpAny_pure q))) rfl kin2 hsup (IA.type.andThen (PySem.W.looks_subIn kin2 x.subV)) (PySem.W.ks_ne kin2 IA hcl) (by decide) ?_
  generalize hu : h2.objs.size = u
  have hmw : (h2.push (PySem.W.kxs_mw "ValueError.__init__" a)).get? u = some (PySem.W.kxs_mw "ValueError.__init__" a) := by rw [← hu]; exact Heap.get?_push_size _ rfl
  have k3' : ∀ b o, h2.get? b = some o → (h2.push (PySem.W.kxs_mw "ValueError.__init__" a)).get? b = some o := fun b o e => Heap.get?_push_of_some _ e
  refine PySem.W.kxs_callWith (i := "ValueError.__init__") (x := a) (by rfl) (Calls.evalArgs_plain ?_)
  have I2 := keepI (t' := s.toks + (([("self" : Str), f1] : List Str).zip [Value.ref a, us1]).length) I0 k2'
  have hfs : ∀ b ∈ frs outer, ∃ o, s.heap.get? b = some o := fun b hb => by
    obtain ⟨_, o, e, _⟩ := e0.funs.mem hb
    exact ⟨o, e⟩
  have Imw := (keepI (t' := s.toks + (([("self" : Str), f1] : List Str).zip [Value.ref a, us1]).length + 1) I2 k3').pins_of (pins' := [(u, PySem.W.kxs_mw "ValueError.__init__" a)]) fun p hp => by
    have hp : p = (u, PySem.W.kxs_mw "ValueError.__init__" a) := by simpa using hp
    subst hp
    refine ⟨hmw, by rw [← hu]; exact I2.hok.fresh (Nat.le_refl _), by rw [← hu]; exact Nat.ne_of_gt I2.lt, fun hb => ?_, fun v z => by cases z⟩
    obtain ⟨o, e⟩ := hfs _ hb
    have := Heap.lt_size (k2' _ _ (kp _ _ e))
    rw [hu] at this
    exact Nat.lt_irrefl _ this
  have vis : ∀ x ∈ ([("self" : Str), f1] : List Str), Vis G.scope x := fun y hy => .inl (x.S.par y hy)
  have PAa : PA (ncx (L2.CX P w) P w K mg base ([("self" : Str), f1, ("__class__" : Str)] : List Str) G fI A outer s H E) [.Name f1 (p 3)] (tCons (tVar 1) tNil) :=
    pa_cons (pe_var (by rfl) (vis _ (by simp)) x.db.1 x.db.2) pa_nil (by rfl)
  refine wpAny_mono (PAa.run (p 5) _ _ _ H (fun xs H' => xs = [y1] ∧ H' = H) Imw ⟨y1, rfl, rfl, rfl⟩) (fun vs s3 hs3 => ?_) fun _ _ h => h
  obtain ⟨xs, H', I3, r3, rfl, rfl⟩ := hs3
  obtain ⟨hu3, _⟩ := I3.pin (u, PySem.W.kxs_mw "ValueError.__init__" a) (by simp)
  refine ⟨hu3, ?_⟩
  obtain ⟨t1, he3⟩ := exo_at I3.hok ha
  have hvl : vs.length = 1 := r3.length.symm
  refine mw_call x.T I3.kIn hu3 he3 (by show vs.length ≤ sizeLine; rw [hvl, sizeLine_eq]; decide) fun h4 kk he4 => ?_
  obtain ⟨t2, he4⟩ := he4
  have J := I3.write (t' := s3.toks) (x := a) (e := a) (o := exo a C none) (by rw [ha]; exact True.intro) (.inl rfl) kk ⟨_, he4⟩ (exo_ok he4)
  have eu : upd H' a (exo a C none) = H' := by
    funext b
    by_cases hb : b = a
    · rw [hb, upd_same, ha]
    · rw [upd_ne hb]
  rw [eu] at J
  have J := J.pins_of (pins' := []) (fun p hp => by cases hp)
  refine _root_.PySem.wpAt_of_wpAny ?_
  refine wpAny_mono ((xrest1 (p := p) (X := ncx (L2.CX P w) P w K mg base ([("self" : Str), f1, ("__class__" : Str)] : List Str) G fI A outer s H' E) (C := C) x.T x.n1 rfl vis x.db).run [] _ _ H' { nx := fun _ H' => Q .non H', rt := Q } J ⟨a, y1, rfl, rfl, ha, fun d hd hda => ?_⟩) (fun fl s' hs => ?_) fun e s' hs => hs
  · exact q d hd hda
  · cases fl with
    | ret u =>
      obtain ⟨v, σ', H2, J2, rv, q2⟩ := hs
      exact ⟨v, H2, J2.os, J2.bare, J2.base, J2.hok, rv, q2⟩
    | next =>
      obtain ⟨σ', H2, J2, q2⟩ := hs
      exact ⟨V.non, H2, J2.os, J2.bare, J2.base, J2.hok, rfl, q2⟩
    | brk => obtain ⟨_, _, _, q2⟩ := hs; exact False.elim q2
    | cont => obtain ⟨_, _, _, q2⟩ := hs; exact False.elim q2
end
end PyI

set_option maxRecDepth 100000
set_option maxHeartbeats 4000000
namespace PyI
open PySem PySem.Spec PyProof.Rows L2
/-! ## a call's end -/
section
variable {K : PySem.W.Frag}
mutual
theorem Rep.lim {z : Zw} : ∀ {d : D} {v : V}, Rep K z d v → d.lim z.ρ.length = true
  | .non, _, _ => rfl
  | .bl _, _, _ => rfl
  | .int _, _, _ => rfl
  | .str _, _, _ => rfl
  | .edic, _, _ => rfl
  | .clo _ _ _ _, _, _ => rfl
  | .ftup ds, _, h => by unfold Rep at h; obtain ⟨_, _, _, _, _, h⟩ := h; simpa [D.lim] using h.lims
  | .exc _ _ _ ds, _, h => by unfold Rep at h; obtain ⟨_, _, _, _, h⟩ := h; simpa [D.lim] using h.lims
  | .tup ds, _, h => by unfold Rep at h; obtain ⟨_, _, _, _, _, h⟩ := h; simpa [D.lim] using h.lims
  | .lst ds, _, h => by unfold Rep at h; obtain ⟨_, _, _, _, _, h⟩ := h; simpa [D.lim] using h.lims
  | .rol ds, _, h => by unfold Rep at h; obtain ⟨_, _, _, _, _, h⟩ := h; simpa [D.lim] using h.lims
  | .obj r, _, h => by
    unfold Rep at h
    obtain ⟨a, _, h⟩ := h
    simp only [D.lim, decide_eq_true_eq]
    exact (List.getElem?_eq_some_iff.mp h).1
theorem Reps.lims {z : Zw} : ∀ {ds : List D} {vs : List V}, Reps K z ds vs → PyI.lims z.ρ.length ds = true
  | [], _, _ => rfl
  | d :: ds, _, h => by
    obtain ⟨v, r, rfl, h1, h2⟩ := h.cons_inv
    simp [PyI.lims, h1.lim, h2.lims]
end
/-- the first n of the store -/
def Zw.cut (z : Zw) (n : Nat) : Zw := ⟨z.hd, z.ρ.take n, z.S.take n, z.H⟩
theorem take_get {α : Type} {l : List α} {n i : Nat} {x : α} (h : (l.take n)[i]? = some x) : l[i]? = some x ∧ i < n := by
  have hi : i < (l.take n).length := (List.getElem?_eq_some_iff.mp h).1
  rw [List.length_take] at hi
  rw [List.getElem?_take_of_lt (by omega)] at h
  exact ⟨h, by omega⟩
theorem live_cut {z : Zw} {n : Nat} {a : Addr} (h : Live (z.cut n) a) : Live z a := by
  obtain ⟨r, mo, h1, h2, h3⟩ := h
  exact ⟨r, mo, (take_get h1).1, (take_get h2).1, h3⟩
theorem im_cut {z : Zw} {n : Nat} {a : Addr} {o : HO} (h : Im z a o) : Im (z.cut n) a o := ⟨h.1, fun l => h.2.1 (l.imp live_cut id), h.2.2⟩
mutual
theorem Rep.cut {z : Zw} {n : Nat} : ∀ {d : D} {v : V}, Rep K z d v → d.lim n = true → Rep K (z.cut n) d v
  | .non, _, h, _ => by unfold Rep at h ⊢; exact h
  | .bl _, _, h, _ => by unfold Rep at h ⊢; exact h
  | .int _, _, h, _ => by unfold Rep at h ⊢; exact h
  | .str _, _, h, _ => by unfold Rep at h ⊢; exact h
  | .edic, _, h, _ => by
    unfold Rep at h ⊢
    obtain ⟨a, e, h1⟩ := h
    exact ⟨a, e, im_cut h1⟩
  | .clo _ _ _ _, _, h, _ => by unfold Rep at h ⊢; exact h
  | .ftup ds, _, h, l => by
    unfold Rep at h ⊢
    obtain ⟨a, xs, e, ⟨q, h1, h4⟩, h2, h3⟩ := h
    exact ⟨a, xs, e, ⟨q, im_cut h1, h4⟩, h2, h3.cut' (by simpa [D.lim] using l)⟩
  | .exc _ _ _ ds, _, h, l => by
    unfold Rep at h ⊢
    obtain ⟨e, hl, vs, h1, h2⟩ := h
    exact ⟨e, hl, vs, im_cut h1, h2.cut' (by simpa [D.lim] using l)⟩
  | .tup ds, _, h, l => by
    unfold Rep at h ⊢
    obtain ⟨a, xs, e, h1, h2, h3⟩ := h
    exact ⟨a, xs, e, h1.imp (fun h => h.imp im_cut fun ⟨q, h⟩ => ⟨q, im_cut h⟩) id, h2, h3.cut' (by simpa [D.lim] using l)⟩
  | .lst ds, _, h, l => by
    unfold Rep at h ⊢
    obtain ⟨a, xs, e, h1, h2, h3⟩ := h
    exact ⟨a, xs, e, im_cut h1, h2, h3.cut' (by simpa [D.lim] using l)⟩
  | .rol ds, _, h, l => by
    unfold Rep at h ⊢
    obtain ⟨a, xs, e, h1, h2, h3⟩ := h
    exact ⟨a, xs, e, h1.imp (fun ⟨o, q, r⟩ => ⟨o, im_cut q, r⟩) id, h2, h3.cut' (by simpa [D.lim] using l)⟩
  | .obj r, _, h, l => by
    unfold Rep at h ⊢
    obtain ⟨a, e, h1⟩ := h
    simp only [D.lim, decide_eq_true_eq] at l
    refine ⟨a, e, ?_⟩
    show (z.ρ.take n)[r]? = some a
    rw [List.getElem?_take_of_lt l]; exact h1
theorem Reps.cut' {z : Zw} {n : Nat} : ∀ {ds : List D} {vs : List V}, Reps K z ds vs → PyI.lims n ds = true → Reps K (z.cut n) ds vs
  | [], _, h, _ => by rw [h.nil_inv]; exact .nil
  | d :: ds, _, h, l => by
    obtain ⟨v, r, rfl, h1, h2⟩ := h.cons_inv
    have l : d.lim n = true ∧ PyI.lims n ds = true := by simpa [PyI.lims] using l
    exact .cons (h1.cut l.1) (h2.cut' l.2)
end
theorem cut_ok {z z1 : Zw} (s : StOk K z) (x : Ext z z1) (s1 : StOk K z1) (hl : z.S.length ≤ z1.S.length) (ht : TrOk z.S z1.S) : Ext z (z1.cut z.S.length) ∧ StOk K (z1.cut z.S.length) := by
  have hr : z1.ρ.take z.S.length = z.ρ := by
    obtain ⟨t, e⟩ := x.pre
    rw [← e, ← s.len]; simp
  refine ⟨⟨by show z.ρ <+: z1.ρ.take _; rw [hr]; exact List.prefix_refl _, fun a o h => im_cut (x.im a o h), x.hd, x.hk⟩, ⟨?_, s1.nd.sublist (List.take_sublist _ _), fun a ha => s1.tr a (List.mem_of_mem_take ha), s1.ht, fun a ha => s1.dj a (List.mem_of_mem_take ha), fun r mo a h1 h2 => ?_, s1.tb⟩⟩
  · show (z1.ρ.take _).length = (z1.S.take _).length
    rw [List.length_take, List.length_take, s1.len]
  · obtain ⟨k1, k2⟩ := take_get h1
    obtain ⟨k3, _⟩ := take_get h2
    have q := s1.ob r mo a k1 k3
    cases mo with
    | dead => trivial
    | ins C ns fs =>
      obtain ⟨c0, c1, dx, vs, q1, q3⟩ := q
      refine ⟨c0, c1, dx, vs, q1, q3.cut' ?_⟩
      rcases ht r _ k2 k1 with e | e
      · obtain ⟨_, _, _, vs0, _, r0⟩ := s.ob r _ a e (by
          rw [← hr]; exact h2)
        have := r0.lims
        rwa [s.len] at this
      · exact e
    | lst ds =>
      obtain ⟨xs, q1, q2, q3⟩ := q
      refine ⟨xs, q1, q2, q3.cut' ?_⟩
      rcases ht r _ k2 k1 with e | e
      · obtain ⟨xs0, _, _, r0⟩ := s.ob r _ a e (by
          rw [← hr]; exact h2)
        have := r0.lims
        rwa [s.len] at this
      · exact e
theorem trunc_ok {z z1 : Zw} {d : D} {v : V} (s : StOk K z) (x : Ext z z1) (s1 : StOk K z1) (r : Rep K z1 d v) : ∃ z2 : Zw, z2.H = z1.H ∧ z2.S = trunc z.S (d.lim z.S.length) z1.S ∧ Ext z z2 ∧ StOk K z2 ∧ Rep K z2 d v := by
  unfold trunc
  split
  · rename_i h
    obtain ⟨h1, h2, h3⟩ := h
    obtain ⟨a, b⟩ := cut_ok s x s1 h2 h3
    exact ⟨z1.cut z.S.length, rfl, rfl, a, b, r.cut h1⟩
  · exact ⟨z1, rfl, rfl, x, s1, r⟩
end
/-! ## the text's defs -/
/-- a def of the text: where it stands and what it is -/
structure FnRow where
  name : String
  own : Str
  qual : Str
  at_ : Str × Option Str
  ps : List Str
  N : List Str
  params : Arguments
  body : List Stmt
  scope : Scope
  ev : Sms
def FnRow.pl0 (r : FnRow) : Bool := decide (r.own = Str.ofString r.name) && decide (r.qual = Str.ofString r.name)
def FnRow.fn (r : FnRow) : Fn := ⟨r.ps.length, r.N.length, r.ev⟩
def scB (N P : List Str) (sc : Scope) : Bool := decide (sc.kind = .function) && !sc.isCoroutine && !sc.isGenerator && decide N.Nodup && decide (N.take P.length = P) && P.all (fun x => stoB sc x) && sc.names.all (fun y => decide (y.2 ≠ .free))
theorem scB_ok {N P : List Str} {sc : Scope} (h : scB N P sc = true) : FnScope N P sc := by
  unfold scB at h
  simp only [Bool.and_eq_true, Bool.not_eq_true', decide_eq_true_eq] at h
  obtain ⟨⟨⟨⟨⟨⟨h1, h2⟩, h3⟩, h4⟩, h5⟩, h6⟩, h7⟩ := h
  refine ⟨h1, h2, h3, h4, h5, fun x hx => ?_, fun y hy => ?_⟩
  · have := List.all_eq_true.mp h6 x hx
    unfold stoB at this
    split at this
    · exact .inl (by assumption)
    · exact .inr (by assumption)
    · cases this
  · exact of_decide_eq_true (List.all_eq_true.mp h7 y hy)
def FnRow.ok (fns : List String) (r : FnRow) : Bool := scB r.N r.ps r.scope && mSs fns r.N r.scope r.ev r.body
structure RowF (K : PySem.W.Frag) (T : String → Option Fn) (fns : List String) (r : FnRow) (fa : Addr) (fd : FuncData) : Prop where
  fun_ : FunD K r.own r.qual r.params r.body r.scope [] [] fa fd
  binds : L2.Binds K fd r.ps []
  ok : r.ok fns = true
  tab : T r.name = some r.fn
  cd : ∃ c P, fd.code = .ref c ∧ (c, P, r.qual) ∈ tbC K
structure Row (K : PySem.W.Frag) (mg : Str → Option Value) (T : String → Option Fn) (fns : List String) (r : FnRow) (fa : Addr) (fd : FuncData) : Prop extends RowF K T fns r fa fd where
  at_ : mg (Str.ofString r.name) = some (.ref fa)
def Tab (K : PySem.W.Frag) (mg : Str → Option Value) (T : String → Option Fn) (fns : List String) : Prop := ∀ f, fns.contains f = true → ∃ r fa fd, r.name = f ∧ Row K mg T fns r fa fd
/-- the plain classes -/
structure ClsT (K : PySem.W.Frag) (T : String → Option Fn) (fns : List String) (C : Addr) (ns : List String) (ms : List (String × String)) : Prop where
  cls : ClsI K C ns
  mks : PySem.W.makesIn K C = true
  kp : PySem.W.keepIn K (.ref C) = true
  meth : ∀ m key, ms.lookup m = some key → (∀ f ∈ ns, Str.ofString f ≠ Str.ofString m) ∧ ∃ r fa fd, r.name = key ∧ Meth K C (Str.ofString m) fa ∧ RowF K T fns r fa fd
def MTab (K : PySem.W.Frag) (T : String → Option Fn) (fns : List String) (con : String → Option D) : Prop := ∀ x C ns ms, con x = some (.clo false C ns ms) → ClsT K T fns C ns ms
/-- the classes of exceptions -/
structure XclT (P : Program) (w : World) (K : PySem.W.Frag) (mg : Str → Option Value) (C : Addr) (ns : List String) : Prop where
  T : OexC K C
  ex : ∃ (fI : Addr) (fd : FuncData) (ps : List Str), PySem.W.findIn K (.ref C) "__init__" = some (some (.ref fI)) ∧ PySem.W.typeIn K (.ref fI) = some (.type "function") ∧ L2.Binds K fd ps [] ∧
    ∀ base k, FnOk P w K mg base (L2.CX P w) (k + 1) fI fd ps (spX C ns)
  inj : NsOk ns
  xf : XfC K C
  no : ∀ f ∈ ns, PySem.W.findIn K (.ref C) (Str.ofString f) = some none
  exm : PySem.W.exmOne K (.ref C) (.ref C) = some true
  ne : ns ≠ []
def XTab (P : Program) (w : World) (K : PySem.W.Frag) (mg : Str → Option Value) (con : String → Option D) : Prop := (∀ x C ns ms, con x = some (.clo true C ns ms) → XclT P w K mg C ns) ∧ ∀ x C ns ms x' C' ns' ms', con x = some (.clo true C ns ms) → con x' = some (.clo true C' ns' ms') → PySem.W.exmOne K (.ref C) (.ref C') = some (decide (x = x'))
def Cons (K : PySem.W.Frag) (mg : Str → Option Value) (con : String → Option D) : Prop := ∀ g d, con g = some d → ∃ (u : Value) (v : V), mg (Str.ofString g) = some u ∧ RelV v u ∧ ∀ z, Rep K z d v
/-! ## askers -/
def aHsB (sg : Scope) (e : Str) : List ExceptHandler → Hds → Bool
  | [], [] => true
  | .ExceptHandler (some (.Name R _)) (some e1) [.Return (some (.Tuple [.Constant (.str lbl) _ _, .Attribute (.Name e2 _) f _] _ _)) _] _ :: hds, (x, lbl', fld) :: hs =>
    decide (R = Str.ofString x) && (decide (e1 = e) && (decide (e2 = e) && (decide (lbl = lbl') && (decide (f = Str.ofString fld) && (decide (sg.names.lookup (Str.ofString x) = some .globalImplicit) && (dbB (Str.ofString x) && aHsB sg e hds hs))))))
  | _, _ => false
theorem aHsB_ok {sg : Scope} {e : Str} : ∀ {hds : List ExceptHandler} {hs : Hds}, aHsB sg e hds hs = true → AHt sg e hds hs
  | hds, hs, h => by
    unfold aHsB at h
    split at h
    · exact .nil
    · simp only [Bool.and_eq_true, decide_eq_true_eq] at h
      obtain ⟨rfl, rfl, rfl, rfl, rfl, h1, h2, h3⟩ := h
      exact .cons h1 (db_ok h2).1 (aHsB_ok h3)
    · cases h
def aBodyB (sg : Scope) (a e told : Str) (hs : Hds) : List Stmt → Bool
  | [.Try [.Return (some (.Tuple [.Constant (.str told') _ _, .Call (.Name a' _) [] [] _] _ _)) _] (h₀ :: hds) [] [] _] => decide (told' = told) && (decide (a' = a) && aHsB sg e (h₀ :: hds) hs)
  | _ => false
theorem aBodyB_ok {sg : Scope} {a e told : Str} {hs : Hds} {b : List Stmt} (h : aBodyB sg a e told hs b = true) : ABody sg a e told hs b := by
  unfold aBodyB at h
  split at h
  · simp only [Bool.and_eq_true, decide_eq_true_eq] at h
    obtain ⟨rfl, rfl, h⟩ := h
    exact .mk (aHsB_ok h)
  · cases h
/-- an asker's text is as its reading tells -/
def askFit (r : FnRow) (told : Str) (hs : Hds) : Bool := r.pl0 && match r.ps, r.N with
  | [a], [a', e] => decide (a' = a) && (aBodyB r.scope a e told hs r.body && (decide (r.scope.names.lookup e = some .local) && (dbB a && dbB e)))
  | _, _ => false
def ATab (K : PySem.W.Frag) (mg : Str → Option Value) (T : String → Option Fn) (fns : List String) : Prop := ∀ g told hs, akT T g = some (told, hs) → ∃ r fa fd, r.name = g ∧ Row K mg T fns r fa fd ∧ askFit r told hs = true
theorem ask_ok {X : Cx} {T : String → Option Fn} {fns : List String} (hA : ATab X.K X.mg T fns) {k : Nat} (hr : Room (k + 3) X.A) {g : String} {told : Str} {hs : Hds} (h : akT T g = some (told, hs)) : AskOk X k g told hs := by
  obtain ⟨r, fa, fd, rfl, R, hf⟩ := hA g told hs h
  unfold askFit at hf
  obtain ⟨h0, hf⟩ := ba3 hf
  obtain ⟨o1, o2⟩ := ba3 (show (decide (r.own = Str.ofString r.name) && decide (r.qual = Str.ofString r.name)) = true from h0)
  have o1 := of_decide_eq_true o1
  have o2 := of_decide_eq_true o2
  split at hf
  · rename_i a a' e hps hN
    simp only [Bool.and_eq_true, decide_eq_true_eq] at hf
    obtain ⟨rfl, hB, m1, m4, m5⟩ := hf
    obtain ⟨hsc, _⟩ := ba3 (show (scB r.N r.ps r.scope && mSs fns r.N r.scope r.ev r.body) = true from R.ok)
    have S := scB_ok hsc
    rw [hps, hN] at S
    have B := R.binds
    rw [hps] at B
    obtain ⟨oc, od, dV, kV, doc, pm, an, cdv, ct, osl, rfl, lk, hcd, _, _⟩ := R.fun_.ex
    rw [o1, o2] at lk B
    rw [o2] at hcd
    obtain ⟨d1, d2, _⟩ := db_ok m4
    obtain ⟨d3, d4, _⟩ := db_ok m5
    exact ⟨⟨fa, _, _, _, _, _, _, _, _, _, _, _, _, _, _, _, R.at_, R.fun_.kp, lk, hcd, B, S, m1, aBodyB_ok hB, ⟨d1, d2⟩, ⟨d3, d4⟩⟩, hr⟩
  · cases hf
theorem callN_len {T : String → Option Fn} {con : String → Option D} {k : Nat} {f : String} {fd : Fn} {ds : List D} {S : Store} (h : T f = some fd) (q : callN T con k f ds S ≠ .bad) : ds.length = fd.np := by
  cases k with
  | zero => exact absurd rfl q
  | succ k =>
    unfold callN at q
    simp only [h] at q
    by_cases hl : ds.length = fd.np
    · exact hl
    · rw [if_neg hl] at q; exact absurd rfl q
theorem start_ok {K : PySem.W.Frag} {z : Zw} {N : List Str} : ∀ {ds : List D} {vs : List V}, Reps K z ds vs → EnvOk K z (ds.map some ++ List.replicate (N.length - ds.length) none) (L2.start N vs) := by
  intro ds vs r
  have hl := r.length
  refine ⟨by unfold L2.start; simp [hl], fun i d q => ?_⟩
  unfold L2.start
  by_cases hi : i < ds.length
  · rw [List.getElem?_append_left (by simpa using hi)] at q
    rw [List.getElem?_map] at q
    cases e : ds[i]? with
    | none => rw [e] at q; cases q
    | some d' =>
      rw [e] at q; cases q
      obtain ⟨v, h1, h2⟩ := r.get e
      exact ⟨v, by rw [List.getElem?_append_left (by rw [List.length_map]; omega), List.getElem?_map, h1]; rfl, h2⟩
  · rw [List.getElem?_append_right (by simpa using hi)] at q
    rw [List.getElem?_replicate] at q
    split at q <;> cases q
theorem nodup_map_inj {α β : Type} {f : α → β} : ∀ {l : List α}, (l.map f).Nodup → ∀ {a b : α}, a ∈ l → b ∈ l → f a = f b → a = b
  | [], _, _, _, h, _, _ => nomatch h
  | x :: l, nd, a, b, ha, hb, e => by
    rw [List.map_cons, List.nodup_cons] at nd
    rcases List.mem_cons.mp ha with ea | ha'
    · rcases List.mem_cons.mp hb with eb | hb'
      · rw [ea, eb]
      · exact absurd (List.mem_map.mpr ⟨b, hb', by rw [← e, ea]⟩) nd.1
    · rcases List.mem_cons.mp hb with eb | hb'
      · exact absurd (List.mem_map.mpr ⟨a, ha', by rw [e, eb]⟩) nd.1
      · exact nodup_map_inj nd.2 ha' hb' e
theorem fn_ok {P : Program} {w : World} {K : PySem.W.Frag} {mg : Str → Option Value} {T : String → Option Fn} {con : String → Option D} {fns : List String} (hT : Tab K mg T fns) (hM : MTab K T fns con) (hX : XTab P w K mg con) (hC : Cons K mg con) (hb : ∀ x ∈ bnames, mg x = none) (hND : ((tbC K).map fun p => p.2.1).Nodup) (hA : ATab K mg T fns) :
    ∀ (k : Nat) {r : FnRow} {fa : Addr} {fd : FuncData}, RowF K T fns r fa fd → ∀ base : Heap, (∀ p ∈ tbC K, LamX.TabB base mg p.1 p.2.1) → FnOk P w K mg base (L2.CX P w) (4 * k + 1) fa fd r.ps (spOf K mg r.ps.length (callN T con k r.name))
  | 0, r, fa, fd, R, base, hTB => by
    refine ⟨fun vs H Q E h => h.1, fun A outer s H args us vs Q E _ _ _ _ h => ?_⟩
    obtain ⟨_, z, ds, _, _, _, h⟩ := h
    exact h.elim
  | k + 1, r, fa, fd, R, base, hTB => by
    obtain ⟨hsc, hbody⟩ := ba3 (show (scB r.N r.ps r.scope && mSs fns r.N r.scope r.ev r.body) = true from R.ok)
    have S := scB_ok hsc
    show FnOk P w K mg base (L2.CX P w) (4 * k + 4 + 1) fa fd r.ps _
    obtain ⟨oc, od, dV, kV, doc, pm, an, cdv, ct, osl, rfl, lk, hcd, _, _⟩ := R.fun_.ex
    obtain ⟨cA, cP, hc1, hc2⟩ := R.cd
    refine fn_of lk hcd S (fun vs H Q E h => h.1) fun A outer s H vs Q E hr h => ?_
    refine ⟨tS (cxOf (L2.CX P w) P w K mg base r.N r.qual r.scope fa cdv A outer s H E) (fun cls d _ H => E cls d H) (evSs ⟨callN T con k, con, none, akT T⟩ r.ev), ?_, ?_⟩
    · have gd : Gd (cxOf (L2.CX P w) P w K mg base r.N r.qual r.scope fa cdv A outer s H E) (fun cls d _ H => E cls d H) r.N r.scope r.scope := by
        refine ⟨rfl, S.nd, rfl, fun _ => rfl, takes_of rfl rfl rfl rfl, fun x hx => ⟨?_, .inl rfl⟩, by have := hr.un; show (A.deeper _).units + 65 < _; omega, hb, fun _ _ => rfl⟩
        show Loc r.scope x
        unfold stoB at hx
        split at hx
        · exact .inl (by assumption)
        · exact .inr (by assumption)
        · cases hx
      refine sSs (fns := fns) (N := r.N) (k := 4 * k + 1) r.ev ⟨gd, passes_of rfl, S.kind, rfl, rfl, rfl⟩ ⟨hC, fun f hf => ⟨?_⟩, fun _ => hr.mono (by omega), fun _ x C ns ms e => ?_, fun a d ns e => (by cases e), fun _ x C ns ms e => ?_, fun _ => rfl, fun _ _ => ⟨cA, cP, hc1, hTB _ hc2, ?_, ?_⟩, fun _ _ g told hs e => ask_ok hA hr e, fun _ => ⟨fun x C ns ms e => ?_, hX.2⟩⟩ hbody
      · obtain ⟨r2, fa2, fd2, e, R2⟩ := hT f hf
        subst e
        exact ⟨fa2, fd2, r2.ps, R2.at_, R2.fun_.kp, R2.binds, fn_ok hT hM hX hC hb hND hA k R2.toRowF base hTB, fun ds S q => (callN_len R2.tab q).trans rfl⟩
      · have q := hM x C ns ms e
        refine ⟨q.cls, q.mks, q.kp, fun m key e2 => ?_⟩
        obtain ⟨h1, r2, fa2, fd2, e3, h2, R2⟩ := q.meth m key e2
        subst e3
        exact ⟨h1, ⟨fa2, fd2, r2.ps, h2, R2.binds, fn_ok hT hM hX hC hb hND hA k R2 base hTB, fun ds S q => (callN_len R2.tab q).trans rfl⟩⟩
      · have q := hX.1 x C ns ms e
        obtain ⟨fI, fd, ps, a1, a2, a3, a4⟩ := q.ex
        exact ⟨q.T, ⟨fI, fd, ps, a1, a2, a3, a4 base (4 * k)⟩, q.inj, q.xf, q.no, q.exm, q.ne⟩
      · exact List.mem_map.mpr ⟨_, hc2, rfl⟩
      · intro p hp e
        obtain ⟨q, hq, rfl⟩ := List.mem_map.mp hp
        have := nodup_map_inj hND hq hc2 e
        rw [this]; rfl
      · have q := hX.1 x C ns ms e
        refine ⟨?_, q.xf, q.inj, q.no⟩
        obtain ⟨u, v, k1, k2, k3⟩ := hC x _ e
        have := k3 ⟨[], [], [], fun _ => none⟩
        unfold Rep at this
        subst this
        show mg (Str.ofString x) = _
        rw [k1]
        cases k2
        rfl
    · obtain ⟨hl, z, ds, rfl, hs, hr2, h⟩ := h
      have hdl : ds.length = r.fn.np := by rw [hr2.length, hl]; rfl
      have e1 : callN T con (k + 1) r.name ds z.S = match evSs ⟨callN T con k, con, none, akT T⟩ r.ev (ds.map some ++ List.replicate (r.N.length - ds.length) none) z.S with
          | .ok (.rt d) S' => retn z.S d S'
          | .ok (.nx _) S' => retn z.S .non S'
          | .ok _ _ => .bad
          | .exc x _ S' => .exc x [] S'
          | .bad => .bad := by
        show (match T r.name with | none => _ | some fd => _) = _
        rw [R.tab]
        show (if ds.length = r.fn.np then _ else _) = _
        rw [if_pos hdl]; rfl
      rw [e1] at h
      refine ⟨z, _, rfl, hs, start_ok hr2, ?_⟩
      cases q : evSs ⟨callN T con k, con, none, akT T⟩ r.ev (ds.map some ++ List.replicate (r.N.length - ds.length) none) z.S with
      | bad => rw [q] at h; exact h.elim
      | exc x e S' =>
        rw [q] at h
        exact fun z1 cls d σ h1 h2 h3 _ h4 => h z1 cls d h1 h2 h3 h4
      | ok fl S' =>
        rw [q] at h
        intro z1 h1 x1 s1
        subst h1
        cases fl with
        | nx e' =>
          intro σ' _
          obtain ⟨z2, a1, a2, a3, a4, a5⟩ := trunc_ok hs x1 s1 (d := .non) (v := .non) .non_
          show Q .non z1.H
          rw [← a1]
          exact h .non z2 a2 a3 a4 a5
        | rt d =>
          intro v rv
          obtain ⟨z2, a1, a2, a3, a4, a5⟩ := trunc_ok hs x1 s1 rv
          show Q v z1.H
          rw [← a1]
          exact h v z2 a2 a3 a4 a5
        | ct e' => exact h.elim
        | bk e' => exact h.elim
end PyI

set_option maxRecDepth 100000
set_option maxHeartbeats 4000000
namespace PyI
open PySem PySem.Spec PyProof.Rows L2
/-- the row's code object is among those told -/
def rowTb (K : PySem.W.Frag) (r : FnRow) : Bool := match K.lookup (He.fAd K r.at_) with
  | some ⟨_, _, .func fd, _⟩ => (match fd.code with
    | .ref c => (tbC K).any fun p => decide (p.1 = c) && decide (p.2.2 = r.qual)
    | _ => false)
  | _ => false
/-- a code object of the table P -/
def cdB : Option Obj → Addr → Bool
  | some ⟨.type c, _, .fields vs, _⟩, P => decide (c = "code") && (match vs[11]?, vs.getD 11 .none, vs.getD 18 .none, vs.getD 7 .none, vs.getD 9 .none, vs.getD 10 .none with
    | some (Value.ref a), Value.ref b, Value.str _ _, Value.int _ _, Value.bool _, Value.int _ _ => decide (a = P) && decide (b = P)
    | _, _, _, _, _, _ => false)
  | _, _ => false
theorem cdB_ok {h : Heap} {c P : Addr} (e : cdB (h.get? c) P = true) (ne : c ≠ P) : PySem.W.CodeHd h c P := by
  cases q : h.get? c with
  | none => rw [q] at e; cases e
  | some o =>
    obtain ⟨cl, od, dt, sl⟩ := o
    rw [q] at e
    cases cl with
    | type c0 =>
      cases dt with
      | fields vs =>
        unfold cdB at e
        obtain ⟨e1, e2⟩ := Bool.and_eq_true_iff.mp e
        have e1 := of_decide_eq_true e1
        subst e1
        split at e2
        · rename_i a b x t i ti bb j tj r1 r2 r3 r4 r5 r6
          obtain ⟨e3, e4⟩ := Bool.and_eq_true_iff.mp e2
          have e3 := of_decide_eq_true e3
          have e4 := of_decide_eq_true e4
          subst e3 e4
          exact ⟨_, vs, x, t, i, ti, bb, j, tj, q, rfl, rfl, r1, r2, r3, r4, r5, r6, ne⟩
        · cases e2
      | _ => cases e
    | _ => cases dt <;> cases e
/-- an empty table -/
def etB : Option Obj → Bool
  | some ⟨.none, none, .fields vs, sl⟩ => vs.isEmpty && sl.isEmpty
  | _ => false
theorem etB_ok {o : Option Obj} (h : etB o = true) : o = some { cls := .none, data := .fields #[] } := by
  unfold etB at h
  split at h
  · simp only [Bool.and_eq_true, Array.isEmpty_iff] at h
    obtain ⟨rfl, rfl⟩ := h
    rfl
  · cases h
def tbAt (g : Addr → Option Obj) (K : PySem.W.Frag) (p : Addr × Addr × Str) : Bool := etB (g p.2.1) && ((K.lookup p.2.1).isNone && (cdB (g p.1) p.2.1 && !decide (p.1 = p.2.1)))
/-- what the heap must say of the code objects and their tables -/
def TabsAt (h : Heap) (K : PySem.W.Frag) : Prop := ∀ p ∈ tbC K, h.get? p.2.1 = some { cls := .none, data := .fields #[] } ∧ K.lookup p.2.1 = none ∧ PySem.W.CodeHd h p.1 p.2.1
theorem tabsAt_of {h : Heap} {K : PySem.W.Frag} (e : (tbC K).all (tbAt h.get? K) = true) : TabsAt h K := fun p hp => by
  have := List.all_eq_true.mp e p hp
  unfold tbAt at this
  obtain ⟨h1, h2⟩ := Bool.and_eq_true_iff.mp this
  obtain ⟨h2, h3⟩ := Bool.and_eq_true_iff.mp h2
  obtain ⟨h3, h4⟩ := Bool.and_eq_true_iff.mp h3
  exact ⟨etB_ok h1, by simpa using h2, cdB_ok h3 (by simpa using h4)⟩
theorem TabsAt.keeps {h h' : Heap} {K : PySem.W.Frag} (t : TabsAt h K) (k : ∀ b o, h.get? b = some o → h'.get? b = some o) : TabsAt h' K := fun p hp =>
  let ⟨h1, h2, h3⟩ := t p hp
  ⟨k _ _ h1, h2, h3.keeps k⟩
def tbP (K : PySem.W.Frag) : List Addr := (tbC K).map fun p => p.2.1
/-- the tables are told apart -/
def noTab (K : PySem.W.Frag) : PySem.W.Frag := K.filter fun p => !((tbC K).any fun q => decide (q.2.1 = p.1))
theorem look_mem {a : Addr} {o : Obj} : ∀ {K : PySem.W.Frag}, K.lookup a = some o → (a, o) ∈ K
  | [], h => nomatch h
  | (b, u) :: K, h => by
    have h : (match a == b with | true => some u | false => List.lookup a K) = some o := h
    cases q : a == b with
    | true =>
      rw [q] at h
      cases h
      have := eq_of_beq q
      subst this
      exact List.mem_cons_self
    | false => rw [q] at h; exact List.mem_cons_of_mem _ (look_mem h)
theorem noTab_in {g : Addr → Option Obj} {as : List Addr} {h : Heap} (e : g = h.get?) : (noTab (He.frG g as)).In h := fun a o hl => by
  have hm := (List.mem_filter.mp (look_mem hl)).1
  unfold He.frG at hm
  obtain ⟨b, _, hb⟩ := List.mem_filterMap.mp hm
  obtain ⟨u, hu, e2⟩ := Option.map_eq_some_iff.mp hb
  cases e2
  rw [← e]; exact hu
/-! ## constants of the module -/
mutual
def repB (K : PySem.W.Frag) : D → Value → Bool
  | .non, .none => true
  | .bl b, .bool c => b == c
  | .int i, .int j _ => decide (i = j)
  | .str x, .str y _ => decide (x = y)
  | .tup ds, .ref a => (match K.lookup a with
    | some ⟨.type c, _, .seq its _, _⟩ => decide (c = "tuple") && (decide (its.size ≤ sizeLine) && (decide (ds.length ≤ SZ) && repsB K ds its.toList))
    | _ => false)
  | .rol ds, .ref a => (match K.lookup a with
    | some ⟨.type c, none, .seq its _, _⟩ => decide (c = "list") && (decide (its.size ≤ sizeLine) && (decide (ds.length ≤ SZ) && repsB K ds its.toList))
    | _ => false)
  | .clo _ C _ _, .ref a => decide (a = C)
  | _, _ => false
def repsB (K : PySem.W.Frag) : List D → List Value → Bool
  | [], [] => true
  | d :: ds, u :: us => repB K d u && repsB K ds us
  | _, _ => false
end
theorem and2 {a b : Bool} (h : (a && b) = true) : a = true ∧ b = true := by cases a <;> cases b <;> first | exact ⟨rfl, rfl⟩ | cases h
mutual
theorem repB_ok {K : PySem.W.Frag} : ∀ {d : D} {u : Value}, repB K d u = true → ∃ v, RelV v u ∧ ∀ z, Rep K z d v
  | .non, u, h => by
    cases u with
    | none => exact ⟨.non, rfl, fun z => by unfold Rep; rfl⟩
    | _ => simp [repB] at h
  | .bl b, u, h => by
    cases u with
    | bool c =>
      have e : b = c := by simpa [repB] using h
      subst e
      exact ⟨.bl b, rfl, fun z => by unfold Rep; rfl⟩
    | _ => simp [repB] at h
  | .int i, u, h => by
    cases u with
    | int j t =>
      have e : i = j := by simpa [repB] using h
      subst e
      exact ⟨.int i, ⟨t, rfl⟩, fun z => by unfold Rep; rfl⟩
    | _ => simp [repB] at h
  | .str i, u, h => by
    cases u with
    | str j t =>
      have e : i = j := by simpa [repB] using h
      subst e
      exact ⟨.str i, ⟨t, rfl⟩, fun z => by unfold Rep; rfl⟩
    | _ => simp [repB] at h
  | .tup ds, u, h => by
    cases u with
    | ref a =>
      unfold repB at h
      cases q : K.lookup a with
      | none => rw [q] at h; cases h
      | some o =>
        obtain ⟨oc, od, dt, osl⟩ := o
        rw [q] at h
        cases oc with
        | type c =>
          cases dt with
          | seq its n =>
            obtain ⟨h1, h2⟩ := and2 h
            obtain ⟨h2, h3⟩ := and2 h2
            obtain ⟨h3, h4⟩ := and2 h3
            obtain ⟨xs, r1, r2⟩ := repsB_ok h4
            refine ⟨.ref a, rfl, fun z => ?_⟩
            unfold Rep
            exact ⟨a, xs, rfl, .inr (.inr ⟨_, its, n, q, congrArg Value.type (of_decide_eq_true h1), rfl, of_decide_eq_true h2, r1⟩), of_decide_eq_true h3, r2 z⟩
          | _ => cases h
        | _ => cases dt <;> cases h
    | _ => simp [repB] at h
  | .rol ds, u, h => by
    cases u with
    | ref a =>
      unfold repB at h
      cases q : K.lookup a with
      | none => rw [q] at h; cases h
      | some o =>
        obtain ⟨oc, od, dt, osl⟩ := o
        rw [q] at h
        cases oc with
        | type c =>
          cases od with
          | none =>
            cases dt with
            | seq its n =>
              obtain ⟨h1, h2⟩ := and2 h
              obtain ⟨h2, h3⟩ := and2 h2
              obtain ⟨h3, h4⟩ := and2 h3
              obtain ⟨xs, r1, r2⟩ := repsB_ok h4
              refine ⟨.ref a, rfl, fun z => ?_⟩
              unfold Rep
              exact ⟨a, xs, rfl, .inr (.inr ⟨_, its, n, q, congrArg Value.type (of_decide_eq_true h1), rfl, rfl, of_decide_eq_true h2, r1⟩), of_decide_eq_true h3, r2 z⟩
            | _ => cases h
          | some _ => cases dt <;> cases h
        | _ => cases od <;> cases dt <;> cases h
    | _ => simp [repB] at h
  | .lst ds, u, h => by cases u <;> simp [repB] at h
  | .obj r, u, h => by cases u <;> simp [repB] at h
  | .edic, u, h => by cases u <;> simp [repB] at h
  | .exc _ _ _ _, u, h => by cases u <;> simp [repB] at h
  | .clo x C ns ms, u, h => by
    cases u with
    | ref a =>
      have e : a = C := by simpa [repB] using h
      subst e
      exact ⟨.ref a, rfl, fun z => by unfold Rep; rfl⟩
    | _ => simp [repB] at h
theorem repsB_ok {K : PySem.W.Frag} : ∀ {ds : List D} {us : List Value}, repsB K ds us = true → ∃ vs, Vals vs us ∧ ∀ z, Reps K z ds vs
  | [], [], _ => ⟨[], .nil, fun z => .nil⟩
  | [], _ :: _, h => by simp [repsB] at h
  | _ :: _, [], h => by simp [repsB] at h
  | d :: ds, u :: us, h => by
    unfold repsB at h
    obtain ⟨h1, h2⟩ := and2 h
    obtain ⟨v, a1, a2⟩ := repB_ok h1
    obtain ⟨vs, b1, b2⟩ := repsB_ok h2
    exact ⟨v :: vs, .cons a1 b1, fun z => .cons (a2 z) (b2 z)⟩
end
def conB (K : PySem.W.Frag) (c : String × D) : Bool := match PySem.W.nsIn K mainGlobals (Str.ofString c.1) with
  | some (some u) => repB K c.2 u
  | _ => false
def conT (cs : List (String × D)) (g : String) : Option D := cs.lookup g
theorem lookup_mem {α β : Type} [BEq α] [LawfulBEq α] {a : α} {b : β} : ∀ {l : List (α × β)}, l.lookup a = some b → (a, b) ∈ l
  | [], h => by cases h
  | (x, y) :: l, h => by
    rw [List.lookup_cons] at h
    cases q : a == x with
    | true =>
      rw [q] at h
      cases h
      rw [beq_iff_eq] at q
      subst q
      exact List.mem_cons_self
    | false => rw [q] at h; exact List.mem_cons_of_mem _ (lookup_mem h)
theorem cons_ok {K : PySem.W.Frag} {h : Heap} {mg : Str → Option Value} (X : K.In h) (G : h.Ns mainGlobals mg) {cs : List (String × D)} (c : cs.all (conB K) = true) : Cons K mg (conT cs) := fun g d e => by
  have q := List.all_eq_true.mp c (g, d) (lookup_mem e)
  unfold conB at q
  cases p : PySem.W.nsIn K mainGlobals (Str.ofString g) with
  | none => simp only [p] at q; cases q
  | some r =>
    cases r with
    | none => simp only [p] at q; cases q
    | some u =>
      simp only [p] at q
      obtain ⟨v, h1, h2⟩ := repB_ok q
      exact ⟨u, v, PySem.W.mg_of X G p, h1, h2⟩
/-! ## the table -/
def FnRow.dd (r : FnRow) : He.DefD := ⟨r.at_, r.own, r.qual, r.params, r.body, r.scope, [], []⟩
def FnRow.pl (r : FnRow) : Bool := r.at_.2.isNone
def nmsOf (rows : List FnRow) : List String := rows.map FnRow.name
/-- the module's own functions -/
def nmsP (rows : List FnRow) : List String := (rows.filter FnRow.pl).map FnRow.name
def tabT : List FnRow → String → Option Fn
  | [], _ => none
  | r :: rs, f => if r.name = f then some r.fn else tabT rs f
theorem tabT_of : ∀ {rows : List FnRow} {r : FnRow}, (nmsOf rows).Nodup → r ∈ rows → tabT rows r.name = some r.fn
  | [], _, _, h => by cases h
  | x :: rows, r, nd, h => by
    unfold tabT
    have nd' := List.nodup_cons.mp nd
    rcases List.mem_cons.mp h with e | e
    · subst e; rw [if_pos rfl]
    · rw [if_neg]
      · exact tabT_of nd'.2 e
      · intro q
        exact nd'.1 (by rw [q]; exact List.mem_map_of_mem e)
def faC : String × D → List He.Fa
  | (x, .clo false _ ns ms) => [.cls (Str.ofString x), .mkr (Str.ofString x)] ++ ns.map (fun f => .noat (Str.ofString x) (Str.ofString f)) ++ ms.map fun m => .meth (Str.ofString x) (Str.ofString m.1)
  | _ => []
def fasOf (rows : List FnRow) (cs : List (String × D)) : List He.Fa := (rows.filter FnRow.pl).map (fun r => .glo (Str.ofString r.name)) ++ (bnames.map .free ++ cs.flatMap faC)
def ddsOf (rows : List FnRow) : List He.DefD := rows.map FnRow.dd
/-- an asker's row is a plain def of that text -/
def askChk (r : FnRow) : Bool := match askOf r.ev with
  | some (told, hs) => r.pl && askFit r told hs
  | none => true
def rowsOk (rows : List FnRow) : Bool := decide (nmsOf rows).Nodup && (rows.all (fun r => plainP r.params r.ps) && (rows.all (FnRow.ok (nmsP rows)) && ((rows.all fun r => !r.pl || decide (r.at_ = (Str.ofString r.name, none))) && rows.all askChk)))
theorem fact_mem {fa : List He.Fa} {fn : List He.DefD} {K : PySem.W.Frag} (c : He.SaysD fa fn K) {f : He.Fa} (h : f ∈ fa) : f.ok K = true := by
  obtain ⟨i, hi⟩ := List.getElem?_of_mem h
  exact c.fact i hi
section
variable {rows : List FnRow} {cs : List (String × D)} {K : PySem.W.Frag} {h : Heap} {mg : Str → Option Value}
theorem rowTb_ok {r : FnRow} {fd : FuncData} {oc : Value} {od : Option Addr} {osl : Array (Option Value)} (h : rowTb K r = true) (e : K.lookup (He.fAd K r.at_) = some ⟨oc, od, .func fd, osl⟩) : ∃ c P, fd.code = .ref c ∧ (c, P, r.qual) ∈ tbC K := by
  unfold rowTb at h
  rw [e] at h
  have h : (match fd.code with
    | .ref c => (tbC K).any fun p => decide (p.1 = c) && decide (p.2.2 = r.qual)
    | _ => false) = true := h
  split at h
  · rename_i c q
    obtain ⟨⟨c', P, q'⟩, hm, h⟩ := List.any_eq_true.mp h
    simp only [Bool.and_eq_true, decide_eq_true_eq] at h
    obtain ⟨rfl, rfl⟩ := h
    exact ⟨_, P, q, hm⟩
  · cases h
theorem rowF_of (c : He.SaysD (fasOf rows cs) (ddsOf rows) K) (tb : rows.all (rowTb K) = true) (ok : rowsOk rows = true) {r : FnRow} (hr : r ∈ rows) :
    ∃ fd, RowF K (tabT rows) (nmsP rows) r (He.fAd K r.at_) fd ∧ (∀ (s : Shared) (us : List Value), us.length = r.ps.length → BindsTo s fd ⟨us, []⟩ (r.ps.zip us)) := by
  obtain ⟨o1, o2⟩ := and2 ok
  obtain ⟨o2, o3⟩ := and2 o2
  obtain ⟨o3, o4⟩ := and2 o3
  obtain ⟨i, hi⟩ := List.getElem?_of_mem hr
  have hd : (ddsOf rows)[i]? = some r.dd := by unfold ddsOf; rw [List.getElem?_map, hi]; rfl
  obtain ⟨fd, F⟩ := c.def_ i hd
  have F : FunD K r.own r.qual r.params r.body r.scope [] [] (He.fAd K r.at_) fd := F
  have pl : plainP r.params r.ps = true := List.all_eq_true.mp o2 r hr
  have B : ∀ (kV doc pm : Value) (an : Option Addr) (cdv ct : Value) (us : List Value), us.length = r.ps.length → bindArgs (PySem.W.fnOf r.own r.qual r.params r.body r.scope .none kV doc pm an cdv ct) ⟨us, []⟩ = pure (r.ps.zip us) := fun _ _ _ _ _ _ us hl => bind_plain pl rfl hl
  obtain ⟨oc, od, _, _, _, _, _, _, _, osl, _, lk, _⟩ := F.ex
  exact ⟨fd, ⟨F, FunD.bindsN F B, List.all_eq_true.mp o3 r hr, tabT_of (of_decide_eq_true o1) hr, rowTb_ok (List.all_eq_true.mp tb r hr) lk⟩, fun s us hl => FunD.bindsA F B s us hl⟩
theorem row_of (X : K.In h) (G : h.Ns mainGlobals mg) (c : He.SaysD (fasOf rows cs) (ddsOf rows) K) (tb : rows.all (rowTb K) = true) (ok : rowsOk rows = true) {r : FnRow} (hr : r ∈ rows) (hp : r.pl = true) :
    ∃ fd, Row K mg (tabT rows) (nmsP rows) r (He.ga K (Str.ofString r.name)) fd ∧ (∀ (s : Shared) (us : List Value), us.length = r.ps.length → BindsTo s fd ⟨us, []⟩ (r.ps.zip us)) := by
  obtain ⟨fd, R, B⟩ := rowF_of c tb ok hr
  obtain ⟨_, o2⟩ := and2 ok
  obtain ⟨_, o3⟩ := and2 o2
  obtain ⟨_, o4⟩ := and2 o3
  obtain ⟨o4, _⟩ := and2 o4
  have ha : r.at_ = (Str.ofString r.name, none) := by
    have := List.all_eq_true.mp o4 r hr
    simp only [hp, Bool.not_true, Bool.false_or, decide_eq_true_eq] at this
    exact this
  have hf : He.fAd K r.at_ = He.ga K (Str.ofString r.name) := by rw [ha]; rfl
  rw [hf] at R
  refine ⟨fd, ⟨R, He.glo_ok X G (fact_mem c ?_)⟩, B⟩
  exact List.mem_append_left _ (List.mem_map_of_mem (f := fun r : FnRow => He.Fa.glo (Str.ofString r.name)) (List.mem_filter.mpr ⟨hr, hp⟩))
theorem tab_ok (X : K.In h) (G : h.Ns mainGlobals mg) (c : He.SaysD (fasOf rows cs) (ddsOf rows) K) (tb : rows.all (rowTb K) = true) (ok : rowsOk rows = true) : Tab K mg (tabT rows) (nmsP rows) := fun f hf => by
  have hm : f ∈ nmsP rows := by simpa using hf
  obtain ⟨r, hr, e⟩ := List.mem_map.mp hm
  obtain ⟨hr, hp⟩ := List.mem_filter.mp hr
  obtain ⟨fd, R, _⟩ := row_of X G c tb ok hr hp
  exact ⟨r, _, fd, e, R⟩
theorem tabT_mem : ∀ {rows : List FnRow} {g : String} {fd : Fn}, tabT rows g = some fd → ∃ r ∈ rows, r.name = g ∧ r.fn = fd
  | [], _, _, h => by cases h
  | r :: rows, g, fd, h => by
    unfold tabT at h
    by_cases e : r.name = g
    · rw [if_pos e] at h
      exact ⟨r, List.mem_cons_self, e, Option.some.inj h⟩
    · rw [if_neg e] at h
      obtain ⟨r2, m, q⟩ := tabT_mem h
      exact ⟨r2, List.mem_cons_of_mem _ m, q⟩
theorem atab_ok (X : K.In h) (G : h.Ns mainGlobals mg) (c : He.SaysD (fasOf rows cs) (ddsOf rows) K) (tb : rows.all (rowTb K) = true) (ok : rowsOk rows = true) : ATab K mg (tabT rows) (nmsP rows) := fun g told hs hq => by
  unfold akT at hq
  obtain ⟨fd, h1, h2⟩ := Option.bind_eq_some_iff.mp hq
  obtain ⟨r, hr, e1, e2⟩ := tabT_mem h1
  subst e2
  split at h2
  · obtain ⟨_, o2⟩ := and2 ok
    obtain ⟨_, o3⟩ := and2 o2
    obtain ⟨_, o4⟩ := and2 o3
    obtain ⟨_, o5⟩ := and2 o4
    have q := List.all_eq_true.mp o5 r hr
    unfold askChk at q
    have h2 : askOf r.ev = some (told, hs) := h2
    rw [h2] at q
    obtain ⟨q1, q2⟩ := and2 q
    obtain ⟨fd, R, _⟩ := row_of X G c tb ok hr q1
    exact ⟨r, _, fd, e1, R, q2⟩
  · cases h2
theorem bn_ok (X : K.In h) (G : h.Ns mainGlobals mg) (c : He.SaysD (fasOf rows cs) (ddsOf rows) K) : ∀ x ∈ bnames, mg x = none := fun x hx =>
  He.free_ok X G (fact_mem c (List.mem_append_right _ (List.mem_append_left _ (List.mem_map_of_mem (f := He.Fa.free) hx))))
end
/-! ## classes -/
def nsB (ns : List String) : Bool := ns.all fun f => ns.all fun g => !decide (Str.ofString f = Str.ofString g) || decide (f = g)
theorem nsB_ok {ns : List String} (h : nsB ns = true) : NsOk ns := fun f hf g hg e => by
  have := List.all_eq_true.mp (List.all_eq_true.mp h f hf) g hg
  simpa [e] using this
/-- an exception's class: its two fields, its __init__ -/
structure XRow where
  x : String
  f1 : String
  f2 : String
  qual : Str
  params : Arguments
  body : List Stmt
  scope : Scope
def asXBody : List Stmt → Option (Str × Str × List Pos)
  | [.Expr (.Call (.Attribute (.Call (.Name s0 p0) [] [] p1) i0 p2) [.Name g1 p3, .Name g2 p4] [] p5) p6, .Assign [.Attribute (.Name s1 p7) h1 p8] (.Name k1 p9) p10, .Assign [.Attribute (.Name s2 p11) h2 p12] (.Name k2 p13) p14] =>
    if s0 = "super" ∧ i0 = "__init__" ∧ s1 = "self" ∧ s2 = "self" ∧ h1 = g1 ∧ k1 = g1 ∧ h2 = g2 ∧ k2 = g2 then some (g1, g2, [p0, p1, p2, p3, p4, p5, p6, p7, p8, p9, p10, p11, p12, p13, p14]) else none
  | _ => none
theorem asXBody_ok {b : List Stmt} {g1 g2 : Str} {ps : List Pos} (h : asXBody b = some (g1, g2, ps)) : b = xBody g1 g2 fun i => ps.getD i ⟨0, 0, 0, 0⟩ := by
  unfold asXBody at h
  split at h
  · split at h
    · rename_i c
      obtain ⟨rfl, rfl, rfl, rfl, rfl, rfl, rfl, rfl⟩ := c
      cases h
      rfl
    · cases h
  · cases h
def asXBody1 : List Stmt → Option (Str × List Pos)
  | [.Expr (.Call (.Attribute (.Call (.Name s0 p0) [] [] p1) i0 p2) [.Name g1 p3] [] p5) p6, .Assign [.Attribute (.Name s1 p7) h1 p8] (.Name k1 p9) p10] =>
    if s0 = "super" ∧ i0 = "__init__" ∧ s1 = "self" ∧ h1 = g1 ∧ k1 = g1 then some (g1, [p0, p1, p2, p3, p3, p5, p6, p7, p8, p9, p10]) else none
  | _ => none
theorem asXBody1_ok {b : List Stmt} {g1 : Str} {ps : List Pos} (h : asXBody1 b = some (g1, ps)) : b = xBody1 g1 fun i => ps.getD i ⟨0, 0, 0, 0⟩ := by
  unfold asXBody1 at h
  split at h
  · split at h
    · rename_i c
      obtain ⟨rfl, rfl, rfl, rfl, rfl⟩ := c
      cases h
      rfl
    · cases h
  · cases h
/-- its fields: the second one's name is empty where there is but one -/
def XRow.ns (r : XRow) : List String := if r.f2 = "" then [r.f1] else [r.f1, r.f2]
def XRow.g1 (r : XRow) : Str := Str.ofString r.f1
def XRow.g2 (r : XRow) : Str := Str.ofString r.f2
/-- what of it needs no heap -/
def XRow.ok (P : Program) (r : XRow) : Bool := (NdefX.nscB [("self" : Str), r.g1, r.g2, ("__class__" : Str)] [("self" : Str), r.g1, r.g2] [("__class__" : Str)] r.scope && (decide (r.scope.names.lookup ("super" : Str) = some .globalImplicit) && (!(P.main.scope.names.lookup ("super" : Str)).isSome && plainP r.params [("self" : Str), r.g1, r.g2]))) &&
  ((nsB [r.f1, r.f2] && !decide (r.f1 = r.f2)) && ((dbB r.g1 && dbB r.g2) && (match asXBody r.body with
    | some (a, b, ps) => decide (a = r.g1) && (decide (b = r.g2) && ((ps.getD 2 ⟨0, 0, 0, 0⟩).endLine == (ps.getD 5 ⟨0, 0, 0, 0⟩).line))
    | none => false)))
def XRow.ok1 (P : Program) (r : XRow) : Bool := (NdefX.nscB [("self" : Str), r.g1, ("__class__" : Str)] [("self" : Str), r.g1] [("__class__" : Str)] r.scope && (decide (r.scope.names.lookup ("super" : Str) = some .globalImplicit) && (!(P.main.scope.names.lookup ("super" : Str)).isSome && plainP r.params [("self" : Str), r.g1]))) &&
  (dbB r.g1 && (match asXBody1 r.body with
    | some (a, ps) => decide (a = r.g1) && ((ps.getD 2 ⟨0, 0, 0, 0⟩).endLine == (ps.getD 5 ⟨0, 0, 0, 0⟩).line)
    | none => false))
def XRow.okB (P : Program) (r : XRow) : Bool := if r.f2 = "" then r.ok1 P else r.ok P
abbrev XV : Type := Option (Str × Str × Arguments × FuncBody × Scope × Addr × List Str × Value × Addr)
def XRow.fI (K : PySem.W.Frag) (r : XRow) : Addr := He.fAd K (Str.ofString r.x, some "__init__")
def XRow.C (K : PySem.W.Frag) (r : XRow) : Addr := He.ga K (Str.ofString r.x)
def XRow.see (K : PySem.W.Frag) (r : XRow) : XV := match K.lookup (r.fI K) with
  | some ⟨_, _, .func fd, _⟩ => some (fd.name, fd.qualname, fd.params, fd.body, fd.scope, fd.globals, fd.closure.map (·.1), fd.defaults, fd.builtins)
  | _ => none
def XRow.val (r : XRow) : XV := some ("__init__", r.qual, r.params, .stmts r.body, r.scope, mainGlobals, [("__class__" : Str)], .none, builtinsNs)
def oexB (K : PySem.W.Frag) (C : Addr) : Bool := (match K.lookup C with
  | some ⟨.type "type", _, .cls cd, sl⟩ => (match cd.mro, sl.toList with
    | .ref C' :: bm, [_, _, _, _, some (.builtin n), _] => C' == C && (n == "ValueError.__new__" && (!cd.hasDel && (cd.hasDict && PySem.HandSPX.refsVE bm)))
    | _, _ => false)
  | _ => false) && (He.eqO (PySem.W.findIn K (.ref C) "__setattr__") (some (some (.builtin "object.__setattr__"))) && (decide (PySem.W.subIn K (.ref C) (.type "BaseException") = some true) && (decide (PySem.W.typeIn K (.ref C) = some (.type "type")) && PySem.W.keepIn K (.ref C))))
theorem oexB_ok {K : PySem.W.Frag} {C : Addr} (h : oexB K C = true) : OexC K C := by
  obtain ⟨q, h⟩ := and2 h
  obtain ⟨h2, h⟩ := and2 h
  obtain ⟨h3, h⟩ := and2 h
  obtain ⟨h4, h5⟩ := and2 h
  refine ⟨?_, He.eqO_ok h2, of_decide_eq_true h3, of_decide_eq_true h4, h5⟩
  split at q
  · rename_i dd cd sl ho
    split at q
    · rename_i C' bm k0 k1 k2 k3 n k5 hm hs
      simp only [Bool.and_eq_true, beq_iff_eq, Bool.not_eq_true'] at q
      obtain ⟨rfl, rfl, hdel, hdict, ht⟩ := q
      obtain ⟨nm, bs, mro, ns, qn, hd, sn, sub, ab, col, del⟩ := cd
      dsimp only at hm hdel hdict
      subst hm hdel hdict
      have hsl : sl = #[k0, k1, k2, k3, some (.builtin "ValueError.__new__"), k5] := by
        obtain ⟨l⟩ := sl
        simp only at hs
        rw [hs]
      subst hsl
      exact ⟨nm, qn, ns, bs, bm, sn, sub, ab, col, dd, k0, k1, k2, k3, k5, ho, ht⟩
    · cases q
  · cases q
def xcB (P : Program) (K : PySem.W.Frag) (C : Addr) (qual : Str) (cl : List (Str × Addr)) (code : Value) : Bool := match cl, code with
  | [(_, cc)], .ref cda => (match K.lookup cc with
      | some ⟨_, _, .cell (some (.ref D)), _⟩ => decide (D = C)
      | _ => false) && (PySem.W.codeIn K (.ref cda) qual && (match K.lookup cda with
      | some ⟨_, _, .fields vs, _⟩ => (match (vs[2]? : Option Value) with
        | some (Value.str file _) => ((P.main.file : Str) == file)
        | _ => false)
      | _ => false))
  | _, _ => false
/-- what the heap must say of it -/
def XRow.heapOk (P : Program) (K : PySem.W.Frag) (r : XRow) : Bool := (match K.lookup (r.fI K) with
  | some ⟨_, _, .func fd, _⟩ => xcB P K (r.C K) r.qual fd.closure fd.code
  | _ => false) && ((oexB K (r.C K) && xfB K (r.C K)) && ((He.eqO (PySem.W.ks_superIn K (r.C K) (r.C K) "__init__") (some (some (.builtin "ValueError.__init__"))) && decide (PySem.W.mroIn K (r.C K) (.ref (r.C K)) = some true)) &&
  ((decide (PySem.W.subIn K (.ref (r.C K)) (.type "ValueError") = some true) && He.eqO (PySem.W.nsIn K cStatics "thirdparty.any") (some none)) && ((He.eqO (PySem.W.findIn K (.ref (r.C K)) r.g1) (some none) && He.eqO (PySem.W.findIn K (.ref (r.C K)) r.g2) (some none)) &&
  ((He.eqO (PySem.W.findIn K (.ref (r.C K)) "__init__") (some (some (.ref (r.fI K)))) && decide (PySem.W.typeIn K (.ref (r.fI K)) = some (.type "function"))) && decide (PySem.W.exmOne K (.ref (r.C K)) (.ref (r.C K)) = some true))))))
theorem xcB_ok {P : Program} {K : PySem.W.Frag} {C : Addr} {qual : Str} {cl : List (Str × Addr)} {code : Value} (h : xcB P K C qual cl code = true) : ∃ (y : Str) (cc cda : Addr), cl = [(y, cc)] ∧ code = .ref cda ∧ (∃ (a : Value) (b : Option Addr) (c : Array (Option Value)), K.lookup cc = some ⟨a, b, .cell (some (.ref C)), c⟩) ∧
    PySem.W.codeIn K (.ref cda) qual = true ∧ ∃ (ccl : Value) (cdd : Option Addr) (vs : Array Value) (ccs : Array (Option Value)) (file : Str) (tf : Tok), K.lookup cda = some ⟨ccl, cdd, .fields vs, ccs⟩ ∧ vs[2]? = some (.str file tf) ∧ ((P.main.file : Str) == file) = true := by
  unfold xcB at h
  split at h
  · rename_i y cc cda
    obtain ⟨h1, h⟩ := and2 h
    obtain ⟨h2, h3⟩ := and2 h
    refine ⟨y, cc, cda, rfl, rfl, ?_, h2, ?_⟩
    · split at h1
      · rename_i a b D c e
        have := of_decide_eq_true h1
        subst this
        exact ⟨a, b, c, e⟩
      · cases h1
    · split at h3
      · rename_i a b vs c e
        split at h3
        · rename_i file tf e2
          exact ⟨a, b, vs, c, file, tf, e, e2, h3⟩
        · cases h3
      · cases h3
  · cases h
theorem xrow_ok {P : Program} {w : World} {K : PySem.W.Frag} {mg : Str → Option Value} {r : XRow} (h1 : r.ok P = true) (h2 : r.heapOk P K = true) (h3 : r.see K = r.val) (hms : mg "super" = none) : XclT P w K mg (r.C K) [r.f1, r.f2] := by
  obtain ⟨a1, a⟩ := and2 h1
  obtain ⟨a1, a2⟩ := and2 a1
  obtain ⟨a2, a3⟩ := and2 a2
  obtain ⟨a3, a4⟩ := and2 a3
  obtain ⟨a5, a⟩ := and2 a
  obtain ⟨a5, a6⟩ := and2 a5
  obtain ⟨a7, a8⟩ := and2 a
  obtain ⟨d1, d2⟩ := and2 a7
  obtain ⟨b1, b⟩ := and2 h2
  obtain ⟨b2, b⟩ := and2 b
  obtain ⟨b2, b3⟩ := and2 b2
  obtain ⟨b4, b⟩ := and2 b
  obtain ⟨b4, b5⟩ := and2 b4
  obtain ⟨b6, b⟩ := and2 b
  obtain ⟨b6, b7⟩ := and2 b6
  obtain ⟨b8, b⟩ := and2 b
  obtain ⟨b8, b9⟩ := and2 b8
  obtain ⟨b10, b12⟩ := and2 b
  obtain ⟨b10, b11⟩ := and2 b10
  have hne : r.f1 ≠ r.f2 := by simpa using a6
  have hns := nsB_ok a5
  have hgne : r.g1 ≠ r.g2 := fun e => hne (hns _ (by simp) _ (by simp) e)
  obtain ⟨e1, e2, _⟩ := db_ok d1
  obtain ⟨e3, e4, _⟩ := db_ok d2
  have T := oexB_ok b2
  cases q : K.lookup (r.fI K) with
  | none => rw [q] at b1; cases b1
  | some o =>
    obtain ⟨oc, od, dt, osl⟩ := o
    unfold XRow.see at h3
    rw [q] at b1 h3
    cases dt with
    | func fd =>
      obtain ⟨n1, n2, n3, n4, n5, n6, n7, n8, n9, n10, n11, n12, n13, n14, n15⟩ := fd
      have h3 : (some (n1, n2, n3, n4, n5, n6, n7.map (·.1), n8, n15) : XV) = r.val := h3
      unfold XRow.val at h3
      simp only [Option.some.injEq, Prod.mk.injEq] at h3
      obtain ⟨k1, k2, k3, k4, k5, k6, k7, k8, k9⟩ := h3
      subst k1 k2 k3 k4 k5 k6 k8 k9
      have b1 : xcB P K (r.C K) r.qual n7 n13 = true := b1
      obtain ⟨y, cc, cda, rfl, rfl, c1, c2, c3⟩ := xcB_ok b1
      have hy : y = ("__class__" : Str) := by simpa using k7
      subst hy
      have hbody : ∃ p : Nat → Pos, r.body = xBody r.g1 r.g2 p ∧ ((p 2).endLine == (p 5).line) = true := by
        split at a8
        · rename_i ga gb ps e
          obtain ⟨m1, m2⟩ := and2 a8
          obtain ⟨m2, m3⟩ := and2 m2
          have m1 := of_decide_eq_true m1
          have m2 := of_decide_eq_true m2
          subst m1 m2
          exact ⟨_, asXBody_ok e, m3⟩
        · cases a8
      have hx : XInit P K (r.C K) r.g1 r.g2 (r.fI K) cda cc ⟨"__init__", r.qual, r.params, r.body, r.scope, [(("__class__" : Str), cc)], cda⟩ ⟨"__init__", r.qual, r.params, .stmts r.body, r.scope, mainGlobals, [(("__class__" : Str), cc)], .none, n9, n10, n11, n12, .ref cda, n14, builtinsNs⟩ := by
        refine ⟨⟨oc, od, osl, .none, n9, n10, n11, n12, n14, rfl, q⟩, ⟨rfl, rfl⟩, c2, c3, c1, ?_, NdefX.nscope_by a1, of_decide_eq_true a2, by simpa using a3, He.eqO_ok b4, of_decide_eq_true b5, of_decide_eq_true b6, He.eqO_ok b7, T, He.eqO_ok b8, He.eqO_ok b9, hgne, hbody, ⟨e1, e2, e3, e4⟩⟩
        unfold plainP at a4
        simp only [Bool.and_eq_true, decide_eq_true_eq, List.isEmpty_iff] at a4
        obtain ⟨⟨⟨⟨⟨j1, _⟩, _⟩, _⟩, j5⟩, _⟩ := a4
        show ∃ ar : Arg, (r.params.posonlyargs ++ r.params.args).head? = some ar ∧ _
        rw [j1, List.nil_append]
        cases hq : r.params.args with
        | nil => rw [hq] at j5; cases j5
        | cons ar as => rw [hq] at j5; exact ⟨ar, rfl, (List.cons.inj j5).1⟩
      have B : L2.Binds K ⟨"__init__", r.qual, r.params, .stmts r.body, r.scope, mainGlobals, [(("__class__" : Str), cc)], .none, n9, n10, n11, n12, .ref cda, n14, builtinsNs⟩ [("self" : Str), r.g1, r.g2] [] := .all fun us hl => bind_plain a4 rfl hl
      refine ⟨T, ⟨r.fI K, _, _, He.eqO_ok b10, of_decide_eq_true b11, B, fun base k => (xinit_ok hx hms k).imp fun vs H Q E h => ?_⟩, hns, xfB_ok b3, fun f hf => ?_, of_decide_eq_true b12, by simp⟩
      · obtain ⟨a, ws, rfl, hl, h4, h5⟩ := h
        match ws, hl with
        | [y1, y2], _ => exact ⟨a, y1, y2, rfl, h4, h5⟩
      · simp only [List.mem_cons, List.not_mem_nil, or_false] at hf
        rcases hf with rfl | rfl
        · exact He.eqO_ok b8
        · exact He.eqO_ok b9
    | _ => cases b1
theorem xrow_ok1 {P : Program} {w : World} {K : PySem.W.Frag} {mg : Str → Option Value} {r : XRow} (h1 : r.ok1 P = true) (h2 : r.heapOk P K = true) (h3 : r.see K = r.val) (hms : mg "super" = none) : XclT P w K mg (r.C K) [r.f1] := by
  obtain ⟨a1, a⟩ := and2 h1
  obtain ⟨a1, a2⟩ := and2 a1
  obtain ⟨a2, a3⟩ := and2 a2
  obtain ⟨a3, a4⟩ := and2 a3
  obtain ⟨d1, a8⟩ := and2 a
  obtain ⟨b1, b⟩ := and2 h2
  obtain ⟨b2, b⟩ := and2 b
  obtain ⟨b2, b3⟩ := and2 b2
  obtain ⟨b4, b⟩ := and2 b
  obtain ⟨b4, b5⟩ := and2 b4
  obtain ⟨b6, b⟩ := and2 b
  obtain ⟨b6, b7⟩ := and2 b6
  obtain ⟨b8, b⟩ := and2 b
  obtain ⟨b8, b9⟩ := and2 b8
  obtain ⟨b10, b12⟩ := and2 b
  obtain ⟨b10, b11⟩ := and2 b10
  have hns : NsOk [r.f1] := fun f hf g hg _ => by rw [List.mem_singleton.mp hf, List.mem_singleton.mp hg]
  obtain ⟨e1, e2, _⟩ := db_ok d1
  have T := oexB_ok b2
  cases q : K.lookup (r.fI K) with
  | none => rw [q] at b1; cases b1
  | some o =>
    obtain ⟨oc, od, dt, osl⟩ := o
    unfold XRow.see at h3
    rw [q] at b1 h3
    cases dt with
    | func fd =>
      obtain ⟨n1, n2, n3, n4, n5, n6, n7, n8, n9, n10, n11, n12, n13, n14, n15⟩ := fd
      have h3 : (some (n1, n2, n3, n4, n5, n6, n7.map (·.1), n8, n15) : XV) = r.val := h3
      unfold XRow.val at h3
      simp only [Option.some.injEq, Prod.mk.injEq] at h3
      obtain ⟨k1, k2, k3, k4, k5, k6, k7, k8, k9⟩ := h3
      subst k1 k2 k3 k4 k5 k6 k8 k9
      have b1 : xcB P K (r.C K) r.qual n7 n13 = true := b1
      obtain ⟨y, cc, cda, rfl, rfl, c1, c2, c3⟩ := xcB_ok b1
      have hy : y = ("__class__" : Str) := by simpa using k7
      subst hy
      have hbody : ∃ p : Nat → Pos, r.body = xBody1 r.g1 p ∧ ((p 2).endLine == (p 5).line) = true := by
        split at a8
        · rename_i ga ps e
          obtain ⟨m1, m3⟩ := and2 a8
          have m1 := of_decide_eq_true m1
          subst m1
          exact ⟨_, asXBody1_ok e, m3⟩
        · cases a8
      have hx : XInit1 P K (r.C K) r.g1 (r.fI K) cda cc ⟨"__init__", r.qual, r.params, r.body, r.scope, [(("__class__" : Str), cc)], cda⟩ ⟨"__init__", r.qual, r.params, .stmts r.body, r.scope, mainGlobals, [(("__class__" : Str), cc)], .none, n9, n10, n11, n12, .ref cda, n14, builtinsNs⟩ := by
        refine ⟨⟨oc, od, osl, .none, n9, n10, n11, n12, n14, rfl, q⟩, ⟨rfl, rfl⟩, c2, c3, c1, ?_, NdefX.nscope_by a1, of_decide_eq_true a2, by simpa using a3, He.eqO_ok b4, of_decide_eq_true b5, of_decide_eq_true b6, He.eqO_ok b7, T, He.eqO_ok b8, hbody, ⟨e1, e2⟩⟩
        unfold plainP at a4
        simp only [Bool.and_eq_true, decide_eq_true_eq, List.isEmpty_iff] at a4
        obtain ⟨⟨⟨⟨⟨j1, _⟩, _⟩, _⟩, j5⟩, _⟩ := a4
        show ∃ ar : Arg, (r.params.posonlyargs ++ r.params.args).head? = some ar ∧ _
        rw [j1, List.nil_append]
        cases hq : r.params.args with
        | nil => rw [hq] at j5; cases j5
        | cons ar as => rw [hq] at j5; exact ⟨ar, rfl, (List.cons.inj j5).1⟩
      have B : L2.Binds K ⟨"__init__", r.qual, r.params, .stmts r.body, r.scope, mainGlobals, [(("__class__" : Str), cc)], .none, n9, n10, n11, n12, .ref cda, n14, builtinsNs⟩ [("self" : Str), r.g1] [] := .all fun us hl => bind_plain a4 rfl hl
      refine ⟨T, ⟨r.fI K, _, _, He.eqO_ok b10, of_decide_eq_true b11, B, fun base k => (xinit1_ok hx hms k).imp fun vs H Q E h => ?_⟩, hns, xfB_ok b3, fun f hf => ?_, of_decide_eq_true b12, by simp⟩
      · obtain ⟨a, ws, rfl, hl, h4, h5⟩ := h
        match ws, hl with
        | [y1], _ => exact ⟨a, y1, rfl, h4, h5⟩
      · simp only [List.mem_cons, List.not_mem_nil, or_false] at hf
        subst hf
        exact He.eqO_ok b8
    | _ => cases b1
/-- what the list of constants says of classes -/
def csB (P : Program) (rows : List FnRow) (xrs : List XRow) : String × D → Bool
  | (x, .clo false _ ns ms) => nsB ns && ms.all fun m => (ns.all fun f => !decide (Str.ofString f = Str.ofString m.1)) && rows.any fun r => decide (r.name = m.2) && decide (r.at_ = (Str.ofString x, some (Str.ofString m.1)))
  | (x, .clo true _ ns _) => xrs.any fun r => decide (r.x = x) && (decide (ns = r.ns) && r.okB P)
  | _ => true
def csOk (P : Program) (rows : List FnRow) (cs : List (String × D)) (xrs : List XRow) : Bool := cs.all (csB P rows xrs)
section
variable {P : Program} {w : World} {rows : List FnRow} {cs : List (String × D)} {xrs : List XRow} {K : PySem.W.Frag} {h : Heap} {mg : Str → Option Value}
theorem clo_ga {x : String} {b : Bool} {C : Nat} {ns : List String} {ms : List (String × String)} (c : cs.all (conB K) = true) (e : conT cs x = some (.clo b C ns ms)) : He.ga K (Str.ofString x) = C := by
  have q := List.all_eq_true.mp c _ (lookup_mem e)
  unfold conB at q
  unfold He.ga
  cases p : PySem.W.nsIn K mainGlobals (Str.ofString x) with
  | none => simp only [p] at q; cases q
  | some r =>
    cases r with
    | none => simp only [p] at q; cases q
    | some u =>
      simp only [p] at q
      cases u with
      | ref a => simpa [repB] using q
      | _ => simp [repB] at q
theorem mtab_ok (c : He.SaysD (fasOf rows cs) (ddsOf rows) K) (tb : rows.all (rowTb K) = true) (ok : rowsOk rows = true) (c2 : cs.all (conB K) = true) (ok2 : csOk P rows cs xrs = true) : MTab K (tabT rows) (nmsP rows) (conT cs) := fun x C ns ms e => by
  have hC := clo_ga c2 e
  have hm := lookup_mem e
  have q := List.all_eq_true.mp ok2 _ hm
  obtain ⟨q1, q2⟩ := and2 (show (nsB ns && ms.all fun m => _) = true from q)
  have fa : ∀ f, f ∈ faC (x, .clo false C ns ms) → f.ok K = true := fun f hf => fact_mem c (List.mem_append_right _ (List.mem_append_right _ (List.mem_flatMap.mpr ⟨_, hm, hf⟩)))
  subst hC
  have hcl := He.cls_ok (fa (.cls (Str.ofString x)) (by simp [faC]))
  have hmk := He.mkr_ok (fa (.mkr (Str.ofString x)) (by simp [faC]))
  refine ⟨⟨hcl, nsB_ok q1, fun f hf => He.noat_ok (fa (.noat (Str.ofString x) (Str.ofString f)) ?_)⟩, hmk.makes, hmk.kp, fun m key hk => ?_⟩
  · simp only [faC, List.mem_append, List.mem_map]
    exact .inl (.inr ⟨f, hf, rfl⟩)
  · have hmem := lookup_mem hk
    obtain ⟨p1, p2⟩ := and2 (List.all_eq_true.mp q2 _ hmem)
    obtain ⟨r, hr, p3⟩ := List.any_eq_true.mp p2
    obtain ⟨p3, p4⟩ := and2 p3
    have p3 := of_decide_eq_true p3
    have p4 := of_decide_eq_true p4
    obtain ⟨fd, R, _⟩ := rowF_of c tb ok hr
    have hat : He.fAd K r.at_ = He.ma K (He.ga K (Str.ofString x)) (Str.ofString m) := by rw [p4]; rfl
    rw [hat] at R
    refine ⟨fun f hf => ?_, r, _, fd, p3, He.meth_ok (fa (.meth (Str.ofString x) (Str.ofString m)) ?_), R⟩
    · have := List.all_eq_true.mp p1 f hf
      simpa using this
    · simp only [faC, List.mem_append, List.mem_map]
      exact .inr ⟨(m, key), hmem, rfl⟩
/-- what the heap must say of the exceptions' classes: of each, and that none is another one's -/
def xrsOk (P : Program) (K : PySem.W.Frag) (xrs : List XRow) : Bool := xrs.all (XRow.heapOk P K) && xrs.all fun r => xrs.all fun s => decide (PySem.W.exmOne K (.ref (r.C K)) (.ref (s.C K)) = some (decide (r.x = s.x)))
theorem xtab_ok (c2 : cs.all (conB K) = true) (ok2 : csOk P rows cs xrs = true) (c3' : xrsOk P K xrs = true) (c4 : xrs.map (XRow.see K) = xrs.map XRow.val) (hms : mg "super" = none) : XTab P w K mg (conT cs) := by
  obtain ⟨c3, c5⟩ := and2 c3'
  have row : ∀ {x C ns ms}, conT cs x = some (.clo true C ns ms) → ∃ r ∈ xrs, r.x = x ∧ r.ns = ns ∧ r.okB P = true ∧ r.C K = C := fun {x C ns ms} e => by
    have hC := clo_ga c2 e
    have q := List.all_eq_true.mp ok2 _ (lookup_mem e)
    obtain ⟨r, hr, q⟩ := List.any_eq_true.mp (show (xrs.any fun r => _) = true from q)
    obtain ⟨q1, q⟩ := and2 q
    obtain ⟨q2, q3⟩ := and2 q
    have q1 := of_decide_eq_true q1
    have q2 := of_decide_eq_true q2
    subst q1 q2
    exact ⟨r, hr, rfl, rfl, q3, hC⟩
  refine ⟨fun x C ns ms e => ?_, fun x C ns ms x' C' ns' ms' e e' => ?_⟩
  case refine_2 =>
    obtain ⟨r, hr, rfl, _, _, rfl⟩ := row e
    obtain ⟨r', hr', rfl, _, _, rfl⟩ := row e'
    exact of_decide_eq_true (List.all_eq_true.mp (List.all_eq_true.mp c5 r hr) r' hr')
  obtain ⟨r, hr, rfl, rfl, q3, hC⟩ := row e
  have hsee : r.see K = r.val := by
    have : ∀ {l : List XRow}, l.map (XRow.see K) = l.map XRow.val → ∀ r ∈ l, r.see K = r.val := by
      intro l
      induction l with
      | nil => intro _ r h; cases h
      | cons a l ih =>
        intro h r hr
        simp only [List.map_cons, List.cons.injEq] at h
        rcases List.mem_cons.mp hr with e | e
        · rw [e]; exact h.1
        · exact ih h.2 r e
    exact this c4 r hr
  have : XclT P w K mg (r.C K) r.ns := by
    unfold XRow.okB at q3
    unfold XRow.ns
    by_cases e : r.f2 = ""
    · rw [if_pos e] at q3 ⊢
      exact xrow_ok1 (w := w) q3 (List.all_eq_true.mp c3 r hr) hsee hms
    · rw [if_neg e] at q3 ⊢
      exact xrow_ok (w := w) q3 (List.all_eq_true.mp c3 r hr) hsee hms
  have e : r.C K = C := hC
  rw [e] at this
  exact this
end
/-- the body of a class -/
def clsB : Stmt → List Stmt
  | .ClassDef _ _ _ b _ _ _ _ _ _ _ => b
  | _ => []
/-- the addresses of the module's names -/
def gaS (K : PySem.W.Frag) (x : String) : Nat := He.ga K (Str.ofString x)
/-! ## the head -/
abbrev AlP : Type := (He.AlD × Bool) × List XV
def obsP (P : Program) (rows : List FnRow) (cs : (String → Nat) → List (String × D)) (xrs : List XRow) (g : Addr → Option Obj) (K : PySem.W.Frag) : AlP := ((He.obsD (fasOf rows (cs (gaS K))) (ddsOf rows) K, (cs (gaS K)).all (conB K) && (xrsOk P K xrs && ((tbC K).all (tbAt g K) && (decide (tbP K).Nodup && rows.all (rowTb K))))), xrs.map (XRow.see K))
def obsPG (n : Nat) (P : Program) (rows : List FnRow) (cs : (String → Nat) → List (String × D)) (xrs : List XRow) (g : Addr → Option Obj) : AlP := obsP P rows cs xrs g (noTab (He.frG g (cStatics :: He.asD g n)))
def hookP (n : Nat) (P : Program) (rows : List FnRow) (cs : (String → Nat) → List (String × D)) (xrs : List XRow) : PySem.W.Hook where
  α := AlP
  obs := fun s => obsPG n P rows cs xrs s.heap.get?
  val := fun _ => ((He.valD (ddsOf rows), true), xrs.map XRow.val)
  says := fun _ h => ∃ K : PySem.W.Frag, K.In h ∧ He.SaysD (fasOf rows (cs (gaS K))) (ddsOf rows) K ∧ (cs (gaS K)).all (conB K) = true ∧ xrsOk P K xrs = true ∧ (TabsAt h K ∧ (tbP K).Nodup ∧ rows.all (rowTb K) = true) ∧ xrs.map (XRow.see K) = xrs.map XRow.val
  of := fun _ _ e => by
    obtain ⟨e1, e2⟩ := and2 (congrArg (fun z : AlP => z.1.2) e)
    obtain ⟨e2, e3⟩ := and2 e2
    obtain ⟨e3, e4⟩ := and2 e3
    obtain ⟨e4, e5⟩ := and2 e4
    exact ⟨_, noTab_in rfl, congrArg (fun z : AlP => z.1.1) e, e1, e2, ⟨tabsAt_of e3, of_decide_eq_true e4, e5⟩, congrArg (fun z : AlP => z.2) e⟩
  keeps := fun _ _ _ ⟨K, hK, c, c2, c3, ⟨t, c4⟩, c5⟩ k => ⟨K, PySem.W.Frag.In.keeps hK k, c, c2, c3, ⟨t.keeps k, c4⟩, c5⟩
theorem obsPG_eq {n : Nat} {P : Program} {rows : List FnRow} {cs : (String → Nat) → List (String × D)} {xrs : List XRow} {g : Addr → Option Obj} {s : Shared} (h : ∀ a, g a = s.heap.get? a) : obsPG n P rows cs xrs g = (hookP n P rows cs xrs).obs s := by
  have e : g = s.heap.get? := funext h
  rw [e] <;> rfl
/-! ## the end -/
theorem reps_ints {K : PySem.W.Frag} {z : Zw} : ∀ ns : List Int, Reps K z (ns.map D.int) (ns.map V.int)
  | [] => .nil
  | n :: ns => .cons (by unfold Rep; rfl) (reps_ints ns)
theorem walk_P {l : PySem.W.OpenLaw} {q : Program} {loose : List Str} {XP : (Str → Option Value) → Heap → Prop} {rows : List FnRow} {cs : (String → Nat) → List (String × D)} {xrs : List XRow} {d : DefRec} {r : FnRow} {k m : Nat}
    (hn : l.most = some 63) (hdf : d.params.defaults = []) (hr : Room (4 * k + 1) callerA) (ok : rowsOk rows = true) (ok2 : ∀ ad, csOk l.prog rows (cs ad) xrs = true) (hl : r ∈ rows) (hpl : r.pl = true) (hnm : Str.ofString r.name = d.name) (hps : r.ps = [("script" : Str)])
    (law : ∀ (ad : String → Nat) (ns : List Int), ns.length ≤ 63 → ∃ S, callN (tabT rows) (conT (cs ad)) k r.name [.rol (ns.map D.int)] [] = .ok (.bl true) S) :
    PySem.W.WalkO q loose XP (hookP m l.prog rows cs xrs).says l.row.toRowW d [] (fun f vs => PySem.call f vs) := by
  refine Att.attach_callB hn hdf fun w s₀ s₁ mg mb fa o pm cd doc a vs ns G Y ho hd hcd hmg hobj hints hlen hbits hg => ?_
  obtain ⟨K, KX, c, c2, c3, ⟨t1, t2, t3⟩, c4⟩ := Y
  obtain ⟨fd, R, B⟩ := row_of KX G.T.g c t3 ok hl hpl
  have e : fa = He.ga K (Str.ofString r.name) := by
    have := hmg.symm.trans ((congrArg mg hnm.symm).trans R.at_)
    cases this; rfl
  have hF := fun base : Heap => fn_ok (P := l.prog) (w := w) (tab_ok KX G.T.g c t3 ok) (mtab_ok c t3 ok c2 (ok2 _)) (xtab_ok c2 (ok2 _) c3 c4 (bn_ok KX G.T.g c _ (by decide))) (cons_ok KX G.T.g c2) (bn_ok KX G.T.g c) t2 (atab_ok KX G.T.g c t3 ok) k R.toRowF base
  rw [← e] at hF
  rw [hps] at hF
  have hcs : ∀ p ∈ (tbC K).map fun p => (p.1, p.2.1), ∃ q, (p.1, p.2, q) ∈ tbC K := fun p hp => by
    obtain ⟨⟨a, b, q⟩, hq, rfl⟩ := List.mem_map.mp hp
    exact ⟨q, hq⟩
  refine LamX.law_callTs (x := "script") (cs := (tbC K).map fun p => (p.1, p.2.1)) (CX := L2.CX l.prog w) KX G.T.g G.T.b G.T.builtins G.T.nolimit hg (fun p hp => let ⟨q, hq⟩ := hcs p hp; (t1 _ hq).1) (fun p hp => let ⟨q, hq⟩ := hcs p hp; (t1 _ hq).2.1) (fun p hp => let ⟨q, hq⟩ := hcs p hp; (t1 _ hq).2.2) G.T.bmain
    hobj hints (Nat.le_trans hlen (by decide)) hr (fun base _ _ hTB => hF base fun p hp => hTB _ (List.mem_map.mpr ⟨p, hp, rfl⟩)) (fun s u => ?_) (fun H hTH hS => ?_) fun H e s' hx => ?_
  · have := B s [u] (by rw [hps]; rfl)
    rw [hps] at this; exact this
  · obtain ⟨S, hlaw⟩ := law (gaS K) ns hlen
    have tabs : LamX.Tabs (tbT K) H := fun p hp => by
      obtain ⟨⟨c, P, q⟩, hq, rfl⟩ := List.mem_map.mp hp
      exact .nil (hTH _ (List.mem_map.mpr ⟨_, hq, rfl⟩))
    refine ⟨rfl, ⟨[], [], [], H⟩, [.rol (ns.map D.int)], rfl, ⟨rfl, List.nodup_nil, fun _ h => (nomatch h), fun _ h => (nomatch h), fun _ h => (nomatch h), fun r mo a h => (nomatch h), tabs⟩, .cons ?_ .nil, ?_⟩
    · unfold Rep
      refine ⟨a, ns.map V.int, rfl, ?_, by rw [List.length_map]; exact Nat.le_trans hlen (by decide), reps_ints ns⟩
      have nl : ∀ a, ¬ (Live ⟨[], [], [], H⟩ a ∨ a ∈ ([] : List Addr)) := fun a => by
        rintro (⟨r, mo, h, _⟩ | h) <;> cases h
      rcases hS with (h | ⟨o, h⟩) | hS
      · exact .inl ⟨_, ⟨h, nl a, fun _ h => nomatch h⟩, .inl rfl⟩
      · exact .inl ⟨_, ⟨h, nl a, fun _ h => nomatch h⟩, .inr ⟨o, rfl⟩⟩
      · exact .inr (.inr hS)
    · show (match callN (tabT rows) (conT (cs (gaS K))) k r.name [.rol (ns.map D.int)] [] with | .ok d S1 => _ | .exc x _ S1 => _ | .bad => _)
      rw [hlaw]
      intro w z1 _ _ _ h
      unfold Rep at h
      exact h
  · obtain ⟨_, _, _, _, _, _, _, _, _, _, _, _, h⟩ := hx
    exact h
end PyI

set_option maxRecDepth 100000
set_option maxHeartbeats 4000000
namespace PyI
open PySem
/-! ## plain lemmas over the evaluator -/
noncomputable def fin (S : Store) (r : Rs Fl) : Rs D := match r with
  | .ok (.rt d) S' => retn S d S'
  | .ok (.nx _) S' => retn S .non S'
  | .ok _ _ => .bad
  | .exc x _ S' => .exc x [] S'
  | .bad => .bad
@[simp] theorem fin_rt {S S' : Store} {d : D} : fin S (.ok (.rt d) S') = retn S d S' := rfl
@[simp] theorem fin_nx {S S' : Store} {e : Env} : fin S (.ok (.nx e) S') = retn S .non S' := rfl
@[simp] theorem fin_exc {S S' : Store} {e : Env} {x : Xc} : fin S (.exc x e S') = .exc x [] S' := rfl
@[simp] theorem retn_same {S : Store} {d : D} : retn S d S = .ok d S := by unfold retn; rw [trunc_self]
theorem bOk {α β : Type} {a : α} {S : Store} {f : α → Store → Rs β} : (Rs.ok a S).bind f = f a S := rfl
theorem bEx {α β : Type} {x : Xc} {e : Env} {S : Store} {f : α → Store → Rs β} : (Rs.exc x e S).bind f = .exc x e S := rfl
theorem bBd {α β : Type} {f : α → Store → Rs β} : (Rs.bad).bind f = .bad := rfl
theorem aOk {α : Type} {a : α} {S : Store} {e : Env} : (Rs.ok a S).at e = .ok a S := rfl
theorem call_eq {T : String → Option Fn} {con : String → Option D} {k : Nat} {f : String} {fd : Fn} {ds : List D} {S : Store} (h : T f = some fd) (hl : ds.length = fd.np) :
    callN T con (k + 1) f ds S = fin S (evSs ⟨callN T con k, con, none, akT T⟩ fd.body (ds.map some ++ List.replicate (fd.n - ds.length) none) S) := by
  show (match T f with | none => _ | some fd => _) = _
  rw [h]
  show (if ds.length = fd.np then _ else _) = _
  rw [if_pos hl]; rfl
section
variable {W : Wd} {own : List Nat} {elt : Ex} {t : Tg} {it : It} {c : Tx} {e : Env} {S : Store}
theorem forR_flt {f : D → List D → Store → Rs (List D)} {p : D → Bool} {g : D → D} {S : Store} : ∀ (xs acc : List D), (∀ x ∈ xs, ∀ acc : List D, acc.length < SZ → f x acc S = .ok (if p x then acc ++ [g x] else acc) S) → acc.length + xs.length ≤ SZ →
    forR (fun _ => true) f xs acc S = .ok (acc ++ (xs.filter p).map g) S
  | [], acc, _, _ => by simp [forR]
  | x :: xs, acc, h, hl => by
    have hl' : acc.length + xs.length + 1 ≤ SZ := by simpa [Nat.add_assoc] using hl
    unfold forR
    rw [if_pos rfl, h x List.mem_cons_self acc (by omega)]
    rw [bOk, forR_flt xs _ (fun y hy => h y (List.mem_cons_of_mem _ hy)) (by cases p x <;> simp <;> omega)]
    cases hp : p x <;> simp [List.filter_cons, hp]
theorem comp_flt {xs : List D} {p : D → Bool} {g : D → D} (hi : evI W it e S = .ok (xs, none) S) (hl : xs.length ≤ SZ)
    (h : ∀ x ∈ xs, ∃ e', setT (wip e own) t x = some e' ∧ evT W c e' S = .ok (p x) S ∧ (p x = true → evE W elt e' S = .ok (g x) S)) : evE W (.comp own elt t it c) e S = .ok (.lst ((xs.filter p).map g)) S := by
  simp only [evE, hi, bOk, srcOk_none]
  rw [forR_flt (p := p) (g := g) xs [] (fun x hx acc ha => ?_) (by simpa using hl)]
  · rfl
  · obtain ⟨e', h1, h2, h3⟩ := h x hx
    simp only [h1, h2, bOk]
    cases hp : p x with
    | false => simp
    | true => simp [h3 hp, ha, bOk]
theorem comp_map {xs : List D} {g : D → D} (hi : evI W it e S = .ok (xs, none) S) (hl : xs.length ≤ SZ)
    (h : ∀ x ∈ xs, ∃ e', setT (wip e own) t x = some e' ∧ evE W elt e' S = .ok (g x) S) : evE W (.comp own elt t it .yes) e S = .ok (.lst (xs.map g)) S := by
  rw [comp_flt (p := fun _ => true) (g := g) hi hl fun x hx => ?_]
  · rw [List.filter_eq_self.mpr fun _ _ => rfl]
  · obtain ⟨e', h1, h2⟩ := h x hx
    exact ⟨e', h1, by simp [evT], fun _ => h2⟩
/-- with a store that changes -/
theorem forR_inv {f : D → List D → Store → Rs (List D)} {B : Store → Prop} {Q : D → Prop} : ∀ (xs acc : List D) (S : Store), B S → (∀ x ∈ xs, ∀ (acc : List D) S, B S → acc.length < SZ → ∃ d S', f x acc S = .ok (acc ++ [d]) S' ∧ B S' ∧ Q d) → (∀ d ∈ acc, Q d) → acc.length + xs.length ≤ SZ →
    ∃ ds S', forR (fun _ => true) f xs acc S = .ok ds S' ∧ B S' ∧ ds.length = acc.length + xs.length ∧ ∀ d ∈ ds, Q d
  | [], acc, S, b, _, ha, _ => ⟨acc, S, by simp [forR], b, by simp, ha⟩
  | x :: xs, acc, S, b, h, ha, hl => by
    have hl' : acc.length + xs.length + 1 ≤ SZ := by simpa [Nat.add_assoc] using hl
    obtain ⟨d, S', h1, h2, h3⟩ := h x List.mem_cons_self acc S b (by omega)
    obtain ⟨ds, S2, k1, k2, k3, k4⟩ := forR_inv (f := f) (B := B) (Q := Q) xs (acc ++ [d]) S' h2 (fun y hy => h y (List.mem_cons_of_mem _ hy)) (fun q hq => by
      rcases List.mem_append.mp hq with hq | hq
      · exact ha q hq
      · rw [List.mem_singleton.mp hq]; exact h3) (by simp; omega)
    refine ⟨ds, S2, ?_, k2, by rw [k3]; simp; omega, k4⟩
    unfold forR
    rw [if_pos rfl, h1]
    exact k1
theorem comp_inv {xs : List D} {B : Store → Prop} {Q : D → Prop} {S0 : Store} (hi : evI W it e S0 = .ok (xs, none) S) (b : B S) (hl : xs.length ≤ SZ)
    (h : ∀ x ∈ xs, ∃ e', setT (wip e own) t x = some e' ∧ ∀ S, B S → ∃ d S', evE W elt e' S = .ok d S' ∧ B S' ∧ Q d) : ∃ ds S', evE W (.comp own elt t it .yes) e S0 = .ok (.lst ds) S' ∧ B S' ∧ ds.length = xs.length ∧ ∀ d ∈ ds, Q d := by
  simp only [evE, hi, bOk, srcOk_none]
  obtain ⟨ds, S', h1, h2, h3, h4⟩ := forR_inv (B := B) (Q := Q) (f := fun x acc S => match setT (wip e own) t x with
        | some e' => (evT W .yes e' S).bind fun b S => if b then (evE W elt e' S).bind fun d S => if acc.length < SZ then .ok (acc ++ [d]) S else .bad else .ok acc S
        | none => .bad) xs [] S b (fun x hx acc S b ha => by
      obtain ⟨e', q1, q2⟩ := h x hx
      obtain ⟨d, S', k1, k2, k3⟩ := q2 S b
      exact ⟨d, S', by simp [q1, evT, k1, ha, bOk], k2, k3⟩) (by simp) (by simpa using hl)
  exact ⟨ds, S', congrArg (fun r : Rs (List D) => r.nox.bind fun ds S => Rs.ok (D.lst ds) S) h1, h2, by simpa using h3, h4⟩
end
/-! ## data of bounded sizes -/
mutual
def D.sml : Nat → D → Bool
  | _, .non => true
  | _, .bl _ => true
  | _, .int _ => true
  | n, .str x => decide (x.length ≤ n)
  | n, .tup ds => decide (ds.length ≤ n) && smls n ds
  | n, .lst ds => decide (ds.length ≤ n) && smls n ds
  | _, _ => false
def smls : Nat → List D → Bool
  | _, [] => true
  | n, d :: ds => d.sml n && smls n ds
end
mutual
theorem sml_dat {n : Nat} : ∀ {d : D}, d.sml n = true → d.dat = true
  | .non, _ => rfl
  | .bl _, _ => rfl
  | .int _, _ => rfl
  | .str _, _ => rfl
  | .tup ds, h => by simp [D.sml] at h; simp [D.dat, smls_dat h.2]
  | .lst ds, h => by simp [D.sml] at h; simp [D.dat, smls_dat h.2]
  | .rol _, h => by simp [D.sml] at h
  | .obj _, h => by simp [D.sml] at h
  | .edic, h => by simp [D.sml] at h
  | .ftup _, h => by simp [D.sml] at h
theorem smls_dat {n : Nat} : ∀ {ds : List D}, smls n ds = true → dats ds = true
  | [], _ => rfl
  | d :: ds, h => by simp [smls] at h; simp [dats, sml_dat h.1, smls_dat h.2]
end
mutual
theorem sml_mono {n m : Nat} (hm : n ≤ m) : ∀ {d : D}, d.sml n = true → d.sml m = true
  | .non, _ => rfl
  | .bl _, _ => rfl
  | .int _, _ => rfl
  | .str x, h => by simp [D.sml] at h ⊢; omega
  | .tup ds, h => by simp [D.sml] at h ⊢; exact ⟨by omega, smls_mono hm h.2⟩
  | .lst ds, h => by simp [D.sml] at h ⊢; exact ⟨by omega, smls_mono hm h.2⟩
  | .rol _, h => by simp [D.sml] at h
  | .obj _, h => by simp [D.sml] at h
  | .edic, h => by simp [D.sml] at h
  | .ftup _, h => by simp [D.sml] at h
theorem smls_mono {n m : Nat} (hm : n ≤ m) : ∀ {ds : List D}, smls n ds = true → smls m ds = true
  | [], _ => rfl
  | d :: ds, h => by simp [smls] at h; simp [smls, sml_mono hm h.1, smls_mono hm h.2]
end
theorem smls_all {n : Nat} : ∀ {ds : List D}, smls n ds = true ↔ ∀ d ∈ ds, d.sml n = true
  | [] => by simp [smls]
  | d :: ds => by simp [smls, smls_all]
theorem eqv_flat0 : True := trivial
/-! ## _law_alike -/
mutual
def D.size : D → Nat
  | .tup ds => 1 + sizes ds
  | .lst ds => 1 + sizes ds
  | _ => 1
def sizes : List D → Nat
  | [] => 0
  | d :: ds => d.size + sizes ds
end
mutual
/-- what the alike loop takes -/
def D.alk : D → Bool
  | .non => true
  | .bl _ => true
  | .int _ => true
  | .str _ => true
  | .tup ds => alks ds
  | .lst ds => alks ds
  | _ => false
def alks : List D → Bool
  | [] => true
  | d :: ds => d.alk && alks ds
end
theorem zipD_self : ∀ ds : List D, zipD ds ds = ds.map fun d => .tup [d, d]
  | [] => rfl
  | d :: ds => by simp [zipD, zipD_self ds]
theorem sizes_app : ∀ {a b : List D}, sizes (a ++ b) = sizes a + sizes b
  | [], b => by simp [sizes]
  | d :: a, b => by simp [sizes, sizes_app (a := a)]; omega
theorem alks_app : ∀ {a b : List D}, alks a = true → alks b = true → alks (a ++ b) = true
  | [], b, _, h => h
  | d :: a, b, h, h2 => by simp [alks] at h; simp [alks, h.1, alks_app h.2 h2]
theorem len_le_sizes : ∀ ds : List D, ds.length ≤ sizes ds
  | [] => by simp [sizes]
  | d :: ds => by
    have h1 := len_le_sizes ds
    have h2 : 1 ≤ d.size := by cases d <;> simp [D.size]
    simp [sizes]; omega
end PyI

set_option maxRecDepth 100000
set_option maxHeartbeats 1000000
namespace PyI
open PySem L2
/-! ## one step of the evaluator at a time -/
section
variable {W : Wd} {e e' e2 : Env} {S S1 S2 S3 S4 : Store} {a b c x y z : Ex} {es : Exs} {d d1 d2 d3 : D} {ds : List D} {s : Sm} {r : Sms} {R : Rs Fl} {o p : BO} {q : CO} {t t1 t2 : Bool} {i j : Nat}
theorem ss_nil : evSs W .nil e S = .ok (.nx e) S := rfl
theorem ss_nx (h : evS W s e S = .ok (.nx e') S1) (k : evSs W r e' S1 = R) : evSs W (.cons s r) e S = R := by
  show (evS W s e S).bind _ = _
  rw [h]; exact k
theorem ss_rt (h : evS W s e S = .ok (.rt d) S1) : evSs W (.cons s r) e S = .ok (.rt d) S1 := by
  show (evS W s e S).bind _ = _
  rw [h]; rfl
theorem st_if {C : Tx} {A B : Sms} (h : evT W C e S = .ok t S1) (k : (if t then evSs W A e S1 else evSs W B e S1) = R) : evS W (.ifs C A B) e S = R := by
  show (evT W C e S).bind _ = _
  rw [h]; exact k
theorem st_ift {C : Tx} {A B : Sms} (h : evT W C e S = .ok true S1) (k : evSs W A e S1 = R) : evS W (.ifs C A B) e S = R := st_if h k
theorem st_iff {C : Tx} {A B : Sms} (h : evT W C e S = .ok false S1) (k : evSs W B e S1 = R) : evS W (.ifs C A B) e S = R := st_if h k
theorem st_if0 {C : Tx} {A : Sms} (h : evT W C e S = .ok false S1) : evS W (.ifs C A .nil) e S = .ok (.nx e) S1 := st_if h rfl
theorem st_ret (h : evE W x e S = .ok d S1) : evS W (.ret x) e S = .ok (.rt d) S1 := by
  show (evE W x e S).bind _ = _
  rw [h]; rfl
theorem st_asg {T : Tg} (h : evE W x e S = .ok d S1) (k : setT e T d = some e') : evS W (.asg T x) e S = .ok (.nx e') S1 := by
  show (evE W x e S).bind _ = _
  rw [h]
  show (optR (setT e T d) S1).bind _ = _
  rw [k]; rfl
theorem st_par (h : evE W a e S = .ok d S1) (k : evE W b e S1 = .ok d1 S2) : evS W (.par i j a b) e S = .ok (.nx ((e.set i (some d)).set j (some d1))) S2 := by
  show (evE W a e S).bind _ = _
  rw [h]
  show (evE W b e S1).bind _ = _
  rw [k]; rfl
theorem st_par3 {l : Nat} (h : evE W a e S = .ok d S1) (k : evE W b e S1 = .ok d1 S2) (k2 : evE W c e S2 = .ok d2 S3) : evS W (.par3 i j l a b c) e S = .ok (.nx (((e.set i (some d)).set j (some d1)).set l (some d2))) S3 := by
  show (evE W a e S).bind _ = _
  rw [h]
  show (evE W b e S1).bind _ = _
  rw [k]
  show (evE W c e S2).bind _ = _
  rw [k2]; rfl
theorem st_aug (h0 : e[i]? = some (some d)) (h : evE W x e S = .ok d1 S1) (k : augop o d d1 = some d2) : evS W (.aug i o x) e S = .ok (.nx (e.set i (some d2))) S1 := by
  show (match e[i]? with | some (some d) => _ | _ => _) = _
  rw [h0]
  show (evE W x e S).bind _ = _
  rw [h]
  show (optR (augop o d d1) S1).bind _ = _
  rw [k]; rfl
theorem st_exp (h : evE W x e S = .ok d S1) : evS W (.exp x) e S = .ok (.nx e) S1 := by
  show (evE W x e S).bind _ = _
  rw [h]; rfl
theorem a_cons0 (h : evE W x e S = .ok d S1) : evA W (.cons x .nil) e S = .ok [d] S1 := by
  show (evE W x e S).bind _ = _
  rw [h]; rfl
theorem e_var (h : e[i]? = some (some d)) : evE W (.var i) e S = .ok d S := by
  show (match e[i]? with | some (some d) => _ | _ => _) = _
  rw [h]
theorem e_cst : evE W (.cst d) e S = .ok d S := rfl
theorem e_glo {g : String} (h : W.con g = some d) : evE W (.glo g) e S = .ok d S := by
  show optR (W.con g) S = _
  rw [h]; rfl
theorem e_bin (h : evE W a e S = .ok d S1) (k : evE W b e S1 = .ok d1 S2) (l : binop o d d1 = some d2) : evE W (.bin o a b) e S = .ok d2 S2 := by
  show (evE W a e S).bind _ = _
  rw [h]
  show (evE W b e S1).bind _ = _
  rw [k]
  show optR _ _ = _
  rw [binS_of l]; rfl
theorem e_neg {n : Int} (h : evE W a e S = .ok (.int n) S1) : evE W (.neg a) e S = .ok (.int (-n)) S1 := by
  show (evE W a e S).bind _ = _
  rw [h]; rfl
theorem e_cmp (h : evE W a e S = .ok d S1) (k : evE W b e S1 = .ok d1 S2) (l : cmpop q d d1 = some t) : evE W (.cmp q a b) e S = .ok (.bl t) S2 := by
  show (evE W a e S).bind _ = _
  rw [h]
  show (evE W b e S1).bind _ = _
  rw [k]
  show optR _ _ = _
  rw [cmpS_of l]; rfl
theorem t_cmp (h : evE W a e S = .ok d S1) (k : evE W b e S1 = .ok d1 S2) (l : cmpop q d d1 = some t) : evT W (.cmp q a b) e S = .ok t S2 := by
  show (evE W a e S).bind _ = _
  rw [h]
  show (evE W b e S1).bind _ = _
  rw [k]
  show optR _ _ = _
  rw [cmpS_of l]; rfl
theorem e_binS (h : evE W a e S = .ok d S1) (k : evE W b e S1 = .ok d1 S2) (l : binS S2 o d d1 = some d2) : evE W (.bin o a b) e S = .ok d2 S2 := by
  show (evE W a e S).bind _ = _
  rw [h]
  show (evE W b e S1).bind _ = _
  rw [k]
  show optR _ _ = _
  rw [l]; rfl
theorem t_cmpS (h : evE W a e S = .ok d S1) (k : evE W b e S1 = .ok d1 S2) (l : cmpS S2 q d d1 = some t) : evT W (.cmp q a b) e S = .ok t S2 := by
  show (evE W a e S).bind _ = _
  rw [h]
  show (evE W b e S1).bind _ = _
  rw [k]
  show optR _ _ = _
  rw [l]; rfl
theorem e_mkl {xs : List D} (h : evE W a e S = .ok d S1) (k : asLst S1 d = some xs) : evE W (.mkl (.cons a .nil)) e S = .ok (.obj S1.length) (S1 ++ [.lst xs]) := by
  show (evA W (.cons a .nil) e S).bind _ = _
  rw [a_cons0 h]
  show (match asLst S1 d with | some xs => Rs.ok (D.obj S1.length) (S1 ++ [MO.lst xs]) | none => Rs.bad) = _
  rw [k]
theorem e_srt (h : evE W a e S = .ok d S1) (k : srtop S1 d = some d1) : evE W (.srt a) e S = .ok d1 S1 := by
  show (evE W a e S).bind _ = _
  rw [h]
  show optR _ _ = _
  rw [k]; rfl
theorem t_tst (h : evE W a e S = .ok d S1) (k : truth S1 d = some t) : evT W (.tst a) e S = .ok t S1 := by
  show (evE W a e S).bind _ = _
  rw [h]
  show optR _ _ = _
  rw [k]; rfl
theorem t_nt {C : Tx} (h : evT W C e S = .ok t S1) : evT W (.nt C) e S = .ok (!t) S1 := by
  show (evT W C e S).bind _ = _
  rw [h]; rfl
theorem t_or {A B : Tx} (h : evT W A e S = .ok t S1) (k : t = false → evT W B e S1 = .ok t1 S1) : evT W (.or A B) e S = .ok (t || t1) S1 := by
  show (evT W A e S).bind _ = _
  rw [h]
  cases t with
  | true => rfl
  | false => exact k rfl
theorem t_and {A B : Tx} (h : evT W A e S = .ok t S1) (k : t = true → evT W B e S1 = .ok t1 S1) : evT W (.and A B) e S = .ok (t && t1) S1 := by
  show (evT W A e S).bind _ = _
  rw [h]
  cases t with
  | false => rfl
  | true => exact k rfl
theorem t_ort {A B : Tx} (h : evT W A e S = .ok true S1) : evT W (.or A B) e S = .ok true S1 := by
  show (evT W A e S).bind _ = _
  rw [h]; rfl
theorem t_orf {A B : Tx} (h : evT W A e S = .ok false S1) (k : evT W B e S1 = .ok t1 S2) : evT W (.or A B) e S = .ok t1 S2 := by
  show (evT W A e S).bind _ = _
  rw [h]; exact k
theorem t_andt {A B : Tx} (h : evT W A e S = .ok true S1) (k : evT W B e S1 = .ok t1 S2) : evT W (.and A B) e S = .ok t1 S2 := by
  show (evT W A e S).bind _ = _
  rw [h]; exact k
theorem t_andf {A B : Tx} (h : evT W A e S = .ok false S1) : evT W (.and A B) e S = .ok false S1 := by
  show (evT W A e S).bind _ = _
  rw [h]; rfl
theorem t_chn {q2 : CO} (h : evE W a e S = .ok d S1) (k : evE W b e S1 = .ok d1 S2) (l : cmpop q d d1 = some t) (k2 : evE W c e S2 = .ok d2 S2) (l2 : t = true → cmpop q2 d1 d2 = some t2) : evT W (.chn q q2 a b c) e S = .ok (t && t2) S2 := by
  show (evE W a e S).bind _ = _
  rw [h]
  show (evE W b e S1).bind _ = _
  rw [k]
  show (optR (cmpop q d d1) S2).bind _ = _
  rw [l]
  cases t with
  | false => rfl
  | true =>
    show (evE W c e S2).bind _ = _
    rw [k2]
    show optR _ _ = _
    rw [l2 rfl]; rfl
theorem e_chn {q2 : CO} (h : evE W a e S = .ok d S1) (k : evE W b e S1 = .ok d1 S2) (l : cmpop q d d1 = some t) (k2 : evE W c e S2 = .ok d2 S2) (l2 : t = true → cmpop q2 d1 d2 = some t2) : evE W (.chn q q2 a b c) e S = .ok (.bl (t && t2)) S2 := by
  show (evE W a e S).bind _ = _
  rw [h]
  show (evE W b e S1).bind _ = _
  rw [k]
  show (optR (cmpop q d d1) S2).bind _ = _
  rw [l]
  cases t with
  | false => rfl
  | true =>
    show (evE W c e S2).bind _ = _
    rw [k2]
    show optR _ _ = _
    rw [l2 rfl]; rfl
theorem e_nt (h : evE W a e S = .ok d S1) (k : truth S1 d = some t) : evE W (.nt a) e S = .ok (.bl (!t)) S1 := by
  show (evE W a e S).bind _ = _
  rw [h]
  show optR _ _ = _
  rw [k]; rfl
/-- and, or of bools -/
theorem e_and (h : evE W a e S = .ok (.bl t) S1) (k : t = true → evE W b e S1 = .ok (.bl t1) S1) : evE W (.and a b) e S = .ok (.bl (t && t1)) S1 := by
  show (evE W a e S).bind _ = _
  rw [h]
  cases t with
  | false => rfl
  | true => exact k rfl
theorem e_or (h : evE W a e S = .ok (.bl t) S1) (k : t = false → evE W b e S1 = .ok (.bl t1) S1) : evE W (.or a b) e S = .ok (.bl (t || t1)) S1 := by
  show (evE W a e S).bind _ = _
  rw [h]
  cases t with
  | true => rfl
  | false => exact k rfl
theorem e_ife {C : Tx} (h : evT W C e S = .ok t S1) (k : (if t then evE W a e S1 else evE W b e S1) = .ok d S2) : evE W (.ife C a b) e S = .ok d S2 := by
  show (evT W C e S).bind _ = _
  rw [h]; exact k
theorem a_nil : evA W .nil e S = .ok [] S := rfl
theorem a_cons (h : evE W x e S = .ok d S1) (k : evA W es e S1 = .ok ds S2) : evA W (.cons x es) e S = .ok (d :: ds) S2 := by
  show (evE W x e S).bind _ = _
  rw [h]
  show (evA W es e S1).bind _ = _
  rw [k]; rfl
theorem e_tup (h : evA W es e S = .ok ds S1) (k : ds.length ≤ SZ) : evE W (.tup es) e S = .ok (.tup ds) S1 := by
  show (evA W es e S).bind _ = _
  rw [h]
  show (if _ then _ else _) = _
  rw [if_pos k]
theorem e_lst (h : evA W es e S = .ok ds S1) (k : ds.length ≤ SZ) : evE W (.lst es) e S = .ok (.lst ds) S1 := by
  show (evA W es e S).bind _ = _
  rw [h]
  show (if _ then _ else _) = _
  rw [if_pos k]
theorem e_mls (h : evA W es e S = .ok ds S1) (k : ds.length ≤ SZ) : evE W (.mls es) e S = .ok (.obj S1.length) (S1 ++ [.lst ds]) := by
  show (evA W es e S).bind _ = _
  rw [h]
  show (if _ then _ else _) = _
  rw [if_pos k]
theorem e_cF {f : String} (h : evA W es e S = .ok ds S1) (k : W.call f ds S1 = .ok d S2) : evE W (.cF f es) e S = .ok d S2 := by
  show (evA W es e S).bind _ = _
  rw [h]
  show (W.call f ds S1).at e = _
  rw [k]; rfl
theorem e_cB {f : Bi} (h : evA W es e S = .ok ds S1) (k : biop S1 f ds = some d) : evE W (.cB f es) e S = .ok d S1 := by
  show (evA W es e S).bind _ = _
  rw [h]
  show optR _ _ = _
  rw [k]; rfl
theorem e_isi {ts : List Ty} (h : evE W a e S = .ok d S1) (k : isTys S1 d ts = some t) : evE W (.isi a ts) e S = .ok (.bl t) S1 := by
  show (evE W a e S).bind _ = _
  rw [h]
  show optR _ _ = _
  rw [k]; rfl
theorem e_ixt (h : evE W a e S = .ok (.tup ds) S1) {n : Int} (k : evE W b e S1 = .ok (.int n) S2) (l : atI ds n = some d) : evE W (.ix a b) e S = .ok d S2 := by
  show (evE W a e S).bind _ = _
  rw [h]
  show (evE W b e S1).bind _ = _
  rw [k]
  show optR (atI ds n) S2 = _
  rw [l]; rfl
theorem e_ixl (h : evE W a e S = .ok (.lst ds) S1) {n : Int} (k : evE W b e S1 = .ok (.int n) S2) (l : atI ds n = some d) : evE W (.ix a b) e S = .ok d S2 := by
  show (evE W a e S).bind _ = _
  rw [h]
  show (evE W b e S1).bind _ = _
  rw [k]
  show optR (atI ds n) S2 = _
  rw [l]; rfl
theorem e_ixo {m : Nat} (h : evE W a e S = .ok (.obj m) S1) {n : Int} (k : evE W b e S1 = .ok (.int n) S2) (g : S2[m]? = some (.lst ds)) (l : atI ds n = some d) : evE W (.ix a b) e S = .ok d S2 := by
  show (evE W a e S).bind _ = _
  rw [h]
  show (evE W b e S1).bind _ = _
  rw [k]
  show (match S2[m]?, D.int n with | some (.lst ds), .int i => optR (atI ds i) S2 | _, _ => .bad) = _
  rw [g]
  show optR (atI ds n) S2 = _
  rw [l]; rfl
theorem o_no : evO W .no e S = .ok none S := rfl
theorem o_so {n : Int} (h : evE W a e S = .ok (.int n) S1) : evO W (.so a) e S = .ok (some n) S1 := by
  show (evE W a e S).bind _ = _
  rw [h]; rfl
theorem e_slt {lo hi : Eo} {l u : Option Int} (h : evE W a e S = .ok d S1) (k : evO W lo e S1 = .ok l S2) (k2 : evO W hi e S2 = .ok u S3) (no : ∀ r, d ≠ .obj r) (g : slop d l u = some d1) : evE W (.sl a lo hi) e S = .ok d1 S3 := by
  show (evE W a e S).bind _ = _
  rw [h]
  show (evO W lo e S1).bind _ = _
  rw [k]
  show (evO W hi e S2).bind _ = _
  rw [k2]
  show (match d with | .obj r => _ | _ => optR (slop d l u) S3) = _
  cases d with
  | obj r => exact absurd rfl (no r)
  | _ => show optR _ S3 = _; rw [g]; rfl
theorem e_zipl (h : evA W es e S = .ok ds S1) (k : zipop S1 ds = some d) : evE W (.zipl es) e S = .ok d S1 := by
  show (evA W es e S).bind _ = _
  rw [h]
  show optR _ _ = _
  rw [k]; rfl
theorem e_ext {m : Nat} {xs : List D} (h : evE W a e S = .ok (.obj m) S1) (g : ∃ u, S1[m]? = some (.lst u)) (k : evE W b e S1 = .ok (.lst xs) S2) (g2 : S2[m]? = some (.lst ds)) (l : ds.length + xs.length ≤ SZ) : evE W (.ext a b) e S = .ok .non (S2.set m (.lst (ds ++ xs))) := by
  obtain ⟨u, g⟩ := g
  show (evE W a e S).bind _ = _
  rw [h]
  show (optR (objL S1 (.obj m)) S1).bind _ = _
  have : objL S1 (.obj m) = some m := by simp [objL, g]
  rw [this]
  show (evE W b e S1).bind _ = _
  rw [k]
  show (match S2[m]?, D.lst xs with | some (.lst ds), .lst xs => (if ds.length + xs.length ≤ SZ then Rs.ok D.non (S2.set m (.lst (ds ++ xs))) else Rs.bad) | _, _ => Rs.bad) = _
  rw [g2]
  show (if _ then _ else _) = _
  rw [if_pos l]
theorem e_app {m : Nat} (h : evE W a e S = .ok (.obj m) S1) (g : ∃ u, S1[m]? = some (.lst u)) (k : evE W b e S1 = .ok d S2) (g2 : S2[m]? = some (.lst ds)) (l : ds.length < SZ) : evE W (.app a b) e S = .ok .non (S2.set m (.lst (ds ++ [d]))) := by
  obtain ⟨u, g⟩ := g
  show (evE W a e S).bind _ = _
  rw [h]
  show (optR (objL S1 (.obj m)) S1).bind _ = _
  have : objL S1 (.obj m) = some m := by simp [objL, g]
  rw [this]
  show (evE W b e S1).bind _ = _
  rw [k]
  show (match S2[m]? with | some (.lst ds) => (if ds.length < SZ then Rs.ok D.non (S2.set m (.lst (ds ++ [d]))) else Rs.bad) | _ => Rs.bad) = _
  rw [g2]
  show (if _ then _ else _) = _
  rw [if_pos l]
theorem e_pop {m : Nat} (h : evE W a e S = .ok (.obj m) S1) (g : S1[m]? = some (.lst (ds ++ [d]))) : evE W (.popl a) e S = .ok d (S1.set m (.lst ds)) := by
  show (evE W a e S).bind _ = _
  rw [h]
  show (optR (objL S1 (.obj m)) S1).bind _ = _
  have : objL S1 (.obj m) = some m := by simp [objL, g]
  rw [this]
  show (match S1[m]? with | some (.lst ds) => (match ds.getLast? with | some d => Rs.ok d (S1.set m (.lst ds.dropLast)) | none => Rs.bad) | _ => Rs.bad) = _
  rw [g]
  show (match (ds ++ [d]).getLast? with | some d' => Rs.ok d' (S1.set m (.lst (ds ++ [d]).dropLast)) | none => Rs.bad) = _
  simp
theorem a_starl {xs : List D} (h : evE W x e S = .ok (.lst xs) S1) (k : evA W es e S1 = .ok ds S2) : evA W (.star x es) e S = .ok (xs ++ ds) S2 := by
  show (evE W x e S).bind _ = _
  rw [h]
  show (evA W es e S1).bind _ = _
  rw [k]; rfl
theorem a_start {xs : List D} (h : evE W x e S = .ok (.tup xs) S1) (k : evA W es e S1 = .ok ds S2) : evA W (.star x es) e S = .ok (xs ++ ds) S2 := by
  show (evE W x e S).bind _ = _
  rw [h]
  show (evA W es e S1).bind _ = _
  rw [k]; rfl
theorem a_staro {m : Nat} {xs : List D} (h : evE W x e S = .ok (.obj m) S1) (g : S1[m]? = some (.lst xs)) (k : evA W es e S1 = .ok ds S2) : evA W (.star x es) e S = .ok (xs ++ ds) S2 := by
  show (evE W x e S).bind _ = _
  rw [h]
  show (match S1[m]? with | some (.lst xs) => (evA W es e S1).bind fun ds S => Rs.ok (xs ++ ds) S | _ => Rs.bad) = _
  rw [g]
  show (evA W es e S1).bind _ = _
  rw [k]; rfl
theorem st_sto {m : Nat} {n : Int} {l : Nat} (h : evE W x e S = .ok d S1) (k : evE W a e S1 = .ok (.obj m) S2) (k2 : evE W b e S2 = .ok (.int n) S3) (g : S3[m]? = some (.lst ds)) (p : place ds.length n = some l) : evS W (.sto a b x) e S = .ok (.nx e) (S3.set m (.lst (ds.set l d))) := by
  show (evE W x e S).bind _ = _
  rw [h]
  show (evE W a e S1).bind _ = _
  rw [k]
  show (evE W b e S2).bind _ = _
  rw [k2]
  show (match S3[m]? with | some (.lst ds) => _ | _ => _) = _
  rw [g]
  show (match place ds.length n with | some j => _ | none => _) = _
  rw [p]
theorem st_augs {m : Nat} {n : Int} {l : Nat} (k : evE W a e S = .ok (.obj m) S1) (k2 : evE W b e S1 = .ok (.int n) S2) (g : S2[m]? = some (.lst ds)) (ha : atI ds n = some d) (h : evE W x e S2 = .ok d1 S2) (hz : augop o d d1 = some d2) (p : place ds.length n = some l) : evS W (.augs a b o x) e S = .ok (.nx e) (S2.set m (.lst (ds.set l d2))) := by
  show (evE W a e S).bind _ = _
  rw [k]
  show (evE W b e S1).bind _ = _
  rw [k2]
  show (match S2[m]? with | some (.lst ds) => _ | _ => _) = _
  rw [g]
  show (match atI ds n with | some old => _ | none => _) = _
  rw [ha]
  show (evE W x e S2).bind _ = _
  rw [h]
  show (optR (augop o d d1) S2).bind _ = _
  rw [hz]
  show (match S2[m]? with | some (.lst ds) => _ | _ => _) = _
  rw [g]
  show (match place ds.length n with | some j => _ | none => _) = _
  rw [p]
end
theorem isTys_of {S : Store} {x : D} : ∀ {ts : List Ty}, True := fun {_} => trivial
end PyI

set_option maxRecDepth 100000
set_option maxHeartbeats 4000000
namespace PyI
open PySem L2
def alikeC : Tx := (.cmp .lt (.var 3) (.cB .len (.cons (.var 2) .nil)))
def alikeB : Sms := (.cons (.asg (.tp [4, 5]) (.ix (.var 2) (.var 3))) (.cons (.aug 3 .add (.cst (.int 1))) (.cons (.ifs (.or (.cmp .ne (.isi (.var 4) [.bool]) (.isi (.var 5) [.bool])) (.cmp .ne (.isi (.var 4) [.str]) (.isi (.var 5) [.str]))) (.cons (.ret (.cst (.bl false))) .nil) .nil) (.cons (.ifs (.cmp .ne (.isi (.var 4) [.tuple, .list]) (.isi (.var 5) [.tuple, .list])) (.cons (.ret (.cst (.bl false))) .nil) .nil) (.cons (.ifs (.tst (.isi (.var 4) [.tuple, .list])) (.cons (.ifs (.or (.cmp .ne (.isi (.var 4) [.tuple]) (.isi (.var 5) [.tuple])) (.cmp .ne (.cB .len (.cons (.var 4) .nil)) (.cB .len (.cons (.var 5) .nil)))) (.cons (.ret (.cst (.bl false))) .nil) .nil) (.cons (.exp (.ext (.var 2) (.zipl (.cons (.var 4) (.cons (.var 5) .nil))))) .nil)) (.cons (.ifs (.cmp .ne (.var 4) (.var 5)) (.cons (.ret (.cst (.bl false))) .nil) .nil) .nil)) .nil)))))
def alikeA : Sms := (.cons (.par 2 3 (.mls (.cons (.tup (.cons (.var 0) (.cons (.var 1) .nil))) .nil)) (.cst (.int 0))) (.cons (.whl alikeC alikeB) (.cons (.ret (.cst (.bl true))) .nil)))
theorem get_last {S : Store} {m : MO} : (S ++ [m])[S.length]? = some m := by simp
theorem set_last {S : Store} {m m' : MO} : (S ++ [m]).set S.length m' = S ++ [m'] := by simp
mutual
theorem alk_dat : ∀ {d : D}, d.alk = true → d.dat = true
  | .non, _ => rfl
  | .bl _, _ => rfl
  | .int _, _ => rfl
  | .str _, _ => rfl
  | .tup ds, h => by simp [D.alk] at h; simp [D.dat, alks_dat h]
  | .lst ds, h => by simp [D.alk] at h; simp [D.dat, alks_dat h]
  | .rol _, h => by simp [D.alk] at h
  | .obj _, h => by simp [D.alk] at h
  | .edic, h => by simp [D.alk] at h
  | .ftup _, h => by simp [D.alk] at h
theorem alks_dat : ∀ {ds : List D}, alks ds = true → dats ds = true
  | [], _ => rfl
  | d :: ds, h => by simp [alks] at h; simp [dats, alk_dat h.1, alks_dat h.2]
end
theorem alks_all : ∀ {ds : List D}, alks ds = true → ∀ d ∈ ds, d.alk = true
  | [], _, _, h => by cases h
  | d :: ds, h, x, hx => by
    simp [alks] at h
    rcases List.mem_cons.mp hx with e | e
    · subst e; exact h.1
    · exact alks_all h.2 x e
def pairD (d : D) : D := .tup [d, d]
theorem atI_app {a b : List D} {x : D} : atI (a ++ x :: b) (a.length : Int) = some x := by
  unfold atI ixN
  simp
  rw [if_pos (by omega)]
  simp
theorem alike_loop {W : Wd} {S : Store} {f0 f1 : D} : ∀ (m : Nat) (done rest : List D) (x4 x5 : Option D), sizes rest = m → alks rest = true → done.length + sizes rest ≤ SZ →
    ∃ e' ps, whlR (evT W alikeC) (fun e S => evSs W alikeB e S) [some f0, some f1, some (.obj S.length), some (.int done.length), x4, x5] (S ++ [.lst (done ++ rest.map pairD)]) = .ok (.nx e') (S ++ [.lst ps])
  | 0, done, [], x4, x5, _, _, _ => by
    rw [whlR_eq]
    simp [-Rs.bind, SZ, alikeC, evT, evE, evA, bOk, biop, asLst, cmpS, cmpop]
  | 0, done, d :: rest, x4, x5, h, _, _ => by
    have h2 : 1 ≤ d.size := by cases d <;> simp [D.size]
    simp [sizes] at h; omega
  | m + 1, done, [], x4, x5, h, _, _ => by simp [sizes] at h
  | m + 1, done, d :: rest, x4, x5, h, ha, hs => by
    have ha' : d.alk = true ∧ alks rest = true := by simpa [alks] using ha
    have hlt : ((done.length : Int) < ((done.length + (rest.length + 1) : Nat) : Int)) := by omega
    have hlen : rest.length ≤ sizes rest := len_le_sizes rest
    have hsz : sizes (d :: rest) = d.size + sizes rest := rfl
    have app : done ++ pairD d :: rest.map pairD = (done ++ [pairD d]) ++ rest.map pairD := by simp
    have step : ∀ (ds : List D) (x4 x5 : Option D), alks ds = true → sizes ds + 1 = d.size → ∃ e' ps, whlR (evT W alikeC) (fun e S => evSs W alikeB e S) [some f0, some f1, some (.obj S.length), some (.int ((done.length : Int) + 1)), x4, x5] (S ++ [.lst (done ++ pairD d :: (rest.map pairD ++ ds.map pairD))]) = .ok (.nx e') (S ++ [.lst ps]) := by
      intro ds x4 x5 h1 h2
      have := alike_loop (W := W) (S := S) (f0 := f0) (f1 := f1) m (done ++ [pairD d]) (rest ++ ds) x4 x5 (by rw [sizes_app]; omega) (alks_app ha'.2 h1) (by simp only [List.length_append, List.length_singleton]; rw [sizes_app]; omega)
      simpa using this
    rw [whlR_eq]
    have hc : evT W alikeC [some f0, some f1, some (.obj S.length), some (.int done.length), x4, x5] (S ++ [.lst (done ++ (d :: rest).map pairD)]) = .ok true (S ++ [.lst (done ++ (d :: rest).map pairD)]) := by
      simp only [alikeC, evT, evE, evA, bOk, biop, asLst, cmpS, cmpop, List.getElem?_cons_zero, List.getElem?_cons_succ, get_last, Option.map_some, optR_some, List.length_append, List.length_map, List.length_cons]
      rw [decide_eq_true hlt]
    rw [hc, bOk, if_pos rfl]
    have fin : ∀ (ds : List D), alks ds = true → sizes ds + 1 = d.size → evSs W alikeB [some f0, some f1, some (.obj S.length), some (.int done.length), x4, x5] (S ++ [.lst (done ++ (d :: rest).map pairD)]) = .ok (.nx [some f0, some f1, some (.obj S.length), some (.int ((done.length : Int) + 1)), some d, some d]) (S ++ [.lst (done ++ pairD d :: (rest.map pairD ++ ds.map pairD))]) →
      ∃ e' ps, ((evSs W alikeB [some f0, some f1, some (.obj S.length), some (.int done.length), x4, x5] (S ++ [.lst (done ++ (d :: rest).map pairD)])).bind fun fl S2 => match fl with
        | .nx e' => whlR (evT W alikeC) (fun e S => evSs W alikeB e S) e' S2
        | .ct e' => whlR (evT W alikeC) (fun e S => evSs W alikeB e S) e' S2
        | .bk e' => .ok (.nx e') S2
        | .rt d => .ok (.rt d) S2) = .ok (.nx e') (S ++ [.lst ps]) := by
      intro ds h1 h2 q
      rw [q, bOk]
      exact step ds _ _ h1 h2
    have hat : atI (done ++ (d :: rest).map pairD) (done.length : Int) = some (.tup [d, d]) := by
      rw [List.map_cons]; exact atI_app
    have env : ∀ b : Bool, cmpop .ne (.bl b) (.bl b) = some false := fun b => by cases b <;> rfl
    have tst : ∀ (ts : List Ty) (b : Bool) (y4 y5 : D) (S' : Store) (i : Int), isTys S' y4 ts = some b → isTys S' y5 ts = some b → evT W (.cmp .ne (.isi (.var 4) ts) (.isi (.var 5) ts)) [some f0, some f1, some (.obj S.length), some (.int i), some y4, some y5] S' = .ok false S' := fun ts b y4 y5 S' i h4 h5 =>
      t_cmp (e_isi (e_var rfl) h4) (e_isi (e_var rfl) h5) (env b)
    have body : ∀ {ps' : List D} (R : Rs Fl) (b1 b2 b3 : Bool), isTys (S ++ [.lst (done ++ (d :: rest).map pairD)]) d [.bool] = some b1 → isTys (S ++ [.lst (done ++ (d :: rest).map pairD)]) d [.str] = some b2 → isTys (S ++ [.lst (done ++ (d :: rest).map pairD)]) d [.tuple, .list] = some b3 →
        evS W (.ifs (.tst (.isi (.var 4) [.tuple, .list])) (.cons (.ifs (.or (.cmp .ne (.isi (.var 4) [.tuple]) (.isi (.var 5) [.tuple])) (.cmp .ne (.cB .len (.cons (.var 4) .nil)) (.cB .len (.cons (.var 5) .nil)))) (.cons (.ret (.cst (.bl false))) .nil) .nil) (.cons (.exp (.ext (.var 2) (.zipl (.cons (.var 4) (.cons (.var 5) .nil))))) .nil)) (.cons (.ifs (.cmp .ne (.var 4) (.var 5)) (.cons (.ret (.cst (.bl false))) .nil) .nil) .nil)) [some f0, some f1, some (.obj S.length), some (.int ((done.length : Int) + 1)), some d, some d] (S ++ [.lst (done ++ (d :: rest).map pairD)]) = R →
        R = .ok (.nx [some f0, some f1, some (.obj S.length), some (.int ((done.length : Int) + 1)), some d, some d]) (S ++ [.lst ps']) →
        evSs W alikeB [some f0, some f1, some (.obj S.length), some (.int done.length), x4, x5] (S ++ [.lst (done ++ (d :: rest).map pairD)]) = .ok (.nx [some f0, some f1, some (.obj S.length), some (.int ((done.length : Int) + 1)), some d, some d]) (S ++ [.lst ps']) := by
      intro ps' R b1 b2 b3 h1 h2 h3 h4 h5
      unfold alikeB
      refine ss_nx (st_asg (e' := [some f0, some f1, some (.obj S.length), some (.int (done.length : Int)), some d, some d]) (d := .tup [d, d]) (e_ixo (m := S.length) (n := (done.length : Int)) (e_var rfl) (e_var rfl) get_last hat) rfl) ?_
      refine ss_nx (st_aug (d := .int (done.length : Int)) (d1 := .int 1) (d2 := .int ((done.length : Int) + 1)) rfl e_cst rfl) ?_
      refine ss_nx (st_if0 (t_orf (tst _ _ _ _ _ _ h1 h1) (tst _ _ _ _ _ _ h2 h2))) ?_
      refine ss_nx (st_if0 (tst _ _ _ _ _ _ h3 h3)) ?_
      exact ss_nx (h4.trans h5) ss_nil
    have leaf : isTys (S ++ [.lst (done ++ (d :: rest).map pairD)]) d [.tuple, .list] = some false → cmpop .ne d d = some false →
        evS W (.ifs (.tst (.isi (.var 4) [.tuple, .list])) (.cons (.ifs (.or (.cmp .ne (.isi (.var 4) [.tuple]) (.isi (.var 5) [.tuple])) (.cmp .ne (.cB .len (.cons (.var 4) .nil)) (.cB .len (.cons (.var 5) .nil)))) (.cons (.ret (.cst (.bl false))) .nil) .nil) (.cons (.exp (.ext (.var 2) (.zipl (.cons (.var 4) (.cons (.var 5) .nil))))) .nil)) (.cons (.ifs (.cmp .ne (.var 4) (.var 5)) (.cons (.ret (.cst (.bl false))) .nil) .nil) .nil)) [some f0, some f1, some (.obj S.length), some (.int ((done.length : Int) + 1)), some d, some d] (S ++ [.lst (done ++ (d :: rest).map pairD)]) = .ok (.nx [some f0, some f1, some (.obj S.length), some (.int ((done.length : Int) + 1)), some d, some d]) (S ++ [.lst (done ++ (d :: rest).map pairD)]) := fun h1 h2 =>
      st_iff (t_tst (e_isi (e_var rfl) h1) rfl) (ss_nx (st_if0 (t_cmp (e_var rfl) (e_var rfl) h2)) ss_nil)
    have seqc : ∀ (b : Bool) (ds : List D) (n : Int), isTys (S ++ [.lst (done ++ (d :: rest).map pairD)]) d [.tuple, .list] = some true → isTys (S ++ [.lst (done ++ (d :: rest).map pairD)]) d [.tuple] = some b → biop (S ++ [.lst (done ++ (d :: rest).map pairD)]) .len [d] = some (.int n) →
        zipop (S ++ [.lst (done ++ (d :: rest).map pairD)]) [d, d] = some (.lst (ds.map pairD)) → done.length + (rest.length + 1) + ds.length ≤ SZ →
        evS W (.ifs (.tst (.isi (.var 4) [.tuple, .list])) (.cons (.ifs (.or (.cmp .ne (.isi (.var 4) [.tuple]) (.isi (.var 5) [.tuple])) (.cmp .ne (.cB .len (.cons (.var 4) .nil)) (.cB .len (.cons (.var 5) .nil)))) (.cons (.ret (.cst (.bl false))) .nil) .nil) (.cons (.exp (.ext (.var 2) (.zipl (.cons (.var 4) (.cons (.var 5) .nil))))) .nil)) (.cons (.ifs (.cmp .ne (.var 4) (.var 5)) (.cons (.ret (.cst (.bl false))) .nil) .nil) .nil)) [some f0, some f1, some (.obj S.length), some (.int ((done.length : Int) + 1)), some d, some d] (S ++ [.lst (done ++ (d :: rest).map pairD)]) = .ok (.nx [some f0, some f1, some (.obj S.length), some (.int ((done.length : Int) + 1)), some d, some d]) (S ++ [.lst (done ++ (d :: rest).map pairD ++ ds.map pairD)]) := by
      intro b ds n h1 h2 h3 h4 h5
      refine st_ift (t_tst (e_isi (e_var rfl) h1) rfl) (ss_nx (st_if0 (t_orf (tst _ _ _ _ _ _ h2 h2) (t_cmp (e_cB (a_cons (e_var rfl) a_nil) h3) (e_cB (a_cons (e_var rfl) a_nil) h3) ?_))) (ss_nx (st_exp (d := .non) ?_) ss_nil))
      · simp [cmpop, D.dat, D.flat, D.eqv]
      · have := e_ext (W := W) (a := .var 2) (b := .zipl (.cons (.var 4) (.cons (.var 5) .nil))) (e := [some f0, some f1, some (.obj S.length), some (.int ((done.length : Int) + 1)), some d, some d]) (S := S ++ [.lst (done ++ (d :: rest).map pairD)]) (e_var rfl) ⟨_, get_last⟩ (e_zipl (a_cons (e_var rfl) (a_cons (e_var rfl) a_nil)) h4) get_last (by simp; simpa [Nat.add_assoc] using h5)
        rw [set_last] at this
        exact this
    cases d with
    | rol ds => simp [D.alk] at ha'
    | obj r => simp [D.alk] at ha'
    | edic => simp [D.alk] at ha'
    | exc _ _ _ _ => simp [D.alk] at ha'
    | clo _ _ _ _ => simp [D.alk] at ha'
    | ftup _ => simp [D.alk] at ha'
    | non => exact fin [] rfl rfl (by simpa [pairD] using body _ false false false rfl rfl rfl (leaf rfl rfl) rfl)
    | bl b => exact fin [] rfl rfl (by simpa [pairD] using body _ true false false rfl rfl rfl (leaf rfl (env b)) rfl)
    | int b => exact fin [] rfl rfl (by simpa [pairD] using body _ false false false rfl rfl rfl (leaf rfl (by simp [cmpop, D.dat, D.flat, D.eqv])) rfl)
    | str b => exact fin [] rfl rfl (by simpa [pairD] using body _ false true false rfl rfl rfl (leaf rfl (by simp [cmpop, D.dat, D.flat, D.eqv])) rfl)
    | tup ds =>
      have ha2 : alks ds = true := by simpa [D.alk] using ha'.1
      have hz : sizes ds + 1 = (D.tup ds).size := by simp [D.size]; omega
      have hl2 : ds.length ≤ sizes ds := len_le_sizes ds
      have hle : done.length + (rest.length + 1) + ds.length ≤ SZ := by have : sizes (D.tup ds :: rest) = (1 + sizes ds) + sizes rest := rfl; omega
      refine fin ds ha2 hz ?_
      have := body _ false false true rfl rfl rfl (seqc true ds ds.length rfl rfl rfl (by simp [zipop, asLst, zipD_self]; exact fun _ _ => rfl) hle) rfl
      simpa [pairD] using this
    | lst ds =>
      have ha2 : alks ds = true := by simpa [D.alk] using ha'.1
      have hz : sizes ds + 1 = (D.lst ds).size := by simp [D.size]; omega
      have hl2 : ds.length ≤ sizes ds := len_le_sizes ds
      have hle : done.length + (rest.length + 1) + ds.length ≤ SZ := by have : sizes (D.lst ds :: rest) = (1 + sizes ds) + sizes rest := rfl; omega
      refine fin ds ha2 hz ?_
      have := body _ false false true rfl rfl rfl (seqc false ds ds.length rfl rfl rfl (by simp [zipop, asLst, zipD_self]; exact fun _ _ => rfl) hle) rfl
      simpa [pairD] using this
theorem alike_true {T : String → Option Fn} {con : String → Option D} {f : String} {k : Nat} {S : Store} {d : D} (hT : T f = some ⟨2, 6, alikeA⟩) (ha : d.alk = true) (hs : d.size ≤ SZ) : callN T con (k + 1) f [d, d] S = .ok (.bl true) S := by
  rw [call_eq hT rfl]
  obtain ⟨e', ps, h⟩ := alike_loop (W := ⟨callN T con k, con, none, akT T⟩) (S := S) (f0 := d) (f1 := d) d.size [] [d] none none (by simp [sizes]) (by simp [alks, ha]) (by simpa [sizes] using hs)
  have h : whlR (evT ⟨callN T con k, con, none, akT T⟩ alikeC) (fun e S => evSs ⟨callN T con k, con, none, akT T⟩ alikeB e S) [some d, some d, some (.obj S.length), some (.int 0), none, none] (S ++ [.lst [.tup [d, d]]]) = .ok (.nx e') (S ++ [.lst ps]) := by simpa [pairD] using h
  simp [-Rs.bind, SZ, alikeA, evSs, evS, evE, evA, bOk, h, fin, retn, D.lim, trunc_junk]
end PyI

set_option maxRecDepth 100000
set_option maxHeartbeats 1000000
namespace PyI
open PySem L2
theorem trunc_len {S S' : Store} {b : Bool} (h : S'.length = S.length) : trunc S b S' = S' := by
  unfold trunc
  split
  · rw [← h, List.take_length]
  · rfl
theorem call_rt {T : String → Option Fn} {con : String → Option D} {k : Nat} {f : String} {fd : Fn} {ds : List D} {d : D} {S S' : Store} (h : T f = some fd) (hl : ds.length = fd.np)
    (hb : evSs ⟨callN T con k, con, none, akT T⟩ fd.body (ds.map some ++ List.replicate (fd.n - ds.length) none) S = .ok (.rt d) S') (hs : S'.length = S.length) : callN T con (k + 1) f ds S = .ok d S' := by
  rw [call_eq h hl, hb]
  show retn S d S' = _
  unfold retn
  rw [trunc_len hs]
/-! ## draws -/
/-- the bag is the first object of the store, J behind it -/
def bagOf (J : Store) (a b c : Int) (cs : List Int) : Store := .lst [.int a, .int b, .int c, .lst (cs.map .int)] :: J
structure Bag (J S : Store) : Prop where
  ex : ∃ (a b c : Int) (cs : List Int), 0 ≤ a ∧ 0 ≤ b ∧ 0 ≤ c ∧ cs.length ≤ 63 ∧ (∀ x ∈ cs, 0 ≤ x) ∧ S = bagOf J a b c cs
theorem Bag.len {J S : Store} (h : Bag J S) : S.length = J.length + 1 := by
  obtain ⟨_, _, _, _, _, _, _, _, _, rfl⟩ := h.ex
  rfl
def takeC1 : Tx := (.cmp .eq (.ix (.var 0) (.cst (.int 0))) (.cst (.int 0)))
def takeA : Sms := (.cons (.ifs (.cmp .eq (.ix (.var 0) (.cst (.int 0))) (.cst (.int 0))) (.cons (.asg (.nm 2) (.ix (.bin .add (.sl (.ix (.var 0) (.cst (.int 3))) (.so (.ix (.var 0) (.cst (.int 2)))) .no) (.lst (.cons (.cst (.int 0)) .nil))) (.cst (.int 0)))) (.cons (.augs (.var 0) (.cst (.int 2)) .add (.cst (.int 1))) (.cons (.ifs (.cmp .ge (.var 2) (.bin .pow (.cst (.int 10)) (.cst (.int 18)))) (.cons (.sto (.var 0) (.cst (.int 0)) (.var 2)) .nil) .nil) (.cons (.asg (.nm 3) (.bin .add (.bin .add (.bin .mul (.ix (.var 0) (.cst (.int 1))) (.cst (.int 48271))) (.bin .mod (.cB .int (.cons (.var 2) .nil)) (.cst (.int 2147483647)))) (.bin .mul (.cst (.int 7919)) (.ix (.var 0) (.cst (.int 2)))))) (.cons (.sto (.var 0) (.cst (.int 1)) (.bin .mod (.cB .int (.cons (.var 3) .nil)) (.cst (.int 2147483647)))) .nil))))) .nil) (.cons (.ifs (.cmp .gt (.ix (.var 0) (.cst (.int 0))) (.cst (.int 0))) (.cons (.asg (.nm 4) (.bin .mod (.cB .int (.cons (.ix (.var 0) (.cst (.int 0))) .nil)) (.var 1))) (.cons (.sto (.var 0) (.cst (.int 0)) (.bin .fdiv (.cB .int (.cons (.ix (.var 0) (.cst (.int 0))) .nil)) (.var 1))) (.cons (.ret (.var 4)) .nil))) .nil) (.cons (.asg (.nm 5) (.bin .mod (.cB .int (.cons (.bin .mul (.bin .add (.ix (.var 0) (.cst (.int 1))) (.cst (.int 1))) (.cst (.int 39373))) .nil)) (.cst (.int 1000000007)))) (.cons (.asg (.nm 6) (.bin .mod (.cB .int (.cons (.bin .mul (.bin .mod (.cB .int (.cons (.bin .mul (.var 5) (.var 5)) .nil)) (.cst (.int 998244353))) (.cst (.int 30011))) .nil)) (.cst (.int 998244353)))) (.cons (.ret (.bin .mod (.cB .int (.cons (.bin .fdiv (.var 6) (.cst (.int 7))) .nil)) (.var 1))) .nil)))))
def bagA : Sms := (.cons (.ret (.mls (.cons (.cst (.int 0)) (.cons (.cst (.int 1234567891)) (.cons (.cst (.int 0)) (.cons (.comp [1] (.cB .abs (.cons (.var 1) .nil)) (.nm 1) (.seq (.sl (.var 0) .no (.so (.cst (.int 63))))) .yes) .nil)))))) .nil)
def someA : Sms := (.cons (.ret (.ix (.var 1) (.cF "_law_take" (.cons (.var 0) (.cons (.cB .len (.cons (.var 1) .nil)) .nil))))) .nil)
theorem cut_len {α : Type} (xs : List α) (lo hi : Option Int) : (cut xs lo hi).length ≤ xs.length := by
  unfold cut; simp; omega
theorem cut_mem {α : Type} {xs : List α} {lo hi : Option Int} {x : α} (h : x ∈ cut xs lo hi) : x ∈ xs := List.mem_of_mem_drop (List.mem_of_mem_take h)
theorem cell_of {cs : List Int} (hp : ∀ x ∈ cs, 0 ≤ x) (lo hi : Option Int) : ∃ v : Int, 0 ≤ v ∧ atI (cut (cs.map D.int) lo hi ++ [.int 0]) 0 = some (.int v) := by
  have key : ∀ l : List D, (∀ d ∈ l, ∃ v : Int, 0 ≤ v ∧ d = .int v) → ∃ v : Int, 0 ≤ v ∧ atI (l ++ [.int 0]) 0 = some (.int v) := by
    intro l hl
    cases l with
    | nil => exact ⟨0, by decide, rfl⟩
    | cons d l =>
      obtain ⟨v, h1, rfl⟩ := hl d List.mem_cons_self
      refine ⟨v, h1, ?_⟩
      have := atI_app (a := []) (b := l ++ [.int 0]) (x := D.int v)
      simpa using this
  refine key _ fun d hd => ?_
  obtain ⟨x, hx, rfl⟩ := List.mem_map.mp (cut_mem hd)
  exact ⟨x, hp x hx, rfl⟩
section
variable {W : Wd} {m : Int} {a b c : Int} {cs : List Int} {J : Store}
theorem mul_l {i j : Int} (h : i.natAbs < 2 ^ 64) : binop .mul (.int i) (.int j) = some (.int (i * j)) := by
  show (if _ then _ else _) = _
  rw [if_pos (.inl h)]
theorem mul_r {i j : Int} (h : j.natAbs < 2 ^ 64) : binop .mul (.int i) (.int j) = some (.int (i * j)) := by
  show (if _ then _ else _) = _
  rw [if_pos (.inr h)]
theorem pow_ok {i j : Int} (h : 0 ≤ j) (h1 : j ≤ 1000000) (h2 : i.natAbs < 2 ^ 64) : binop .pow (.int i) (.int j) = some (.int (i ^ j.toNat)) := by
  show (if _ then _ else _) = _
  rw [if_pos ⟨h, h1, h2⟩]
theorem i_seq {e : Env} {S S1 : Store} {x : Ex} {d : D} {s : Src} (h : evE W x e S = .ok d S1) (k : srcOf S1 d = some s) : evI W (.seq x) e S = .ok s S1 := by
  show (evE W x e S).bind _ = _
  rw [h]
  show optR (srcOf S1 d) S1 = _
  rw [k]; rfl
theorem i_rng {e : Env} {S S1 : Store} {x : Ex} {n : Int} (h : evE W x e S = .ok (.int n) S1) (k : small62 n = true) : evI W (.rng x) e S = .ok (itInts 0 n.toNat, none) S1 := by
  show (evE W x e S).bind _ = _
  rw [h]
  show (if small62 n then _ else _) = _
  rw [if_pos k]
theorem atI_of {α : Type} {ds : List α} {v : Int} (h : 0 ≤ v) (hl : v.toNat < ds.length) : atI ds v = some ds[v.toNat] := by
  have e : v = (v.toNat : Int) := by omega
  have : ds = ds.take v.toNat ++ ds[v.toNat] :: ds.drop (v.toNat + 1) := by simp
  unfold atI ixN
  have h5 : ¬ v < 0 := by omega
  have h6 : v < (ds.length : Int) := by omega
  simp [h5, h6, h, hl]
theorem eq_int (i j : Int) : cmpop .eq (.int i) (.int j) = some (i == j) := rfl
theorem take_1 (hb : 0 ≤ b) (hc : 0 ≤ c) (hl : cs.length ≤ 63) (hp : ∀ x ∈ cs, 0 ≤ x) {x2 x3 : Option D} (r : Sms) (s : Sm) (hs : takeA = .cons s r) (ha : 0 ≤ a) :
    ∃ (a' b' c' : Int) (y2 y3 : Option D), 0 ≤ a' ∧ 0 ≤ b' ∧ 0 ≤ c' ∧ evS W s [some (.obj 0), some (.int m), x2, x3, none, none, none] (bagOf J a b c cs) = .ok (.nx [some (.obj 0), some (.int m), y2, y3, none, none, none]) (bagOf J a' b' c' cs) := by
  unfold takeA at hs
  injection hs with hs hr
  subst hs
  by_cases h0 : a = 0
  · subst h0
    obtain ⟨v, hv, hv2⟩ := cell_of hp (some c) none
    have hcut : (cut (cs.map D.int) (some c) none).length + 1 ≤ SZ := by
      have := cut_len (cs.map D.int) (some c) none
      rw [List.length_map] at this
      show _ ≤ 16777216
      omega
    have hc1 : evT W (.cmp .eq (.ix (.var 0) (.cst (.int 0))) (.cst (.int 0))) [some (.obj 0), some (.int m), x2, x3, none, none, none] (bagOf J 0 b c cs) = .ok true (bagOf J 0 b c cs) := t_cmp (e_ixo (n := 0) (d := .int 0) (e_var rfl) e_cst rfl rfl) e_cst rfl
    have h1 : ∀ {y3 : Option D} {a1 b1 : Int}, evSs W (.cons (.asg (.nm 3) (.bin .add (.bin .add (.bin .mul (.ix (.var 0) (.cst (.int 1))) (.cst (.int 48271))) (.bin .mod (.cB .int (.cons (.var 2) .nil)) (.cst (.int 2147483647)))) (.bin .mul (.cst (.int 7919)) (.ix (.var 0) (.cst (.int 2)))))) (.cons (.sto (.var 0) (.cst (.int 1)) (.bin .mod (.cB .int (.cons (.var 3) .nil)) (.cst (.int 2147483647)))) .nil)) [some (.obj 0), some (.int m), some (.int v), y3, none, none, none] (bagOf J a1 b1 (c + 1) cs) =
        .ok (.nx [some (.obj 0), some (.int m), some (.int v), some (.int (b1 * 48271 + v % 2147483647 + 7919 * (c + 1))), none, none, none]) (bagOf J a1 ((b1 * 48271 + v % 2147483647 + 7919 * (c + 1)) % 2147483647) (c + 1) cs) := by
      intro y3 a1 b1
      refine ss_nx (st_asg (d := .int (b1 * 48271 + v % 2147483647 + 7919 * (c + 1))) (e_bin (d := .int (b1 * 48271 + v % 2147483647)) (d1 := .int (7919 * (c + 1))) (e_bin (d := .int (b1 * 48271)) (d1 := .int (v % 2147483647)) (e_bin (d := .int b1) (d1 := .int 48271) (e_ixo (n := 1) (e_var rfl) e_cst rfl rfl) e_cst ?_) (e_bin (d := .int v) (d1 := .int 2147483647) (e_cB (a_cons (e_var rfl) a_nil) rfl) e_cst rfl) rfl) (e_bin (d := .int 7919) (d1 := .int (c + 1)) e_cst (e_ixo (n := 2) (e_var rfl) e_cst rfl rfl) ?_) rfl) rfl) ?_
      · exact mul_r (by decide)
      · exact mul_l (by decide)
      refine ss_nx (st_sto (n := 1) (l := 1) (d := .int ((b1 * 48271 + v % 2147483647 + 7919 * (c + 1)) % 2147483647)) (e_bin (d := .int (b1 * 48271 + v % 2147483647 + 7919 * (c + 1))) (d1 := .int 2147483647) (e_cB (a_cons (e_var rfl) a_nil) rfl) e_cst rfl) (e_var rfl) e_cst rfl rfl) ss_nil
    have h3 : evE W (.ix (.bin .add (.sl (.ix (.var 0) (.cst (.int 3))) (.so (.ix (.var 0) (.cst (.int 2)))) .no) (.lst (.cons (.cst (.int 0)) .nil))) (.cst (.int 0))) [some (.obj 0), some (.int m), x2, x3, none, none, none] (bagOf J 0 b c cs) = .ok (.int v) (bagOf J 0 b c cs) := by
      refine e_ixl (n := 0) (e_bin (d := .lst (cut (cs.map D.int) (some c) none)) (d1 := .lst [.int 0]) (e_slt (d := .lst (cs.map D.int)) (e_ixo (n := 3) (e_var rfl) e_cst rfl rfl) (o_so (e_ixo (n := 2) (d := .int c) (e_var rfl) e_cst rfl rfl)) o_no (fun r h => by cases h) rfl) (e_lst (a_cons e_cst a_nil) (by decide)) ?_) e_cst hv2
      show (if _ then _ else _) = _
      rw [if_pos (show _ + [D.int 0].length ≤ SZ from hcut)]
    have h4 : evS W (.augs (.var 0) (.cst (.int 2)) .add (.cst (.int 1))) [some (.obj 0), some (.int m), some (.int v), x3, none, none, none] (bagOf J 0 b c cs) = .ok (.nx [some (.obj 0), some (.int m), some (.int v), x3, none, none, none]) (bagOf J 0 b (c + 1) cs) :=
      st_augs (S1 := bagOf J 0 b c cs) (S2 := bagOf J 0 b c cs) (ds := [.int 0, .int b, .int c, .lst (cs.map .int)]) (m := 0) (n := 2) (l := 2) (d := .int c) (d1 := .int 1) (d2 := .int (c + 1)) (e_var rfl) e_cst rfl rfl e_cst rfl rfl
    have h6 : ∃ a1, 0 ≤ a1 ∧ evS W (.ifs (.cmp .ge (.var 2) (.bin .pow (.cst (.int 10)) (.cst (.int 18)))) (.cons (.sto (.var 0) (.cst (.int 0)) (.var 2)) .nil) .nil) [some (.obj 0), some (.int m), some (.int v), x3, none, none, none] (bagOf J 0 b (c + 1) cs) = .ok (.nx [some (.obj 0), some (.int m), some (.int v), x3, none, none, none]) (bagOf J a1 b (c + 1) cs) := by
      have hge : evT W (.cmp .ge (.var 2) (.bin .pow (.cst (.int 10)) (.cst (.int 18)))) [some (.obj 0), some (.int m), some (.int v), x3, none, none, none] (bagOf J 0 b (c + 1) cs) = .ok (decide ((10 : Int) ^ (18 : Nat) ≤ v)) (bagOf J 0 b (c + 1) cs) := by
        refine t_cmp (d := .int v) (d1 := .int ((10 : Int) ^ (18 : Nat))) (e_var rfl) (e_bin (d := .int 10) (d1 := .int 18) e_cst e_cst (pow_ok (j := 18) (by decide) (by decide) (by decide))) rfl
      cases q : decide ((10 : Int) ^ (18 : Nat) ≤ v) with
      | true =>
        rw [q] at hge
        exact ⟨v, hv, st_ift hge (ss_nx (st_sto (n := 0) (l := 0) (d := .int v) (e_var rfl) (e_var rfl) e_cst rfl rfl) ss_nil)⟩
      | false =>
        rw [q] at hge
        exact ⟨0, Int.le_refl _, st_if0 hge⟩
    obtain ⟨a1, ha1, h6⟩ := h6
    refine ⟨a1, _, c + 1, some (.int v), _, ha1, ?_, by omega, st_ift hc1 (ss_nx (st_asg h3 rfl) (ss_nx h4 (ss_nx h6 h1)))⟩
    exact Int.emod_nonneg _ (by decide)
  · refine ⟨a, b, c, x2, x3, ha, hb, hc, st_if0 (t_cmp (e_ixo (n := 0) (d := .int a) (e_var rfl) e_cst rfl rfl) e_cst ?_)⟩
    rw [eq_int, beq_eq_false_iff_ne.mpr h0]
end
theorem take_ok {T : String → Option Fn} {con : String → Option D} {f : String} {k : Nat} {J S : Store} {m : Int} (hT : T f = some ⟨2, 7, takeA⟩) (hm : 0 < m) (hm2 : m < 1073741824) (hB : Bag J S) :
    ∃ (v : Int) (S' : Store), callN T con (k + 1) f [.obj 0, .int m] S = .ok (.int v) S' ∧ Bag J S' ∧ 0 ≤ v ∧ v < m := by
  obtain ⟨a, b, c, cs, ha, hb, hc, hl, hp, rfl⟩ := hB.ex
  cases ht : takeA with
  | nil => unfold takeA at ht; cases ht
  | cons s r =>
    obtain ⟨a1, b1, c1, y2, y3, ha1, hb1, hc1, h1⟩ := take_1 (W := ⟨callN T con k, con, none, akT T⟩) (m := m) (x2 := none) (x3 := none) hb hc hl hp r s ht ha
    unfold takeA at ht
    injection ht with hs hr
    have hr2 := hr
    subst hr
    have mod : ∀ {x : Int}, 0 ≤ x % m ∧ x % m < m := fun {x} => ⟨Int.emod_nonneg _ (by omega), Int.emod_lt_of_pos _ hm⟩
    by_cases hpos : 0 < a1
    · refine ⟨a1 % m, bagOf J (a1 / m) b1 c1 cs, ?_, ⟨_, _, _, cs, Int.ediv_nonneg ha1 (by omega), hb1, hc1, hl, hp, rfl⟩, mod.1, mod.2⟩
      refine call_rt hT rfl ?_ rfl
      show evSs _ takeA _ _ = _
      unfold takeA
      rw [hs]
      refine ss_nx h1 (ss_rt (st_ift (t_cmp (d := .int a1) (d1 := .int 0) (e_ixo (n := 0) (e_var rfl) e_cst rfl rfl) e_cst ?_) (ss_nx (st_asg (d := .int (a1 % m)) (e_bin (d := .int a1) (d1 := .int m) (e_cB (a_cons (e_ixo (n := 0) (d := .int a1) (e_var rfl) e_cst rfl rfl) a_nil) rfl) (e_var rfl) ?_) rfl) (ss_nx (st_sto (n := 0) (l := 0) (d := .int (a1 / m)) (e_bin (d := .int a1) (d1 := .int m) (e_cB (a_cons (e_ixo (n := 0) (d := .int a1) (e_var rfl) e_cst rfl rfl) a_nil) rfl) (e_var rfl) ?_) (e_var rfl) e_cst rfl rfl) (ss_rt (st_ret (e_var rfl)))))))
      · show some (decide ((0 : Int) < a1)) = _
        rw [decide_eq_true hpos]
      · show (if _ then _ else _) = _
        rw [if_pos hm]
      · show (if _ then _ else _) = _
        rw [if_pos ⟨hm, hm2⟩]
    · refine ⟨_, bagOf J a1 b1 c1 cs, ?_, ⟨a1, b1, c1, cs, ha1, hb1, hc1, hl, hp, rfl⟩, (mod (x := ((((b1 + 1) * 39373 % 1000000007) * ((b1 + 1) * 39373 % 1000000007) % 998244353 * 30011) % 998244353) / 7)).1, mod.2⟩
      refine call_rt hT rfl ?_ rfl
      show evSs _ takeA _ _ = _
      unfold takeA
      rw [hs]
      refine ss_nx h1 (ss_nx (st_if0 (t_cmp (d := .int a1) (d1 := .int 0) (e_ixo (n := 0) (e_var rfl) e_cst rfl rfl) e_cst ?_)) (ss_nx (st_asg (d := .int ((b1 + 1) * 39373 % 1000000007)) (e_bin (d := .int ((b1 + 1) * 39373)) (d1 := .int 1000000007) (e_cB (ds := [.int ((b1 + 1) * 39373)]) (a_cons (e_bin (d := .int (b1 + 1)) (d1 := .int 39373) (e_bin (d := .int b1) (d1 := .int 1) (e_ixo (n := 1) (e_var rfl) e_cst rfl rfl) e_cst rfl) e_cst ?_) a_nil) rfl) e_cst rfl) rfl)
        (ss_nx (st_asg (d := .int ((((b1 + 1) * 39373 % 1000000007) * ((b1 + 1) * 39373 % 1000000007) % 998244353 * 30011) % 998244353)) (e_bin (d := .int (((b1 + 1) * 39373 % 1000000007) * ((b1 + 1) * 39373 % 1000000007) % 998244353 * 30011)) (d1 := .int 998244353) (e_cB (ds := [.int (((b1 + 1) * 39373 % 1000000007) * ((b1 + 1) * 39373 % 1000000007) % 998244353 * 30011)]) (a_cons (e_bin (d := .int (((b1 + 1) * 39373 % 1000000007) * ((b1 + 1) * 39373 % 1000000007) % 998244353)) (d1 := .int 30011) (e_bin (d := .int (((b1 + 1) * 39373 % 1000000007) * ((b1 + 1) * 39373 % 1000000007))) (d1 := .int 998244353) (e_cB (ds := [.int (((b1 + 1) * 39373 % 1000000007) * ((b1 + 1) * 39373 % 1000000007))]) (a_cons (e_bin (d := .int ((b1 + 1) * 39373 % 1000000007)) (d1 := .int ((b1 + 1) * 39373 % 1000000007)) (e_var rfl) (e_var rfl) ?_) a_nil) rfl) e_cst rfl) e_cst ?_) a_nil) rfl) e_cst rfl) rfl)
          (ss_rt (st_ret (e_bin (d := .int (((((b1 + 1) * 39373 % 1000000007) * ((b1 + 1) * 39373 % 1000000007) % 998244353 * 30011) % 998244353) / 7)) (d1 := .int m) (e_cB (a_cons (e_bin (d := .int ((((b1 + 1) * 39373 % 1000000007) * ((b1 + 1) * 39373 % 1000000007) % 998244353 * 30011) % 998244353)) (d1 := .int 7) (e_var rfl) e_cst rfl) a_nil) rfl) (e_var rfl) ?_))))))
      · show some (decide ((0 : Int) < a1)) = _
        rw [decide_eq_false hpos]
      · exact mul_r (by decide)
      · refine mul_l ?_
        have g1 : 0 ≤ (b1 + 1) * 39373 % 1000000007 := Int.emod_nonneg _ (by decide)
        have g2 : (b1 + 1) * 39373 % 1000000007 < 1000000007 := Int.emod_lt_of_pos _ (by decide)
        have g3 : (2 : Nat) ^ 64 = 18446744073709551616 := by decide
        omega
      · exact mul_r (by decide)
      · show (if _ then _ else _) = _
        rw [if_pos hm]
theorem some_ok {T : String → Option Fn} {con : String → Option D} {f : String} {k : Nat} {J S : Store} {ds : List D} (hT : T f = some ⟨2, 2, someA⟩) (hT2 : T "_law_take" = some ⟨2, 7, takeA⟩) (h0 : ds ≠ []) (hl : ds.length < 1073741824) (hB : Bag J S) :
    ∃ (d : D) (S' : Store), callN T con (k + 2) f [.obj 0, .lst ds] S = .ok d S' ∧ Bag J S' ∧ d ∈ ds := by
  have hpos : 0 < ds.length := List.length_pos_iff.mpr h0
  obtain ⟨v, S', h1, h2, h3, h4⟩ := take_ok (T := T) (con := con) (f := "_law_take") (k := k) (S := S) (m := (ds.length : Int)) hT2 (by omega) (by omega) hB
  have hv : v.toNat < ds.length := by omega
  refine ⟨ds[v.toNat], S', ?_, h2, List.getElem_mem hv⟩
  refine call_rt hT rfl ?_ (by rw [h2.len, hB.len])
  show evSs _ someA _ _ = _
  unfold someA
  refine ss_rt (st_ret (e_ixl (n := v) (ds := ds) (e_var rfl) (e_cF (ds := [.obj 0, .int ds.length]) (a_cons (e_var rfl) (a_cons (e_cB (a_cons (e_var rfl) a_nil) rfl) a_nil)) h1) ?_))
  exact atI_of h3 hv
theorem bag_ok {T : String → Option Fn} {con : String → Option D} {f : String} {k : Nat} {ns : List Int} (hT : T f = some ⟨1, 2, bagA⟩) (hl : ns.length ≤ 63) : ∃ S', callN T con (k + 1) f [.rol (ns.map D.int)] [] = .ok (.obj 0) S' ∧ Bag [] S' := by
  have hc : evE ⟨callN T con k, con, none, akT T⟩ (.comp [1] (.cB .abs (.cons (.var 1) .nil)) (.nm 1) (.seq (.sl (.var 0) .no (.so (.cst (.int 63))))) .yes) [some (.rol (ns.map D.int)), none] [] =
      .ok (.lst ((cut (ns.map D.int) none (some 63)).map fun d => match d with | .int i => .int (if i < 0 then -i else i) | d => d)) [] := by
    refine comp_map ?_ ?_ fun x hx => ?_
    · exact i_seq (e_slt (d := .rol (ns.map D.int)) (l := none) (u := some 63) (e_var rfl) o_no (o_so e_cst) (fun r h => by cases h) rfl) rfl
    · have := cut_len (ns.map D.int) none (some 63)
      rw [List.length_map] at this
      show _ ≤ 16777216
      omega
    · obtain ⟨i, hi, rfl⟩ := List.mem_map.mp (cut_mem hx)
      exact ⟨_, rfl, e_cB (a_cons (e_var rfl) a_nil) rfl⟩
  refine ⟨_, ?_, ⟨0, 1234567891, 0, (cut ns none (some 63)).map fun i => if i < 0 then -i else i, Int.le_refl _, by decide, Int.le_refl _, ?_, ?_, rfl⟩⟩
  · rw [call_eq hT rfl]
    show fin [] (evSs _ bagA _ _) = _
    have : evSs ⟨callN T con k, con, none, akT T⟩ bagA [some (.rol (ns.map D.int)), none] [] = .ok (.rt (.obj 0)) (bagOf [] 0 1234567891 0 ((cut ns none (some 63)).map fun i => if i < 0 then -i else i)) := by
      unfold bagA
      refine ss_rt (st_ret ?_)
      rw [e_mls (a_cons e_cst (a_cons e_cst (a_cons e_cst (a_cons hc a_nil)))) (show (4 : Nat) ≤ SZ by decide)]
      have e1 : cut (ns.map D.int) none (some 63) = (cut ns none (some 63)).map D.int := by
        unfold cut; simp
      rw [e1]
      simp [bagOf]
    refine (congrArg (fin []) this).trans ?_
    show Rs.ok _ (trunc [] (D.lim 0 (.obj 0)) _) = _
    unfold trunc
    rw [if_neg (by simp [D.lim])]
  · have := cut_len ns none (some 63)
    rw [List.length_map]; omega
  · intro x hx
    obtain ⟨i, _, rfl⟩ := List.mem_map.mp hx
    show 0 ≤ if i < 0 then -i else i
    split <;> omega
end PyI

set_option maxRecDepth 100000
set_option maxHeartbeats 1000000
namespace PyI
open PySem L2
section
variable {W : Wd} {e e' e2 : Env} {S S1 S2 S3 S4 : Store} {a b c x y z : Ex} {es : Exs} {d d1 d2 d3 : D} {ds : List D} {s : Sm} {r : Sms} {R : Rs Fl} {o p : BO} {q : CO} {t t1 t2 : Bool} {i j m : Nat} {X : Xc}
/-! ## lists, truths -/
theorem ne_int (i j : Int) : cmpop .ne (.int i) (.int j) = some (!(i == j)) := rfl
theorem blsOf_map {α : Type} (p : α → Bool) : ∀ xs : List α, blsOf (xs.map fun x => D.bl (p x)) = some (xs.map p)
  | [] => rfl
  | x :: xs => by
    show (blsOf (xs.map fun x => D.bl (p x))).map _ = _
    rw [blsOf_map p xs]; rfl
theorem all_map {α : Type} (p : α → Bool) (xs : List α) : biop S .all [.lst (xs.map fun x => D.bl (p x))] = some (.bl (xs.all p)) := by
  show (blsOf _).map _ = _
  rw [blsOf_map]
  simp [List.all_map]
theorem eq_nil {ds : List D} (h : dats ds = true) : cmpop .eq (.lst ds) (.lst []) = some ds.isEmpty := by
  show (if _ then _ else _) = _
  rw [if_pos (by simp [D.dat, h, dats, D.flat, flats])]
  cases ds <;> rfl
theorem ne_nil {ds : List D} (h : dats ds = true) : cmpop .ne (.lst ds) (.lst []) = some (!ds.isEmpty) := by
  show (if _ then _ else _) = _
  rw [if_pos (by simp [D.dat, h, dats, D.flat, flats])]
  cases ds <;> rfl
theorem all_flt {α : Type} (p : α → Bool) (xs : List α) : (xs.filter fun x => !p x).isEmpty = xs.all p := by
  induction xs with
  | nil => rfl
  | cons x xs ih => cases h : p x <;> simp [List.filter_cons, h, ih]
theorem dats_const {α : Type} (d : D) (hd : d.dat = true) : ∀ xs : List α, dats (xs.map fun _ => d) = true
  | [] => rfl
  | x :: xs => by simp [dats, hd, dats_const d hd xs]
theorem isE_map {α β : Type} (f : α → β) (xs : List α) : (xs.map f).isEmpty = xs.isEmpty := by cases xs <;> rfl
theorem add_lst {xs ys : List D} (h : xs.length ≤ 1000) (h2 : ys.length ≤ 1000) : binop .add (.lst xs) (.lst ys) = some (.lst (xs ++ ys)) := by
  show (if _ then _ else _) = _
  rw [if_pos (show _ ≤ 16777216 by omega)]
theorem eq_str (x y : Str) : cmpop .eq (.str x) (.str y) = some (x == y) := rfl
theorem ne_str (x y : Str) : cmpop .ne (.str x) (.str y) = some (!(x == y)) := rfl
/-! ## loops -/
theorem forF_inv {f : D → Env → Store → Rs Fl} {P : Env → Store → Prop} : ∀ (xs : List D) (e : Env) (S : Store), P e S → (∀ x ∈ xs, ∀ e S, P e S → ∃ e2 S2, f x e S = .ok (.nx e2) S2 ∧ P e2 S2) → ∃ e' S', forF (fun _ => true) f xs e S = .ok (.nx e') S' ∧ P e' S'
  | [], e, S, h0, _ => ⟨e, S, by unfold forF; rfl, h0⟩
  | x :: xs, e, S, h0, h => by
    obtain ⟨e2, S2, h1, h2⟩ := h x List.mem_cons_self e S h0
    obtain ⟨e3, S3, h3, h4⟩ := forF_inv xs e2 S2 h2 fun y hy => h y (List.mem_cons_of_mem _ hy)
    refine ⟨e3, S3, ?_, h4⟩
    unfold forF
    rw [if_pos rfl, h1]
    exact h3
theorem for_inv {t : Tg} {it : PyI.It} {b : Sms} {e : Env} {S0 S : Store} {xs : List D} {P : Env → Store → Prop} (hi : evI W it e S0 = .ok (xs, none) S) (h0 : P e S) (h : ∀ x ∈ xs, ∀ e S, P e S → ∃ e', setT e t x = some e' ∧ ∃ e2 S2, evSs W b e' S = .ok (.nx e2) S2 ∧ P e2 S2) :
    ∃ e' S', evS W (.for t it b) e S0 = .ok (.nx e') S' ∧ P e' S' := by
  obtain ⟨e', S', h1, h2⟩ := forF_inv (f := fun x e S => match setT e t x with
      | some e' => evSs W b e' S
      | none => .bad) (P := P) xs e S h0 fun x hx e S hP => by
    obtain ⟨e', k1, e2, S2, k2, k3⟩ := h x hx e S hP
    exact ⟨e2, S2, by rw [k1]; exact k2, k3⟩
  refine ⟨e', S', ?_, h2⟩
  show (evI W it e S0).bind _ = _
  rw [hi]
  exact h1
/-- the same, knowing the place in the list -/
theorem forF_pos {f : D → Env → Store → Rs Fl} {P : Nat → Env → Store → Prop} : ∀ (xs : List D) (n : Nat) (e : Env) (S : Store), P n e S → (∀ i x, xs[i]? = some x → ∀ e S, P (n + i) e S → ∃ e2 S2, f x e S = .ok (.nx e2) S2 ∧ P (n + i + 1) e2 S2) → ∃ e' S', forF (fun _ => true) f xs e S = .ok (.nx e') S' ∧ P (n + xs.length) e' S'
  | [], n, e, S, h0, _ => ⟨e, S, by unfold forF; rfl, h0⟩
  | x :: xs, n, e, S, h0, h => by
    obtain ⟨e2, S2, h1, h2⟩ := h 0 x rfl e S h0
    obtain ⟨e3, S3, h3, h4⟩ := forF_pos xs (n + 1) e2 S2 h2 fun i y hy e S hP => by
      have := h (i + 1) y (by simpa using hy) e S (by rw [show n + (i + 1) = n + 1 + i by omega]; exact hP)
      obtain ⟨e2, S2, k1, k2⟩ := this
      exact ⟨e2, S2, k1, by rw [show n + 1 + i + 1 = n + (i + 1) + 1 by omega]; exact k2⟩
    refine ⟨e3, S3, ?_, by rw [List.length_cons, show n + (xs.length + 1) = n + 1 + xs.length by omega]; exact h4⟩
    unfold forF
    rw [if_pos rfl, h1]
    exact h3
theorem for_pos {t : Tg} {it : PyI.It} {b : Sms} {e : Env} {S0 S : Store} {xs : List D} {P : Nat → Env → Store → Prop} (hi : evI W it e S0 = .ok (xs, none) S) (h0 : P 0 e S) (h : ∀ i x, xs[i]? = some x → ∀ e S, P i e S → ∃ e', setT e t x = some e' ∧ ∃ e2 S2, evSs W b e' S = .ok (.nx e2) S2 ∧ P (i + 1) e2 S2) :
    ∃ e' S', evS W (.for t it b) e S0 = .ok (.nx e') S' ∧ P xs.length e' S' := by
  obtain ⟨e', S', h1, h2⟩ := forF_pos (f := fun x e S => match setT e t x with
      | some e' => evSs W b e' S
      | none => .bad) (P := P) xs 0 e S h0 fun i x hx e S hP => by
    rw [Nat.zero_add] at hP
    obtain ⟨e', k1, e2, S2, k2, k3⟩ := h i x hx e S hP
    exact ⟨e2, S2, by rw [k1]; exact k2, by rw [Nat.zero_add]; exact k3⟩
  rw [Nat.zero_add] at h2
  refine ⟨e', S', ?_, h2⟩
  show (evI W it e S0).bind _ = _
  rw [hi]
  exact h1
/-! ## objects -/
theorem e_fld {f : String} {C : Nat} {ns : List String} {fs : List (String × D)} (h : evE W a e S = .ok (.obj m) S1) (g : S1[m]? = some (.ins C ns fs)) (hf : f ∈ ns) (l : fs.lookup f = some d) : evE W (.fld a f) e S = .ok d S1 := by
  show (evE W a e S).bind _ = _
  rw [h]
  show optR (fldop W.xa S1 f (.obj m)) S1 = _
  simp only [fldop, g, if_pos hf, l]; rfl
theorem e_xf {f : String} {u v : Nat} {ns : List String} (h : evE W a e S = .ok (.exc u v ns ds) S1) (hx : W.xa = some (u, v, ns)) (hf : f ∈ ns) (l : (ns.zip ds).lookup f = some d) : evE W (.fld a f) e S = .ok d S1 := by
  show (evE W a e S).bind _ = _
  rw [h]
  show optR (fldop W.xa S1 f (.exc u v ns ds)) S1 = _
  show optR (if W.xa = some (u, v, ns) ∧ f ∈ ns then _ else _) S1 = _
  rw [if_pos ⟨hx, hf⟩, l]; rfl
/-- a method's call, whatever it gives -/
theorem e_cM {f n key : String} {C : Nat} {ns : List String} {fs : List (String × D)} (hk : mKey W.con f n = some (C, ns, key)) (h : evE W a e S = .ok (.obj m) S1) (g : S1[m]? = some (.ins C ns fs)) (k : evA W es e S1 = .ok ds S2) : evE W (.cM f n a es) e S = (W.call key (.obj m :: ds) S2).at e := by
  have hm : mOf C ns S1 (.obj m) = some m := by simp only [mOf, g]; rw [if_pos ⟨trivial, trivial⟩]
  simp only [evE, hk, h, Rs.bind, hm, optR_some, k]
theorem e_cMo {f n key : String} {C : Nat} {ns : List String} {fs : List (String × D)} (hk : mKey W.con f n = some (C, ns, key)) (h : evE W a e S = .ok (.obj m) S1) (g : S1[m]? = some (.ins C ns fs)) (k : evA W es e S1 = .ok ds S2) (l : W.call key (.obj m :: ds) S2 = .ok d S3) : evE W (.cM f n a es) e S = .ok d S3 := by
  rw [e_cM hk h g k, l]; rfl
theorem e_mk {f key : String} {C : Nat} {ns : List String} (hk : mKey W.con f "__init__" = some (C, ns, key)) (k : evA W es e S = .ok ds S1) (l : W.call key (.obj S1.length :: ds) (S1 ++ [.ins C ns []]) = .ok .non S2) : evE W (.mk f es) e S = .ok (.obj S1.length) S2 := by
  simp only [evE, hk, k, Rs.bind, l, Rs.nox]
theorem st_sfl {f : String} (h : evE W x e S = .ok d S1) (k : evE W a e S1 = .ok d1 S2) (l : sflop S2 f d d1 = some S3) : evS W (.sfl a f x) e S = .ok (.nx e) S3 := by
  simp only [evS, h, k, Rs.bind, l]
theorem st_afl {f : String} (h : evE W a e S = .ok d S1) (k : fldop none S1 f d = some d1) (h2 : evE W x e S1 = .ok d2 S1) (k2 : augop o d1 d2 = some d3) (l : sflop S1 f d3 d = some S2) : evS W (.afl a f o x) e S = .ok (.nx e) S2 := by
  simp only [evS, h, k, h2, k2, Rs.bind, optR_some, if_true, l]
theorem st_sfls {fs : List String} (h : evE W x e S = .ok (.tup ds) S1) (k : e[i]? = some (some d)) (l : sflsop d S1 fs ds = some S2) : evS W (.sfls i fs x) e S = .ok (.nx e) S2 := by
  simp only [evS, h, Rs.bind, k, l]
/-! ## exceptions -/
theorem st_rai {f : String} {ns : List String} (hn : xNs W.con f = some ns) (h : evA W es e S = .ok ds S1) (hl : ds.length = ns.length) (h9 : ds.length ≤ 900) : evS W (.rai f es) e S = .exc (f, ns.zip ds) e S1 := by
  simp only [evS, hn, h, Rs.bind]
  have : xOf ns ds = some (ns.zip ds) := by unfold xOf; rw [if_pos ⟨hl, h9⟩]
  simp only [this]
theorem ss_ex (h : evS W s e S = .exc X e' S1) : evSs W (.cons s r) e S = .exc X e' S1 := by
  simp only [evSs, h, Rs.bind]
theorem st_retR {R : Rs D} (h : evE W x e S = R) : evS W (.ret x) e S = R.bind fun d S => .ok (.rt d) S := by
  simp only [evS, h]
theorem st_expR {R : Rs D} (h : evE W x e S = R) : evS W (.exp x) e S = R.bind fun _ S => .ok (.nx e) S := by
  simp only [evS, h]
theorem st_asgX {T : Tg} (h : evE W x e S = .exc X e' S1) : evS W (.asg T x) e S = .exc X e' S1 := by
  simp only [evS, h, Rs.bind]
theorem st_expX (h : evE W x e S = .exc X e' S1) : evS W (.exp x) e S = .exc X e' S1 := by
  simp only [evS, h, Rs.bind]
theorem st_retX (h : evE W x e S = .exc X e' S1) : evS W (.ret x) e S = .exc X e' S1 := by
  simp only [evS, h, Rs.bind]
theorem e_cF1X {f : String} (h : evA W es e S = .ok ds S1) (k : W.call f ds S1 = .exc X e' S2) : evE W (.cF f es) e S = .exc X e S2 := by
  simp only [evE, h, Rs.bind, k, Rs.at]
theorem e_cB1X {f : Bi} (h : evE W x e S = .exc X e' S1) : evE W (.cB f (.cons x .nil)) e S = .exc X e' S1 := by
  simp only [evE, evA, h, Rs.bind]
theorem st_tryO {b su : Sms} {f : String} {ns : List String} {fl : Fl} (hn : xNs W.con f = some ns) (h : evSs W.inTry b e S = .ok fl S1) : evS W (.tryx b f i su) e S = .ok fl S1 := by
  simp only [evS, hn, h]
theorem st_tryX {b su : Sms} {f : String} {ns : List String} {vs : List D} (hn : xNs W.con f = some ns) (h : evSs W.inTry b e S = .exc (f, ns.zip vs) e' S1) (hl : vs.length = ns.length) (k : ∀ u v, clr i (evSs (W.suite u v ns) su (e'.set i (some (.exc u v ns vs))) S1) = R) : evS W (.tryx b f i su) e S = R := by
  have e1 : (ns.zip vs).map (·.1) = ns := by rw [List.map_fst_zip]; omega
  have e2 : (ns.zip vs).map (·.2) = vs := by rw [List.map_snd_zip]; omega
  simp only [evS, hn, h, e1, e2]
  rw [if_pos ⟨trivial, trivial⟩]
  exact tryR_of k
end
theorem call_ex {T : String → Option Fn} {con : String → Option D} {k : Nat} {f : String} {fd : Fn} {ds : List D} {X : Xc} {e : Env} {S S' : Store} (h : T f = some fd) (hl : ds.length = fd.np)
    (hb : evSs ⟨callN T con k, con, none, akT T⟩ fd.body (ds.map some ++ List.replicate (fd.n - ds.length) none) S = .exc X e S') : callN T con (k + 1) f ds S = .exc X [] S' := by
  rw [call_eq h hl, hb]; rfl
theorem call_nx {T : String → Option Fn} {con : String → Option D} {k : Nat} {f : String} {fd : Fn} {ds : List D} {e : Env} {S S' : Store} (h : T f = some fd) (hl : ds.length = fd.np)
    (hb : evSs ⟨callN T con k, con, none, akT T⟩ fd.body (ds.map some ++ List.replicate (fd.n - ds.length) none) S = .ok (.nx e) S') (hs : S'.length = S.length) : callN T con (k + 1) f ds S = .ok .non S' := by
  rw [call_eq h hl, hb]
  show retn S .non S' = _
  unfold retn
  rw [trunc_len hs]
end PyI

set_option maxRecDepth 100000
set_option maxHeartbeats 1000000
namespace PyI
open PySem L2
/-! ## stepping by tactic -/
theorem lt_int (i j : Int) : cmpop .lt (.int i) (.int j) = some (decide (i < j)) := rfl
theorem le_int (i j : Int) : cmpop .le (.int i) (.int j) = some (decide (i ≤ j)) := rfl
theorem gt_int (i j : Int) : cmpop .gt (.int i) (.int j) = some (decide (j < i)) := rfl
theorem ge_int (i j : Int) : cmpop .ge (.int i) (.int j) = some (decide (j ≤ i)) := rfl
section
variable {W : Wd} {e e' e2 : Env} {S S1 S2 S3 S4 : Store} {a b c x y z : Ex} {es : Exs} {d d1 d2 d3 : D} {ds : List D} {s : Sm} {r : Sms} {R : Rs Fl} {o p : BO} {q : CO} {t t1 t2 : Bool} {i j m : Nat}
theorem e_ifet {C : Tx} (h : evT W C e S = .ok true S1) (k : evE W a e S1 = .ok d S2) : evE W (.ife C a b) e S = .ok d S2 := e_ife h k
theorem e_ifef {C : Tx} (h : evT W C e S = .ok false S1) (k : evE W b e S1 = .ok d S2) : evE W (.ife C a b) e S = .ok d S2 := e_ife h k
theorem ss_ift {A B : Sms} {C : Tx} (h : evT W C e S = .ok true S1) (k : evSs W A e S1 = .ok (.rt d) S2) : evSs W (.cons (.ifs C A B) r) e S = .ok (.rt d) S2 := ss_rt (st_ift h k)
theorem ss_ifn {A B : Sms} {C : Tx} (h : evT W C e S = .ok true S1) (k : evSs W A e S1 = .ok (.nx e') S2) (k2 : evSs W r e' S2 = R) : evSs W (.cons (.ifs C A B) r) e S = R := ss_nx (st_ift h k) k2
theorem ss_iff {A : Sms} {C : Tx} (h : evT W C e S = .ok false S1) (k2 : evSs W r e S1 = R) : evSs W (.cons (.ifs C A .nil) r) e S = R := ss_nx (st_if0 h) k2
theorem ss_ret (h : evE W x e S = .ok d S1) : evSs W (.cons (.ret x) r) e S = .ok (.rt d) S1 := ss_rt (st_ret h)
theorem ss_asg {T : Tg} (h : evE W x e S = .ok d S1) (k : setT e T d = some e') (l : evSs W r e' S1 = R) : evSs W (.cons (.asg T x) r) e S = R := ss_nx (st_asg h k) l
theorem ss_par (h : evE W a e S = .ok d S1) (k : evE W b e S1 = .ok d1 S2) (l : evSs W r ((e.set i (some d)).set j (some d1)) S2 = R) : evSs W (.cons (.par i j a b) r) e S = R := ss_nx (st_par h k) l
theorem ss_aug (h0 : e[i]? = some (some d)) (h : evE W x e S = .ok d1 S1) (k : augop o d d1 = some d2) (l : evSs W r (e.set i (some d2)) S1 = R) : evSs W (.cons (.aug i o x) r) e S = R := ss_nx (st_aug h0 h k) l
theorem ss_exp (h : evE W x e S = .ok d S1) (l : evSs W r e S1 = R) : evSs W (.cons (.exp x) r) e S = R := ss_nx (st_exp h) l
theorem t_ntt {C : Tx} (h : evT W C e S = .ok false S1) : evT W (.nt C) e S = .ok true S1 := t_nt h
theorem t_ntf {C : Tx} (h : evT W C e S = .ok true S1) : evT W (.nt C) e S = .ok false S1 := t_nt h
theorem t_bl (h : evE W a e S = .ok (.bl t) S1) : evT W (.tst a) e S = .ok t S1 := t_tst h rfl
end
end PyI

set_option maxRecDepth 100000
set_option maxHeartbeats 1000000
namespace PyI
open PySem L2
mutual
theorem dat_lim {n : Nat} : ∀ {d : D}, d.dat = true → d.lim n = true
  | .non, _ => rfl
  | .bl _, _ => rfl
  | .int _, _ => rfl
  | .str _, _ => rfl
  | .tup ds, h => by simp [D.dat] at h; simp [D.lim, dats_lims h]
  | .lst ds, h => by simp [D.dat] at h; simp [D.lim, dats_lims h]
  | .rol _, h => by simp [D.dat] at h
  | .obj _, h => by simp [D.dat] at h
  | .edic, h => by simp [D.dat] at h
  | .exc _ _ _ _, h => by simp [D.dat] at h
  | .clo _ _ _ _, h => by simp [D.dat] at h
  | .ftup _, h => by simp [D.dat] at h
theorem dats_lims {n : Nat} : ∀ {ds : List D}, dats ds = true → lims n ds = true
  | [], _ => rfl
  | d :: ds, h => by simp [dats] at h; simp [lims, dat_lim h.1, dats_lims h.2]
end
theorem dats_all : ∀ {ds : List D}, dats ds = true ↔ ∀ d ∈ ds, d.dat = true
  | [] => by simp [dats]
  | d :: ds => by simp [dats, dats_all]
theorem dats_ints : ∀ fs : List Int, dats (fs.map D.int) = true
  | [] => rfl
  | f :: fs => by simp [dats, D.dat, dats_ints fs]
theorem lims_ints {n : Nat} (fs : List Int) : lims n (fs.map D.int) = true := dats_lims (dats_ints fs)
theorem trunc_bagJ {J J2 : Store} {a b c a' b' c' : Int} {cs cs' : List Int} : trunc (bagOf J a b c cs) true (bagOf (J ++ J2) a' b' c' cs') = bagOf J a' b' c' cs' := by
  unfold trunc
  rw [if_pos]
  · show (bagOf (J ++ J2) a' b' c' cs').take (J.length + 1) = _
    unfold bagOf
    rw [List.take_succ_cons, List.take_left]
  · refine ⟨rfl, by simp [bagOf], fun i mo hi h => ?_⟩
    cases i with
    | zero =>
      have h : some (MO.lst [.int a', .int b', .int c', .lst (cs'.map .int)]) = some mo := h
      cases h
      right
      show (true && (true && (true && (lims _ (cs'.map D.int) && true)))) = true
      rw [lims_ints]; rfl
    | succ i =>
      left
      have hi : i < J.length := by simp [bagOf] at hi; omega
      have h : (J ++ J2)[i]? = some mo := h
      rw [List.getElem?_append_left hi] at h
      exact h
/-- a call that leaves the store, what it makes is forgotten -/
theorem call_jk {T : String → Option Fn} {con : String → Option D} {k : Nat} {f : String} {fd : Fn} {ds : List D} {d : D} {S J' : Store} (h : T f = some fd) (hl : ds.length = fd.np) (hd : d.dat = true)
    (hb : evSs ⟨callN T con k, con, none, akT T⟩ fd.body (ds.map some ++ List.replicate (fd.n - ds.length) none) S = .ok (.rt d) (S ++ J')) : callN T con (k + 1) f ds S = .ok d S := by
  rw [call_eq h hl, hb]
  show retn S d _ = _
  unfold retn
  rw [dat_lim hd, trunc_junk]
theorem call_bg {T : String → Option Fn} {con : String → Option D} {k : Nat} {f : String} {fd : Fn} {ds : List D} {d : D} {S S' J J2 : Store} (h : T f = some fd) (hl : ds.length = fd.np) (hd : d.dat = true) (b : Bag J S) (b' : Bag (J ++ J2) S')
    (hb : evSs ⟨callN T con k, con, none, akT T⟩ fd.body (ds.map some ++ List.replicate (fd.n - ds.length) none) S = .ok (.rt d) S') : ∃ S2, callN T con (k + 1) f ds S = .ok d S2 ∧ Bag J S2 := by
  obtain ⟨a, b1, c, cs, _, _, _, _, _, rfl⟩ := b.ex
  obtain ⟨a', b1', c', cs', p1, p2, p3, p4, p5, rfl⟩ := b'.ex
  refine ⟨bagOf J a' b1' c' cs', ?_, ⟨a', b1', c', cs', p1, p2, p3, p4, p5, rfl⟩⟩
  rw [call_eq h hl, hb]
  show retn _ d _ = _
  unfold retn
  rw [dat_lim hd, trunc_bagJ]
theorem ne_nilt {ds : List D} (h : dats ds = true) : cmpop .ne (.tup ds) (.tup []) = some (!ds.isEmpty) := by
  show (if _ then _ else _) = _
  rw [if_pos (by simp [D.dat, h, dats, D.flat, flats])]
  cases ds <;> rfl
theorem ints_atI {fs : List Int} {i : Int} (h0 : 0 ≤ i) (h1 : i < fs.length) : ∃ v, atI (fs.map D.int) i = some (.int v) ∧ v ∈ fs := by
  have hl : i.toNat < (fs.map D.int).length := by rw [List.length_map]; omega
  refine ⟨fs[i.toNat]'(by rw [List.length_map] at hl; exact hl), ?_, List.getElem_mem _⟩
  rw [atI_of h0 hl, List.getElem_map]
theorem atI_mem {ds : List D} {i : Int} (h0 : 0 ≤ i) (h1 : i < ds.length) : ∃ d, atI ds i = some d ∧ d ∈ ds := by
  have hl : i.toNat < ds.length := by omega
  exact ⟨ds[i.toNat], atI_of h0 hl, List.getElem_mem _⟩
/-! ## loops over a list of the store -/
section
variable {W : Wd} {own : List Nat} {elt : Ex} {t : Tg} {it : PyI.It} {c : Tx} {e : Env} {S S0 : Store}
theorem forR_fltS {chk : Store → Bool} {f : D → List D → Store → Rs (List D)} {p : D → Bool} {g : D → D} (hc : chk S = true) : ∀ (xs acc : List D), (∀ x ∈ xs, ∀ acc : List D, acc.length < SZ → f x acc S = .ok (if p x then acc ++ [g x] else acc) S) → acc.length + xs.length ≤ SZ →
    forR chk f xs acc S = .ok (acc ++ (xs.filter p).map g) S
  | [], acc, _, _ => by simp [forR, hc]
  | x :: xs, acc, h, hl => by
    have hl' : acc.length + xs.length + 1 ≤ SZ := by simpa [Nat.add_assoc] using hl
    unfold forR
    rw [if_pos hc, h x List.mem_cons_self acc (by omega)]
    rw [bOk, forR_fltS hc xs _ (fun y hy => h y (List.mem_cons_of_mem _ hy)) (by cases p x <;> simp <;> omega)]
    cases hp : p x <;> simp [List.filter_cons, hp]
theorem comp_fltS {s : Src} {p : D → Bool} {g : D → D} (hi : evI W it e S = .ok s S) (hc : srcOk S s = true) (hl : s.1.length ≤ SZ)
    (h : ∀ x ∈ s.1, ∃ e', setT (wip e own) t x = some e' ∧ evT W c e' S = .ok (p x) S ∧ (p x = true → evE W elt e' S = .ok (g x) S)) : evE W (.comp own elt t it c) e S = .ok (.lst ((s.1.filter p).map g)) S := by
  simp only [evE, hi, bOk]
  rw [forR_fltS (chk := fun S => srcOk S s) (p := p) (g := g) hc s.1 [] (fun x hx acc ha => ?_) (by simpa using hl)]
  · rfl
  · obtain ⟨e', h1, h2, h3⟩ := h x hx
    simp only [h1, h2, bOk]
    cases hp : p x with
    | false => simp
    | true => simp [h3 hp, ha, bOk]
theorem comp_mapS {s : Src} {g : D → D} (hi : evI W it e S = .ok s S) (hc : srcOk S s = true) (hl : s.1.length ≤ SZ)
    (h : ∀ x ∈ s.1, ∃ e', setT (wip e own) t x = some e' ∧ evE W elt e' S = .ok (g x) S) : evE W (.comp own elt t it .yes) e S = .ok (.lst (s.1.map g)) S := by
  rw [comp_fltS (p := fun _ => true) (g := g) hi hc hl fun x hx => ?_]
  · rw [List.filter_eq_self.mpr fun _ _ => rfl]
  · obtain ⟨e', h1, h2⟩ := h x hx
    exact ⟨e', h1, by simp [evT], fun _ => h2⟩
theorem i_obj {a : Ex} {m : Nat} {ds : List D} {S1 : Store} (h : evE W a e S = .ok (.obj m) S1) (g : S1[m]? = some (.lst ds)) : evI W (.seq a) e S = .ok (ds, some m) S1 := by
  refine i_seq h ?_
  show (match S1[m]? with | some (.lst ds) => some (ds, some m) | _ => none) = _
  rw [g]
theorem forF_posS {chk : Store → Bool} {f : D → Env → Store → Rs Fl} {P : Nat → Env → Store → Prop} (hc : ∀ n e S, P n e S → chk S = true) : ∀ (xs : List D) (n : Nat) (e : Env) (S : Store), P n e S → (∀ i x, xs[i]? = some x → ∀ e S, P (n + i) e S → ∃ e2 S2, f x e S = .ok (.nx e2) S2 ∧ P (n + i + 1) e2 S2) → ∃ e' S', forF chk f xs e S = .ok (.nx e') S' ∧ P (n + xs.length) e' S'
  | [], n, e, S, h0, _ => ⟨e, S, by unfold forF; rw [if_pos (hc _ _ _ h0)], h0⟩
  | x :: xs, n, e, S, h0, h => by
    obtain ⟨e2, S2, h1, h2⟩ := h 0 x rfl e S h0
    obtain ⟨e3, S3, h3, h4⟩ := forF_posS hc xs (n + 1) e2 S2 h2 fun i y hy e S hP => by
      have := h (i + 1) y (by simpa using hy) e S (by rw [show n + (i + 1) = n + 1 + i by omega]; exact hP)
      obtain ⟨e2, S2, k1, k2⟩ := this
      exact ⟨e2, S2, k1, by rw [show n + 1 + i + 1 = n + (i + 1) + 1 by omega]; exact k2⟩
    refine ⟨e3, S3, ?_, by rw [List.length_cons, show n + (xs.length + 1) = n + 1 + xs.length by omega]; exact h4⟩
    unfold forF
    rw [if_pos (hc _ _ _ h0), h1]
    exact h3
theorem for_posS {b : Sms} {s : Src} {P : Nat → Env → Store → Prop} (hi : evI W it e S0 = .ok s S) (hc : ∀ n e S, P n e S → srcOk S s = true) (h0 : P 0 e S) (h : ∀ i x, s.1[i]? = some x → ∀ e S, P i e S → ∃ e', setT e t x = some e' ∧ ∃ e2 S2, evSs W b e' S = .ok (.nx e2) S2 ∧ P (i + 1) e2 S2) :
    ∃ e' S', evS W (.for t it b) e S0 = .ok (.nx e') S' ∧ P s.1.length e' S' := by
  obtain ⟨e', S', h1, h2⟩ := forF_posS (chk := fun S => srcOk S s) (f := fun x e S => match setT e t x with
      | some e' => evSs W b e' S
      | none => .bad) (P := P) hc s.1 0 e S h0 fun i x hx e S hP => by
    rw [Nat.zero_add] at hP
    obtain ⟨e', k1, e2, S2, k2, k3⟩ := h i x hx e S hP
    exact ⟨e2, S2, by rw [k1]; exact k2, by rw [Nat.zero_add]; exact k3⟩
  rw [Nat.zero_add] at h2
  refine ⟨e', S', ?_, h2⟩
  show (evI W it e S0).bind _ = _
  rw [hi]
  exact h1
end
/-! ## a loop that is left by a return: over the data, the first that returns -/
theorem forF_find {f : D → Env → Store → Rs Fl} {S : Store} {p : D → Bool} {r : D → D} {P : Env → Prop} : ∀ (xs : List D) (e : Env), P e → (∀ x ∈ xs, ∀ e, P e → if p x = true then f x e S = .ok (.rt (r x)) S else ∃ e2, f x e S = .ok (.nx e2) S ∧ P e2) →
    (match xs.find? p with
      | some x => forF (fun _ => true) f xs e S = .ok (.rt (r x)) S
      | none => ∃ e2, forF (fun _ => true) f xs e S = .ok (.nx e2) S ∧ P e2)
  | [], e, h0, _ => ⟨e, by unfold forF; rfl, h0⟩
  | x :: xs, e, h0, h => by
    have hx := h x List.mem_cons_self e h0
    rw [List.find?_cons]
    cases hp : p x with
    | true =>
      rw [if_pos hp] at hx
      show forF _ f (x :: xs) e S = _
      unfold forF
      rw [if_pos rfl, hx]; rfl
    | false =>
      rw [if_neg (by rw [hp]; decide)] at hx
      obtain ⟨e2, h1, h2⟩ := hx
      have ih := forF_find xs e2 h2 fun y hy => h y (List.mem_cons_of_mem _ hy)
      have step : forF (fun _ => true) f (x :: xs) e S = forF (fun _ => true) f xs e2 S := by
        rw [forF, if_pos rfl, h1]; rfl
      show (match xs.find? p with
        | some x' => forF _ f (x :: xs) e S = .ok (.rt (r x')) S
        | none => ∃ e2, forF _ f (x :: xs) e S = .ok (.nx e2) S ∧ P e2)
      rw [step]; exact ih
theorem for_find {W : Wd} {t : Tg} {it : PyI.It} {b : Sms} {e : Env} {S0 S : Store} {xs : List D} {p : D → Bool} {r : D → D} {P : Env → Prop} (hi : evI W it e S0 = .ok (xs, none) S) (h0 : P e) (h : ∀ x ∈ xs, ∀ e, P e → ∃ e', setT e t x = some e' ∧ if p x = true then evSs W b e' S = .ok (.rt (r x)) S else ∃ e2, evSs W b e' S = .ok (.nx e2) S ∧ P e2) :
    (match xs.find? p with
      | some x => evS W (.for t it b) e S0 = .ok (.rt (r x)) S
      | none => ∃ e2, evS W (.for t it b) e S0 = .ok (.nx e2) S ∧ P e2) := by
  have := forF_find (f := fun x e S => match setT e t x with
      | some e' => evSs W b e' S
      | none => .bad) (S := S) (p := p) (r := r) (P := P) xs e h0 fun x hx e hP => by
    obtain ⟨e', k1, k2⟩ := h x hx e hP
    show if p x = true then (match setT e t x with | some e' => evSs W b e' S | none => .bad) = _ else ∃ e2, (match setT e t x with | some e' => evSs W b e' S | none => .bad) = _ ∧ P e2
    rw [k1]; exact k2
  have e1 : evS W (.for t it b) e S0 = forF (fun _ => true) (fun x e S => match setT e t x with
      | some e' => evSs W b e' S
      | none => .bad) xs e S := by
    show (evI W it e S0).bind _ = _
    rw [hi]; rfl
  rw [e1]; exact this
theorem st_whlf {W : Wd} {c : Tx} {b : Sms} {e : Env} {S S1 : Store} (h : evT W c e S = .ok false S1) : evS W (.whl c b) e S = .ok (.nx e) S1 := by
  show whlR (evT W c) (fun e S => evSs W b e S) e S = _
  rw [whlR_eq, h]; rfl
theorem st_whlt {W : Wd} {c : Tx} {b : Sms} {e e' : Env} {S S1 S2 : Store} (h : evT W c e S = .ok true S1) (k : evSs W b e S1 = .ok (.nx e') S2) : evS W (.whl c b) e S = evS W (.whl c b) e' S2 := by
  show whlR (evT W c) (fun e S => evSs W b e S) e S = whlR (evT W c) (fun e S => evSs W b e S) e' S2
  rw [whlR_eq e S, h]
  simp only [Rs.bind, if_true, k]
theorem e_idx {W : Wd} {e : PyI.Env} {S : Store} {a x : Ex} {ds : List D} {d d2 : D} (h : evE W a e S = .ok (.lst ds) S) (k : evE W x e S = .ok d S) (l : idxop S (.lst ds) d = some d2) : evE W (.idx a x) e S = .ok d2 S := by
  show (evE W a e S).bind _ = _
  rw [h]
  show (evE W x e S).bind (fun d S => optR (idxop S (.lst ds) d) S) = _
  rw [k]
  show optR _ _ = _
  rw [l]; rfl
theorem e_ask {W : Wd} {e : PyI.Env} {S : Store} {g : String} {told : Str} {hs : Hds} {a : Ex} {R : Rs D} (h : W.ak g = some (told, hs)) (ho : hdsOk W.con hs = true) (k : askR told hs W.con (evE W a e S) = R) : evE W (.ask g a) e S = R := by
  show (match W.ak g with
    | some (told, hs) => if hdsOk W.con hs = true then askR told hs W.con (evE W a e S) else .bad
    | none => .bad) = R
  rw [h]
  show (if hdsOk W.con hs = true then askR told hs W.con (evE W a e S) else .bad) = R
  rw [if_pos ho]; exact k
theorem e_popi {W : Wd} {e : PyI.Env} {S S1 : Store} {a x : Ex} {r : Nat} {ds ds' : List D} {d y : D} (h : evE W a e S = .ok (.obj r) S) (h0 : ∃ ds0, S[r]? = some (.lst ds0)) (k : evE W x e S = .ok d S1) (hr : S1[r]? = some (.lst ds)) (l : popL ds d = some (y, ds')) : evE W (.popi a x) e S = .ok y (S1.set r (.lst ds')) := by
  obtain ⟨ds0, h0⟩ := h0
  show (evE W a e S).bind _ = _
  rw [h]
  show (optR (objL S (.obj r)) S).bind _ = _
  have : objL S (.obj r) = some r := by show (match S[r]? with | some (.lst _) => some r | _ => none) = _; rw [h0]
  rw [this]
  show (evE W x e S).bind _ = _
  rw [k]
  show (match S1[r]? with
    | some (.lst ds) => match popL ds d with
      | some (y, ds') => Rs.ok y (S1.set r (.lst ds'))
      | none => .bad
    | _ => .bad) = _
  rw [hr]
  show (match popL ds d with
      | some (y, ds') => Rs.ok y (S1.set r (.lst ds'))
      | none => .bad) = _
  rw [l]
theorem e_sdc {W : Wd} {e : PyI.Env} {S S1 S2 : Store} {own : List Nat} {elt : Ex} {t : Tg} {it : It} {s : Src} {ks : List Int} (h : evI W it e S = .ok s S1) (k : forR (fun S => srcOk S s) (fun x acc S => match setT (wip e own) t x with
        | some e' => (evE W elt e' S).bind fun d S => (optR (intD d) S).bind fun i S => if acc.length < 63 then .ok (insU acc i) S else .bad
        | none => .bad) s.1 [] S1 = .ok ks S2) : evE W (.sdc own elt t it) e S = .ok (.lst ((srtI ks).map .int)) S2 := by
  show (evI W it e S).bind _ = _
  rw [h]
  show ((forR (fun S => srcOk S s) (fun x acc S => match setT (wip e own) t x with
        | some e' => (evE W elt e' S).bind fun d S => (optR (intD d) S).bind fun i S => if acc.length < 63 then .ok (insU acc i) S else .bad
        | none => .bad) s.1 [] S1).nox.bind fun ks S => Rs.ok (D.lst ((srtI ks).map .int)) S) = _
  rw [k]; rfl
theorem i_rng2 {W : Wd} {e : PyI.Env} {S S1 S2 : Store} {x y : Ex} {a b : Int} (h : evE W x e S = .ok (.int a) S1) (h2 : evE W y e S1 = .ok (.int b) S2) (k : small62 a = true) (k2 : small62 b = true) : evI W (.rng2 x y) e S = .ok (itInts a (b - a).toNat, none) S2 := by
  show (evE W x e S).bind _ = _
  rw [h]
  show (evE W y e S1).bind _ = _
  rw [h2]
  show (if small62 a && small62 b then _ else _) = _
  rw [k, k2]; rfl
theorem e_tupF {W : Wd} {e : PyI.Env} {S S1 : Store} {a : Ex} {d : D} {ds : List D} (h : evE W a e S = .ok d S1) (k : lstOf S1 d = some ds) : evE W (.tupF a) e S = .ok (.ftup ds) S1 := by
  show (evE W a e S).bind _ = _
  rw [h]
  show optR ((lstOf S1 d).map fun ds => D.ftup ds) S1 = _
  rw [k]; rfl
theorem e_unf {W : Wd} {e : PyI.Env} {S S1 : Store} {a : Ex} {ds : List D} (h : evE W a e S = .ok (.ftup ds) S1) : evE W (.unf a) e S = .ok (.tup ds) S1 := by
  show (evE W a e S).bind _ = _
  rw [h]; rfl
theorem e_revT {W : Wd} {e : PyI.Env} {S S1 : Store} {a : Ex} {ds : List D} (h : evE W a e S = .ok (.tup ds) S1) : evE W (.revT a) e S = .ok (.tup ds.reverse) S1 := by
  show (evE W a e S).bind _ = _
  rw [h]; rfl
theorem e_idxT {W : Wd} {e : PyI.Env} {S S1 S2 : Store} {a x : Ex} {ds : List D} {d d2 : D} (h : evE W a e S = .ok (.ftup ds) S1) (k : evE W x e S1 = .ok d S2) (l : idxL ds d = some d2) : evE W (.idxT a x) e S = .ok d2 S2 := by
  show (evE W a e S).bind _ = _
  rw [h]
  show (evE W x e S1).bind (fun d S => optR (idxL ds d) S) = _
  rw [k]
  show optR (idxL ds d) S2 = _
  rw [l]; rfl
theorem atI_last {ds : List D} {x : D} : atI (ds ++ [x]) (-1) = some x := by
  unfold atI ixN
  simp
  rw [if_pos (by omega)]
  have : (-1 + ((ds.length : Int) + 1)).toNat = ds.length := by omega
  rw [this]
  simp
theorem cut_take {α : Type} {xs : List α} {n : Nat} (h : n ≤ xs.length) : cut xs none (some (n : Int)) = xs.take n := by
  unfold cut
  rw [HT.sIx_nat, HT.sIx_none]
  simp
end PyI

set_option maxRecDepth 100000
set_option maxHeartbeats 0
namespace K10
open PySem PySem.Spec PyProof.Rows L2 PyI
abbrev top (i : Nat) : Stmt := PySem.Challenge.pw_slipschool_k10_names_of_changes_and_part.main.body.getD i (.Pass ⟨0, 0, 0, 0⟩)
abbrev cm (i j : Nat) : Stmt := (clsB (top i)).getD j (.Pass ⟨0, 0, 0, 0⟩)
def e__wall : Sms := (.cons (.whl (.tst (.cst (.bl true))) (.cons .pas .nil)) .nil)
def r__wall : FnRow := ⟨"_wall", "_wall", "_wall", ("_wall", none), ["k"], ["k"], defArgs (top 0), defBody (top 0), defScope (top 0), e__wall⟩
/- slots of _wall: 0 k -/
def e_place_of : Sms := (.cons (.ifs (.cmp .eq (.ix (.var 0) (.cst (.int 0))) (.cst (.str "add"))) (.cons (.ret (.cst .non)) .nil) .nil) (.cons (.ret (.tup (.cons (.ife (.cmp .eq (.ix (.var 0) (.cst (.int 0))) (.cst (.str "end"))) (.cst (.str "end")) (.cst (.str "rule"))) (.cons (.ix (.var 0) (.cst (.int 1))) .nil)))) .nil))
def r_place_of : FnRow := ⟨"place_of", "place_of", "place_of", ("place_of", none), ["what"], ["what"], defArgs (top 6), defBody (top 6), defScope (top 6), e_place_of⟩
/- slots of place_of: 0 what -/
def e_do_clash : Sms := (.cons (.ret (.and (.cmp .nisn (.cF "place_of" (.cons (.ix (.var 0) (.cst (.int 1))) .nil)) (.cst .non)) (.cmp .eq (.cF "place_of" (.cons (.ix (.var 0) (.cst (.int 1))) .nil)) (.cF "place_of" (.cons (.ix (.var 1) (.cst (.int 1))) .nil))))) .nil)
def r_do_clash : FnRow := ⟨"do_clash", "do_clash", "do_clash", ("do_clash", none), ["one", "other"], ["one", "other"], defArgs (top 7), defBody (top 7), defScope (top 7), e_do_clash⟩
/- slots of do_clash: 0 one, 1 other -/
def e_lots_of : Sms := (.cons (.par 2 3 (.lst (.cons (.tup .nil) .nil)) (.lst (.cons (.tup .nil) .nil))) (.cons (.for (.nm 4) (.rng (.var 1)) (.cons (.asg (.nm 5) (.mls .nil)) (.cons (.for (.nm 6) (.seq (.var 3)) (.cons (.for (.nm 7) (.rng2 (.ife (.cmp .ne (.var 6) (.tup .nil)) (.bin .add (.ix (.var 6) (.neg (.cst (.int 1)))) (.cst (.int 1))) (.cst (.int 0))) (.cB .len (.cons (.var 0) .nil))) (.cons (.ifs (.nt (.tst (.cB .any (.cons (.comp [8] (.cF "do_clash" (.cons (.ix (.var 0) (.var 7)) (.cons (.ix (.var 0) (.var 8)) .nil))) (.nm 8) (.seq (.var 6)) .yes) .nil)))) (.cons (.exp (.app (.var 5) (.tup (.star (.var 6) (.cons (.var 7) .nil))))) .nil) .nil) .nil)) .nil)) (.cons (.par 2 3 (.bin .add (.var 2) (.var 5)) (.var 5)) .nil)))) (.cons (.ret (.tupF (.var 2))) .nil)))
def r_lots_of : FnRow := ⟨"lots_of", "lots_of", "lots_of", ("lots_of", none), ["changes", "most"], ["changes", "most", "found", "line", "many", "later", "lot", "at", "one"], defArgs (top 8), defBody (top 8), defScope (top 8), e_lots_of⟩
/- slots of lots_of: 0 changes, 1 most, 2 found, 3 line, 4 many, 5 later, 6 lot, 7 at, 8 one -/
def e_names_of : Sms := (.cons (.ret (.tupF (.comp [1, 2] (.var 1) (.tp [1, 2]) (.seq (.ix (.var 0) (.cst (.int 1)))) .yes))) .nil)
def r_names_of : FnRow := ⟨"names_of", "names_of", "names_of", ("names_of", none), ["school"], ["school", "name", "what"], defArgs (top 9), defBody (top 9), defScope (top 9), e_names_of⟩
/- slots of names_of: 0 school, 1 name, 2 what -/
def e_pupils_of : Sms := (.cons (.ret (.cF "lots_of" (.cons (.ix (.var 0) (.cst (.int 1))) (.cons (.ix (.var 0) (.cst (.int 2))) .nil)))) .nil)
def r_pupils_of : FnRow := ⟨"pupils_of", "pupils_of", "pupils_of", ("pupils_of", none), ["school"], ["school"], defArgs (top 11), defBody (top 11), defScope (top 11), e_pupils_of⟩
/- slots of pupils_of: 0 school -/
def e_is_lot : Sms := (.cons (.ret (.and (.isi (.var 1) [.tuple]) (.and (.nt (.cB .any (.cons (.comp [2] (.isi (.var 2) [.bool]) (.nm 2) (.seq (.var 1)) .yes) .nil))) (.cmp .inn (.var 1) (.unf (.cF "pupils_of" (.cons (.var 0) .nil))))))) .nil)
def r_is_lot : FnRow := ⟨"is_lot", "is_lot", "is_lot", ("is_lot", none), ["school", "thing"], ["school", "thing", "one"], defArgs (top 12), defBody (top 12), defScope (top 12), e_is_lot⟩
/- slots of is_lot: 0 school, 1 thing, 2 one -/
def e_names_in : Sms := (.cons (.ret (.cB .tuple (.cons (.comp [2] (.ix (.unf (.cF "names_of" (.cons (.var 0) .nil))) (.var 2)) (.nm 2) (.seq (.var 1)) .yes) .nil))) .nil)
def r_names_in : FnRow := ⟨"names_in", "names_in", "names_in", ("names_in", none), ["school", "lot"], ["school", "lot", "at"], defArgs (top 13), defBody (top 13), defScope (top 13), e_names_in⟩
/- slots of names_in: 0 school, 1 lot, 2 at -/
def e_lot_named : Sms := (.cons (.asg (.nm 2) (.cF "names_of" (.cons (.var 0) .nil))) (.cons (.for (.nm 3) (.seq (.var 1)) (.cons (.ifs (.or (.nt (.tst (.isi (.var 3) [.str]))) (.cmp .nin (.var 3) (.unf (.var 2)))) (.cons (.rai "NoName" (.cons (.var 3) .nil)) .nil) .nil) .nil)) (.cons (.asg (.nm 4) (.cB .tuple (.cons (.sdc [3] (.idxT (.var 2) (.var 3)) (.nm 3) (.seq (.var 1))) .nil))) (.cons (.ifs (.nt (.tst (.cF "is_lot" (.cons (.var 0) (.cons (.var 4) .nil))))) (.cons (.rai "Refused" (.cons (.cst (.str "lot")) .nil)) .nil) .nil) (.cons (.ret (.var 4)) .nil)))))
def r_lot_named : FnRow := ⟨"lot_named", "lot_named", "lot_named", ("lot_named", none), ["school", "names"], ["school", "names", "every", "name", "found"], defArgs (top 14), defBody (top 14), defScope (top 14), e_lot_named⟩
/- slots of lot_named: 0 school, 1 names, 2 every, 3 name, 4 found -/
def e_without : Sms := (.cons (.ret (.cB .tuple (.cons (.comp [2] (.var 2) (.nm 2) (.seq (.var 0)) (.cmp .nin (.var 2) (.var 1))) .nil))) .nil)
def r_without : FnRow := ⟨"without", "without", "without", ("without", none), ["lot", "some"], ["lot", "some", "at"], defArgs (top 15), defBody (top 15), defScope (top 15), e_without⟩
/- slots of without: 0 lot, 1 some, 2 at -/
def e_parts_of : Sms := (.cons (.asg (.nm 1) (.lst (.cons (.tup .nil) .nil))) (.cons (.for (.nm 2) (.seq (.var 0)) (.cons (.asg (.nm 1) (.bin .add (.var 1) (.comp [3] (.tup (.star (.var 3) (.cons (.var 2) .nil))) (.nm 3) (.seq (.var 1)) .yes))) .nil)) (.cons (.ret (.cB .tuple (.cons (.srt (.var 1)) .nil))) .nil)))
def r_parts_of : FnRow := ⟨"parts_of", "parts_of", "parts_of", ("parts_of", none), ["lot"], ["lot", "found", "at", "some"], defArgs (top 16), defBody (top 16), defScope (top 16), e_parts_of⟩
/- slots of parts_of: 0 lot, 1 found, 2 at, 3 some -/
def e__law_bag : Sms := (.cons (.ret (.mls (.cons (.cst (.int 0)) (.cons (.cst (.int 1234567891)) (.cons (.cst (.int 0)) (.cons (.comp [1] (.cB .abs (.cons (.var 1) .nil)) (.nm 1) (.seq (.sl (.var 0) .no (.so (.cst (.int 63))))) .yes) .nil)))))) .nil)
def r__law_bag : FnRow := ⟨"_law_bag", "_law_bag", "_law_bag", ("_law_bag", none), ["script"], ["script", "cell"], defArgs (top 18), defBody (top 18), defScope (top 18), e__law_bag⟩
/- slots of _law_bag: 0 script, 1 cell -/
def e__law_take : Sms := (.cons (.ifs (.cmp .eq (.ix (.var 0) (.cst (.int 0))) (.cst (.int 0))) (.cons (.asg (.nm 2) (.ix (.bin .add (.sl (.ix (.var 0) (.cst (.int 3))) (.so (.ix (.var 0) (.cst (.int 2)))) .no) (.lst (.cons (.cst (.int 0)) .nil))) (.cst (.int 0)))) (.cons (.augs (.var 0) (.cst (.int 2)) .add (.cst (.int 1))) (.cons (.ifs (.cmp .ge (.var 2) (.bin .pow (.cst (.int 10)) (.cst (.int 18)))) (.cons (.sto (.var 0) (.cst (.int 0)) (.var 2)) .nil) .nil) (.cons (.asg (.nm 3) (.bin .add (.bin .add (.bin .mul (.ix (.var 0) (.cst (.int 1))) (.cst (.int 48271))) (.bin .mod (.cB .int (.cons (.var 2) .nil)) (.cst (.int 2147483647)))) (.bin .mul (.cst (.int 7919)) (.ix (.var 0) (.cst (.int 2)))))) (.cons (.sto (.var 0) (.cst (.int 1)) (.bin .mod (.cB .int (.cons (.var 3) .nil)) (.cst (.int 2147483647)))) .nil))))) .nil) (.cons (.ifs (.cmp .gt (.ix (.var 0) (.cst (.int 0))) (.cst (.int 0))) (.cons (.asg (.nm 4) (.bin .mod (.cB .int (.cons (.ix (.var 0) (.cst (.int 0))) .nil)) (.var 1))) (.cons (.sto (.var 0) (.cst (.int 0)) (.bin .fdiv (.cB .int (.cons (.ix (.var 0) (.cst (.int 0))) .nil)) (.var 1))) (.cons (.ret (.var 4)) .nil))) .nil) (.cons (.asg (.nm 5) (.bin .mod (.cB .int (.cons (.bin .mul (.bin .add (.ix (.var 0) (.cst (.int 1))) (.cst (.int 1))) (.cst (.int 39373))) .nil)) (.cst (.int 1000000007)))) (.cons (.asg (.nm 6) (.bin .mod (.cB .int (.cons (.bin .mul (.bin .mod (.cB .int (.cons (.bin .mul (.var 5) (.var 5)) .nil)) (.cst (.int 998244353))) (.cst (.int 30011))) .nil)) (.cst (.int 998244353)))) (.cons (.ret (.bin .mod (.cB .int (.cons (.bin .fdiv (.var 6) (.cst (.int 7))) .nil)) (.var 1))) .nil)))))
def r__law_take : FnRow := ⟨"_law_take", "_law_take", "_law_take", ("_law_take", none), ["bag", "many"], ["bag", "many", "cell", "stirred", "value", "begin", "second"], defArgs (top 19), defBody (top 19), defScope (top 19), e__law_take⟩
/- slots of _law_take: 0 bag, 1 many, 2 cell, 3 stirred, 4 value, 5 begin, 6 second -/
def e__law_some : Sms := (.cons (.ret (.ix (.var 1) (.cF "_law_take" (.cons (.var 0) (.cons (.cB .len (.cons (.var 1) .nil)) .nil))))) .nil)
def r__law_some : FnRow := ⟨"_law_some", "_law_some", "_law_some", ("_law_some", none), ["bag", "things"], ["bag", "things"], defArgs (top 20), defBody (top 20), defScope (top 20), e__law_some⟩
/- slots of _law_some: 0 bag, 1 things -/
def e__law_mixed : Sms := (.cons (.par 2 3 (.mkl (.cons (.var 1) .nil)) (.mls .nil)) (.cons (.whl (.cmp .ne (.var 2) (.lst .nil)) (.cons (.exp (.app (.var 3) (.popi (.var 2) (.cF "_law_take" (.cons (.var 0) (.cons (.cB .len (.cons (.var 2) .nil)) .nil)))))) .nil)) (.cons (.ret (.fz (.var 3))) .nil)))
def r__law_mixed : FnRow := ⟨"_law_mixed", "_law_mixed", "_law_mixed", ("_law_mixed", none), ["bag", "things"], ["bag", "things", "left", "found"], defArgs (top 21), defBody (top 21), defScope (top 21), e__law_mixed⟩
/- slots of _law_mixed: 0 bag, 1 things, 2 left, 3 found -/
def e__law_alike : Sms := (.cons (.par 2 3 (.mls (.cons (.tup (.cons (.var 0) (.cons (.var 1) .nil))) .nil)) (.cst (.int 0))) (.cons (.whl (.cmp .lt (.var 3) (.cB .len (.cons (.var 2) .nil))) (.cons (.asg (.tp [4, 5]) (.ix (.var 2) (.var 3))) (.cons (.aug 3 .add (.cst (.int 1))) (.cons (.ifs (.or (.cmp .ne (.isi (.var 4) [.bool]) (.isi (.var 5) [.bool])) (.cmp .ne (.isi (.var 4) [.str]) (.isi (.var 5) [.str]))) (.cons (.ret (.cst (.bl false))) .nil) .nil) (.cons (.ifs (.cmp .ne (.isi (.var 4) [.tuple, .list]) (.isi (.var 5) [.tuple, .list])) (.cons (.ret (.cst (.bl false))) .nil) .nil) (.cons (.ifs (.tst (.isi (.var 4) [.tuple, .list])) (.cons (.ifs (.or (.cmp .ne (.isi (.var 4) [.tuple]) (.isi (.var 5) [.tuple])) (.cmp .ne (.cB .len (.cons (.var 4) .nil)) (.cB .len (.cons (.var 5) .nil)))) (.cons (.ret (.cst (.bl false))) .nil) .nil) (.cons (.exp (.ext (.var 2) (.zipl (.cons (.var 4) (.cons (.var 5) .nil))))) .nil)) (.cons (.ifs (.cmp .ne (.var 4) (.var 5)) (.cons (.ret (.cst (.bl false))) .nil) .nil) .nil)) .nil)))))) (.cons (.ret (.cst (.bl true))) .nil)))
def r__law_alike : FnRow := ⟨"_law_alike", "_law_alike", "_law_alike", ("_law_alike", none), ["found", "due"], ["found", "due", "pairs", "at", "one", "other"], defArgs (top 22), defBody (top 22), defScope (top 22), e__law_alike⟩
/- slots of _law_alike: 0 found, 1 due, 2 pairs, 3 at, 4 one, 5 other -/
def e__law_sum : Sms := (.cons (.asg (.nm 2) (.cB .tuple (.cons (.comp [3] (.cF "_law_some" (.cons (.var 0) (.cons (.lst (.cons (.cst (.int 0)) (.cons (.cst (.int 1)) (.cons (.cst (.int 1)) (.cons (.neg (.cst (.int 1))) (.cons (.cst (.int 2)) .nil)))))) .nil))) (.nm 3) (.rng (.var 1)) .yes) .nil))) (.cons (.ret (.tup (.cons (.cF "_law_some" (.cons (.var 0) (.cons (.lst (.cons (.cst (.int 0)) (.cons (.cst (.int 0)) (.cons (.cst (.int 1)) (.cons (.neg (.cst (.int 1))) (.cons (.cst (.int 3)) .nil)))))) .nil))) (.cons (.cF "_law_some" (.cons (.var 0) (.cons (.lst (.cons (.cst (.int 0)) (.cons (.cst (.int 1)) (.cons (.neg (.cst (.int 1))) .nil)))) .nil))) (.cons (.var 2) .nil))))) .nil))
def r__law_sum : FnRow := ⟨"_law_sum", "_law_sum", "_law_sum", ("_law_sum", none), ["bag", "rows"], ["bag", "rows", "factors", "row"], defArgs (top 23), defBody (top 23), defScope (top 23), e__law_sum⟩
/- slots of _law_sum: 0 bag, 1 rows, 2 factors, 3 row -/
def e__law_test : Sms := (.cons (.asg (.nm 3) (.cF "_law_take" (.cons (.var 0) (.cons (.cst (.int 8)) .nil)))) (.cons (.ifs (.and (.cmp .gt (.var 2) (.cst (.int 0))) (.cmp .gt (.var 3) (.cst (.int 5)))) (.cons (.ifs (.cmp .eq (.var 3) (.cst (.int 6))) (.cons (.ret (.tup (.cons (.cst (.str "not")) (.cons (.cF "_law_test" (.cons (.var 0) (.cons (.var 1) (.cons (.bin .sub (.var 2) (.cst (.int 1))) .nil)))) .nil)))) .nil) .nil) (.cons (.ret (.tup (.cons (.cF "_law_some" (.cons (.var 0) (.cons (.lst (.cons (.cst (.str "all")) (.cons (.cst (.str "any")) .nil))) .nil))) (.cons (.cB .tuple (.cons (.comp [4] (.cF "_law_test" (.cons (.var 0) (.cons (.var 1) (.cons (.bin .sub (.var 2) (.cst (.int 1))) .nil)))) (.nm 4) (.rng (.cF "_law_take" (.cons (.var 0) (.cons (.cst (.int 3)) .nil)))) .yes) .nil)) .nil)))) .nil)) .nil) (.cons (.ret (.ife (.cmp .lt (.var 3) (.cst (.int 2))) (.tup (.cons (.cst (.str "always")) .nil)) (.tup (.cons (.ix (.lst (.cons (.cst (.str "below")) (.cons (.cst (.str "zero")) .nil))) (.bin .mod (.var 3) (.cst (.int 2)))) (.cons (.cF "_law_sum" (.cons (.var 0) (.cons (.var 1) .nil))) .nil))))) .nil)))
def r__law_test : FnRow := ⟨"_law_test", "_law_test", "_law_test", ("_law_test", none), ["bag", "rows", "depth"], ["bag", "rows", "depth", "way", "part"], defArgs (top 24), defBody (top 24), defScope (top 24), e__law_test⟩
/- slots of _law_test: 0 bag, 1 rows, 2 depth, 3 way, 4 part -/
def e__law_rule : Sms := (.cons (.asg (.nm 3) (.ife (.cmp .eq (.cF "_law_take" (.cons (.var 0) (.cons (.cst (.int 2)) .nil))) (.cst (.int 0))) (.tup (.cons (.cst (.str "mark")) (.cons (.cF "_law_take" (.cons (.var 0) (.cons (.var 2) .nil))) .nil))) (.tup (.cons (.cst (.str "over")) (.cons (.cF "_law_sum" (.cons (.var 0) (.cons (.var 1) .nil))) .nil))))) (.cons (.ret (.tup (.cons (.cF "_law_test" (.cons (.var 0) (.cons (.var 1) (.cons (.cst (.int 2)) .nil)))) (.cons (.cF "_law_sum" (.cons (.var 0) (.cons (.var 1) .nil))) (.cons (.var 3) .nil))))) .nil))
def r__law_rule : FnRow := ⟨"_law_rule", "_law_rule", "_law_rule", ("_law_rule", none), ["bag", "rows", "marks"], ["bag", "rows", "marks", "later"], defArgs (top 25), defBody (top 25), defScope (top 25), e__law_rule⟩
/- slots of _law_rule: 0 bag, 1 rows, 2 marks, 3 later -/
def e__law_known : Sms := (.cons (.asg (.nm 2) (.cF "_law_take" (.cons (.var 0) (.cons (.cst (.int 4)) .nil)))) (.cons (.ifs (.cmp .lt (.var 2) (.cst (.int 2))) (.cons (.asg (.nm 3) (.tup (.cons (.cst (.int 0)) (.cons (.cst (.int 1)) (.cons (.tup (.cons (.cst (.int 1)) (.cons (.cst (.int 1)) .nil))) .nil))))) (.cons (.ret (.tup (.cons (.var 1) (.cons (.cst (.int 2)) (.cons (.cst (.int 2)) (.cons (.tup (.cons (.tup (.cons (.tup (.cons (.cst (.str "always")) .nil)) (.cons (.var 3) (.cons (.tup (.cons (.cst (.str "over")) (.cons (.var 3) .nil))) .nil)))) .nil)) (.cons (.tup (.cons (.tup .nil) (.cons (.tup (.cons (.cst (.int 1)) .nil)) .nil))) .nil))))))) .nil)) .nil) (.cons (.ifs (.cmp .eq (.var 2) (.cst (.int 2))) (.cons (.par 4 5 (.tup (.cons (.cst (.int 0)) (.cons (.neg (.cst (.int 1))) (.cons (.tup (.cons (.cst (.int 1)) (.cons (.neg (.cst (.int 1))) .nil))) .nil)))) (.tup (.cons (.var 1) (.cons (.neg (.cst (.int 1))) (.cons (.tup (.cons (.cst (.int 1)) (.cons (.neg (.cst (.int 1))) .nil))) .nil))))) (.cons (.ret (.tup (.cons (.var 1) (.cons (.cst (.int 2)) (.cons (.cst (.int 2)) (.cons (.tup (.cons (.tup (.cons (.tup (.cons (.cst (.str "below")) (.cons (.var 4) .nil))) (.cons (.var 5) (.cons (.tup (.cons (.cst (.str "mark")) (.cons (.cst (.int 1)) .nil))) .nil)))) (.cons (.tup (.cons (.tup (.cons (.cst (.str "always")) .nil)) (.cons (.var 4) (.cons (.tup (.cons (.cst (.str "mark")) (.cons (.cst (.int 0)) .nil))) .nil)))) .nil))) (.cons (.tup (.cons (.tup .nil) (.cons (.tup .nil) .nil))) .nil))))))) .nil)) .nil) (.cons (.asg (.nm 6) (.tup (.cons (.cst (.int 0)) (.cons (.cst (.int 1)) (.cons (.tup (.cons (.cst (.int 2)) .nil)) .nil))))) (.cons (.ret (.tup (.cons (.var 1) (.cons (.cst (.int 1)) (.cons (.cst (.int 2)) (.cons (.tup (.cons (.tup (.cons (.tup (.cons (.cst (.str "always")) .nil)) (.cons (.var 6) (.cons (.tup (.cons (.cst (.str "over")) (.cons (.var 6) .nil))) .nil)))) .nil)) (.cons (.tup (.cons (.tup .nil) (.cons (.tup (.cons (.cst (.int 1)) .nil)) .nil))) .nil))))))) .nil)))))
def r__law_known : FnRow := ⟨"_law_known", "_law_known", "_law_known", ("_law_known", none), ["bag", "base"], ["bag", "base", "way", "both", "less", "more", "twice"], defArgs (top 26), defBody (top 26), defScope (top 26), e__law_known⟩
/- slots of _law_known: 0 bag, 1 base, 2 way, 3 both, 4 less, 5 more, 6 twice -/
def e__law_procedure : Sms := (.cons (.asg (.nm 1) (.cF "_law_some" (.cons (.var 0) (.cons (.lst (.cons (.cst (.int 2)) (.cons (.cst (.int 2)) (.cons (.cst (.int 3)) (.cons (.cst (.int 4)) .nil))))) .nil)))) (.cons (.ifs (.cmp .gt (.cF "_law_take" (.cons (.var 0) (.cons (.cst (.int 3)) .nil))) (.cst (.int 0))) (.cons (.ret (.cF "_law_known" (.cons (.var 0) (.cons (.var 1) .nil)))) .nil) .nil) (.cons (.asg (.tp [2, 3]) (.tup (.cons (.bin .add (.cst (.int 1)) (.cF "_law_take" (.cons (.var 0) (.cons (.cst (.int 2)) .nil)))) (.cons (.bin .add (.cst (.int 1)) (.cF "_law_take" (.cons (.var 0) (.cons (.cst (.int 3)) .nil)))) .nil)))) (.cons (.asg (.nm 4) (.cB .tuple (.cons (.comp [6] (.cF "_law_rule" (.cons (.var 0) (.cons (.var 2) (.cons (.var 3) .nil)))) (.nm 6) (.rng (.bin .add (.cst (.int 1)) (.cF "_law_take" (.cons (.var 0) (.cons (.cst (.int 3)) .nil))))) .yes) .nil))) (.cons (.ret (.tup (.cons (.var 1) (.cons (.var 2) (.cons (.var 3) (.cons (.var 4) (.cons (.cB .tuple (.cons (.comp [5] (.cF "_law_figures" (.cons (.var 0) (.cons (.var 1) .nil))) (.nm 5) (.rng (.var 3)) .yes) .nil)) .nil))))))) .nil)))))
def r__law_procedure : FnRow := ⟨"_law_procedure", "_law_procedure", "_law_procedure", ("_law_procedure", none), ["bag"], ["bag", "base", "rows", "marks", "rules", "mark", "rule"], defArgs (top 27), defBody (top 27), defScope (top 27), e__law_procedure⟩
/- slots of _law_procedure: 0 bag, 1 base, 2 rows, 3 marks, 4 rules, 5 mark, 6 rule -/
def e__law_figures : Sms := (.cons (.ret (.cB .tuple (.cons (.comp [2] (.cF "_law_take" (.cons (.var 0) (.cons (.var 1) .nil))) (.nm 2) (.rng (.cF "_law_some" (.cons (.var 0) (.cons (.lst (.cons (.cst (.int 0)) (.cons (.cst (.int 0)) (.cons (.cst (.int 1)) (.cons (.cst (.int 2)) .nil))))) .nil)))) .yes) .nil))) .nil)
def r__law_figures : FnRow := ⟨"_law_figures", "_law_figures", "_law_figures", ("_law_figures", none), ["bag", "base"], ["bag", "base", "figure"], defArgs (top 28), defBody (top 28), defScope (top 28), e__law_figures⟩
/- slots of _law_figures: 0 bag, 1 base, 2 figure -/
def e__law_what : Sms := (.cons (.asg (.tp [2, 3, 4, 5, 6]) (.var 1)) (.cons (.asg (.nm 7) (.cF "_law_take" (.cons (.var 0) (.cons (.cst (.int 5)) .nil)))) (.cons (.ifs (.and (.cmp .eq (.var 7) (.cst (.int 0))) (.cmp .ne (.var 5) (.tup .nil))) (.cons (.ret (.tup (.cons (.cst (.str "drop")) (.cons (.cF "_law_take" (.cons (.var 0) (.cons (.cB .len (.cons (.var 5) .nil)) .nil))) .nil)))) .nil) .nil) (.cons (.ifs (.cmp .eq (.var 7) (.cst (.int 1))) (.cons (.ret (.tup (.cons (.cst (.str "end")) (.cons (.cF "_law_take" (.cons (.var 0) (.cons (.var 4) .nil))) (.cons (.cF "_law_figures" (.cons (.var 0) (.cons (.var 2) .nil))) .nil))))) .nil) .nil) (.cons (.ifs (.and (.cmp .lt (.var 7) (.cst (.int 4))) (.cmp .ne (.var 5) (.tup .nil))) (.cons (.asg (.nm 8) (.cF "_law_take" (.cons (.var 0) (.cons (.cB .len (.cons (.var 5) .nil)) .nil)))) (.cons (.ifs (.cmp .eq (.cF "_law_take" (.cons (.var 0) (.cons (.cst (.int 2)) .nil))) (.cst (.int 0))) (.cons (.ret (.tup (.cons (.cst (.str "turn")) (.cons (.var 8) (.cons (.bin .add (.sl (.ix (.var 5) (.var 8)) .no (.so (.cst (.int 2)))) (.tup (.cons (.tup (.cons (.cst (.str "mark")) (.cons (.cF "_law_take" (.cons (.var 0) (.cons (.var 4) .nil))) .nil))) .nil))) .nil))))) .nil) .nil) (.cons (.ret (.tup (.cons (.cst (.str "turn")) (.cons (.var 8) (.cons (.cF "_law_rule" (.cons (.var 0) (.cons (.var 3) (.cons (.var 4) .nil)))) .nil))))) .nil))) .nil) (.cons (.ret (.tup (.cons (.cst (.str "add")) (.cons (.cF "_law_take" (.cons (.var 0) (.cons (.bin .add (.cB .len (.cons (.var 5) .nil)) (.cst (.int 1))) .nil))) (.cons (.cF "_law_rule" (.cons (.var 0) (.cons (.var 3) (.cons (.var 4) .nil)))) .nil))))) .nil))))))
def r__law_what : FnRow := ⟨"_law_what", "_law_what", "_law_what", ("_law_what", none), ["bag", "procedure"], ["bag", "procedure", "base", "rows", "marks", "rules", "ends", "way", "at"], defArgs (top 29), defBody (top 29), defScope (top 29), e__law_what⟩
/- slots of _law_what: 0 bag, 1 procedure, 2 base, 3 rows, 4 marks, 5 rules, 6 ends, 7 way, 8 at -/
def e__law_clash : Sms := (.cons (.par 2 3 (.ix (.var 0) (.cst (.int 1))) (.ix (.var 1) (.cst (.int 1)))) (.cons (.ifs (.or (.cmp .eq (.ix (.var 2) (.cst (.int 0))) (.cst (.str "add"))) (.cmp .eq (.ix (.var 3) (.cst (.int 0))) (.cst (.str "add")))) (.cons (.ret (.cst (.bl false))) .nil) .nil) (.cons (.ret (.and (.cmp .eq (.cmp .eq (.ix (.var 2) (.cst (.int 0))) (.cst (.str "end"))) (.cmp .eq (.ix (.var 3) (.cst (.int 0))) (.cst (.str "end")))) (.cmp .eq (.ix (.var 2) (.cst (.int 1))) (.ix (.var 3) (.cst (.int 1)))))) .nil)))
def r__law_clash : FnRow := ⟨"_law_clash", "_law_clash", "_law_clash", ("_law_clash", none), ["one", "other"], ["one", "other", "mine", "its"], defArgs (top 30), defBody (top 30), defScope (top 30), e__law_clash⟩
/- slots of _law_clash: 0 one, 1 other, 2 mine, 3 its -/
def e__law_lots : Sms := (.cons (.asg (.nm 2) (.mls (.cons (.tup .nil) .nil))) (.cons (.for (.nm 3) (.rng (.cB .len (.cons (.var 0) .nil))) (.cons (.for (.nm 4) (.seq (.comp [5] (.var 5) (.nm 5) (.seq (.var 2)) .yes)) (.cons (.ifs (.and (.cmp .lt (.cB .len (.cons (.var 4) .nil)) (.var 1)) (.cmp .eq (.comp [5] (.cst (.int 1)) (.nm 5) (.seq (.var 4)) (.tst (.cF "_law_clash" (.cons (.ix (.var 0) (.var 5)) (.cons (.ix (.var 0) (.var 3)) .nil))))) (.lst .nil))) (.cons (.exp (.app (.var 2) (.bin .add (.var 4) (.tup (.cons (.var 3) .nil))))) .nil) .nil) .nil)) .nil)) (.cons (.ret (.srt (.var 2))) .nil)))
def r__law_lots : FnRow := ⟨"_law_lots", "_law_lots", "_law_lots", ("_law_lots", none), ["changes", "most"], ["changes", "most", "found", "at", "lot", "one"], defArgs (top 31), defBody (top 31), defScope (top 31), e__law_lots⟩
/- slots of _law_lots: 0 changes, 1 most, 2 found, 3 at, 4 lot, 5 one -/
def e__law_school : Sms := (.cons (.par 2 3 (.cF "_law_procedure" (.cons (.var 0) .nil)) (.mls .nil)) (.cons (.for (.nm 4) (.seq (.sl (.lst (.cons (.cst (.str "ga")) (.cons (.cst (.str "gb")) (.cons (.cst (.str "gc")) (.cons (.cst (.str "gd")) (.cons (.cst (.str "ge")) .nil)))))) .no (.so (.bin .add (.cst (.int 1)) (.cF "_law_take" (.cons (.var 0) (.cons (.var 1) .nil))))))) (.cons (.exp (.app (.var 3) (.tup (.cons (.var 4) (.cons (.cF "_law_what" (.cons (.var 0) (.cons (.var 2) .nil))) .nil))))) .nil)) (.cons (.asg (.nm 5) (.bin .add (.cst (.int 1)) (.cF "_law_take" (.cons (.var 0) (.cons (.cst (.int 2)) .nil))))) (.cons (.ret (.tup (.cons (.var 2) (.cons (.cB .tuple (.cons (.var 3) .nil)) (.cons (.ife (.cmp .le (.cB .len (.cons (.cF "_law_lots" (.cons (.var 3) (.cons (.var 5) .nil))) .nil)) (.cst (.int 12))) (.var 5) (.cst (.int 1))) .nil))))) .nil))))
def r__law_school : FnRow := ⟨"_law_school", "_law_school", "_law_school", ("_law_school", none), ["bag", "most_changes"], ["bag", "most_changes", "procedure", "changes", "name", "most"], defArgs (top 32), defBody (top 32), defScope (top 32), e__law_school⟩
/- slots of _law_school: 0 bag, 1 most_changes, 2 procedure, 3 changes, 4 name, 5 most -/
def e__law_asked : Sms := (.cons (.ask0 "told" [("NoName", "no", "name"), ("Refused", "refused", "why")]) .nil)
def r__law_asked : FnRow := ⟨"_law_asked", "_law_asked", "_law_asked", ("_law_asked", none), ["deed"], ["deed", "e"], defArgs (top 33), defBody (top 33), defScope (top 33), e__law_asked⟩
/- slots of _law_asked: 0 deed, 1 e -/
def e__law_parts : Sms := (.cons (.asg (.nm 1) (.lst (.cons (.tup .nil) .nil))) (.cons (.for (.nm 2) (.seq (.var 0)) (.cons (.asg (.nm 1) (.bin .add (.var 1) (.comp [3] (.bin .add (.var 3) (.tup (.cons (.var 2) .nil))) (.nm 3) (.seq (.var 1)) .yes))) .nil)) (.cons (.ret (.srt (.var 1))) .nil)))
def r__law_parts : FnRow := ⟨"_law_parts", "_law_parts", "_law_parts", ("_law_parts", none), ["lot"], ["lot", "found", "one", "part"], defArgs (top 34), defBody (top 34), defScope (top 34), e__law_parts⟩
/- slots of _law_parts: 0 lot, 1 found, 2 one, 3 part -/
def e_law : Sms := (.cons (.asg (.nm 1) (.cF "_law_bag" (.cons (.var 0) .nil))) (.cons (.for (.nm 2) (.rng (.cst (.int 8))) (.cons (.asg (.nm 3) (.cF "_law_school" (.cons (.var 1) (.cons (.cst (.int 5)) .nil)))) (.cons (.asg (.tp [4, 5]) (.tup (.cons (.cF "_law_lots" (.cons (.ix (.var 3) (.cst (.int 1))) (.cons (.ix (.var 3) (.cst (.int 2))) .nil))) (.cons (.comp [12, 15] (.var 12) (.tp [12, 15]) (.seq (.ix (.var 3) (.cst (.int 1)))) .yes) .nil)))) (.cons (.for (.nm 6) (.seq (.var 4)) (.cons (.asg (.nm 7) (.comp [14] (.ix (.var 5) (.var 14)) (.nm 14) (.seq (.var 6)) .yes)) (.cons (.ifs (.nt (.tst (.cF "_law_alike" (.cons (.lst (.cons (.cF "names_in" (.cons (.var 3) (.cons (.var 6) .nil))) (.cons (.cF "lot_named" (.cons (.var 3) (.cons (.cF "_law_mixed" (.cons (.var 1) (.cons (.var 7) .nil))) .nil))) .nil))) (.cons (.lst (.cons (.cB .tuple (.cons (.var 7) .nil)) (.cons (.var 6) .nil))) .nil))))) (.cons (.ret (.cst (.bl false))) .nil) .nil) (.cons (.asg (.nm 8) (.cB .tuple (.cons (.comp [14] (.var 14) (.nm 14) (.rng (.cB .len (.cons (.var 5) .nil))) (.cmp .eq (.cF "_law_take" (.cons (.var 1) (.cons (.cst (.int 3)) .nil))) (.cst (.int 0)))) .nil))) (.cons (.asg (.nm 9) (.cB .tuple (.cons (.comp [14] (.var 14) (.nm 14) (.seq (.var 6)) (.cmp .nin (.var 14) (.var 8))) .nil))) (.cons (.ifs (.nt (.tst (.cF "_law_alike" (.cons (.lst (.cons (.cF "without" (.cons (.var 6) (.cons (.var 8) .nil))) (.cons (.cF "parts_of" (.cons (.var 6) .nil)) (.cons (.cF "is_lot" (.cons (.var 3) (.cons (.var 9) .nil))) .nil)))) (.cons (.lst (.cons (.var 9) (.cons (.cB .tuple (.cons (.cF "_law_parts" (.cons (.var 6) .nil)) .nil)) (.cons (.cst (.bl true)) .nil)))) .nil))))) (.cons (.ret (.cst (.bl false))) .nil) .nil) (.cons (.ifs (.cmp .ne (.comp [13] (.cst (.int 1)) (.nm 13) (.seq (.cF "parts_of" (.cons (.var 6) .nil))) (.cmp .nin (.var 13) (.var 4))) (.lst .nil)) (.cons (.ret (.cst (.bl false))) .nil) .nil) .nil))))))) (.cons (.asg (.nm 10) (.comp [12] (.var 12) (.nm 12) (.seq (.var 5)) (.cmp .eq (.cF "_law_take" (.cons (.var 1) (.cons (.cst (.int 2)) .nil))) (.cst (.int 0))))) (.cons (.asg (.nm 6) (.cB .tuple (.cons (.comp [12] (.idx (.var 5) (.var 12)) (.nm 12) (.seq (.var 10)) .yes) .nil))) (.cons (.asg (.nm 9) (.ife (.cmp .inn (.var 6) (.var 4)) (.tup (.cons (.cst (.str "told")) (.cons (.var 6) .nil))) (.tup (.cons (.cst (.str "refused")) (.cons (.cst (.str "lot")) .nil))))) (.cons (.ifs (.nt (.tst (.cF "_law_alike" (.cons (.ask "_law_asked" (.cF "lot_named" (.cons (.var 3) (.cons (.cB .tuple (.cons (.var 10) .nil)) .nil)))) (.cons (.var 9) .nil))))) (.cons (.ret (.cst (.bl false))) .nil) .nil) (.cons (.for (.nm 11) (.seq (.tup (.cons (.cst (.str "zz")) (.cons (.cst .non) (.cons (.cst (.int 0)) (.cons (.tup (.cons (.cst (.str "ga")) .nil)) .nil)))))) (.cons (.ifs (.cmp .ne (.ask "_law_asked" (.cF "lot_named" (.cons (.var 3) (.cons (.bin .add (.var 10) (.lst (.cons (.var 11) .nil))) .nil)))) (.tup (.cons (.cst (.str "no")) (.cons (.var 11) .nil)))) (.cons (.ret (.cst (.bl false))) .nil) .nil) .nil)) .nil))))))))) (.cons (.ret (.cst (.bl true))) .nil)))
def r_law : FnRow := ⟨"law", "law", "law", ("law", none), ["script"], ["script", "bag", "turn", "school", "lots", "names", "lot", "mine", "gone", "due", "some", "odd", "name", "part", "at", "what"], defArgs (top 35), defBody (top 35), defScope (top 35), e_law⟩
/- slots of law: 0 script, 1 bag, 2 turn, 3 school, 4 lots, 5 names, 6 lot, 7 mine, 8 gone, 9 due, 10 some, 11 odd, 12 name, 13 part, 14 at, 15 what -/
def x_NoName : XRow := ⟨"NoName", "name", "", "NoName.__init__", defArgs (cm 3 0), defBody (cm 3 0), defScope (cm 3 0)⟩
def x_Refused : XRow := ⟨"Refused", "why", "", "Refused.__init__", defArgs (cm 4 0), defBody (cm 4 0), defScope (cm 4 0)⟩
def rows_0 : List FnRow := [r__wall, r_place_of, r_do_clash, r_lots_of, r_names_of, r_pupils_of, r_is_lot, r_names_in, r_lot_named, r_without, r_parts_of, r__law_bag, r__law_take, r__law_some, r__law_mixed, r__law_alike, r__law_sum, r__law_test, r__law_rule, r__law_known, r__law_procedure, r__law_figures, r__law_what, r__law_clash, r__law_lots, r__law_school, r__law_asked, r__law_parts, r_law]
def rows : List FnRow := rows_0
def xrows_0 : List XRow := [x_NoName, x_Refused]
def xrows : List XRow := xrows_0
def cons_0 (ad : String → Nat) : List (String × D) := [("NoName", (.clo true (ad "NoName") ["name"] [])), ("Refused", (.clo true (ad "Refused") ["why"] []))]
def cons (ad : String → Nat) : List (String × D) := cons_0 ad
def names_0 : List PySem.Str := [("_wall" : PySem.Str), ("SchoolError" : PySem.Str), ("NoName" : PySem.Str), ("Refused" : PySem.Str), ("place_of" : PySem.Str), ("do_clash" : PySem.Str), ("lots_of" : PySem.Str), ("names_of" : PySem.Str), ("pupils_of" : PySem.Str), ("is_lot" : PySem.Str), ("names_in" : PySem.Str), ("lot_named" : PySem.Str), ("without" : PySem.Str), ("parts_of" : PySem.Str), ("_law_bag" : PySem.Str), ("_law_take" : PySem.Str), ("_law_some" : PySem.Str), ("_law_mixed" : PySem.Str), ("_law_alike" : PySem.Str), ("_law_sum" : PySem.Str), ("_law_test" : PySem.Str), ("_law_rule" : PySem.Str), ("_law_known" : PySem.Str), ("_law_procedure" : PySem.Str), ("_law_figures" : PySem.Str), ("_law_what" : PySem.Str), ("_law_clash" : PySem.Str), ("_law_lots" : PySem.Str), ("_law_school" : PySem.Str), ("_law_asked" : PySem.Str)]
def names_1 : List PySem.Str := [("_law_parts" : PySem.Str)]
def names : List PySem.Str := names_0 ++ names_1
theorem rows_ok : rowsOk rows = true := by decide +kernel
theorem cs_ok (ad : String → Nat) : csOk PySem.Challenge.pw_slipschool_k10_names_of_changes_and_part rows (cons ad) xrows = true := by kernel_rfl
end K10

set_option maxRecDepth 100000
set_option maxHeartbeats 1000000
namespace K10
open PySem L2 PyI
local macro_rules | `(tactic| walk_at "cm") => `(tactic| first
    | assumption
    | rfl
    | (simp only [eq_int, ne_int, lt_int, le_int, gt_int, ge_int, Option.some.injEq, decide_eq_true_eq, decide_eq_false_iff_not, beq_iff_eq, beq_eq_false_iff_ne, ne_eq, Bool.not_eq_true', Bool.not_eq_false']; omega)
    | exact Nat.le_of_ble_eq_true rfl
    | decide
    | omega)
local macro_rules | `(tactic| walk_at "ev") => `(tactic| first
    | with_reducible assumption
    | with_reducible exact e_cst
    | ((with_reducible apply e_var); rfl)
    | with_reducible exact a_nil
    | with_reducible exact o_no
    | with_reducible exact ss_nil
    | ((with_reducible apply a_cons); (· walk_at "ev"); (· walk_at "ev"))
    | ((with_reducible apply e_cF); (· walk_at "ev"); (· assumption))
    | ((with_reducible apply e_tup); (· walk_at "ev"); (· walk_at "cm"))
    | ((with_reducible apply e_lst); (· walk_at "ev"); (· walk_at "cm"))
    | ((with_reducible apply e_bin); (· walk_at "ev"); (· walk_at "ev"); (· walk_at "cm"))
    | ((with_reducible apply e_neg); walk_at "ev")
    | ((with_reducible apply e_cB); (· walk_at "ev"); (· walk_at "cm"))
    | ((with_reducible apply e_ixt); (· walk_at "ev"); (· walk_at "ev"); (· walk_at "cm"))
    | ((with_reducible apply e_ixl); (· walk_at "ev"); (· walk_at "ev"); (· walk_at "cm"))
    | ((with_reducible apply o_so); walk_at "ev")
    | ((with_reducible apply t_cmp); (· walk_at "ev"); (· walk_at "ev"); (· walk_at "cm"))
    | ((with_reducible apply e_cmp); (· walk_at "ev"); (· walk_at "ev"); (· walk_at "cm"))
    | ((with_reducible apply t_andf); walk_at "ev")
    | ((with_reducible apply t_andt); (· walk_at "ev"); (· walk_at "ev"))
    | ((with_reducible apply t_ort); walk_at "ev")
    | ((with_reducible apply t_orf); (· walk_at "ev"); (· walk_at "ev"))
    | ((with_reducible apply t_ntt); walk_at "ev")
    | ((with_reducible apply t_ntf); walk_at "ev")
    | ((with_reducible apply t_bl); walk_at "ev")
    | ((with_reducible apply e_isi); (· walk_at "ev"); (· walk_at "cm"))
    | ((with_reducible apply e_ifet); (· walk_at "ev"); (· walk_at "ev"))
    | ((with_reducible apply e_ifef); (· walk_at "ev"); (· walk_at "ev"))
    | ((with_reducible apply ss_ret); walk_at "ev")
    | ((with_reducible apply ss_asg); (· walk_at "ev"); (· rfl); (· walk_at "ev"))
    | ((with_reducible apply ss_par); (· walk_at "ev"); (· walk_at "ev"); (· walk_at "ev"))
    | ((with_reducible apply ss_iff); (· walk_at "ev"); (· walk_at "ev"))
    | ((with_reducible apply ss_ift); (· walk_at "ev"); (· walk_at "ev"))
    | ((with_reducible apply ss_ifn); (· walk_at "ev"); (· walk_at "ev"); (· walk_at "ev"))
    | ((with_reducible apply ss_exp); (· walk_at "ev"); (· walk_at "ev"))
    | assumption)
theorem T__wall : tabT rows "_wall" = some ⟨1, 1, e__wall⟩ := by kernel_rfl
theorem T_place_of : tabT rows "place_of" = some ⟨1, 1, e_place_of⟩ := by kernel_rfl
theorem T_do_clash : tabT rows "do_clash" = some ⟨2, 2, e_do_clash⟩ := by kernel_rfl
theorem T_lots_of : tabT rows "lots_of" = some ⟨2, 9, e_lots_of⟩ := by kernel_rfl
theorem T_names_of : tabT rows "names_of" = some ⟨1, 3, e_names_of⟩ := by kernel_rfl
theorem T_pupils_of : tabT rows "pupils_of" = some ⟨1, 1, e_pupils_of⟩ := by kernel_rfl
theorem T_is_lot : tabT rows "is_lot" = some ⟨2, 3, e_is_lot⟩ := by kernel_rfl
theorem T_names_in : tabT rows "names_in" = some ⟨2, 3, e_names_in⟩ := by kernel_rfl
theorem T_lot_named : tabT rows "lot_named" = some ⟨2, 5, e_lot_named⟩ := by kernel_rfl
theorem T_without : tabT rows "without" = some ⟨2, 3, e_without⟩ := by kernel_rfl
theorem T_parts_of : tabT rows "parts_of" = some ⟨1, 4, e_parts_of⟩ := by kernel_rfl
theorem T__law_bag : tabT rows "_law_bag" = some ⟨1, 2, e__law_bag⟩ := by kernel_rfl
theorem T__law_take : tabT rows "_law_take" = some ⟨2, 7, e__law_take⟩ := by kernel_rfl
theorem T__law_some : tabT rows "_law_some" = some ⟨2, 2, e__law_some⟩ := by kernel_rfl
theorem T__law_mixed : tabT rows "_law_mixed" = some ⟨2, 4, e__law_mixed⟩ := by kernel_rfl
theorem T__law_alike : tabT rows "_law_alike" = some ⟨2, 6, e__law_alike⟩ := by kernel_rfl
theorem T__law_sum : tabT rows "_law_sum" = some ⟨2, 4, e__law_sum⟩ := by kernel_rfl
theorem T__law_test : tabT rows "_law_test" = some ⟨3, 5, e__law_test⟩ := by kernel_rfl
theorem T__law_rule : tabT rows "_law_rule" = some ⟨3, 4, e__law_rule⟩ := by kernel_rfl
theorem T__law_known : tabT rows "_law_known" = some ⟨2, 7, e__law_known⟩ := by kernel_rfl
theorem T__law_procedure : tabT rows "_law_procedure" = some ⟨1, 7, e__law_procedure⟩ := by kernel_rfl
theorem T__law_figures : tabT rows "_law_figures" = some ⟨2, 3, e__law_figures⟩ := by kernel_rfl
theorem T__law_what : tabT rows "_law_what" = some ⟨2, 9, e__law_what⟩ := by kernel_rfl
theorem T__law_clash : tabT rows "_law_clash" = some ⟨2, 4, e__law_clash⟩ := by kernel_rfl
theorem T__law_lots : tabT rows "_law_lots" = some ⟨2, 6, e__law_lots⟩ := by kernel_rfl
theorem T__law_school : tabT rows "_law_school" = some ⟨2, 6, e__law_school⟩ := by kernel_rfl
theorem T__law_asked : tabT rows "_law_asked" = some ⟨1, 2, e__law_asked⟩ := by kernel_rfl
theorem T__law_parts : tabT rows "_law_parts" = some ⟨1, 4, e__law_parts⟩ := by kernel_rfl
theorem T_law : tabT rows "law" = some ⟨1, 16, e_law⟩ := by kernel_rfl
noncomputable abbrev C (ad : String → Nat) (k : Nat) := callN (tabT rows) (conT (cons ad)) k
noncomputable abbrev Wq (ad : String → Nat) (k : Nat) : Wd := ⟨C ad k, conT (cons ad), none, akT (tabT rows)⟩
/-! ## draws -/
/-- ints within -/
def Ints (P : Int → Prop) (ds : List D) : Prop := ∃ fs : List Int, ds = fs.map .int ∧ ∀ f ∈ fs, P f
theorem ints_of {P : Int → Prop} : ∀ {ds : List D}, (∀ d ∈ ds, ∃ i, d = D.int i ∧ P i) → Ints P ds
  | [], _ => ⟨[], rfl, fun _ h => nomatch h⟩
  | d :: ds, h => by
    obtain ⟨i, rfl, hi⟩ := h d List.mem_cons_self
    obtain ⟨fs, rfl, hf⟩ := ints_of (ds := ds) fun x hx => h x (List.mem_cons_of_mem _ hx)
    exact ⟨i :: fs, rfl, fun f hm => by
      rcases List.mem_cons.mp hm with e | e
      · rw [e]; exact hi
      · exact hf f e⟩
section
variable {ad : String → Nat} {k K : Nat} {J S : Store}
theorem tk {m : Int} (hK : 1 ≤ K) (h0 : 0 < m) (h1 : m < 1073741824) (b : Bag J S) : ∃ (v : Int) (S' : Store), C ad K "_law_take" [.obj 0, .int m] S = .ok (.int v) S' ∧ Bag J S' ∧ 0 ≤ v ∧ v < m := by
  obtain ⟨k, rfl⟩ : ∃ k, K = k + 1 := ⟨K - 1, by omega⟩
  exact take_ok T__law_take h0 h1 b
theorem sm {ds : List D} (hK : 2 ≤ K) (h0 : ds ≠ []) (h1 : ds.length < 1073741824) (b : Bag J S) : ∃ (d : D) (S' : Store), C ad K "_law_some" [.obj 0, .lst ds] S = .ok d S' ∧ Bag J S' ∧ d ∈ ds := by
  obtain ⟨k, rfl⟩ : ∃ k, K = k + 2 := ⟨K - 2, by omega⟩
  exact some_ok T__law_some T__law_take h0 h1 b
/-- rt of a def -/
theorem rt {f : String} {fd : Fn} {ds : List D} {d : D} {S' : Store} (h : tabT rows f = some fd) (hl : ds.length = fd.np) (b : Bag J S) (b' : Bag J S')
    (hb : evSs (Wq ad k) fd.body (ds.map some ++ List.replicate (fd.n - ds.length) none) S = .ok (.rt d) S') : C ad (k + 1) f ds S = .ok d S' := call_rt h hl hb (by rw [b.len, b'.len])
def SumD (d : D) : Prop := ∃ (a b : Int) (fs : List Int), d = .tup [.int a, .int b, .tup (fs.map .int)] ∧ (-10 ≤ b ∧ b ≤ 10) ∧ (∀ f ∈ fs, -10 ≤ f ∧ f ≤ 10) ∧ fs.length ≤ 10
theorem sum_ok {r : Int} (hK : 3 ≤ K) (h0 : 0 ≤ r) (h2 : r ≤ 2) (b : Bag J S) : ∃ d S', C ad K "_law_sum" [.obj 0, .int r] S = .ok d S' ∧ Bag J S' ∧ SumD d := by
  obtain ⟨k, rfl⟩ : ∃ k, K = k + 1 := ⟨K - 1, by omega⟩
  obtain ⟨ds, S1, c1, b1, l1, q1⟩ := comp_inv (W := Wq ad k) (own := [3]) (t := .nm 3) (elt := (.cF "_law_some" (.cons (.var 0) (.cons (.lst (.cons (.cst (.int 0)) (.cons (.cst (.int 1)) (.cons (.cst (.int 1)) (.cons (.neg (.cst (.int 1))) (.cons (.cst (.int 2)) .nil)))))) .nil)))) (it := .rng (.var 1))
    (e := [some (.obj 0), some (.int r), none, none]) (S := S) (S0 := S) (xs := itInts 0 r.toNat) (B := Bag J) (Q := fun d => ∃ i, d = D.int i ∧ -10 ≤ i ∧ i ≤ 10) (i_rng (e_var rfl) (by unfold small62; rw [decide_eq_true (by omega), decide_eq_true (by omega)]; rfl)) b (by unfold itInts; rw [List.length_map, List.length_range]; show _ ≤ 16777216; omega) fun x hx => ⟨_, rfl, fun S hS => by
      obtain ⟨d, S', h1, h2, h3⟩ := sm (ad := ad) (K := k) (by omega) (ds := [.int 0, .int 1, .int 1, .int (-1), .int 2]) (by simp) (by decide) hS
      refine ⟨d, S', by walk_at "ev", h2, ?_⟩
      simp only [List.mem_cons, List.not_mem_nil, or_false] at h3
      rcases h3 with h | h | h | h | h <;> exact ⟨_, h, by omega, by omega⟩⟩
  obtain ⟨fs, rfl, hf⟩ := ints_of q1
  obtain ⟨d1, S2, g2, b2, m2⟩ := sm (ad := ad) (K := k) (by omega) (ds := [.int 0, .int 0, .int 1, .int (-1), .int 3]) (by simp) (by decide) b1
  obtain ⟨d2, S3, g3, b3, m3⟩ := sm (ad := ad) (K := k) (by omega) (ds := [.int 0, .int 1, .int (-1)]) (by simp) (by decide) b2
  have hfl : fs.length ≤ 10 := by
    rw [List.length_map] at l1
    unfold itInts at l1
    rw [List.length_map, List.length_range] at l1
    omega
  simp only [List.mem_cons, List.not_mem_nil, or_false] at m2 m3
  obtain ⟨i1, rfl⟩ : ∃ i, d1 = D.int i := by rcases m2 with h | h | h | h | h <;> exact ⟨_, h⟩
  obtain ⟨i2, rfl, hi⟩ : ∃ i, d2 = D.int i ∧ -10 ≤ i ∧ i ≤ 10 := by rcases m3 with h | h | h <;> exact ⟨_, h, by omega, by omega⟩
  refine ⟨.tup [.int i1, .int i2, .tup (fs.map .int)], S3, rt T__law_sum rfl b b3 ?_, b3, i1, i2, fs, rfl, hi, hf, hfl⟩
  show evSs _ e__law_sum [some (.obj 0), some (.int r), none, none] S = _
  unfold e__law_sum
  walk_at "ev"
end
end K10

set_option maxRecDepth 100000
set_option maxHeartbeats 1000000
namespace K10
open PySem L2 PyI
local macro_rules | `(tactic| walk_at "cm") => `(tactic| first
    | assumption
    | rfl
    | (simp only [eq_int, ne_int, lt_int, le_int, gt_int, ge_int, Option.some.injEq, decide_eq_true_eq, decide_eq_false_iff_not, beq_iff_eq, beq_eq_false_iff_ne, ne_eq, Bool.not_eq_true', Bool.not_eq_false']; omega)
    | exact Nat.le_of_ble_eq_true rfl
    | decide
    | omega)
local macro_rules | `(tactic| walk_at "ev") => `(tactic| first
    | with_reducible assumption
    | with_reducible exact e_cst
    | ((with_reducible apply e_var); rfl)
    | with_reducible exact a_nil
    | with_reducible exact o_no
    | with_reducible exact ss_nil
    | ((with_reducible apply a_cons); (· walk_at "ev"); (· walk_at "ev"))
    | ((with_reducible apply e_cF); (· walk_at "ev"); (· assumption))
    | ((with_reducible apply e_tup); (· walk_at "ev"); (· walk_at "cm"))
    | ((with_reducible apply e_lst); (· walk_at "ev"); (· walk_at "cm"))
    | ((with_reducible apply e_bin); (· walk_at "ev"); (· walk_at "ev"); (· walk_at "cm"))
    | ((with_reducible apply e_neg); walk_at "ev")
    | ((with_reducible apply e_cB); (· walk_at "ev"); (· walk_at "cm"))
    | ((with_reducible apply e_ixt); (· walk_at "ev"); (· walk_at "ev"); (· walk_at "cm"))
    | ((with_reducible apply e_ixl); (· walk_at "ev"); (· walk_at "ev"); (· walk_at "cm"))
    | ((with_reducible apply o_so); walk_at "ev")
    | ((with_reducible apply t_cmp); (· walk_at "ev"); (· walk_at "ev"); (· walk_at "cm"))
    | ((with_reducible apply e_cmp); (· walk_at "ev"); (· walk_at "ev"); (· walk_at "cm"))
    | ((with_reducible apply t_andf); walk_at "ev")
    | ((with_reducible apply t_andt); (· walk_at "ev"); (· walk_at "ev"))
    | ((with_reducible apply t_ort); walk_at "ev")
    | ((with_reducible apply t_orf); (· walk_at "ev"); (· walk_at "ev"))
    | ((with_reducible apply t_ntt); walk_at "ev")
    | ((with_reducible apply t_ntf); walk_at "ev")
    | ((with_reducible apply t_bl); walk_at "ev")
    | ((with_reducible apply e_isi); (· walk_at "ev"); (· walk_at "cm"))
    | ((with_reducible apply e_ifet); (· walk_at "ev"); (· walk_at "ev"))
    | ((with_reducible apply e_ifef); (· walk_at "ev"); (· walk_at "ev"))
    | ((with_reducible apply ss_ret); walk_at "ev")
    | ((with_reducible apply ss_asg); (· walk_at "ev"); (· rfl); (· walk_at "ev"))
    | ((with_reducible apply ss_par); (· walk_at "ev"); (· walk_at "ev"); (· walk_at "ev"))
    | ((with_reducible apply ss_iff); (· walk_at "ev"); (· walk_at "ev"))
    | ((with_reducible apply ss_ift); (· walk_at "ev"); (· walk_at "ev"))
    | ((with_reducible apply ss_ifn); (· walk_at "ev"); (· walk_at "ev"); (· walk_at "ev"))
    | ((with_reducible apply ss_exp); (· walk_at "ev"); (· walk_at "ev"))
    | assumption)
theorem sm62 {n : Int} (h0 : 0 ≤ n) (h1 : n ≤ 1000000) : small62 n = true := by
  unfold small62; rw [decide_eq_true (by omega), decide_eq_true (by omega)]; rfl
theorem its_len {a : Int} {n : Nat} : (itInts a n).length = n := by unfold itInts; rw [List.length_map, List.length_range]
theorem its_mem {n : Nat} {x : D} (h : x ∈ itInts 0 n) : ∃ i : Nat, x = .int i ∧ i < n := by
  unfold itInts at h
  obtain ⟨i, hi, rfl⟩ := List.mem_map.mp h
  exact ⟨i, by simp, List.mem_range.mp hi⟩
/-- a comprehension that draws -/
theorem cdraw {W : Wd} {own : List Nat} {i : Nat} {elt E : Ex} {e : PyI.Env} {S0 S : Store} {n : Int} {B : Store → Prop} {Q : D → Prop} (hE : evE W E e S0 = .ok (.int n) S) (h0 : 0 ≤ n) (h1 : n ≤ 1000000) (b : B S)
    (h : ∀ (x : D) S, B S → ∃ d S', evE W elt ((wip e own).set i (some x)) S = .ok d S' ∧ B S' ∧ Q d) :
    ∃ ds S', evE W (.comp own elt (.nm i) (.rng E) .yes) e S0 = .ok (.lst ds) S' ∧ B S' ∧ ds.length = n.toNat ∧ ∀ d ∈ ds, Q d := by
  obtain ⟨ds, S', c, b', l, q⟩ := comp_inv (W := W) (own := own) (t := .nm i) (elt := elt) (it := .rng E) (e := e) (S := S) (S0 := S0) (xs := itInts 0 n.toNat) (B := B) (Q := Q) (i_rng hE (sm62 h0 h1)) b (by rw [its_len]; show _ ≤ 16777216; omega) fun x hx => ⟨_, rfl, fun S hS => h x S hS⟩
  exact ⟨ds, S', c, b', by rw [l, its_len], q⟩
section
variable {ad : String → Nat} {k K : Nat} {J S : Store}
inductive TestD : Nat → D → Prop
  | alw {n} : TestD n (.tup [.str "always"])
  | sum {n s w} (h : SumD s) (hw : w = ("below" : Str) ∨ w = ("zero" : Str)) : TestD n (.tup [.str w, s])
  | nt {n t} (h : TestD n t) : TestD (n + 1) (.tup [.str "not", t])
  | al {n ts w} (h : ∀ t ∈ ts, TestD n t) (hl : ts.length ≤ 2) (hw : w = ("all" : Str) ∨ w = ("any" : Str)) : TestD (n + 1) (.tup [.str w, .tup ts])
theorem below_zero {v : Int} : ∃ w : Str, atI [D.str "below", D.str "zero"] (v % 2) = some (.str w) ∧ (w = ("below" : Str) ∨ w = ("zero" : Str)) := by
  have hm : v % 2 = 0 ∨ v % 2 = 1 := by omega
  rcases hm with h | h <;> rw [h]
  · exact ⟨_, rfl, .inl rfl⟩
  · exact ⟨_, rfl, .inr rfl⟩
theorem mod2 {v : Int} : binop .mod (.int v) (.int 2) = some (.int (v % 2)) := rfl
theorem test_ok {r : Int} (h0 : 0 ≤ r) (h2 : r ≤ 2) : ∀ (n : Nat) {K : Nat} {S : Store}, 4 + n ≤ K → Bag J S → ∃ d S', C ad K "_law_test" [.obj 0, .int r, .int n] S = .ok d S' ∧ Bag J S' ∧ TestD n d := by
  intro n
  induction n with
  | zero =>
    intro K S hK b
    obtain ⟨k, rfl⟩ : ∃ k, K = k + 1 := ⟨K - 1, by omega⟩
    obtain ⟨v, S1, g1, b1, v0, v8⟩ := tk (ad := ad) (K := k) (m := 8) (by omega) (by decide) (by decide) b
    by_cases hv : v < 2
    · refine ⟨.tup [.str "always"], S1, rt T__law_test rfl b b1 ?_, b1, .alw⟩
      show evSs _ e__law_test [some (.obj 0), some (.int r), some (.int (0 : Nat)), none, none] S = _
      unfold e__law_test
      walk_at "ev"
    · obtain ⟨s, S2, g2, b2, q2⟩ := sum_ok (ad := ad) (K := k) (by omega) h0 h2 b1
      obtain ⟨w, hix, hw⟩ := below_zero (v := v)
      have hmod := mod2 (v := v)
      refine ⟨.tup [.str w, s], S2, rt T__law_test rfl b b2 ?_, b2, .sum q2 hw⟩
      show evSs _ e__law_test [some (.obj 0), some (.int r), some (.int (0 : Nat)), none, none] S = _
      unfold e__law_test
      walk_at "ev"
  | succ n ih =>
    intro K S hK b
    obtain ⟨k, rfl⟩ : ∃ k, K = k + 1 := ⟨K - 1, by omega⟩
    obtain ⟨v, S1, g1, b1, v0, v8⟩ := tk (ad := ad) (K := k) (m := 8) (by omega) (by decide) (by decide) b
    have hn1 : binop .sub (.int ((n + 1 : Nat) : Int)) (.int 1) = some (.int (n : Nat)) := by
      show some (D.int _) = _
      congr 2; omega
    have hpos : (0 : Int) < ((n + 1 : Nat) : Int) := by omega
    by_cases h5 : 5 < v
    · by_cases h6 : v = 6
      · subst h6
        obtain ⟨t, S2, g2, b2, q2⟩ := ih (K := k) (by omega) b1
        refine ⟨.tup [.str "not", t], S2, rt T__law_test rfl b b2 ?_, b2, .nt q2⟩
        show evSs _ e__law_test [some (.obj 0), some (.int r), some (.int ((n + 1 : Nat) : Int)), none, none] S = _
        unfold e__law_test
        walk_at "ev"
      · obtain ⟨w, S2, g2, b2, q2⟩ := sm (ad := ad) (K := k) (ds := [.str "all", .str "any"]) (by omega) (by simp) (by decide) b1
        obtain ⟨m, S3, g3, b3, m0, m3⟩ := tk (ad := ad) (K := k) (m := 3) (by omega) (by decide) (by decide) b2
        obtain ⟨ts, S4, g4, b4, l4, q4⟩ := cdraw (W := Wq ad k) (own := [4]) (i := 4) (elt := (.cF "_law_test" (.cons (.var 0) (.cons (.var 1) (.cons (.bin .sub (.var 2) (.cst (.int 1))) .nil))))) (E := (.cF "_law_take" (.cons (.var 0) (.cons (.cst (.int 3)) .nil)))) (n := m) (e := [some (.obj 0), some (.int r), some (.int ((n + 1 : Nat) : Int)), some (.int v), none]) (S0 := S2) (S := S3) (B := Bag J) (Q := TestD n)
          (by walk_at "ev") m0 (by omega) b3 fun x S hS => by
            obtain ⟨t, S', g, b', q⟩ := ih (K := k) (by omega) hS
            exact ⟨t, S', by walk_at "ev", b', q⟩
        obtain ⟨w', rfl, hw⟩ : ∃ w' : Str, w = .str w' ∧ (w' = ("all" : Str) ∨ w' = ("any" : Str)) := by
          simp only [List.mem_cons, List.not_mem_nil, or_false] at q2
          rcases q2 with h | h
          · exact ⟨_, h, .inl rfl⟩
          · exact ⟨_, h, .inr rfl⟩
        refine ⟨.tup [.str w', .tup ts], S4, rt T__law_test rfl b b4 ?_, b4, .al q4 (by omega) hw⟩
        show evSs _ e__law_test [some (.obj 0), some (.int r), some (.int ((n + 1 : Nat) : Int)), none, none] S = _
        unfold e__law_test
        walk_at "ev"
    · by_cases hv : v < 2
      · refine ⟨.tup [.str "always"], S1, rt T__law_test rfl b b1 ?_, b1, .alw⟩
        show evSs _ e__law_test [some (.obj 0), some (.int r), some (.int ((n + 1 : Nat) : Int)), none, none] S = _
        unfold e__law_test
        walk_at "ev"
      · obtain ⟨s, S2, g2, b2, q2⟩ := sum_ok (ad := ad) (K := k) (by omega) h0 h2 b1
        obtain ⟨w, hix, hw⟩ := below_zero (v := v)
        have hmod := mod2 (v := v)
        refine ⟨.tup [.str w, s], S2, rt T__law_test rfl b b2 ?_, b2, .sum q2 hw⟩
        show evSs _ e__law_test [some (.obj 0), some (.int r), some (.int ((n + 1 : Nat) : Int)), none, none] S = _
        unfold e__law_test
        walk_at "ev"
end
end K10

set_option maxRecDepth 100000
set_option maxHeartbeats 1000000
namespace K10
open PySem L2 PyI
local macro_rules | `(tactic| walk_at "cm") => `(tactic| first
    | assumption
    | rfl
    | (simp only [eq_int, ne_int, lt_int, le_int, gt_int, ge_int, Option.some.injEq, decide_eq_true_eq, decide_eq_false_iff_not, beq_iff_eq, beq_eq_false_iff_ne, ne_eq, Bool.not_eq_true', Bool.not_eq_false']; omega)
    | exact Nat.le_of_ble_eq_true rfl
    | decide
    | omega)
local macro_rules | `(tactic| walk_at "ev") => `(tactic| first
    | with_reducible assumption
    | with_reducible exact e_cst
    | ((with_reducible apply e_var); rfl)
    | with_reducible exact a_nil
    | with_reducible exact o_no
    | with_reducible exact ss_nil
    | ((with_reducible apply a_cons); (· walk_at "ev"); (· walk_at "ev"))
    | ((with_reducible apply e_cF); (· walk_at "ev"); (· assumption))
    | ((with_reducible apply e_tup); (· walk_at "ev"); (· walk_at "cm"))
    | ((with_reducible apply e_lst); (· walk_at "ev"); (· walk_at "cm"))
    | ((with_reducible apply e_bin); (· walk_at "ev"); (· walk_at "ev"); (· walk_at "cm"))
    | ((with_reducible apply e_neg); walk_at "ev")
    | ((with_reducible apply e_cB); (· walk_at "ev"); (· walk_at "cm"))
    | ((with_reducible apply e_ixt); (· walk_at "ev"); (· walk_at "ev"); (· walk_at "cm"))
    | ((with_reducible apply e_ixl); (· walk_at "ev"); (· walk_at "ev"); (· walk_at "cm"))
    | ((with_reducible apply o_so); walk_at "ev")
    | ((with_reducible apply t_cmp); (· walk_at "ev"); (· walk_at "ev"); (· walk_at "cm"))
    | ((with_reducible apply e_cmp); (· walk_at "ev"); (· walk_at "ev"); (· walk_at "cm"))
    | ((with_reducible apply t_andf); walk_at "ev")
    | ((with_reducible apply t_andt); (· walk_at "ev"); (· walk_at "ev"))
    | ((with_reducible apply t_ort); walk_at "ev")
    | ((with_reducible apply t_orf); (· walk_at "ev"); (· walk_at "ev"))
    | ((with_reducible apply t_ntt); walk_at "ev")
    | ((with_reducible apply t_ntf); walk_at "ev")
    | ((with_reducible apply t_bl); walk_at "ev")
    | ((with_reducible apply e_isi); (· walk_at "ev"); (· walk_at "cm"))
    | ((with_reducible apply e_ifet); (· walk_at "ev"); (· walk_at "ev"))
    | ((with_reducible apply e_ifef); (· walk_at "ev"); (· walk_at "ev"))
    | ((with_reducible apply ss_ret); walk_at "ev")
    | ((with_reducible apply ss_asg); (· walk_at "ev"); (· rfl); (· walk_at "ev"))
    | ((with_reducible apply ss_par); (· walk_at "ev"); (· walk_at "ev"); (· walk_at "ev"))
    | ((with_reducible apply ss_iff); (· walk_at "ev"); (· walk_at "ev"))
    | ((with_reducible apply ss_ift); (· walk_at "ev"); (· walk_at "ev"))
    | ((with_reducible apply ss_ifn); (· walk_at "ev"); (· walk_at "ev"); (· walk_at "ev"))
    | ((with_reducible apply ss_exp); (· walk_at "ev"); (· walk_at "ev"))
    | assumption)
/-! ## rules, procedures -/
inductive LatD (m : Int) : D → Prop
  | mark {j} (h0 : 0 ≤ j) (h1 : j < m) : LatD m (.tup [.str "mark", .int j])
  | over {s} (h : SumD s) : LatD m (.tup [.str "over", s])
def RuleD (m : Int) (x : D) : Prop := ∃ t s l, x = .tup [t, s, l] ∧ TestD 2 t ∧ SumD s ∧ LatD m l
def FigD (b : Int) (x : D) : Prop := ∃ fs : List Int, x = .tup (fs.map .int) ∧ fs.length ≤ 2 ∧ ∀ f ∈ fs, 0 ≤ f ∧ f < b
structure Proc (d : D) (b r m : Int) (rs es : List D) : Prop where
  eq : d = .tup [.int b, .int r, .int m, .tup rs, .tup es]
  b0 : 2 ≤ b
  b1 : b ≤ 4
  r0 : 1 ≤ r
  r1 : r ≤ 2
  m0 : 1 ≤ m
  m1 : m ≤ 3
  rl : ∀ x ∈ rs, RuleD m x
  rn : rs.length ≤ 1000
  el : (es.length : Int) = m
  ef : ∀ x ∈ es, FigD b x
section
variable {ad : String → Nat} {k K : Nat} {J S : Store}
theorem rule_ok {r m : Int} (hK : 8 ≤ K) (h0 : 0 ≤ r) (h2 : r ≤ 2) (m0 : 1 ≤ m) (m1 : m ≤ 3) (b : Bag J S) : ∃ d S', C ad K "_law_rule" [.obj 0, .int r, .int m] S = .ok d S' ∧ Bag J S' ∧ RuleD m d := by
  obtain ⟨k, rfl⟩ : ∃ k, K = k + 1 := ⟨K - 1, by omega⟩
  obtain ⟨v, S1, g1, b1, v0, v2⟩ := tk (ad := ad) (K := k) (m := 2) (by omega) (by decide) (by decide) b
  have lat : ∃ l S2, evE (Wq ad k) (.ife (.cmp .eq (.cF "_law_take" (.cons (.var 0) (.cons (.cst (.int 2)) .nil))) (.cst (.int 0))) (.tup (.cons (.cst (.str "mark")) (.cons (.cF "_law_take" (.cons (.var 0) (.cons (.var 2) .nil))) .nil))) (.tup (.cons (.cst (.str "over")) (.cons (.cF "_law_sum" (.cons (.var 0) (.cons (.var 1) .nil))) .nil)))) [some (.obj 0), some (.int r), some (.int m), none] S = .ok l S2 ∧ Bag J S2 ∧ LatD m l := by
    by_cases hv : v = 0
    · subst hv
      obtain ⟨j, S2, g2, b2, j0, jm⟩ := tk (ad := ad) (K := k) (m := m) (by omega) (by omega) (by omega) b1
      exact ⟨.tup [.str "mark", .int j], S2, by walk_at "ev", b2, .mark j0 jm⟩
    · obtain ⟨s, S2, g2, b2, q2⟩ := sum_ok (ad := ad) (K := k) (by omega) h0 h2 b1
      exact ⟨.tup [.str "over", s], S2, by walk_at "ev", b2, .over q2⟩
  obtain ⟨l, S2, g2, b2, q2⟩ := lat
  obtain ⟨t, S3, g3, b3, q3⟩ := test_ok (ad := ad) (K := k) h0 h2 2 (by omega) b2
  obtain ⟨s, S4, g4, b4, q4⟩ := sum_ok (ad := ad) (K := k) (by omega) h0 h2 b3
  have g3 : C ad k "_law_test" [.obj 0, .int r, .int 2] S2 = .ok t S3 := g3
  refine ⟨.tup [t, s, l], S4, rt T__law_rule rfl b b4 ?_, b4, t, s, l, rfl, q3, q4, q2⟩
  show evSs _ e__law_rule [some (.obj 0), some (.int r), some (.int m), none] S = _
  unfold e__law_rule
  walk_at "ev"
theorem figs_ok {c : Int} (hK : 3 ≤ K) (h0 : 2 ≤ c) (h4 : c ≤ 4) (b : Bag J S) : ∃ d S', C ad K "_law_figures" [.obj 0, .int c] S = .ok d S' ∧ Bag J S' ∧ FigD c d := by
  obtain ⟨k, rfl⟩ : ∃ k, K = k + 1 := ⟨K - 1, by omega⟩
  obtain ⟨n, S1, g1, b1, q1⟩ := sm (ad := ad) (K := k) (ds := [.int 0, .int 0, .int 1, .int 2]) (by omega) (by simp) (by decide) b
  obtain ⟨i, rfl, i0, i2⟩ : ∃ i, n = D.int i ∧ 0 ≤ i ∧ i ≤ 2 := by
    simp only [List.mem_cons, List.not_mem_nil, or_false] at q1
    rcases q1 with h | h | h | h <;> exact ⟨_, h, by omega, by omega⟩
  obtain ⟨ds, S2, g2, b2, l2, q2⟩ := cdraw (W := Wq ad k) (own := [2]) (i := 2) (elt := (.cF "_law_take" (.cons (.var 0) (.cons (.var 1) .nil)))) (E := (.cF "_law_some" (.cons (.var 0) (.cons (.lst (.cons (.cst (.int 0)) (.cons (.cst (.int 0)) (.cons (.cst (.int 1)) (.cons (.cst (.int 2)) .nil))))) .nil)))) (n := i) (e := [some (.obj 0), some (.int c), none]) (S0 := S) (S := S1) (B := Bag J) (Q := fun d => ∃ i, d = D.int i ∧ 0 ≤ i ∧ i < c)
    (by walk_at "ev") i0 (by omega) b1 fun x S hS => by
      obtain ⟨v, S', g, b', v0, v1⟩ := tk (ad := ad) (K := k) (m := c) (by omega) (by omega) (by omega) hS
      exact ⟨.int v, S', by walk_at "ev", b', v, rfl, v0, v1⟩
  obtain ⟨fs, rfl, hf⟩ := ints_of q2
  rw [List.length_map] at l2
  refine ⟨.tup (fs.map .int), S2, rt T__law_figures rfl b b2 ?_, b2, fs, rfl, by omega, hf⟩
  show evSs _ e__law_figures [some (.obj 0), some (.int c), none] S = _
  unfold e__law_figures
  walk_at "ev"
theorem sumD_of {a b : Int} {fs : List Int} (h1 : -10 ≤ b) (h2 : b ≤ 10) (h3 : ∀ f ∈ fs, -10 ≤ f ∧ f ≤ 10) (h4 : fs.length ≤ 10) : SumD (.tup [.int a, .int b, .tup (fs.map .int)]) := ⟨a, b, fs, rfl, ⟨h1, h2⟩, h3, h4⟩
theorem figD_nil {c : Int} : FigD c (.tup []) := ⟨[], rfl, by decide, fun f h => nomatch h⟩
theorem figD_one {c : Int} (h : 2 ≤ c) : FigD c (.tup [.int 1]) := ⟨[1], rfl, by decide, fun f h => by simp at h; omega⟩
theorem known_ok {c : Int} (hK : 2 ≤ K) (h0 : 2 ≤ c) (h4 : c ≤ 4) (b : Bag J S) : ∃ d S', C ad K "_law_known" [.obj 0, .int c] S = .ok d S' ∧ Bag J S' ∧ ∃ r m rs es, Proc d c r m rs es ∧ 1 ≤ rs.length ∧ rs.length ≤ 3 := by
  obtain ⟨k, rfl⟩ : ∃ k, K = k + 1 := ⟨K - 1, by omega⟩
  obtain ⟨v, S1, g1, b1, v0, v4⟩ := tk (ad := ad) (K := k) (m := 4) (by omega) (by decide) (by decide) b
  by_cases hv : v < 2
  · have hs : SumD (.tup [.int 0, .int 1, .tup [.int 1, .int 1]]) := sumD_of (fs := [1, 1]) (by decide) (by decide) (by decide) (by decide)
    refine ⟨.tup [.int c, .int 2, .int 2, .tup [.tup [.tup [.str "always"], .tup [.int 0, .int 1, .tup [.int 1, .int 1]], .tup [.str "over", .tup [.int 0, .int 1, .tup [.int 1, .int 1]]]]], .tup [.tup [], .tup [.int 1]]], S1, rt T__law_known rfl b b1 ?_, b1, 2, 2, _, _, ⟨rfl, h0, h4, by decide, by decide, by decide, by decide, ?_, by decide, rfl, ?_⟩, by decide, by decide⟩
    · show evSs _ e__law_known [some (.obj 0), some (.int c), none, none, none, none, none] S = _
      unfold e__law_known
      walk_at "ev"
    · intro x hx
      rw [List.mem_singleton.mp hx]
      exact ⟨_, _, _, rfl, .alw, hs, .over hs⟩
    · intro x hx
      simp only [List.mem_cons, List.not_mem_nil, or_false] at hx
      rcases hx with rfl | rfl
      · exact figD_nil
      · exact figD_one h0
  · by_cases h2 : v = 2
    · subst h2
      have hs : SumD (.tup [.int 0, .int (-1), .tup [.int 1, .int (-1)]]) := sumD_of (fs := [1, -1]) (by decide) (by decide) (by decide) (by decide)
      have hs2 : SumD (.tup [.int c, .int (-1), .tup [.int 1, .int (-1)]]) := sumD_of (fs := [1, -1]) (by decide) (by decide) (by decide) (by decide)
      refine ⟨.tup [.int c, .int 2, .int 2, .tup [.tup [.tup [.str "below", .tup [.int 0, .int (-1), .tup [.int 1, .int (-1)]]], .tup [.int c, .int (-1), .tup [.int 1, .int (-1)]], .tup [.str "mark", .int 1]], .tup [.tup [.str "always"], .tup [.int 0, .int (-1), .tup [.int 1, .int (-1)]], .tup [.str "mark", .int 0]]], .tup [.tup [], .tup []]], S1, rt T__law_known rfl b b1 ?_, b1, 2, 2, _, _, ⟨rfl, h0, h4, by decide, by decide, by decide, by decide, ?_, Nat.le_of_ble_eq_true rfl, rfl, ?_⟩, Nat.le_of_ble_eq_true rfl, Nat.le_of_ble_eq_true rfl⟩
      · show evSs _ e__law_known [some (.obj 0), some (.int c), none, none, none, none, none] S = _
        unfold e__law_known
        walk_at "ev"
      · intro x hx
        simp only [List.mem_cons, List.not_mem_nil, or_false] at hx
        rcases hx with rfl | rfl
        · exact ⟨_, _, _, rfl, .sum hs (.inl rfl), hs2, .mark (by decide) (by decide)⟩
        · exact ⟨_, _, _, rfl, .alw, hs, .mark (by decide) (by decide)⟩
      · intro x hx
        simp only [List.mem_cons, List.not_mem_nil, or_false, or_self] at hx
        rw [hx]; exact figD_nil
    · have hs : SumD (.tup [.int 0, .int 1, .tup [.int 2]]) := sumD_of (fs := [2]) (by decide) (by decide) (by decide) (by decide)
      refine ⟨.tup [.int c, .int 1, .int 2, .tup [.tup [.tup [.str "always"], .tup [.int 0, .int 1, .tup [.int 2]], .tup [.str "over", .tup [.int 0, .int 1, .tup [.int 2]]]]], .tup [.tup [], .tup [.int 1]]], S1, rt T__law_known rfl b b1 ?_, b1, 1, 2, _, _, ⟨rfl, h0, h4, by decide, by decide, by decide, by decide, ?_, by decide, rfl, ?_⟩, by decide, by decide⟩
      · show evSs _ e__law_known [some (.obj 0), some (.int c), none, none, none, none, none] S = _
        unfold e__law_known
        walk_at "ev"
      · intro x hx
        rw [List.mem_singleton.mp hx]
        exact ⟨_, _, _, rfl, .alw, hs, .over hs⟩
      · intro x hx
        simp only [List.mem_cons, List.not_mem_nil, or_false] at hx
        rcases hx with rfl | rfl
        · exact figD_nil
        · exact figD_one h0
theorem add1 {v : Int} : binop .add (.int 1) (.int v) = some (.int (1 + v)) := rfl
theorem proc_ok (hK : 9 ≤ K) (b : Bag J S) : ∃ d S', C ad K "_law_procedure" [.obj 0] S = .ok d S' ∧ Bag J S' ∧ ∃ c r m rs es, Proc d c r m rs es ∧ 1 ≤ rs.length ∧ rs.length ≤ 3 := by
  obtain ⟨k, rfl⟩ : ∃ k, K = k + 1 := ⟨K - 1, by omega⟩
  obtain ⟨n, S1, g1, b1, q1⟩ := sm (ad := ad) (K := k) (ds := [.int 2, .int 2, .int 3, .int 4]) (by omega) (by simp) (by decide) b
  obtain ⟨c, rfl, c2, c4⟩ : ∃ i, n = D.int i ∧ 2 ≤ i ∧ i ≤ 4 := by
    simp only [List.mem_cons, List.not_mem_nil, or_false] at q1
    rcases q1 with h | h | h | h <;> exact ⟨_, h, by omega, by omega⟩
  obtain ⟨v, S2, g2, b2, v0, v3⟩ := tk (ad := ad) (K := k) (m := 3) (by omega) (by decide) (by decide) b1
  by_cases hv : 0 < v
  · obtain ⟨d, S3, g3, b3, r, m, rs, es, q3, q4, q5⟩ := known_ok (ad := ad) (K := k) (by omega) c2 c4 b2
    refine ⟨d, S3, rt T__law_procedure rfl b b3 ?_, b3, c, r, m, rs, es, q3, q4, q5⟩
    show evSs _ e__law_procedure [some (.obj 0), none, none, none, none, none, none] S = _
    unfold e__law_procedure
    walk_at "ev"
  · obtain ⟨r, S3, g3, b3, r0, r2⟩ := tk (ad := ad) (K := k) (m := 2) (by omega) (by decide) (by decide) b2
    obtain ⟨m, S4, g4, b4, m0, m3⟩ := tk (ad := ad) (K := k) (m := 3) (by omega) (by decide) (by decide) b3
    obtain ⟨n, S5, g5, b5, n0, n3⟩ := tk (ad := ad) (K := k) (m := 3) (by omega) (by decide) (by decide) b4
    have a1 := add1 (v := r)
    have a2 := add1 (v := m)
    have a3 := add1 (v := n)
    obtain ⟨rs, S6, g6, b6, l6, q6⟩ := cdraw (W := Wq ad k) (own := [6]) (i := 6) (elt := (.cF "_law_rule" (.cons (.var 0) (.cons (.var 2) (.cons (.var 3) .nil))))) (E := (.bin .add (.cst (.int 1)) (.cF "_law_take" (.cons (.var 0) (.cons (.cst (.int 3)) .nil))))) (n := 1 + n) (e := [some (.obj 0), some (.int c), some (.int (1 + r)), some (.int (1 + m)), none, none, none]) (S0 := S4) (S := S5) (B := Bag J) (Q := RuleD (1 + m))
      (by walk_at "ev") (by omega) (by omega) b5 fun x S hS => by
        obtain ⟨d, S', g, b', q⟩ := rule_ok (ad := ad) (K := k) (r := 1 + r) (m := 1 + m) (by omega) (by omega) (by omega) (by omega) (by omega) hS
        exact ⟨d, S', by walk_at "ev", b', q⟩
    obtain ⟨es, S7, g7, b7, l7, q7⟩ := cdraw (W := Wq ad k) (own := [5]) (i := 5) (elt := (.cF "_law_figures" (.cons (.var 0) (.cons (.var 1) .nil)))) (E := .var 3) (n := 1 + m) (e := [some (.obj 0), some (.int c), some (.int (1 + r)), some (.int (1 + m)), some (.tup rs), none, none]) (S0 := S6) (S := S6) (B := Bag J) (Q := FigD c)
      (by walk_at "ev") (by omega) (by omega) b6 fun x S hS => by
        obtain ⟨d, S', g, b', q⟩ := figs_ok (ad := ad) (K := k) (c := c) (by omega) c2 c4 hS
        exact ⟨d, S', by walk_at "ev", b', q⟩
    refine ⟨.tup [.int c, .int (1 + r), .int (1 + m), .tup rs, .tup es], S7, rt T__law_procedure rfl b b7 ?_, b7, c, 1 + r, 1 + m, rs, es, ⟨rfl, c2, c4, by omega, by omega, by omega, by omega, q6, by omega, by omega, q7⟩, by omega, by omega⟩
    show evSs _ e__law_procedure [some (.obj 0), none, none, none, none, none, none] S = _
    unfold e__law_procedure
    walk_at "ev"
end
end K10

set_option maxRecDepth 100000
set_option maxHeartbeats 1000000
namespace K10
open PySem L2 PyI
local macro_rules | `(tactic| walk_at "cm") => `(tactic| first
    | assumption
    | rfl
    | (simp only [eq_int, ne_int, lt_int, le_int, gt_int, ge_int, Option.some.injEq, decide_eq_true_eq, decide_eq_false_iff_not, beq_iff_eq, beq_eq_false_iff_ne, ne_eq, Bool.not_eq_true', Bool.not_eq_false']; omega)
    | exact Nat.le_of_ble_eq_true rfl
    | decide
    | omega)
local macro_rules | `(tactic| walk_at "ev") => `(tactic| first
    | with_reducible assumption
    | with_reducible exact e_cst
    | ((with_reducible apply e_var); rfl)
    | with_reducible exact a_nil
    | with_reducible exact o_no
    | with_reducible exact ss_nil
    | ((with_reducible apply a_cons); (· walk_at "ev"); (· walk_at "ev"))
    | ((with_reducible apply e_cF); (· walk_at "ev"); (· assumption))
    | ((with_reducible apply e_tup); (· walk_at "ev"); (· walk_at "cm"))
    | ((with_reducible apply e_lst); (· walk_at "ev"); (· walk_at "cm"))
    | ((with_reducible apply e_bin); (· walk_at "ev"); (· walk_at "ev"); (· walk_at "cm"))
    | ((with_reducible apply e_neg); walk_at "ev")
    | ((with_reducible apply e_cB); (· walk_at "ev"); (· walk_at "cm"))
    | ((with_reducible apply e_ixt); (· walk_at "ev"); (· walk_at "ev"); (· walk_at "cm"))
    | ((with_reducible apply e_ixl); (· walk_at "ev"); (· walk_at "ev"); (· walk_at "cm"))
    | ((with_reducible apply o_so); walk_at "ev")
    | ((with_reducible apply t_cmp); (· walk_at "ev"); (· walk_at "ev"); (· walk_at "cm"))
    | ((with_reducible apply e_cmp); (· walk_at "ev"); (· walk_at "ev"); (· walk_at "cm"))
    | ((with_reducible apply t_andf); walk_at "ev")
    | ((with_reducible apply t_andt); (· walk_at "ev"); (· walk_at "ev"))
    | ((with_reducible apply t_ort); walk_at "ev")
    | ((with_reducible apply t_orf); (· walk_at "ev"); (· walk_at "ev"))
    | ((with_reducible apply t_ntt); walk_at "ev")
    | ((with_reducible apply t_ntf); walk_at "ev")
    | ((with_reducible apply t_bl); walk_at "ev")
    | ((with_reducible apply e_isi); (· walk_at "ev"); (· walk_at "cm"))
    | ((with_reducible apply e_ifet); (· walk_at "ev"); (· walk_at "ev"))
    | ((with_reducible apply e_ifef); (· walk_at "ev"); (· walk_at "ev"))
    | ((with_reducible apply ss_ret); walk_at "ev")
    | ((with_reducible apply ss_asg); (· walk_at "ev"); (· rfl); (· walk_at "ev"))
    | ((with_reducible apply ss_par); (· walk_at "ev"); (· walk_at "ev"); (· walk_at "ev"))
    | ((with_reducible apply ss_iff); (· walk_at "ev"); (· walk_at "ev"))
    | ((with_reducible apply ss_ift); (· walk_at "ev"); (· walk_at "ev"))
    | ((with_reducible apply ss_ifn); (· walk_at "ev"); (· walk_at "ev"); (· walk_at "ev"))
    | ((with_reducible apply ss_exp); (· walk_at "ev"); (· walk_at "ev"))
    | assumption)
theorem SumD.dat {d : D} (h : SumD d) : d.dat = true := by
  obtain ⟨a, b, fs, rfl, _⟩ := h
  simp [D.dat, dats, dats_ints]
theorem TestD.dat {n : Nat} {d : D} (h : TestD n d) : d.dat = true := by
  induction h with
  | alw => rfl
  | sum h _ => simp [D.dat, dats, h.dat]
  | nt _ ih => simp [D.dat, dats, ih]
  | al _ _ _ ih => simp only [D.dat, dats, Bool.and_true, Bool.true_and]; exact dats_all.mpr ih
theorem LatD.dat {m : Int} {d : D} (h : LatD m d) : d.dat = true := by
  cases h with
  | mark => rfl
  | over h => simp [D.dat, dats, h.dat]
theorem RuleD.dat {m : Int} {d : D} (h : RuleD m d) : d.dat = true := by
  obtain ⟨t, s, l, rfl, h1, h2, h3⟩ := h
  simp [D.dat, dats, h1.dat, h2.dat, h3.dat]
theorem FigD.dat {b : Int} {d : D} (h : FigD b d) : d.dat = true := by
  obtain ⟨fs, rfl, _⟩ := h
  simp [D.dat, dats_ints]
theorem Proc.dat {d : D} {b r m : Int} {rs es : List D} (P : Proc d b r m rs es) : d.dat = true := by
  rw [P.eq]
  have h1 : dats rs = true := dats_all.mpr fun x hx => (P.rl x hx).dat
  have h2 : dats es = true := dats_all.mpr fun x hx => (P.ef x hx).dat
  simp [D.dat, dats, h1, h2]
inductive WhatD (b m : Int) (n : Nat) : D → Prop
  | drop {i : Int} (h0 : 0 ≤ i) (h1 : i < n) : WhatD b m n (.tup [.str "drop", .int i])
  | end_ {i : Int} {f} (h0 : 0 ≤ i) (h1 : i < m) (h : FigD b f) : WhatD b m n (.tup [.str "end", .int i, f])
  | turn {i : Int} {x} (h0 : 0 ≤ i) (h1 : i < n) (h : RuleD m x) : WhatD b m n (.tup [.str "turn", .int i, x])
  | add {i : Int} {x} (h0 : 0 ≤ i) (h1 : i ≤ n) (h : RuleD m x) : WhatD b m n (.tup [.str "add", .int i, x])
theorem WhatD.dat {b m : Int} {n : Nat} {d : D} (h : WhatD b m n d) : d.dat = true := by
  cases h with
  | drop => rfl
  | end_ _ _ h => simp [D.dat, dats, h.dat]
  | turn _ _ h => simp [D.dat, dats, h.dat]
  | add _ _ h => simp [D.dat, dats, h.dat]
section
variable {ad : String → Nat} {k K : Nat} {J S : Store}
theorem what_ok {d : D} {b r m : Int} {rs es : List D} (hK : 9 ≤ K) (P : Proc d b r m rs es) (hn : rs ≠ []) (bg : Bag J S) : ∃ w S', C ad K "_law_what" [.obj 0, d] S = .ok w S' ∧ Bag J S' ∧ WhatD b m rs.length w := by
  obtain ⟨k, rfl⟩ : ∃ k, K = k + 1 := ⟨K - 1, by omega⟩
  obtain ⟨v, S1, g1, b1, v0, v5⟩ := tk (ad := ad) (K := k) (m := 5) (by omega) (by decide) (by decide) bg
  have hne : cmpop .ne (.tup rs) (.tup []) = some true := by
    rw [ne_nilt (dats_all.mpr fun x hx => (P.rl x hx).dat)]
    cases rs with
    | nil => exact absurd rfl hn
    | cons _ _ => rfl
  have hrl : 0 < rs.length := List.length_pos_iff.mpr hn
  have hr30 := P.rn
  have m1 := P.m1
  have m0 := P.m0
  rw [P.eq]
  have hlen : ∀ S, biop S .len [.tup rs] = some (.int rs.length) := fun S => rfl
  by_cases h0 : v = 0
  · subst h0
    obtain ⟨i, S2, g2, b2, i0, i1⟩ := tk (ad := ad) (K := k) (m := (rs.length : Int)) (by omega) (by omega) (by omega) b1
    refine ⟨.tup [.str "drop", .int i], S2, rt T__law_what rfl bg b2 ?_, b2, .drop i0 i1⟩
    show evSs _ e__law_what [some (.obj 0), some (.tup [.int b, .int r, .int m, .tup rs, .tup es]), none, none, none, none, none, none, none] S = _
    unfold e__law_what
    walk_at "ev"
  · by_cases h1 : v = 1
    · subst h1
      obtain ⟨i, S2, g2, b2, i0, i1⟩ := tk (ad := ad) (K := k) (m := m) (by omega) (by omega) (by omega) b1
      obtain ⟨f, S3, g3, b3, q3⟩ := figs_ok (ad := ad) (K := k) (c := b) (by omega) P.b0 P.b1 b2
      refine ⟨.tup [.str "end", .int i, f], S3, rt T__law_what rfl bg b3 ?_, b3, .end_ i0 i1 q3⟩
      show evSs _ e__law_what [some (.obj 0), some (.tup [.int b, .int r, .int m, .tup rs, .tup es]), none, none, none, none, none, none, none] S = _
      unfold e__law_what
      walk_at "ev"
    · by_cases h4 : v < 4
      · obtain ⟨i, S2, g2, b2, i0, i1⟩ := tk (ad := ad) (K := k) (m := (rs.length : Int)) (by omega) (by omega) (by omega) b1
        obtain ⟨u, S3, g3, b3, u0, u1⟩ := tk (ad := ad) (K := k) (m := 2) (by omega) (by decide) (by decide) b2
        by_cases hu : u = 0
        · subst hu
          obtain ⟨j, S4, g4, b4, j0, j1⟩ := tk (ad := ad) (K := k) (m := m) (by omega) (by omega) (by omega) b3
          obtain ⟨x, hx, hxm⟩ := atI_mem (ds := rs) i0 i1
          obtain ⟨t, s, l, rfl, q1, q2, q3⟩ := P.rl x hxm
          have hsl : evE (Wq ad k) (.sl (.ix (.var 5) (.var 8)) .no (.so (.cst (.int 2)))) [some (.obj 0), some (.tup [.int b, .int r, .int m, .tup rs, .tup es]), some (.int b), some (.int r), some (.int m), some (.tup rs), some (.tup es), some (.int v), some (.int i)] S3 = .ok (.tup [t, s]) S3 :=
            e_slt (d := .tup [t, s, l]) (l := none) (u := some 2) (by walk_at "ev") o_no (o_so e_cst) (fun _ h => nomatch h) rfl
          have hcat : binop .add (.tup [t, s]) (.tup [.tup [.str "mark", .int j]]) = some (.tup [t, s, .tup [.str "mark", .int j]]) := rfl
          refine ⟨.tup [.str "turn", .int i, .tup [t, s, .tup [.str "mark", .int j]]], S4, rt T__law_what rfl bg b4 ?_, b4, .turn i0 i1 ⟨t, s, _, rfl, q1, q2, .mark j0 j1⟩⟩
          show evSs _ e__law_what [some (.obj 0), some (.tup [.int b, .int r, .int m, .tup rs, .tup es]), none, none, none, none, none, none, none] S = _
          unfold e__law_what
          walk_at "ev"
        · obtain ⟨x, S4, g4, b4, q4⟩ := rule_ok (ad := ad) (K := k) (r := r) (m := m) (by omega) (by have := P.r0; omega) P.r1 P.m0 P.m1 b3
          refine ⟨.tup [.str "turn", .int i, x], S4, rt T__law_what rfl bg b4 ?_, b4, .turn i0 i1 q4⟩
          show evSs _ e__law_what [some (.obj 0), some (.tup [.int b, .int r, .int m, .tup rs, .tup es]), none, none, none, none, none, none, none] S = _
          unfold e__law_what
          walk_at "ev"
      · obtain ⟨i, S2, g2, b2, i0, i1⟩ := tk (ad := ad) (K := k) (m := (rs.length : Int) + 1) (by omega) (by omega) (by omega) b1
        obtain ⟨x, S3, g3, b3, q3⟩ := rule_ok (ad := ad) (K := k) (r := r) (m := m) (by omega) (by have := P.r0; omega) P.r1 P.m0 P.m1 b2
        have ha : binop .add (.int (rs.length : Int)) (.int 1) = some (.int ((rs.length : Int) + 1)) := rfl
        refine ⟨.tup [.str "add", .int i, x], S3, rt T__law_what rfl bg b3 ?_, b3, .add i0 (by omega) q3⟩
        show evSs _ e__law_what [some (.obj 0), some (.tup [.int b, .int r, .int m, .tup rs, .tup es]), none, none, none, none, none, none, none] S = _
        unfold e__law_what
        walk_at "ev"
/-! ## clashes -/
def whatOf : D → Str × Int
  | .tup [_, .tup (.str w :: .int i :: _)] => (w, i)
  | _ => ("", 0)
def clashB (a b : D) : Bool := !((whatOf a).1 == ("add" : Str) || (whatOf b).1 == ("add" : Str)) && (((whatOf a).1 == ("end" : Str)) == ((whatOf b).1 == ("end" : Str)) && (whatOf a).2 == (whatOf b).2)
def ChgD (b m : Int) (n : Nat) (d : D) : Prop := ∃ (x : Str) (w : D), d = .tup [.str x, w] ∧ WhatD b m n w
theorem WhatD.sh {b m : Int} {n : Nat} {d : D} (h : WhatD b m n d) : ∃ (w : Str) (i : Int) (r : List D), d = .tup (.str w :: .int i :: r) := by
  cases h <;> exact ⟨_, _, _, rfl⟩
theorem clash_ok {b m : Int} {n : Nat} {x y : D} (hK : 1 ≤ K) (hx : ChgD b m n x) (hy : ChgD b m n y) : C ad K "_law_clash" [x, y] S = .ok (.bl (clashB x y)) S := by
  obtain ⟨k, rfl⟩ : ∃ k, K = k + 1 := ⟨K - 1, by omega⟩
  obtain ⟨a, w, rfl, hw⟩ := hx
  obtain ⟨c, u, rfl, hu⟩ := hy
  obtain ⟨w1, i1, r1, rfl⟩ := hw.sh
  obtain ⟨w2, i2, r2, rfl⟩ := hu.sh
  refine call_rt T__law_clash rfl ?_ rfl
  show evSs _ e__law_clash [some (.tup [.str a, .tup (.str w1 :: .int i1 :: r1)]), some (.tup [.str c, .tup (.str w2 :: .int i2 :: r2)]), none, none] S = .ok (.rt (.bl (!(w1 == ("add" : Str) || w2 == ("add" : Str)) && ((w1 == ("end" : Str)) == (w2 == ("end" : Str)) && i1 == i2)))) S
  unfold e__law_clash
  have i0 : ∀ {w : Str} {i : Int} {r : List D}, atI (D.str w :: D.int i :: r) 0 = some (.str w) := fun {w i r} => atI_app (a := []) (b := D.int i :: r)
  have i1' : ∀ {w : Str} {i : Int} {r : List D}, atI (D.str w :: D.int i :: r) 1 = some (.int i) := fun {w i r} => atI_app (a := [D.str w]) (b := r)
  refine ss_par (d := .tup (.str w1 :: .int i1 :: r1)) (d1 := .tup (.str w2 :: .int i2 :: r2)) (e_ixt (e_var rfl) e_cst rfl) (e_ixt (e_var rfl) e_cst rfl) ?_
  by_cases h : (w1 == ("add" : Str) || w2 == ("add" : Str)) = true
  · rw [h]
    refine ss_ift ?_ (ss_ret e_cst)
    have := t_or (W := Wq ad k) (e := [some (.tup [.str a, .tup (.str w1 :: .int i1 :: r1)]), some (.tup [.str c, .tup (.str w2 :: .int i2 :: r2)]), some (.tup (.str w1 :: .int i1 :: r1)), some (.tup (.str w2 :: .int i2 :: r2))]) (S := S) (S1 := S) (A := (.cmp .eq (.ix (.var 2) (.cst (.int 0))) (.cst (.str "add")))) (B := (.cmp .eq (.ix (.var 3) (.cst (.int 0))) (.cst (.str "add")))) (t := w1 == ("add" : Str)) (t1 := w2 == ("add" : Str)) (t_cmp (e_ixt (e_var rfl) e_cst i0) e_cst (eq_str _ _)) fun _ => t_cmp (e_ixt (e_var rfl) e_cst i0) e_cst (eq_str _ _)
    rw [h] at this
    exact this
  · have h := Bool.eq_false_iff.mpr h
    rw [h]
    refine ss_iff (S1 := S) ?_ (ss_ret (S := S) (S1 := S) ?_)
    · have := t_or (W := Wq ad k) (e := [some (.tup [.str a, .tup (.str w1 :: .int i1 :: r1)]), some (.tup [.str c, .tup (.str w2 :: .int i2 :: r2)]), some (.tup (.str w1 :: .int i1 :: r1)), some (.tup (.str w2 :: .int i2 :: r2))]) (S := S) (S1 := S) (A := (.cmp .eq (.ix (.var 2) (.cst (.int 0))) (.cst (.str "add")))) (B := (.cmp .eq (.ix (.var 3) (.cst (.int 0))) (.cst (.str "add")))) (t := w1 == ("add" : Str)) (t1 := w2 == ("add" : Str)) (t_cmp (e_ixt (e_var rfl) e_cst i0) e_cst (eq_str _ _)) fun _ => t_cmp (e_ixt (e_var rfl) e_cst i0) e_cst (eq_str _ _)
      rw [h] at this
      exact this
    · show evE (Wq ad k) _ _ S = .ok (.bl (((w1 == ("end" : Str)) == (w2 == ("end" : Str))) && (i1 == i2))) S
      exact e_and (e_cmp (d := .bl (w1 == ("end" : Str))) (d1 := .bl (w2 == ("end" : Str))) (e_cmp (e_ixt (e_var rfl) e_cst i0) e_cst (eq_str _ _)) (e_cmp (e_ixt (e_var rfl) e_cst i0) e_cst (eq_str _ _)) rfl) fun _ => e_cmp (e_ixt (e_var rfl) e_cst i1') (e_ixt (e_var rfl) e_cst i1') (eq_int _ _)
end
end K10

set_option maxRecDepth 100000
set_option maxHeartbeats 1000000
namespace K10
open PySem L2 PyI
/-! ## lots -/
def LotD (n : Nat) (d : D) : Prop := ∃ ns : List Int, d = .tup (ns.map .int) ∧ ns.length ≤ 64 ∧ ∀ i ∈ ns, 0 ≤ i ∧ i < n
section
variable {ad : String → Nat} {k K : Nat} {J S : Store}
theorem tupI_ints : ∀ ns : List Int, tupI (.tup (ns.map .int)) = some ns := fun ns => by
  show intsOf (ns.map .int) = some ns
  induction ns with
  | nil => rfl
  | cons n ns ih =>
    show (intsOf (ns.map .int)).map (n :: ·) = _
    rw [ih]; rfl
theorem srt_mem {ds : List D} {d : D} : d ∈ srtD ds ↔ d ∈ ds := by unfold srtD; exact List.mem_mergeSort
theorem srt_len {ds : List D} : (srtD ds).length = ds.length := by unfold srtD; exact List.length_mergeSort ds
/-- what is wanted of the list of changes, at any store that comes -/
structure ChV (W : Wd) (Sx : List D → Store) (cv : D) (cs : List D) : Prop where
  len : ∀ fs, biop (Sx fs) .len [cv] = some (.int cs.length)
  ix : ∀ fs (e : PyI.Env) (X : Ex) (i : Int) (c : D), e[0]? = some (some cv) → evE W X e (Sx fs) = .ok (.int i) (Sx fs) → atI cs i = some c → evE W (.ix (.var 0) X) e (Sx fs) = .ok c (Sx fs)
def lotB : Sms := (.cons (.for (.nm 4) (.seq (.comp [5] (.var 5) (.nm 5) (.seq (.var 2)) .yes)) (.cons (.ifs (.and (.cmp .lt (.cB .len (.cons (.var 4) .nil)) (.var 1)) (.cmp .eq (.comp [5] (.cst (.int 1)) (.nm 5) (.seq (.var 4)) (.tst (.cF "_law_clash" (.cons (.ix (.var 0) (.var 5)) (.cons (.ix (.var 0) (.var 3)) .nil))))) (.lst .nil))) (.cons (.exp (.app (.var 2) (.bin .add (.var 4) (.tup (.cons (.var 3) .nil))))) .nil) .nil) .nil)) .nil)
def LotsI (n : Nat) (fs : List D) (c : Nat) : Prop := fs ≠ [] ∧ fs.length ≤ c ∧ ∀ l ∈ fs, LotD n l
/-- one lot: it is lengthened, or not -/
theorem lot_step {b m most : Int} {n : Nat} {cs fs : List D} {cv : D} {at_ : Nat} {ns : List Int} {x5 : Option D} (hK : 1 ≤ K) (hc : ∀ c ∈ cs, ChgD b m n c) (hm : most ≤ 60) (hv : ChV (Wq ad K) (fun fs => S ++ [.lst fs]) cv cs) (ha : at_ < cs.length) (hn : ns.length ≤ 64) (hi : ∀ i ∈ ns, 0 ≤ i ∧ i < (cs.length : Int)) (hf : fs.length < SZ) :
    ∃ y5 fs', evSs (Wq ad K) (.cons (.ifs (.and (.cmp .lt (.cB .len (.cons (.var 4) .nil)) (.var 1)) (.cmp .eq (.comp [5] (.cst (.int 1)) (.nm 5) (.seq (.var 4)) (.tst (.cF "_law_clash" (.cons (.ix (.var 0) (.var 5)) (.cons (.ix (.var 0) (.var 3)) .nil))))) (.lst .nil))) (.cons (.exp (.app (.var 2) (.bin .add (.var 4) (.tup (.cons (.var 3) .nil))))) .nil) .nil) .nil)
      [some cv, some (.int most), some (.obj S.length), some (.int (at_ : Nat)), some (.tup (ns.map .int)), x5] (S ++ [.lst fs]) = .ok (.nx [some cv, some (.int most), some (.obj S.length), some (.int (at_ : Nat)), some (.tup (ns.map .int)), y5]) (S ++ [.lst fs']) ∧ (fs' = fs ∨ ∃ l, fs' = fs ++ [l] ∧ LotD cs.length l) := by
  have hat : atI cs (at_ : Int) = some cs[at_] := by
    have := atI_of (ds := cs) (v := (at_ : Int)) (by omega) (by simpa using ha)
    simpa using this
  have hcl : evT (Wq ad K) (.cmp .lt (.cB .len (.cons (.var 4) .nil)) (.var 1)) [some cv, some (.int most), some (.obj S.length), some (.int (at_ : Nat)), some (.tup (ns.map .int)), x5] (S ++ [.lst fs]) = .ok (decide ((ns.length : Int) < most)) (S ++ [.lst fs]) := by
    refine t_cmp (d := .int ns.length) (d1 := .int most) (e_cB (a_cons (e_var rfl) a_nil) ?_) (e_var rfl) (lt_int _ _)
    show some (D.int (ns.map D.int).length) = _
    rw [List.length_map]
  let p : D → Bool := fun x => match x with
    | .int i => clashB (cs[i.toNat]?.getD .non) cs[at_]
    | _ => false
  have hcp : evE (Wq ad K) (.comp [5] (.cst (.int 1)) (.nm 5) (.seq (.var 4)) (.tst (.cF "_law_clash" (.cons (.ix (.var 0) (.var 5)) (.cons (.ix (.var 0) (.var 3)) .nil))))) [some cv, some (.int most), some (.obj S.length), some (.int (at_ : Nat)), some (.tup (ns.map .int)), x5] (S ++ [.lst fs]) = .ok (.lst (((ns.map D.int).filter p).map fun _ => .int 1)) (S ++ [.lst fs]) := by
    refine comp_flt (i_seq (e_var rfl) rfl) (by rw [List.length_map]; show _ ≤ 16777216; omega) fun x hx => ⟨[some cv, some (.int most), some (.obj S.length), some (.int (at_ : Nat)), some (.tup (ns.map .int)), some x], rfl, ?_, fun _ => e_cst⟩
    obtain ⟨i, him, rfl⟩ := List.mem_map.mp hx
    obtain ⟨i0, i1⟩ := hi i him
    have hli : i.toNat < cs.length := by omega
    have h1 := hv.ix fs [some cv, some (.int most), some (.obj S.length), some (.int (at_ : Nat)), some (.tup (ns.map .int)), some (.int i)] (.var 5) i cs[i.toNat] rfl (e_var rfl) (atI_of i0 hli)
    have h2 := hv.ix fs [some cv, some (.int most), some (.obj S.length), some (.int (at_ : Nat)), some (.tup (ns.map .int)), some (.int i)] (.var 3) (at_ : Nat) cs[at_] rfl (e_var rfl) hat
    have h3 := clash_ok (ad := ad) (S := S ++ [.lst fs]) hK (hc _ (List.getElem_mem hli)) (hc _ (List.getElem_mem ha))
    have e1 : p (.int i) = clashB cs[i.toNat] cs[at_] := by
      show clashB (cs[i.toNat]?.getD .non) cs[at_] = _
      rw [List.getElem?_eq_getElem hli]; rfl
    rw [e1]
    exact t_bl (e_cF (a_cons h1 (a_cons h2 a_nil)) h3)
  have hec : evT (Wq ad K) (.cmp .eq (.comp [5] (.cst (.int 1)) (.nm 5) (.seq (.var 4)) (.tst (.cF "_law_clash" (.cons (.ix (.var 0) (.var 5)) (.cons (.ix (.var 0) (.var 3)) .nil))))) (.lst .nil)) [some cv, some (.int most), some (.obj S.length), some (.int (at_ : Nat)), some (.tup (ns.map .int)), x5] (S ++ [.lst fs]) = .ok (((ns.map D.int).filter p).map fun _ => D.int 1).isEmpty (S ++ [.lst fs]) :=
    t_cmp hcp (e_lst a_nil (Nat.le_of_ble_eq_true rfl)) (eq_nil (dats_const _ rfl _))
  have hT := t_and (W := Wq ad K) hcl fun _ => hec
  by_cases hb : (decide ((ns.length : Int) < most) && (((ns.map D.int).filter p).map fun _ => D.int 1).isEmpty) = true
  · rw [hb] at hT
    simp only [Bool.and_eq_true, decide_eq_true_eq] at hb
    have hl : LotD cs.length (.tup (ns.map D.int ++ [.int (at_ : Nat)])) := ⟨ns ++ [(at_ : Int)], by simp, by simp; omega, fun i hm => by
      rcases List.mem_append.mp hm with h | h
      · exact hi i h
      · rw [List.mem_singleton.mp h]; omega⟩
    have happ : binop .add (.tup (ns.map D.int)) (.tup [.int (at_ : Nat)]) = some (.tup (ns.map D.int ++ [.int (at_ : Nat)])) := by
      show (if _ then _ else _) = _
      rw [if_pos (by rw [List.length_map]; show _ + 1 ≤ 16777216; omega)]
    refine ⟨x5, fs ++ [.tup (ns.map D.int ++ [.int (at_ : Nat)])], ?_, .inr ⟨_, rfl, hl⟩⟩
    refine ss_nx (st_ift hT (ss_exp (e_app (m := S.length) (ds := fs) (d := .tup (ns.map D.int ++ [.int (at_ : Nat)])) (e_var rfl) ⟨_, get_last⟩ (e_bin (d := .tup (ns.map D.int)) (d1 := .tup [.int (at_ : Nat)]) (e_var rfl) (e_tup (a_cons (e_var rfl) a_nil) (Nat.le_of_ble_eq_true rfl)) happ) get_last hf) ss_nil)) ?_
    rw [set_last]; exact ss_nil
  · rw [Bool.eq_false_iff.mpr hb] at hT
    exact ⟨x5, fs, ss_nx (st_if0 hT) ss_nil, .inl rfl⟩
theorem lots_ok {b m most : Int} {n : Nat} {cs : List D} {cv : D} (hK : 2 ≤ K) (hc : ∀ c ∈ cs, ChgD b m n c) (hl : cs.length ≤ 5) (hm : most ≤ 60) (hv : ∀ k, ChV (Wq ad k) (fun fs => S ++ [.lst fs]) cv cs) :
    ∃ ls, C ad K "_law_lots" [cv, .int most] S = .ok (.lst ls) S ∧ ls ≠ [] ∧ ls.length ≤ 32 ∧ ∀ l ∈ ls, LotD cs.length l := by
  obtain ⟨k, rfl⟩ : ∃ k, K = k + 1 := ⟨K - 1, by omega⟩
  have hp : ∀ i : Nat, i ≤ 5 → 2 ^ i ≤ 32 := fun i hi => by
    have : 2 ^ i ≤ 2 ^ 5 := Nat.pow_le_pow_right (by omega) hi
    simpa using this
  obtain ⟨e1, S1, h1, fs, x3, x4, x5, he1, hS1, hI⟩ := for_pos (W := Wq ad k) (t := .nm 3) (it := .rng (.cB .len (.cons (.var 0) .nil))) (b := lotB) (e := [some cv, some (.int most), some (.obj S.length), none, none, none]) (S0 := S ++ [.lst [.tup []]]) (S := S ++ [.lst [.tup []]]) (xs := itInts 0 cs.length)
    (P := fun i e S' => ∃ fs x3 x4 x5, e = [some cv, some (.int most), some (.obj S.length), x3, x4, x5] ∧ S' = S ++ [.lst fs] ∧ (i ≤ cs.length → LotsI cs.length fs (2 ^ i)))
    (i_rng (n := (cs.length : Int)) (e_cB (a_cons (e_var rfl) a_nil) ((hv k).len _)) (sm62 (by omega) (by omega)))
    ⟨[.tup []], none, none, none, rfl, rfl, fun _ => ⟨by simp, by simp, fun l hm => by rw [List.mem_singleton.mp hm]; exact ⟨[], rfl, by simp, fun i h => nomatch h⟩⟩⟩ fun i x hx e S' hP => by
      obtain ⟨fs, x3, x4, x5, rfl, rfl, hI⟩ := hP
      have hi : i < cs.length := by
        have := (List.getElem?_eq_some_iff.mp hx).1
        rwa [its_len] at this
      have hxi : x = .int (i : Nat) := by
        have := hx
        unfold itInts at this
        rw [List.getElem?_map, List.getElem?_range hi] at this
        cases this; simp
      subst hxi
      obtain ⟨f0, f1, f2⟩ := hI (by omega)
      have hf32 : fs.length ≤ 32 := Nat.le_trans f1 (hp i (by omega))
      refine ⟨[some cv, some (.int most), some (.obj S.length), some (.int (i : Nat)), x4, x5], rfl, ?_⟩
      have hcopy : evE (Wq ad k) (.comp [5] (.var 5) (.nm 5) (.seq (.var 2)) .yes) [some cv, some (.int most), some (.obj S.length), some (.int (i : Nat)), x4, x5] (S ++ [.lst fs]) = .ok (.lst fs) (S ++ [.lst fs]) := by
        have := comp_mapS (W := Wq ad k) (own := [5]) (t := .nm 5) (elt := .var 5) (it := .seq (.var 2)) (e := [some cv, some (.int most), some (.obj S.length), some (.int (i : Nat)), x4, x5]) (S := S ++ [.lst fs]) (s := (fs, some S.length)) (g := id) (i_obj (e_var rfl) get_last) (srcOk_some.mpr get_last) (by show fs.length ≤ 16777216; omega) fun x hx => ⟨[some cv, some (.int most), some (.obj S.length), some (.int (i : Nat)), x4, some x], rfl, e_var rfl⟩
        rw [List.map_id] at this
        exact this
      obtain ⟨e2, S2, h2, fs2, y4, y5, he2, hS2, g0, g1, g2⟩ := for_pos (W := Wq ad k) (t := .nm 4) (it := .seq (.comp [5] (.var 5) (.nm 5) (.seq (.var 2)) .yes)) (b := (.cons (.ifs (.and (.cmp .lt (.cB .len (.cons (.var 4) .nil)) (.var 1)) (.cmp .eq (.comp [5] (.cst (.int 1)) (.nm 5) (.seq (.var 4)) (.tst (.cF "_law_clash" (.cons (.ix (.var 0) (.var 5)) (.cons (.ix (.var 0) (.var 3)) .nil))))) (.lst .nil))) (.cons (.exp (.app (.var 2) (.bin .add (.var 4) (.tup (.cons (.var 3) .nil))))) .nil) .nil) .nil)) (e := [some cv, some (.int most), some (.obj S.length), some (.int (i : Nat)), x4, x5]) (S0 := S ++ [.lst fs]) (S := S ++ [.lst fs]) (xs := fs)
        (P := fun j e S' => ∃ fs' y4 y5, e = [some cv, some (.int most), some (.obj S.length), some (.int (i : Nat)), y4, y5] ∧ S' = S ++ [.lst fs'] ∧ fs' ≠ [] ∧ (j ≤ fs.length → fs'.length ≤ fs.length + j) ∧ ∀ l ∈ fs', LotD cs.length l)
        (i_seq hcopy rfl) ⟨fs, x4, x5, rfl, rfl, f0, by omega, f2⟩ fun j y hy e S' hQ => by
          obtain ⟨fs', y4, y5, rfl, rfl, q0, q1, q2⟩ := hQ
          have hj : j < fs.length := (List.getElem?_eq_some_iff.mp hy).1
          obtain ⟨ns, rfl, nl, ni⟩ := f2 y (List.mem_of_getElem? hy)
          have := q1 (by omega)
          obtain ⟨z5, fs'', k1, k2⟩ := lot_step (ad := ad) (K := k) (S := S) (fs := fs') (x5 := y5) (at_ := i) (ns := ns) (by omega) hc hm (hv k) hi nl ni (by show _ < 16777216; omega)
          refine ⟨_, rfl, _, _, k1, fs'', _, z5, rfl, rfl, ?_⟩
          rcases k2 with rfl | ⟨l, rfl, hl⟩
          · exact ⟨q0, fun _ => by omega, q2⟩
          · refine ⟨by simp, fun _ => by rw [List.length_append]; show _ + 1 ≤ _; omega, fun l' hm => ?_⟩
            rcases List.mem_append.mp hm with h | h
            · exact q2 l' h
            · rw [List.mem_singleton.mp h]; exact hl
      subst he2 hS2
      refine ⟨_, _, ss_nx h2 ss_nil, fs2, _, y4, y5, rfl, rfl, fun _ => ⟨g0, ?_, g2⟩⟩
      have := g1 (Nat.le_refl _)
      rw [Nat.pow_succ]; omega
  subst he1 hS1
  rw [its_len] at hI
  obtain ⟨f0, f1, f2⟩ := hI (Nat.le_refl _)
  have hf32 : fs.length ≤ 32 := Nat.le_trans f1 (hp _ hl)
  have hall : (fs.all fun d => (tupI d).isSome) = true := List.all_eq_true.mpr fun d hd => by
    obtain ⟨ns, rfl, _⟩ := f2 d hd
    rw [tupI_ints]; rfl
  have hsrt : srtop (S ++ [.lst fs]) (.obj S.length) = some (.lst (srtD fs)) := by
    have hlo : lstOf (S ++ [.lst fs]) (.obj S.length) = some fs := by
      show (match (S ++ [MO.lst fs])[S.length]? with | some (.lst ds) => some ds | _ => none) = _
      rw [get_last]
    unfold srtop
    rw [hlo]
    show (if (fs.all fun d => (tupI d).isSome) = true then some (D.lst (srtD fs)) else none) = _
    rw [if_pos hall]
  refine ⟨srtD fs, ?_, ?_, by rw [srt_len]; exact hf32, fun l hm => f2 l (srt_mem.mp hm)⟩
  · refine call_jk T__law_lots rfl ?_ ?_ (J' := [.lst fs])
    · show dats (srtD fs) = true
      exact dats_all.mpr fun d hd => by
        obtain ⟨ns, rfl, _⟩ := f2 d (srt_mem.mp hd)
        simp [D.dat, dats_ints]
    · show evSs (Wq ad k) e__law_lots [some cv, some (.int most), none, none, none, none] S = _
      unfold e__law_lots
      refine ss_asg (d := .obj S.length) (S1 := S ++ [.lst [.tup []]]) (e_mls (ds := [.tup []]) (a_cons (e_tup a_nil (Nat.le_of_ble_eq_true rfl)) a_nil) (Nat.le_of_ble_eq_true rfl)) rfl ?_
      refine ss_nx h1 (ss_ret (e_srt (d := .obj S.length) (e_var rfl) hsrt))
  · intro h
    have := congrArg List.length h
    rw [srt_len] at this
    exact f0 (List.length_eq_zero_iff.mp this)
end
end K10

set_option maxRecDepth 100000
set_option maxHeartbeats 1000000
namespace K10
open PySem L2 PyI
local macro_rules | `(tactic| walk_at "cm") => `(tactic| first
    | assumption
    | rfl
    | (simp only [eq_int, ne_int, lt_int, le_int, gt_int, ge_int, Option.some.injEq, decide_eq_true_eq, decide_eq_false_iff_not, beq_iff_eq, beq_eq_false_iff_ne, ne_eq, Bool.not_eq_true', Bool.not_eq_false']; omega)
    | exact Nat.le_of_ble_eq_true rfl
    | decide
    | omega)
local macro_rules | `(tactic| walk_at "ev") => `(tactic| first
    | with_reducible assumption
    | with_reducible exact e_cst
    | ((with_reducible apply e_var); rfl)
    | with_reducible exact a_nil
    | with_reducible exact o_no
    | with_reducible exact ss_nil
    | ((with_reducible apply a_cons); (· walk_at "ev"); (· walk_at "ev"))
    | ((with_reducible apply e_cF); (· walk_at "ev"); (· assumption))
    | ((with_reducible apply e_tup); (· walk_at "ev"); (· walk_at "cm"))
    | ((with_reducible apply e_lst); (· walk_at "ev"); (· walk_at "cm"))
    | ((with_reducible apply e_bin); (· walk_at "ev"); (· walk_at "ev"); (· walk_at "cm"))
    | ((with_reducible apply e_neg); walk_at "ev")
    | ((with_reducible apply e_cB); (· walk_at "ev"); (· walk_at "cm"))
    | ((with_reducible apply e_ixt); (· walk_at "ev"); (· walk_at "ev"); (· walk_at "cm"))
    | ((with_reducible apply e_ixl); (· walk_at "ev"); (· walk_at "ev"); (· walk_at "cm"))
    | ((with_reducible apply o_so); walk_at "ev")
    | ((with_reducible apply t_cmp); (· walk_at "ev"); (· walk_at "ev"); (· walk_at "cm"))
    | ((with_reducible apply e_cmp); (· walk_at "ev"); (· walk_at "ev"); (· walk_at "cm"))
    | ((with_reducible apply t_andf); walk_at "ev")
    | ((with_reducible apply t_andt); (· walk_at "ev"); (· walk_at "ev"))
    | ((with_reducible apply t_ort); walk_at "ev")
    | ((with_reducible apply t_orf); (· walk_at "ev"); (· walk_at "ev"))
    | ((with_reducible apply t_ntt); walk_at "ev")
    | ((with_reducible apply t_ntf); walk_at "ev")
    | ((with_reducible apply t_bl); walk_at "ev")
    | ((with_reducible apply e_isi); (· walk_at "ev"); (· walk_at "cm"))
    | ((with_reducible apply e_ifet); (· walk_at "ev"); (· walk_at "ev"))
    | ((with_reducible apply e_ifef); (· walk_at "ev"); (· walk_at "ev"))
    | ((with_reducible apply ss_ret); walk_at "ev")
    | ((with_reducible apply ss_asg); (· walk_at "ev"); (· rfl); (· walk_at "ev"))
    | ((with_reducible apply ss_par); (· walk_at "ev"); (· walk_at "ev"); (· walk_at "ev"))
    | ((with_reducible apply ss_iff); (· walk_at "ev"); (· walk_at "ev"))
    | ((with_reducible apply ss_ift); (· walk_at "ev"); (· walk_at "ev"))
    | ((with_reducible apply ss_ifn); (· walk_at "ev"); (· walk_at "ev"); (· walk_at "ev"))
    | ((with_reducible apply ss_exp); (· walk_at "ev"); (· walk_at "ev"))
    | assumption)
/-! ## schools -/
theorem bagJ_get {J : Store} {mo : MO} {S : Store} (b : Bag (J ++ [mo]) S) : S[J.length + 1]? = some mo := by
  obtain ⟨_, _, _, _, _, _, _, _, _, rfl⟩ := b.ex
  show (J ++ [mo])[J.length]? = _
  simp
theorem bagJ_set {J : Store} {mo mo' : MO} {S : Store} (b : Bag (J ++ [mo]) S) : Bag (J ++ [mo']) (S.set (J.length + 1) mo') := by
  obtain ⟨a, b1, c, cs, h1, h2, h3, h4, h5, rfl⟩ := b.ex
  refine ⟨a, b1, c, cs, h1, h2, h3, h4, h5, ?_⟩
  show (_ :: (J ++ [mo]).set J.length mo') = _
  rw [set_last]; rfl
theorem bagJ_new {J : Store} {mo : MO} {S : Store} (b : Bag J S) : Bag (J ++ [mo]) (S ++ [mo]) := by
  obtain ⟨a, b1, c, cs, h1, h2, h3, h4, h5, rfl⟩ := b.ex
  exact ⟨a, b1, c, cs, h1, h2, h3, h4, h5, rfl⟩
def nmsD : List D := [.str "ga", .str "gb", .str "gc", .str "gd", .str "ge"]
structure School (d : D) (mc : Nat) (p : D) (cs : List D) (most b r m : Int) (rs es : List D) : Prop where
  eq : d = .tup [p, .tup cs, .int most]
  pr : Proc p b r m rs es
  rne : rs ≠ []
  rle : rs.length ≤ 3
  ch : ∀ c ∈ cs, ChgD b m rs.length c
  nm : ∀ (i : Nat) (c : D), cs[i]? = some c → ∃ x w, c = D.tup [x, w] ∧ nmsD[i]? = some x
  cl : cs.length ≤ 5
  cm : 1 ≤ cs.length ∧ cs.length ≤ mc
  m0 : 1 ≤ most
  m1 : most ≤ 2
section
variable {ad : String → Nat} {k K : Nat} {J S : Store}
theorem ChgD.dat {b m : Int} {n : Nat} {d : D} (h : ChgD b m n d) : d.dat = true := by
  obtain ⟨x, w, rfl, hw⟩ := h
  simp [D.dat, dats, hw.dat]
theorem chv_obj {W : Wd} {S : Store} {m : Nat} {cs : List D} (h : S[m]? = some (.lst cs)) : ChV W (fun fs => S ++ [.lst fs]) (.obj m) cs := by
  have hg : ∀ fs, (S ++ [MO.lst fs])[m]? = some (.lst cs) := fun fs => by
    rw [List.getElem?_append_left (List.getElem?_eq_some_iff.mp h).1]; exact h
  refine ⟨fun fs => ?_, fun fs e X i c h0 hX ha => e_ixo (e_var h0) hX (hg fs) ha⟩
  show (asLst (S ++ [MO.lst fs]) (.obj m)).map _ = _
  have : asLst (S ++ [MO.lst fs]) (.obj m) = some cs := by
    show (match (S ++ [MO.lst fs])[m]? with | some (.lst ds) => some ds | _ => none) = _
    rw [hg]
  rw [this]; rfl
theorem chv_tup {W : Wd} {S : Store} {cs : List D} : ChV W (fun fs => S ++ [.lst fs]) (.tup cs) cs := ⟨fun fs => rfl, fun fs e X i c h0 hX ha => e_ixt (e_var h0) hX ha⟩
theorem school_ok {mc : Nat} (hK : 11 ≤ K) (h1 : 1 ≤ mc) (h5 : mc ≤ 5) (bg : Bag J S) : ∃ d S', C ad K "_law_school" [.obj 0, .int (mc : Nat)] S = .ok d S' ∧ Bag J S' ∧ ∃ p cs most b r m rs es, School d mc p cs most b r m rs es := by
  obtain ⟨k, rfl⟩ : ∃ k, K = k + 1 := ⟨K - 1, by omega⟩
  obtain ⟨p, S1, g1, b1, b, r, m, rs, es, P, r1, r3⟩ := proc_ok (ad := ad) (K := k) (by omega) bg
  have rne : rs ≠ [] := by intro h; rw [h] at r1; simp at r1
  have b2 : Bag (J ++ [.lst []]) (S1 ++ [.lst []]) := bagJ_new b1
  obtain ⟨v, S3, g3, b3, v0, v1⟩ := tk (ad := ad) (K := k) (m := (mc : Int)) (by omega) (by omega) (by omega) b2
  have hsl : evE (Wq ad k) (.sl (.lst (.cons (.cst (.str "ga")) (.cons (.cst (.str "gb")) (.cons (.cst (.str "gc")) (.cons (.cst (.str "gd")) (.cons (.cst (.str "ge")) .nil)))))) .no (.so (.bin .add (.cst (.int 1)) (.cF "_law_take" (.cons (.var 0) (.cons (.var 1) .nil)))))) [some (.obj 0), some (.int (mc : Nat)), some p, some (.obj (J.length + 1)), none, none] (S1 ++ [.lst []]) = .ok (.lst (cut nmsD none (some (1 + v)))) S3 := by
    have ha := add1 (v := v)
    exact e_slt (d := .lst nmsD) (l := none) (u := some (1 + v)) (by unfold nmsD; walk_at "ev") o_no (o_so (by walk_at "ev")) (fun _ h => nomatch h) rfl
  have hcl : (cut nmsD none (some (1 + v))).length ≤ 5 := cut_len nmsD none (some (1 + v))
  have hcm : ∀ d ∈ cut nmsD none (some (1 + v)), ∃ x : Str, d = .str x := fun d hd => by
    have := cut_mem hd
    unfold nmsD at this
    simp only [List.mem_cons, List.not_mem_nil, or_false] at this
    rcases this with h | h | h | h | h <;> exact ⟨_, h⟩
  obtain ⟨e4, S4, g4, cs, x4, he4, b4, l4, q4, w4⟩ := for_pos (W := Wq ad k) (t := .nm 4) (it := .seq (.sl (.lst (.cons (.cst (.str "ga")) (.cons (.cst (.str "gb")) (.cons (.cst (.str "gc")) (.cons (.cst (.str "gd")) (.cons (.cst (.str "ge")) .nil)))))) .no (.so (.bin .add (.cst (.int 1)) (.cF "_law_take" (.cons (.var 0) (.cons (.var 1) .nil))))))) (b := (.cons (.exp (.app (.var 3) (.tup (.cons (.var 4) (.cons (.cF "_law_what" (.cons (.var 0) (.cons (.var 2) .nil))) .nil))))) .nil)) (e := [some (.obj 0), some (.int (mc : Nat)), some p, some (.obj (J.length + 1)), none, none]) (S0 := S1 ++ [.lst []]) (S := S3) (xs := cut nmsD none (some (1 + v)))
    (P := fun i e S' => ∃ cs x4, e = [some (.obj 0), some (.int (mc : Nat)), some p, some (.obj (J.length + 1)), x4, none] ∧ Bag (J ++ [.lst cs]) S' ∧ cs.length = i ∧ (∀ c ∈ cs, ChgD b m rs.length c) ∧ ∀ (j : Nat) (c : D), cs[j]? = some c → ∃ x w, c = D.tup [x, w] ∧ (cut nmsD none (some (1 + v)))[j]? = some x)
    (i_seq hsl rfl) ⟨[], none, rfl, b3, rfl, (fun _ h => nomatch h), fun j c h => by simp at h⟩ fun i x hx e S' hP => by
      obtain ⟨cs, x4, rfl, b', l', q', w'⟩ := hP
      obtain ⟨y, rfl⟩ := hcm x (List.mem_of_getElem? hx)
      have hi : i < 5 := by
        have := (List.getElem?_eq_some_iff.mp hx).1
        omega
      obtain ⟨w, S2, g2, b2, q2⟩ := what_ok (ad := ad) (K := k) (by omega) P rne b'
      refine ⟨[some (.obj 0), some (.int (mc : Nat)), some p, some (.obj (J.length + 1)), some (.str y), none], rfl, _, _, ?_, cs ++ [.tup [.str y, w]], some (.str y), rfl, bagJ_set b2, by simp [l'], fun c hm => ?_, fun j c hj => ?_⟩
      · exact ss_exp (e_app (m := J.length + 1) (ds := cs) (d := .tup [.str y, w]) (e_var rfl) ⟨_, bagJ_get b'⟩ (e_tup (a_cons (e_var rfl) (a_cons (e_cF (ds := [.obj 0, p]) (a_cons (e_var rfl) (a_cons (e_var rfl) a_nil)) g2) a_nil)) (Nat.le_of_ble_eq_true rfl)) (bagJ_get b2) (by show _ < 16777216; omega)) ss_nil
      · rcases List.mem_append.mp hm with h | h
        · exact q' c h
        · rw [List.mem_singleton.mp h]; exact ⟨y, w, rfl, q2⟩
      · by_cases hjl : j < cs.length
        · rw [List.getElem?_append_left hjl] at hj
          exact w' j c hj
        · rw [List.getElem?_append_right (by omega)] at hj
          by_cases h0 : j - cs.length = 0
          · rw [h0] at hj; cases hj
            obtain rfl : j = i := by omega
            exact ⟨_, w, rfl, hx⟩
          · rw [List.getElem?_eq_none (by show 1 ≤ _; omega)] at hj; cases hj
  subst he4
  obtain ⟨u, S5, g5, b5, u0, u1⟩ := tk (ad := ad) (K := k) (m := 2) (by omega) (by decide) (by decide) b4
  obtain ⟨ls, g6, l60, l61, q6⟩ := lots_ok (ad := ad) (K := k) (S := S5) (most := 1 + u) (cv := .obj (J.length + 1)) (cs := cs) (by omega) q4 (by omega) (by omega) fun k => chv_obj (bagJ_get b5)
  have hlS : (S1).length = J.length + 1 := b1.len
  let most : Int := if ls.length ≤ 12 then 1 + u else 1
  have hmost : evE (Wq ad k) (.ife (.cmp .le (.cB .len (.cons (.cF "_law_lots" (.cons (.var 3) (.cons (.var 5) .nil))) .nil)) (.cst (.int 12))) (.var 5) (.cst (.int 1))) [some (.obj 0), some (.int (mc : Nat)), some p, some (.obj (J.length + 1)), x4, some (.int (1 + u))] S5 = .ok (.int most) S5 := by
    have hc : evT (Wq ad k) (.cmp .le (.cB .len (.cons (.cF "_law_lots" (.cons (.var 3) (.cons (.var 5) .nil))) .nil)) (.cst (.int 12))) [some (.obj 0), some (.int (mc : Nat)), some p, some (.obj (J.length + 1)), x4, some (.int (1 + u))] S5 = .ok (decide ((ls.length : Int) ≤ 12)) S5 :=
      t_cmp (d := .int ls.length) (d1 := .int 12) (e_cB (ds := [.lst ls]) (a_cons (e_cF (ds := [.obj (J.length + 1), .int (1 + u)]) (a_cons (e_var rfl) (a_cons (e_var rfl) a_nil)) g6) a_nil) rfl) e_cst rfl
    by_cases h : ls.length ≤ 12
    · rw [decide_eq_true (by omega)] at hc
      have : most = 1 + u := if_pos h
      rw [this]
      exact e_ifet hc (e_var rfl)
    · rw [decide_eq_false (by omega)] at hc
      have : most = 1 := if_neg h
      rw [this]
      exact e_ifef hc e_cst
  have hcsd : dats cs = true := dats_all.mpr fun c hm => (q4 c hm).dat
  obtain ⟨S6, g7, b7⟩ := call_bg (T := tabT rows) (con := conT (cons ad)) (k := k) (f := "_law_school") (ds := [.obj 0, .int (mc : Nat)]) (d := .tup [p, .tup cs, .int most]) (S := S) (S' := S5) (J := J) (J2 := [.lst cs]) T__law_school rfl (by simp [D.dat, dats, P.dat, hcsd]) bg b5 (by
    show evSs _ e__law_school [some (.obj 0), some (.int (mc : Nat)), none, none, none, none] S = _
    unfold e__law_school
    refine ss_par (d := p) (d1 := .obj (J.length + 1)) (S1 := S1) (S2 := S1 ++ [.lst []]) (e_cF (ds := [.obj 0]) (a_cons (e_var rfl) a_nil) g1) (by rw [← hlS]; exact e_mls a_nil (Nat.le_of_ble_eq_true rfl)) ?_
    refine ss_nx g4 ?_
    refine ss_asg (d := .int (1 + u)) (S1 := S5) (e_bin (d := .int 1) (d1 := .int u) e_cst (e_cF (ds := [.obj 0, .int 2]) (a_cons (e_var rfl) (a_cons e_cst a_nil)) g5) rfl) rfl ?_
    refine ss_ret (e_tup (ds := [p, .tup cs, .int most]) (a_cons (e_var rfl) (a_cons (e_cB (ds := [.obj (J.length + 1)]) (a_cons (e_var rfl) a_nil) ?_) (a_cons hmost a_nil))) (Nat.le_of_ble_eq_true rfl))
    show (asLst S5 (.obj (J.length + 1))).map D.tup = _
    have : asLst S5 (.obj (J.length + 1)) = some cs := by
      show (match S5[J.length + 1]? with | some (.lst ds) => some ds | _ => none) = _
      rw [bagJ_get b5]
    rw [this]; rfl)
  refine ⟨_, S6, g7, b7, p, cs, most, b, r, m, rs, es, rfl, P, rne, r3, q4, ?_, by omega, ?_, ?_, ?_⟩
  · intro i c hi
    obtain ⟨x, w, e, hx⟩ := w4 i c hi
    obtain ⟨n, hn⟩ : ∃ n : Nat, 1 + v = (n : Int) := ⟨(1 + v).toNat, by omega⟩
    have hn5 : n ≤ nmsD.length := by show n ≤ 5; omega
    rw [hn, cut_take hn5] at hx
    have hil : i < n := by
      have := (List.getElem?_eq_some_iff.mp hx).1
      rw [List.length_take] at this
      omega
    rw [List.getElem?_take_of_lt hil] at hx
    exact ⟨x, w, e, hx⟩
  · rw [l4]
    obtain ⟨n, hn⟩ : ∃ n : Nat, 1 + v = (n : Int) := ⟨(1 + v).toNat, by omega⟩
    have hn5 : n ≤ nmsD.length := by show n ≤ 5; omega
    rw [hn, cut_take hn5, List.length_take]
    have e5 : nmsD.length = 5 := rfl
    rw [e5] at hn5 ⊢
    omega
  · show 1 ≤ if ls.length ≤ 12 then 1 + u else 1
    split <;> omega
  · show (if ls.length ≤ 12 then 1 + u else 1) ≤ 2
    split <;> omega
end
end K10

set_option maxRecDepth 100000
set_option maxHeartbeats 1000000
namespace K10
open PySem L2 PyI
/-! ## lots in plain lists -/
/-- whether the changes i, j clash, i < j < 5 -/
def R (v : List Bool) (i j : Nat) : Bool := v.getD (j * (j - 1) / 2 + i) false
def lawN (v : List Bool) (most c : Nat) : List (List Nat) := (List.range c).foldl (fun found at_ => found ++ (found.filter fun lot => decide (lot.length < most) && lot.all fun one => !R v one at_).map (· ++ [at_])) [[]]
def nxt (lot : List Nat) : Nat := match lot.getLast? with
  | some i => i + 1
  | none => 0
def later (v : List Bool) (c : Nat) (line : List (List Nat)) : List (List Nat) := line.flatMap fun lot => (((List.range (c - nxt lot)).map (nxt lot + ·)).filter fun at_ => lot.all fun one => !R v one at_).map fun at_ => lot ++ [at_]
def prgN (v : List Bool) (c : Nat) : Nat → List (List Nat) × List (List Nat)
  | 0 => ([[]], [[]])
  | n + 1 => ((prgN v c n).1 ++ later v c (prgN v c n).2, later v c (prgN v c n).2)
/-- the order of lots -/
def nlt : List Nat → List Nat → Bool
  | [], [] => false
  | [], _ => true
  | _, [] => false
  | [a], [b] => decide (a < b)
  | [_], _ => true
  | _, [_] => false
  | [a, b], [c, d] => decide (a < c) || (decide (a = c) && decide (b < d))
  | _, _ => false
def U : List (List Nat) := [] :: ((List.range 5).map fun a => [a]) ++ (List.range 5).flatMap fun a => (List.range 5).map fun b => [a, b]
def enN (lot : List Nat) : D := .tup (lot.map fun i => .int (i : Nat))
def goodN (v : List Bool) (most c : Nat) (lot : List Nat) : Bool := U.contains lot && decide (lot.length ≤ most) && lot.all (fun i => decide (i < c)) && (match lot with
  | [a, b] => decide (a < b) && !R v a b
  | _ => true)
def chkN (v : List Bool) (most c : Nat) : Bool := (prgN v c most).1.isPerm (lawN v most c) && decide ((prgN v c most).1.Pairwise fun a b => nlt a b = true) && (prgN v c most).1.all (goodN v most c) && decide ((prgN v c most).1 ≠ [])
/-- brute force -/
def allB (p : Bool → Bool) : Bool := p true && p false
theorem allB_ok {p : Bool → Bool} (h : allB p = true) (b : Bool) : p b = true := by
  obtain ⟨h1, h2⟩ := Bool.and_eq_true_iff.mp h
  cases b <;> assumption
theorem chkN11 (v : List Bool) : chkN v 1 1 = true := by kernel_rfl
theorem chkN12 (v : List Bool) : chkN v 1 2 = true := by kernel_rfl
theorem chkN13 (v : List Bool) : chkN v 1 3 = true := by kernel_rfl
theorem chkN14 (v : List Bool) : chkN v 1 4 = true := by kernel_rfl
theorem chkN15 (v : List Bool) : chkN v 1 5 = true := by kernel_rfl
theorem chkA21 (a b c d e f g h i j : Bool) : (chkN [a, b, c, d, e, f, g, h, i, j] 2 1) = true := by kernel_rfl
theorem chkN21 (a b c d e f g h i j : Bool) : chkN [a, b, c, d, e, f, g, h, i, j] 2 1 = true := chkA21 a b c d e f g h i j
theorem chkA22 (b c d e f g h i j : Bool) : (allB fun a => chkN [a, b, c, d, e, f, g, h, i, j] 2 2) = true := by kernel_rfl
theorem chkN22 (a b c d e f g h i j : Bool) : chkN [a, b, c, d, e, f, g, h, i, j] 2 2 = true := allB_ok (chkA22 b c d e f g h i j) a
theorem chkA23 (d e f g h i j : Bool) : (allB fun a => allB fun b => allB fun c => chkN [a, b, c, d, e, f, g, h, i, j] 2 3) = true := by kernel_rfl
theorem chkN23 (a b c d e f g h i j : Bool) : chkN [a, b, c, d, e, f, g, h, i, j] 2 3 = true := allB_ok (allB_ok (allB_ok (chkA23 d e f g h i j) a) b) c
theorem chkA24 (g h i j : Bool) : (allB fun a => allB fun b => allB fun c => allB fun d => allB fun e => allB fun f => chkN [a, b, c, d, e, f, g, h, i, j] 2 4) = true := by kernel_rfl
theorem chkN24 (a b c d e f g h i j : Bool) : chkN [a, b, c, d, e, f, g, h, i, j] 2 4 = true := allB_ok (allB_ok (allB_ok (allB_ok (allB_ok (allB_ok (chkA24 g h i j) a) b) c) d) e) f
theorem chkA25_0 : (allB fun e => allB fun f => allB fun g => allB fun h => allB fun i => allB fun j => chkN [false, false, false, false, e, f, g, h, i, j] 2 5) = true := by kernel_rfl
theorem chkA25_1 : (allB fun e => allB fun f => allB fun g => allB fun h => allB fun i => allB fun j => chkN [true, false, false, false, e, f, g, h, i, j] 2 5) = true := by kernel_rfl
theorem chkA25_2 : (allB fun e => allB fun f => allB fun g => allB fun h => allB fun i => allB fun j => chkN [false, true, false, false, e, f, g, h, i, j] 2 5) = true := by kernel_rfl
theorem chkA25_3 : (allB fun e => allB fun f => allB fun g => allB fun h => allB fun i => allB fun j => chkN [true, true, false, false, e, f, g, h, i, j] 2 5) = true := by kernel_rfl
theorem chkA25_4 : (allB fun e => allB fun f => allB fun g => allB fun h => allB fun i => allB fun j => chkN [false, false, true, false, e, f, g, h, i, j] 2 5) = true := by kernel_rfl
theorem chkA25_5 : (allB fun e => allB fun f => allB fun g => allB fun h => allB fun i => allB fun j => chkN [true, false, true, false, e, f, g, h, i, j] 2 5) = true := by kernel_rfl
theorem chkA25_6 : (allB fun e => allB fun f => allB fun g => allB fun h => allB fun i => allB fun j => chkN [false, true, true, false, e, f, g, h, i, j] 2 5) = true := by kernel_rfl
theorem chkA25_7 : (allB fun e => allB fun f => allB fun g => allB fun h => allB fun i => allB fun j => chkN [true, true, true, false, e, f, g, h, i, j] 2 5) = true := by kernel_rfl
theorem chkA25_8 : (allB fun e => allB fun f => allB fun g => allB fun h => allB fun i => allB fun j => chkN [false, false, false, true, e, f, g, h, i, j] 2 5) = true := by kernel_rfl
theorem chkA25_9 : (allB fun e => allB fun f => allB fun g => allB fun h => allB fun i => allB fun j => chkN [true, false, false, true, e, f, g, h, i, j] 2 5) = true := by kernel_rfl
theorem chkA25_10 : (allB fun e => allB fun f => allB fun g => allB fun h => allB fun i => allB fun j => chkN [false, true, false, true, e, f, g, h, i, j] 2 5) = true := by kernel_rfl
theorem chkA25_11 : (allB fun e => allB fun f => allB fun g => allB fun h => allB fun i => allB fun j => chkN [true, true, false, true, e, f, g, h, i, j] 2 5) = true := by kernel_rfl
theorem chkA25_12 : (allB fun e => allB fun f => allB fun g => allB fun h => allB fun i => allB fun j => chkN [false, false, true, true, e, f, g, h, i, j] 2 5) = true := by kernel_rfl
theorem chkA25_13 : (allB fun e => allB fun f => allB fun g => allB fun h => allB fun i => allB fun j => chkN [true, false, true, true, e, f, g, h, i, j] 2 5) = true := by kernel_rfl
theorem chkA25_14 : (allB fun e => allB fun f => allB fun g => allB fun h => allB fun i => allB fun j => chkN [false, true, true, true, e, f, g, h, i, j] 2 5) = true := by kernel_rfl
theorem chkA25_15 : (allB fun e => allB fun f => allB fun g => allB fun h => allB fun i => allB fun j => chkN [true, true, true, true, e, f, g, h, i, j] 2 5) = true := by kernel_rfl
theorem chkN25 (a b c d e f g h i j : Bool) : chkN [a, b, c, d, e, f, g, h, i, j] 2 5 = true := by
  cases a <;> cases b <;> cases c <;> cases d
  · exact allB_ok (allB_ok (allB_ok (allB_ok (allB_ok (allB_ok (chkA25_0) e) f) g) h) i) j
  · exact allB_ok (allB_ok (allB_ok (allB_ok (allB_ok (allB_ok (chkA25_8) e) f) g) h) i) j
  · exact allB_ok (allB_ok (allB_ok (allB_ok (allB_ok (allB_ok (chkA25_4) e) f) g) h) i) j
  · exact allB_ok (allB_ok (allB_ok (allB_ok (allB_ok (allB_ok (chkA25_12) e) f) g) h) i) j
  · exact allB_ok (allB_ok (allB_ok (allB_ok (allB_ok (allB_ok (chkA25_2) e) f) g) h) i) j
  · exact allB_ok (allB_ok (allB_ok (allB_ok (allB_ok (allB_ok (chkA25_10) e) f) g) h) i) j
  · exact allB_ok (allB_ok (allB_ok (allB_ok (allB_ok (allB_ok (chkA25_6) e) f) g) h) i) j
  · exact allB_ok (allB_ok (allB_ok (allB_ok (allB_ok (allB_ok (chkA25_14) e) f) g) h) i) j
  · exact allB_ok (allB_ok (allB_ok (allB_ok (allB_ok (allB_ok (chkA25_1) e) f) g) h) i) j
  · exact allB_ok (allB_ok (allB_ok (allB_ok (allB_ok (allB_ok (chkA25_9) e) f) g) h) i) j
  · exact allB_ok (allB_ok (allB_ok (allB_ok (allB_ok (allB_ok (chkA25_5) e) f) g) h) i) j
  · exact allB_ok (allB_ok (allB_ok (allB_ok (allB_ok (allB_ok (chkA25_13) e) f) g) h) i) j
  · exact allB_ok (allB_ok (allB_ok (allB_ok (allB_ok (allB_ok (chkA25_3) e) f) g) h) i) j
  · exact allB_ok (allB_ok (allB_ok (allB_ok (allB_ok (allB_ok (chkA25_11) e) f) g) h) i) j
  · exact allB_ok (allB_ok (allB_ok (allB_ok (allB_ok (allB_ok (chkA25_7) e) f) g) h) i) j
  · exact allB_ok (allB_ok (allB_ok (allB_ok (allB_ok (allB_ok (chkA25_15) e) f) g) h) i) j
theorem chkN_ok {a b c d e f g h i j : Bool} {most n : Nat} (h0 : 1 ≤ most) (h1 : most ≤ 2) (h2 : 1 ≤ n) (h3 : n ≤ 5) : chkN [a, b, c, d, e, f, g, h, i, j] most n = true := by
  have hm : most = 1 ∨ most = 2 := by omega
  have hn : n = 1 ∨ n = 2 ∨ n = 3 ∨ n = 4 ∨ n = 5 := by omega
  rcases hm with rfl | rfl <;> rcases hn with rfl | rfl | rfl | rfl | rfl
  · exact chkN11 ..
  · exact chkN12 ..
  · exact chkN13 ..
  · exact chkN14 ..
  · exact chkN15 ..
  · exact chkN21 ..
  · exact chkN22 ..
  · exact chkN23 ..
  · exact chkN24 ..
  · exact chkN25 ..
theorem ordU : (U.all fun a => U.all fun b => (PySem.W.dataLe false keyLen (enN a) (enN b) == !nlt b a) && (!(!nlt b a && !nlt a b) || a == b) && (!nlt a b || !nlt b a)) = true := by decide +kernel
theorem ord_ok {a b : List Nat} (ha : a ∈ U) (hb : b ∈ U) : PySem.W.dataLe false keyLen (enN a) (enN b) = !nlt b a ∧ (nlt b a = false → nlt a b = false → a = b) ∧ (nlt a b = true → nlt b a = false) := by
  have := List.all_eq_true.mp (List.all_eq_true.mp ordU a ha) b hb
  simp only [Bool.and_eq_true, beq_iff_eq, Bool.or_eq_true, Bool.not_eq_true', Bool.and_eq_false_iff, Bool.not_eq_false'] at this
  obtain ⟨⟨h1, h2⟩, h3⟩ := this
  refine ⟨h1, fun e1 e2 => ?_, fun e => ?_⟩
  · rcases h2 with (h | h) | h
    · rw [e1] at h; cases h
    · rw [e2] at h; cases h
    · exact h
  · rcases h3 with h | h
    · rw [e] at h; cases h
    · exact h
structure LotsN (v : List Bool) (most c : Nat) (P : List (List Nat)) : Prop where
  perm : P.Perm (lawN v most c)
  pw : P.Pairwise fun a b => nlt a b = true
  good : ∀ l ∈ P, goodN v most c l = true
  ne : P ≠ []
theorem lotsN_ok {a b c d e f g h i j : Bool} {most n : Nat} (h0 : 1 ≤ most) (h1 : most ≤ 2) (h2 : 1 ≤ n) (h3 : n ≤ 5) : LotsN [a, b, c, d, e, f, g, h, i, j] most n (prgN [a, b, c, d, e, f, g, h, i, j] n most).1 := by
  have := chkN_ok (a := a) (b := b) (c := c) (d := d) (e := e) (f := f) (g := g) (h := h) (i := i) (j := j) h0 h1 h2 h3
  unfold chkN at this
  simp only [Bool.and_eq_true, decide_eq_true_eq] at this
  exact ⟨List.isPerm_iff.mp this.1.1.1, this.1.1.2, List.all_eq_true.mp this.1.2, this.2⟩
theorem good_U {v : List Bool} {most c : Nat} {l : List Nat} (h : goodN v most c l = true) : l ∈ U := by
  unfold goodN at h
  simp only [Bool.and_eq_true] at h
  simpa using h.1.1.1
theorem enN_inj {a b : List Nat} (h : enN a = enN b) : a = b := by
  unfold enN at h
  have h : a.map (fun i => D.int (i : Nat)) = b.map fun i => D.int (i : Nat) := D.tup.inj h
  induction a generalizing b with
  | nil => cases b with | nil => rfl | cons _ _ => cases h
  | cons x a ih =>
    cases b with
    | nil => cases h
    | cons y b =>
      obtain ⟨h1, h2⟩ := List.cons.inj h
      have := D.int.inj h1
      rw [ih (congrArg D.tup h2) h2, show x = y by omega]
/-- sorted: in the program's order -/
theorem srt_is {v : List Bool} {most c : Nat} {P : List (List Nat)} (H : LotsN v most c P) : srtD ((lawN v most c).map enN) = P.map enN := by
  have T : PySem.W.TotalLe (PySem.W.dataLe false keyLen) := PySem.W.sortLe_total _ _ _
  unfold srtD
  have hp : (((lawN v most c).map enN).mergeSort (PySem.W.dataLe false keyLen)).Perm (P.map enN) := (List.mergeSort_perm _ _).trans (H.perm.symm.map enN)
  refine List.Perm.eq_of_pairwise (le := fun a b => PySem.W.dataLe false keyLen a b = true) (fun a b ha hb h1 h2 => ?_) (List.pairwise_mergeSort T.trans (fun a b => ?_) _) ?_ hp
  · obtain ⟨x, hx, rfl⟩ := List.mem_map.mp (hp.mem_iff.mp ha)
    obtain ⟨y, hy, rfl⟩ := List.mem_map.mp hb
    have ux := good_U (H.good x hx)
    have uy := good_U (H.good y hy)
    have o1 := ord_ok ux uy
    have o2 := ord_ok uy ux
    rw [o1.1, Bool.not_eq_true'] at h1
    rw [o2.1, Bool.not_eq_true'] at h2
    rw [o1.2.1 h1 h2]
  · rcases T.total a b with h | h
    · exact Bool.or_eq_true_iff.mpr (.inl h)
    · exact Bool.or_eq_true_iff.mpr (.inr h)
  · rw [List.pairwise_map]
    refine H.pw.imp_of_mem fun {a b} ha hb h => ?_
    have o := ord_ok (good_U (H.good a ha)) (good_U (H.good b hb))
    rw [o.1, o.2.2 h]; rfl
end K10

set_option maxRecDepth 100000
set_option maxHeartbeats 1000000
namespace K10
open PySem L2 PyI
def cb (cs : List D) (i j : Nat) : Bool := clashB (cs[i]?.getD .non) (cs[j]?.getD .non)
def vOf (cs : List D) : List Bool := [cb cs 0 1, cb cs 0 2, cb cs 1 2, cb cs 0 3, cb cs 1 3, cb cs 2 3, cb cs 0 4, cb cs 1 4, cb cs 2 4, cb cs 3 4]
theorem R_vOf {cs : List D} {i j : Nat} (h : i < j) (h4 : j < 5) : R (vOf cs) i j = cb cs i j := by
  have hj : j = 1 ∨ j = 2 ∨ j = 3 ∨ j = 4 := by omega
  rcases hj with rfl | rfl | rfl | rfl
  · obtain rfl : i = 0 := by omega
    rfl
  · have : i = 0 ∨ i = 1 := by omega
    rcases this with rfl | rfl <;> rfl
  · have : i = 0 ∨ i = 1 ∨ i = 2 := by omega
    rcases this with rfl | rfl | rfl <;> rfl
  · have : i = 0 ∨ i = 1 ∨ i = 2 ∨ i = 3 := by omega
    rcases this with rfl | rfl | rfl | rfl <;> rfl
def okN (v : List Bool) (most at_ : Nat) (lot : List Nat) : Bool := decide (lot.length < most) && lot.all fun one => !R v one at_
def stN (v : List Bool) (most : Nat) (found : List (List Nat)) (at_ : Nat) : List (List Nat) := found ++ (found.filter (okN v most at_)).map (· ++ [at_])
theorem lawN_eq {v : List Bool} {most c : Nat} : lawN v most c = (List.range c).foldl (stN v most) [[]] := rfl
theorem lawN_succ {v : List Bool} {most c : Nat} : lawN v most (c + 1) = stN v most (lawN v most c) c := by
  rw [lawN_eq, List.range_succ, List.foldl_append]; rfl
theorem lawN_in {v : List Bool} {most : Nat} : ∀ (c : Nat), (lawN v most c).length ≤ 2 ^ c ∧ ∀ l ∈ lawN v most c, l.length ≤ c ∧ ∀ i ∈ l, i < c
  | 0 => ⟨by simp [lawN], fun l hl => by
    have : l = [] := by simpa [lawN] using hl
    rw [this]; exact ⟨Nat.le_refl 0, fun i h => nomatch h⟩⟩
  | c + 1 => by
    obtain ⟨h1, h2⟩ := lawN_in (v := v) (most := most) c
    rw [lawN_succ]
    unfold stN
    refine ⟨?_, fun l hl => ?_⟩
    · rw [List.length_append, List.length_map, Nat.pow_succ]
      have := List.length_filter_le (okN v most c) (lawN v most c)
      omega
    · rcases List.mem_append.mp hl with h | h
      · obtain ⟨q1, q2⟩ := h2 l h
        exact ⟨by omega, fun i hi => by have := q2 i hi; omega⟩
      · obtain ⟨l', hl', rfl⟩ := List.mem_map.mp h
        obtain ⟨q1, q2⟩ := h2 l' (List.mem_filter.mp hl').1
        refine ⟨by rw [List.length_append]; show _ + 1 ≤ _; omega, fun i hi => ?_⟩
        rcases List.mem_append.mp hi with h | h
        · have := q2 i h; omega
        · rw [List.mem_singleton.mp h]; omega
section
variable {ad : String → Nat} {k K : Nat} {J S : Store}
theorem lot_stepN {b m : Int} {n most : Nat} {cs fs : List D} {cv : D} {at_ : Nat} {lot : List Nat} {x5 : Option D} (hK : 1 ≤ K) (hc : ∀ c ∈ cs, ChgD b m n c) (h4 : cs.length ≤ 5) (hv : ChV (Wq ad K) (fun fs => S ++ [.lst fs]) cv cs) (ha : at_ < cs.length) (hi : ∀ i ∈ lot, i < at_) (hln : lot.length ≤ 8) (hf : fs.length < SZ) :
    ∃ y5, evSs (Wq ad K) (.cons (.ifs (.and (.cmp .lt (.cB .len (.cons (.var 4) .nil)) (.var 1)) (.cmp .eq (.comp [5] (.cst (.int 1)) (.nm 5) (.seq (.var 4)) (.tst (.cF "_law_clash" (.cons (.ix (.var 0) (.var 5)) (.cons (.ix (.var 0) (.var 3)) .nil))))) (.lst .nil))) (.cons (.exp (.app (.var 2) (.bin .add (.var 4) (.tup (.cons (.var 3) .nil))))) .nil) .nil) .nil)
      [some cv, some (.int (most : Nat)), some (.obj S.length), some (.int (at_ : Nat)), some (enN lot), x5] (S ++ [.lst fs]) = .ok (.nx [some cv, some (.int (most : Nat)), some (.obj S.length), some (.int (at_ : Nat)), some (enN lot), y5]) (S ++ [.lst (if okN (vOf cs) most at_ lot = true then fs ++ [enN (lot ++ [at_])] else fs)]) := by
  have hat : atI cs (at_ : Int) = some cs[at_] := by
    have := atI_of (ds := cs) (v := (at_ : Int)) (by omega) (by simpa using ha)
    simpa using this
  have hcl : evT (Wq ad K) (.cmp .lt (.cB .len (.cons (.var 4) .nil)) (.var 1)) [some cv, some (.int (most : Nat)), some (.obj S.length), some (.int (at_ : Nat)), some (enN lot), x5] (S ++ [.lst fs]) = .ok (decide ((lot.length : Int) < (most : Nat))) (S ++ [.lst fs]) := by
    refine t_cmp (d := .int lot.length) (d1 := .int (most : Nat)) (e_cB (ds := [enN lot]) (a_cons (e_var rfl) a_nil) ?_) (e_var rfl) (lt_int _ _)
    show some (D.int (lot.map fun i => D.int (i : Nat)).length) = _
    rw [List.length_map]
  let p : D → Bool := fun x => match x with
    | .int i => R (vOf cs) i.toNat at_
    | _ => false
  have hcp : evE (Wq ad K) (.comp [5] (.cst (.int 1)) (.nm 5) (.seq (.var 4)) (.tst (.cF "_law_clash" (.cons (.ix (.var 0) (.var 5)) (.cons (.ix (.var 0) (.var 3)) .nil))))) [some cv, some (.int (most : Nat)), some (.obj S.length), some (.int (at_ : Nat)), some (enN lot), x5] (S ++ [.lst fs]) = .ok (.lst (((lot.map fun i => D.int (i : Nat)).filter p).map fun _ => .int 1)) (S ++ [.lst fs]) := by
    refine comp_flt (i_seq (d := enN lot) (e_var rfl) rfl) (by rw [List.length_map]; show _ ≤ 16777216; omega) fun x hx => ⟨[some cv, some (.int (most : Nat)), some (.obj S.length), some (.int (at_ : Nat)), some (enN lot), some x], rfl, ?_, fun _ => e_cst⟩
    obtain ⟨i, him, rfl⟩ := List.mem_map.mp hx
    have hia := hi i him
    have hli : i < cs.length := by omega
    have h1 := hv.ix fs [some cv, some (.int (most : Nat)), some (.obj S.length), some (.int (at_ : Nat)), some (enN lot), some (.int (i : Nat))] (.var 5) (i : Nat) cs[i] rfl (e_var rfl) (by
      have := atI_of (ds := cs) (v := (i : Int)) (by omega) (by simpa using hli)
      simpa using this)
    have h2 := hv.ix fs [some cv, some (.int (most : Nat)), some (.obj S.length), some (.int (at_ : Nat)), some (enN lot), some (.int (i : Nat))] (.var 3) (at_ : Nat) cs[at_] rfl (e_var rfl) hat
    have h3 := clash_ok (ad := ad) (S := S ++ [.lst fs]) hK (hc _ (List.getElem_mem hli)) (hc _ (List.getElem_mem ha))
    have e1 : p (.int (i : Nat)) = clashB cs[i] cs[at_] := by
      show R (vOf cs) ((i : Nat) : Int).toNat at_ = _
      rw [show ((i : Nat) : Int).toNat = i by omega, R_vOf hia (by omega)]
      unfold cb
      rw [List.getElem?_eq_getElem hli, List.getElem?_eq_getElem ha]; rfl
    rw [e1]
    exact t_bl (e_cF (a_cons h1 (a_cons h2 a_nil)) h3)
  have hec : evT (Wq ad K) (.cmp .eq (.comp [5] (.cst (.int 1)) (.nm 5) (.seq (.var 4)) (.tst (.cF "_law_clash" (.cons (.ix (.var 0) (.var 5)) (.cons (.ix (.var 0) (.var 3)) .nil))))) (.lst .nil)) [some cv, some (.int (most : Nat)), some (.obj S.length), some (.int (at_ : Nat)), some (enN lot), x5] (S ++ [.lst fs]) = .ok (((lot.map fun i => D.int (i : Nat)).filter p).map fun _ => D.int 1).isEmpty (S ++ [.lst fs]) :=
    t_cmp hcp (e_lst a_nil (Nat.le_of_ble_eq_true rfl)) (eq_nil (dats_const _ rfl _))
  have hT := t_and (W := Wq ad K) hcl fun _ => hec
  have e2 : (((lot.map fun i => D.int (i : Nat)).filter p).map fun _ => D.int 1).isEmpty = lot.all fun one => !R (vOf cs) one at_ := by
    rw [isE_map]
    clear hT hec hcp hcl hi hln
    induction lot with
    | nil => rfl
    | cons i lot ih =>
      rw [List.map_cons, List.filter_cons, List.all_cons]
      have e : p (.int (i : Nat)) = R (vOf cs) i at_ := by
        show R (vOf cs) ((i : Nat) : Int).toNat at_ = _
        rw [show ((i : Nat) : Int).toNat = i by omega]
      rw [e]
      cases R (vOf cs) i at_ with
      | true => rfl
      | false => rw [if_neg (by decide), ih]; rfl
  have e3 : (decide ((lot.length : Int) < (most : Nat)) && (((lot.map fun i => D.int (i : Nat)).filter p).map fun _ => D.int 1).isEmpty) = okN (vOf cs) most at_ lot := by
    rw [e2]
    unfold okN
    congr 1
    by_cases h : lot.length < most
    · rw [decide_eq_true h, decide_eq_true (by omega)]
    · rw [decide_eq_false h, decide_eq_false (by omega)]
  rw [e3] at hT
  cases hb : okN (vOf cs) most at_ lot with
  | true =>
    rw [hb] at hT
    have happ : binop .add (enN lot) (.tup [.int (at_ : Nat)]) = some (enN (lot ++ [at_])) := by
      show (if _ then _ else _) = _
      rw [if_pos (by rw [List.length_map]; show _ + 1 ≤ 16777216; omega)]
      unfold enN
      rw [List.map_append]; rfl
    refine ⟨x5, ?_⟩
    rw [if_pos rfl]
    refine ss_nx (st_ift hT (ss_exp (e_app (m := S.length) (ds := fs) (d := enN (lot ++ [at_])) (e_var rfl) ⟨_, get_last⟩ (e_bin (d := enN lot) (d1 := .tup [.int (at_ : Nat)]) (e_var rfl) (e_tup (a_cons (e_var rfl) a_nil) (Nat.le_of_ble_eq_true rfl)) happ) get_last hf) ss_nil)) ?_
    rw [set_last]; exact ss_nil
  | false =>
    rw [hb] at hT
    rw [if_neg Bool.false_ne_true]
    exact ⟨x5, ss_nx (st_if0 hT) ss_nil⟩
theorem enN_dat (l : List Nat) : (enN l).dat = true := dats_all.mpr fun d hd => by
  obtain ⟨i, _, rfl⟩ := List.mem_map.mp hd
  rfl
theorem enNs_dat (ls : List (List Nat)) : dats (ls.map enN) = true := dats_all.mpr fun d hd => by
  obtain ⟨l, _, rfl⟩ := List.mem_map.mp hd
  exact enN_dat l
theorem enN_tupI (l : List Nat) : (tupI (enN l)).isSome = true := by
  have := tupI_ints (l.map fun i : Nat => (i : Int))
  rw [List.map_map] at this
  have e : enN l = .tup (l.map (D.int ∘ fun i : Nat => (i : Int))) := rfl
  rw [e, this]; rfl
theorem lotsN_law {b m : Int} {n most : Nat} {cs : List D} {cv : D} (hK : 2 ≤ K) (hc : ∀ c ∈ cs, ChgD b m n c) (h4 : cs.length ≤ 5) (hv : ∀ k, ChV (Wq ad k) (fun fs => S ++ [.lst fs]) cv cs) :
    C ad K "_law_lots" [cv, .int (most : Nat)] S = .ok (.lst (srtD ((lawN (vOf cs) most cs.length).map enN))) S := by
  obtain ⟨k, rfl⟩ : ∃ k, K = k + 1 := ⟨K - 1, by omega⟩
  have hp : ∀ i : Nat, i ≤ 5 → 2 ^ i ≤ 32 := fun i hi => by
    have : 2 ^ i ≤ 2 ^ 5 := Nat.pow_le_pow_right (by omega) hi
    simpa using this
  obtain ⟨e1, S1, h1, x3, x4, x5, he1, hS1⟩ := for_pos (W := Wq ad k) (t := .nm 3) (it := .rng (.cB .len (.cons (.var 0) .nil))) (b := lotB) (e := [some cv, some (.int (most : Nat)), some (.obj S.length), none, none, none]) (S0 := S ++ [.lst [.tup []]]) (S := S ++ [.lst [.tup []]]) (xs := itInts 0 cs.length)
    (P := fun i e S' => ∃ x3 x4 x5, e = [some cv, some (.int (most : Nat)), some (.obj S.length), x3, x4, x5] ∧ S' = S ++ [.lst ((lawN (vOf cs) most i).map enN)])
    (i_rng (n := (cs.length : Int)) (e_cB (a_cons (e_var rfl) a_nil) ((hv k).len _)) (sm62 (by omega) (by omega)))
    ⟨none, none, none, rfl, rfl⟩ fun i x hx e S' hP => by
      obtain ⟨x3, x4, x5, rfl, rfl⟩ := hP
      have hi : i < cs.length := by
        have := (List.getElem?_eq_some_iff.mp hx).1
        rwa [its_len] at this
      have hxi : x = .int (i : Nat) := by
        have := hx
        unfold itInts at this
        rw [List.getElem?_map, List.getElem?_range hi] at this
        cases this; simp
      subst hxi
      obtain ⟨f1, f2⟩ := lawN_in (v := vOf cs) (most := most) i
      have hsucc := lawN_succ (v := vOf cs) (most := most) (c := i)
      generalize lawN (vOf cs) most i = fs at f1 f2 hsucc
      have hf16 : fs.length ≤ 32 := Nat.le_trans f1 (hp i (by omega))
      refine ⟨[some cv, some (.int (most : Nat)), some (.obj S.length), some (.int (i : Nat)), x4, x5], rfl, ?_⟩
      have hcopy : evE (Wq ad k) (.comp [5] (.var 5) (.nm 5) (.seq (.var 2)) .yes) [some cv, some (.int (most : Nat)), some (.obj S.length), some (.int (i : Nat)), x4, x5] (S ++ [.lst (fs.map enN)]) = .ok (.lst (fs.map enN)) (S ++ [.lst (fs.map enN)]) := by
        have := comp_mapS (W := Wq ad k) (own := [5]) (t := .nm 5) (elt := .var 5) (it := .seq (.var 2)) (e := [some cv, some (.int (most : Nat)), some (.obj S.length), some (.int (i : Nat)), x4, x5]) (S := S ++ [.lst (fs.map enN)]) (s := (fs.map enN, some S.length)) (g := id) (i_obj (e_var rfl) get_last) (srcOk_some.mpr get_last) (by show (fs.map enN).length ≤ 16777216; rw [List.length_map]; omega) fun x hx => ⟨[some cv, some (.int (most : Nat)), some (.obj S.length), some (.int (i : Nat)), x4, some x], rfl, e_var rfl⟩
        rw [List.map_id] at this
        exact this
      obtain ⟨e2, S2, h2, y4, y5, he2, hS2⟩ := for_pos (W := Wq ad k) (t := .nm 4) (it := .seq (.comp [5] (.var 5) (.nm 5) (.seq (.var 2)) .yes)) (b := (.cons (.ifs (.and (.cmp .lt (.cB .len (.cons (.var 4) .nil)) (.var 1)) (.cmp .eq (.comp [5] (.cst (.int 1)) (.nm 5) (.seq (.var 4)) (.tst (.cF "_law_clash" (.cons (.ix (.var 0) (.var 5)) (.cons (.ix (.var 0) (.var 3)) .nil))))) (.lst .nil))) (.cons (.exp (.app (.var 2) (.bin .add (.var 4) (.tup (.cons (.var 3) .nil))))) .nil) .nil) .nil)) (e := [some cv, some (.int (most : Nat)), some (.obj S.length), some (.int (i : Nat)), x4, x5]) (S0 := S ++ [.lst (fs.map enN)]) (S := S ++ [.lst (fs.map enN)]) (xs := fs.map enN)
        (P := fun j e S' => ∃ y4 y5, e = [some cv, some (.int (most : Nat)), some (.obj S.length), some (.int (i : Nat)), y4, y5] ∧ S' = S ++ [.lst ((fs ++ ((fs.take j).filter (okN (vOf cs) most i)).map (· ++ [i])).map enN)])
        (i_seq hcopy rfl) ⟨x4, x5, rfl, by simp⟩ fun j y hy e S' hQ => by
          obtain ⟨y4, y5, rfl, rfl⟩ := hQ
          rw [List.getElem?_map] at hy
          obtain ⟨lot, hlot, rfl⟩ := Option.map_eq_some_iff.mp hy
          have hlm := List.mem_of_getElem? hlot
          obtain ⟨l1, l2⟩ := f2 lot hlm
          have hle : (((fs.take j).filter (okN (vOf cs) most i)).map (· ++ [i])).length ≤ 32 := by
            rw [List.length_map]
            exact Nat.le_trans (List.length_filter_le _ _) (by rw [List.length_take]; omega)
          obtain ⟨z5, k1⟩ := lot_stepN (ad := ad) (K := k) (S := S) (most := most) (fs := (fs ++ ((fs.take j).filter (okN (vOf cs) most i)).map (· ++ [i])).map enN) (x5 := y5) (at_ := i) (lot := lot) (by omega) hc h4 (hv k) hi l2 (by omega) (by rw [List.length_map, List.length_append]; show _ < 16777216; omega)
          refine ⟨[some cv, some (.int (most : Nat)), some (.obj S.length), some (.int (i : Nat)), some (enN lot), y5], rfl, _, _, k1, some (enN lot), z5, rfl, ?_⟩
          rw [List.take_add_one, hlot, List.filter_append]
          cases hb : okN (vOf cs) most i lot with
          | true =>
            rw [if_pos rfl]
            have e1 : List.filter (okN (vOf cs) most i) (Option.toList (some lot)) = [lot] := by
              show List.filter _ [lot] = _
              rw [List.filter_cons, if_pos hb]; rfl
            rw [e1]
            simp
          | false =>
            rw [if_neg Bool.false_ne_true]
            have e1 : List.filter (okN (vOf cs) most i) (Option.toList (some lot)) = [] := by
              show List.filter _ [lot] = _
              rw [List.filter_cons, if_neg (by rw [hb]; exact Bool.false_ne_true)]; rfl
            rw [e1, List.append_nil]
      subst he2 hS2
      rw [List.length_map, List.take_length] at h2
      refine ⟨_, _, ss_nx h2 ss_nil, _, y4, y5, rfl, ?_⟩
      rw [hsucc]; rfl
  subst he1 hS1
  rw [its_len] at h1
  have hall : (((lawN (vOf cs) most cs.length).map enN).all fun d => (tupI d).isSome) = true := List.all_eq_true.mpr fun d hd => by
    obtain ⟨l, _, rfl⟩ := List.mem_map.mp hd
    exact enN_tupI l
  have hsrt : srtop (S ++ [.lst ((lawN (vOf cs) most cs.length).map enN)]) (.obj S.length) = some (.lst (srtD ((lawN (vOf cs) most cs.length).map enN))) := by
    have hlo : lstOf (S ++ [.lst ((lawN (vOf cs) most cs.length).map enN)]) (.obj S.length) = some ((lawN (vOf cs) most cs.length).map enN) := by
      show (match (S ++ [MO.lst ((lawN (vOf cs) most cs.length).map enN)])[S.length]? with | some (.lst ds) => some ds | _ => none) = _
      rw [get_last]
    unfold srtop
    rw [hlo]
    show (if (((lawN (vOf cs) most cs.length).map enN).all fun d => (tupI d).isSome) = true then some (D.lst (srtD ((lawN (vOf cs) most cs.length).map enN))) else none) = _
    rw [if_pos hall]
  refine call_jk T__law_lots rfl ?_ ?_ (J' := [.lst ((lawN (vOf cs) most cs.length).map enN)])
  · show dats (srtD ((lawN (vOf cs) most cs.length).map enN)) = true
    exact dats_all.mpr fun d hd => dats_all.mp (enNs_dat _) d (srt_mem.mp hd)
  · show evSs (Wq ad k) e__law_lots [some cv, some (.int (most : Nat)), none, none, none, none] S = _
    unfold e__law_lots
    refine ss_asg (d := .obj S.length) (S1 := S ++ [.lst [.tup []]]) (e_mls (ds := [.tup []]) (a_cons (e_tup a_nil (Nat.le_of_ble_eq_true rfl)) a_nil) (Nat.le_of_ble_eq_true rfl)) rfl ?_
    exact ss_nx h1 (ss_ret (e_srt (d := .obj S.length) (e_var rfl) hsrt))
end
end K10

set_option maxRecDepth 100000
set_option maxHeartbeats 1000000
namespace K10
open PySem L2 PyI
theorem clash_symm (a b : D) : clashB a b = clashB b a := by
  unfold clashB
  have e1 : ((whatOf a).1 == ("add" : Str) || (whatOf b).1 == ("add" : Str)) = ((whatOf b).1 == ("add" : Str) || (whatOf a).1 == ("add" : Str)) := Bool.or_comm _ _
  have e2 : (((whatOf a).1 == ("end" : Str)) == ((whatOf b).1 == ("end" : Str))) = (((whatOf b).1 == ("end" : Str)) == ((whatOf a).1 == ("end" : Str))) := by
    cases (whatOf a).1 == ("end" : Str) <;> cases (whatOf b).1 == ("end" : Str) <;> rfl
  have e3 : ((whatOf a).2 == (whatOf b).2) = ((whatOf b).2 == (whatOf a).2) := by
    by_cases h : (whatOf a).2 = (whatOf b).2
    · rw [h]
    · rw [beq_eq_false_iff_ne.mpr h, beq_eq_false_iff_ne.mpr (Ne.symm h)]
  rw [e1, e2, e3]
theorem cb_symm (cs : List D) (i j : Nat) : cb cs i j = cb cs j i := clash_symm _ _
def plD (w : Str) (i : Int) : D := if w = ("add" : Str) then .non else .tup [.str (if w = ("end" : Str) then "end" else "rule"), .int i]
section
variable {ad : String → Nat} {k K : Nat} {J S : Store}
theorem place_is {w : Str} {i : Int} {r : List D} (hK : 1 ≤ K) : C ad K "place_of" [.tup (.str w :: .int i :: r)] S = .ok (plD w i) S := by
  obtain ⟨k, rfl⟩ : ∃ k, K = k + 1 := ⟨K - 1, by omega⟩
  refine call_rt T_place_of rfl ?_ rfl
  show evSs _ e_place_of [some (.tup (.str w :: .int i :: r))] S = _
  unfold e_place_of plD
  have h0 : evE (Wq ad k) (.ix (.var 0) (.cst (.int 0))) [some (.tup (.str w :: .int i :: r))] S = .ok (.str w) S := e_ixt (ds := .str w :: .int i :: r) (n := 0) (e_var rfl) e_cst (atI_of (ds := .str w :: .int i :: r) (v := 0) (by omega) (by simp))
  have h1 : evE (Wq ad k) (.ix (.var 0) (.cst (.int 1))) [some (.tup (.str w :: .int i :: r))] S = .ok (.int i) S := e_ixt (ds := .str w :: .int i :: r) (n := 1) (e_var rfl) e_cst (atI_of (ds := .str w :: .int i :: r) (v := 1) (by omega) (by simp))
  by_cases ha : w = ("add" : Str)
  · rw [if_pos ha]
    exact ss_ift (t_cmp h0 e_cst (by rw [eq_str, ha]; rfl)) (ss_ret e_cst)
  · rw [if_neg ha]
    refine ss_iff (t_cmp h0 e_cst (by rw [eq_str, beq_eq_false_iff_ne.mpr ha])) (ss_ret (e_tup (a_cons ?_ (a_cons h1 a_nil)) (Nat.le_of_ble_eq_true rfl)))
    by_cases he : w = ("end" : Str)
    · rw [if_pos he]
      exact e_ifet (t_cmp h0 e_cst (by rw [eq_str, he]; rfl)) e_cst
    · rw [if_neg he]
      exact e_ifef (t_cmp h0 e_cst (by rw [eq_str, beq_eq_false_iff_ne.mpr he])) e_cst
theorem plD_dat (w : Str) (i : Int) : (plD w i).dat = true ∧ (plD w i).flat 64 = true := by
  unfold plD
  split
  · exact ⟨rfl, rfl⟩
  · exact ⟨rfl, by simp [D.flat, flats]⟩
theorem plD_eq (w w' : Str) (i j : Int) : (!(plD w i).isNon && (plD w i).eqv (plD w' j)) = (!(w == ("add" : Str) || w' == ("add" : Str)) && ((w == ("end" : Str)) == (w' == ("end" : Str)) && i == j)) := by
  unfold plD
  by_cases h1 : w = ("add" : Str)
  · rw [if_pos h1, h1]; rfl
  · rw [if_neg h1]
    have e1 : (w == ("add" : Str)) = false := beq_eq_false_iff_ne.mpr h1
    rw [e1]
    by_cases h2 : w' = ("add" : Str)
    · rw [if_pos h2, h2]; rfl
    · rw [if_neg h2]
      have e2 : (w' == ("add" : Str)) = false := beq_eq_false_iff_ne.mpr h2
      rw [e2]
      have hs : (("end" : Str) == ("rule" : Str)) = false := by decide
      have hs2 : (("rule" : Str) == ("end" : Str)) = false := by decide
      by_cases h3 : w = ("end" : Str) <;> by_cases h4 : w' = ("end" : Str)
      · simp [h3, h4, D.isNon, D.eqv, eqvs]
      · have e4 : (w' == ("end" : Str)) = false := beq_eq_false_iff_ne.mpr h4
        simp [h3, h4, e4, D.isNon, D.eqv, eqvs, hs]
      · have e3 : (w == ("end" : Str)) = false := beq_eq_false_iff_ne.mpr h3
        simp [h3, h4, e3, D.isNon, D.eqv, eqvs, hs2]
      · have e3 : (w == ("end" : Str)) = false := beq_eq_false_iff_ne.mpr h3
        have e4 : (w' == ("end" : Str)) = false := beq_eq_false_iff_ne.mpr h4
        simp [h3, h4, e3, e4, D.isNon, D.eqv, eqvs]
theorem do_clash_ok {b m : Int} {n : Nat} {x y : D} (hK : 2 ≤ K) (hx : ChgD b m n x) (hy : ChgD b m n y) : C ad K "do_clash" [x, y] S = .ok (.bl (clashB x y)) S := by
  obtain ⟨k, rfl⟩ : ∃ k, K = k + 1 := ⟨K - 1, by omega⟩
  obtain ⟨n1, w1, rfl, h1⟩ := hx
  obtain ⟨n2, w2, rfl, h2⟩ := hy
  obtain ⟨a, i, r, rfl⟩ := h1.sh
  obtain ⟨a2, i2, r2, rfl⟩ := h2.sh
  refine call_rt T_do_clash rfl ?_ rfl
  show evSs _ e_do_clash [some (.tup [.str n1, .tup (.str a :: .int i :: r)]), some (.tup [.str n2, .tup (.str a2 :: .int i2 :: r2)])] S = _
  unfold e_do_clash
  have p1 : evE (Wq ad k) (.cF "place_of" (.cons (.ix (.var 0) (.cst (.int 1))) .nil)) [some (.tup [.str n1, .tup (.str a :: .int i :: r)]), some (.tup [.str n2, .tup (.str a2 :: .int i2 :: r2)])] S = .ok (plD a i) S := e_cF (ds := [.tup (.str a :: .int i :: r)]) (a_cons (e_ixt (ds := [.str n1, .tup (.str a :: .int i :: r)]) (n := 1) (e_var rfl) e_cst rfl) a_nil) (place_is (by omega))
  have p2 : evE (Wq ad k) (.cF "place_of" (.cons (.ix (.var 1) (.cst (.int 1))) .nil)) [some (.tup [.str n1, .tup (.str a :: .int i :: r)]), some (.tup [.str n2, .tup (.str a2 :: .int i2 :: r2)])] S = .ok (plD a2 i2) S := e_cF (ds := [.tup (.str a2 :: .int i2 :: r2)]) (a_cons (e_ixt (ds := [.str n2, .tup (.str a2 :: .int i2 :: r2)]) (n := 1) (e_var rfl) e_cst rfl) a_nil) (place_is (by omega))
  have hn : cmpop .nisn (plD a i) .non = some (!(plD a i).isNon) := by
    unfold plD; split <;> rfl
  have he : cmpop .eq (plD a i) (plD a2 i2) = some ((plD a i).eqv (plD a2 i2)) := by
    show (if _ then _ else _) = _
    rw [if_pos (by rw [(plD_dat a i).1, (plD_dat a2 i2).1, (plD_dat a i).2]; rfl)]
  have key := e_and (t := !(plD a i).isNon) (t1 := (plD a i).eqv (plD a2 i2)) (e_cmp (W := Wq ad k) p1 e_cst hn) fun _ => e_cmp p1 p2 he
  rw [plD_eq] at key
  exact ss_ret key
/-! ## the program's lots -/
abbrev loE (cv : D) (most : Nat) (found lineV : D) (x4 x5 x6 x7 : Option D) : PyI.Env := [some cv, some (.int (most : Nat)), some found, some lineV, x4, x5, x6, x7, none]
def inB7 : Sms := (.cons (.ifs (.nt (.tst (.cB .any (.cons (.comp [8] (.cF "do_clash" (.cons (.ix (.var 0) (.var 7)) (.cons (.ix (.var 0) (.var 8)) .nil))) (.nm 8) (.seq (.var 6)) .yes) .nil)))) (.cons (.exp (.app (.var 5) (.tup (.star (.var 6) (.cons (.var 7) .nil))))) .nil) .nil) .nil)
def inB6 : Sms := (.cons (.for (.nm 7) (.rng2 (.ife (.cmp .ne (.var 6) (.tup .nil)) (.bin .add (.ix (.var 6) (.neg (.cst (.int 1)))) (.cst (.int 1))) (.cst (.int 0))) (.cB .len (.cons (.var 0) .nil))) inB7) .nil)
theorem any_map2 {α : Type} (p : α → Bool) (xs : List α) : biop S .any [.lst (xs.map fun x => D.bl (p x))] = some (.bl (xs.any p)) := by
  show (blsOf _).map _ = _
  rw [blsOf_map]
  show some (D.bl ((xs.map p).any id)) = _
  rw [List.any_map]; rfl
/-- one place more, or not -/
theorem at_step {b m : Int} {n most q : Nat} {cs ds : List D} {lot : List Nat} {at_ : Nat} {found lineV : D} {x4 x7 : Option D} (hK : 2 ≤ K) (hc : ∀ c ∈ cs, ChgD b m n c) (h4 : cs.length ≤ 5) (ha : at_ < cs.length) (hi : ∀ i ∈ lot, i < at_) (hln : lot.length ≤ 8) (hq : q = S.length) (hf : ds.length < SZ) :
    evSs (Wq ad K) inB7 (loE (.tup cs) most found lineV x4 (some (.obj q)) (some (enN lot)) (some (.int (at_ : Nat)))) (S ++ [.lst ds]) = .ok (.nx (loE (.tup cs) most found lineV x4 (some (.obj q)) (some (enN lot)) (some (.int (at_ : Nat))))) (S ++ [.lst (if (lot.all fun one => !R (vOf cs) one at_) = true then ds ++ [enN (lot ++ [at_])] else ds)]) := by
  subst hq
  have gt : ∀ j : Nat, j < cs.length → ∃ h : j < cs.length, atI cs (j : Int) = some cs[j] := fun j hj => ⟨hj, by
    have := atI_of (ds := cs) (v := (j : Int)) (by omega) (by simpa using hj)
    simpa using this⟩
  have hcm : evE (Wq ad K) (.comp [8] (.cF "do_clash" (.cons (.ix (.var 0) (.var 7)) (.cons (.ix (.var 0) (.var 8)) .nil))) (.nm 8) (.seq (.var 6)) .yes) (loE (.tup cs) most found lineV x4 (some (.obj S.length)) (some (enN lot)) (some (.int (at_ : Nat)))) (S ++ [.lst ds]) = .ok (.lst (lot.map fun i => .bl (R (vOf cs) i at_))) (S ++ [.lst ds]) := by
    have e1 : (lot.map fun i => D.bl (R (vOf cs) i at_)) = (lot.map fun i => D.int (i : Nat)).map fun d => match d with
      | .int i => .bl (R (vOf cs) i.toNat at_)
      | d => d := by
      rw [List.map_map]
      refine List.map_congr_left fun i _ => ?_
      show _ = D.bl (R (vOf cs) ((i : Nat) : Int).toNat at_)
      rw [show ((i : Nat) : Int).toNat = i by omega]
    rw [e1]
    refine comp_map (i_seq (d := enN lot) (e_var rfl) rfl) (by rw [List.length_map]; show _ ≤ 16777216; omega) fun x hx => ⟨[some (.tup cs), some (.int (most : Nat)), some found, some lineV, x4, some (.obj S.length), some (enN lot), some (.int (at_ : Nat)), some x], rfl, ?_⟩
    obtain ⟨i, him, rfl⟩ := List.mem_map.mp hx
    have hia := hi i him
    obtain ⟨h1, g1⟩ := gt i (by omega)
    obtain ⟨h2, g2⟩ := gt at_ ha
    have h3 := do_clash_ok (ad := ad) (S := S ++ [.lst ds]) hK (hc _ (List.getElem_mem h2)) (hc _ (List.getElem_mem h1))
    show evE _ _ _ _ = .ok (.bl (R (vOf cs) ((i : Nat) : Int).toNat at_)) _
    have e2 : R (vOf cs) ((i : Nat) : Int).toNat at_ = clashB cs[at_] cs[i] := by
      rw [show ((i : Nat) : Int).toNat = i by omega, R_vOf hia (by omega), cb_symm]
      unfold cb
      rw [List.getElem?_eq_getElem h1, List.getElem?_eq_getElem h2]; rfl
    rw [e2]
    exact e_cF (a_cons (e_ixt (e_var rfl) (e_var rfl) g2) (a_cons (e_ixt (e_var rfl) (e_var rfl) g1) a_nil)) h3
  have hT := t_nt (t_bl (e_cB (a_cons hcm a_nil) (any_map2 _ _)))
  have e3 : (!(lot.any fun i => R (vOf cs) i at_)) = lot.all fun one => !R (vOf cs) one at_ := by
    rw [List.all_eq_not_any_not]; simp
  rw [e3] at hT
  unfold inB7
  cases hb : lot.all fun one => !R (vOf cs) one at_ with
  | true =>
    rw [hb] at hT
    rw [if_pos rfl]
    have e4 : D.tup ((lot.map fun i => D.int (i : Nat)) ++ [.int (at_ : Nat)]) = enN (lot ++ [at_]) := by
      unfold enN; rw [List.map_append]; rfl
    have key := e_app (W := Wq ad K) (m := S.length) (e := loE (.tup cs) most found lineV x4 (some (.obj S.length)) (some (enN lot)) (some (.int (at_ : Nat)))) (a := .var 5) (b := (.tup (.star (.var 6) (.cons (.var 7) .nil)))) (d := enN (lot ++ [at_])) (S := S ++ [.lst ds]) (S1 := S ++ [.lst ds]) (S2 := S ++ [.lst ds]) (ds := ds) (e_var rfl) ⟨_, get_last⟩ (by
      rw [← e4]
      exact e_tup (a_start (xs := lot.map fun i => D.int (i : Nat)) (e_var rfl) (a_cons (e_var rfl) a_nil)) (by rw [List.length_append, List.length_map]; show _ + 1 ≤ 16777216; omega)) get_last hf
    rw [set_last] at key
    exact ss_nx (st_ift hT (ss_exp key ss_nil)) ss_nil
  | false =>
    rw [hb] at hT
    rw [if_neg Bool.false_ne_true]
    exact ss_nx (st_if0 hT) ss_nil
end
end K10

set_option maxRecDepth 100000
set_option maxHeartbeats 1000000
namespace K10
open PySem L2 PyI
theorem snoc_cases {α : Type} (l : List α) : l = [] ∨ ∃ (gs : List α) (x : α), l = gs ++ [x] := by
  rcases List.eq_nil_or_concat l with h | ⟨gs, x, h⟩
  · exact .inl h
  · exact .inr ⟨gs, x, by simpa using h⟩
theorem objLs_last {S : Store} {ds : List D} : objLs (S ++ [.lst ds]) (.obj S.length) = some ds := by
  show (match (S ++ [MO.lst ds])[S.length]? with | some (.lst ds) => some ds | _ => none) = _
  rw [get_last]
def extN (v : List Bool) (c i : Nat) (lot : List Nat) : List (List Nat) := (((List.range i).map (nxt lot + ·)).filter fun at_ => lot.all fun one => !R v one at_).map fun at_ => lot ++ [at_]
theorem later_eq {v : List Bool} {c : Nat} {line : List (List Nat)} : later v c line = line.flatMap fun lot => extN v c (c - nxt lot) lot := rfl
def LG (c r : Nat) (line : List (List Nat)) : Prop := ∀ lot ∈ line, (∀ i ∈ lot, i < nxt lot) ∧ nxt lot ≤ c ∧ lot.length ≤ r
theorem nxt_snoc (lot : List Nat) (a : Nat) : nxt (lot ++ [a]) = a + 1 := by unfold nxt; simp
theorem LG.later {v : List Bool} {c r : Nat} {line : List (List Nat)} (h : LG c r line) : LG c (r + 1) (later v c line) := fun l hl => by
  obtain ⟨lot, hm, hl⟩ := List.mem_flatMap.mp hl
  obtain ⟨a, ha, rfl⟩ := List.mem_map.mp hl
  obtain ⟨ha, _⟩ := List.mem_filter.mp ha
  obtain ⟨i, hi, rfl⟩ := List.mem_map.mp ha
  have hi := List.mem_range.mp hi
  obtain ⟨h1, h2, h3⟩ := h lot hm
  rw [nxt_snoc]
  refine ⟨fun j hj => ?_, by omega, by rw [List.length_append]; show _ + 1 ≤ _; omega⟩
  rcases List.mem_append.mp hj with hj | hj
  · have := h1 j hj; omega
  · rw [List.mem_singleton.mp hj]; omega
theorem ext_len {v : List Bool} {c i : Nat} {lot : List Nat} : (extN v c i lot).length ≤ i := by
  unfold extN
  rw [List.length_map]
  refine Nat.le_trans (List.length_filter_le _ _) ?_
  rw [List.length_map, List.length_range]
  exact Nat.le_refl _
theorem later_len {v : List Bool} {c : Nat} (h4 : c ≤ 5) : ∀ {line : List (List Nat)}, (later v c line).length ≤ line.length * 5
  | [] => by simp [later]
  | l :: line => by
    have := later_len (v := v) h4 (line := line)
    have h2 := ext_len (v := v) (c := c) (i := c - nxt l) (lot := l)
    rw [later_eq, List.flatMap_cons, List.length_append, List.length_cons]
    rw [later_eq] at this
    omega
theorem prgN_len {v : List Bool} {c : Nat} (h4 : c ≤ 5) : ∀ n, (prgN v c n).2.length ≤ 5 ^ n ∧ (prgN v c n).1.length ≤ 5 ^ (n + 1)
  | 0 => by simp [prgN]
  | n + 1 => by
    obtain ⟨h1, h2⟩ := prgN_len (v := v) h4 n
    have h3 := later_len (v := v) h4 (line := (prgN v c n).2)
    have e1 : (prgN v c (n + 1)).2 = later v c (prgN v c n).2 := rfl
    have e2 : (prgN v c (n + 1)).1 = (prgN v c n).1 ++ later v c (prgN v c n).2 := rfl
    rw [e1, e2, List.length_append]
    rw [Nat.pow_succ] at h2 ⊢
    rw [Nat.pow_succ, Nat.pow_succ]
    omega
theorem prgN_LG {v : List Bool} {c : Nat} : ∀ n, LG c n (prgN v c n).2
  | 0 => fun l hl => by
    have : l = [] := by simpa [prgN] using hl
    subst this
    exact ⟨fun i h => (nomatch h), Nat.zero_le _, Nat.le_refl 0⟩
  | n + 1 => (prgN_LG n).later
section
variable {ad : String → Nat} {k K : Nat} {J S : Store}
theorem nxt_ev {W : Wd} {most : Nat} {cv found lineV : D} {x4 x5 x7 : Option D} {lot : List Nat} {S : Store} : evE W (.ife (.cmp .ne (.var 6) (.tup .nil)) (.bin .add (.ix (.var 6) (.neg (.cst (.int 1)))) (.cst (.int 1))) (.cst (.int 0))) (loE cv most found lineV x4 x5 (some (enN lot)) x7) S = .ok (.int (nxt lot : Nat)) S := by
  have hne : evT W (.cmp .ne (.var 6) (.tup .nil)) (loE cv most found lineV x4 x5 (some (enN lot)) x7) S = .ok (!(lot.map fun i => D.int (i : Nat)).isEmpty) S := t_cmp (d := enN lot) (d1 := .tup []) (e_var rfl) (e_tup a_nil (Nat.le_of_ble_eq_true rfl)) (ne_nilt (enN_dat lot))
  rcases snoc_cases lot with rfl | ⟨l, a, rfl⟩
  · exact e_ifef hne e_cst
  · have e1 : (!((l ++ [a]).map fun i => D.int (i : Nat)).isEmpty) = true := by simp
    rw [e1] at hne
    have hat : atI ((l ++ [a]).map fun i => D.int (i : Nat)) (-1) = some (.int (a : Nat)) := by rw [List.map_append]; exact atI_last
    have hadd : binop .add (.int (a : Nat)) (.int 1) = some (.int (nxt (l ++ [a]) : Nat)) := by
      rw [nxt_snoc]; rfl
    exact e_ifet hne (e_bin (e_ixt (ds := (l ++ [a]).map fun i => D.int (i : Nat)) (e_var rfl) (e_neg e_cst) hat) e_cst hadd)
theorem lot_ext {b m : Int} {n most : Nat} {cs ds : List D} {lot : List Nat} {found lineV : D} {x4 x7 : Option D} (hK : 2 ≤ K) (hc : ∀ c ∈ cs, ChgD b m n c) (h4 : cs.length ≤ 5) (hi : ∀ i ∈ lot, i < nxt lot) (hn : nxt lot ≤ cs.length) (hln : lot.length ≤ 8) (hf : ds.length ≤ 100000) :
    ∃ y7, evSs (Wq ad K) inB6 (loE (.tup cs) most found lineV x4 (some (.obj S.length)) (some (enN lot)) x7) (S ++ [.lst ds]) = .ok (.nx (loE (.tup cs) most found lineV x4 (some (.obj S.length)) (some (enN lot)) y7)) (S ++ [.lst (ds ++ (extN (vOf cs) cs.length (cs.length - nxt lot) lot).map enN)]) := by
  obtain ⟨e1, S1, h1, y7, rfl, rfl⟩ := for_pos (W := Wq ad K) (t := .nm 7) (it := .rng2 (.ife (.cmp .ne (.var 6) (.tup .nil)) (.bin .add (.ix (.var 6) (.neg (.cst (.int 1)))) (.cst (.int 1))) (.cst (.int 0))) (.cB .len (.cons (.var 0) .nil))) (b := inB7) (e := loE (.tup cs) most found lineV x4 (some (.obj S.length)) (some (enN lot)) x7) (S0 := S ++ [.lst ds]) (S := S ++ [.lst ds]) (xs := itInts (nxt lot : Nat) (cs.length - nxt lot))
    (P := fun i e S' => ∃ y7, e = loE (.tup cs) most found lineV x4 (some (.obj S.length)) (some (enN lot)) y7 ∧ S' = S ++ [.lst (ds ++ (extN (vOf cs) cs.length i lot).map enN)])
    (by
      have := i_rng2 (W := Wq ad K) (e := loE (.tup cs) most found lineV x4 (some (.obj S.length)) (some (enN lot)) x7) (S := S ++ [.lst ds]) (S1 := S ++ [.lst ds]) (S2 := S ++ [.lst ds]) (y := .cB .len (.cons (.var 0) .nil)) (a := (nxt lot : Nat)) (b := (cs.length : Nat)) nxt_ev (e_cB (ds := [.tup cs]) (a_cons (e_var rfl) a_nil) rfl) (sm62 (by omega) (by omega)) (sm62 (by omega) (by omega))
      have e : ((cs.length : Int) - (nxt lot : Nat)).toNat = cs.length - nxt lot := by omega
      rw [e] at this
      exact this) ⟨x7, rfl, by simp [extN]⟩ fun i x hx e S' hP => by
      obtain ⟨y7, rfl, rfl⟩ := hP
      have hil : i < cs.length - nxt lot := by
        have := (List.getElem?_eq_some_iff.mp hx).1
        rwa [its_len] at this
      have hxi : x = .int ((nxt lot + i : Nat) : Int) := by
        have := hx
        unfold itInts at this
        rw [List.getElem?_map, List.getElem?_range hil] at this
        cases this
        show D.int _ = D.int _
        congr 1
      subst hxi
      have hle := ext_len (v := vOf cs) (c := cs.length) (i := i) (lot := lot)
      have hs := at_step (ad := ad) (K := K) (S := S) (most := most) (found := found) (lineV := lineV) (x4 := x4) (x7 := none) (q := S.length) (ds := ds ++ (extN (vOf cs) cs.length i lot).map enN) (at_ := nxt lot + i) (lot := lot) hK hc h4 (by omega) (fun j hj => by have := hi j hj; omega) hln rfl (by rw [List.length_append, List.length_map]; show _ < 16777216; omega)
      refine ⟨loE (.tup cs) most found lineV x4 (some (.obj S.length)) (some (enN lot)) (some (.int ((nxt lot + i : Nat) : Int))), rfl, _, _, hs, _, rfl, ?_⟩
      have e2 : extN (vOf cs) cs.length (i + 1) lot = extN (vOf cs) cs.length i lot ++ if (lot.all fun one => !R (vOf cs) one (nxt lot + i)) = true then [lot ++ [nxt lot + i]] else [] := by
        unfold extN
        rw [List.range_succ, List.map_append, List.filter_append, List.map_append]
        congr 1
        show List.map _ (List.filter _ [nxt lot + i]) = _
        rw [List.filter_cons]
        split <;> rfl
      rw [e2, List.map_append]
      split
      · rw [List.append_assoc]; rfl
      · rw [List.map_nil, List.append_nil]
  rw [its_len] at h1
  exact ⟨y7, ss_nx h1 ss_nil⟩
def roundB : Sms := (.cons (.asg (.nm 5) (.mls .nil)) (.cons (.for (.nm 6) (.seq (.var 3)) inB6) (.cons (.par 2 3 (.bin .add (.var 2) (.var 5)) (.var 5)) .nil)))
theorem round_ok {b m : Int} {n most r : Nat} {cs : List D} {found line : List (List Nat)} {lineV : D} {o : Option Nat} {x4 x5 x6 x7 : Option D} (hK : 2 ≤ K) (hc : ∀ c ∈ cs, ChgD b m n c) (h4 : cs.length ≤ 5) (hs : ∀ x, srcOf (S ++ [x]) lineV = some (line.map enN, o)) (hk : ∀ x, srcOk (S ++ [x]) (line.map enN, o) = true) (hl : LG cs.length r line) (hr : r ≤ 8) (hll : line.length ≤ 1000) (hfl : found.length ≤ 10000) :
    ∃ y6 y7, evSs (Wq ad K) roundB (loE (.tup cs) most (.lst (found.map enN)) lineV x4 x5 x6 x7) S = .ok (.nx (loE (.tup cs) most (.lst ((found ++ later (vOf cs) cs.length line).map enN)) (.obj S.length) x4 (some (.obj S.length)) y6 y7)) (S ++ [.lst ((later (vOf cs) cs.length line).map enN)]) := by
  obtain ⟨e1, S1, h1, y6, y7, rfl, rfl⟩ := for_posS (W := Wq ad K) (t := .nm 6) (it := .seq (.var 3)) (b := inB6) (e := loE (.tup cs) most (.lst (found.map enN)) lineV x4 (some (.obj S.length)) x6 x7) (S0 := S ++ [.lst []]) (S := S ++ [.lst []]) (s := (line.map enN, o))
    (P := fun i e S' => ∃ y6 y7, e = loE (.tup cs) most (.lst (found.map enN)) lineV x4 (some (.obj S.length)) y6 y7 ∧ S' = S ++ [.lst ((later (vOf cs) cs.length (line.take i)).map enN)])
    (i_seq (e_var rfl) (hs _)) (fun i e S' h => by
      obtain ⟨_, _, _, rfl⟩ := h
      exact hk _) ⟨x6, x7, rfl, by simp [later]⟩ fun i x hx e S' hP => by
      obtain ⟨y6, y7, rfl, rfl⟩ := hP
      rw [List.getElem?_map] at hx
      obtain ⟨lot, hlot, rfl⟩ := Option.map_eq_some_iff.mp hx
      obtain ⟨l1, l2, l3⟩ := hl lot (List.mem_of_getElem? hlot)
      have hle := later_len (v := vOf cs) h4 (line := line.take i)
      have htk : (line.take i).length ≤ 1000 := by rw [List.length_take]; omega
      obtain ⟨z7, k1⟩ := lot_ext (ad := ad) (K := K) (S := S) (most := most) (found := .lst (found.map enN)) (lineV := lineV) (x4 := x4) (x7 := y7) (lot := lot) (ds := (later (vOf cs) cs.length (line.take i)).map enN) hK hc h4 l1 l2 (by omega) (by rw [List.length_map]; omega)
      refine ⟨loE (.tup cs) most (.lst (found.map enN)) lineV x4 (some (.obj S.length)) (some (enN lot)) y7, rfl, _, _, k1, _, z7, rfl, ?_⟩
      rw [List.take_add_one, hlot, later_eq, later_eq, List.flatMap_append, List.map_append]
      have e9 : List.flatMap (fun lot => extN (vOf cs) cs.length (cs.length - nxt lot) lot) (some lot).toList = extN (vOf cs) cs.length (cs.length - nxt lot) lot := by
        show List.flatMap _ [lot] = _
        rw [List.flatMap_cons, List.flatMap_nil, List.append_nil]
      rw [e9]
  rw [List.length_map, List.take_length] at h1
  have hle := later_len (v := vOf cs) h4 (line := line)
  refine ⟨y6, y7, ?_⟩
  unfold roundB
  refine ss_asg (d := .obj S.length) (S1 := S ++ [.lst []]) (e_mls a_nil (Nat.le_of_ble_eq_true rfl)) rfl ?_
  refine ss_nx h1 ?_
  have hadd : binS (S ++ [.lst ((later (vOf cs) cs.length line).map enN)]) .add (.lst (found.map enN)) (.obj S.length) = some (.lst ((found ++ later (vOf cs) cs.length line).map enN)) := by
    have e0 : binop .add (.lst (found.map enN)) (.obj S.length) = none := rfl
    unfold binS
    rw [e0, objLs_last]
    show (if _ then _ else _) = _
    rw [if_pos (by rw [List.length_map, List.length_map]; show _ ≤ 16777216; omega), List.map_append]
  exact ss_par (d1 := .obj S.length) (e_binS (d := .lst (found.map enN)) (d1 := .obj S.length) (e_var rfl) (e_var rfl) hadd) (e_var rfl) ss_nil
theorem lots_of_ok {b m : Int} {n most : Nat} {cs : List D} (hK : 3 ≤ K) (hc : ∀ c ∈ cs, ChgD b m n c) (h4 : cs.length ≤ 5) (hm : most ≤ 2) : C ad K "lots_of" [.tup cs, .int (most : Nat)] S = .ok (.ftup ((prgN (vOf cs) cs.length most).1.map enN)) S := by
  obtain ⟨k, rfl⟩ : ∃ k, K = k + 1 := ⟨K - 1, by omega⟩
  obtain ⟨e1, S1, h1, lineV, Jx, x4, x5, x6, x7, rfl, rfl, _, _⟩ := for_pos (W := Wq ad k) (t := .nm 4) (it := .rng (.var 1)) (b := roundB) (e := loE (.tup cs) most (.lst [.tup []]) (.lst [.tup []]) none none none none) (S0 := S) (S := S) (xs := itInts 0 most)
    (P := fun i e S' => ∃ lineV Jx x4 x5 x6 x7, e = loE (.tup cs) most (.lst ((prgN (vOf cs) cs.length i).1.map enN)) lineV x4 x5 x6 x7 ∧ S' = S ++ Jx ∧ (∃ o, (∀ x, srcOf (S ++ Jx ++ [x]) lineV = some ((prgN (vOf cs) cs.length i).2.map enN, o)) ∧ ∀ x, srcOk (S ++ Jx ++ [x]) ((prgN (vOf cs) cs.length i).2.map enN, o) = true) ∧ True)
    (i_rng (n := (most : Int)) (e_var rfl) (sm62 (by omega) (by omega))) ⟨.lst [.tup []], [], none, none, none, none, rfl, by simp, ⟨none, fun x => rfl, fun x => rfl⟩, trivial⟩ fun i x hx e S' hP => by
      obtain ⟨lineV, Jx, x4, x5, x6, x7, rfl, rfl, ⟨o, hs, hk⟩, _⟩ := hP
      have hi : i < most := by
        have := (List.getElem?_eq_some_iff.mp hx).1
        rwa [its_len] at this
      obtain ⟨p1, p2⟩ := prgN_len (v := vOf cs) h4 i
      have q1 : 5 ^ i ≤ 5 ^ 1 := Nat.pow_le_pow_right (by omega) (by omega)
      have q2 : 5 ^ (i + 1) ≤ 5 ^ 2 := Nat.pow_le_pow_right (by omega) (by omega)
      have p3 : (prgN (vOf cs) cs.length i).2.length ≤ 5 := Nat.le_trans p1 q1
      have p4 : (prgN (vOf cs) cs.length i).1.length ≤ 25 := Nat.le_trans p2 q2
      clear p1 p2 q1 q2
      obtain ⟨y6, y7, k1⟩ := round_ok (ad := ad) (K := k) (S := S ++ Jx) (most := most) (x4 := some x) (x5 := x5) (x6 := x6) (x7 := x7) (r := i) (found := (prgN (vOf cs) cs.length i).1) (line := (prgN (vOf cs) cs.length i).2) (by omega) hc h4 hs hk (prgN_LG i) (by omega) (by omega) (by omega)
      refine ⟨loE (.tup cs) most (.lst ((prgN (vOf cs) cs.length i).1.map enN)) lineV (some x) x5 x6 x7, rfl, loE (.tup cs) most (.lst ((prgN (vOf cs) cs.length (i + 1)).1.map enN)) (.obj (S ++ Jx).length) (some x) (some (.obj (S ++ Jx).length)) y6 y7, S ++ (Jx ++ [.lst ((later (vOf cs) cs.length (prgN (vOf cs) cs.length i).2).map enN)]), by rw [← List.append_assoc]; exact k1, .obj (S ++ Jx).length, Jx ++ [.lst ((later (vOf cs) cs.length (prgN (vOf cs) cs.length i).2).map enN)], some x, some (.obj (S ++ Jx).length), y6, y7, rfl, rfl, ⟨some (S ++ Jx).length, fun x => ?_, fun x => ?_⟩, trivial⟩
      · have hg : (S ++ (Jx ++ [MO.lst ((later (vOf cs) cs.length (prgN (vOf cs) cs.length i).2).map enN)]) ++ [x])[(S ++ Jx).length]? = some (.lst ((later (vOf cs) cs.length (prgN (vOf cs) cs.length i).2).map enN)) := by
          rw [← List.append_assoc, List.append_assoc, List.getElem?_append_right (Nat.le_refl _), Nat.sub_self]; rfl
        show (match (S ++ (Jx ++ [MO.lst ((later (vOf cs) cs.length (prgN (vOf cs) cs.length i).2).map enN)]) ++ [x])[(S ++ Jx).length]? with | some (.lst ds) => some (ds, some (S ++ Jx).length) | _ => none) = _
        rw [hg]; rfl
      · refine srcOk_some.mpr ?_
        rw [← List.append_assoc, List.append_assoc, List.getElem?_append_right (Nat.le_refl _), Nat.sub_self]; rfl
  rw [its_len] at h1
  have hlim : (D.ftup ((prgN (vOf cs) cs.length most).1.map enN)).lim S.length = true := by
    show lims S.length _ = true
    exact dats_lims (enNs_dat _)
  refine (call_eq (T := tabT rows) (con := conT (cons ad)) (k := k) (f := "lots_of") (ds := [.tup cs, .int (most : Nat)]) (S := S) T_lots_of rfl).trans ?_
  have hb : evSs (Wq ad k) e_lots_of [some (.tup cs), some (.int (most : Nat)), none, none, none, none, none, none, none] S = .ok (.rt (.ftup ((prgN (vOf cs) cs.length most).1.map enN))) (S ++ Jx) := by
    unfold e_lots_of
    refine ss_par (d := .lst [.tup []]) (d1 := .lst [.tup []]) (e_lst (ds := [.tup []]) (a_cons (e_tup a_nil (Nat.le_of_ble_eq_true rfl)) a_nil) (Nat.le_of_ble_eq_true rfl)) (e_lst (ds := [.tup []]) (a_cons (e_tup a_nil (Nat.le_of_ble_eq_true rfl)) a_nil) (Nat.le_of_ble_eq_true rfl)) ?_
    exact ss_nx h1 (ss_ret (e_tupF (e_var rfl) rfl))
  refine (congrArg (fin S) hb).trans ?_
  show retn S _ _ = _
  unfold retn
  rw [hlim, trunc_junk]
end
end K10

set_option maxRecDepth 100000
set_option maxHeartbeats 1000000
namespace K10
open PySem L2 PyI
/-! ## depth -/
mutual
theorem flat_mono : ∀ {d : D} {n m : Nat}, n ≤ m → d.flat n = true → d.flat m = true
  | .tup ds, n, m, h, e => by
    cases n with
    | zero => simp [D.flat] at e
    | succ n =>
      cases m with
      | zero => omega
      | succ m =>
        unfold D.flat at e ⊢
        exact flats_mono (Nat.le_of_succ_le_succ h) e
  | .lst ds, n, m, h, e => by
    cases n with
    | zero => simp [D.flat] at e
    | succ n =>
      cases m with
      | zero => omega
      | succ m =>
        unfold D.flat at e ⊢
        exact flats_mono (Nat.le_of_succ_le_succ h) e
  | .non, _, m, _, _ => by cases m <;> rfl
  | .bl _, _, m, _, _ => by cases m <;> rfl
  | .int _, _, m, _, _ => by cases m <;> rfl
  | .str _, _, m, _, _ => by cases m <;> rfl
  | .rol _, _, m, _, _ => by cases m <;> rfl
  | .obj _, _, m, _, _ => by cases m <;> rfl
  | .edic, _, m, _, _ => by cases m <;> rfl
  | .exc _ _ _ _, _, m, _, _ => by cases m <;> rfl
  | .clo _ _ _ _, _, m, _, _ => by cases m <;> rfl
  | .ftup _, _, m, _, _ => by cases m <;> rfl
theorem flats_mono : ∀ {ds : List D} {n m : Nat}, n ≤ m → flats n ds = true → flats m ds = true
  | [], _, _, _, _ => by simp [flats]
  | d :: ds, n, m, h, e => by
    simp only [flats, Bool.and_eq_true] at e ⊢
    exact ⟨flat_mono h e.1, flats_mono h e.2⟩
end
theorem flats_of {n : Nat} : ∀ {ds : List D}, (∀ d ∈ ds, d.flat n = true) → flats n ds = true
  | [], _ => by simp [flats]
  | d :: ds, h => by
    simp only [flats, Bool.and_eq_true]
    exact ⟨h d List.mem_cons_self, flats_of fun x hx => h x (List.mem_cons_of_mem _ hx)⟩
theorem flat_int (n : Nat) (i : Int) : (D.int i).flat n = true := by cases n <;> rfl
theorem flat_str (n : Nat) (x : Str) : (D.str x).flat n = true := by cases n <;> rfl
theorem flat_ints (n : Nat) (fs : List Int) : flats n (fs.map D.int) = true := flats_of fun d hd => by
  obtain ⟨i, _, rfl⟩ := List.mem_map.mp hd
  exact flat_int n i
/-! ## lots as data -/
abbrev lotI (l : List Nat) : List Int := l.map fun i : Nat => (i : Int)
theorem enN_eq (l : List Nat) : enN l = .tup ((lotI l).map .int) := by
  unfold enN lotI
  rw [List.map_map]; rfl
theorem enN_flat (l : List Nat) : (enN l).flat 64 = true := by
  rw [enN_eq]; exact flat_ints 63 _
theorem eqvs_enN : ∀ a b : List Nat, eqvs (a.map fun i => D.int (i : Nat)) (b.map fun i => D.int (i : Nat)) = (a == b)
  | [], [] => rfl
  | [], _ :: _ => rfl
  | _ :: _, [] => rfl
  | x :: a, y :: b => by
    show (((x : Int) == (y : Int)) && eqvs _ _) = _
    rw [eqvs_enN a b]
    show _ = ((x == y) && (a == b))
    congr 1
    by_cases h : x = y
    · rw [h]; simp
    · rw [beq_eq_false_iff_ne.mpr h, beq_eq_false_iff_ne.mpr (by omega)]
theorem eqv_enN (a b : List Nat) : (enN a).eqv (enN b) = (a == b) := eqvs_enN a b
theorem isIn_enN (l : List Nat) (P : List (List Nat)) : isIn (enN l) (P.map enN) = P.contains l := by
  unfold isIn
  rw [List.any_map]
  induction P with
  | nil => rfl
  | cons a P ih =>
    rw [List.any_cons, List.contains_cons, ih]
    congr 1
    show (enN a).eqv (enN l) = _
    rw [eqv_enN]
    by_cases h : a = l
    · rw [h]
    · rw [beq_eq_false_iff_ne.mpr h, beq_eq_false_iff_ne.mpr (Ne.symm h)]
structure Lots (cs : List D) (most : Nat) (P : List (List Nat)) : Prop where
  N : LotsN (vOf cs) most cs.length P
  eq : P = (prgN (vOf cs) cs.length most).1
theorem lots_is {cs : List D} {most : Nat} (h0 : 1 ≤ most) (h1 : most ≤ 2) (h2 : 1 ≤ cs.length) (h3 : cs.length ≤ 5) : Lots cs most (prgN (vOf cs) cs.length most).1 := ⟨lotsN_ok h0 h1 h2 h3, rfl⟩
theorem Lots.nodup {cs : List D} {most : Nat} {P : List (List Nat)} (H : Lots cs most P) : P.Nodup := H.N.pw.imp_of_mem fun {a b} ha hb h e => by
  subst e
  have := (ord_ok (good_U (H.N.good a ha)) (good_U (H.N.good a ha))).2.2 h
  rw [h] at this; cases this
theorem Lots.in_ {cs : List D} {most : Nat} {P : List (List Nat)} (H : Lots cs most P) {l : List Nat} (h : l ∈ P) : l ∈ U ∧ l.length ≤ most ∧ (∀ i ∈ l, i < cs.length) ∧ (∀ a b, l = [a, b] → a < b ∧ R (vOf cs) a b = false) := by
  have g := H.N.good l h
  have u := good_U g
  unfold goodN at g
  simp only [Bool.and_eq_true, decide_eq_true_eq, List.all_eq_true] at g
  refine ⟨u, g.1.1.2, g.1.2, fun a b e => ?_⟩
  subst e
  have := g.2
  simpa using this
theorem lawN_nil {v : List Bool} {most : Nat} : ∀ c, [] ∈ lawN v most c
  | 0 => by simp [lawN]
  | c + 1 => by
    rw [lawN_succ]
    exact List.mem_append_left _ (lawN_nil c)
theorem lawN_one {v : List Bool} {most : Nat} (h : 1 ≤ most) : ∀ {c a : Nat}, a < c → [a] ∈ lawN v most c
  | 0, _, h => nomatch h
  | c + 1, a, ha => by
    rw [lawN_succ]
    by_cases e : a = c
    · subst e
      refine List.mem_append_right _ (List.mem_map.mpr ⟨[], List.mem_filter.mpr ⟨lawN_nil a, ?_⟩, rfl⟩)
      unfold okN
      rw [decide_eq_true (show ([] : List Nat).length < most from h)]; rfl
    · exact List.mem_append_left _ (lawN_one h (by omega))
/-- parts of a lot -/
def partsN (lot : List Nat) : List (List Nat) := lot.foldl (fun f a => f ++ f.map (· ++ [a])) [[]]
theorem Lots.nil_ {cs : List D} {most : Nat} {P : List (List Nat)} (H : Lots cs most P) : [] ∈ P := H.N.perm.mem_iff.mpr (lawN_nil _)
theorem Lots.one_ {cs : List D} {most : Nat} {P : List (List Nat)} (H : Lots cs most P) (hm : 1 ≤ most) {a : Nat} (ha : a < cs.length) : [a] ∈ P := H.N.perm.mem_iff.mpr (lawN_one hm ha)
theorem Lots.cases_ {cs : List D} {most : Nat} {P : List (List Nat)} (H : Lots cs most P) (hm : most ≤ 2) {l : List Nat} (h : l ∈ P) : l = [] ∨ (∃ a, l = [a] ∧ a < cs.length) ∨ ∃ a b, l = [a, b] ∧ a < b ∧ b < cs.length := by
  obtain ⟨_, h1, h2, h3⟩ := H.in_ h
  match l, h1, h2, h3 with
  | [], _, _, _ => exact .inl rfl
  | [a], _, h2, _ => exact .inr (.inl ⟨a, rfl, h2 a (by simp)⟩)
  | [a, b], _, h2, h3 => exact .inr (.inr ⟨a, b, rfl, (h3 a b rfl).1, h2 b (by simp)⟩)
  | _ :: _ :: _ :: _, h1, _, _ => simp at h1; omega
theorem Lots.parts_in {cs : List D} {most : Nat} {P : List (List Nat)} (H : Lots cs most P) (h0 : 1 ≤ most) (hm : most ≤ 2) {l q : List Nat} (h : l ∈ P) (hq : q ∈ partsN l) : q ∈ P := by
  rcases H.cases_ hm h with rfl | ⟨a, rfl, ha⟩ | ⟨a, b, rfl, hab, hb⟩
  · have : q = [] := by simpa [partsN] using hq
    rw [this]; exact H.nil_
  · have : q = [] ∨ q = [a] := by simpa [partsN] using hq
    rcases this with rfl | rfl
    · exact H.nil_
    · exact h
  · have : q = [] ∨ q = [a] ∨ q = [b] ∨ q = [a, b] := by simpa [partsN] using hq
    rcases this with rfl | rfl | rfl | rfl
    · exact H.nil_
    · exact H.one_ h0 (by omega)
    · exact H.one_ h0 hb
    · exact h
theorem Lots.filter_in {cs : List D} {most : Nat} {P : List (List Nat)} (H : Lots cs most P) (h0 : 1 ≤ most) (hm : most ≤ 2) {l : List Nat} (h : l ∈ P) (p : Nat → Bool) : l.filter p ∈ P := by
  refine H.parts_in h0 hm h ?_
  rcases H.cases_ hm h with rfl | ⟨a, rfl, ha⟩ | ⟨a, b, rfl, hab, hb⟩
  · simp [partsN]
  · cases h1 : p a <;> simp [partsN, List.filter_cons, h1]
  · cases h1 : p a <;> cases h2 : p b <;> simp [partsN, List.filter_cons, h1, h2]
end K10

set_option maxRecDepth 100000
set_option maxHeartbeats 1000000
namespace K10
open PySem L2 PyI
def isTu : D → Bool
  | .tup _ => true
  | _ => false
theorem tyTu {S : Store} {d : D} (h : d.dat = true) : isTys S d [.tuple] = some (isTu d) := by
  cases d <;> first | rfl | cases h
/-- a school of at most five changes, its lots -/
structure Sch (d p : D) (cs : List D) (most : Nat) (b r m : Int) (rs es : List D) (P : List (List Nat)) : Prop where
  S : School d 5 p cs (most : Nat) b r m rs es
  L : Lots cs most P
  mo : most ≤ 2
section
variable {ad : String → Nat} {k K : Nat} {J S : Store}
variable {d p : D} {cs : List D} {most : Nat} {b r m : Int} {rs es : List D} {P : List (List Nat)} {l : List Nat}
theorem ws_len (H : Sch d p cs most b r m rs es P) (hl : l ∈ P) : l.length ≤ 2 := by
  have := (H.L.in_ hl).2.1
  have := H.mo
  omega
theorem pu_s_ok (hK : 4 ≤ K) (H : Sch d p cs most b r m rs es P) : C ad K "pupils_of" [d] S = .ok (.ftup (P.map enN)) S := by
  obtain ⟨k, rfl⟩ : ∃ k, K = k + 1 := ⟨K - 1, by omega⟩
  have h1 := lots_of_ok (ad := ad) (K := k) (S := S) (most := most) (by omega) H.S.ch H.S.cm.2 H.mo
  rw [← H.L.eq] at h1
  have hb : evSs (Wq ad k) e_pupils_of [some d] S = .ok (.rt (.ftup (P.map enN))) S := by
    unfold e_pupils_of
    exact ss_ret (e_cF (ds := [.tup cs, .int (most : Nat)]) (a_cons (e_ixt (ds := [p, .tup cs, .int (most : Nat)]) (n := 1) (e_var (by rw [H.S.eq]; rfl)) e_cst rfl) (a_cons (e_ixt (ds := [p, .tup cs, .int (most : Nat)]) (n := 2) (e_var (by rw [H.S.eq]; rfl)) e_cst rfl) a_nil)) h1)
  exact call_rt T_pupils_of rfl hb rfl
theorem lots_law (hK : 2 ≤ K) (H : Sch d p cs most b r m rs es P) : C ad K "_law_lots" [.tup cs, .int (most : Nat)] S = .ok (.lst (P.map enN)) S := by
  have h1 := lotsN_law (ad := ad) (K := K) (S := S) (most := most) (cv := .tup cs) hK H.S.ch H.S.cm.2 fun k => chv_tup
  rw [srt_is H.L.N] at h1
  exact h1
theorem inn_ok {x : D} (hx : x.dat = true) : cmpop .inn x (.tup (P.map enN)) = some (isIn x (P.map enN)) ∧ cmpop .inn x (.lst (P.map enN)) = some (isIn x (P.map enN)) := by
  have hf : flats 64 (P.map enN) = true := flats_of fun d hd => by
    obtain ⟨l, _, rfl⟩ := List.mem_map.mp hd
    exact enN_flat l
  constructor
  · show (if _ then _ else _) = _
    rw [if_pos (by rw [hx, enNs_dat, hf, Bool.or_true]; rfl)]
  · show (if _ then _ else _) = _
    rw [if_pos (by rw [hx, enNs_dat, hf, Bool.or_true]; rfl)]
theorem is_lot_ok (hK : 5 ≤ K) (H : Sch d p cs most b r m rs es P) (hl : l.length ≤ 100) : C ad K "is_lot" [d, enN l] S = .ok (.bl (P.contains l)) S := by
  obtain ⟨k, rfl⟩ : ∃ k, K = k + 1 := ⟨K - 1, by omega⟩
  refine call_rt T_is_lot rfl ?_ rfl
  show evSs _ e_is_lot [some d, some (enN l), none] S = _
  unfold e_is_lot
  have hcm : evE (Wq ad k) (.comp [2] (.isi (.var 2) [.bool]) (.nm 2) (.seq (.var 1)) .yes) [some d, some (enN l), none] S = .ok (.lst (l.map fun _ => .bl false)) S := by
    have e1 : (l.map fun _ => D.bl false) = (l.map fun i => D.int (i : Nat)).map fun _ => .bl false := by rw [List.map_map]; rfl
    rw [e1]
    refine comp_map (i_seq (d := enN l) (e_var rfl) rfl) (by rw [List.length_map]; show _ ≤ 16777216; omega) fun x hx => ⟨[some d, some (enN l), some x], rfl, ?_⟩
    obtain ⟨i, _, rfl⟩ := List.mem_map.mp hx
    exact e_isi (e_var rfl) rfl
  have hany : (l.any fun _ => false) = false := by simp
  have hbi : biop S .any [.lst (l.map fun _ => D.bl false)] = some (.bl false) := by
    have := any_map2 (S := S) (fun _ => false) l
    rw [hany] at this; exact this
  have h1 := e_nt (W := Wq ad k) (t := false) (e_cB (d := .bl false) (a_cons hcm a_nil) hbi) rfl
  have h2 := e_cmp (W := Wq ad k) (q := .inn) (a := .var 1) (e_var rfl) (e_unf (e_cF (ds := [d]) (a_cons (e_var (i := 0) (e := [some d, some (enN l), none]) rfl) a_nil) (pu_s_ok (ad := ad) (S := S) (by omega) H))) (inn_ok (enN_dat l)).1
  rw [isIn_enN] at h2
  exact ss_ret (e_and (t := true) (t1 := P.contains l) (e_isi (d := enN l) (e_var rfl) rfl) fun _ => e_and (t := true) (t1 := P.contains l) h1 fun _ => h2)
theorem xRefused : xNs (conT (cons ad)) "Refused" = some ["why"] := by kernel_rfl
theorem xNoName : xNs (conT (cons ad)) "NoName" = some ["name"] := by kernel_rfl
theorem akAsked : akT (tabT rows) "_law_asked" = some (("told" : Str), [("NoName", ("no" : Str), "name"), ("Refused", ("refused" : Str), "why")]) := by kernel_rfl
theorem hdsAsked : hdsOk (conT (cons ad)) [("NoName", ("no" : Str), "name"), ("Refused", ("refused" : Str), "why")] = true := by kernel_rfl
end
end K10

set_option maxRecDepth 100000
set_option maxHeartbeats 1000000
namespace K10
open PySem L2 PyI
/-! ## names -/
def nm (i : Nat) : D := nmsD.getD i .non
theorem nm_get {i : Nat} (h : i < 5) : nmsD[i]? = some (nm i) := by
  unfold nm
  rw [List.getD_eq_getElem?_getD]
  have : i < nmsD.length := h
  rw [List.getElem?_eq_getElem this]; rfl
abbrev nmN (n : Nat) : List D := (List.range n).map nm
theorem nm_str {i : Nat} (h : i < 5) : ∃ x : Str, nm i = .str x := by
  have : i = 0 ∨ i = 1 ∨ i = 2 ∨ i = 3 ∨ i = 4 := by omega
  rcases this with rfl | rfl | rfl | rfl | rfl <;> exact ⟨_, rfl⟩
theorem nm_eqv : ((List.range 5).all fun i => (List.range 5).all fun j => (nm i).eqv (nm j) == (i == j)) = true := by decide +kernel
theorem nm_inj {i j : Nat} (hi : i < 5) (hj : j < 5) : (nm i).eqv (nm j) = (i == j) := by
  have := List.all_eq_true.mp (List.all_eq_true.mp nm_eqv i (List.mem_range.mpr hi)) j (List.mem_range.mpr hj)
  exact eq_of_beq this
theorem nmN_at {n i : Nat} (h : i < n) : atI (nmN n) (i : Int) = some (nm i) := by
  have := atI_of (ds := nmN n) (v := (i : Int)) (by omega) (by simpa using h)
  rw [this]; simp
theorem nms_dat (is : List Nat) (h : ∀ i ∈ is, i < 5) : dats (is.map nm) = true := dats_all.mpr fun d hd => by
  obtain ⟨i, hi, rfl⟩ := List.mem_map.mp hd
  obtain ⟨x, e⟩ := nm_str (h i hi)
  rw [e]; rfl
theorem nms_flat (n : Nat) (is : List Nat) (h : ∀ i ∈ is, i < 5) : flats n (is.map nm) = true := flats_of fun d hd => by
  obtain ⟨i, hi, rfl⟩ := List.mem_map.mp hd
  obtain ⟨x, e⟩ := nm_str (h i hi)
  rw [e]; exact flat_str n x
theorem nms_find {n : Nat} (hn : n ≤ 5) : ∀ {k i : Nat}, k ≤ i → i < n → findI (nm i) (((List.range n).drop k).map nm) = some (i - k)
  | k, i, hk, hi => by
    have e : (List.range n).drop k = k :: (List.range n).drop (k + 1) := by
      rw [List.drop_eq_getElem_cons (by simpa using (by omega : k < n))]; simp
    rw [e, List.map_cons]
    show (if (nm k).eqv (nm i) = true then some 0 else (findI (nm i) _).map (· + 1)) = _
    rw [nm_inj (by omega) (by omega)]
    by_cases h : k = i
    · subst h
      rw [beq_self_eq_true, if_pos rfl, Nat.sub_self]
    · rw [beq_eq_false_iff_ne.mpr h, if_neg Bool.false_ne_true, nms_find hn (by omega) hi]
      show some ((i - (k + 1)) + 1) = some (i - k)
      congr 1; omega
  termination_by k i => i - k
theorem nmN_find {n i : Nat} (hn : n ≤ 5) (hi : i < n) : findI (nm i) (nmN n) = some i := by
  have := nms_find hn (k := 0) (Nat.zero_le i) hi
  simpa using this
theorem nmN_sh : ((List.range 6).all fun n => shL (nmN n)) = true := by decide +kernel
theorem nm_sh : ((List.range 5).all fun i => shD (nm i)) = true := by decide +kernel
theorem nm_idx {n i : Nat} {S : Store} (hn : n ≤ 5) (hi : i < n) : idxL (nmN n) (nm i) = some (.int (i : Nat)) ∧ idxop S (.lst (nmN n)) (nm i) = some (.int (i : Nat)) := by
  have h1 := List.all_eq_true.mp nmN_sh n (List.mem_range.mpr (by omega))
  have h2 := List.all_eq_true.mp nm_sh i (List.mem_range.mpr (by omega))
  have h3 : dats (nmN n) = true := nms_dat _ fun j hj => by have := List.mem_range.mp hj; omega
  have h4 : (nm i).dat = true := by
    obtain ⟨x, e⟩ := nm_str (i := i) (by omega)
    rw [e]; rfl
  constructor
  · unfold idxL
    rw [h1, h2, h3, h4, nmN_find hn hi]; rfl
  · show (if (nm i).dat && dats (nmN n) && shD (nm i) && shL (nmN n) then (findI (nm i) (nmN n)).map fun j => D.int (j : Nat) else none) = _
    rw [h1, h2, h3, h4, nmN_find hn hi]; rfl
/-- whether a value is a name -/
theorem nm_in {n i : Nat} (hn : n ≤ 5) (hi : i < n) : cmpop .nin (nm i) (.tup (nmN n)) = some false := by
  have h3 : dats (nmN n) = true := nms_dat _ fun j hj => by have := List.mem_range.mp hj; omega
  have h4 : (nm i).dat = true := by
    obtain ⟨x, e⟩ := nm_str (i := i) (by omega)
    rw [e]; rfl
  have h5 := nms_flat 64 (List.range n) fun j hj => by have := List.mem_range.mp hj; omega
  show (if (nm i).dat && dats (nmN n) && ((nm i).flat 64 || flats 64 (nmN n)) then some (!isIn (nm i) (nmN n)) else none) = _
  rw [h3, h4, h5, Bool.or_true]
  have : isIn (nm i) (nmN n) = true := by
    unfold isIn
    refine List.any_eq_true.mpr ⟨nm i, List.mem_map.mpr ⟨i, List.mem_range.mpr hi, rfl⟩, ?_⟩
    rw [nm_inj (by omega) (by omega), beq_self_eq_true]
  rw [this]; rfl
theorem erase_perm {α : Type} : ∀ {l : List α} {i : Nat} (h : i < l.length), (l[i] :: l.eraseIdx i).Perm l
  | [], _, h => nomatch h
  | a :: l, 0, _ => List.Perm.refl _
  | a :: l, i + 1, h => by
    have h' : i < l.length := Nat.lt_of_succ_lt_succ h
    show (l[i] :: a :: l.eraseIdx i).Perm (a :: l)
    exact (List.Perm.swap a _ _).trans ((erase_perm (Nat.lt_of_succ_lt_succ h)).cons a)
section
variable {ad : String → Nat} {k K : Nat} {J S : Store}
variable {d p : D} {cs : List D} {most : Nat} {b r m : Int} {rs es : List D} {P : List (List Nat)} {l : List Nat}
def nmOf : D → D
  | .tup [x, _] => x
  | d => d
theorem nms_map (H : Sch d p cs most b r m rs es P) : cs.map nmOf = nmN cs.length := by
  refine List.ext_getElem? fun i => ?_
  rw [List.getElem?_map, List.getElem?_map]
  cases h : cs[i]? with
  | none =>
    have := List.getElem?_eq_none_iff.mp h
    rw [List.getElem?_eq_none (by simpa using this)]; rfl
  | some c =>
    have hi := (List.getElem?_eq_some_iff.mp h).1
    obtain ⟨x, w, rfl, hx⟩ := H.S.nm i c h
    have := H.S.cl
    rw [nm_get (by omega)] at hx
    rw [List.getElem?_range hi]
    show some x = some (nm i)
    exact hx.symm
theorem nm_comp {W : Wd} {own : List Nat} {i j : Nat} {e : PyI.Env} {S : Store} {X : Ex} (H : Sch d p cs most b r m rs es P) (hX : evE W X e S = .ok (.tup cs) S) (hi : ∀ x w, (((wip e own).set i (some x)).set j (some w))[i]? = some (some x)) : evE W (.comp own (.var i) (.tp [i, j]) (.seq X) .yes) e S = .ok (.lst (nmN cs.length)) S := by
  rw [← nms_map H]
  have := H.S.cl
  refine comp_map (i_seq hX rfl) (by show _ ≤ 16777216; omega) fun x hx => ?_
  obtain ⟨q, hq⟩ := List.getElem?_of_mem hx
  obtain ⟨y, w, rfl, _⟩ := H.S.nm q x hq
  exact ⟨_, rfl, e_var (hi y w)⟩
theorem n_of_ok (hK : 1 ≤ K) (H : Sch d p cs most b r m rs es P) : C ad K "names_of" [d] S = .ok (.ftup (nmN cs.length)) S := by
  obtain ⟨k, rfl⟩ : ∃ k, K = k + 1 := ⟨K - 1, by omega⟩
  refine call_rt T_names_of rfl ?_ rfl
  show evSs _ e_names_of [some d, none, none] S = _
  unfold e_names_of
  exact ss_ret (e_tupF (nm_comp H (e_ixt (ds := [p, .tup cs, .int (most : Nat)]) (n := 1) (e_var (by rw [H.S.eq]; rfl)) e_cst rfl) (fun _ _ => rfl)) rfl)
theorem n_in_ok (hK : 2 ≤ K) (H : Sch d p cs most b r m rs es P) (hl : l ∈ P) : C ad K "names_in" [d, enN l] S = .ok (.tup (l.map nm)) S := by
  obtain ⟨k, rfl⟩ : ∃ k, K = k + 1 := ⟨K - 1, by omega⟩
  have hin := (H.L.in_ hl).2.2.1
  have h2 := ws_len H hl
  refine call_rt T_names_in rfl ?_ rfl
  show evSs _ e_names_in [some d, some (enN l), none] S = _
  unfold e_names_in
  have e1 : (l.map nm) = (l.map fun i : Nat => D.int (i : Nat)).map fun x => match x with | .int i => nm i.toNat | x => x := by
    rw [List.map_map]
    refine List.map_congr_left fun i _ => ?_
    show nm i = nm ((i : Nat) : Int).toNat
    rw [Int.toNat_natCast]
  have hc : evE (Wq ad k) (.comp [2] (.ix (.unf (.cF "names_of" (.cons (.var 0) .nil))) (.var 2)) (.nm 2) (.seq (.var 1)) .yes) [some d, some (enN l), none] S = .ok (.lst (l.map nm)) S := by
    rw [e1]
    refine comp_map (i_seq (d := enN l) (e_var rfl) rfl) (by rw [List.length_map]; show _ ≤ 16777216; omega) fun x hx => ⟨[some d, some (enN l), some x], rfl, ?_⟩
    obtain ⟨i, hi, rfl⟩ := List.mem_map.mp hx
    show evE _ _ _ _ = .ok (nm ((i : Nat) : Int).toNat) _
    rw [Int.toNat_natCast]
    exact e_ixt (n := (i : Int)) (e_unf (e_cF (ds := [d]) (a_cons (e_var rfl) a_nil) (n_of_ok (by omega) H))) (e_var rfl) (nmN_at (hin i hi))
  exact ss_ret (e_cB (ds := [.lst (l.map nm)]) (a_cons hc a_nil) rfl)
/-! ## a list in a drawn order -/
theorem bag_get (b : Bag J S) (i : Nat) : S[i + 1]? = J[i]? := by
  obtain ⟨_, _, _, _, _, _, _, _, _, rfl⟩ := b.ex
  rfl
theorem bag_set (b : Bag J S) (i : Nat) (mo : MO) : Bag (J.set i mo) (S.set (i + 1) mo) := by
  obtain ⟨a, b1, c, cs, h1, h2, h3, h4, h5, rfl⟩ := b.ex
  exact ⟨a, b1, c, cs, h1, h2, h3, h4, h5, rfl⟩
def mxC : Tx := (.cmp .ne (.var 2) (.lst .nil))
def mxB : Sms := (.cons (.exp (.app (.var 3) (.popi (.var 2) (.cF "_law_take" (.cons (.var 0) (.cons (.cB .len (.cons (.var 2) .nil)) .nil)))))) .nil)
theorem ne_obj {m : Nat} {ds : List D} (h : S[m]? = some (.lst ds)) (hd : dats ds = true) : cmpS S .ne (.obj m) (.lst []) = some (!ds.isEmpty) := by
  have h1 : cmpop .ne (.obj m) (.lst []) = none := rfl
  have h2 : rdS S (.obj m) = some (.lst ds) := by
    show (match S[m]? with | some (.lst ds) => some (D.lst ds) | _ => none) = _
    rw [h]
  unfold cmpS
  rw [h1, h2]
  exact ne_nil hd
theorem mx_loop {t : D} {q : Nat} (hK : 1 ≤ K) (hq : q = J.length) : ∀ (n : Nat) (left found : List D) (S : Store), left.length = n → dats left = true → left.length + found.length ≤ 1000 → Bag (J ++ [.lst left, .lst found]) S → ∃ ys S', evS (Wq ad K) (.whl mxC mxB) [some (.obj 0), some t, some (.obj (q + 1)), some (.obj (q + 2))] S = .ok (.nx [some (.obj 0), some t, some (.obj (q + 1)), some (.obj (q + 2))]) S' ∧ Bag (J ++ [.lst [], .lst ys]) S' ∧ ys.Perm (found ++ left) := by
  subst hq
  intro n
  induction n with
  | zero =>
    intro left found S hl hd hb bg
    have : left = [] := List.eq_nil_of_length_eq_zero hl
    subst this
    have hg : S[J.length + 1]? = some (.lst []) := by rw [bag_get bg]; simp
    refine ⟨found, S, st_whlf ?_, bg, by simp⟩
    exact t_cmpS (d := .obj (J.length + 1)) (e_var rfl) (e_lst a_nil (Nat.le_of_ble_eq_true rfl)) (ne_obj hg rfl)
  | succ n ih =>
    intro left found S hl hd hb bg
    have hg : S[J.length + 1]? = some (.lst left) := by rw [bag_get bg]; simp
    have hc : evT (Wq ad K) mxC [some (.obj 0), some t, some (.obj (J.length + 1)), some (.obj (J.length + 2))] S = .ok true S := by
      have := t_cmpS (W := Wq ad K) (e := [some (.obj 0), some t, some (.obj (J.length + 1)), some (.obj (J.length + 2))]) (q := .ne) (a := .var 2) (b := .lst .nil) (S := S) (d := .obj (J.length + 1)) (e_var rfl) (e_lst a_nil (Nat.le_of_ble_eq_true rfl)) (ne_obj hg hd)
      have e : (!left.isEmpty) = true := by
        cases left with
        | nil => cases hl
        | cons _ _ => rfl
      rw [e] at this
      exact this
    obtain ⟨v, S1, g1, b1, v0, v1⟩ := tk (ad := ad) (K := K) (m := (left.length : Int)) hK (by omega) (by omega) bg
    have hv : v.toNat < left.length := by omega
    have hg1 : S1[J.length + 1]? = some (.lst left) := by rw [bag_get b1]; simp
    have hpop : popL left (.int v) = some (left[v.toNat], left.eraseIdx v.toNat) := by
      show (if _ then _ else _) = _
      rw [if_pos ⟨v0, by omega⟩, List.getElem?_eq_getElem hv]; rfl
    have hlen : biop S .len [.obj (J.length + 1)] = some (.int left.length) := by
      show (asLst S (.obj (J.length + 1))).map _ = _
      have : asLst S (.obj (J.length + 1)) = some left := by
        show (match S[J.length + 1]? with | some (.lst ds) => some ds | _ => none) = _
        rw [hg]
      rw [this]; rfl
    have e1 := e_popi (W := Wq ad K) (e := [some (.obj 0), some t, some (.obj (J.length + 1)), some (.obj (J.length + 2))]) (a := .var 2) (x := .cF "_law_take" (.cons (.var 0) (.cons (.cB .len (.cons (.var 2) .nil)) .nil))) (S := S) (S1 := S1) (e_var rfl) ⟨_, hg⟩ (e_cF (ds := [.obj 0, .int left.length]) (a_cons (e_var rfl) (a_cons (e_cB (ds := [.obj (J.length + 1)]) (a_cons (e_var rfl) a_nil) hlen) a_nil)) g1) hg1 hpop
    have b2 := bag_set b1 J.length (.lst (left.eraseIdx v.toNat))
    have j1 : (J ++ [MO.lst left, MO.lst found]).set J.length (.lst (left.eraseIdx v.toNat)) = J ++ [.lst (left.eraseIdx v.toNat), .lst found] := by simp
    rw [j1] at b2
    have hg2 : (S1.set (J.length + 1) (.lst (left.eraseIdx v.toNat)))[J.length + 2]? = some (.lst found) := by rw [bag_get b2 (J.length + 1)]; simp
    have hg0 : ∃ u, S[J.length + 2]? = some (.lst u) := ⟨found, by rw [bag_get bg (J.length + 1)]; simp⟩
    have e2 := e_app (W := Wq ad K) (e := [some (.obj 0), some t, some (.obj (J.length + 1)), some (.obj (J.length + 2))]) (a := .var 3) (m := J.length + 2) (S := S) (e_var rfl) hg0 e1 hg2 (by show _ < 16777216; omega)
    have b3 := bag_set b2 (J.length + 1) (.lst (found ++ [left[v.toNat]]))
    have j2 : (J ++ [MO.lst (left.eraseIdx v.toNat), MO.lst found]).set (J.length + 1) (.lst (found ++ [left[v.toNat]])) = J ++ [.lst (left.eraseIdx v.toNat), .lst (found ++ [left[v.toNat]])] := by simp
    rw [j2] at b3
    have hel : (left.eraseIdx v.toNat).length = n := by rw [List.length_eraseIdx_of_lt hv]; omega
    obtain ⟨ys, S', h1, h2, h3⟩ := ih (left.eraseIdx v.toNat) (found ++ [left[v.toNat]]) _ hel (dats_all.mpr fun x hx => dats_all.mp hd x (List.mem_of_mem_eraseIdx hx)) (by rw [hel, List.length_append]; show _ + (_ + 1) ≤ _; omega) b3
    refine ⟨ys, S', (st_whlt hc (ss_exp e2 ss_nil)).trans h1, h2, h3.trans ?_⟩
    rw [List.append_assoc]
    exact List.Perm.append_left found (erase_perm hv)
theorem mixed_ok {xs : List D} (hK : 2 ≤ K) (hd : dats xs = true) (hl : xs.length ≤ 1000) (bg : Bag J S) : ∃ ys S', C ad K "_law_mixed" [.obj 0, .lst xs] S = .ok (.lst ys) S' ∧ Bag J S' ∧ ys.Perm xs := by
  obtain ⟨k, rfl⟩ : ∃ k, K = k + 1 := ⟨K - 1, by omega⟩
  have b2 : Bag (J ++ [.lst xs, .lst []]) (S ++ [.lst xs] ++ [.lst []]) := by
    have := bagJ_new (mo := .lst []) (bagJ_new (mo := .lst xs) bg)
    rwa [List.append_assoc] at this
  obtain ⟨ys, S1, h1, b3, hp⟩ := mx_loop (ad := ad) (K := k) (t := .lst xs) (q := J.length) (by omega) rfl xs.length xs [] _ rfl hd (by simpa using hl) b2
  have hg : S1[J.length + 2]? = some (.lst ys) := by rw [bag_get b3 (J.length + 1)]; simp
  have b4 := bag_set b3 (J.length + 1) .dead
  have j4 : (J ++ [MO.lst [], MO.lst ys]).set (J.length + 1) .dead = J ++ [.lst [], .dead] := by simp
  rw [j4] at b4
  have hyd : dats ys = true := dats_all.mpr fun x hx => dats_all.mp hd x (by simpa using hp.mem_iff.mp hx)
  obtain ⟨S6, g7, b7⟩ := call_bg (T := tabT rows) (con := conT (cons ad)) (k := k) (f := "_law_mixed") (ds := [.obj 0, .lst xs]) (d := .lst ys) (S := S) (S' := S1.set (J.length + 2) .dead) (J := J) (J2 := [.lst [], .dead]) T__law_mixed rfl hyd bg b4 (by
    show evSs _ e__law_mixed [some (.obj 0), some (.lst xs), none, none] S = _
    unfold e__law_mixed
    have hS := bg.len
    refine ss_par (d := .obj S.length) (d1 := .obj (S ++ [MO.lst xs]).length) (S1 := S ++ [.lst xs]) (S2 := S ++ [.lst xs] ++ [.lst []]) (e_mkl (e_var rfl) rfl) (e_mls a_nil (Nat.le_of_ble_eq_true rfl)) ?_
    rw [List.length_append, hS]
    refine ss_nx h1 (ss_ret ?_)
    show (evE _ (.var 3) _ S1).bind _ = _
    rw [e_var (W := Wq ad k) (e := [some (.obj 0), some (.lst xs), some (.obj (J.length + 1)), some (.obj (J.length + 2))]) (i := 3) (d := .obj (J.length + 2)) rfl]
    show (match S1[J.length + 2]? with
      | some (.lst ds) => Rs.ok (D.lst ds) (S1.set (J.length + 2) .dead)
      | _ => .bad) = _
    rw [hg])
  exact ⟨ys, S6, g7, b7, by simpa using hp⟩
end
end K10

set_option maxRecDepth 100000
set_option maxHeartbeats 1000000
namespace K10
open PySem L2 PyI
/-! ## the keys, sorted -/
theorem foldU : ∀ (xs ks : List Int), ks.Nodup → (xs.foldl insU ks).Nodup ∧ (∀ x, x ∈ xs.foldl insU ks ↔ x ∈ ks ∨ x ∈ xs) ∧ (xs.foldl insU ks).length ≤ ks.length + xs.length
  | [], ks, h => ⟨h, fun x => by simp, by simp⟩
  | y :: xs, ks, h => by
    have hn : (insU ks y).Nodup ∧ (∀ x, x ∈ insU ks y ↔ x ∈ ks ∨ x = y) ∧ (insU ks y).length ≤ ks.length + 1 := by
      unfold insU
      by_cases hy : y ∈ ks
      · rw [if_pos hy]
        refine ⟨h, fun x => ⟨.inl, fun q => ?_⟩, by omega⟩
        rcases q with q | q
        · exact q
        · rw [q]; exact hy
      · rw [if_neg hy]
        refine ⟨?_, fun x => by simp, by simp⟩
        refine List.nodup_append.mpr ⟨h, by simp, fun a ha b hb => ?_⟩
        rintro rfl
        rw [List.mem_singleton.mp hb] at ha
        exact hy ha
    obtain ⟨h1, h2, h3⟩ := hn
    obtain ⟨g1, g2, g3⟩ := foldU xs (insU ks y) h1
    refine ⟨g1, fun x => ?_, by rw [List.length_cons]; show (xs.foldl insU (insU ks y)).length ≤ _; omega⟩
    show x ∈ xs.foldl insU (insU ks y) ↔ _
    rw [g2, h2, List.mem_cons]
    constructor
    · rintro ((q | q) | q)
      · exact .inl q
      · exact .inr (.inl q)
      · exact .inr (.inr q)
    · rintro (q | q | q)
      · exact .inl (.inl q)
      · exact .inl (.inr q)
      · exact .inr q
theorem srt_asc {xs l : List Int} (hl : l.Pairwise (· < ·)) (hm : ∀ x, x ∈ l ↔ x ∈ xs) : srtI (xs.foldl insU []) = l := by
  obtain ⟨h1, h2, _⟩ := foldU xs [] List.nodup_nil
  have hp : (srtI (xs.foldl insU [])).Perm (xs.foldl insU []) := List.mergeSort_perm _ _
  have ln : l.Nodup := hl.imp fun h e => by omega
  have hpl : l.Perm (xs.foldl insU []) := (List.perm_ext_iff_of_nodup ln h1).mpr fun x => by rw [hm, h2]; simp
  exact (srtI_uniq hpl (hl.imp fun h => by omega)).symm
/-! ## a loop that ends by an exception -/
theorem forF_ex {chk : Store → Bool} {f : D → PyI.Env → Store → Rs Fl} {P : PyI.Env → Prop} {X : Xc} {S : Store} (hc : chk S = true) (y : D) (rest : List D) : ∀ (xs : List D) (e : PyI.Env), P e → (∀ x ∈ xs, ∀ e, P e → ∃ e2, f x e S = .ok (.nx e2) S ∧ P e2) → (∀ e, P e → ∃ e', f y e S = .exc X e' S) → ∃ e', forF chk f (xs ++ y :: rest) e S = .exc X e' S
  | [], e, h0, h, hy => by
    obtain ⟨e', h1⟩ := hy e h0
    refine ⟨e', ?_⟩
    show (if chk S = true then (f y e S).bind _ else _) = _
    rw [if_pos hc, h1]; rfl
  | x :: xs, e, h0, h, hy => by
    obtain ⟨e2, h1, h2⟩ := h x List.mem_cons_self e h0
    obtain ⟨e', h3⟩ := forF_ex hc y rest xs e2 h2 (fun z hz => h z (List.mem_cons_of_mem _ hz)) hy
    refine ⟨e', ?_⟩
    show (if chk S = true then (f x e S).bind _ else _) = _
    rw [if_pos hc, h1]
    exact h3
section
variable {ad : String → Nat} {k K : Nat} {J S : Store}
variable {d p : D} {cs : List D} {most : Nat} {b r m : Int} {rs es : List D} {P : List (List Nat)} {l : List Nat}
def lnB : Sms := (.cons (.ifs (.or (.nt (.tst (.isi (.var 3) [.str]))) (.cmp .nin (.var 3) (.unf (.var 2)))) (.cons (.rai "NoName" (.cons (.var 3) .nil)) .nil) .nil) .nil)
abbrev lnE (d v : D) (n : Nat) (x3 x4 : Option D) : PyI.Env := [some d, some v, some (.ftup (nmN n)), x3, x4]
theorem ln_one {v : D} {n i : Nat} {x4 : Option D} (hn : n ≤ 5) (hi : i < n) : evSs (Wq ad K) lnB (lnE d v n (some (nm i)) x4) S = .ok (.nx (lnE d v n (some (nm i)) x4)) S := by
  unfold lnB
  obtain ⟨x, hx⟩ := nm_str (i := i) (by omega)
  have h1 : evT (Wq ad K) (.nt (.tst (.isi (.var 3) [.str]))) (lnE d v n (some (nm i)) x4) S = .ok false S := t_ntf (t_bl (e_isi (d := nm i) (e_var rfl) (by rw [hx]; rfl)))
  have h2 : evT (Wq ad K) (.cmp .nin (.var 3) (.unf (.var 2))) (lnE d v n (some (nm i)) x4) S = .ok false S := t_cmp (d := nm i) (e_var rfl) (e_unf (e_var rfl)) (nm_in hn hi)
  exact ss_iff (t_orf h1 h2) ss_nil
/-- a value that is nobody's name -/
def NoNm (x : D) : Prop := ∀ (n : Nat) (S : Store), n ≤ 5 → x.dat = true ∧ ((isTys S x [.str] = some false) ∨ (isTys S x [.str] = some true ∧ cmpop .nin x (.tup (nmN n)) = some true))
theorem ln_bad {v x : D} {n : Nat} {x4 : Option D} (hn : n ≤ 5) (hx : NoNm x) : evSs (Wq ad K) lnB (lnE d v n (some x) x4) S = .exc ("NoName", [("name", x)]) (lnE d v n (some x) x4) S := by
  unfold lnB
  have ht : evT (Wq ad K) (.or (.nt (.tst (.isi (.var 3) [.str]))) (.cmp .nin (.var 3) (.unf (.var 2)))) (lnE d v n (some x) x4) S = .ok true S := by
    obtain ⟨_, h | ⟨h, h2⟩⟩ := hx n S hn
    · exact t_ort (t_ntt (t_bl (e_isi (e_var rfl) h)))
    · exact t_orf (t_ntf (t_bl (e_isi (e_var rfl) h))) (t_cmp (e_var rfl) (e_unf (e_var rfl)) h2)
  refine ss_ex ?_
  refine st_ift ht (ss_ex ?_)
  exact st_rai (ns := ["name"]) (ds := [x]) xNoName (a_cons (e_var rfl) a_nil) rfl (Nat.le_of_ble_eq_true rfl)
theorem ln_no {v x : D} {is : List Nat} (hK : 2 ≤ K) (H : Sch d p cs most b r m rs es P) (hv : ∀ S, srcOf S v = some (is.map nm ++ [x], none)) (hi : ∀ i ∈ is, i < cs.length) (hx : NoNm x) : C ad K "lot_named" [d, v] S = .exc ("NoName", [("name", x)]) [] S := by
  obtain ⟨k, rfl⟩ : ∃ k, K = k + 1 := ⟨K - 1, by omega⟩
  have hn := H.S.cl
  have hb : ∃ e', evSs (Wq ad k) e_lot_named [some d, some v, none, none, none] S = .exc ("NoName", [("name", x)]) e' S := by
    obtain ⟨e', h1⟩ := forF_ex (chk := fun S => srcOk S (is.map nm ++ [x], none)) (f := fun x e S => match setT e (.nm 3) x with
      | some e' => evSs (Wq ad k) lnB e' S
      | none => .bad) (P := fun e => ∃ x3, e = lnE d v cs.length x3 none) (X := ("NoName", [("name", x)])) (S := S) rfl x [] (is.map nm) (lnE d v cs.length none none) ⟨none, rfl⟩ (fun y hy e he => by
        obtain ⟨x3, rfl⟩ := he
        obtain ⟨i, him, rfl⟩ := List.mem_map.mp hy
        exact ⟨lnE d v cs.length (some (nm i)) none, ln_one hn (hi i him), _, rfl⟩) (fun e he => by
        obtain ⟨x3, rfl⟩ := he
        exact ⟨_, ln_bad hn hx⟩)
    refine ⟨e', ?_⟩
    unfold e_lot_named
    refine ss_asg (S1 := S) (d := .ftup (nmN cs.length)) (e_cF (ds := [d]) (a_cons (e_var rfl) a_nil) (n_of_ok (by omega) H)) rfl ?_
    refine ss_ex ?_
    have hI := i_seq (W := Wq ad k) (x := .var 1) (e := lnE d v cs.length none none) (S := S) (e_var rfl) (hv S)
    exact (congrArg (fun z : Rs Src => z.bind fun s S => forF (fun S => srcOk S s) (fun x e S => match setT e (.nm 3) x with
      | some e' => evSs (Wq ad k) lnB e' S
      | none => .bad) s.1 (lnE d v cs.length none none) S) hI).trans h1
  obtain ⟨e', hb⟩ := hb
  exact call_ex T_lot_named rfl hb
theorem ln_ok {v : D} {is : List Nat} (hK : 6 ≤ K) (H : Sch d p cs most b r m rs es P) (hv : ∀ S, srcOf S v = some (is.map nm, none)) (hi : ∀ i ∈ is, i < cs.length) (hl : l.Pairwise (· < ·)) (hm : ∀ i, i ∈ l ↔ i ∈ is) (hlen : is.length ≤ 60) (hll : l.length ≤ 100) :
    C ad K "lot_named" [d, v] S = if P.contains l = true then .ok (enN l) S else .exc ("Refused", [("why", .str "lot")]) [] S := by
  obtain ⟨k, rfl⟩ : ∃ k, K = k + 1 := ⟨K - 1, by omega⟩
  have hn := H.S.cl
  obtain ⟨e1, S1, h1, x3, rfl, rfl⟩ := for_inv (W := Wq ad k) (t := .nm 3) (it := .seq (.var 1)) (b := lnB) (e := lnE d v cs.length none none) (S0 := S) (S := S) (xs := is.map nm) (P := fun e S' => ∃ x3, e = lnE d v cs.length x3 none ∧ S' = S) (i_seq (e_var rfl) (hv S)) ⟨none, rfl, rfl⟩ fun x hx e S' hP => by
    obtain ⟨x3, rfl, rfl⟩ := hP
    obtain ⟨i, him, rfl⟩ := List.mem_map.mp hx
    exact ⟨lnE d v cs.length (some (nm i)) none, rfl, _, _, ln_one hn (hi i him), _, rfl, rfl⟩
  -- the sorted keys
  have hfor : ∀ (js : List Nat) (acc : List Int), (∀ i ∈ js, i < cs.length) → acc.length + js.length ≤ 60 → forR (fun S => srcOk S (is.map nm, none)) (fun x acc S => match setT (wip (lnE d v cs.length x3 none) [3]) (.nm 3) x with
        | some e' => (evE (Wq ad k) (.idxT (.var 2) (.var 3)) e' S).bind fun d S => (optR (intD d) S).bind fun i S => if acc.length < 63 then .ok (insU acc i) S else .bad
        | none => .bad) (js.map nm) acc S1 = .ok ((js.map fun i : Nat => (i : Int)).foldl insU acc) S1 := by
    intro js
    induction js with
    | nil => intro acc _ _; rfl
    | cons j js ih =>
      intro acc hj hal
      rw [List.map_cons, List.map_cons, List.foldl_cons]
      have hidx : evE (Wq ad k) (.idxT (.var 2) (.var 3)) (lnE d v cs.length (some (nm j)) none) S1 = .ok (.int (j : Nat)) S1 := e_idxT (e_var rfl) (e_var rfl) (nm_idx (S := S1) hn (hj j List.mem_cons_self)).1
      show (if srcOk S1 (is.map nm, none) = true then ((evE (Wq ad k) (.idxT (.var 2) (.var 3)) (lnE d v cs.length (some (nm j)) none) S1).bind fun d S => (optR (intD d) S).bind fun i S => if acc.length < 63 then Rs.ok (insU acc i) S else .bad).bind _ else _) = _
      rw [hidx]
      show (if acc.length < 63 then Rs.ok (insU acc (j : Int)) S1 else .bad).bind _ = _
      rw [List.length_cons] at hal
      rw [if_pos (by omega)]
      have h2 : (insU acc (j : Int)).length ≤ acc.length + 1 := by
        unfold insU
        split
        · omega
        · rw [List.length_append]; exact Nat.le_refl _
      exact ih (insU acc (j : Int)) (fun i h => hj i (List.mem_cons_of_mem _ h)) (by omega)
  have hsd := e_sdc (W := Wq ad k) (own := [3]) (elt := .idxT (.var 2) (.var 3)) (t := .nm 3) (it := .seq (.var 1)) (e := lnE d v cs.length x3 none) (S := S1) (S1 := S1) (S2 := S1) (i_seq (e_var rfl) (hv S1)) (hfor is [] hi (by simpa using hlen))
  have hsrt : srtI ((is.map fun i : Nat => (i : Int)).foldl insU []) = lotI l := by
    refine srt_asc ?_ fun x => ?_
    · rw [List.pairwise_map]
      exact hl.imp fun h => by omega
    · rw [List.mem_map, List.mem_map]
      constructor
      · rintro ⟨i, h, rfl⟩; exact ⟨i, (hm i).mp h, rfl⟩
      · rintro ⟨i, h, rfl⟩; exact ⟨i, (hm i).mpr h, rfl⟩
  rw [hsrt] at hsd
  have hlot := is_lot_ok (ad := ad) (K := k) (S := S1) (l := l) (by omega) H hll
  have hfound : evE (Wq ad k) (.cB .tuple (.cons (.sdc [3] (.idxT (.var 2) (.var 3)) (.nm 3) (.seq (.var 1))) .nil)) (lnE d v cs.length x3 none) S1 = .ok (enN l) S1 := by
    rw [enN_eq]
    exact e_cB (ds := [.lst ((lotI l).map .int)]) (a_cons hsd a_nil) rfl
  by_cases hc : P.contains l = true
  · rw [if_pos hc]
    rw [hc] at hlot
    have hb : evSs (Wq ad k) e_lot_named [some d, some v, none, none, none] S1 = .ok (.rt (enN l)) S1 := by
      unfold e_lot_named
      refine ss_asg (S1 := S1) (d := .ftup (nmN cs.length)) (e_cF (ds := [d]) (a_cons (e_var rfl) a_nil) (n_of_ok (by omega) H)) rfl ?_
      refine ss_nx h1 ?_
      refine ss_asg (S1 := S1) (d := enN l) hfound rfl ?_
      exact ss_iff (t_ntf (t_bl (e_cF (ds := [d, enN l]) (a_cons (e_var rfl) (a_cons (e_var rfl) a_nil)) hlot))) (ss_ret (e_var rfl))
    exact call_rt T_lot_named rfl hb rfl
  · have hc : P.contains l = false := by simpa using hc
    rw [hc] at hlot ⊢
    rw [if_neg Bool.false_ne_true]
    have hb : evSs (Wq ad k) e_lot_named [some d, some v, none, none, none] S1 = .exc ("Refused", [("why", .str "lot")]) (lnE d v cs.length x3 (some (enN l))) S1 := by
      unfold e_lot_named
      refine ss_asg (S1 := S1) (d := .ftup (nmN cs.length)) (e_cF (ds := [d]) (a_cons (e_var rfl) a_nil) (n_of_ok (by omega) H)) rfl ?_
      refine ss_nx h1 ?_
      refine ss_asg (S1 := S1) (d := enN l) hfound rfl ?_
      refine ss_ex (st_ift (t_ntt (t_bl (e_cF (ds := [d, enN l]) (a_cons (e_var rfl) (a_cons (e_var rfl) a_nil)) hlot))) (ss_ex ?_))
      exact st_rai (ns := ["why"]) (ds := [.str "lot"]) xRefused (a_cons e_cst a_nil) rfl (Nat.le_of_ble_eq_true rfl)
    exact call_ex T_lot_named rfl hb
end
end K10

set_option maxRecDepth 100000
set_option maxHeartbeats 1000000
namespace K10
open PySem L2 PyI
mutual
theorem dat_alk : ∀ {d : D}, d.dat = true → d.alk = true
  | .non, _ => rfl
  | .bl _, _ => rfl
  | .int _, _ => rfl
  | .str _, _ => rfl
  | .tup ds, h => by simp [D.dat] at h; simp [D.alk, dats_alks h]
  | .lst ds, h => by simp [D.dat] at h; simp [D.alk, dats_alks h]
  | .rol _, h => by simp [D.dat] at h
  | .obj _, h => by simp [D.dat] at h
  | .edic, h => by simp [D.dat] at h
  | .exc _ _ _ _, h => by simp [D.dat] at h
  | .clo _ _ _ _, h => by simp [D.dat] at h
theorem dats_alks : ∀ {ds : List D}, dats ds = true → alks ds = true
  | [], _ => rfl
  | d :: ds, h => by simp [dats] at h; simp [alks, dat_alk h.1, dats_alks h.2]
end
theorem sizes_le {n : Nat} : ∀ {l : List D}, (∀ x ∈ l, x.size ≤ n) → sizes l ≤ l.length * n
  | [], _ => by simp [sizes]
  | x :: l, h => by
    have h1 := h x List.mem_cons_self
    have h2 := sizes_le fun y hy => h y (List.mem_cons_of_mem x hy)
    rw [List.length_cons, Nat.succ_mul]
    show x.size + sizes l ≤ _
    omega
theorem enN_size (l : List Nat) : (enN l).size ≤ 1 + l.length := by
  show 1 + sizes (l.map fun i : Nat => D.int (i : Nat)) ≤ _
  have := sizes_le (n := 1) (l := l.map fun i : Nat => D.int (i : Nat)) fun x hx => by
    obtain ⟨i, _, rfl⟩ := List.mem_map.mp hx
    exact Nat.le_refl _
  rw [List.length_map] at this
  omega
/-- a comprehension whose test draws -/
theorem forR_sub {chk : Store → Bool} {f : D → List D → Store → Rs (List D)} {B : Store → Prop} (hc : ∀ S, chk S = true) : ∀ (xs acc : List D) (S : Store), B S → acc.length + xs.length ≤ 1000 → (∀ x ∈ xs, ∀ (acc : List D) S, B S → acc.length < 1000 → ∃ (t : Bool) (S' : Store), f x acc S = .ok (if t = true then acc ++ [x] else acc) S' ∧ B S') →
    ∃ ys S', forR chk f xs acc S = .ok (acc ++ ys) S' ∧ B S' ∧ ys.Sublist xs
  | [], acc, S, b, _, _ => ⟨[], S, by show (if chk S = true then _ else _) = _; rw [if_pos (hc S), List.append_nil], b, List.Sublist.refl _⟩
  | x :: xs, acc, S, b, hl, h => by
    rw [List.length_cons] at hl
    obtain ⟨t, S1, h1, b1⟩ := h x List.mem_cons_self acc S b (by omega)
    obtain ⟨ys, S', h2, b2, h3⟩ := forR_sub hc xs (if t = true then acc ++ [x] else acc) S1 b1 (by
      split
      · rw [List.length_append]; show _ + 1 + _ ≤ _; omega
      · omega) fun z hz => h z (List.mem_cons_of_mem _ hz)
    refine ⟨(if t = true then [x] else []) ++ ys, S', ?_, b2, ?_⟩
    · show (if chk S = true then (f x acc S).bind _ else _) = _
      rw [if_pos (hc S), h1]
      show forR chk f xs _ S1 = _
      rw [h2]
      cases t with
      | true => simp
      | false => simp
    · cases t with
      | true => exact h3.cons_cons x
      | false => exact h3.cons x
theorem comp_sub {W : Wd} {own : List Nat} {i : Nat} {it : PyI.It} {c : Tx} {e : PyI.Env} {S0 S : Store} {xs : List D} {B : Store → Prop} (hi : evI W it e S0 = .ok (xs, none) S) (b : B S) (hl : xs.length ≤ 1000) (hs : ∀ x, (((wip e own).set i (some x)))[i]? = some (some x))
    (h : ∀ x ∈ xs, ∀ S, B S → ∃ (t : Bool) (S' : Store), evT W c ((wip e own).set i (some x)) S = .ok t S' ∧ B S') : ∃ ys S', evE W (.comp own (.var i) (.nm i) it c) e S0 = .ok (.lst ys) S' ∧ B S' ∧ ys.Sublist xs := by
  obtain ⟨ys, S', h1, b1, h2⟩ := forR_sub (chk := fun S => srcOk S (xs, none)) (f := fun x acc S => match setT (wip e own) (.nm i) x with
        | some e' => (evT W c e' S).bind fun b S => if b then (evE W (.var i) e' S).bind fun d S => if acc.length < SZ then .ok (acc ++ [d]) S else .bad else .ok acc S
        | none => .bad) (B := B) (fun S => rfl) xs [] S b (by simpa using hl) fun x hx acc S' bS ha => by
      obtain ⟨t, S2, g1, g2⟩ := h x hx S' bS
      refine ⟨t, S2, ?_, g2⟩
      show (evT W c ((wip e own).set i (some x)) S').bind (fun b S => if b then (evE W (.var i) ((wip e own).set i (some x)) S).bind fun d S => if acc.length < SZ then Rs.ok (acc ++ [d]) S else .bad else .ok acc S) = _
      rw [g1]
      show (if t = true then (evE W (.var i) ((wip e own).set i (some x)) S2).bind fun d S => if acc.length < SZ then Rs.ok (acc ++ [d]) S else .bad else .ok acc S2) = _
      cases t with
      | true =>
        rw [if_pos rfl, if_pos rfl, e_var (hs x)]
        show (if acc.length < SZ then Rs.ok (acc ++ [x]) S2 else .bad) = _
        rw [if_pos (by show _ < 16777216; omega)]
      | false => rw [if_neg Bool.false_ne_true, if_neg Bool.false_ne_true]
  refine ⟨ys, S', ?_, b1, h2⟩
  show (evI W it e S0).bind _ = _
  rw [hi]
  exact congrArg (fun z : Rs (List D) => z.nox.bind fun ds S => Rs.ok (D.lst ds) S) h1
section
variable {ad : String → Nat} {k K : Nat} {J S : Store}
variable {d p : D} {cs : List D} {most : Nat} {b r m : Int} {rs es : List D} {P : List (List Nat)} {l : List Nat}
theorem alike_ok {x : D} (hK : 1 ≤ K) (hd : x.dat = true) (hs : x.size ≤ 1000000) : C ad K "_law_alike" [x, x] S = .ok (.bl true) S := by
  obtain ⟨k, rfl⟩ : ∃ k, K = k + 1 := ⟨K - 1, by omega⟩
  exact alike_true T__law_alike (dat_alk hd) (by show _ ≤ 16777216; omega)
/-! ## without -/
theorem nin_enN (i : Nat) (g : List Nat) : cmpop .nin (.int (i : Nat)) (enN g) = some (!g.contains i) := by
  have hf : flats 64 (g.map fun i : Nat => D.int (i : Nat)) = true := flats_of fun d hd => by
    obtain ⟨j, _, rfl⟩ := List.mem_map.mp hd
    exact flat_int _ _
  have hd : dats (g.map fun i : Nat => D.int (i : Nat)) = true := dats_all.mpr fun d hd => by
    obtain ⟨j, _, rfl⟩ := List.mem_map.mp hd
    rfl
  show (if (D.int (i : Nat)).dat && dats (g.map fun i : Nat => D.int (i : Nat)) && ((D.int (i : Nat)).flat 64 || flats 64 (g.map fun i : Nat => D.int (i : Nat))) then some (!isIn (D.int (i : Nat)) (g.map fun i : Nat => D.int (i : Nat))) else none) = _
  rw [hf, hd, flat_int]
  have : isIn (D.int (i : Nat)) (g.map fun i : Nat => D.int (i : Nat)) = g.contains i := by
    unfold isIn
    rw [List.any_map]
    clear hf hd
    induction g with
    | nil => rfl
    | cons a g ih =>
      rw [List.any_cons, List.contains_cons, ih]
      congr 1
      show ((a : Int) == (i : Int)) = _
      by_cases h : a = i
      · rw [h]; simp
      · rw [beq_eq_false_iff_ne.mpr (fun e => h e.symm), beq_eq_false_iff_ne.mpr (by omega)]
  rw [this]; rfl
theorem wo_comp {W : Wd} {own : List Nat} {i j : Nat} {e : PyI.Env} {S : Store} {X : Ex} {l g : List Nat} (hl : l.length ≤ 1000) (hX : evE W X e S = .ok (enN l) S) (h1 : ∀ x, (((wip e own).set i (some x)))[i]? = some (some x)) (h2 : ∀ x, (((wip e own).set i (some x)))[j]? = some (some (enN g))) : evE W (.comp own (.var i) (.nm i) (.seq X) (.cmp .nin (.var i) (.var j))) e S = .ok (.lst ((l.filter fun a => !g.contains a).map fun i : Nat => D.int (i : Nat))) S := by
  have e1 : ((l.filter fun a => !g.contains a).map fun i : Nat => D.int (i : Nat)) = ((l.map fun i : Nat => D.int (i : Nat)).filter fun x => match x with | .int i => !g.contains i.toNat | _ => false).map id := by
    rw [List.map_id, List.filter_map]
    congr 1
  rw [e1]
  refine comp_flt (i_seq hX rfl) (by rw [List.length_map]; show _ ≤ 16777216; omega) fun x hx => ⟨_, rfl, ?_, fun _ => e_var (h1 x)⟩
  obtain ⟨a, ha, rfl⟩ := List.mem_map.mp hx
  exact t_cmp (e_var (h1 _)) (e_var (h2 _)) (by rw [nin_enN]; rfl)
theorem without_ok {g : List Nat} (hK : 1 ≤ K) (hl : l.length ≤ 1000) : C ad K "without" [enN l, enN g] S = .ok (enN (l.filter fun a => !g.contains a)) S := by
  obtain ⟨k, rfl⟩ : ∃ k, K = k + 1 := ⟨K - 1, by omega⟩
  refine call_rt T_without rfl ?_ rfl
  show evSs _ e_without [some (enN l), some (enN g), none] S = _
  unfold e_without
  exact ss_ret (e_cB (ds := [.lst _]) (a_cons (wo_comp (g := g) hl (e_var rfl) (fun _ => rfl) (fun _ => rfl)) a_nil) rfl)
/-! ## parts -/
theorem partsN_len (l : List Nat) : (partsN l).length = 2 ^ l.length ∧ ∀ q ∈ partsN l, q.length ≤ l.length := by
  unfold partsN
  have : ∀ (l : List Nat) (f : List (List Nat)) (n : Nat), (∀ q ∈ f, q.length ≤ n) → (l.foldl (fun f a => f ++ f.map (· ++ [a])) f).length = f.length * 2 ^ l.length ∧ ∀ q ∈ l.foldl (fun f a => f ++ f.map (· ++ [a])) f, q.length ≤ n + l.length := by
    intro l
    induction l with
    | nil => exact fun f n h => ⟨by simp, fun q hq => by simpa using h q hq⟩
    | cons a l ih =>
      intro f n h
      obtain ⟨h1, h2⟩ := ih (f ++ f.map (· ++ [a])) (n + 1) fun q hq => by
        rcases List.mem_append.mp hq with hq | hq
        · have := h q hq; omega
        · obtain ⟨z, hz, rfl⟩ := List.mem_map.mp hq
          have := h z hz
          rw [List.length_append]; show _ + 1 ≤ _; omega
      refine ⟨?_, fun q hq => by have := h2 q hq; rw [List.length_cons]; omega⟩
      rw [List.foldl_cons, h1, List.length_append, List.length_map, List.length_cons, Nat.pow_succ, ← Nat.two_mul, Nat.mul_comm 2, Nat.mul_assoc, Nat.mul_comm 2]
  obtain ⟨h1, h2⟩ := this l [[]] 0 fun q hq => by
    rw [List.mem_singleton.mp hq]; exact Nat.le_refl _
  exact ⟨by simpa using h1, fun q hq => by simpa using h2 q hq⟩
theorem parts_srt (S : Store) (f : List (List Nat)) : srtop S (.lst (f.map enN)) = some (.lst (srtD (f.map enN))) := by
  have hall : ((f.map enN).all fun d => (tupI d).isSome) = true := List.all_eq_true.mpr fun d hd => by
    obtain ⟨l, _, rfl⟩ := List.mem_map.mp hd
    exact enN_tupI l
  show (if ((f.map enN).all fun d => (tupI d).isSome) = true then some (D.lst (srtD (f.map enN))) else none) = _
  rw [if_pos hall]
theorem part_loop {W : Wd} {elt : Ex} {S : Store} (hl : l.length ≤ 5) (he : ∀ (f : D) (a : Nat) (q : List Nat), q.length ≤ 5 → evE W elt [some (enN l), some f, some (.int (a : Nat)), some (enN q)] S = .ok (enN (q ++ [a])) S) :
    ∃ x2 x3, evS W (.for (.nm 2) (.seq (.var 0)) (.cons (.asg (.nm 1) (.bin .add (.var 1) (.comp [3] elt (.nm 3) (.seq (.var 1)) .yes))) .nil)) [some (enN l), some (.lst [.tup []]), none, none] S = .ok (.nx [some (enN l), some (.lst ((partsN l).map enN)), x2, x3]) S := by
  obtain ⟨e1, S1, h1, x2, x3, rfl, rfl⟩ := for_pos (W := W) (t := .nm 2) (it := .seq (.var 0)) (b := (.cons (.asg (.nm 1) (.bin .add (.var 1) (.comp [3] elt (.nm 3) (.seq (.var 1)) .yes))) .nil)) (e := [some (enN l), some (.lst [.tup []]), none, none]) (S0 := S) (S := S) (xs := l.map fun i : Nat => D.int (i : Nat))
    (P := fun i e S' => ∃ x2 x3, e = [some (enN l), some (.lst ((partsN (l.take i)).map enN)), x2, x3] ∧ S' = S) (i_seq (d := enN l) (e_var rfl) rfl) ⟨none, none, rfl, rfl⟩ fun i x hx e S' hP => by
      obtain ⟨x2, x3, rfl, rfl⟩ := hP
      rw [List.getElem?_map] at hx
      obtain ⟨a, ha, rfl⟩ := Option.map_eq_some_iff.mp hx
      obtain ⟨p1, p2⟩ := partsN_len (l.take i)
      have hti : (l.take i).length ≤ 5 := by rw [List.length_take]; omega
      have hp5 : 2 ^ (l.take i).length ≤ 2 ^ 5 := Nat.pow_le_pow_right (by omega) hti
      rw [← p1] at hp5
      have hsucc : partsN (l.take (i + 1)) = partsN (l.take i) ++ (partsN (l.take i)).map (· ++ [a]) := by
        unfold partsN
        rw [List.take_add_one, ha, List.foldl_append]; rfl
      generalize partsN (l.take i) = f at p1 p2 hp5 hsucc
      have hc : evE W (.comp [3] elt (.nm 3) (.seq (.var 1)) .yes) [some (enN l), some (.lst (f.map enN)), some (.int (a : Nat)), x3] S' = .ok (.lst ((f.map (· ++ [a])).map enN)) S' := by
        have e1 : ((f.map (· ++ [a])).map enN) = (f.map enN).map fun x => match x with | .tup ds => .tup (ds ++ [.int (a : Nat)]) | x => x := by
          rw [List.map_map, List.map_map]
          refine List.map_congr_left fun q _ => ?_
          show enN (q ++ [a]) = D.tup ((q.map fun i : Nat => D.int (i : Nat)) ++ [.int (a : Nat)])
          unfold enN
          rw [List.map_append]; rfl
        rw [e1]
        refine comp_map (i_seq (d := .lst (f.map enN)) (e_var rfl) rfl) (by rw [List.length_map]; show _ ≤ 16777216; omega) fun x hx => ⟨[some (enN l), some (.lst (f.map enN)), some (.int (a : Nat)), some x], rfl, ?_⟩
        obtain ⟨q, hq, rfl⟩ := List.mem_map.mp hx
        have := he (.lst (f.map enN)) a q (Nat.le_trans (p2 q hq) hti)
        rw [this]
        show _ = Rs.ok (D.tup ((q.map fun i : Nat => D.int (i : Nat)) ++ [.int (a : Nat)])) _
        unfold enN
        rw [List.map_append]; rfl
      refine ⟨[some (enN l), some (.lst (f.map enN)), some (.int (a : Nat)), x3], rfl, [some (enN l), some (.lst ((f ++ f.map (· ++ [a])).map enN)), some (.int (a : Nat)), x3], S', ?_, some (.int (a : Nat)), x3, ?_, rfl⟩
      · refine ss_asg (S1 := S') (d := .lst ((f ++ f.map (· ++ [a])).map enN)) (e_bin (d := .lst (f.map enN)) (d1 := .lst ((f.map (· ++ [a])).map enN)) (e_var rfl) hc ?_) rfl ss_nil
        rw [List.map_append]
        exact add_lst (by rw [List.length_map]; omega) (by rw [List.length_map, List.length_map]; omega)
      · rw [hsucc]
  refine ⟨x2, x3, ?_⟩
  rw [List.length_map, List.take_length] at h1
  exact h1
theorem cat_one (l q : List Nat) (a : Nat) (hq : q.length ≤ 5) : binop .add (enN q) (.tup [.int (a : Nat)]) = some (enN (q ++ [a])) := by
  show (if _ then _ else _) = _
  rw [if_pos (by rw [List.length_map]; show _ + 1 ≤ 16777216; omega)]
  unfold enN
  rw [List.map_append]; rfl
theorem law_parts_ok (hK : 1 ≤ K) (hl : l.length ≤ 5) : C ad K "_law_parts" [enN l] S = .ok (.lst (srtD ((partsN l).map enN))) S := by
  obtain ⟨k, rfl⟩ : ∃ k, K = k + 1 := ⟨K - 1, by omega⟩
  obtain ⟨x2, x3, h1⟩ := part_loop (W := Wq ad k) (S := S) (elt := .bin .add (.var 3) (.tup (.cons (.var 2) .nil))) hl fun f a q hq => e_bin (d := enN q) (d1 := .tup [.int (a : Nat)]) (e_var rfl) (e_tup (a_cons (e_var rfl) a_nil) (Nat.le_of_ble_eq_true rfl)) (cat_one l q a hq)
  refine call_rt T__law_parts rfl ?_ rfl
  show evSs _ e__law_parts [some (enN l), none, none, none] S = _
  unfold e__law_parts
  refine ss_asg (S1 := S) (d := .lst [.tup []]) (e_lst (ds := [.tup []]) (a_cons (e_tup a_nil (Nat.le_of_ble_eq_true rfl)) a_nil) (Nat.le_of_ble_eq_true rfl)) rfl ?_
  exact ss_nx h1 (ss_ret (e_srt (e_var rfl) (parts_srt _ _)))
theorem parts_ok (hK : 1 ≤ K) (hl : l.length ≤ 5) : C ad K "parts_of" [enN l] S = .ok (.tup (srtD ((partsN l).map enN))) S := by
  obtain ⟨k, rfl⟩ : ∃ k, K = k + 1 := ⟨K - 1, by omega⟩
  obtain ⟨x2, x3, h1⟩ := part_loop (W := Wq ad k) (S := S) (elt := .tup (.star (.var 3) (.cons (.var 2) .nil))) hl fun f a q hq => by
    have e4 : D.tup ((q.map fun i : Nat => D.int (i : Nat)) ++ [.int (a : Nat)]) = enN (q ++ [a]) := by
      unfold enN; rw [List.map_append]; rfl
    rw [← e4]
    exact e_tup (a_start (xs := q.map fun i : Nat => D.int (i : Nat)) (e_var rfl) (a_cons (e_var rfl) a_nil)) (by rw [List.length_append, List.length_map]; show _ + 1 ≤ 16777216; omega)
  refine call_rt T_parts_of rfl ?_ rfl
  show evSs _ e_parts_of [some (enN l), none, none, none] S = _
  unfold e_parts_of
  refine ss_asg (S1 := S) (d := .lst [.tup []]) (e_lst (ds := [.tup []]) (a_cons (e_tup a_nil (Nat.le_of_ble_eq_true rfl)) a_nil) (Nat.le_of_ble_eq_true rfl)) rfl ?_
  exact ss_nx h1 (ss_ret (e_cB (ds := [.lst _]) (a_cons (e_srt (e_var rfl) (parts_srt _ _)) a_nil) rfl))
end
end K10

set_option maxRecDepth 100000
set_option maxHeartbeats 1000000
namespace K10
open PySem L2 PyI
def turnB : Sms := (.cons (.asg (.nm 3) (.cF "_law_school" (.cons (.var 1) (.cons (.cst (.int 5)) .nil)))) (.cons (.asg (.tp [4, 5]) (.tup (.cons (.cF "_law_lots" (.cons (.ix (.var 3) (.cst (.int 1))) (.cons (.ix (.var 3) (.cst (.int 2))) .nil))) (.cons (.comp [12, 15] (.var 12) (.tp [12, 15]) (.seq (.ix (.var 3) (.cst (.int 1)))) .yes) .nil)))) (.cons (.for (.nm 6) (.seq (.var 4)) (.cons (.asg (.nm 7) (.comp [14] (.ix (.var 5) (.var 14)) (.nm 14) (.seq (.var 6)) .yes)) (.cons (.ifs (.nt (.tst (.cF "_law_alike" (.cons (.lst (.cons (.cF "names_in" (.cons (.var 3) (.cons (.var 6) .nil))) (.cons (.cF "lot_named" (.cons (.var 3) (.cons (.cF "_law_mixed" (.cons (.var 1) (.cons (.var 7) .nil))) .nil))) .nil))) (.cons (.lst (.cons (.cB .tuple (.cons (.var 7) .nil)) (.cons (.var 6) .nil))) .nil))))) (.cons (.ret (.cst (.bl false))) .nil) .nil) (.cons (.asg (.nm 8) (.cB .tuple (.cons (.comp [14] (.var 14) (.nm 14) (.rng (.cB .len (.cons (.var 5) .nil))) (.cmp .eq (.cF "_law_take" (.cons (.var 1) (.cons (.cst (.int 3)) .nil))) (.cst (.int 0)))) .nil))) (.cons (.asg (.nm 9) (.cB .tuple (.cons (.comp [14] (.var 14) (.nm 14) (.seq (.var 6)) (.cmp .nin (.var 14) (.var 8))) .nil))) (.cons (.ifs (.nt (.tst (.cF "_law_alike" (.cons (.lst (.cons (.cF "without" (.cons (.var 6) (.cons (.var 8) .nil))) (.cons (.cF "parts_of" (.cons (.var 6) .nil)) (.cons (.cF "is_lot" (.cons (.var 3) (.cons (.var 9) .nil))) .nil)))) (.cons (.lst (.cons (.var 9) (.cons (.cB .tuple (.cons (.cF "_law_parts" (.cons (.var 6) .nil)) .nil)) (.cons (.cst (.bl true)) .nil)))) .nil))))) (.cons (.ret (.cst (.bl false))) .nil) .nil) (.cons (.ifs (.cmp .ne (.comp [13] (.cst (.int 1)) (.nm 13) (.seq (.cF "parts_of" (.cons (.var 6) .nil))) (.cmp .nin (.var 13) (.var 4))) (.lst .nil)) (.cons (.ret (.cst (.bl false))) .nil) .nil) .nil))))))) (.cons (.asg (.nm 10) (.comp [12] (.var 12) (.nm 12) (.seq (.var 5)) (.cmp .eq (.cF "_law_take" (.cons (.var 1) (.cons (.cst (.int 2)) .nil))) (.cst (.int 0))))) (.cons (.asg (.nm 6) (.cB .tuple (.cons (.comp [12] (.idx (.var 5) (.var 12)) (.nm 12) (.seq (.var 10)) .yes) .nil))) (.cons (.asg (.nm 9) (.ife (.cmp .inn (.var 6) (.var 4)) (.tup (.cons (.cst (.str "told")) (.cons (.var 6) .nil))) (.tup (.cons (.cst (.str "refused")) (.cons (.cst (.str "lot")) .nil))))) (.cons (.ifs (.nt (.tst (.cF "_law_alike" (.cons (.ask "_law_asked" (.cF "lot_named" (.cons (.var 3) (.cons (.cB .tuple (.cons (.var 10) .nil)) .nil)))) (.cons (.var 9) .nil))))) (.cons (.ret (.cst (.bl false))) .nil) .nil) (.cons (.for (.nm 11) (.seq (.tup (.cons (.cst (.str "zz")) (.cons (.cst .non) (.cons (.cst (.int 0)) (.cons (.tup (.cons (.cst (.str "ga")) .nil)) .nil)))))) (.cons (.ifs (.cmp .ne (.ask "_law_asked" (.cF "lot_named" (.cons (.var 3) (.cons (.bin .add (.var 10) (.lst (.cons (.var 11) .nil))) .nil)))) (.tup (.cons (.cst (.str "no")) (.cons (.var 11) .nil)))) (.cons (.ret (.cst (.bl false))) .nil) .nil) .nil)) .nil))))))))
def lotLB : Sms := (.cons (.asg (.nm 7) (.comp [14] (.ix (.var 5) (.var 14)) (.nm 14) (.seq (.var 6)) .yes)) (.cons (.ifs (.nt (.tst (.cF "_law_alike" (.cons (.lst (.cons (.cF "names_in" (.cons (.var 3) (.cons (.var 6) .nil))) (.cons (.cF "lot_named" (.cons (.var 3) (.cons (.cF "_law_mixed" (.cons (.var 1) (.cons (.var 7) .nil))) .nil))) .nil))) (.cons (.lst (.cons (.cB .tuple (.cons (.var 7) .nil)) (.cons (.var 6) .nil))) .nil))))) (.cons (.ret (.cst (.bl false))) .nil) .nil) (.cons (.asg (.nm 8) (.cB .tuple (.cons (.comp [14] (.var 14) (.nm 14) (.rng (.cB .len (.cons (.var 5) .nil))) (.cmp .eq (.cF "_law_take" (.cons (.var 1) (.cons (.cst (.int 3)) .nil))) (.cst (.int 0)))) .nil))) (.cons (.asg (.nm 9) (.cB .tuple (.cons (.comp [14] (.var 14) (.nm 14) (.seq (.var 6)) (.cmp .nin (.var 14) (.var 8))) .nil))) (.cons (.ifs (.nt (.tst (.cF "_law_alike" (.cons (.lst (.cons (.cF "without" (.cons (.var 6) (.cons (.var 8) .nil))) (.cons (.cF "parts_of" (.cons (.var 6) .nil)) (.cons (.cF "is_lot" (.cons (.var 3) (.cons (.var 9) .nil))) .nil)))) (.cons (.lst (.cons (.var 9) (.cons (.cB .tuple (.cons (.cF "_law_parts" (.cons (.var 6) .nil)) .nil)) (.cons (.cst (.bl true)) .nil)))) .nil))))) (.cons (.ret (.cst (.bl false))) .nil) .nil) (.cons (.ifs (.cmp .ne (.comp [13] (.cst (.int 1)) (.nm 13) (.seq (.cF "parts_of" (.cons (.var 6) .nil))) (.cmp .nin (.var 13) (.var 4))) (.lst .nil)) (.cons (.ret (.cst (.bl false))) .nil) .nil) .nil))))))
def oddB : Sms := (.cons (.ifs (.cmp .ne (.ask "_law_asked" (.cF "lot_named" (.cons (.var 3) (.cons (.bin .add (.var 10) (.lst (.cons (.var 11) .nil))) .nil)))) (.tup (.cons (.cst (.str "no")) (.cons (.var 11) .nil)))) (.cons (.ret (.cst (.bl false))) .nil) .nil) .nil)
def oddX : Ex := (.tup (.cons (.cst (.str "zz")) (.cons (.cst .non) (.cons (.cst (.int 0)) (.cons (.tup (.cons (.cst (.str "ga")) .nil)) .nil)))))
abbrev lw (ns t sc ls nv : D) (x6 x7 x8 x9 x10 x11 : Option D) : PyI.Env := [some ns, some (.obj 0), some t, some sc, some ls, some nv, x6, x7, x8, x9, x10, x11, none, none, none, none]
theorem its0 (n : Nat) : itInts 0 n = (List.range n).map fun i : Nat => D.int (i : Nat) := by
  unfold itInts
  refine List.map_congr_left fun i _ => ?_
  show D.int (0 + (i : Nat)) = _
  rw [Int.zero_add]
theorem nms_size (is : List Nat) (h : ∀ i ∈ is, i < 5) : sizes (is.map nm) ≤ is.length * 1 := by
  have := sizes_le (n := 1) (l := is.map nm) fun x hx => by
    obtain ⟨i, hi, rfl⟩ := List.mem_map.mp hx
    obtain ⟨y, e⟩ := nm_str (h i hi)
    rw [e]; exact Nat.le_refl _
  rwa [List.length_map] at this
section
variable {ad : String → Nat} {k K : Nat} {J S : Store}
variable {d p : D} {cs : List D} {most : Nat} {b r m : Int} {rs es : List D} {P : List (List Nat)} {l : List Nat}
theorem asc (H : Sch d p cs most b r m rs es P) (hl : l ∈ P) : l.Pairwise (· < ·) := by
  rcases H.L.cases_ H.mo hl with rfl | ⟨a, rfl, _⟩ | ⟨a, c, rfl, h, _⟩
  · exact List.Pairwise.nil
  · exact List.pairwise_singleton _ _
  · simpa using h
/-- a value drawn and tested -/
theorem tk_t {e : PyI.Env} {q : Int} (hK : 1 ≤ K) (h0 : 0 < q) (h1 : q < 1000) (hb : e[1]? = some (some (.obj 0))) (bg : Bag J S) : ∃ (t : Bool) (S' : Store), evT (Wq ad K) (.cmp .eq (.cF "_law_take" (.cons (.var 1) (.cons (.cst (.int q)) .nil))) (.cst (.int 0))) e S = .ok t S' ∧ Bag J S' := by
  obtain ⟨v, S1, g1, b1, v0, v1⟩ := tk (ad := ad) (K := K) (m := q) hK h0 (by omega) bg
  exact ⟨_, S1, t_cmp (d := .int v) (d1 := .int 0) (e_cF (ds := [.obj 0, .int q]) (a_cons (e_var hb) (a_cons e_cst a_nil)) g1) e_cst (eq_int _ _), b1⟩
theorem lot_turn {ns t : D} {x7 x8 x9 x10 x11 : Option D} (hK : 7 ≤ K) (H : Sch d p cs most b r m rs es P) (h0 : 1 ≤ most) (hl : l ∈ P) (bg : Bag J S) : ∃ S' z7 z8 z9, evSs (Wq ad K) lotLB (lw ns t d (.lst (P.map enN)) (.lst (nmN cs.length)) (some (enN l)) x7 x8 x9 x10 x11) S = .ok (.nx (lw ns t d (.lst (P.map enN)) (.lst (nmN cs.length)) (some (enN l)) z7 z8 z9 x10 x11)) S' ∧ Bag J S' := by
  have hin := (H.L.in_ hl).2.2.1
  have h2 := ws_len H hl
  have hn := H.S.cl
  have hi5 : ∀ i ∈ l, i < 5 := fun i hi => by have := hin i hi; omega
  have hmd : dats (l.map nm) = true := nms_dat l hi5
  -- mine
  have hmine : evE (Wq ad K) (.comp [14] (.ix (.var 5) (.var 14)) (.nm 14) (.seq (.var 6)) .yes) (lw ns t d (.lst (P.map enN)) (.lst (nmN cs.length)) (some (enN l)) x7 x8 x9 x10 x11) S = .ok (.lst (l.map nm)) S := by
    have e1 : (l.map nm) = (l.map fun i : Nat => D.int (i : Nat)).map fun x => match x with | .int i => nm i.toNat | x => x := by
      rw [List.map_map]
      refine List.map_congr_left fun i _ => ?_
      show nm i = nm ((i : Nat) : Int).toNat
      rw [Int.toNat_natCast]
    rw [e1]
    refine comp_map (i_seq (d := enN l) (e_var rfl) rfl) (by rw [List.length_map]; show _ ≤ 16777216; omega) fun x hx => ⟨[some ns, some (.obj 0), some t, some d, some (.lst (P.map enN)), some (.lst (nmN cs.length)), some (enN l), x7, x8, x9, x10, x11, none, none, some x, none], rfl, ?_⟩
    obtain ⟨i, hi, rfl⟩ := List.mem_map.mp hx
    show evE _ _ _ _ = .ok (nm ((i : Nat) : Int).toNat) _
    rw [Int.toNat_natCast]
    exact e_ixl (n := (i : Int)) (e_var rfl) (e_var rfl) (nmN_at (hin i hi))
  -- the names in any order
  obtain ⟨ys, S1, g1, b1, hp⟩ := mixed_ok (ad := ad) (K := K) (xs := l.map nm) (by omega) hmd (by rw [List.length_map]; omega) bg
  obtain ⟨is, hpi, rfl⟩ := perm_lift nm hp l rfl
  have hln := ln_ok (ad := ad) (K := K) (S := S1) (v := .lst (is.map nm)) (is := is) (l := l) (by omega) H (fun S => rfl) (fun i hi => hin i (hpi.mem_iff.mp hi)) (asc H hl) (fun i => hpi.mem_iff.symm) (by rw [hpi.length_eq]; omega) (by omega)
  have hcl : P.contains l = true := by simpa using hl
  rw [if_pos hcl] at hln
  have al1 := alike_ok (ad := ad) (K := K) (S := S1) (x := .lst [.tup (l.map nm), enN l]) (by omega) (by simp [D.dat, dats, hmd, enN_dat]) (by
    show 1 + ((1 + sizes (l.map nm)) + ((enN l).size + 0)) ≤ _
    have s1 := nms_size l hi5
    have s2 := enN_size l
    omega)
  -- those that are gone
  obtain ⟨ys2, S2, g2, b2, hs2⟩ := comp_sub (W := Wq ad K) (own := [14]) (i := 14) (it := .rng (.cB .len (.cons (.var 5) .nil))) (c := .cmp .eq (.cF "_law_take" (.cons (.var 1) (.cons (.cst (.int 3)) .nil))) (.cst (.int 0))) (e := lw ns t d (.lst (P.map enN)) (.lst (nmN cs.length)) (some (enN l)) (some (.lst (l.map nm))) x8 x9 x10 x11) (S0 := S1) (S := S1) (xs := itInts 0 cs.length) (B := Bag J)
    (i_rng (n := (cs.length : Int)) (e_cB (ds := [.lst (nmN cs.length)]) (a_cons (e_var rfl) a_nil) (by show some (D.int ((nmN cs.length).length : Nat)) = _; rw [List.length_map, List.length_range])) (sm62 (by omega) (by omega))) b1 (by rw [its_len]; omega) (fun x => rfl) fun x hx S bS => tk_t (by omega) (by omega) (by omega) rfl bS
  rw [its0] at hs2
  obtain ⟨g, hg, rfl⟩ := List.sublist_map_iff.mp hs2
  have hgone : evE (Wq ad K) (.cB .tuple (.cons (.comp [14] (.var 14) (.nm 14) (.rng (.cB .len (.cons (.var 5) .nil))) (.cmp .eq (.cF "_law_take" (.cons (.var 1) (.cons (.cst (.int 3)) .nil))) (.cst (.int 0)))) .nil)) (lw ns t d (.lst (P.map enN)) (.lst (nmN cs.length)) (some (enN l)) (some (.lst (l.map nm))) x8 x9 x10 x11) S1 = .ok (enN g) S2 := e_cB (ds := [.lst (g.map fun i : Nat => D.int (i : Nat))]) (a_cons g2 a_nil) rfl
  have hdue : evE (Wq ad K) (.cB .tuple (.cons (.comp [14] (.var 14) (.nm 14) (.seq (.var 6)) (.cmp .nin (.var 14) (.var 8))) .nil)) (lw ns t d (.lst (P.map enN)) (.lst (nmN cs.length)) (some (enN l)) (some (.lst (l.map nm))) (some (enN g)) x9 x10 x11) S2 = .ok (enN (l.filter fun a => !g.contains a)) S2 := e_cB (ds := [.lst ((l.filter fun a => !g.contains a).map fun i : Nat => D.int (i : Nat))]) (a_cons (wo_comp (g := g) (by omega) (e_var rfl) (fun _ => rfl) (fun _ => rfl)) a_nil) rfl
  have hdin := H.L.filter_in h0 H.mo hl fun a => !g.contains a
  have hwo := without_ok (ad := ad) (K := K) (S := S2) (l := l) (g := g) (by omega) (by omega)
  generalize l.filter (fun a => !g.contains a) = due at hdue hdin hwo
  have hpo := parts_ok (ad := ad) (K := K) (S := S2) (l := l) (by omega) (by omega)
  have hlp := law_parts_ok (ad := ad) (K := K) (S := S2) (l := l) (by omega) (by omega)
  have hil := is_lot_ok (ad := ad) (K := K) (S := S2) (l := due) (by omega) H (by have := ws_len H hdin; omega)
  have hcd : P.contains due = true := by simpa using hdin
  rw [hcd] at hil
  obtain ⟨q1, q2⟩ := partsN_len l
  have hsd : dats (srtD ((partsN l).map enN)) = true := dats_all.mpr fun x hx => dats_all.mp (enNs_dat _) x (srt_mem.mp hx)
  have hss : sizes (srtD ((partsN l).map enN)) ≤ 100 := by
    have := sizes_le (n := 3) (l := srtD ((partsN l).map enN)) fun x hx => by
      obtain ⟨q, hq, rfl⟩ := List.mem_map.mp (srt_mem.mp hx)
      have := enN_size q
      have := q2 q hq
      omega
    rw [srt_len, List.length_map, q1] at this
    have h4 : 2 ^ l.length ≤ 2 ^ 2 := Nat.pow_le_pow_right (by omega) h2
    omega
  have al2 := alike_ok (ad := ad) (K := K) (S := S2) (x := .lst [enN due, .tup (srtD ((partsN l).map enN)), .bl true]) (by omega) (by simp [D.dat, dats, hsd, enN_dat]) (by
    show 1 + ((enN due).size + ((1 + sizes (srtD ((partsN l).map enN))) + (1 + 0))) ≤ _
    have s2 := enN_size due
    have := ws_len H hdin
    omega)
  -- each part is a lot
  have hcp : evE (Wq ad K) (.comp [13] (.cst (.int 1)) (.nm 13) (.seq (.cF "parts_of" (.cons (.var 6) .nil))) (.cmp .nin (.var 13) (.var 4))) (lw ns t d (.lst (P.map enN)) (.lst (nmN cs.length)) (some (enN l)) (some (.lst (l.map nm))) (some (enN g)) (some (enN due)) x10 x11) S2 = .ok (.lst []) S2 := by
    have e1 : ([] : List D) = ((srtD ((partsN l).map enN)).filter fun _ => false).map fun _ => .int 1 := by
      rw [List.filter_eq_nil_iff.mpr fun _ _ => Bool.false_ne_true]; rfl
    rw [e1]
    refine comp_flt (i_seq (d := .tup (srtD ((partsN l).map enN))) (e_cF (ds := [enN l]) (a_cons (e_var rfl) a_nil) hpo) rfl) (by
      have := len_le_sizes (srtD ((partsN l).map enN))
      show _ ≤ 16777216; omega) fun x hx => ⟨[some ns, some (.obj 0), some t, some d, some (.lst (P.map enN)), some (.lst (nmN cs.length)), some (enN l), some (.lst (l.map nm)), some (enN g), some (enN due), x10, x11, none, some x, none, none], rfl, ?_, fun _ => e_cst⟩
    obtain ⟨q, hq, rfl⟩ := List.mem_map.mp (srt_mem.mp hx)
    have hqp : P.contains q = true := by simpa using H.L.parts_in h0 H.mo hl hq
    have hnin : cmpop .nin (enN q) (.lst (P.map enN)) = some false := by
      have hf : flats 64 (P.map enN) = true := flats_of fun d hd => by
        obtain ⟨l, _, rfl⟩ := List.mem_map.mp hd
        exact enN_flat l
      show (if (enN q).dat && dats (P.map enN) && ((enN q).flat 64 || flats 64 (P.map enN)) then some (!isIn (enN q) (P.map enN)) else none) = _
      rw [enN_dat, enNs_dat, hf, Bool.or_true, isIn_enN, hqp]; rfl
    exact t_cmp (e_var rfl) (e_var rfl) hnin
  have hnp := t_cmp (W := Wq ad K) (q := .ne) hcp (e_lst (W := Wq ad K) (e := lw ns t d (.lst (P.map enN)) (.lst (nmN cs.length)) (some (enN l)) (some (.lst (l.map nm))) (some (enN g)) (some (enN due)) x10 x11) a_nil (Nat.le_of_ble_eq_true rfl)) (ne_nil (ds := []) rfl)
  refine ⟨S2, some (.lst (l.map nm)), some (enN g), some (enN due), ?_, b2⟩
  unfold lotLB
  refine ss_asg (S1 := S) (d := .lst (l.map nm)) hmine rfl ?_
  have hni := n_in_ok (ad := ad) (K := K) (S := S) (by omega) H hl
  have c1 : evA (Wq ad K) (.cons (.cF "names_in" (.cons (.var 3) (.cons (.var 6) .nil))) (.cons (.cF "lot_named" (.cons (.var 3) (.cons (.cF "_law_mixed" (.cons (.var 1) (.cons (.var 7) .nil))) .nil))) .nil)) (lw ns t d (.lst (P.map enN)) (.lst (nmN cs.length)) (some (enN l)) (some (.lst (l.map nm))) x8 x9 x10 x11) S = .ok [.tup (l.map nm), enN l] S1 :=
    a_cons (e_cF (ds := [d, enN l]) (a_cons (e_var rfl) (a_cons (e_var rfl) a_nil)) hni) (a_cons (e_cF (ds := [d, .lst (is.map nm)]) (a_cons (e_var rfl) (a_cons (e_cF (ds := [.obj 0, .lst (l.map nm)]) (a_cons (e_var rfl) (a_cons (e_var rfl) a_nil)) g1) a_nil)) hln) a_nil)
  refine ss_iff (t_ntf (t_bl (e_cF (a_cons (e_lst c1 (Nat.le_of_ble_eq_true rfl)) (a_cons (e_lst (a_cons (e_cB (ds := [.lst (l.map nm)]) (a_cons (e_var rfl) a_nil) rfl) (a_cons (e_var rfl) a_nil)) (Nat.le_of_ble_eq_true rfl)) a_nil)) al1))) ?_
  refine ss_asg (S1 := S2) (d := enN g) hgone rfl ?_
  refine ss_asg (S1 := S2) (d := enN due) hdue rfl ?_
  have c2 : evA (Wq ad K) (.cons (.cF "without" (.cons (.var 6) (.cons (.var 8) .nil))) (.cons (.cF "parts_of" (.cons (.var 6) .nil)) (.cons (.cF "is_lot" (.cons (.var 3) (.cons (.var 9) .nil))) .nil))) (lw ns t d (.lst (P.map enN)) (.lst (nmN cs.length)) (some (enN l)) (some (.lst (l.map nm))) (some (enN g)) (some (enN due)) x10 x11) S2 = .ok [enN due, .tup (srtD ((partsN l).map enN)), .bl true] S2 :=
    a_cons (e_cF (ds := [enN l, enN g]) (a_cons (e_var rfl) (a_cons (e_var rfl) a_nil)) hwo) (a_cons (e_cF (ds := [enN l]) (a_cons (e_var rfl) a_nil) hpo) (a_cons (e_cF (ds := [d, enN due]) (a_cons (e_var rfl) (a_cons (e_var rfl) a_nil)) hil) a_nil))
  have c3 : evA (Wq ad K) (.cons (.var 9) (.cons (.cB .tuple (.cons (.cF "_law_parts" (.cons (.var 6) .nil)) .nil)) (.cons (.cst (.bl true)) .nil))) (lw ns t d (.lst (P.map enN)) (.lst (nmN cs.length)) (some (enN l)) (some (.lst (l.map nm))) (some (enN g)) (some (enN due)) x10 x11) S2 = .ok [enN due, .tup (srtD ((partsN l).map enN)), .bl true] S2 :=
    a_cons (e_var rfl) (a_cons (e_cB (ds := [.lst (srtD ((partsN l).map enN))]) (a_cons (e_cF (ds := [enN l]) (a_cons (e_var rfl) a_nil) hlp) a_nil) rfl) (a_cons e_cst a_nil))
  refine ss_iff (t_ntf (t_bl (e_cF (a_cons (e_lst c2 (Nat.le_of_ble_eq_true rfl)) (a_cons (e_lst c3 (Nat.le_of_ble_eq_true rfl)) a_nil)) al2))) ?_
  exact ss_iff hnp ss_nil
end
end K10

set_option maxRecDepth 100000
set_option maxHeartbeats 1000000
namespace K10
open PySem L2 PyI
def oddD : List D := [.str "zz", .non, .int 0, .tup [.str "ga"]]
theorem zz_no : ((List.range 6).all fun n => (match cmpop .nin (.str "zz") (.tup (nmN n)) with | some t => t | none => false)) = true := by decide +kernel
theorem odd_no {x : D} (h : x ∈ oddD) : NoNm x := by
  intro n S hn
  unfold oddD at h
  simp only [List.mem_cons, List.not_mem_nil, or_false] at h
  rcases h with rfl | rfl | rfl | rfl
  · refine ⟨rfl, .inr ⟨rfl, ?_⟩⟩
    have := List.all_eq_true.mp zz_no n (List.mem_range.mpr (by omega))
    revert this
    cases cmpop .nin (.str "zz") (.tup (nmN n)) with
    | none => intro h; cases h
    | some t => intro h; rw [show t = true from h]
  · exact ⟨rfl, .inl rfl⟩
  · exact ⟨rfl, .inl rfl⟩
  · exact ⟨rfl, .inl rfl⟩
theorem odd_ne {x : D} (h : x ∈ oddD) : cmpop .ne (.tup [.str "no", x]) (.tup [.str "no", x]) = some false := by
  unfold oddD at h
  simp only [List.mem_cons, List.not_mem_nil, or_false] at h
  rcases h with rfl | rfl | rfl | rfl <;> decide +kernel
section
variable {ad : String → Nat} {k K : Nat} {J S : Store}
variable {d p : D} {cs : List D} {most : Nat} {b r m : Int} {rs es : List D} {P : List (List Nat)} {l : List Nat}
theorem odd_turn {ns t : D} {x6 x7 x8 x9 : Option D} {is : List Nat} {x : D} (hK : 3 ≤ K) (H : Sch d p cs most b r m rs es P) (hi : ∀ i ∈ is, i < cs.length) (hl : is.length ≤ 5) (hx : x ∈ oddD) :
    evSs (Wq ad K) oddB (lw ns t d (.lst (P.map enN)) (.lst (nmN cs.length)) x6 x7 x8 x9 (some (.lst (is.map nm))) (some x)) S = .ok (.nx (lw ns t d (.lst (P.map enN)) (.lst (nmN cs.length)) x6 x7 x8 x9 (some (.lst (is.map nm))) (some x))) S := by
  have h1 := ln_no (ad := ad) (K := K) (S := S) (v := .lst (is.map nm ++ [x])) (x := x) (is := is) (by omega) H (fun _ => rfl) hi (odd_no hx)
  have hv : evE (Wq ad K) (.bin .add (.var 10) (.lst (.cons (.var 11) .nil))) (lw ns t d (.lst (P.map enN)) (.lst (nmN cs.length)) x6 x7 x8 x9 (some (.lst (is.map nm))) (some x)) S = .ok (.lst (is.map nm ++ [x])) S := e_bin (d := .lst (is.map nm)) (d1 := .lst [x]) (e_var rfl) (e_lst (a_cons (e_var rfl) a_nil) (Nat.le_of_ble_eq_true rfl)) (add_lst (by rw [List.length_map]; omega) (Nat.le_of_ble_eq_true rfl))
  have h2 : evE (Wq ad K) (.cF "lot_named" (.cons (.var 3) (.cons (.bin .add (.var 10) (.lst (.cons (.var 11) .nil))) .nil))) (lw ns t d (.lst (P.map enN)) (.lst (nmN cs.length)) x6 x7 x8 x9 (some (.lst (is.map nm))) (some x)) S = .exc ("NoName", [("name", x)]) (lw ns t d (.lst (P.map enN)) (.lst (nmN cs.length)) x6 x7 x8 x9 (some (.lst (is.map nm))) (some x)) S := e_cF1X (ds := [d, .lst (is.map nm ++ [x])]) (a_cons (e_var rfl) (a_cons hv a_nil)) h1
  have h3 : evE (Wq ad K) (.ask "_law_asked" (.cF "lot_named" (.cons (.var 3) (.cons (.bin .add (.var 10) (.lst (.cons (.var 11) .nil))) .nil)))) (lw ns t d (.lst (P.map enN)) (.lst (nmN cs.length)) x6 x7 x8 x9 (some (.lst (is.map nm))) (some x)) S = .ok (.tup [.str "no", x]) S := e_ask akAsked (hdsAsked (ad := ad)) (by rw [h2]; rfl)
  unfold oddB
  exact ss_iff (t_cmp h3 (e_tup (a_cons e_cst (a_cons (e_var rfl) a_nil)) (Nat.le_of_ble_eq_true rfl)) (odd_ne hx)) ss_nil
theorem turn_ok {ns t : D} {x3 x4 x5 x6 x7 x8 x9 x10 x11 : Option D} (hK : 12 ≤ K) (bg : Bag J S) : ∃ S' y3 y4 y5 y6 y7 y8 y9 y10 y11, evSs (Wq ad K) turnB [some ns, some (.obj 0), some t, x3, x4, x5, x6, x7, x8, x9, x10, x11, none, none, none, none] S = .ok (.nx [some ns, some (.obj 0), some t, y3, y4, y5, y6, y7, y8, y9, y10, y11, none, none, none, none]) S' ∧ Bag J S' := by
  obtain ⟨d, S1, g1, b1, p, cs, mostI, b, r, m, rs, es, H0⟩ := school_ok (ad := ad) (K := K) (mc := 5) (by omega) (by omega) (by omega) bg
  obtain ⟨most, rfl⟩ : ∃ n : Nat, mostI = (n : Int) := ⟨mostI.toNat, by have := H0.m0; omega⟩
  have m0 := H0.m0
  have m1 := H0.m1
  have H : Sch d p cs most b r m rs es (prgN (vOf cs) cs.length most).1 := ⟨H0, lots_is (by omega) (by omega) H0.cm.1 H0.cm.2, by omega⟩
  generalize (prgN (vOf cs) cs.length most).1 = P at H
  have hn := H.S.cl
  have hlots := lots_law (ad := ad) (K := K) (S := S1) (by omega) H
  -- each lot
  obtain ⟨e2, S2, h2, y6, y7, y8, y9, rfl, b2⟩ := for_inv (W := Wq ad K) (t := .nm 6) (it := .seq (.var 4)) (b := lotLB) (e := lw ns t d (.lst (P.map enN)) (.lst (nmN cs.length)) x6 x7 x8 x9 x10 x11) (S0 := S1) (S := S1) (xs := P.map enN)
    (P := fun e S' => ∃ y6 y7 y8 y9, e = lw ns t d (.lst (P.map enN)) (.lst (nmN cs.length)) y6 y7 y8 y9 x10 x11 ∧ Bag J S') (i_seq (e_var rfl) rfl) ⟨_, _, _, _, rfl, b1⟩ fun x hx e S' hP => by
      obtain ⟨y6, y7, y8, y9, rfl, b'⟩ := hP
      obtain ⟨l, hl, rfl⟩ := List.mem_map.mp hx
      obtain ⟨S'', z7, z8, z9, h, b''⟩ := lot_turn (ad := ad) (K := K) (ns := ns) (t := t) (x7 := y7) (x8 := y8) (x9 := y9) (x10 := x10) (x11 := x11) (by omega) H (by omega) hl b'
      exact ⟨lw ns t d (.lst (P.map enN)) (.lst (nmN cs.length)) (some (enN l)) y7 y8 y9 x10 x11, rfl, _, S'', h, some (enN l), z7, z8, z9, rfl, b''⟩
  -- some names
  have hlen : (nmN cs.length).length = cs.length := by rw [List.length_map, List.length_range]
  obtain ⟨ys, S3, g3, b3, hs3⟩ := comp_sub (W := Wq ad K) (own := [12]) (i := 12) (it := .seq (.var 5)) (c := .cmp .eq (.cF "_law_take" (.cons (.var 1) (.cons (.cst (.int 2)) .nil))) (.cst (.int 0))) (e := lw ns t d (.lst (P.map enN)) (.lst (nmN cs.length)) y6 y7 y8 y9 x10 x11) (S0 := S2) (S := S2) (xs := nmN cs.length) (B := Bag J)
    (i_seq (e_var rfl) rfl) b2 (by rw [hlen]; omega) (fun x => rfl) fun x hx S bS => tk_t (by omega) (by omega) (by omega) rfl bS
  obtain ⟨is, his, rfl⟩ := List.sublist_map_iff.mp hs3
  have hin : ∀ i ∈ is, i < cs.length := fun i hi => List.mem_range.mp (his.subset hi)
  have hil : is.length ≤ 5 := by
    have := his.length_le
    rw [List.length_range] at this
    omega
  have hasc : is.Pairwise (· < ·) := List.pairwise_lt_range.sublist his
  -- their lot
  have hidx : evE (Wq ad K) (.cB .tuple (.cons (.comp [12] (.idx (.var 5) (.var 12)) (.nm 12) (.seq (.var 10)) .yes) .nil)) (lw ns t d (.lst (P.map enN)) (.lst (nmN cs.length)) y6 y7 y8 y9 (some (.lst (is.map nm))) x11) S3 = .ok (enN is) S3 := by
    refine e_cB (ds := [.lst (is.map fun i : Nat => D.int (i : Nat))]) (a_cons ?_ a_nil) rfl
    have e1 : (is.map fun i : Nat => D.int (i : Nat)) = (is.map nm).map fun x => match findI x (nmN cs.length) with | some i => .int (i : Nat) | none => x := by
      rw [List.map_map]
      refine List.map_congr_left fun i hi => ?_
      show _ = (match findI (nm i) (nmN cs.length) with | some i => D.int (i : Nat) | none => nm i)
      rw [nmN_find hn (hin i hi)]
    rw [e1]
    refine comp_map (i_seq (d := .lst (is.map nm)) (e_var rfl) rfl) (by rw [List.length_map]; show _ ≤ 16777216; omega) fun x hx => ⟨[some ns, some (.obj 0), some t, some d, some (.lst (P.map enN)), some (.lst (nmN cs.length)), y6, y7, y8, y9, some (.lst (is.map nm)), x11, some x, none, none, none], rfl, ?_⟩
    obtain ⟨i, hi, rfl⟩ := List.mem_map.mp hx
    show evE _ _ _ _ = .ok (match findI (nm i) (nmN cs.length) with | some i => D.int (i : Nat) | none => nm i) _
    rw [nmN_find hn (hin i hi)]
    exact e_idx (e_var rfl) (e_var rfl) (nm_idx (S := S3) hn (hin i hi)).2
  have hcin := t_cmp (W := Wq ad K) (q := .inn) (a := .var 6) (b := .var 4) (e := lw ns t d (.lst (P.map enN)) (.lst (nmN cs.length)) (some (enN is)) y7 y8 y9 (some (.lst (is.map nm))) x11) (S := S3) (e_var rfl) (e_var rfl) (inn_ok (P := P) (enN_dat is)).2
  rw [isIn_enN] at hcin
  have hln := ln_ok (ad := ad) (K := K) (S := S3) (v := .tup (is.map nm)) (is := is) (l := is) (by omega) H (fun S => rfl) hin hasc (fun i => Iff.rfl) (by omega) (by omega)
  have hdue : ∃ due : D, due.dat = true ∧ due.size ≤ 100 ∧ evE (Wq ad K) (.ife (.cmp .inn (.var 6) (.var 4)) (.tup (.cons (.cst (.str "told")) (.cons (.var 6) .nil))) (.tup (.cons (.cst (.str "refused")) (.cons (.cst (.str "lot")) .nil)))) (lw ns t d (.lst (P.map enN)) (.lst (nmN cs.length)) (some (enN is)) y7 y8 y9 (some (.lst (is.map nm))) x11) S3 = .ok due S3 ∧
      evE (Wq ad K) (.ask "_law_asked" (.cF "lot_named" (.cons (.var 3) (.cons (.cB .tuple (.cons (.var 10) .nil)) .nil)))) (lw ns t d (.lst (P.map enN)) (.lst (nmN cs.length)) (some (enN is)) y7 y8 (some due) (some (.lst (is.map nm))) x11) S3 = .ok due S3 := by
    have ha : ∀ due : D, evA (Wq ad K) (.cons (.var 3) (.cons (.cB .tuple (.cons (.var 10) .nil)) .nil)) (lw ns t d (.lst (P.map enN)) (.lst (nmN cs.length)) (some (enN is)) y7 y8 (some due) (some (.lst (is.map nm))) x11) S3 = .ok [d, .tup (is.map nm)] S3 := fun due => a_cons (e_var rfl) (a_cons (e_cB (ds := [.lst (is.map nm)]) (a_cons (e_var rfl) a_nil) rfl) a_nil)
    cases hc : P.contains is with
    | true =>
      rw [hc] at hcin hln
      rw [if_pos rfl] at hln
      refine ⟨.tup [.str "told", enN is], by simp [D.dat, dats, enN_dat], ?_, e_ifet hcin (e_tup (a_cons e_cst (a_cons (e_var rfl) a_nil)) (Nat.le_of_ble_eq_true rfl)), ?_⟩
      · show 1 + (1 + ((enN is).size + 0)) ≤ _
        have := enN_size is
        omega
      · exact e_ask akAsked (hdsAsked (ad := ad)) (by rw [e_cF (ha _) hln]; rfl)
    | false =>
      rw [hc] at hcin hln
      rw [if_neg Bool.false_ne_true] at hln
      refine ⟨.tup [.str "refused", .str "lot"], rfl, by show 1 + (1 + (1 + 0)) ≤ _; omega, e_ifef hcin (e_tup (a_cons e_cst (a_cons e_cst a_nil)) (Nat.le_of_ble_eq_true rfl)), ?_⟩
      exact e_ask akAsked (hdsAsked (ad := ad)) (by rw [e_cF1X (ha _) hln]; rfl)
  obtain ⟨due, dd, ds, q1, q2⟩ := hdue
  have al := alike_ok (ad := ad) (K := K) (S := S3) (x := due) (by omega) dd (by omega)
  obtain ⟨e4, S4, h4, z11, rfl, rfl⟩ := for_inv (W := Wq ad K) (t := .nm 11) (it := .seq oddX) (b := oddB) (e := lw ns t d (.lst (P.map enN)) (.lst (nmN cs.length)) (some (enN is)) y7 y8 (some due) (some (.lst (is.map nm))) x11) (S0 := S3) (S := S3) (xs := oddD)
    (P := fun e S' => ∃ z11, e = lw ns t d (.lst (P.map enN)) (.lst (nmN cs.length)) (some (enN is)) y7 y8 (some due) (some (.lst (is.map nm))) z11 ∧ S' = S3) (i_seq (d := .tup oddD) (e_tup (ds := oddD) (a_cons e_cst (a_cons e_cst (a_cons e_cst (a_cons (e_tup (ds := [.str "ga"]) (a_cons e_cst a_nil) (Nat.le_of_ble_eq_true rfl)) a_nil)))) (Nat.le_of_ble_eq_true rfl)) rfl) ⟨_, rfl, rfl⟩ fun x hx e S' hQ => by
      obtain ⟨z11, rfl, rfl⟩ := hQ
      exact ⟨lw ns t d (.lst (P.map enN)) (.lst (nmN cs.length)) (some (enN is)) y7 y8 (some due) (some (.lst (is.map nm))) (some x), rfl, _, _, odd_turn (by omega) H hin hil hx, some x, rfl, rfl⟩
  refine ⟨S4, some d, some (.lst (P.map enN)), some (.lst (nmN cs.length)), some (enN is), y7, y8, some due, some (.lst (is.map nm)), z11, ?_, b3⟩
  unfold turnB
  refine ss_asg (S1 := S1) (d := d) (e_cF (ds := [.obj 0, .int (5 : Nat)]) (a_cons (e_var rfl) (a_cons e_cst a_nil)) g1) rfl ?_
  refine ss_asg (S1 := S1) (d := .tup [.lst (P.map enN), .lst (nmN cs.length)]) (e_tup (a_cons (e_cF (ds := [.tup cs, .int (most : Nat)]) (a_cons (e_ixt (ds := [p, .tup cs, .int (most : Nat)]) (n := 1) (e_var (by rw [H.S.eq]; rfl)) e_cst rfl) (a_cons (e_ixt (ds := [p, .tup cs, .int (most : Nat)]) (n := 2) (e_var (by rw [H.S.eq]; rfl)) e_cst rfl) a_nil)) hlots) (a_cons (nm_comp H (e_ixt (ds := [p, .tup cs, .int (most : Nat)]) (n := 1) (e_var (by rw [H.S.eq]; rfl)) e_cst rfl) (fun _ _ => rfl)) a_nil)) (Nat.le_of_ble_eq_true rfl)) rfl ?_
  show evSs _ _ (lw ns t d (.lst (P.map enN)) (.lst (nmN cs.length)) x6 x7 x8 x9 x10 x11) S1 = _
  refine ss_nx h2 ?_
  refine ss_asg (S1 := S4) (d := .lst (is.map nm)) g3 rfl ?_
  refine ss_asg (S1 := S4) (d := enN is) hidx rfl ?_
  refine ss_asg (S1 := S4) (d := due) q1 rfl ?_
  refine ss_iff (t_ntf (t_bl (e_cF (a_cons q2 (a_cons (e_var rfl) a_nil)) al))) ?_
  exact ss_nx h4 ss_nil
theorem law_k {ns : List Int} (hl : ns.length ≤ 63) : ∃ S, C ad (k + 13) "law" [.rol (ns.map .int)] [] = .ok (.bl true) S := by
  obtain ⟨S1, h1, b1⟩ := bag_ok (T := tabT rows) (con := conT (cons ad)) (f := "_law_bag") (k := k + 11) (ns := ns) T__law_bag hl
  obtain ⟨e2, S2, h2, x2, x3, x4, x5, x6, x7, x8, x9, x10, x11, rfl, b2⟩ := for_inv (W := Wq ad (k + 12)) (t := .nm 2) (it := .rng (.cst (.int 8))) (b := turnB) (e := [some (.rol (ns.map .int)), some (.obj 0), none, none, none, none, none, none, none, none, none, none, none, none, none, none]) (S0 := S1) (S := S1) (xs := itInts 0 8)
    (P := fun e S => ∃ x2 x3 x4 x5 x6 x7 x8 x9 x10 x11, e = [some (.rol (ns.map .int)), some (.obj 0), x2, x3, x4, x5, x6, x7, x8, x9, x10, x11, none, none, none, none] ∧ Bag [] S) (i_rng (n := 8) e_cst rfl) ⟨none, none, none, none, none, none, none, none, none, none, rfl, b1⟩ fun x hx e S hP => by
      obtain ⟨x2, x3, x4, x5, x6, x7, x8, x9, x10, x11, rfl, bS⟩ := hP
      obtain ⟨S', y3, y4, y5, y6, y7, y8, y9, y10, y11, h, b'⟩ := turn_ok (ad := ad) (K := k + 12) (ns := .rol (ns.map .int)) (t := x) (x3 := x3) (x4 := x4) (x5 := x5) (x6 := x6) (x7 := x7) (x8 := x8) (x9 := x9) (x10 := x10) (x11 := x11) (by omega) bS
      exact ⟨[some (.rol (ns.map .int)), some (.obj 0), some x, x3, x4, x5, x6, x7, x8, x9, x10, x11, none, none, none, none], rfl, _, S', h, some x, y3, y4, y5, y6, y7, y8, y9, y10, y11, rfl, b'⟩
  have hbody : evSs (Wq ad (k + 12)) e_law [some (.rol (ns.map .int)), none, none, none, none, none, none, none, none, none, none, none, none, none, none, none] [] = .ok (.rt (.bl true)) S2 := by
    unfold e_law
    refine ss_asg (S1 := S1) (d := .obj 0) (e_cF (ds := [.rol (ns.map .int)]) (a_cons (e_var rfl) a_nil) h1) rfl ?_
    exact ss_nx h2 (ss_ret e_cst)
  have hce := call_eq (T := tabT rows) (con := conT (cons ad)) (k := k + 12) (f := "law") (ds := [.rol (ns.map .int)]) (S := []) T_law rfl
  exact ⟨_, hce.trans (congrArg (fin []) hbody)⟩
end
theorem law_true : ∀ (ad : String → Nat) (ns : List Int), ns.length ≤ 63 → ∃ S, callN (tabT rows) (conT (cons ad)) 30 r_law.name [.rol (ns.map .int)] [] = .ok (.bl true) S := fun ad ns hl => law_k (ad := ad) (k := 17) hl
end K10

set_option maxRecDepth 100000
set_option maxHeartbeats 0
namespace K10
open PySem PySem.Spec PyProof.Rows L2 PyI
abbrev RowL : PySem.W.OpenRow := PySem.W.OpenLaw.row PySem.Challenge.rw_slipschool_k10_names_of_changes_and_part
abbrev hk : PySem.W.Hook := hookP 6 RowL.prog rows cons xrows
def ob (s : PySem.W.SharedT) : AlP := obsPG 6 RowL.prog rows cons xrows (HandSHeadRun.getT s)
theorem ob_eq (s : PySem.W.SharedT) : ob s = hk.obs s.abs := obsPG_eq (HandSHeadRun.getT_eq s)
theorem run (w : World) : HandSHeadRun.RunEq RowL (PySem.W.view RowL.prog [35]) hk ob 3000 names w := by
  intro os
  kernel_rfl
end K10

set_option maxHeartbeats 0
open PySem PySem.W PySem.Calls PyProof.Rows
theorem PySem.Challenge.cw_slipschool_k10_names_of_changes_and_part_holds : PySem.Challenge.rw_slipschool_k10_names_of_changes_and_part.Holds := by
  w_on; o_law
  refine HandSHeadRun.head_any (r := OpenLaw.row PySem.Challenge.rw_slipschool_k10_names_of_changes_and_part) (q := view (OpenLaw.row PySem.Challenge.rw_slipschool_k10_names_of_changes_and_part).prog [35]) (H := K10.hk) (ob := K10.ob) (M := 3000) (loose := K10.names) (d := HandSHeadRun.topDef (OpenLaw.row PySem.Challenge.rw_slipschool_k10_names_of_changes_and_part).prog 35) (kwd := []) K10.ob_eq
    (by kernel_rfl) (fun s => by kernel_rfl) K10.run (by kernel_rfl) (by kernel_rfl) (by kernel_rfl) (by rfl) (by first | assumption | decide +kernel) (by decide +kernel) ⟨rfl, rfl, rfl, rfl, rfl, by decide +kernel⟩ ?hw ?hc
  case hw => w_witness2
  case hc => exact PyI.walk_P (l := PySem.Challenge.rw_slipschool_k10_names_of_changes_and_part) (rows := K10.rows) (cs := K10.cons) (xrs := K10.xrows) (r := K10.r_law) (k := 30) rfl (by kernel_rfl) ⟨rfl, by decide, by decide⟩ K10.rows_ok K10.cs_ok (List.mem_of_getElem? (i := 28) rfl) rfl (by kernel_rfl) rfl K10.law_true
