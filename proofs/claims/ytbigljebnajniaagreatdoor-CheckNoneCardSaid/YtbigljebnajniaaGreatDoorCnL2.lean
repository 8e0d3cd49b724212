/- PRINTED BY mkl2.py (own): the second level of known calls: a function that recovers. -/
import Derived.Test.YtbigljebnajniaaGreatDoorCnSum
import Derived.Test.YtbigljebnajniaaGreatDoorA4
namespace YtbigljebnajniaaGreatDoorCnM
open Go Am
set_option maxRecDepth 100000
noncomputable def s14 : Sum := lookS (ctx.with sumT) (K.run tbS ty 60) 8 14
noncomputable def seL2 : List SE := ⟨14, 1, r14, s14⟩ :: seL
noncomputable def tbS2 : T K.FnC := ⟨.yes none ⟨.yes none ⟨.yes (some ⟨r9⟩) ⟨.no (some ⟨r73⟩)⟩ .e .e .e .e .e .e .e⟩ ⟨.yes (some ⟨r17⟩) ⟨.no (some ⟨K.sumFK (memoS mT81) r81⟩)⟩ .e .e .e .e .e .e .e⟩ ⟨.yes (some ⟨r25⟩) ⟨.no (some ⟨r89⟩)⟩ .e .e .e .e .e .e .e⟩ ⟨.no (some ⟨r33⟩)⟩ ⟨.no (some ⟨r41⟩)⟩ ⟨.no (some ⟨r49⟩)⟩ ⟨.no (some ⟨r57⟩)⟩ ⟨.no (some ⟨r65⟩)⟩⟩ ⟨.yes none ⟨.yes (some ⟨r10⟩) ⟨.no (some ⟨r74⟩)⟩ .e .e .e .e .e .e .e⟩ ⟨.yes (some ⟨r18⟩) ⟨.no (some ⟨K.sumFK (memoS mT82) r82⟩)⟩ .e .e .e .e .e .e .e⟩ ⟨.no (some ⟨r26⟩)⟩ ⟨.no (some ⟨r34⟩)⟩ ⟨.no (some ⟨r42⟩)⟩ ⟨.no (some ⟨r50⟩)⟩ .e ⟨.no (some ⟨r66⟩)⟩⟩ ⟨.yes (some ⟨K.fnK ctx 3 1⟩) ⟨.yes (some ⟨r11⟩) ⟨.no (some ⟨r75⟩)⟩ .e .e .e .e .e .e .e⟩ ⟨.yes (some ⟨r19⟩) ⟨.no (some ⟨K.sumFK (memoS mT83) r83⟩)⟩ .e .e .e .e .e .e .e⟩ ⟨.yes (some ⟨r27⟩) ⟨.no (some ⟨r91⟩)⟩ .e .e .e .e .e .e .e⟩ ⟨.no (some ⟨r35⟩)⟩ ⟨.no (some ⟨r43⟩)⟩ .e .e ⟨.no (some ⟨r67⟩)⟩⟩ ⟨.yes (some ⟨K.fnK ctx 4 0⟩) ⟨.yes (some ⟨K.sumFK (memoS mT12) r12⟩) ⟨.no (some ⟨r76⟩)⟩ .e .e .e .e .e .e .e⟩ ⟨.yes (some ⟨r20⟩) ⟨.no (some ⟨r84⟩)⟩ .e .e .e .e .e .e .e⟩ ⟨.yes (some ⟨r28⟩) ⟨.no (some ⟨r92⟩)⟩ .e .e .e .e .e .e .e⟩ ⟨.no (some ⟨r36⟩)⟩ ⟨.no (some ⟨r44⟩)⟩ ⟨.no (some ⟨r52⟩)⟩ ⟨.no (some ⟨r60⟩)⟩ ⟨.no (some ⟨r68⟩)⟩⟩ ⟨.yes (some ⟨r5⟩) ⟨.yes (some ⟨K.sumFK (memoS mT13) r13⟩) ⟨.no (some ⟨r77⟩)⟩ .e .e .e .e .e .e .e⟩ ⟨.no (some ⟨r21⟩)⟩ ⟨.no (some ⟨r29⟩)⟩ ⟨.no (some ⟨r37⟩)⟩ ⟨.no (some ⟨r45⟩)⟩ ⟨.no (some ⟨r53⟩)⟩ ⟨.no (some ⟨r61⟩)⟩ ⟨.no (some ⟨K.sumFK (memoS mT69) r69⟩)⟩⟩ ⟨.yes (some ⟨r6⟩) ⟨.yes (some ⟨K.sumFK s14 r14⟩) ⟨.no (some ⟨r78⟩)⟩ .e .e .e .e .e .e .e⟩ ⟨.yes (some ⟨r22⟩) ⟨.no (some ⟨r86⟩)⟩ .e .e .e .e .e .e .e⟩ ⟨.no (some ⟨r30⟩)⟩ ⟨.yes (some ⟨r38⟩) ⟨.no (some ⟨K.extK' ctx 102⟩)⟩ .e .e .e .e .e .e .e⟩ ⟨.no (some ⟨r46⟩)⟩ ⟨.no (some ⟨r54⟩)⟩ ⟨.no (some ⟨K.sumFK (memoS mT62) r62⟩)⟩ ⟨.no (some ⟨r70⟩)⟩⟩ ⟨.yes (some ⟨r7⟩) ⟨.yes (some ⟨r15⟩) ⟨.no (some ⟨K.sumFK (memoS mT79) r79⟩)⟩ .e .e .e .e .e .e .e⟩ ⟨.no (some ⟨r23⟩)⟩ ⟨.no (some ⟨r31⟩)⟩ ⟨.no (some ⟨r39⟩)⟩ .e ⟨.no (some ⟨r55⟩)⟩ ⟨.no (some ⟨r63⟩)⟩ .e⟩ ⟨.yes (some ⟨r8⟩) ⟨.yes (some ⟨r16⟩) ⟨.no (some ⟨r80⟩)⟩ .e .e .e .e .e .e .e⟩ ⟨.yes (some ⟨r24⟩) ⟨.no (some ⟨r88⟩)⟩ .e .e .e .e .e .e .e⟩ ⟨.no (some ⟨r32⟩)⟩ ⟨.no (some ⟨r40⟩)⟩ ⟨.no (some ⟨K.sumFK (memoS mT48) r48⟩)⟩ .e ⟨.no (some ⟨r64⟩)⟩ .e⟩⟩
theorem tbS2Eq : tbS2 = tbOf tb seL2 := by kernel_rfl
theorem ext14 : (ctx.with sumT).ext.get 14 = none := by kernel_rfl
theorem seG2 : ∀ x ∈ seL2, K.fnK ctx x.f x.n = x.g := by
  intro x hx
  unfold seL2 at hx
  rcases List.mem_cons.1 hx with rfl | hx
  · dsimp only; exact r14_eq
  · exact seG x hx
theorem tbokS2 : K.TbOkS (ctx.with (sumOf seL2)) tbS2 := tbOkS_of tbok tbS2Eq seG2
theorem tyokS : K.TyOk (ctx.with sumT) ty := TyOk.with tyok sumT
theorem sok14 (hX : ExtOk ctx Go.Proofs.Tryz.prog) (G : Gd) : SOk ctx Go.Proofs.Tryz.prog G ⟨14, 1, r14, s14⟩ := by
  have h := sok_look (j := 1) (n := 8) (f := 14) (g := r14) (cok.with sumT) (hX.with sumT) (sumOkS hX G) (K.run_leS tbokS tyokS 60) ext14
  intro args h0 v h' hq
  obtain ⟨q1, q2⟩ := h args h0 v h' hq
  exact ⟨q1, fun ρ w vs p1 p2 p3 p4 => q2 ρ w vs p1 p2 (p3.with sumT) p4⟩
theorem sumOk2 (hX : ExtOk ctx Go.Proofs.Tryz.prog) (G : Gd) : SumOk (ctx.with (sumOf seL2)) Go.Proofs.Tryz.prog G := sumOk_of (fun x hx => by
  unfold seL2 at hx
  rcases List.mem_cons.1 hx with rfl | hx
  · exact sok14 hX G
  · exact sokAll hX G x hx)
end YtbigljebnajniaaGreatDoorCnM
