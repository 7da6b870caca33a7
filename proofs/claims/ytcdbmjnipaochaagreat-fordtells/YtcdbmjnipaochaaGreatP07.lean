/- tracerylaw23.FordTells returns true for any two fractions and any disk, and changes nothing that it was handed. No condition. -/
import Derived.Test.YtcdbmjnipaochaaGreatP06
import Derived.JoinedOf
import Derived.JoinedAt
set_option linter.unusedVariables false
set_option linter.unusedSimpArgs false
set_option maxHeartbeats 8000000
set_option maxRecDepth 100000
namespace Go.Proofs.YtcdbmjnipaochaaGreat.fordTellsLaw
open Go.ChangeShapes Go.WideShapes Go.ChangeAt Go.RowKit
theorem lLaw{W:World}(x y:RF)(d:RCi):Calls Tryz.prog 6 #[rfV x,rfV y,rciV d] W (RetV (.bool true) W):=by
 cases h:[x,y,d.a,d.c,d.b.re,d.b.im].any lgD with
 | true=>exact lFtL x y d h
 | false=>cases h1:dsOk d with
  | false=>cases h2:fmay x with
   | false=>exact lFtN0 x y d h h1 h2
   | true =>
    obtain⟨x,rfl⟩:=fmay_ex h2
    have h2:fits (rf x)=true:=by rw [fmay_rf] at h2;exact h2
    cases h3:fmay y with
    | false=>exact lFtN1 x y d h h1 h2 h3
    | true =>
     obtain⟨y,rfl⟩:=fmay_ex h3
     have h3:fits (rf y)=true:=by rw [fmay_rf] at h3;exact h3
     exact lFtN2 x y d h h1 h2 h3
  | true =>
   obtain⟨d,rfl,_⟩:=dsOk_ex h1
   cases h2:fmay x with
   | false=>exact lFtO0 x y d h h1 h2
   | true =>
    obtain⟨x,rfl⟩:=fmay_ex h2
    have h2:fits (rf x)=true:=by rw [fmay_rf] at h2;exact h2
    cases h3:fmay y with
    | false=>exact lFtO1 x y d h h1 h2 h3
    | true =>
     obtain⟨y,rfl⟩:=fmay_ex h3
     have h3:fits (rf y)=true:=by rw [fmay_rf] at h3;exact h3
     exact lFtO2 x y d h h1 h2 h3
theorem contract(H:Type)(enc:TypeId×Value→H)(W:World)(base:Nat)(args:Array Value)(ds gs:List (DataW H))(before:List MemPlace)(hval:∀ (j:Nat) t v,Tryz.f6.params[j]? = some t→args[j]? = some v→Value.okWide Tryz.prog W .any base t v)(hW:DataW.Whole enc Tryz.prog Tryz.f6.params.toList Rows.fordTellsSpec.vars false W args.toList ds gs before):Calls Tryz.prog 6 args W fun e W' => ∃ v,e=.returned v∧Rows.fordTellsSpec.post enc Tryz.prog Tryz.f6 false true false false W args v W' := by
 have hW' := hW
 obtain⟨p,q,hA,hV,rfl,hfz,hnd⟩:=hW
 rw [Tryz.params6] at hA hval
 obtain⟨v0,vs0,d0,ds0,p0,q0,hargs,rfl,rfl,h0,r0⟩:=trodAll_cons hA
 obtain⟨v1,vs1,d1,ds1,p1,q1,rfl,rfl,rfl,h1,r1⟩:=trodAll_cons r0
 obtain⟨v2,vs2,d2,ds2,p2,q2,rfl,rfl,rfl,h2,r2⟩:=trodAll_cons r1
 obtain⟨rfl,rfl,rfl⟩:=trodAll_nil r2
 obtain rfl:args=#[v0,v1,v2]:=by cases args;simp_all
 obtain⟨rfl,rfl⟩:=trodVars_none hV
 obtain⟨x,rfl⟩:=open_frac (hval 0 _ v0 rfl rfl) h0
 obtain⟨y,rfl⟩:=open_frac (hval 1 _ v1 rfl rfl) h1
 obtain⟨d,rfl⟩:=open_disk (hval 2 _ v2 rfl rfl) h2
 refine (lLaw x y d).mono fun e W' h=>?_
 obtain⟨h1,h2⟩:=h.is
 exact⟨_,h1,law_post hW' rfl rfl rfl (by kernel_rfl) h2⟩
theorem lifted(os:Os)(started:os.Started)(H:Type)(enc:TypeId×Value→H):ReturnsInHanded {} Tryz.checked os 6 .any (Rows.fordTellsSpec.pre6 enc Tryz.prog Tryz.f6 Rows.fordTellsRow.domain false) (Rows.fordTellsSpec.post enc Tryz.prog Tryz.f6 false true false false):=by
 refine returnsInHanded_of_change (C:=Tryz.checked) law_own started (by kernel_rfl) Tryz.func6
  (ChangeSpec.witness6 (enc:=enc) (C:=Tryz.checked) false ⟨#[],#[.agg #[.bool false,.string ⟨#[]⟩,.bool false,.string ⟨#[]⟩],.agg #[.bool false,.string ⟨#[]⟩,.bool false,.string ⟨#[]⟩],.agg #[.bool false,.string ⟨#[]⟩,.bool false,.string ⟨#[]⟩,.bool false,.string ⟨#[]⟩,.bool false,.string ⟨#[]⟩,.bool false,.string ⟨#[]⟩,.bool false,.string ⟨#[]⟩,.bool false,.string ⟨#[]⟩,.bool false,.string ⟨#[]⟩]],[]⟩ 8 (by kernel_rfl) (by kernel_rfl) (by kernel_rfl) (by kernel_rfl)) ?_
 intro W base args ds gs before hval hW _ _
 exact contract H enc W base args ds gs before hval hW
theorem kA:Tryz.pinned.checked.prog.funcNamed Rows.fordTellsRow.func=some 6:=by kernel_rfl
theorem laidP:laidOutB Tryz.pinned.checked.prog=true:=law_laid
theorem kB:joinedFacts Tryz.pinned.checked.prog 6 Tryz.f6 Rows.fordTellsSpec Rows.fordTellsRow=true:=by
 unfold joinedFacts
 simp only [Bool.and_eq_true]
 repeat' apply And.intro
 all_goals first|with_reducible exact laidP|as_aux_lemma=>kernel_rfl
theorem kC:Tryz.f6.isInstance Tryz.pinned.checked.prog Rows.fordTellsRow.origin Rows.fordTellsRow.targs:=of_decide_eq_true (by kernel_rfl)
theorem kD:Tryz.f6.isWrapper Tryz.pinned.checked.prog Rows.fordTellsRow.wrapper Rows.fordTellsRow.mainSum:=by
 unfold Func.isWrapper;first|(rw [if_pos (by decide +kernel)];kernel_rfl)|(rw [if_neg (by decide +kernel)];exact⟨rfl,rfl⟩)
theorem over:Rows.FordTellsSaid :=
 OpenClaim.holds_of_wide 6 Tryz.f6 rfl rfl rfl rfl rfl rfl rfl ⟨rfl,rfl,rfl,rfl,rfl⟩ rfl rfl rfl rfl rfl kA Tryz.func6 kB kC kD
  (fun os started H enc _=>lifted os started H enc)
end Go.Proofs.YtcdbmjnipaochaaGreat.fordTellsLaw
namespace Go.Proofs.YtcdbmjnipaochaaGreat
theorem fordTells_proved:Rows.FordTellsSaid:=fordTellsLaw.over
end Go.Proofs.YtcdbmjnipaochaaGreat
