/-
  Parts.
-/
import Derived.Test.YtclbiihcbfnjmaaGreatWrapE
import Derived.Test.YtclbiihcbfnjmaaGreatRows
import Derived.Test.YtclbiihcbfnjmaaGreatESrc
namespace Go.Proofs.YtclbiihcbfnjmaaGreat.experienceSources
open Go.ChangeShapes Go.WideShapes Go.ChangeAt Go.RowKit Go.Deep

theorem own :ownKnob Tryz.prog.godebug=none:=by kernel_rfl
theorem laidOut :laidOutB Tryz.prog=true:=by kernel_rfl
theorem adz : Tryz.prog.readableRec 29=true:=by kernel_rfl
theorem ltF : 29< Tryz.prog.types.size:=kO (by kernel_rfl)
set_option maxRecDepth 100000 in
theorem lifted (os:Os)(started:os.Started)(H:Type)(enc:TypeId×Value->H):
  ReturnsInHanded {} Tryz.checked os 8 .any (Rows.experienceSourcesSpec.pre6 enc Tryz.prog Tryz.f8 Rows.experienceSourcesRow.domain false) (Rows.experienceSourcesSpec.post enc Tryz.prog Tryz.f8 false true false false):=by
 refine returnsInHanded_of_change (C:= Tryz.checked) own started (by kernel_rfl) Tryz.func8
  (ChangeSpec.witness6 (enc:=enc) (C:= Tryz.checked) false ⟨#[],#[.agg aW,.agg aW,.agg aW],[]⟩ 8 (by kernel_rfl) (by kernel_rfl) (by kernel_rfl) (by kernel_rfl)) ?_
 intro W base args ds gs before ZV hW hcnd _;clear hcnd
 have hval:∀(j:Nat) t v,Tryz.f8.params[j]?=some t->args[j]?=some v->Value.okWide Tryz.prog W .any base t v:=ZV
 have hW':=hW;obtain⟨p,q,hA0,hV,rfl,hfz,JG⟩:=hW;have hA:DataW.TrodAll enc Tryz.prog W 0 (fun _=>true) true Tryz.f8.params.toList args.toList ds p:=hA0;rw[Tryz.params8] at hA hval;obtain⟨v0,vs0,d0,ds0,p0,q0,hargs,rfl,rfl,h0,r0⟩:=trodAll_cons hA;obtain⟨v1,vs1,d1,ds1,p1,q1,rfl,rfl,rfl,h1,r1⟩:=trodAll_cons r0;obtain⟨v2,vs2,d2,ds2,p2,q2,rfl,rfl,rfl,h2,r2⟩:=trodAll_cons r1;obtain⟨rfl,rfl,rfl⟩:=trodAll_nil r2
 obtain rfl:args=#[v0,v1,v2]:=by cases args;simp_all
 obtain⟨rfl,rfl⟩:=trodVars_none hV;clear hA0 ZV hA r0 r1 r2 hargs;simp only[List.append_nil] at hW';have hlt:=hW'.lt;obtain⟨q0,rfl,xq⟩:=qc (hval 0 29 v0 rfl rfl) h0;obtain⟨q1,rfl,hq1⟩:=qc (hval 1 29 v1 rfl rfl) h1;obtain⟨q2,rfl,hq2⟩:=qc (hval 2 29 v2 rfl rfl) h2
 refine(Lp q0 q1 q2 W xq hq1 hq2).mono fun e W' ⟨he,hb⟩=> ?_
 subst he;refine⟨_,rfl,_,_,_,[],p0++(p1++(p2++ [])),[],hW', ?_, ?_,rfl,hb.frame _,fun h=>by cases h⟩
 ·exact trodAll_cons_mk (shut_bool Tryz.underlying4 _) trodAll_mk0
 ·exact trodAll_cons_mk (Below.trod laidOut adz ltF h0 hb fun x hx=>hlt x (by simp[hx])) (trodAll_cons_mk (Below.trod laidOut adz ltF h1 hb fun x hx=>hlt x (by simp[hx])) (trodAll_cons_mk (Below.trod laidOut adz ltF h2 hb fun x hx=>hlt x (by simp[hx])) (trodAll_mk0)))

theorem holds :Rows.ExperienceSourcesSaid:=
 OpenClaim.holds_of_wide 8 Tryz.f8 rfl rfl rfl rfl rfl rfl rfl ⟨rfl,rfl,rfl,rfl,rfl⟩ rfl rfl rfl rfl rfl (by kernel_rfl) Tryz.func8 (by kernel_rfl)
  (kO (by kernel_rfl)) (by unfold Func.isWrapper;first|(rw[if_pos (by decide+kernel)];kernel_rfl)|(rw[if_neg (by decide+kernel)];exact⟨rfl,rfl⟩))
  (fun os started H enc _=>lifted os started H enc)
end Go.Proofs.YtclbiihcbfnjmaaGreat.experienceSources
