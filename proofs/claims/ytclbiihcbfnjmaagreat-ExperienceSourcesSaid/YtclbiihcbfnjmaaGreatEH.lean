/-
  Parts.
-/
import Derived.Test.YtclbiihcbfnjmaaGreatK14
set_option linter.unusedSimpArgs false
set_option maxRecDepth 100000
set_option maxHeartbeats 2000000
namespace Go.Proofs.YtclbiihcbfnjmaaGreat
open Go.RowKit

theorem gK (n d:Int)(w:World)(h1:-9223372036854775808<=n)(h2:n<=9223372036854775807)(h3:-9223372036854775808<=d)(h4:d<=9223372036854775807)(hd:d≠0):
  Calls Tryz.prog 130 #[.int .i64 n,.int .i64 d] w (FR (Rat.divInt n d) w):=by
 have hE:=Env.start w;have hE:=hE.blk 29 aW (g:=w.heap.size) rfl
 obtain⟨W0,aC⟩:∃W0,W0=(w.alloc (.cells aW 29)):=⟨_,rfl⟩
 rw[<-aC] at hE;have aZ:=af aC;clear aC
 go_enter Tryz.func130,Tryz.ntmps130
 go_upto_region 1 with(fail)
 rw[<-aZ.out];go_wp2_with fail
 refine hE.fr (Qi n d W0 h1 h2 h3 h4 hd) ?_;clear hE;intro sf Af nf cf tf Bf mf df w1 hE
 have cS:w.heap.size<=w.heap.size:=by omega
 obtain⟨WW,bn,hB,hV,aM⟩:=aR hE hE.g1 cS hE.g0 cf df;obtain⟨x0,x1,x2,x3⟩:=(hE.g1).c4;obtain⟨fL,fM,fV,fW⟩:=hE.g1.f4;have bR:=af bn;clear bn;go_wp2_with fail
 rw[<-bR.out];obtain⟨y0,y1,y2,y3⟩:=hB.c4;refine aK (v:= .agg (az sf Af nf cf tf Bf mf df)) (by simp[results,Tryz.results130,go_sem,y0,y1,y2,y3]) rfl ?_;exact⟨sf,Af,nf,cf,tf,Bf,mf,df,rfl,hV,aM⟩
end Go.Proofs.YtclbiihcbfnjmaaGreat
