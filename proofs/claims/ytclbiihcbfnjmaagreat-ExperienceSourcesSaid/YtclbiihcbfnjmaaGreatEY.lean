/-
  Parts.
-/
import Derived.Test.YtclbiihcbfnjmaaGreatK23
import Derived.Test.YtclbiihcbfnjmaaGreatExS
namespace Go.Proofs.YtclbiihcbfnjmaaGreat
open Go.RowKit

structure Gr where
 x:Ct
 t:Int
 a:Int
 d:Int
instance: Inhabited FH:=⟨⟨false,none,0,0,fun _=>0,false,none,0,0,fun _=>0⟩⟩
instance: Inhabited Ct:=⟨⟨0,0,0,default,none,0,0,fun _=>0,none,0,0,fun _=>0⟩⟩
instance: Inhabited Gr:=⟨⟨default,0,0,0⟩⟩
abbrev Gr.C (g:Gr):List Value:=[.int .i64 g.x.E,.int .i64 g.x.Y,.int .i64 g.x.T,.bool g.x.p.s,.slice g.x.p.A g.x.p.n g.x.p.c,.bool g.x.p.t,.slice g.x.p.B g.x.p.m g.x.p.d,.slice g.x.A g.x.n g.x.c,.slice g.x.B g.x.m g.x.d,.int .i64 g.t,.int .i64 g.a,.int .i64 g.d]
def i64 (z:Int):Prop:=-9223372036854775808<=z/\z<=9223372036854775807
def Gr.i (g:Gr):Prop:=i64 g.t/\i64 g.a/\i64 g.d/\i64 g.x.T
def DN (A:Option Addr)(n:Nat)(r:Nat->Gr)(W:World):Prop:=0<n->∃b o,A=some ⟨b,o,none⟩/\b<W.heap.size/\∀k,k<n->W.rangeAt b (o+k*12) (r k).C/\(r k).x.rd W
theorem DN.stable (A:Option Addr)(n:Nat)(r:Nat->Gr):ck (DN A n r):=fun _ _ hb h h0=>by
 obtain⟨b,o,e,hlt,hc⟩:=h h0;refine⟨b,o,e,bY hlt hb.size,fun k hk=> ?_⟩;obtain⟨h1,h2⟩:=hc k hk;exact⟨fun j v hv=>(hb.cell (p:=⟨b,_,none⟩) hlt).trans (h1 j v hv),Ct.aN h2 hb⟩
theorem DN.below {A:Option Addr}{n:Nat}{r:Nat->Gr}{w w':World}(h:DN A n r w)(hb:Below w.heap.size w w'):DN A n r w':=DN.stable _ _ _ _ _ hb h
theorem DN.nil (A:Option Addr)(r:Nat->Gr)(W:World):DN A 0 r W:=fun h=>absurd h (Nat.lt_irrefl 0)
theorem DN.rd {A:Option Addr}{n k:Nat}{r:Nat->Gr}{w:World}(h:DN A n r w)(hk:k<n):(r k).x.rd w:=by
 obtain⟨b,o,-,-,hc⟩:=h (by omega);exact(hc k hk).2
structure Yh where
 b:Bh
 d:Bh
 j:FH
 A:Option Addr
 n:Nat
 c:Nat
 r:Nat->Gr
def Yh.rd (y:Yh)(W:World):Prop:=y.b.rd W/\y.d.rd W/\y.j.rd W/\DN y.A y.n y.r W
theorem Yh.aN {y:Yh}{w w':World}(h:y.rd w)(hb:Below w.heap.size w w'):y.rd w':=⟨Bh.aN h.1 hb,Bh.aN h.2.1 hb,kA.below h.2.2.1 hb,h.2.2.2.below hb⟩
abbrev Yh.C (y:Yh):List Value:=[.int .i64 y.b.F,.int .i64 y.b.S,.slice y.b.A y.b.n y.b.c,.bool y.b.i.s,.slice y.b.i.A y.b.i.n y.b.i.c,.bool y.b.i.t,.slice y.b.i.B y.b.i.m y.b.i.d,.int .i64 y.d.F,.int .i64 y.d.S,.slice y.d.A y.d.n y.d.c,.bool y.d.i.s,.slice y.d.i.A y.d.i.n y.d.i.c,.bool y.d.i.t,.slice y.d.i.B y.d.i.m y.d.i.d,.bool y.j.s,.slice y.j.A y.j.n y.j.c,.bool y.j.t,.slice y.j.B y.j.m y.j.d,.slice y.A y.n y.c]
def Yh.bd (y:Yh):Prop:=y.b.bd/\y.d.bd/\(y.j.n<=1000000/\y.j.m<=1000000)/\∀k,k<y.n->(y.r k).x.bd
def Yh.i (y:Yh):Prop:=∀k,k<y.n->(y.r k).i
def pX (b d:Bh)(g:Gr):Prop:=(g.x.ok b/\g.x.ok d)/\(0<=g.t/\pr (b.rt g.x.E g.x.Y) g.t.toNat≠0)/\(0<=g.a/\g.a<=1099511627776/\0<=g.d/\g.d<=g.a)/\(g.d=g.a\/pr (b.rt g.x.E g.x.Y) (g.t.toNat+1)≠0/\pr (d.rt g.x.E g.x.Y) (g.t.toNat+1)≠0)
def VS (j:FH):Prop:=okF j.s j.n j.f j.t j.m j.g=true/\j.s=false/\j.n<=1/\j.m<=1
def Ld (y:Yh):Prop:=y.n<=32/\y.b.ok/\y.d.ok/\VS y.j/\∀k,k<y.n->pX y.b y.d (y.r k)
theorem Env.yrd {w W:World}{P:World->Prop}{y:Yh}(hE:Env w P W)(h:y.rd W):Env w (fun V=>P V/\y.rd V) W:=hE.and (fun _ _ hb h=>Yh.aN h hb) h
end Go.Proofs.YtclbiihcbfnjmaaGreat
