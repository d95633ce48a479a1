import Derived.Test.YtgncgcfnlbfahaaGreatDoor48
import Derived.Test.YtgncgcfnlbfahaaGreatDoorT8
set_option linter.all false
namespace Go.Proofs.YtgncgcfnlbfahaaGreatDoor
set_option maxRecDepth 1000000
open Go.RowKit
abbrev xN(n:Int):Ex:=.mk 4 0 1 n 1 ⟨#[]⟩ [] []
abbrev xV(s:List UInt8):Ex:=.mk 7 0 1 0 0 ⟨s.toArray⟩ [] []
abbrev xL(s:List UInt8)(a:Int):St:=.mk 1 1 [(⟨s.toArray⟩,a)] [] [xN 1] [] ⟨#[]⟩
abbrev vp:ByteArray:=⟨#[100,111,110,101]⟩
def l7:List St:=[.mk 1 1 [(⟨#[97]⟩,0),(⟨#[98]⟩,0)] [] [xN 1] [] ⟨#[]⟩,.mk 2 1 [(⟨#[102]⟩,0)] [] [.mk 11 0 1 0 0 ⟨#[]⟩ [] [.mk ⟨#[102]⟩ [] false [.mk 11 1 [] [] [xV [98]] [] ⟨#[]⟩] 1]] [] ⟨#[]⟩]
def fN:List St:=[xL [120] 0,.mk 12 2 [] [] [] [] ⟨#[]⟩]
def kB:List St:=[.mk 13 1 [] [] [] [] vp,xL [120] 0,.mk 14 1 [] [] [] [] vp]
def o8:List St:=kB++[.mk 4 1 [] [] [.mk 9 0 1 0 0 ⟨#[]⟩ [xV [112,114,105,110,116],xV [120]] []] [] ⟨#[]⟩]
def o9:List St:=[xL [120] 1,.mk 3 1 [] [xV [120]] [xN 2] [] ⟨#[]⟩]
theorem Fj:f9 pb l7 1000=true:=by kernel_rfl
theorem Fk:f9 pe fN 1000=true:=by kernel_rfl
theorem Fl:f9 pf kB 1000=true:=by kernel_rfl
theorem Fo:f9 pg o8 1000=true:=by kernel_rfl
theorem Fp:f9 ph o9 1000=true:=by kernel_rfl
theorem py:CV dI:=⟨fun b a c w h h1 h2 h3 h4=>xH b a c w h h1 h2 h3 h4,fun b h=>by
 unfold dI at h;split at h
 ·cases h
 ·exact St.wfs_of b h⟩
theorem vy:r7:=fun b a c w h=>by
 have hs:=hI (xp b a c w h.l1 h.l2 h.at_)
 go_enter Tryz.func7,Tryz.ntmps7
 go_wp2_with (go_at_call 23;(with_reducible refine hs.1.mono ?_);rintro e w1 ⟨rfl,m,hw⟩;have hb:Below w.heap.size w w1:=(by rw[hw];exact bH (Below.refl _ _) m);clear hw)
 go_ret;exact⟨⟨_,rfl⟩,hb⟩
def qk(r:SR Fu):Bool:=match r with
 |.ok x=>decide (x.cau=[1])&&(match x.locals with|[_,_,z]=>decide (z.1.data.toList=[102])&&decide (z.2=0)|_=>false)
 |.error _=>false
def ql(r:SR Fu):Bool:=match r with
 |.ok x=>(match x.ups with|[z]=>decide (z.1.data.toList=[98])&&z.2.1&&decide (z.2.2=1)|_=>false)
 |.error _=>false
theorem DG{r:SR Fu}(h:qk r=true):∃(x:Fu) (y z:ByteArray×Int),r=.ok x∧x.cau=[1]∧x.locals=[y,z,(⟨#[102]⟩,0)]:=by
 cases r with
 |error q=>cases h
 |ok x =>
  unfold qk at h;rcases hl:x.locals with _|⟨y,_|⟨z,_|⟨⟨u,v⟩,_|⟨t,r⟩⟩⟩⟩<;>simp[hl]at h
  obtain⟨h1,h2,h3⟩:=h;refine⟨x,y,z,rfl,h1,?_⟩;have h2':u=⟨#[102]⟩:=l8 h2;rw[hl,h2',h3]
theorem DH{r:SR Fu}(h:ql r=true):r.map (·.ups)=.ok [(⟨#[98]⟩,true,1)]:=by
 cases r with
 |error q=>cases h
 |ok x =>
  unfold ql at h;rcases hl:x.ups with _|⟨⟨u,v,t⟩,_|⟨q,r⟩⟩<;>simp[hl]at h
  obtain⟨⟨h1,h2⟩,h3⟩:=h;have h1':u=⟨#[98]⟩:=l8 h1;show Except.ok x.ups=_;rw[hl,h1',h2,h3]
def we(t:List St):Bool:=decide (dI t=0)&&decide (St.wys t≤1073741824)&&decide (St.wzs t≤1073741824)
theorem lv{s:ByteArray}{t:List St}{N:Nat}(hp:f9 s t N=true)(h:we t=true):iX ez s t:=by
 unfold we at h;simp only[Bool.and_eq_true,decide_eq_true_eq]at h;exact FG hp h.1.1 h.1.2 h.2
theorem zS:qk (eK dI l7 0)=true:=by decide +kernel
theorem zT:ql (eK dI l7 1)=true:=by decide +kernel
theorem zU:dK (bo dI fN)=(2,4):=by decide +kernel
theorem zV:(dK (bo dI kB)).2=0:=by decide +kernel
theorem zW:(dK (bo dI o8)).2=12:=by decide +kernel
theorem zX:(dK (bo dI o9)).2=11:=by decide +kernel
theorem sr:oP ez:=zY py (fun w w' h hT=>hT.below h) (b1:=l7) (b2:=fN) (b3:=kB) (b4:=o8) (b5:=o9)
 ⟨DG zS,DH zT,zU,zV,zW,zX,lv Fj (by decide +kernel),lv Fk (by decide +kernel),lv Fl (by decide +kernel),lv Fo (by decide +kernel),lv Fp (by decide +kernel)⟩
