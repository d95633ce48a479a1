import Derived.Test.YtaddbmkkkollpaaGreatDoor13
import Derived.Test.YtaddbmkkkollpaaGreatDoorCN
import Derived.Test.YtaddbmkkkollpaaGreatDoorB1
import Derived.Test.YtaddbmkkkollpaaGreatDoorT8
set_option linter.all false
namespace Go.Proofs.YtaddbmkkkollpaaGreatDoor
open Go.RowKit
set_option maxRecDepth 1000000
theorem qs:CV ei:=⟨fun b a c w h h1 h2 h3 h4=>JC b a c w h h1 h2 h3 h4,fun b h=>by
  unfold ei at h;split at h
  · cases h
  · exact St.wfs_of b h⟩
def ej (s:Sb):List St:=match iJ ei s with | .ok b=>b | .error _=>[]
def jM (s:Sb):Bool:=match iJ ei s with | .ok b=>decide (St.wys b≤1073741824) | .error _=>false
theorem GF {s:Sb} (h:jM s=true):iJ ei s=.ok (ej s)∧St.wys (ej s)≤1073741824:=by
  unfold jM at h;unfold ej;cases hc:iJ ei s with
  | error q=>rw [hc] at h;cases h
  | ok b=>rw [hc] at h;exact ⟨rfl,of_decide_eq_true h⟩
theorem nt (s:ByteArray) (h:jM s.data.toList=true) (hs:s.size≤4611686018427387904)
    (hq:iU s.data.toList=true)
    : kW eC s (ej s.data.toList):=by
  intro w hT;obtain ⟨h1,h2⟩:=GF h;have HC:=hI (BE qs.tc s w hT hs hq);clear hq;have H1:=hI h1;have H2:=hI h2;generalize ej s.data.toList=B at *;clear h h1 h2
  go_enter Tryz.func19,Tryz.ntmps19
  go_wp2_with (go_at_call 29;(with_reducible refine HC.out.mono ?_);rintro e w1 ⟨hb,⟨n,x,hr,hx,rfl⟩|⟨b,a,c,hr,rfl,j1,j2,j3,j4,j5⟩⟩;(rw [H1.out] at hr;cases hr);(obtain rfl:B=b:=by rw [H1.out] at hr;cases hr;rfl))
  go_ret;exact ⟨⟨a,c,rfl,hI ⟨H2.out,j1,j2,by unfold LM;omega,j5.mono (fun _ _ _=>trivial)⟩⟩,hb⟩
theorem An:jM kh.data.toList=true:=by decide +kernel
theorem Ao:jM li.data.toList=true:=by decide +kernel
theorem Ap:jM lj.data.toList=true:=by decide +kernel
theorem Aq:jM lk.data.toList=true:=by decide +kernel
theorem Ar:jM ll.data.toList=true:=by decide +kernel
def rA (r:SR Fu):Bool:=match r with
  | .ok x=>decide (x.cau=[1]) && (match x.locals with|[_,_,z]=>decide (z.1.data.toList=[102]) && decide (z.2=0)|_=>false)
  | .error _=>false
def rB (r:SR Fu):Bool:=match r with
  | .ok x=>(match x.ups with|[z]=>decide (z.1.data.toList=[98]) && z.2.1 && decide (z.2.2=1)|_=>false)
  | .error _=>false
theorem EJ {r:SR Fu} (h:rA r=true):∃ (x:Fu) (y z:ByteArray × Int),r=.ok x∧x.cau=[1]∧x.locals=[y,z,(⟨#[102]⟩,0)]:=by
  cases r with
  | error q=>cases h
  | ok x =>
    unfold rA at h;rcases hl:x.locals with _|⟨y,_|⟨z,_|⟨⟨u,v⟩,_|⟨t,r⟩⟩⟩⟩ <;> simp [hl] at h
    obtain ⟨h1,h2,h3⟩:=h;refine ⟨x,y,z,rfl,h1,?_⟩;have h2':u=⟨#[102]⟩:=oe h2;rw [hl,h2',h3]
theorem EK {r:SR Fu} (h:rB r=true):r.map (·.ups)=.ok [(⟨#[98]⟩,true,1)]:=by
  cases r with
  | error q=>cases h
  | ok x =>
    unfold rB at h;rcases hl:x.ups with _|⟨⟨u,v,t⟩,_|⟨q,r⟩⟩ <;> simp [hl] at h
    obtain ⟨⟨h1,h2⟩,h3⟩:=h;have h1':u=⟨#[98]⟩:=oe h1;show Except.ok x.ups=_;rw [hl,h1',h2,h3]
theorem Ah:rA (ew ei (ej kh.data.toList) 0)=true:=by decide +kernel
theorem Ai:rB (ew ei (ej kh.data.toList) 1)=true:=by decide +kernel
theorem Aj:eq (bU ei (ej li.data.toList))=(2,4):=by decide +kernel
theorem Ak:(eq (bU ei (ej lj.data.toList))).2=0:=by decide +kernel
theorem Al:(eq (bU ei (ej lk.data.toList))).2=12:=by decide +kernel
theorem Am:(eq (bU ei (ej ll.data.toList))).2=11:=by decide +kernel
theorem As:iU kh.data.toList=true:=by decide +kernel
theorem Au:iU li.data.toList=true:=by decide +kernel
theorem Av:iU lj.data.toList=true:=by decide +kernel
theorem Aw:iU lk.data.toList=true:=by decide +kernel
theorem Ax:iU ll.data.toList=true:=by decide +kernel
theorem Ag:pV eC:=Ay qs (fun w w' h hT=>hT.below h) (b1:=ej kh.data.toList) (b2:=ej li.data.toList) (b3:=ej lj.data.toList) (b4:=ej lk.data.toList) (b5:=ej ll.data.toList)
  ⟨EJ Ah,EK Ai,Aj,Ak,Al,Am,nt _ An (by decide) As,nt _ Ao (by decide) Au,nt _ Ap (by decide) Av,nt _ Aq (by decide) Aw,nt _ Ar (by decide) Ax⟩
