/- read at a text, large; what the chunks of the examples yield. -/
import Derived.Test.YtaddbmkkkollpaaGreatDoor13
import Derived.Test.YtaddbmkkkollpaaGreatDoorCN
import Derived.Test.YtaddbmkkkollpaaGreatDoorB1
import Derived.Test.YtaddbmkkkollpaaGreatDoorT8
namespace Go.Proofs.YtaddbmkkkollpaaGreatDoor
open Go.RowKit
set_option linter.unusedVariables false
set_option linter.unusedSimpArgs false
set_option maxRecDepth 1000000
theorem cvC:CV checkV:=⟨fun b a c w h h1 h2 h3 h4=>tcheck_any b a c w h h1 h2 h3 h4,fun b h=>by
  unfold checkV at h;split at h
  · cases h
  · exact St.wfs_of b h⟩
def chunkB (s:Sb):List St:=match chunkV checkV s with | .ok b=>b | .error _=>[]
def okE (s:Sb):Bool:=match chunkV checkV s with | .ok b=>decide (St.wys b≤1073741824) | .error _=>false
theorem okE_eq {s:Sb} (h:okE s=true):chunkV checkV s=.ok (chunkB s)∧St.wys (chunkB s)≤1073741824:=by
  unfold okE at h;unfold chunkB;cases hc:chunkV checkV s with
  | error q=>rw [hc] at h;cases h
  | ok b=>rw [hc] at h;exact ⟨rfl,of_decide_eq_true h⟩
theorem read_at (s:ByteArray) (h:okE s.data.toList=true) (hs:s.size≤4611686018427387904)
    (hq:okS s.data.toList=true)
    : RdC SpT s (chunkB s.data.toList):=by
  intro w hT;obtain ⟨h1,h2⟩:=okE_eq h;have HC:=hI (chunk_at cvC.tc s w hT hs hq);clear hq;have H1:=hI h1;have H2:=hI h2;generalize chunkB s.data.toList=B at *;clear h h1 h2
  go_enter Tryz.func19,Tryz.ntmps19
  go_wp2_with (go_at_call 29;(with_reducible refine HC.out.mono ?_);rintro e w1 ⟨hb,⟨n,x,hr,hx,rfl⟩|⟨b,a,c,hr,rfl,j1,j2,j3,j4,j5⟩⟩;(rw [H1.out] at hr;cases hr);(obtain rfl:B=b:=by rw [H1.out] at hr;cases hr;rfl))
  go_ret;exact ⟨⟨a,c,rfl,hI ⟨H2.out,j1,j2,by unfold LM;omega,j5.mono (fun _ _ _=>trivial)⟩⟩,hb⟩
theorem aw_ok1:okE aw1.data.toList=true:=by decide +kernel
theorem aw_ok2:okE aw2.data.toList=true:=by decide +kernel
theorem aw_ok3:okE aw3.data.toList=true:=by decide +kernel
theorem aw_ok4:okE aw4.data.toList=true:=by decide +kernel
theorem aw_ok5:okE aw5.data.toList=true:=by decide +kernel
def k1B (r:SR Fu):Bool:=match r with
  | .ok x=>decide (x.cau=[1]) && (match x.locals with|[_,_,z]=>decide (z.1.data.toList=[102]) && decide (z.2=0)|_=>false)
  | .error _=>false
def k2B (r:SR Fu):Bool:=match r with
  | .ok x=>(match x.ups with|[z]=>decide (z.1.data.toList=[98]) && z.2.1 && decide (z.2.2=1)|_=>false)
  | .error _=>false
theorem k1_of {r:SR Fu} (h:k1B r=true):∃ (x:Fu) (y z:ByteArray × Int),r=.ok x∧x.cau=[1]∧x.locals=[y,z,(⟨#[102]⟩,0)]:=by
  cases r with
  | error q=>cases h
  | ok x =>
    unfold k1B at h;rcases hl:x.locals with _|⟨y,_|⟨z,_|⟨⟨u,v⟩,_|⟨t,r⟩⟩⟩⟩ <;> simp [hl] at h
    obtain ⟨h1,h2,h3⟩:=h;refine ⟨x,y,z,rfl,h1,?_⟩;have h2':u=⟨#[102]⟩:=ba_ext h2;rw [hl,h2',h3]
theorem k2_of {r:SR Fu} (h:k2B r=true):r.map (·.ups)=.ok [(⟨#[98]⟩,true,1)]:=by
  cases r with
  | error q=>cases h
  | ok x =>
    unfold k2B at h;rcases hl:x.ups with _|⟨⟨u,v,t⟩,_|⟨q,r⟩⟩ <;> simp [hl] at h
    obtain ⟨⟨h1,h2⟩,h3⟩:=h;have h1':u=⟨#[98]⟩:=ba_ext h1;show Except.ok x.ups=_;rw [hl,h1',h2,h3]
theorem aw_k1:k1B (funV checkV (chunkB aw1.data.toList) 0)=true:=by decide +kernel
theorem aw_k2:k2B (funV checkV (chunkB aw1.data.toList) 1)=true:=by decide +kernel
theorem aw_k3:errP (walkV checkV (chunkB aw2.data.toList))=(2,4):=by decide +kernel
theorem aw_k4:(errP (walkV checkV (chunkB aw3.data.toList))).2=0:=by decide +kernel
theorem aw_k5:(errP (walkV checkV (chunkB aw4.data.toList))).2=12:=by decide +kernel
theorem aw_k6:(errP (walkV checkV (chunkB aw5.data.toList))).2=11:=by decide +kernel
theorem aw_q1:okS aw1.data.toList=true:=by decide +kernel
theorem aw_q2:okS aw2.data.toList=true:=by decide +kernel
theorem aw_q3:okS aw3.data.toList=true:=by decide +kernel
theorem aw_q4:okS aw4.data.toList=true:=by decide +kernel
theorem aw_q5:okS aw5.data.toList=true:=by decide +kernel
theorem awC:AwC SpT:=awake_run cvC (fun w w' h hT=>hT.below h) (b1:=chunkB aw1.data.toList) (b2:=chunkB aw2.data.toList) (b3:=chunkB aw3.data.toList) (b4:=chunkB aw4.data.toList) (b5:=chunkB aw5.data.toList)
  ⟨k1_of aw_k1,k2_of aw_k2,aw_k3,aw_k4,aw_k5,aw_k6,read_at _ aw_ok1 (by decide) aw_q1,read_at _ aw_ok2 (by decide) aw_q2,read_at _ aw_ok3 (by decide) aw_q3,read_at _ aw_ok4 (by decide) aw_q4,read_at _ aw_ok5 (by decide) aw_q5⟩
end Go.Proofs.YtaddbmkkkollpaaGreatDoor
