/- What the cards of this seat share: the listed tables. -/
import Derived.Test.YtnglmhlogdjkgaaGreatDoorCards
import Derived.Test.YtnglmhlogdjkgaaGreatDoorTie
import Derived.WalkKit
import Derived.ProofKit
import Derived.OpenShut
import Derived.Deep.DeepHandedRow
import Derived.Deep.DeepLaidRun
import Derived.Deep.DeepWitnessRowRef
import Derived.Lib.LaidTab
import Derived.Lib.LaidU8
import Derived.ShutString
import Derived.ChangeOld
import Derived.ChangeMaps5
import Derived.Test.YtnglmhlogdjkgaaGreatDoorW9
import Derived.Test.YtnglmhlogdjkgaaGreatDoor13
import Derived.Test.YtnglmhlogdjkgaaGreatDoorJH
import Derived.Test.YtnglmhlogdjkgaaGreatDoor17
namespace Go.Proofs.YtnglmhlogdjkgaaGreatDoor
open Go.ChangeShapes Go.WideShapes Go.ChangeAt Go.RowKit
theorem own:ownKnob Tryz.prog.godebug=none:=by kernel_rfl
theorem laidOut:laidOutB Tryz.prog=true:=by kernel_rfl
def laidList:List (String × DataW Unit):=[("unicode/utf8.acceptRanges",Rows.laid_unicode_utf8_acceptRanges),("unicode.White_Space",Rows.laid_unicode_White_Space),("strings.asciiSpace",Rows.laid_strings_asciiSpace),("unicode/utf8.first",Rows.laid_unicode_utf8_first)]
theorem sp_data:(Rows.laid_strings_asciiSpace:DataW Unit)=Lib.tabData .u8 Lib.asciiSpaceTab:=by kernel_rfl
theorem tab_reads {P:Program} {W:World} {name:String} {k:IntKind} {zs:List Int} {g:Nat} {t e:TypeId} {n:Nat}
    (hg:P.globalNamed name=some g) (hty:(P.globals[g]?).map (·.type)=some t) (ht:P.underlying t=some (.array n e)) (he:P.underlying e=some (.int k)) (hce:P.cellsOf e=1) (hct:P.cellsOf t=n)
    (h:Lib.VarReads P W name (Lib.tabData k zs)):Lib.TabIs P W name k zs:=by
  obtain ⟨g',t',cs,fuel,p,hg',ht',hvar,hd⟩:=h;obtain rfl:=Option.some.inj (hg.symm.trans hg');obtain rfl:=Option.some.inj (hty.symm.trans ht');unfold Lib.TabIs;rw [hvar,←Lib.cells_of_tab ht he hce hct hd]
theorem gSpT:Tryz.prog.globalNamed "strings.asciiSpace" = some 0:=by kernel_rfl
theorem gSpType:(Tryz.prog.globals[0]?).map (·.type)=some 290:=by kernel_rfl
theorem cellsA256:Tryz.prog.cellsOf 290=256:=by kernel_rfl
theorem cellsU8:Tryz.prog.cellsOf 5=1:=by kernel_rfl
theorem sp_of {W:World} (h:laidMetH Tryz.prog laidList W):SpT W:=by
  have h2:laidMet Tryz.prog laidList W:=h;have h3:=Lib.laidMet.reads h2 (n := "strings.asciiSpace") (d:=Rows.laid_strings_asciiSpace) (by simp [laidList]);rw [sp_data] at h3;exact tab_reads gSpT gSpType Tryz.underlying290 Tryz.underlying5 cellsU8 cellsA256 h3
noncomputable def laidWorld (os:Os):World :=
  let N:=(World.settled Tryz.prog os).heap.size
  let w0:=World.holding Tryz.prog os ⟨#[.cells (Lib.whiteT.map fun (z:Nat)=>Value.int .u16 (z:Int)).toArray 319,.cells #[.slice (some ⟨N,0,none⟩) 7 7,.slice none 0 0,.int .i64 2] 316],#[],[]⟩
  let put (h:Array Obj) (g:Nat) (cs:Array Value):Array Obj:=h.modify g fun
    | .cells _ t frozen=>.cells cs t frozen
    | o=>o
  { w0 with heap:=put (put (put (put w0.heap 0 (Lib.asciiSpaceTab.map fun z=>Value.int .u8 z).toArray) 3 (Lib.firstTab.map fun z=>Value.int .u8 z).toArray)
      4 ((List.range 16).flatMap fun i=>[Value.int .u8 (Lib.accLo i),Value.int .u8 (Lib.accHi i)]).toArray) 1 #[.pointer (some ⟨N+1,0,none⟩)] }
theorem laid_met0 (os:Os) (args:Array Value):laidMet Tryz.prog laidList ((laidWorld os).forCall (fun _ _=>0) ⟨#[],args,[]⟩).memory :=
  laidMet_of_run3 10 (by kernel_rfl) (by kernel_rfl) (by kernel_rfl)
open Go.RowKit
set_option linter.unusedVariables false
set_option linter.unusedSimpArgs false
abbrev chA:ByteArray:=⟨#[108,111,99,97,108,32,102,117,110,99,116,105,111,110,32,102,40,41,32]⟩
abbrev chZ:ByteArray:=⟨#[32,101,110,100]⟩
abbrev chP:ByteArray:=⟨#[108,111,99,97,108,32,120,32,61,32,49,32]⟩
abbrev chX:ByteArray:=⟨#[114,101,116,117,114,110,32,120]⟩
def chS:Nat→ByteArray
  | 0=>chX
  | k+1=>chA++chS k++chZ
theorem chS_size:∀ k,(chS k).size=8+k*23
  | 0=>rfl
  | k+1=>by
    show (chA++chS k++chZ).size=_;rw [ByteArray.size_append,ByteArray.size_append,chS_size k,show chA.size=19 from rfl,show chZ.size=4 from rfl];omega
def stL (k:Nat):St:=.mk 1 (k:Int) [(⟨#[97]⟩,0)] [] [] [] ⟨#[]⟩
def locs (n:Nat):List St:=(List.range n).map fun i=>stL (i+1)
theorem locs_succ (n:Nat):locs (n+1)=locs n++[stL (n+1)]:=by unfold locs;rw [List.range_succ,List.map_append];rfl
theorem locs_len (n:Nat):(locs n).length=n:=by unfold locs;simp
theorem locs_wy:∀ n,St.wys (locs n)=3*n
  | 0=>rfl
  | n+1=>by
    rw [locs_succ]
    have h:∀ (a:List St) (s:St),St.wys (a++[s])=St.wys a+s.wy:=fun a s=>by
      induction a with
      | nil=>simp [St.wys]
      | cons x r ih=>simp [St.wys,ih];omega
    rw [h,locs_wy n,show (stL (n+1)).wy=3 from rfl];omega
structure ChE (cv:List St→Int) (T:World→Prop):Prop where
  run:∀ d,d<12→∃ b,RdC T (chP++chS (d+1)) b∧∀ i:Nat,1≤i→i≤d+1→(funV cv b i).map (·.ups)=.ok [(⟨#[120]⟩,decide (i=1),0)]
  many:∀ m,m<130→errP (walkV cv (locs (m+1)))=if 120<m+1 then (121,3) else (0,0)
theorem y18a {P:Prop} (h:P:=by
  obtain ⟨rfl,rfl⟩:=Prod.mk.inj hMN
  go_wp2_with (first
    | (go_at_call 13;(with_reducible refine HCB.out.mono ?_);rintro e w8 ⟨rfl,hb8⟩)
    | (go_at_call 12;(with_reducible refine (HAW.out _ (by have h9:=HBL.out;exact bw)).mono ?_);rintro e w9 ⟨rfl,hb9⟩))
  go_ret;exact ⟨rfl,by have h9:=HBL.out;exact bw⟩):P:=h
theorem y18b {P:Prop} (h:P:=by
  go_roundg (gk - 1)
  case rel=>exact ⟨k+1,by omega,by omega,by go_num,hI (HW.out.trans (hb3.mono HW.out.size))⟩
  case measure=>omega):P:=h
set_option maxRecDepth 100000 in
set_option maxHeartbeats 4000000 in
theorem chains_walk {cv:List St→Int} (hC:CV cv) {T:World→Prop} (hA:AwC T) (hE:ChE cv T) (n m:Int) (hn:0≤n∧n≤255) (hm:0≤m∧m≤255) (w:World) (hT:T w) (hw0:1≤w.heap.size) :
    Calls Tryz.prog 5 #[.int .u8 n,.int .u8 m] w fun e w'=>e=.returned (.bool true)∧Below w.heap.size w w':=by
  obtain ⟨N,rfl⟩:∃ N:Nat,n=N:=⟨n.toNat,by omega⟩
  obtain ⟨M,rfl⟩:∃ M:Nat,m=M:=⟨m.toNat,by omega⟩
  obtain ⟨d,hd⟩:∃ d,d=N % 12:=⟨_,rfl⟩
  obtain ⟨q,hq⟩:∃ q,q=M % 130:=⟨_,rfl⟩
  have hd12:d<12:=by omega
  have hq130:q<130:=by omega
  obtain ⟨b,hb,hbu⟩:=hE.run d hd12;have HT:=hI (show ∀ w',Below w.heap.size w w'→T w' from fun w' h=>hA.keep w w' h hT);have HRD:=hI (show ∀ w',Below w.heap.size w w'→Calls Tryz.prog 21 #[.string (chP++chS (d+1))] w' fun e w''=>(∃ a c,e=.returned (.slice a b.length c)∧Hid (BA b a c w''))∧Below w'.heap.size w' w'' from fun w' h=>hb w' (hA.keep w w' h hT))
  have HU:=hI (show ∀ (i:Nat) a c w,1≤i→i≤d+1→BA b a c w→Calls Tryz.prog 15 #[.slice a b.length c,.int .i64 i] w (RowR upF 38 3 (.ok [(⟨#[120]⟩,decide (i=1),0)]) w) from fun i a c w h1 h2 h=>by
    have h9:=ups_at hC h (i:Int);rw [hbu i h1 h2] at h9;exact h9)
  have HAW:=hI (fun w' h=>hA.run w' (hA.keep _ _ h hT):∀ w',Below w.heap.size w w'→Calls Tryz.prog 12 #[] w' fun e w''=>e=.returned (.bool true)∧Below w'.heap.size w' w'');have hMN:=hE.many q hq130;obtain ⟨l9,z9,hlz⟩:∃ l z,errP (walkV cv (locs (q+1)))=(l,z):=⟨_,_,rfl⟩
  have HCK:=hI (show ∀ a c w,BA (locs (q+1)) a c w→Calls Tryz.prog 13 #[.slice a (locs (q+1)).length c] w fun e w'=>e=.returned (.tuple #[.int .i64 l9,.int .i64 z9])∧Below w.heap.size w w' from fun a c w h=>by have h9:=check_at hC h;rw [hlz] at h9;exact h9);rw [hlz] at hMN;have HMN:=hI hMN;have e1:(N:Int).tmod 12=(d:Int):=by rw [hd,Int.tmod_eq_emod_of_nonneg (by omega)];omega
  have e2:(M:Int).tmod 130=(q:Int):=by rw [hq,Int.tmod_eq_emod_of_nonneg (by omega)];omega
  have HD:=hI hd;have HQ:=hI hq;have sz:=fun k=>chS_size k;clear hE hb hbu hA hC hT hMN hlz hd hq
  go_enter Tryz.func5,Tryz.ntmps5
  go_wp2_with fail
  go_loopg [6,7] (d+1) (fun gk u i wr=>∃ k:Nat,gk+k=d+1∧i=.int .i64 k∧u=.string (chS k)∧wr=w)
  case atStart=>exact ⟨0,by omega,rfl,rfl,rfl⟩
  case round =>
  obtain ⟨k,hk,rfl,rfl,hwr⟩:=hrel;obtain rfl:=hwr.symm;have hz:=sz k;by_cases hlt:(k:Int)<(d:Int)+1
  · go_wp2_with fail
    go_roundg (gk - 1)
    case rel=>exact ⟨k+1,by omega,by go_num,rfl,rfl⟩
    case measure=>omega
  obtain rfl:k=d+1:=by omega
  clear hlt hk
  go_wp2_with (first
    | (go_at_call 21;(with_reducible refine (HRD.out _ bw).mono ?_);rintro e w2 ⟨⟨a,c,rfl,HB⟩,hb2⟩))
  go_loopg [9] (d+1) (fun gk i wr=>∃ k:Nat,gk+k=d+2∧1≤k∧i=.int .i64 k∧Hid (Below w2.heap.size w2 wr))
  case atStart=>exact ⟨1,by omega,by omega,rfl,hI (Below.refl _ _)⟩
  case round =>
  rename_i gk0;obtain ⟨k,hk,hk1,rfl,HW⟩:=hrel;by_cases hlt:(k:Int)≤(d:Int)+1
  · have HUU:=hI (HU.out k a c wr hk1 (by omega) (HB.out.below HW.out));by_cases hk2:k=1
    · have q1:((k:Int)==1)=true:=by rw [hk2];rfl
      rw [decide_eq_true hk2] at HUU;have HK:=hI hk2;clear hk2
      go_wp2_with (first
        | (go_at_call 15;(with_reducible refine HUU.out.mono ?_);rintro e w3 ⟨hb3,v3,rfl,hr3⟩;obtain ⟨g3,c3,rfl,m3,x3⟩:(∃ g c,v3=.slice (some ⟨g,0,none⟩) 1 c∧1≤c∧w3.rangeAt g 0 (upF (⟨#[120]⟩,true,0))):=(by
            rcases hr3.at_ (fun x=>rfl) with ⟨-,h0⟩|⟨g,c,hv,-,-,hc,-,hr⟩
            · cases h0
            · exact ⟨g,c,hv,hc,hr 0 _ rfl⟩);have d3:=x3 0 _ rfl;have d3b:=x3 1 _ rfl;have d3c:=x3 2 _ rfl;simp only [Nat.zero_add,Nat.add_zero] at d3 d3b d3c;clear x3 hr3))
      exact y18b
    · have q1:((k:Int)==1)=false:=by simp;omega
      rw [decide_eq_false hk2] at HUU;have HK:=hI hk2;clear hk2
      go_wp2_with (first
        | (go_at_call 15;(with_reducible refine HUU.out.mono ?_);rintro e w3 ⟨hb3,v3,rfl,hr3⟩;obtain ⟨g3,c3,rfl,m3,x3⟩:(∃ g c,v3=.slice (some ⟨g,0,none⟩) 1 c∧1≤c∧w3.rangeAt g 0 (upF (⟨#[120]⟩,false,0))):=(by
            rcases hr3.at_ (fun x=>rfl) with ⟨-,h0⟩|⟨g,c,hv,-,-,hc,-,hr⟩
            · cases h0
            · exact ⟨g,c,hv,hc,hr 0 _ rfl⟩);have d3:=x3 0 _ rfl;have d3b:=x3 1 _ rfl;have d3c:=x3 2 _ rfl;simp only [Nat.zero_add,Nat.add_zero] at d3 d3b d3c;clear x3 hr3))
      exact y18b
  have HBW:=hI (show Below w.heap.size w wr from hb2.trans (HW.out.mono hb2.size));clear hk hk1 HW HB HU hb2;obtain ⟨B,hB⟩:∃ B,B=wr.heap.size:=⟨_,rfl⟩
  have hB1:w.heap.size≤B:=by rw [hB];exact HBW.out.size
  have HB0:=hI hB;clear hB
  go_wp2_with fail
  clear hlt
  go_loopg [13,14] (q+1) (fun gk v i wl=>∃ (j m:Nat) (ds:List SA),gk+j=q+1∧Hid (m=j+1)∧i=.int .i64 m∧Hid (Gath St.cells stA 46 7 B wl v (locs j) ds)∧Hid (Below w.heap.size w wl)∧B≤wl.heap.size)
  case atStart =>
    exact ⟨0,1,[],by omega,hI rfl,rfl,hI ⟨rfl,⟨rfl,.inr ⟨_,0,#[],rfl,Nat.le_of_eq HB0.out,box_at rfl,Nat.le_refl _,Nat.zero_le _,rfl,rfl⟩⟩,fun i x d h=>by simp [locs] at h⟩,hI (by have h9:=HBW.out;exact bw),by rw [HB0.out];simp⟩
  case round =>
  obtain ⟨j,m,ds,hgk,HM,rfl,HG,HBL,hzl⟩:=hrel;by_cases hlt:(m:Int)≤(q:Int)+1
  · obtain ⟨aj,cj,hv,hc1,hc2,-⟩:=HG.out.sts;have HJL:=hI (locs_len j);subst hv;unfold MX at hc2;have HNR:=hI (loc_one (w:=wr) (F:=From wr.heap.size) (b:=wr.heap.size) (s:=⟨#[97]⟩) (n:=0) rfl (Nat.le_refl _) (by unfold MX;exact Nat.succ_le_of_lt (by decide)) (by unfold W64;omega));have HY:=hI (show (stL m).At (From wr.heap.size) (wr.alloc (.cells #[.string ⟨#[97]⟩,.int .i64 0] 40)) ⟨some ⟨wr.heap.size,0,none⟩,1,none,0,none,0,none,0⟩ from st_node ⟨by unfold W64;omega,by unfold W64;omega,Nat.zero_le _⟩ ⟨Nat.le_refl _,by unfold MX;show 1≤_;omega,by show 1≤_;omega⟩ no3 no3 no3 HNR.out trivial trivial trivial);clear HNR
    go_wp2_with (first
      | (at_builtin;go_loud (refine push_st (p:=0) HG.out (Nat.lt_of_lt_of_le hw0 hB1) (Gs.alloc (Gs.refl _ _) _) hzl (Nat.le_refl _) HY.out (by rw [HJL.out];omega) rfl _ _ rfl rfl (by have h9:(wr.alloc (.cells #[.string ⟨#[97]⟩,.int .i64 0] 40)).heap.size=wr.heap.size+1:=(by simp);rw [h9];rfl) ?_;intro v' w7 hg7 hgr hlo;have HG7:=hI hg7;have HGR:=hI hgr;have HLO:=hI hlo;clear hg7 hgr hlo)))
    go_roundg (gk - 1)
    case rel =>
      have hm9:=HM.out;refine ⟨j+1,m+1,ds++[⟨some ⟨wr.heap.size,0,none⟩,1,none,0,none,0,none,0⟩],by omega,hI (by rw [HM.out]),by go_num,hI ?_,hI ?_,?_⟩
      · have h9:=HG7.out;rw [HM.out,←locs_succ] at h9;exact h9
      · exact Below.grown (balloc (balloc HBL.out _) _) HGR.out (by have h9:=HBL.out.size;simp;omega) (fun k hk=>Nat.le_trans hB1 (HLO.out k hk))
      · have h9:=HGR.out.size;simp at h9;omega
    case measure=>have:=HM.out;omega
  have hj:j=q+1:=by have:=HM.out;omega
  subst hj;obtain ⟨aj,cj,hv,hc1,hc2,hat⟩:=HG.out.sts;subst hv;have HCB:=hI (HCK.out aj cj wr ⟨by rw [locs_wy];omega,hc1,hc2,by rw [locs_len];unfold LM;omega,hat.mono (fun _ _ _=>trivial)⟩);have hMN:=HMN.out;clear hc1 hc2 hat HG HM hgk HCK HMN;by_cases hq120:(120:Int)<(q:Int)+1
  · rw [if_pos (by omega)] at hMN;exact y18a
  · rw [if_neg (by omega)] at hMN;exact y18a
open Go.RowKit
set_option linter.unusedVariables false
set_option linter.unusedSimpArgs false
set_option maxRecDepth 1000000
def chT (d:Nat):ByteArray:=chP++chS (d+1)
def oneU (x:Fu) (e:Bool):Bool:=match x.ups with|[z]=>decide (z.1.data.toList=[120]) && (z.2.1==e) && decide (z.2.2=0)|_=>false
def chB (d:Nat):Bool:=okE (chT d).data.toList && match walkV checkV (chunkB (chT d).data.toList) with
  | .ok σ=>decide (d+1<σ.funs.length) && (List.range (d+1)).all fun i=>oneU (σ.fu (i+1)) (decide (i=0))
  | .error _=>false
theorem oneU_eq {x:Fu} {e:Bool} (h:oneU x e=true):x.ups=[(⟨#[120]⟩,e,0)]:=by
  unfold oneU at h;rcases hl:x.ups with _|⟨⟨u,v,t⟩,_|⟨q,r⟩⟩ <;> simp [hl] at h
  obtain ⟨⟨h1,h2⟩,h3⟩:=h;have h1':u=⟨#[120]⟩:=ba_ext h1;rw [h1',h2,h3]
theorem chB_ups {d:Nat} (h:chB d=true) (i:Nat) (h1:1≤i) (h2:i≤d+1):(funV checkV (chunkB (chT d).data.toList) i).map (·.ups)=.ok [(⟨#[120]⟩,decide (i=1),0)]:=by
  unfold chB at h;unfold funV;generalize chunkB (chT d).data.toList=B at h ⊢;cases hw:walkV checkV B with
  | error q=>rw [hw] at h;simp at h
  | ok σ =>
    rw [hw] at h;simp only [Bool.and_eq_true,decide_eq_true_eq,List.all_eq_true,List.mem_range] at h;obtain ⟨-,h3,h4⟩:=h;have h5:=oneU_eq (h4 (i - 1) (by omega));show Except.map _ (if (0:Int)≤i∧(i:Int)<σ.funs.length then Except.ok (σ.fu (i:Int).toNat) else _)=_;rw [if_pos ⟨by omega,by omega⟩];show Except.ok (σ.fu i).ups=_;rw [Nat.sub_add_cancel h1] at h5;rw [h5];have h6:decide (i - 1=0)=decide (i=1):=by by_cases h:i=1 <;> simp [h] <;> omega
    rw [h6]
theorem ch_k1:((List.range 12).all chB)=true:=by decide +kernel
theorem ch_q1:((List.range 12).all fun d=>okS (chT d).data.toList)=true:=by decide +kernel
def mB (m:Nat):Bool:=decide (errP (walkV checkV (locs (m+1)))=if 120<m+1 then (121,3) else (0,0))
theorem ch_m0:((List.range 40).all fun i=>mB (0+i))=true:=by decide +kernel
theorem ch_m1:((List.range 30).all fun i=>mB (40+i))=true:=by decide +kernel
theorem ch_m2:((List.range 20).all fun i=>mB (70+i))=true:=by decide +kernel
theorem ch_m3:((List.range 20).all fun i=>mB (90+i))=true:=by decide +kernel
theorem ch_m4:((List.range 20).all fun i=>mB (110+i))=true:=by decide +kernel
theorem mB_of {a n:Nat} (h:((List.range n).all fun i=>mB (a+i))=true) (m:Nat) (h1:a≤m) (h2:m<a+n):mB m=true:=by
  have h3:=List.all_eq_true.1 h (m - a) (List.mem_range.2 (by omega));rw [show a+(m - a)=m from by omega] at h3;exact h3
theorem chE:ChE checkV SpT where
  run d hd:=by
    have h:=List.all_eq_true.1 ch_k1 d (List.mem_range.2 hd);have hq:=List.all_eq_true.1 ch_q1 d (List.mem_range.2 hd)
    refine ⟨_,read_at (chT d) ?_ ?_
      hq
      ,fun i h1 h2=>chB_ups h i h1 h2⟩
    · unfold chB at h;exact (Bool.and_eq_true _ _ ▸ h).1
    · unfold chT;rw [ByteArray.size_append,chS_size,show chP.size=12 from rfl];omega
  many m hm:=of_decide_eq_true (show mB m=true from
    if h0:m<40 then mB_of ch_m0 m (by omega) (by omega) else if h1:m<70 then mB_of ch_m1 m (by omega) (by omega) else if h2:m<90 then mB_of ch_m2 m (by omega) (by omega)
    else if h3:m<110 then mB_of ch_m3 m (by omega) (by omega) else mB_of ch_m4 m (by omega) (by omega))
end Go.Proofs.YtnglmhlogdjkgaaGreatDoor
namespace Go.Proofs.YtnglmhlogdjkgaaGreatDoor.chains
open Go.ChangeShapes Go.WideShapes Go.ChangeAt Go.RowKit
open Go.ChangeMaps (open_string shut_string)
set_option linter.unusedVariables false
set_option linter.unusedSimpArgs false
set_option maxHeartbeats 1000000
set_option maxRecDepth 100000
theorem u8_wf {n:Int} (h:(Lit.int .u8 n).wf=true):0≤n∧n≤255:=by
  simpa [Lit.wf,IntKind.min,IntKind.max,IntKind.bits,IntKind.signed] using h
theorem sp_pos {w:World} (h:SpT w):1≤w.heap.size:=by
  rcases Nat.eq_zero_or_pos w.heap.size with h0|h0
  · have h9:w.var? Tryz.prog "strings.asciiSpace" = some _:=h;unfold World.var? at h9;rw [gSpT,Option.bind_some,Array.getElem?_eq_none (by omega)] at h9;cases h9
  · exact h0
theorem contract (H:Type) (enc:TypeId × Value→H) (W:World) (base:Nat) (args:Array Value) (ds gs:List (DataW H)) (before:List MemPlace)
    (hval0:∀ (j:Nat) t v,Tryz.f5.params[j]?=some t→args[j]?=some v→Value.okWide Tryz.prog W .any base t v)
    (hW:DataW.Whole enc Tryz.prog Tryz.f5.params.toList Rows.scopeChainsSpec.vars false W args.toList ds gs before) (hL:laidMetH Tryz.prog Rows.scopeChainsRow.laid W) :
    Calls Tryz.prog 5 args W fun e W'=>∃ v,e=.returned v∧Rows.scopeChainsSpec.post enc Tryz.prog Tryz.f5 false true false false W args v W':=by
  have hT:=sp_of hL;have hval:∀ (j:Nat) t v,Tryz.f5.params[j]?=some t→args[j]?=some v→Value.okWide Tryz.prog W .any base t v:=hval0;have hW':=hW;obtain ⟨p,q,hA0,hV,rfl,hfz,hnd⟩:=hW;have hA:DataW.TrodAll enc Tryz.prog W 0 (fun _=>true) true Tryz.f5.params.toList args.toList ds p:=hA0;rw [Tryz.params5] at hA hval;obtain ⟨v0,vs0,d0,ds0,p0,q0,hargs,rfl,rfl,h0,r0⟩:=trodAll_cons hA;obtain ⟨v1,vs1,d1,ds1,p1,q1,rfl,rfl,rfl,h1,r1⟩:=trodAll_cons r0;obtain ⟨rfl,rfl,rfl⟩:=trodAll_nil r1;obtain rfl:args=#[v0,v1]:=by cases args;simp_all
  obtain ⟨rfl,rfl⟩:=trodVars_none hV;clear hA0 hval0;have k0:=h0;have lt0:∀ x ∈ p0,x.block<W.heap.size:=by obtain ⟨m,hm⟩:=k0;exact DataW.trod_lt m _ _ _ hm
  obtain ⟨a0,rfl,rfl,rfl,w0⟩:=open_int Tryz.underlying5 (hval 0 5 v0 rfl rfl) h0;have k1:=h1;have lt1:∀ x ∈ p1,x.block<W.heap.size:=by obtain ⟨m,hm⟩:=k1;exact DataW.trod_lt m _ _ _ hm
  obtain ⟨a1,rfl,rfl,rfl,w1⟩:=open_int Tryz.underlying5 (hval 1 5 v1 rfl rfl) h1;have q0:0≤a0∧a0≤255:=u8_wf w0;have q1:0≤a1∧a1≤255:=u8_wf w1;refine (chains_walk cvC awC chE a0 a1 q0 q1 W hT (sp_pos hT)).mono fun e W' ⟨he,bel⟩=>?_;subst he;exact ⟨_,rfl,_,_,_,[],_,[],hW',trodAll_mk1 (shut_bool Tryz.underlying4 _),(trodAll_cons_mk (Below.trod laidOut (by kernel_rfl) (of_decide_eq_true (by kernel_rfl)) k0 bel lt0) (trodAll_cons_mk (Below.trod laidOut (by kernel_rfl) (of_decide_eq_true (by kernel_rfl)) k1 bel lt1) trodAll_mk0)),rfl,bel.frame _,fun h=>by cases h⟩
theorem laid_met (os:Os):laidMet Tryz.prog Rows.scopeChainsRow.laid ((laidWorld os).forCall (fun _ _=>0) ⟨#[],#[.int .u8 0,.int .u8 0],[]⟩).memory :=
  laid_met0 os _
theorem reads (os:Os) {H:Type} (enc:TypeId × Value→H):∃ places,DataW.whole enc Tryz.prog ((laidWorld os).forCall (fun _ _=>0) ⟨#[],#[.int .u8 0,.int .u8 0],[]⟩).memory Tryz.f5.params.toList Rows.scopeChainsSpec.vars false #[.int .u8 0,.int .u8 0].toList 8=some ([.lit (.int .u8 0),.lit (.int .u8 0)],[],places) :=
  ⟨[],by kernel_rfl⟩
theorem lifted (os:Os) (started:os.Started) (H:Type) (enc:TypeId × Value→H) (F:Stop.Interp) :
    ReturnsInHanded {} Tryz.checked os 5 .any ((OpenSpec.ofChange Rows.scopeChainsSpec).preRow enc Tryz.prog Tryz.f5 Rows.scopeChainsRow.domain false Rows.scopeChainsRow.laid) (((OpenSpec.ofChange Rows.scopeChainsSpec).at F).post enc Tryz.prog Tryz.f5 false true false false):=by
  obtain ⟨places,hx⟩:=reads os enc
  refine returnsInHanded_of_row (C:=Tryz.checked) (s:=OpenSpec.ofChange Rows.scopeChainsSpec) own started (by kernel_rfl) Tryz.func5
    (witness_row_atRef (enc:=enc) (C:=Tryz.checked) false (laidWorld os) #[.int .u8 0,.int .u8 0] rfl (by kernel_rfl) (by kernel_rfl) (by kernel_rfl)
      (OpenSpec.preRow_of_cond 8 hx (by kernel_rfl) (fun k hk=>by cases hk) (by kernel_rfl) (laid_met os))) ?_
  intro W base args ds gs before hval hW _ _ _ hL _ _;exact contract H enc W base args ds gs before hval hW hL
theorem joined:joinedFacts Tryz.pinned.checked.prog 5 Tryz.f5 (OpenSpec.ofChange Rows.scopeChainsSpec).bare Rows.scopeChainsRow=true:=by
  unfold joinedFacts;simp only [Bool.and_eq_true]
  repeat' apply And.intro
  all_goals as_aux_lemma=>kernel_rfl
theorem said:Rows.ScopeChainsSaid :=
  OpenClaim.holds_of_cond 5 Tryz.f5 rfl rfl rfl rfl rfl rfl rfl ⟨rfl,rfl,rfl,rfl,rfl⟩ rfl rfl rfl rfl rfl (by as_aux_lemma=>kernel_rfl) Tryz.func5 joined
    (of_decide_eq_true (by as_aux_lemma=>kernel_rfl)) (by unfold Func.isWrapper;first|(rw [if_pos (by decide +kernel)];kernel_rfl)|(rw [if_neg (by decide +kernel)];exact ⟨rfl,rfl⟩))
    (fun os started H enc _ F=>by rw [OpenClaim.pre_eq_preRow];exact lifted os started H enc F)
theorem plain (f:FuncId) (fn:Func) (hf:Tryz.pinned.checked.prog.funcNamed "scripting/scriptinglaw08.ScopeChains" = some f) (hfn:Tryz.pinned.checked.prog.funcs[f]?=some fn) :
    true=Tryz.pinned.checked.prog.looks []∧∀ (j:Nat) t,fn.params[j]?=some t→Tryz.pinned.checked.prog.wantsStandIn t=false:=by
  obtain rfl:f=5:=Option.some.inj ((show Tryz.prog.funcNamed "scripting/scriptinglaw08.ScopeChains" = some 5 by as_aux_lemma=>kernel_rfl).symm.trans hf) |>.symm
  obtain rfl:fn=Tryz.f5:=(Option.some.inj (Tryz.func5.symm.trans hfn)).symm;refine ⟨by as_aux_lemma=>kernel_rfl,fun j t ht=>?_⟩;rw [Tryz.params5] at ht;have hm:=Array.mem_of_getElem? ht;simp only [List.mem_toArray,List.mem_cons,List.not_mem_nil,or_false] at hm;rcases hm with rfl|rfl
  · exact (show Tryz.prog.wantsStandIn 5=false by as_aux_lemma=>kernel_rfl)
  · exact (show Tryz.prog.wantsStandIn 5=false by as_aux_lemma=>kernel_rfl)
theorem card:Rows.ScopeChainsCardSaid :=
  Claim7.holds_tied_plain_at .later [] _ _ _ _ said (fun _ h=>by cases h) (by as_aux_lemma=>kernel_rfl) (fun _ h=>by cases h) scopeChains_row_tie rfl ⟨rfl,rfl⟩ (by as_aux_lemma=>kernel_rfl) rfl plain (by as_aux_lemma=>kernel_rfl)
end Go.Proofs.YtnglmhlogdjkgaaGreatDoor.chains
