/- The walk of scriptinglaw06.ParserReturn. -/
import Derived.Test.YtdekaghipjpgpaaGreatDoorO5
import Derived.Test.YtdekaghipjpgpaaGreatDoorEA
import Derived.Test.YtdekaghipjpgpaaGreatDoorT8
import Derived.Test.YtdekaghipjpgpaaGreatDoorI5
namespace Go.Proofs.YtdekaghipjpgpaaGreatDoor
open Go.RowKit
set_option linter.unusedVariables false
set_option linter.unusedSimpArgs false
set_option maxRecDepth 100000 in
set_option maxHeartbeats 40000000 in
theorem return_walk {cv:List St→Int} (hTC:TCk cv) (hL:LiveP cv) (hcv:∀ x,cv [.mk 11 1 [] [] [x] [] ⟨#[]⟩]=cv [retS x]) (s:ByteArray) (w:World) (hT:SpT w) :
    Calls Tryz.prog 8 #[.string s] w fun e w'=>e=.returned (.bool true)∧Below w.heap.size w w':=by
  have HT:=hI hT;have HLV:=hI (fun W hW=>lives_at hTC hL W hW);by_cases hbig:2000<s.size
  · have t1:decide ((2000:Int)<(s.size:Int))=true:=by simp;omega
    clear hTC hL hT hcv
    go_enter Tryz.func8,Tryz.ntmps8
    go_wp2_with (go_at_call 10;refine (HLV.out _ (HT.out.below bw)).mono ?_;rintro e w1 ⟨rfl,hb1⟩)
    go_ret;exact ⟨rfl,bw⟩
  have t1:decide ((2000:Int)<(s.size:Int))=false:=by simp;omega
  have HCN:=hI (fun W=>Tryz.strings_Contains_one s 10 W);by_cases hc:0≤Lib.indexByte s.data.toList 10
  · have t2:decide (0≤Lib.indexByte s.data.toList 10)=true:=by simpa using hc
    clear hTC hL hT hcv
    go_enter Tryz.func8,Tryz.ntmps8
    go_wp2_with (first|(go_at_call 20;refine (HCN.out _).mono ?_;rintro e w1 ⟨rfl,hw1⟩;subst w1)|(go_at_call 10;refine (HLV.out _ (HT.out.below bw)).mono ?_;rintro e w1 ⟨rfl,hb1⟩))
    go_ret;exact ⟨rfl,bw⟩
  have t2:decide (0≤Lib.indexByte s.data.toList 10)=false:=by simpa using hc
  have hdl:(⟨#[114,101,116,117,114,110,32]⟩++s:ByteArray).data.toList=retZ++s.data.toList:=by simp [ByteArray.data_append,retZ]
  have hlen:s.data.toList.length≤2000:=by
    have h9:s.data.toList.length=s.size:=by rw [Array.length_toList];rfl
    omega
  have hsz:(⟨#[114,101,116,117,114,110,32]⟩++s:ByteArray).size≤4611686018427387904:=by rw [ByteArray.size_append];show 7+_≤_;omega
  have zs:¬ 9223372036854775807<7+s.size:=by omega
  rcases hx:exprV cv s.data.toList with ⟨n1,x1⟩|x
  · have HEX:=hI (fun W hW=>expr_err hTC s W hW (by omega) hx);rcases ret_bad (cv:=cv) hlen with ⟨⟨n2,x2⟩,h2⟩|⟨st,r,h2,hk⟩
    · have HCK:=hI (fun W hW=>chunk_err hTC _ W hW hsz (by rw [hdl];exact h2));clear hTC hL hT hx h2 hsz hdl
      go_enter Tryz.func8,Tryz.ntmps8
      go_upto_region 3 with (go_at_call 20;refine (HCN.out _).mono ?_;rintro e w1 ⟨rfl,hw1⟩;subst w1)
      go_cut [3,4,5] (fun v3 v4 v5 wx=>(∃ bx,v3=.pointer (some ⟨bx,0,none⟩))∧v4=.int .i64 n1∧v5=.int .i64 x1∧(x1 != 0)=true∧Below w.heap.size w wx)
      case first =>
        go_wp2_with (go_at_call 11;refine (HEX.out _ (HT.out.below bw)).mono ?_;rintro e w2 ⟨rfl,q1,-,hb2⟩;have Q1:=hI q1;clear q1)
        go_meet
        case rel=>exact ⟨⟨_,rfl⟩,rfl,rfl,Q1.out,bw⟩
      case rest =>
        obtain ⟨w3,rfl⟩:∃ w3:World,w3=wc:=⟨_,rfl⟩
        obtain ⟨⟨bx,rfl⟩,rfl,rfl,q1,hb3⟩:=hcut
        go_wp2_with (first|(go_at_call 15;refine (HCK.out _ (HT.out.below bw)).mono ?_;rintro e w4 ⟨rfl,q2,-,hb4⟩)|(go_at_call 10;refine (HLV.out _ (HT.out.below bw)).mono ?_;rintro e w5 ⟨rfl,hb5⟩))
        go_ret;exact ⟨rfl,bw⟩
    · have HCK:=hI (fun W hW=>chunk_ok hTC _ W hW hsz (by rw [hdl];exact h2));obtain ⟨L,hL9⟩:∃ L,L=(st::r).length:=⟨_,rfl⟩
      rw [←hL9] at HCK;have hpos:1≤L:=by rw [hL9];simp
      have HPOS:=hI hpos;clear hTC hL hT hx h2 hsz hdl hL9 hpos
      go_enter Tryz.func8,Tryz.ntmps8
      go_upto_region 3 with (go_at_call 20;refine (HCN.out _).mono ?_;rintro e w1 ⟨rfl,hw1⟩;subst w1)
      go_cut [3,4,5] (fun v3 v4 v5 wx=>(∃ bx,v3=.pointer (some ⟨bx,0,none⟩))∧v4=.int .i64 n1∧v5=.int .i64 x1∧(x1 != 0)=true∧Below w.heap.size w wx)
      case first =>
        go_wp2_with (go_at_call 11;refine (HEX.out _ (HT.out.below bw)).mono ?_;rintro e w2 ⟨rfl,q1,-,hb2⟩;have Q1:=hI q1;clear q1)
        go_meet
        case rel=>exact ⟨⟨_,rfl⟩,rfl,rfl,Q1.out,bw⟩
      case rest =>
        obtain ⟨w3,rfl⟩:∃ w3:World,w3=wc:=⟨_,rfl⟩
        obtain ⟨⟨bx,rfl⟩,rfl,rfl,q1,hb3⟩:=hcut
        go_wp2_with (first|(go_at_call 15;refine (HCK.out _ (HT.out.below bw)).mono ?_;rintro e w4 ⟨a,c,rfl,hc1,hc2,hc3,-,hst,hb4⟩;obtain ⟨b,off,d,rfl,-,hlb,hr,-⟩:=ats_head hst;have c0:=hr 0 _ rfl;simp only [Nat.add_zero] at c0;rw [hk] at c0;have f1:decide ((0:Int)<(L:Int))=true:=(by have:=HPOS.out;simp;omega);have f2:(0:Int)<(L:Int):=(by have:=HPOS.out;omega);have f3:(L:Int)≤(c:Int):=(by omega);have f4:L≤9223372036854775807:=(by omega);clear hr hst)|(go_at_call 10;refine (HLV.out _ (HT.out.below bw)).mono ?_;rintro e w5 ⟨rfl,hb5⟩))
        go_ret;exact ⟨rfl,bw⟩
  · have HEX:=hI (fun W hW=>expr_ok hTC s W hW (by omega) hx);have HCK:=hI (fun W hW=>chunk_ok hTC _ W hW hsz (by rw [hdl];exact ret_ok hcv hlen hx));clear hTC hL hT hx hsz hdl hcv
    go_enter Tryz.func8,Tryz.ntmps8
    go_upto_region 3 with (go_at_call 20;refine (HCN.out _).mono ?_;rintro e w1 ⟨rfl,hw1⟩;subst w1)
    go_cut [3,4,5] (fun v3 v4 v5 wx=>∃ (d:EA) (bx:Nat),v3=.pointer (some ⟨bx,0,none⟩)∧v4=.int .i64 0∧v5=.int .i64 0∧wx.heap[bx]?=some (.cells #[.int .i64 x.kind,.int .i64 x.op,.int .i64 x.line,.int .i64 x.p,.int .i64 x.q,.string x.str,.slice d.a x.args.length d.c,.slice d.fa x.funcs.length d.fc] 28)∧x.At AllB wx d∧Below w.heap.size w wx)
    case first =>
      go_wp2_with (go_at_call 11;refine (HEX.out _ (HT.out.below bw)).mono ?_;rintro e w2 ⟨d,rfl,-,hat,hb2⟩;have HAT:=hI hat;clear hat)
      go_meet
      case rel=>exact ⟨d,w2.heap.size,rfl,rfl,rfl,box_at rfl,Ex.At.mono (G:=AllB) (fun _ _ _=>trivial) (Ex.At.keep ((Keep.refl _ _).alloc _) (fun _ h=>h) HAT.out),bw⟩
    case rest =>
      obtain ⟨w3,rfl⟩:∃ w3:World,w3=wc:=⟨_,rfl⟩
      obtain ⟨d,bx,rfl,rfl,rfl,hbox,hat,hb3⟩:=hcut;have HAT:=hI hat;have HBX:=hI hbox;clear hat hbox
      go_upto_region 7 with (go_at_call 15;refine (HCK.out _ (HT.out.below bw)).mono ?_;rintro e w4 ⟨a,c,rfl,hc1,hc2,hc3,-,hst,hb4⟩;obtain ⟨b,off,⟨na,nc,la,lc,ra,rc,ba,bc⟩,rfl,-,hlb,hr,hsa⟩:=ats_head hst)
      obtain ⟨-,⟨-,-,-,-,hq1,⟨hq2,-⟩,-⟩,-,-,hrr,-⟩:=St.at_iff.1 hsa;obtain ⟨b2,off2,d2,hra,-,hlb2,hr2,hat2,-⟩:=Ex.ats_iff.2 hrr;dsimp only at hra hq1 hq2;subst hra;have c0:w4.cell? ⟨b,off,none⟩=some (.int .i64 11):=hr 0 _ rfl;have c4:w4.cell? ⟨b,off+4,none⟩=some (.slice (some ⟨b2,off2,none⟩) 1 rc):=hr 4 _ rfl;have x0:w4.cell? ⟨b2,off2,none⟩=some (.int .i64 x.kind):=hr2 0 _ rfl;have x1:w4.cell? ⟨b2,off2+1,none⟩=some (.int .i64 x.op):=hr2 1 _ rfl;have x2:w4.cell? ⟨b2,off2+2,none⟩=some (.int .i64 x.line):=hr2 2 _ rfl;have x3:w4.cell? ⟨b2,off2+3,none⟩=some (.int .i64 x.p):=hr2 3 _ rfl;have x4:w4.cell? ⟨b2,off2+4,none⟩=some (.int .i64 x.q):=hr2 4 _ rfl;have x5:w4.cell? ⟨b2,off2+5,none⟩=some (.string x.str):=hr2 5 _ rfl;have x6:w4.cell? ⟨b2,off2+6,none⟩=some (.slice d2.a x.args.length d2.c):=hr2 6 _ rfl;have x7:w4.cell? ⟨b2,off2+7,none⟩=some (.slice d2.fa x.funcs.length d2.fc):=hr2 7 _ rfl;have hb4x:=box_below hb4 HBX.out;have HAT2:=hI (Ex.At.mono (G:=AllB) (fun _ _ _=>trivial) hat2);have HAT4:=hI (Ex.At.keep (keep_below hb4) (fun _ h=>h) HAT.out);have HB4:=hI (show Below w.heap.size w w4 from bw);have HT4:=hI (HT.out.below HB4.out)
      have HSS:=hI (show ∀ w',Below w4.heap.size w4 w'→(Below w4.heap.size w4 w'∧w'.cell? ⟨b,off,none⟩=some (.int .i64 11)∧w'.cell? ⟨b,off+4,none⟩=some (.slice (some ⟨b2,off2,none⟩) 1 rc)∧w'.cell? ⟨b2,off2,none⟩=some (.int .i64 x.kind)∧w'.cell? ⟨b2,off2+1,none⟩=some (.int .i64 x.op)∧w'.cell? ⟨b2,off2+2,none⟩=some (.int .i64 x.line)∧w'.cell? ⟨b2,off2+3,none⟩=some (.int .i64 x.p)∧w'.cell? ⟨b2,off2+4,none⟩=some (.int .i64 x.q)∧w'.cell? ⟨b2,off2+5,none⟩=some (.string x.str)∧w'.cell? ⟨b2,off2+6,none⟩=some (.slice d2.a x.args.length d2.c)∧w'.cell? ⟨b2,off2+7,none⟩=some (.slice d2.fa x.funcs.length d2.fc)∧∀ i,w'.cell? ⟨bx,i,none⟩=#[.int .i64 x.kind,.int .i64 x.op,.int .i64 x.line,.int .i64 x.p,.int .i64 x.q,.string x.str,.slice d.a x.args.length d.c,.slice d.fa x.funcs.length d.fc][i]?) from
        fun w' h=>⟨h,(h.cell hlb).trans c0,(h.cell hlb).trans c4,(h.cell hlb2).trans x0,(h.cell hlb2).trans x1,(h.cell hlb2).trans x2,(h.cell hlb2).trans x3,(h.cell hlb2).trans x4,(h.cell hlb2).trans x5,(h.cell hlb2).trans x6,(h.cell hlb2).trans x7,fun i=>box_cell (box_below h hb4x) i⟩)
      clear hr hr2 hat2 hsa hst hrr hb4x c0 c4 x0 x1 x2 x3 x4 x5 x6 x7;unfold MX at hc2 hq2;refine wp_region_held_drew (S:=(fun w'=>Below w4.heap.size w4 w'∧w'.cell? ⟨b,off,none⟩=some (.int .i64 11)∧w'.cell? ⟨b,off+4,none⟩=some (.slice (some ⟨b2,off2,none⟩) 1 rc)∧w'.cell? ⟨b2,off2,none⟩=some (.int .i64 x.kind)∧w'.cell? ⟨b2,off2+1,none⟩=some (.int .i64 x.op)∧w'.cell? ⟨b2,off2+2,none⟩=some (.int .i64 x.line)∧w'.cell? ⟨b2,off2+3,none⟩=some (.int .i64 x.p)∧w'.cell? ⟨b2,off2+4,none⟩=some (.int .i64 x.q)∧w'.cell? ⟨b2,off2+5,none⟩=some (.string x.str)∧w'.cell? ⟨b2,off2+6,none⟩=some (.slice d2.a x.args.length d2.c)∧w'.cell? ⟨b2,off2+7,none⟩=some (.slice d2.fa x.funcs.length d2.fc)∧∀ i,w'.cell? ⟨bx,i,none⟩=#[.int .i64 x.kind,.int .i64 x.op,.int .i64 x.line,.int .i64 x.p,.int .i64 x.q,.string x.str,.slice d.a x.args.length d.c,.slice d.fa x.funcs.length d.fc][i]?)) (by kernel_rfl) ?s101 ?r101
      case s101=>exact HSS.out _ bw
      intro hHeld;refine tH 0 ?_;refine tH 1 ?_;refine tH 2 ?_;refine tH 3 ?_;refine tH 4 ?_;refine tH 5 ?_;refine tH 6 ?_;refine tH 7 ?_;refine tH 8 ?_;refine tH 9 ?_;refine tH 10 ?_;refine tH 11 ?_;refine tH 12 ?_;refine tH 13 ?_;refine tH 14 ?_;refine tH 15 ?_;refine tH 16 ?_;refine tH 17 ?_;refine tH 18 ?_;refine tH 19 ?_;refine tH 20 ?_;refine tH 21 ?_;refine tH 22 ?_;refine tH 23 ?_;refine tH 24 ?_;refine tH 25 ?_;refine tH 26 ?_;refine tH 27 ?_;refine tH 28 ?_;refine tH 29 ?_;refine wpAnyH_ready (rs:=[30]) (by kernel_rfl) (by simp) ?_;refine AllReadyH.cons rfl (fun K hK=>?_) AllReadyH.nil
      go_simp
      go_at_call 13;(with_reducible refine (sameExpr_any x d2 d _ (Ex.At.keep (keep_below bw) (fun _ h=>h) HAT2.out) (Ex.At.keep (keep_below bw) (fun _ h=>h) HAT4.out)).mono ?_);rintro e w5 ⟨rfl,hb5⟩
      go_wp2_with fail
      refine hK.out _ _ ?s132 ?r132
      case s132=>exact HSS.out _ bw
      intro hHeld;clear hK K
      try simp only [Act.put,sS1,sS2,sS3]
      refine tH 31 ?_;refine tH 32 ?_;refine wpAnyH_ready (rs:=[33]) (by kernel_rfl) (by simp) ?_;refine AllReadyH.cons rfl (fun K hK=>?_) AllReadyH.nil
      go_simp
      go_at_call 10;refine (HLV.out _ (HT4.out.below (w:=w4) bw)).mono ?_;rintro e w6 ⟨rfl,hb6⟩
      go_wp2_with fail
      refine hK.out _ _ ?s135 ?r135
      case s135=>exact HSS.out _ bw
      intro hHeld;clear hK K
      try simp only [Act.put,sS1,sS2,sS3]
      refine tH 34 ?_;refine tH 35 ?_;refine wpAnyH_done (by kernel_rfl) ?_ _
      go_wp2_with fail
      go_ret;exact ⟨rfl,by have h9:=HB4.out;exact bw⟩
end Go.Proofs.YtdekaghipjpgpaaGreatDoor
