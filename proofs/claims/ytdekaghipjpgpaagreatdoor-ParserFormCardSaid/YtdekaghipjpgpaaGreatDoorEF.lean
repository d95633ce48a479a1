/- What is left of a list of tokens are tokens of the list; the line of an error (ParserForm). -/
import Derived.Test.YtdekaghipjpgpaaGreatDoorE3
import Derived.Test.YtdekaghipjpgpaaGreatDoorB1
import Derived.Test.YtdekaghipjpgpaaGreatDoorO2
import Derived.Test.YtdekaghipjpgpaaGreatDoorI8
namespace Go.Proofs.YtdekaghipjpgpaaGreatDoor
open Go.RowKit
set_option linter.unusedVariables false
set_option linter.unusedSimpArgs false
open Classical in
noncomputable def mkT (P:Tk→Prop) (t:Tk):Tk:=if P t then t else ⟨t.kind,t.text,t.line,t.pos+1⟩
theorem nt_mk (P:Tk→Prop):Nt (mkT P) id:=⟨fun t=>by unfold mkT;split <;> rfl,fun t=>by unfold mkT;split <;> rfl,fun t=>by unfold mkT;split <;> rfl,rfl⟩
theorem mk_eq {P:Tk→Prop} {t:Tk} (h:mkT P t=t):P t:=by
  unfold mkT at h;split at h
  · assumption
  · have h2:=congrArg Tk.pos h;simp only at h2;omega
theorem mk_map {P:Tk→Prop} {l:List Tk} (h:∀ t ∈ l,P t):l.map (mkT P)=l:=by
  induction l with
  | nil=>rfl
  | cons a r ih=>rw [List.map_cons,ih fun t ht=>h t (List.mem_cons_of_mem _ ht),mkT,if_pos (h a List.mem_cons_self)]
theorem mk_all {P:Tk→Prop} {l:List Tk} (h:l=l.map (mkT P)):∀ t ∈ l,P t:=by
  induction l with
  | nil=>intro t ht;cases ht
  | cons a r ih =>
    simp only [List.map_cons,List.cons.injEq] at h;intro t ht;rcases List.mem_cons.1 ht with rfl|h2
    · exact mk_eq h.1.symm
    · exact ih h.2 t h2
theorem rest_mem {α:Type} {a:α→α} {P:Tk→Prop} {f:List Tk→Res α} {l:List Tk} (hf:f (l.map (mkT P))=(f l).lift a (mkT P)) (h:∀ t ∈ l,P t):(∀ v l',f l=.ok v l'→∀ t ∈ l',P t)∧∀ l',f l=.bad l'→∀ t ∈ l',P t:=by
  rw [mk_map h] at hf;constructor
  · intro v l' e;rw [e] at hf;simp only [Res.lift,Res.ok.injEq] at hf;exact mk_all hf.2
  · intro l' e;rw [e] at hf;simp only [Res.lift,Res.bad.injEq] at hf;exact mk_all hf
theorem line_mem {L l:List Tk} {N:Int} (hL:∀ t ∈ L,0≤t.line∧t.line≤N) (hl:∀ t ∈ l,0≤t.line∧t.line≤N) (hN:1≤N):0≤lineK L l∧lineK L l≤N:=by
  unfold lineK;cases l with
  | cons t r=>exact hl t List.mem_cons_self
  | nil =>
    cases h:L.getLast? with
    | none=>simp;omega
    | some t=>exact hL t (List.mem_of_getLast? h)
theorem parse_line {α:Type} {a:α→α} {f:List Tk→Res α} {s:Sb} {n x:Int} (hf:∀ P l,f (l.map (mkT P))=(f l).lift a (mkT P)) (h:parseW f s=.error (n,x)):0≤n∧n≤1+(nlC s:Int):=by
  rcases hs:scanT s with e|L
  · unfold parseW at h;rw [hs] at h;cases h;have:=scanT_bad hs;omega
  · rw [parseW_ok hs] at h
    have hL:∀ t ∈ L,0≤t.line∧t.line≤1+(nlC s:Int):=fun t ht=>by
      have h9:=(scanT_ok hs).1 t ht;have h1:=h9.lo;have h2:=h9.hi;omega
    have hr:=rest_mem (hf _ L) hL;rcases hx:f L with ⟨v,_|⟨t,r⟩⟩|l
    · rw [hx] at h;cases h
    · rw [hx] at h;cases h;exact line_mem hL (hr.1 _ _ hx) (by omega)
    · rw [hx] at h;cases h;exact line_mem hL (hr.2 _ hx) (by omega)
theorem chunk_line {cv:List St→Int} {s:Sb} {n x:Int} (h:chunkV cv s=.error (n,x)):0≤n∧n≤1+(nlC s:Int):=by
  unfold chunkV at h;rcases hp:pblkW s with e|b
  · rw [hp] at h;cases h;exact parse_line (f:=(EB 70000).2) (a:=St.mls id) (fun P l=>((nt_mk P).EB 70000).2 l) hp
  · rw [hp] at h;simp only at h;split at h
    · cases h
    · cases h;omega
theorem expr_line {cv:List St→Int} {s:Sb} {n x:Int} (h:exprV cv s=.error (n,x)):0≤n∧n≤1+(nlC s:Int):=by
  unfold exprV at h;rcases hp:pexpW s with e|b
  · rw [hp] at h;cases h;exact parse_line (f:=(EB 70000).1 0) (a:=Ex.ml id) (fun P l=>((nt_mk P).EB 70000).1 0 l) hp
  · rw [hp] at h;simp only at h;split at h
    · cases h
    · cases h;omega
theorem expr_err {cv:List St→Int} (hTC:TCk cv) (s:ByteArray) (w:World) (hT:SpT w) (hs:s.size≤4611686018427387904) {n x:Int} (hx:exprV cv s.data.toList=.error (n,x)) :
    Calls Tryz.prog 11 #[.string s] w fun e w'=>e=.returned (.tuple #[.agg zeroE,.int .i64 n,.int .i64 x])∧(x != 0)=true∧(x==0)=false∧Below w.heap.size w w' :=
  (expr_at2 hTC s w hT hs).mono fun e w' h=>by
    obtain ⟨hb,⟨n',y,h1,h2,h3⟩|⟨v,d,h1,h2,h3,h4⟩⟩:=h
    · rw [hx] at h1;cases h1;exact ⟨h3,by simpa using h2,by simpa using h2,hb⟩
    · rw [hx] at h1;cases h1
theorem chunk_err {cv:List St→Int} (hTC:TCk cv) (s:ByteArray) (w:World) (hT:SpT w) (hs:s.size≤4611686018427387904) {n x:Int} (hx:chunkV cv s.data.toList=.error (n,x)) :
    Calls Tryz.prog 15 #[.string s] w fun e w'=>e=.returned (.tuple #[.slice none 0 0,.int .i64 n,.int .i64 x])∧(x != 0)=true∧(x==0)=false∧Below w.heap.size w w' :=
  (chunk_at hTC s w hT hs).mono fun e w' h=>by
    obtain ⟨hb,⟨n',y,h1,h2,h3⟩|⟨b,a,c,h1,h2,h3⟩⟩:=h
    · rw [hx] at h1;cases h1;exact ⟨h3,by simpa using h2,by simpa using h2,hb⟩
    · rw [hx] at h1;cases h1
theorem chunk_ok {cv:List St→Int} (hTC:TCk cv) (s:ByteArray) (w:World) (hT:SpT w) (hs:s.size≤4611686018427387904) {b:List St} (hx:chunkV cv s.data.toList=.ok b) :
    Calls Tryz.prog 15 #[.string s] w fun e w'=>∃ a c,e=.returned (.tuple #[.slice a b.length c,.int .i64 0,.int .i64 0])∧b.length≤c∧c≤MX∧b.length≤65536∧St.wzs b≤589824∧St.Ats (From w.heap.size) w' b a∧Below w.heap.size w w' :=
  (chunk_at hTC s w hT hs).mono fun e w' h=>by
    obtain ⟨hb,⟨n',y,h1,h2,h3⟩|⟨b',a,c,h1,h2,h3,h4,h5,h6,h7⟩⟩:=h
    · rw [hx] at h1;cases h1
    · rw [hx] at h1;cases h1;exact ⟨a,c,h2,h3,h4,h5,h6,h7,hb⟩
set_option maxHeartbeats 40000000
set_option maxRecDepth 100000
def RCk (cv:List St→Int):Prop:=∀ (b:List St) (a:Option Addr) (c:Nat) (w:World),St.wzs b≤1073741824→b.length≤c→c≤MX→b.length*128≤LM→St.Ats AllB w b a →
    Calls Tryz.prog 22 #[.slice a b.length c] w fun e w'=>e=.returned (.int .i64 (cv b))∧Below w.heap.size w w'
theorem r5_at {cv:List St→Int} (hTC:RCk cv) (x:Ex) (d:EA) (w:World) (hat:x.At AllB w d) (hw:x.wz≤536870912) :
    Calls Tryz.prog 23 #[(eV x d)] w fun e w'=>e=.returned (.int .i64 (cv [retS x]))∧Below w.heap.size w w':=by
  delta eV
  have HAT:=hI hat;have hwz:St.wzs [retS x]≤1073741824:=by simp only [wzS_c,wzS_n,wzS_mk,wz_c,wz_n,wzB_n];omega
  have HTC:=hI (fun a W hA=>hTC [retS x] a 1 W hwz (Nat.le_refl _) (by unfold MX;decide) (by show 1*128≤LM;unfold LM;decide) hA);clear hTC hat hw hwz
  go_enter Tryz.func23,Tryz.ntmps23
  go_wp2_with (go_at_call 22;refine (HTC.out _ _ (sts_one (by simp) (exs_one (by simp) trivial (Ex.At.keep (keep_below bw) (fun _ _=>trivial) HAT.out)))).mono ?_;rintro e w1 ⟨rfl,hb1⟩)
  go_ret;exact ⟨rfl,bw⟩
theorem chunk_cv {cv:List St→Int} {s:Sb} {b:List St} (h:chunkV cv s=.ok b):cv b=0:=by
  unfold chunkV at h;rcases hp:pblkW s with e|b'
  · rw [hp] at h;cases h
  · rw [hp] at h;simp only at h;split at h
    · cases h;assumption
    · cases h
theorem expr_cv {cv:List St→Int} {s:Sb} {x:Ex} (h:exprV cv s=.ok x):cv [retS x]=0:=by
  unfold exprV at h;rcases hp:pexpW s with e|b'
  · rw [hp] at h;cases h
  · rw [hp] at h;simp only at h;split at h
    · cases h;assumption
    · cases h
theorem yO8a {P:Prop} (h:P:=by
  go_wp2_with (go_at_call 11;refine (H2.out _ (HT.out.below bw)).mono ?_;rintro e w2 ⟨d,rfl,hwz,hat,hb2⟩;have HAT:=hI hat;have HWZ:=hI hwz;clear hat hwz)
  go_meet
  case rel=>exact ⟨d,w2.heap.size,rfl,rfl,rfl,box_at rfl,Ex.At.mono (G:=AllB) (fun _ _ _=>trivial) (Ex.At.keep ((Keep.refl _ _).alloc _) (fun _ h=>h) HAT.out),HWZ.out,bw⟩):P:=h
theorem yO8b {P:Prop} (h:P:=by
  go_wp2_with (go_at_call 11;refine (H2.out _ (HT.out.below bw)).mono ?_;rintro e w2 ⟨rfl,q2,q2',hb2⟩;have Q2:=hI (And.intro q2 q2');clear q2 q2')
  go_meet
  case rel=>exact ⟨w2.heap.size,rfl,rfl,rfl,box_at rfl,Q2.out.1,Q2.out.2,bw⟩):P:=h
theorem form_walk {cv:List St→Int} (hTC:TCk cv) (hRC:RCk cv) (hL:LiveP cv) (s:ByteArray) (w:World) (hT:SpT w) :
    Calls Tryz.prog 9 #[.string s] w fun e w'=>e=.returned (.bool true)∧Below w.heap.size w w':=by
  have HT:=hI hT;have HLV:=hI (fun W hW=>lives_at hTC hL W hW);by_cases hbig:3000<s.size
  · have t1:decide ((3000:Int)<(s.size:Int))=true:=by simp;omega
    clear hTC hL hT hRC
    go_enter Tryz.func9,Tryz.ntmps9
    go_wp2_with (go_at_call 10;refine (HLV.out _ (HT.out.below bw)).mono ?_;rintro e w1 ⟨rfl,hb1⟩)
    go_ret;exact ⟨rfl,bw⟩
  have t1:decide ((3000:Int)<(s.size:Int))=false:=by simp;omega
  have hlen:s.data.toList.length≤3000:=by
    have h9:s.data.toList.length=s.size:=by rw [Array.length_toList];rfl
    omega
  obtain ⟨N,hN⟩:∃ N,N=nlC s.data.toList:=⟨_,rfl⟩
  have hNl:N≤3000:=by rw [hN];exact Nat.le_trans List.count_le_length hlen
  have HCN:=hI (show ∀ W,Calls Tryz.prog 21 #[.string s,.string ⟨#[10]⟩] W fun e w'=>e=.returned (.int .i64 (N:Int))∧w'=W from fun W=>by rw [hN];exact Tryz.strings_Count_one s 10 W);have hw1:IntKind.i64.wrap (1+(N:Int))=1+(N:Int):=w64i (by omega);have HR5:=hI (fun x d W hat hw=>r5_at hRC x d W hat hw);have HRC:=hI hRC;rcases hc:chunkV cv s.data.toList with ⟨n,x9⟩|b
  · rcases hx:exprV cv s.data.toList with ⟨m,y⟩|x
    · have H1:=hI (fun W hW=>chunk_err hTC s W hW (by omega) hc);have g1:=chunk_line hc;rw [←hN] at g1;have m1:decide (n<0)=false:=by simp;omega
      have m2:decide (1+(N:Int)<n)=false:=by simp;omega
      have H2:=hI (fun W hW=>expr_err hTC s W hW (by omega) hx);have g2:=expr_line hx;rw [←hN] at g2;have p1:decide (m<0)=false:=by simp;omega
      have p2:decide (1+(N:Int)<m)=false:=by simp;omega
      clear hTC hL hT hRC hx hc hN hlen
      go_enter Tryz.func9,Tryz.ntmps9
      go_upto_region 4 with (go_at_call 15;refine (H1.out _ (HT.out.below bw)).mono ?_;rintro e w1 ⟨rfl,q1,q1',hb1⟩)
      go_cut [6,7,8] (fun v6 v7 v8 wx=>∃ bx:Nat,v6=.pointer (some ⟨bx,0,none⟩)∧v7=.int .i64 m∧v8=.int .i64 y∧wx.heap[bx]?=some (.cells zeroE 28)∧(y != 0)=true∧(y==0)=false∧Below w1.heap.size w1 wx)
      case first =>
        exact yO8b
      case rest =>
        obtain ⟨w3,rfl⟩:∃ w3:World,w3=wc:=⟨_,rfl⟩
        obtain ⟨bx,rfl,rfl,rfl,hbox,q2,q2',hb3⟩:=hcut;have HBX:=hI hbox;clear hbox;have kb:=fun j=>box_cell HBX.out j;have kbf:=box_free HBX.out;have kbz:=box_lt HBX.out
        go_wp2_with (first|(go_at_call 21;refine (HCN.out _).mono ?_;rintro e w4 ⟨rfl,hw4⟩;subst w4)|(go_at_call 10;refine (HLV.out _ (HT.out.below bw)).mono ?_;rintro e w7 ⟨rfl,hb7⟩))
        go_ret;exact ⟨rfl,bw⟩
    · have H1:=hI (fun W hW=>chunk_err hTC s W hW (by omega) hc);have g1:=chunk_line hc;rw [←hN] at g1;have m1:decide (n<0)=false:=by simp;omega
      have m2:decide (1+(N:Int)<n)=false:=by simp;omega
      have H2:=hI (fun W hW=>expr_ok hTC s W hW (by omega) hx);have p0:=expr_cv hx;have PP0:=hI p0;clear p0;clear hTC hL hT hRC hx hc hN hlen
      go_enter Tryz.func9,Tryz.ntmps9
      go_upto_region 4 with (go_at_call 15;refine (H1.out _ (HT.out.below bw)).mono ?_;rintro e w1 ⟨rfl,q1,q1',hb1⟩)
      go_cut [6,7,8] (fun v6 v7 v8 wx=>∃ (d:EA) (bx:Nat),v6=.pointer (some ⟨bx,0,none⟩)∧v7=.int .i64 0∧v8=.int .i64 0∧wx.heap[bx]?=some (.cells #[.int .i64 x.kind,.int .i64 x.op,.int .i64 x.line,.int .i64 x.p,.int .i64 x.q,.string x.str,.slice d.a x.args.length d.c,.slice d.fa x.funcs.length d.fc] 28)∧x.At AllB wx d∧x.wz≤589824∧Below w1.heap.size w1 wx)
      case first =>
        exact yO8a
      case rest =>
        obtain ⟨w3,rfl⟩:∃ w3:World,w3=wc:=⟨_,rfl⟩
        obtain ⟨d,bx,rfl,rfl,rfl,hbox,hat,hwz,hb3⟩:=hcut;have HAT:=hI hat;have HWZ:=hI hwz;clear hat hwz;have HBX:=hI hbox;clear hbox;have kb:=fun j=>box_cell HBX.out j;have kbf:=box_free HBX.out;have kbz:=box_lt HBX.out
        go_wp2_with (first|(go_at_call 21;refine (HCN.out _).mono ?_;rintro e w4 ⟨rfl,hw4⟩;subst w4)|(go_at_call 23;(with_reducible refine (HR5.out x d _ (Ex.At.keep (keep_below bw) (fun _ h=>h) HAT.out) (by have:=HWZ.out;omega)).mono ?_);rw [PP0.out];rintro e w6 ⟨rfl,hb6⟩)|(go_at_call 10;refine (HLV.out _ (HT.out.below bw)).mono ?_;rintro e w7 ⟨rfl,hb7⟩))
        go_ret;exact ⟨rfl,bw⟩
  · rcases hx:exprV cv s.data.toList with ⟨m,y⟩|x
    · have H1:=hI (fun W hW=>chunk_ok hTC s W hW (by omega) hc);have m0:=chunk_cv hc;have H2:=hI (fun W hW=>expr_err hTC s W hW (by omega) hx);have g2:=expr_line hx;rw [←hN] at g2;have p1:decide (m<0)=false:=by simp;omega
      have p2:decide (1+(N:Int)<m)=false:=by simp;omega
      clear hTC hL hT hRC hx hc hN hlen
      go_enter Tryz.func9,Tryz.ntmps9
      have MM0:=hI m0;clear m0
      go_upto_region 4 with (go_at_call 15;refine (H1.out _ (HT.out.below bw)).mono ?_;rintro e w1 ⟨a1,c1,rfl,k1,k2,k3,k4,hst1,hb1⟩;have S1:=hI hst1;clear hst1)
      have HK:=hI (And.intro k1 (And.intro k2 (And.intro k3 k4)))
      have HCK:=hI (show ∀ W,Below w1.heap.size w1 W→Calls Tryz.prog 22 #[.slice a1 b.length c1] W fun e w'=>e=.returned (.int .i64 0)∧Below W.heap.size W w' from fun W hb=>by
        have h9:=HRC.out b a1 c1 W (by have:=HK.out.2.2.2;omega) HK.out.1 HK.out.2.1 (by have:=HK.out.2.2.1;unfold LM;omega) (St.Ats.keep (keep_below hb) (fun _ h=>h) (St.Ats.mono (G:=AllB) (fun _ _ _=>trivial) S1.out));rw [MM0.out] at h9;exact h9)
      clear k1 k2 k3 k4 S1
      go_cut [6,7,8] (fun v6 v7 v8 wx=>∃ bx:Nat,v6=.pointer (some ⟨bx,0,none⟩)∧v7=.int .i64 m∧v8=.int .i64 y∧wx.heap[bx]?=some (.cells zeroE 28)∧(y != 0)=true∧(y==0)=false∧Below w1.heap.size w1 wx)
      case first =>
        exact yO8b
      case rest =>
        obtain ⟨w3,rfl⟩:∃ w3:World,w3=wc:=⟨_,rfl⟩
        obtain ⟨bx,rfl,rfl,rfl,hbox,q2,q2',hb3⟩:=hcut;have HBX:=hI hbox;clear hbox;have kb:=fun j=>box_cell HBX.out j;have kbf:=box_free HBX.out;have kbz:=box_lt HBX.out
        go_wp2_with (first|(go_at_call 21;refine (HCN.out _).mono ?_;rintro e w4 ⟨rfl,hw4⟩;subst w4)|(go_at_call 22;(with_reducible refine (HCK.out _ bw).mono ?_);rintro e w5 ⟨rfl,hb5⟩;have HBX:=hI (box_below hb5 HBX.out);have kb:=fun j=>box_cell HBX.out j;have kbf:=box_free HBX.out;have kbz:=box_lt HBX.out)|(go_at_call 10;refine (HLV.out _ (HT.out.below bw)).mono ?_;rintro e w7 ⟨rfl,hb7⟩))
        go_ret;exact ⟨rfl,bw⟩
    · have H1:=hI (fun W hW=>chunk_ok hTC s W hW (by omega) hc);have m0:=chunk_cv hc;have H2:=hI (fun W hW=>expr_ok hTC s W hW (by omega) hx);have p0:=expr_cv hx;have PP0:=hI p0;clear p0;clear hTC hL hT hRC hx hc hN hlen
      go_enter Tryz.func9,Tryz.ntmps9
      have MM0:=hI m0;clear m0
      go_upto_region 4 with (go_at_call 15;refine (H1.out _ (HT.out.below bw)).mono ?_;rintro e w1 ⟨a1,c1,rfl,k1,k2,k3,k4,hst1,hb1⟩;have S1:=hI hst1;clear hst1)
      have HK:=hI (And.intro k1 (And.intro k2 (And.intro k3 k4)))
      have HCK:=hI (show ∀ W,Below w1.heap.size w1 W→Calls Tryz.prog 22 #[.slice a1 b.length c1] W fun e w'=>e=.returned (.int .i64 0)∧Below W.heap.size W w' from fun W hb=>by
        have h9:=HRC.out b a1 c1 W (by have:=HK.out.2.2.2;omega) HK.out.1 HK.out.2.1 (by have:=HK.out.2.2.1;unfold LM;omega) (St.Ats.keep (keep_below hb) (fun _ h=>h) (St.Ats.mono (G:=AllB) (fun _ _ _=>trivial) S1.out));rw [MM0.out] at h9;exact h9)
      clear k1 k2 k3 k4 S1
      go_cut [6,7,8] (fun v6 v7 v8 wx=>∃ (d:EA) (bx:Nat),v6=.pointer (some ⟨bx,0,none⟩)∧v7=.int .i64 0∧v8=.int .i64 0∧wx.heap[bx]?=some (.cells #[.int .i64 x.kind,.int .i64 x.op,.int .i64 x.line,.int .i64 x.p,.int .i64 x.q,.string x.str,.slice d.a x.args.length d.c,.slice d.fa x.funcs.length d.fc] 28)∧x.At AllB wx d∧x.wz≤589824∧Below w1.heap.size w1 wx)
      case first =>
        exact yO8a
      case rest =>
        obtain ⟨w3,rfl⟩:∃ w3:World,w3=wc:=⟨_,rfl⟩
        obtain ⟨d,bx,rfl,rfl,rfl,hbox,hat,hwz,hb3⟩:=hcut;have HAT:=hI hat;have HWZ:=hI hwz;clear hat hwz;have HBX:=hI hbox;clear hbox;have kb:=fun j=>box_cell HBX.out j;have kbf:=box_free HBX.out;have kbz:=box_lt HBX.out
        go_wp2_with (first|(go_at_call 21;refine (HCN.out _).mono ?_;rintro e w4 ⟨rfl,hw4⟩;subst w4)|(go_at_call 22;(with_reducible refine (HCK.out _ bw).mono ?_);rintro e w5 ⟨rfl,hb5⟩;have HBX:=hI (box_below hb5 HBX.out);have kb:=fun j=>box_cell HBX.out j;have kbf:=box_free HBX.out;have kbz:=box_lt HBX.out)|(go_at_call 23;(with_reducible refine (HR5.out x d _ (Ex.At.keep (keep_below bw) (fun _ h=>h) HAT.out) (by have:=HWZ.out;omega)).mono ?_);rw [PP0.out];rintro e w6 ⟨rfl,hb6⟩)|(go_at_call 10;refine (HLV.out _ (HT.out.below bw)).mono ?_;rintro e w7 ⟨rfl,hb7⟩))
        go_ret;exact ⟨rfl,bw⟩
end Go.Proofs.YtdekaghipjpgpaaGreatDoor
