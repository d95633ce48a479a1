import Derived.Test.YtaddbmkkkollpaaGreatDoorWD
import Derived.Test.YtaddbmkkkollpaaGreatDoorW9
import Derived.Test.YtaddbmkkkollpaaGreatDoorJO
import Derived.Recover
import Derived.Laws.EntriesVeiled
import Derived.Test.YtaddbmkkkollpaaGreatDoorE5
set_option linter.all false
namespace Go.Proofs.YtaddbmkkkollpaaGreatDoor
set_option maxHeartbeats 8000000
set_option maxRecDepth 100000
open Go.RowKit
theorem z8 (n:Int) (w:World):Sem.run Tryz.prog (Instr.typeAssert (.iface 126 (.agg #[.int .i64 n,.int .i64 4])) 20 126 true) w=.ok (.tuple #[.agg #[.int .i64 n,.int .i64 4],.bool true]) w:=by kernel_rfl
theorem tX (b b2:Nat) (x1 x2 n:Int) (w:World) (h1:w.heap[b]?=some (.cells #[.int .i64 x1] 3)) (h2:w.heap[b2]?=some (.cells #[.int .i64 x2] 29)) (hne:b<b2) :
    CallsD Tryz.prog 54 #[.pointer (some ⟨b,0,none⟩),.pointer (some ⟨b2,0,none⟩)] (.panicking (jB n)) w fun e u' w' =>
      e=.returned (.tuple #[])∧u'=.panicking [{ v:=.iface 126 (.agg #[.int .i64 n,.int .i64 4]),recovered:=true }]∧w'.heap[b]?=some (.cells #[.int .i64 n] 3)∧w'.heap[b2]?=some (.cells #[.int .i64 4] 29)∧Below b w w':=by
  have k1:=fun j=>ac h1 j;have k1f:=ag h1;have k1z:=ae h1;have k2:=fun j=>ac h2 j;have k2f:=ag h2;have k2z:=ae h2;have H1:=hI h1;have H2:=hI h2;have ha:=fun W=>z8 n W;unfold jB;refine callsD_of_wpS Tryz.func54 rfl fun c₀ cs hu=>?_;apply wpS_seq;apply wpS_region;have hrep:(Array.replicate 13 undef:Array Value)=#[undef,undef,undef,undef,undef,undef,undef,undef,undef,undef,undef,undef,undef]:=rfl;simp [wpOpsS,go_sem,recoverD,hu,Tryz.ntmps54,Exit.thenS,hrep];refine wpS_of_wp ?_;clear h1 h2
  go_wp2_with fail
  have ne1:¬ b=b2:=by omega
  have ne2:¬ b=w.heap.size:=by omega
  have ne3:¬ b2=w.heap.size:=by omega
  go_region
  all_goals
    go_wp2_with fail
    refine ⟨rfl,_,rfl,.tuple #[],by simp [results,Tryz.results54,go_sem],rfl,rfl,?_,?_,?_⟩
    · exact qj (ax (bS (aR H1.out 0 (.int .i64 n)) (by simp;omega)) _)
    · exact qj (ax (aR (bS H2.out (by simp;omega)) 0 (.int .i64 4)) _)
    · have h9:=((Below.refl b w).setCell (p:=⟨b,0,none⟩) (KU _) (.int .i64 n)).setCell (p:=⟨b2,0,none⟩) (Nat.le_of_lt hne) (.int .i64 4);exact (h9.alloc (KT (Nat.le_of_lt k1z) h9.size) _).drew
theorem Bt (p1 p2:Addr) (w:World) :
    CallsD Tryz.prog 54 #[.pointer (some p1),.pointer (some p2)] .returning w fun e u' w'=>e=.returned (.tuple #[])∧u'=.returning∧w'=w:=by
  refine callsD_of_wpS Tryz.func54 rfl fun c₀ cs hu=>?_;have hrep:(Array.replicate 13 undef:Array Value)=#[undef,undef,undef,undef,undef,undef,undef,undef,undef,undef,undef,undef,undef]:=rfl;apply wpS_seq;apply wpS_region;simp [wpOpsS,go_sem,recoverD,hu,Tryz.ntmps54,Exit.thenS,hrep];refine wpS_of_wp ?_
  go_wp2_with fail
  cases c₀;simp_all [bodyPostS,results,Tryz.results54]
structure eP (b0 p:Nat) (w w':World):Prop where
  os:w'.os=w.os
  tape:w'.tape=w.tape
  output:w'.output=w.output
  size:w.heap.size≤w'.heap.size
  block:∀ k,k<w.heap.size→k≠b0→k≠p→w'.heap[k]?=w.heap[k]?
theorem eP.box {b0 p b:Nat} {w w':World} {o:Obj} (h:eP b0 p w w') (hb:w.heap[b]?=some o) (h0:b≠b0) (hp:b≠p):w'.heap[b]?=some o:=(h.block b (ae hb) h0 hp).trans hb
theorem eP.gs {b0 p:Nat} {w a b:World} (h:eP b0 p a b) (hp:w.heap.size≤p) (k:Gs b0 w a):Gs b0 w b :=
  ⟨h.os.trans k.os,h.tape.trans k.tape,h.output.trans k.output,KT k.size h.size,fun i hi hn=>(h.block i (KS hi k.size) hn (by omega)).trans (k.block i hi hn)⟩
theorem Gs.low {b0 B:Nat} {w a b:World} (h:Below B a b) (hB:w.heap.size≤B) (k:Gs b0 w a):Gs b0 w b :=
  ⟨h.os.trans k.os,h.tape.trans k.tape,h.output.trans k.output,KT k.size h.size,fun i hi hn=>(h.block i (by omega)).trans (k.block i hi hn)⟩
theorem Gw {L:List Tk} {N M:Nat} (h:∀ t ∈ L,iF N M t) (ho:∀ t ∈ L,nl t=true):dO L:=fun t ht=>⟨ho t ht,fun hk w=>by
  have h1:=(h t ht).num hk;refine (GX t.text w h1 (h t ht).text).mono ?_;rintro e w' ⟨rfl,hb⟩;exact ⟨rfl,hb,Gz _⟩⟩
def iU (s:Sb):Bool:=s.all (fun c=>decide (c≠39) && decide (c≠34)) && match fk s with | .ok L=>L.all nl | .error _=>true
def tw {α:Type} (f:List Tk→az α) (g b0:Nat) (cap:Array Value) (K:α→World→Prop) (w:World):Prop :=
  ∀ (C:PC) (W:World),dO C.L→(∀ t ∈ C.L,t.text.size≤65536)→C.At W C.L→Gs b0 w W→W.heap[b0]?=w.heap[b0]?→w.heap.size+2≤C.p→C.p<W.heap.size→aj (fun k=>w.heap.size+2≤k∧k<C.p) W 4 jX C.L C.ta→Calls Tryz.prog g (#[.pointer (some ⟨C.p,0,none⟩)]++cap) W fun e W'=>eP b0 C.p W W' ∧
    ((∃ l,f C.L=.bad l∧e=.panicked (jB (gd C.L l)))∨∃ v l,f C.L=.ok v l∧e=.returned (.tuple #[])∧C.At W' l∧K v W')
def xm {α:Type} (L:List Tk):az α→Except (Int × Int) α
  | .bad l=>.error (gd L l,4)
  | .ok v []=>.ok v
  | .ok _ (t::r)=>.error (gd L (t::r),4)
theorem xp {α:Type} {f:List Tk→az α} {s:Sb} {L:List Tk} (h:fk s=.ok L):im f s=xm L (f L):=by
  unfold im;rw [h];simp only;rcases f L with ⟨v,_|⟨t,r⟩⟩|l <;> rfl
theorem rZ {w1:World} {L:List Tk} {ta:Option Addr} {tc:Nat} {F:Nat→Prop} (hrow:aj F w1 4 jX L ta) (hcap:L.length≤65536):(⟨w1.heap.size,L,ta,tc⟩:PC).At (w1.alloc (.cells #[.slice ta L.length tc,.int .i64 0] 128)) L :=
  ⟨⟨0,Nat.zero_le _,rfl,aA rfl⟩,(hrow.mono (G:=fun k=>k<w1.heap.size) (fun k _ h=>h) (fun _ _ _ h=>h)).keep (aq (aH (Below.refl _ _) _)) (fun _ h=>h) (fun _ _ _ h=>h),hcap⟩
theorem sf {w1:World} {L:List Tk} {ta:Option Addr} {o:Obj} {B:Nat} (hrow:aj (fun k=>B≤k) w1 4 jX L ta):aj (fun k=>B≤k∧k<w1.heap.size) (w1.alloc o) 4 jX L ta :=
  (hrow.mono (G:=fun k=>B≤k∧k<w1.heap.size) (fun k h1 h2=>⟨h1,h2⟩) (fun _ _ _ h=>h)).keep (aq (aH (Below.refl _ _) _)) (fun _ h=>h) (fun _ _ _ h=>h)
def zU {α:Type} (f:List Tk→az α) (s:Sb) (b0:Nat) (K:α→World→Prop) (w:World) (e:Ending) (w':World):Prop :=
  Gs b0 w w'∧∃ n x:Int,e=.returned (.tuple #[.int .i64 n,.int .i64 x])∧((im f s=.error (n,x)∧x≠0)∨∃ v,im f s=.ok v∧n=0∧x=0∧K v w')
theorem GY {α:Type} (f:List Tk→az α) (g b0:Nat) (cap:Array Value) (s:ByteArray) (w:World) (K:α→World→Prop) (hT:eC w) (hs:s.size≤4611686018427387904) (hb0:b0<w.heap.size)
    (hq:iU s.data.toList=true)
    (hent:∀ args w,(callFunc g args).run Tryz.prog w=.ok (.enter g args) w)
    (hK:∀ v W1 W2,K v W1→af (fun k=>k=b0∨w.heap.size+2≤k) W1 W2→K v W2) (hread:tw f g b0 cap K w) :
    Calls Tryz.prog 39 #[.string s,.func (.func g) #[] cap] w (zU f s.data.toList b0 K w):=by
  have hmf:∀ (fn:Go.Fn) (first cap:Array Value) (w:World),(Instr.makeFunc fn first cap).run Tryz.prog w=.ok (.func fn first cap) w:=fun _ _ _ _=>rfl;have HT:=hI hT;unfold iU at hq;simp only [Bool.and_eq_true] at hq;have hsc:=fun W hW=>Fx s W hW hs (fun c hc=>by have:=List.all_eq_true.1 hq.1 c hc;simpa using this);rcases hx:fk s.data.toList with ⟨l,x⟩|L
  · have hP:im f s.data.toList=.error (l,x):=by unfold im;rw [hx]
    have HP:=hI hP
    have HS:∀ W,eC W→Hid (Calls Tryz.prog 53 #[.string s] W fun e w'=>e=.returned (.tuple #[.slice none 0 0,.int .i64 l,.int .i64 x])∧x≠0∧Below W.heap.size W w'):=fun W hW=>hI ((hsc W hW).mono fun e w' h=>by
      obtain ⟨hb,h|⟨L,ta,tc,h1,-⟩⟩:=h
      · obtain ⟨l',x',h1,h2,h3⟩:=h;rw [hx] at h1;cases h1;exact ⟨h2,h3,hb⟩
      · rw [hx] at h1;cases h1)
    clear hP hsc hx hT hread hK hent;clear hq
    go_enter_defers Tryz.func39,Tryz.ntmps39
    go_wp2_with (go_at_call 53;refine ((HS _ (HT.out.below bw)).out).mono ?_;rintro e w1 ⟨rfl,hne,hb1⟩;have tx:(x != 0)=true:=(by simpa using hne);have HNE:=hI hne;have hx1:=aD hb1 (ax (aA rfl) _);have hx2:=aD hb1 (aA (b:=w.heap.size+1) (by simp));have HX1:=hI hx1;have HX2:=hI hx2;have k1:=fun i=>ac hx1 i;have k1f:=ag hx1;have k1z:=ae hx1;have k2:=fun i=>ac hx2 i;have k2f:=ag hx2;have k2z:=ae hx2;clear hx1 hx2 hne)
    simp [bodyPostD,Leaves,settle,results,Tryz.results39,go_sem,k1,k2];refine ⟨?_,l,x,rfl,.inl ⟨HP.out,HNE.out⟩⟩;have h9:Below w.heap.size w w1:=bw;exact Gs.low ((h9.setCell (p:=⟨w.heap.size,0,none⟩) (KU _) (.int .i64 l)).setCell (p:=⟨w.heap.size+1,0,none⟩) (Nat.le_succ _) (.int .i64 x)) (KU _) (Gs.refl _ _)
  · have hP:im f s.data.toList=xm L (f L):=xp hx;have HP:=hI hP;obtain ⟨hall,hcap,-⟩:=ph hx
    have HS:∀ W,eC W→Hid (Calls Tryz.prog 53 #[.string s] W fun e w'=>∃ ta tc,e=.returned (.tuple #[.slice ta L.length tc,.int .i64 0,.int .i64 0])∧L.length≤tc∧tc≤maxLen∧aj (fun k=>W.heap.size≤k) w' 4 jX L ta∧Below W.heap.size W w'):=fun W hW=>hI ((hsc W hW).mono fun e w' h=>by
      obtain ⟨hb,h|⟨L',ta,tc,h1,h2,h3,h4,h5⟩⟩:=h
      · obtain ⟨l',x',h1,-⟩:=h;rw [hx] at h1;cases h1
      · rw [hx] at h1;cases h1;exact ⟨ta,tc,h2,h3,h4,h5,hb⟩)
    have HNUM:=hI (Gw hall (by have h9:=hq.2;rw [hx] at h9;exact List.all_eq_true.1 h9));have HTXT:=hI (fun t ht=>(hall t ht).text);have hcap2:L.length≤65536:=by have:=ph hx;omega
    have HREAD:=hI hread;have HKK:=hI hK;have HCAP:=hI hcap2;clear hP hsc hx hT hread hK hall hcap hcap2;clear hq;rcases hf:f L with ⟨v,l⟩|l
    · have HF:=hI hf;clear hf;have hne1:¬ w.heap.size=w.heap.size+1:=by omega
      cases l with
      | nil =>
        go_enter_defers Tryz.func39,Tryz.ntmps39
        go_wp2_with (first
          | (go_at_call 53;refine ((HS _ (HT.out.below bw)).out).mono ?_;rintro e w1 ⟨ta,tc,rfl,htc1,htc2,hrow,hb1⟩;have hx1:=aD hb1 (ax (aA rfl) _);have hx2:=aD hb1 (aA (b:=w.heap.size+1) (by simp));have HX1:=hI hx1;have HX2:=hI hx2;have HROW:=hI hrow;have hz1:=ae hx2;clear hx1 hx2 hrow)
          | (refine (HREAD.out ⟨w1.heap.size,L,ta,tc⟩ _ HNUM.out HTXT.out (rZ HROW.out HCAP.out) (Gs.of_below bw) ((show Below w.heap.size w (w1.alloc (.cells #[.slice ta L.length tc,.int .i64 0] 128)) from bw).block b0 hb0) (by simp;omega) (by simp) (sf (HROW.out.mono (G:=fun k=>w.heap.size+2≤k) (fun k h _=>by simp at h;omega) (fun _ _ _ h=>h)))).mono ?_;rintro e w2 ⟨hg,(⟨l',hf',rfl⟩|⟨v',l',hf',rfl,hat,hkv⟩)⟩;(exfalso;rw [HF.out] at hf';cases hf');(have hl:l'=[]∧v'=v:=(by rw [HF.out] at hf';cases hf';exact ⟨rfl,rfl⟩);obtain ⟨hl1,hl2⟩:=hl;subst hl1 hl2;have HX1:=hI (hg.box (ax HX1.out _) (by omega) (by simp;omega));have HX2:=hI (hg.box (ax HX2.out _) (by omega) (by simp;omega));have HGS:=hI (eP.gs (w:=w) hg (by simp;omega) (Gs.of_below bw));have HAT:=hI hat;have HKV:=hI hkv;obtain ⟨i,hi1,hi2,hibox⟩:=hat.box;have kp:=fun j=>ac hibox j;have kpz:=ae hibox;have HI:=hI hi2;have k1:=fun j=>ac HX1.out j;have k1f:=fun j=>ag HX1.out j;have k1z:=ae HX1.out;have k2:=fun j=>ac HX2.out j;have k2f:=fun j=>ag HX2.out j;have k2z:=ae HX2.out;(have hiL:¬ i<L.length:=(by have h9:=congrArg List.length hi2;simp at h9;simp only at hi1;omega));clear hg hat hkv hibox hi2)))
        refine leaves_cons (f:=54) (args:=#[.pointer (some ⟨w.heap.size,0,none⟩),.pointer (some ⟨w.heap.size+1,0,none⟩)]) (by simp) (by simp [go_sem]) ?_;refine (Bt ⟨w.heap.size,0,none⟩ ⟨w.heap.size+1,0,none⟩ _).mono ?_;rintro e u' w'' ⟨rfl,rfl,rfl⟩;simp [Leaves,settle,results,Tryz.results39,go_sem,k1,k2];exact ⟨Gs.set (Gs.set HGS.out (.inr (KU _)) _) (.inr (Nat.le_succ _)) _,0,0,rfl,.inr ⟨v',by rw [HP.out,HF.out];rfl,rfl,rfl,HKK.out v' _ _ HKV.out (af.set (af.set (af.refl _ _) (by simp;omega) _) (by simp;omega) _)⟩⟩
      | cons t r =>
        go_enter_defers Tryz.func39,Tryz.ntmps39
        go_wp2_with (first
          | (go_at_call 53;refine ((HS _ (HT.out.below bw)).out).mono ?_;rintro e w1 ⟨ta,tc,rfl,htc1,htc2,hrow,hb1⟩;have hx1:=aD hb1 (ax (aA rfl) _);have hx2:=aD hb1 (aA (b:=w.heap.size+1) (by simp));have HX1:=hI hx1;have HX2:=hI hx2;have HROW:=hI hrow;have hz1:=ae hx2;clear hx1 hx2 hrow)
          | (refine (HREAD.out ⟨w1.heap.size,L,ta,tc⟩ _ HNUM.out HTXT.out (rZ HROW.out HCAP.out) (Gs.of_below bw) ((show Below w.heap.size w (w1.alloc (.cells #[.slice ta L.length tc,.int .i64 0] 128)) from bw).block b0 hb0) (by simp;omega) (by simp) (sf (HROW.out.mono (G:=fun k=>w.heap.size+2≤k) (fun k h _=>by simp at h;omega) (fun _ _ _ h=>h)))).mono ?_;rintro e w2 ⟨hg,(⟨l',hf',rfl⟩|⟨v',l',hf',rfl,hat,hkv⟩)⟩;(exfalso;rw [HF.out] at hf';cases hf');(have hl:l'=t::r∧v'=v:=(by rw [HF.out] at hf';cases hf';exact ⟨rfl,rfl⟩);obtain ⟨hl1,hl2⟩:=hl;subst hl1 hl2;have HX1:=hI (hg.box (ax HX1.out _) (by omega) (by simp;omega));have HX2:=hI (hg.box (ax HX2.out _) (by omega) (by simp;omega));have HGS:=hI (eP.gs (w:=w) hg (by simp;omega) (Gs.of_below bw));have HAT:=hI hat;have HKV:=hI hkv;obtain ⟨i,hi1,hi2,hibox⟩:=hat.box;have kp:=fun j=>ac hibox j;have kpz:=ae hibox;have HI:=hI hi2;have k1:=fun j=>ac HX1.out j;have k1f:=fun j=>ag HX1.out j;have k1z:=ae HX1.out;have k2:=fun j=>ac HX2.out j;have k2f:=fun j=>ag HX2.out j;have k2z:=ae HX2.out;(have hiL:i<L.length:=(by have h9:=congrArg List.length hi2;simp at h9;omega));clear hg hat hkv hibox hi2))
          | (go_at_call 55;refine (i7 ⟨w1.heap.size,L,ta,tc⟩ _ _ HAT.out).mono ?_;rintro e w3 ⟨rfl,hb3⟩;have HX1:=hI (aD hb3 HX1.out);have HX2:=hI (aD hb3 HX2.out);have HB3:=hI hb3))
        refine leaves_cons (f:=54) (args:=#[.pointer (some ⟨w.heap.size,0,none⟩),.pointer (some ⟨w.heap.size+1,0,none⟩)]) (by simp) (by simp [go_sem]) ?_;refine (tX w.heap.size (w.heap.size+1) 0 0 _ _ HX1.out HX2.out (by omega)).mono ?_;rintro e u' w'' ⟨rfl,rfl,j1,j2,hb⟩;have c1:=fun i=>ac j1 i;have c2:=fun i=>ac j2 i;simp [Leaves,settle,results,Tryz.results39,go_sem,c1,c2];exact ⟨Gs.low hb (KU _) (Gs.low HB3.out HGS.out.size HGS.out),_,4,rfl,.inl ⟨by rw [HP.out,HF.out];rfl,by decide⟩⟩
    · have HF:=hI hf;clear hf
      go_enter_defers Tryz.func39,Tryz.ntmps39
      go_wp2_with (first
        | (go_at_call 53;refine ((HS _ (HT.out.below bw)).out).mono ?_;rintro e w1 ⟨ta,tc,rfl,htc1,htc2,hrow,hb1⟩;have hx1:=aD hb1 (ax (aA rfl) _);have hx2:=aD hb1 (aA (b:=w.heap.size+1) (by simp));have HX1:=hI hx1;have HX2:=hI hx2;have HROW:=hI hrow;have hz1:=ae hx2;clear hx1 hx2 hrow)
        | (refine (HREAD.out ⟨w1.heap.size,L,ta,tc⟩ _ HNUM.out HTXT.out (rZ HROW.out HCAP.out) (Gs.of_below bw) ((show Below w.heap.size w (w1.alloc (.cells #[.slice ta L.length tc,.int .i64 0] 128)) from bw).block b0 hb0) (by simp;omega) (by simp) (sf (HROW.out.mono (G:=fun k=>w.heap.size+2≤k) (fun k h _=>by simp at h;omega) (fun _ _ _ h=>h)))).mono ?_;rintro e w2 ⟨hg,(⟨l',hf',rfl⟩|⟨v',l',hf',rfl,hat,hkv⟩)⟩;rotate_left;(exfalso;rw [HF.out] at hf';cases hf');(have hl:l'=l:=(by rw [HF.out] at hf';cases hf';rfl);subst hl;have HX1:=hI (hg.box (ax HX1.out _) (by omega) (by simp;omega));have HX2:=hI (hg.box (ax HX2.out _) (by omega) (by simp;omega));have HGS:=hI (eP.gs (w:=w) hg (by simp;omega) (Gs.of_below bw));clear hg)))
      refine leaves_cons (f:=54) (args:=#[.pointer (some ⟨w.heap.size,0,none⟩),.pointer (some ⟨w.heap.size+1,0,none⟩)]) (by simp) (by simp [go_sem]) ?_;refine (tX w.heap.size (w.heap.size+1) 0 0 _ _ HX1.out HX2.out (by omega)).mono ?_;rintro e u' w'' ⟨rfl,rfl,j1,j2,hb⟩;have c1:=fun i=>ac j1 i;have c2:=fun i=>ac j2 i;simp [Leaves,settle,results,Tryz.results39,go_sem,c1,c2];exact ⟨Gs.low hb (KU _) HGS.out,_,4,rfl,.inl ⟨by rw [HP.out,HF.out];rfl,by decide⟩⟩
theorem Cu:∀ args w,(callFunc 40 args).run Tryz.prog w=.ok (.enter 40 args) w:=enters_of Tryz.func40 (by kernel_rfl) rfl
theorem eP.set {b0 p j:Nat} {w w1:World} {v:Value} (h:Gs p w w1):eP b0 p w (w1.setCell ⟨b0,j,none⟩ v) :=
  ⟨h.os,h.tape,h.output,by simpa [World.setCell] using h.size,fun k hk h0 hp=>by rw [Below.heap_setCell _ _ _ _ (fun e=>h0 e)];exact h.block k hk hp⟩
def mw (b0 B:Nat) (v:List St) (w:World):Prop:=∃ a c,w.heap[b0]?=some (.cells #[.slice a v.length c] 22)∧v.length≤c∧c≤MX∧St.Ats (ay B) w v a
theorem mw.keep {b0 B:Nat} {v:List St} {W1 W2:World} (h:mw b0 B v W1) (hk:af (fun k=>k=b0∨B≤k) W1 W2):mw b0 B v W2:=by
  obtain ⟨a,c,h1,h2,h3,h4⟩:=h;exact ⟨a,c,(hk.block b0 (.inl rfl) (ae h1)).trans h1,h2,h3,St.Ats.keep (hk.weak fun k h=>.inr h) (fun _ h=>h) h4⟩
theorem BG (b0:Nat) (w:World) (hb:w.heap[b0]?=some (.cells #[.slice none 0 0] 22)) :
    tw (EB 70000).2 40 b0 #[.pointer (some ⟨b0,0,none⟩)] (mw b0 (w.heap.size+2)) w:=by
  intro C W hN hT hat hgs hsame hp hpW hrow;have HROW:=hI hrow;clear hrow;obtain ⟨-,hB⟩:=tl hN hT 70000;have hlen:C.L.length<70000:=by have:=hat.cap;omega
  have hc:=hB C.L W hlen hat;have hbx:W.heap[b0]?=some (.cells #[.slice none 0 0] 22):=hsame.trans hb;have hb0:=ae hb;have HC:=hI hc;have HBX:=hI hbx;obtain ⟨R,hR⟩:∃ R,R=(EB 70000).2 C.L:=⟨_,rfl⟩
  rw [←hR] at HC ⊢;clear hR hB hc hbx hN hT hat hsame hlen
  go_enter Tryz.func40,Tryz.ntmps40
  go_wp2_with (go_at_call 41;refine (HC.out).mono ?_;rintro e w1 ht;rcases hr:R with ⟨v,l⟩|l;rotate_left;(obtain rfl:=ht.bad l hr;have HG:=hI ht.gs;have HRR:=hI hr;clear ht hr);rotate_left;(obtain ⟨u,rfl,⟨a,c,rfl,h1,h2,h3⟩,hat'⟩:=ht.ok v l hr;have HG:=hI ht.gs;have HRR:=hI hr;have HAT:=hI hat';have HST:=hI h3;have hb1:=ht.gs.box HBX.out (by omega);have HB1:=hI hb1;have k1:=fun j=>ac hb1 j;have k1f:=ag hb1;have k1z:=ae hb1;clear ht hr hat' h3 hb1))
  · go_end0
    have hat2:C.At (w1.setCell ⟨b0,0,none⟩ (.slice a v.length c)) l:=by
      obtain ⟨i,hi1,hi2,hi3⟩:=HAT.out.box;refine ⟨⟨i,hi1,hi2,bS hi3 (by simp;omega)⟩,?_,HAT.out.cap⟩;have hk:af (fun k=>w.heap.size+2≤k∧k<C.p) W (w1.setCell ⟨b0,0,none⟩ (.slice a v.length c)):=af.set (HG.out.keep (by simp)) (by simp;omega) _;exact (HROW.out.keep hk (fun _ h=>h) (fun _ _ _ h=>h)).mono (fun k h _=>h.2) (fun _ _ _ h=>h)
    refine ⟨eP.set HG.out,.inr ⟨v,l,HRR.out,rfl,hat2,a,c,?_,h1,h2,?_⟩⟩
    · have:=aR HB1.out 0 (.slice a v.length c);simpa using this
    · exact St.Ats.keep (af.set (af.refl _ _) (by simp;omega) _) (fun _ h=>h) (St.Ats.mono (G:=ay (w.heap.size+2)) (fun k h _=>by have h9:W.heap.size≤k:=h;show w.heap.size+2≤k;omega) HST.out)
  · exact ⟨rfl,⟨HG.out.os,HG.out.tape,HG.out.output,HG.out.size,fun k hk _ hp=>HG.out.block k hk hp⟩,.inl ⟨l,HRR.out,rfl⟩⟩
def pW (b0 B:Nat) (v:Ex) (w:World):Prop:=∃ d,w.heap[b0]?=some (.cells #[.int .i64 v.kind,.int .i64 v.op,.int .i64 v.line,.int .i64 v.p,.int .i64 v.q,.string v.str,.slice d.a v.args.length d.c,.slice d.fa v.funcs.length d.fc] 37)∧v.At (ay B) w d
theorem pW.keep {b0 B:Nat} {v:Ex} {W1 W2:World} (h:pW b0 B v W1) (hk:af (fun k=>k=b0∨B≤k) W1 W2):pW b0 B v W2:=by
  obtain ⟨d,h1,h2⟩:=h;exact ⟨d,(hk.block b0 (.inl rfl) (ae h1)).trans h1,Ex.At.keep (hk.weak fun k h=>.inr h) (fun _ h=>h) h2⟩
theorem eP.st {b0 p j:Nat} {w w1:World} (h:eP b0 p w w1) (v:Value):eP b0 p w (w1.setCell ⟨b0,j,none⟩ v) :=
  ⟨h.os,h.tape,h.output,by simpa [World.setCell] using h.size,fun k hk h0 hp=>by rw [Below.heap_setCell _ _ _ _ (fun e=>h0 e)];exact h.block k hk h0 hp⟩
def iJ (cv:List St→Int) (s:Sb):Except (Int × Int) (List St):=match np s with
  | .error e=>.error e
  | .ok b=>if cv b=0 then .ok b else .error (0,cv b)
theorem GW {α:Type} {f:List Tk→az α} {s:Sb} {v:α} (h:im f s=.ok v):∃ L,fk s=.ok L∧f L=.ok v []:=by
  rcases hs:fk s with x|L
  · unfold im at h;rw [hs] at h;cases h
  · rw [xp hs] at h;refine ⟨L,rfl,?_⟩;rcases hf:f L with ⟨v',l⟩|l
    · rw [hf] at h;cases l with
      | nil=>cases h;rfl
      | cons t r=>cases h
    · rw [hf] at h;cases h
theorem Hc {s:Sb} {b:List St} (h:np s=.ok b):St.wzs b≤589824∧b.length≤65536:=by
  obtain ⟨L,h1,h2⟩:=GW h;have h3:=(mz 70000).2 L b [] h2;have h4:=(kU 70000).2 L b [] h2;have h5:=Il h1;have h6:=ph h1;simp only [po,List.length_nil] at h3 h4;omega
def zP (cv:List St→Int) (s:Sb) (w:World) (e:Ending) (w':World):Prop :=
  Below w.heap.size w w'∧((∃ n x:Int,iJ cv s=.error (n,x)∧x≠0∧e=.returned (.tuple #[.slice none 0 0,.int .i64 n,.int .i64 x])) ∨
    ∃ (b:List St) (a:Option Addr) (c:Nat),iJ cv s=.ok b∧e=.returned (.tuple #[.slice a b.length c,.int .i64 0,.int .i64 0])∧b.length≤c∧c≤MX∧b.length≤65536∧St.wzs b≤589824∧St.Ats (ay w.heap.size) w' b a)
theorem Gs.under {b0:Nat} {w a b:World} (k:Below w.heap.size w a) (h:Gs b0 a b) (hb:w.heap.size≤b0):Below w.heap.size w b :=
  k.trans ⟨h.os,h.tape,h.output,h.size,fun i hi=>h.block i (KS hi k.size) (by omega)⟩
theorem BE {cv:List St→Int} (hTC:p4 cv) (s:ByteArray) (w:World) (hT:eC w) (hs:s.size≤4611686018427387904) (hq:iU s.data.toList=true) :
    Calls Tryz.prog 29 #[.string s] w (zP cv s.data.toList w):=by
  have hmf:∀ (fn:Go.Fn) (first cap:Array Value) (w:World),(Instr.makeFunc fn first cap).run Tryz.prog w=.ok (.func fn first cap) w:=fun _ _ _ _=>rfl;have HTC:=hI hTC;have hpar:=GY (EB 70000).2 40 w.heap.size #[.pointer (some ⟨w.heap.size,0,none⟩)] s (w.alloc (.cells #[.slice none 0 0] 22)) (mw w.heap.size ((w.alloc (.cells #[.slice none 0 0] 22)).heap.size+2)) (hT.below (aH (Below.refl _ _) _)) hs (by simp) hq Cu (fun v W1 W2 h hk=>h.keep hk) (BG w.heap.size _ (aA rfl));have HPAR:=hI hpar;clear hpar hTC hT hs
  go_enter Tryz.func29,Tryz.ntmps29
  go_wp2_with (first
    | (go_at_call 39;refine HPAR.out.mono ?_;rintro e w1 ⟨hg,n,x,rfl,(⟨hp,hx⟩|⟨b,hp,rfl,rfl,hk⟩)⟩;(have tx:(x != 0)=true:=(by simpa using hx);have HX:=hI hx;have HP:=hI hp;have HG:=hI hg;clear hx hp hg);rotate_left;(have HP:=hI hp;have HG:=hI hg;obtain ⟨a,c,hbox,h1,h2,h3⟩:=hk;have HST:=hI h3;have HBD:=hI (Hc hp);have HC:=hI (And.intro h1 h2);have k1:=fun j=>ac hbox j;have k1f:=ag hbox;have k1z:=ae hbox;have HBX:=hI hbox;clear hp hg h1 h2 h3 hbox);rotate_left)
    | (go_at_call 30;refine (HTC.out b a c _ (by have:=HBD.out.1;omega) HC.out.1 HC.out.2 (by have:=HBD.out.2;unfold LM;omega) (St.Ats.mono (fun _ _ _=>trivial) HST.out)).mono ?_;rintro e w2 ⟨rfl,hb2⟩;have hbox2:=aD hb2 HBX.out;have k2:=fun j=>ac hbox2 j;have k2f:=ag hbox2;have k2z:=ae hbox2;clear hbox2;rcases Decidable.em (cv b=0) with h0|h0;(have t0:(cv b != 0)=false:=(by rw [h0];rfl);have H0:=hI h0;clear h0);rotate_left;(have t0:(cv b != 0)=true:=(by simpa using h0);have H0:=hI h0;clear h0);rotate_left))
  · refine bodyPost_ret (v:=.tuple #[.slice none 0 0,.int .i64 n,.int .i64 x]) (by simp [results,Tryz.results29,go_sem]) rfl ?_;exact ⟨Gs.under (aH (Below.refl _ _) _) HG.out (KU _),.inl ⟨n,x,by unfold iJ;rw [show np s.data.toList=.error (n,x) from HP.out],HX.out,rfl⟩⟩
  · refine bodyPost_ret (v:=.tuple #[.slice a b.length c,.int .i64 0,.int .i64 0]) (by simp [results,Tryz.results29,go_sem]) rfl ?_;refine ⟨thru hb2 (Gs.under (aH (Below.refl _ _) _) HG.out (KU _)),.inr ⟨b,a,c,by unfold iJ;rw [show np s.data.toList=.ok b from HP.out];simp only;rw [if_pos H0.out],rfl,HC.out.1,HC.out.2,HBD.out.2,HBD.out.1,?_⟩⟩;exact St.Ats.keep (aq hb2) (fun _ h=>h) (St.Ats.mono (G:=ay w.heap.size) (fun k h _=>by have h9:(w.alloc (.cells #[.slice none 0 0] 22)).heap.size+2≤k:=h;show w.heap.size≤k;simp at h9;omega) HST.out)
  · refine bodyPost_ret (v:=.tuple #[.slice none 0 0,.int .i64 0,.int .i64 (cv b)]) (by simp [results,Tryz.results29,go_sem]) rfl ?_;exact ⟨thru hb2 (Gs.under (aH (Below.refl _ _) _) HG.out (KU _)),.inl ⟨0,cv b,by unfold iJ;rw [show np s.data.toList=.ok b from HP.out];simp only;rw [if_neg H0.out],H0.out,rfl⟩⟩
