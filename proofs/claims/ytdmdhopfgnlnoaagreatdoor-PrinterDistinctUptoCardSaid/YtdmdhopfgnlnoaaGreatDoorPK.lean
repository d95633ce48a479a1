/- The writer's names and bodies. -/
import Derived.Test.YtdmdhopfgnlnoaaGreatDoorPJ
namespace Go.Proofs.YtdmdhopfgnlnoaaGreatDoor
open Go.RowKit
set_option linter.unusedVariables false
set_option linter.unusedSimpArgs false
def ZX (x:ByteArray × Int):ByteArray:=if x.2=1 then x.1++⟨#[32,60,99,111,110,115,116,62]⟩ else if x.2=2 then x.1++⟨#[32,60,99,108,111,115,101,62]⟩ else x.1
theorem VR (l:List (ByteArray × Int)):Zh ((l.map ZX).map Zg)=Vb l:=by
  unfold Vb;rw [List.map_map];congr 1;apply List.map_congr_left;intro x _;show Zg (ZX x)=_;unfold ZX;split
  · rw [Zi];rfl
  · split
    · rw [Zi];rfl
    · simp
theorem Kg (x:ByteArray × Int):(ZX x).size≤x.1.size+8:=by
  unfold ZX;split
  · rw [ByteArray.size_append];exact Nat.le_refl _
  · split
    · rw [ByteArray.size_append];exact Nat.le_refl _
    · omega
theorem VD (l:List (ByteArray × Int)):zP (l.map ZX)≤9*YI l:=by
  induction l with
  | nil=>exact Nat.zero_le _
  | cons x r ih =>
    have:=Kg x;simp only [zP,YI,List.map_cons,List.sum_cons] at ih ⊢;omega
theorem nsW_len (l:List (ByteArray × Int)):l.length≤YI l:=by
  induction l with
  | nil=>exact Nat.zero_le _
  | cons a r ih=>simp only [YI,List.map_cons,List.sum_cons,List.length_cons] at ih ⊢;omega
theorem nsW_mem {l:List (ByteArray × Int)} {x:ByteArray × Int} (h:x ∈ l):x.1.size≤YI l:=by
  induction l with
  | nil=>cases h
  | cons a r ih =>
    simp only [YI,List.map_cons,List.sum_cons] at ih ⊢;rcases List.mem_cons.1 h with rfl|h
    · omega
    · have:=ih h;omega
set_option maxRecDepth 100000 in
set_option maxHeartbeats 8000000 in
theorem qx {B:Nat} (l:List (ByteArray × Int)) (a:Option Addr) (c:Nat) (w:World) (hlc:l.length≤c) (hns:YI l≤4194304) (hrow:Rows (Qx B) w 2 vY l a) :
    Calls Tryz.prog 66 #[.slice a l.length c] w fun e w'=>e=.returned (.string ⟨(Vb l).toArray⟩)∧Below w.heap.size w w':=by
  obtain ⟨i0,hi,hz0,hz1,hz2⟩:=info_parts infoStr;have hln:=nsW_len l;have hlen:l.length≤9223372036854775807:=by omega
  have HROW:=hI hrow;have HPS:=hI (VD l);have HPB:=hI (VR l);clear hrow
  go_enter Tryz.func66,Tryz.ntmps66
  go_wp2_with fail
  go_loopg [3,9] l.length (fun gk v i wr=>∃ j:Nat,gk+j=l.length∧i=.int .i64 j∧Below w.heap.size w wr∧wr.ownsRow w.heap.size 9 1 v j (((l.take j).map ZX).map Value.string))
  case atStart=>exact ⟨0,by omega,rfl,Below.refl _ _,World.ownsRow_nil _ _ _ _⟩
  case round =>
  obtain ⟨j,hj,rfl,hbr,hown⟩:=hrel
  have hsl:∃ ao n' cap,u3=Value.slice ao n' cap:=by
    rcases hown.2 with ⟨hv,_⟩|⟨g,cap,cur,hv,_⟩
    · exact ⟨_,_,_,hv⟩
    · exact ⟨_,_,_,hv⟩
  have HBR:=hI hbr;have HJ:=hI hj;have HOWN:=hI hown;clear hbr hown;by_cases hlt:j<l.length
  · obtain ⟨x,hx⟩:∃ x,l[j]?=some x:=⟨_,List.getElem?_eq_getElem hlt⟩
    have HX:=hI hx;have hxs:=nsW_mem (List.mem_of_getElem? hx)
    have hcell:∃ b off,a=some ⟨b,off,none⟩∧b<w.heap.size∧wr.rangeAt b (off+j*2) [.string x.1,.int .i64 x.2]:=by
      obtain ⟨b,off,h1,h2⟩:=HROW.out;obtain ⟨ha,hF,hlb⟩:=h1 (by rintro rfl;simp at hlt);obtain ⟨cs,hr,rfl,-⟩:=h2 j x hx;exact ⟨b,off,ha,hlb,(Zb HBR.out:ZA Ze w wr).range trivial hlb hr⟩
    obtain ⟨b,off,rfl,hlb,hr'⟩:=hcell;have c0:=hr' 0 _ rfl;have c1:=hr' 1 _ rfl;simp only [Nat.add_zero] at c0;have hpl:=Kg x
    have HNX:∀ (v':Value) (w3:World) (q:List Value),w3.ownsRow w.heap.size 9 1 v' (j+1) q→q=((l.take j).map ZX).map Value.string++[.string (ZX x)]→w3.ownsRow w.heap.size 9 1 v' (j+1) (((l.take (j+1)).map ZX).map Value.string):=fun v' w3 q h e=>by
      subst e;rw [QQ HX.out,List.map_append,List.map_append];exact h
    have hcase:((x.2==1)=true∧ZX x=x.1++⟨#[32,60,99,111,110,115,116,62]⟩)∨((x.2==1)=false∧(x.2==2)=true∧ZX x=x.1++⟨#[32,60,99,108,111,115,101,62]⟩)∨((x.2==1)=false∧(x.2==2)=false∧ZX x=x.1):=by
      unfold ZX;by_cases h1:x.2=1
      · left;simp [h1]
      · by_cases h2:x.2=2
        · right;left;simp [h2]
        · right;right;simp [h1,h2]
    clear hr' hj hx;rcases hcase with ⟨t1,hpe⟩|⟨t1,t2,hpe⟩|⟨t1,t2,hpe⟩
    all_goals
      have HPE:=hI hpe;clear hpe;have hsz8:x.1.size≤4194304:=by omega
      go_wp2_with (at_builtin;refine wpList_append_own _ rfl _ _ 72 rfl w.heap.size 9 i0 (.string ⟨#[]⟩) 1 16 Tryz.underlying72 hi hz0 hz1 hz2 rfl (by decide) _ _ _ rfl ((HOWN.out.alloc _).alloc _) ⟨wr.heap.size+1,0,none⟩ 1 1 [.string (ZX x)] rfl rfl ?c1 ?c2 ?c3 ?c4 ?c5 ?_)
      case c1=>rw [HPE.out];exact World.news_of_block (Zk (by simp))
      case c2=>intro u hu;simp at hu;subst hu;rfl
      case c3=>unfold maxLen;omega
      case c4=>omega
      case c5=>have:=HBR.out.size;simp;omega
      intro v' w3 hown3 hgrow _;have hb3:Below w.heap.size w w3:=Below.grown (Zj (Zj HBR.out _) _) hgrow (by have:=HBR.out.size;simp;omega) (fun q hq=>(HOWN.out.lt q hq).1)
      have hsl3:∃ ao n' cap,v'=Value.slice ao n' cap:=by
        rcases hown3.2 with ⟨hv,_⟩|⟨g,cap,cur,hv,_⟩
        · exact ⟨_,_,_,hv⟩
        · exact ⟨_,_,_,hv⟩
      have HO3:=hI hown3;have HB3:=hI hb3;clear hown3 hgrow hb3
      go_wp2_with fail
      go_roundg (gk - 1)
      case rel=>exact ⟨j+1,by have:=HJ.out;omega,by go_num,HB3.out,HNX _ _ _ HO3.out (by simp)⟩
      case measure=>have:=HJ.out;omega
  · have hke:j=l.length:=by omega
    have HJN:=hI (show Calls Tryz.prog 77 #[u3,.string ⟨#[44,32]⟩] wr fun e w''=>e=.returned (.string ⟨(Vb l).toArray⟩)∧Below wr.heap.size wr w'' by
      have h9:=HOWN.out;rw [hke,List.take_length] at h9;rw [←HPB.out];refine Ym (base:=w.heap.size) (l:=l.map ZX) (by rw [List.length_map];exact h9) (by have:=HPS.out;omega))
    clear hj hke
    go_wp2_with (go_at_call 77;(with_reducible refine HJN.out.mono ?_);rintro e w2 ⟨rfl,hb2⟩)
    go_ret;exact ⟨rfl,thru hb2 HBR.out⟩
set_option maxRecDepth 100000 in
set_option maxHeartbeats 4000000 in
theorem VV {w0:World} {p m k:Nat} {T:Bs} (b:List St) (a:Option Addr) (c:Nat) (word:ByteArray) (w:World) (hk:k≤4194304) (hwd:word.size≤1000) (hc:b.length≤c) (hcm:c≤MX) (hl:b.length*128≤LM) (hB:BlOk w0 p m (k+1) b) (hat:St.Ats (Qx w0.heap.size) w b a) (h:Wr w0 p m T w) :
    Calls Tryz.prog 64 #[.pointer (some ⟨p,0,none⟩),.slice a b.length c,.int .i64 k,.string word] w (Zw w0 p m T (QC k (Qe (k+1) b) (Zg word)) w):=by
  have HATS:=hI hat;have HW:=hI h;have hpl:=h.lt;have hwd2:word.size≤70368744177664:=by omega
  have HBK:=hI (show ∀ T' w',Gp w0.heap.size p w w'→Wr w0 p m T' w'→Calls Tryz.prog 16 #[.pointer (some ⟨p,0,none⟩),.slice a b.length c,.int .i64 ((k:Int)+1)] w' (Zw w0 p m T' (Qe (k+1) b) w') from fun T' w' hg hw=>by
    rw [show ((k:Int)+1)=((k+1:Nat):Int) from by simp];exact hB a c T' w' hc hcm hl (HATS.out.keep (hg.keep hpl.1) (fun _ h=>h)) hw)
  obtain ⟨ij,hij⟩:∃ q:ByteArray,q=⟨(QH k).toArray⟩:=⟨_,rfl⟩
  have HIN:=hI (show ∀ w',Calls Tryz.prog 30 #[.string ⟨#[32,32]⟩,.int .i64 k] w' fun e w''=>e=.returned (.string ij)∧Below w'.heap.size w' w'' from fun w'=>by rw [hij];exact JJ k w' (by omega));have hil:ij.size≤70368744177664:=by rw [hij];have:=Ql k;show (QH k).toArray.size≤_;simp;omega
  have HIB:=hI (show Zg ij=QH k by rw [hij];simp [Zg]);have hcc:b.length≤c∧c≤9223372036854775807:=⟨hc,by unfold MX at hcm;omega⟩
  clear hij hB hat h hl hwd hcm hc
  go_enter Tryz.func64,Tryz.ntmps64
  go_wp2_with (first
    | (go_at_call 29;(with_reducible refine (HW.out.put1 ⟨#[10]⟩ (by simp) (by decide)).mono ?_);rintro e w4 ⟨rfl,hw4,hg4⟩;have HW4:=hI hw4;have HG4:=hI hg4;clear hw4 hg4)
    | (go_at_call 16;(with_reducible refine (HBK.out _ _ HG4.out HW4.out).mono ?_);rintro e w5 ⟨rfl,hw5,hg5⟩;have HW5:=hI hw5;have HG5:=hI (hg5.thru HG4.out);clear hw5 hg5)
    | (go_at_call 30;(with_reducible refine (HIN.out _).mono ?_);rintro e w6 ⟨rfl,hb6⟩;have HB6:=hI hb6)
    | (go_at_call 29;(with_reducible refine ((HW5.out.below HB6.out).put2 ij word (by simp) hil hwd2).mono ?_);rintro e w7 ⟨rfl,hw7,hg7⟩;have HW7:=hI hw7;have HG7:=hI ((hg7.thru (Gp.of_below HB6.out)).thru HG5.out);clear hw7 hg7))
  go_end0;refine ⟨rfl,?_,HG7.out⟩;have h9:=HW7.out;rw [HIB.out] at h9;unfold QC;simpa [Zg] using h9
def zv (n i:Nat):List Bs→List Bs→Bs
  | c::cs,b::bs=>(if i=0 then [105,102,32] else [101,108,115,101,105,102,32])++c++[32,116,104,101,110,10]++b++QH n++zv n (i+1) cs bs
  | _,_=>[]
def Kx (n:Nat) (o:Option Bs):Bs:=match o with|some b=>[101,108,115,101,10]++b++QH n|none=>[]
theorem vJ (n:Nat):∀ (cs bs:List Bs) (i:Nat),cs.length≤bs.length→bs.length≤cs.length+1→Vg n i cs bs=zv n i cs bs++Kx n bs[cs.length]?
  | [],[],i,_,_=>rfl
  | [],[b],i,_,_=>by simp [Vg,zv,Kx]
  | [],b::b2::r,i,_,h=>by simp at h
  | c::cs,[],i,h,_=>by simp at h
  | c::cs,b::bs,i,h1,h2=>by
    simp only [Vg,zv];rw [vJ n cs bs (i+1) (by simpa using h1) (by simpa using h2)];simp
theorem Jm (n:Nat):∀ (cs bs:List Bs) (i j:Nat) (c b:Bs),cs[j]?=some c→bs[j]?=some b →
    zv n i (cs.take (j+1)) (bs.take (j+1))=zv n i (cs.take j) (bs.take j)++((if i+j=0 then [105,102,32] else [101,108,115,101,105,102,32])++c++[32,116,104,101,110,10]++b++QH n)
  | [],_,_,_,_,_,h,_=>by simp at h
  | _::_,[],_,_,_,_,_,h=>by simp at h
  | c0::cs,b0::bs,i,0,c,b,h1,h2=>by
    simp at h1 h2;subst h1 h2;simp [zv]
  | c0::cs,b0::bs,i,j+1,c,b,h1,h2=>by
    simp only [List.getElem?_cons_succ] at h1 h2;have h9:=Jm n cs bs (i+1) j c b h1 h2;simp only [List.take_succ_cons,zv] at h9 ⊢;rw [h9,show i+1+j=i+(j+1) by omega];simp only [List.append_assoc]
theorem YF (n:Nat):∀ (cs bs:List Bs) (i j:Nat),cs.length≤j→zv n i cs (bs.take j)=zv n i cs bs
  | [],bs,i,j,_=>by cases bs <;> cases j <;> rfl
  | c::cs,[],i,j,_=>by simp [zv]
  | c::cs,b::bs,i,0,h=>by simp at h
  | c::cs,b::bs,i,j+1,h=>by
    simp only [List.take_succ_cons,zv];rw [YF n cs bs (i+1) j (by simpa using h)]
theorem VT {s:St} {b:Bool} (h:VI s b=0):s.label.size≤40:=by
  obtain ⟨h1,-⟩:=vz.1 h;omega
theorem zU {s:St} {b:Bool} (h:VI s b=0):∀ x ∈ s.names,x.1.size≤40:=by
  obtain ⟨-,h2,-⟩:=vz.1 h;intro x hx;apply Nat.le_of_not_lt;intro h9;exact h2 (List.any_eq_true.2 ⟨x,hx,by simpa using h9⟩)
theorem Vi {x:Ex} {p:Int} {t:Ttl} (h:ZH t p x=0):∀ f ∈ x.funcs,f.name.size≤4096:=by
  obtain ⟨-,h2,-⟩:=ql.1 (Qm.1 h).1;intro f hf;apply Nat.le_of_not_lt;intro h9;exact h2 (List.any_eq_true.2 ⟨f,hf,by simp;exact .inl h9⟩)
theorem Vm {s:St} {b:Bool} (h:VI s b=0) (hk:s.kind=2∨s.kind=4∨s.kind=6∨s.kind=7):s.right.length=1:=by
  have h9:=QD h;unfold Zp at h9;rcases hk with hk|hk|hk|hk <;> (simp [hk,Zv,ZM] at h9;omega)
theorem zK {s:St} {b:Bool} (h:VI s b=0) (hk:s.kind=3):1≤s.left.length:=by
  have h9:=QD h;unfold Zp at h9;simp [hk,Zv,ZM] at h9;omega
structure QB (w0:World) (p m k:Nat) (s:St):Prop where
  left:∀ y ∈ s.left,YH w0 p m k y
  right:∀ y ∈ s.right,YH w0 p m k y
  funcs:∀ y ∈ s.right,∀ f ∈ y.funcs,BlOk w0 p m (k+1) f.body∧zP f.params≤4194304
  blocks:∀ b ∈ s.blocks,BlOk w0 p m (k+1) b
  names:YI s.names≤4194304
  k:k≤4194304
theorem yPLa {P:Prop} (h:P:=by
  obtain ⟨ha,hF,hlb⟩:=h1 (by intro h9;rw [h9] at hy;simp at hy);obtain ⟨cs,hr,dy,rfl,hay⟩:=h2 i y hy;exact ⟨b,off,dy,ha,hF,hlb,hr,hay⟩):P:=h
theorem QP {B:Nat} {x:St} {y:Ex} {d:SA} {w:World} {i:Nat} (hat:x.At (Qx B) w d) (hy:x.right[i]?=some y):∃ b off dy,d.ra=some ⟨b,off,none⟩∧b<B∧b<w.heap.size∧w.rangeAt b (off+i*8) (y.cells dy)∧y.At (Qx B) w dy:=by
  obtain ⟨-,-,-,-,⟨b,off,h1,h2⟩,-⟩:=St.at_iff.1 hat;exact yPLa
theorem qz {B:Nat} {x:St} {y:Ex} {d:SA} {w:World} {i:Nat} (hat:x.At (Qx B) w d) (hy:x.left[i]?=some y):∃ b off dy,d.la=some ⟨b,off,none⟩∧b<B∧b<w.heap.size∧w.rangeAt b (off+i*8) (y.cells dy)∧y.At (Qx B) w dy:=by
  obtain ⟨-,-,-,⟨b,off,h1,h2⟩,-,-⟩:=St.at_iff.1 hat;exact yPLa
theorem VW {B:Nat} {x:St} {y:List St} {d:SA} {w:World} {i:Nat} (hat:x.At (Qx B) w d) (hy:x.blocks[i]?=some y):∃ b off a c,d.ba=some ⟨b,off,none⟩∧b<B∧b<w.heap.size∧w.rangeAt b (off+i) [.slice a y.length c]∧(y.length≤c∧c≤MX∧y.length*128≤LM)∧St.Ats (Qx B) w y a:=by
  obtain ⟨-,-,-,-,-,⟨b,off,h1,h2⟩⟩:=St.at_iff.1 hat;obtain ⟨ha,hF,hlb⟩:=h1 (by intro h9;rw [h9] at hy;simp at hy);obtain ⟨cs,hr,a,c,rfl,hc,hay⟩:=h2 i y hy;rw [Nat.mul_one] at hr;exact ⟨b,off,a,c,ha,hF,hlb,hr,hc,hay⟩
end Go.Proofs.YtdmdhopfgnlnoaaGreatDoor
