import Derived.Test.YtaddbmkkkollpaaGreatDoorC8
set_option linter.all false
namespace Go.Proofs.YtaddbmkkkollpaaGreatDoor
open Go.RowKit
set_option maxHeartbeats 4000000
set_option maxRecDepth 100000
structure Gr (row:Option Nat) (w w':World):Prop where
  os:w'.os=w.os
  tape:w'.tape=w.tape
  output:w'.output=w.output
  size:w.heap.size≤w'.heap.size
  block:∀ k,k<w.heap.size→some k≠row→w'.heap[k]?=w.heap[k]?
theorem Gr.refl (row:Option Nat) (w:World):Gr row w w:=⟨rfl,rfl,rfl,KU _,fun _ _ _=>rfl⟩
theorem Gr.thru {row:Option Nat} {w b c:World} (h:Gr row b c) (k:Gr row w b):Gr row w c :=
  ⟨h.os.trans k.os,h.tape.trans k.tape,h.output.trans k.output,KT k.size h.size,fun i hi hn=>(h.block i (KS hi k.size) hn).trans (k.block i hi hn)⟩
theorem Gr.of_below {row:Option Nat} {w w':World} (h:Below w.heap.size w w'):Gr row w w':=⟨h.os,h.tape,h.output,h.size,fun k hk _=>h.block k hk⟩
theorem Gr.below {row:Option Nat} {w b c:World} (h:Below b.heap.size b c) (k:Gr row w b):Gr row w c:=(Gr.of_below h).thru k
theorem Gr.alloc {row:Option Nat} {w b:World} (k:Gr row w b) (o:Obj):Gr row w (b.alloc o):=Gr.below (aH (Below.refl _ _) o) k
theorem Gr.drewN {row:Option Nat} {w b:World} (k:Gr row w b) (n:Nat):Gr row w (b.drewN n):=Gr.below (dQ (Below.refl _ _) n) k
theorem Gr.drew {row:Option Nat} {w b:World} (k:Gr row w b):Gr row w b.drew:=k.drewN 1
theorem Gr.none_below {w w':World} (h:Gr none w w'):Below w.heap.size w w':=⟨h.os,h.tape,h.output,h.size,fun k hk=>h.block k hk (by simp)⟩
abbrev gu (row:Option Nat):Nat→Prop:=fun k=>some k≠row
theorem Gr.keep {row:Option Nat} {w w':World} (h:Gr row w w'):af (gu row) w w':=⟨h.size,fun k hk hl=>h.block k hl hk⟩
theorem Gr.box {row:Option Nat} {w w':World} {b:Nat} {o:Obj} (h:Gr row w w') (hb:w.heap[b]?=some o) (hne:some b≠row):w'.heap[b]?=some o:=by
  rw [h.block b (aE hb) hne];exact hb
def dm (row:Option Nat) (v:Int) (w:World):Prop:=∀ b,row=some b→w.heap[b]?=some (.cells #[.int .i64 v] 3)
theorem dm.below {row:Option Nat} {v:Int} {w w':World} (h:dm row v w) (hb:Below w.heap.size w w'):dm row v w':=fun b hr=>aK hb (h b hr)
theorem dm.lt {row:Option Nat} {v:Int} {w:World} (h:dm row v w) {k:Nat} (hk:w.heap.size≤k):some k≠row:=by
  rintro rfl;have:=aE (h k rfl);omega
structure gx (row:Option Nat) (v er:Int) (r:Value) (w:World) (e:Ending) (w':World):Prop where
  gr:Gr row w w'
  ok:er=0→e=.returned r∧dm row v w'
  no:er≠0→e=.panicked (gI er)
def kS (row:Option Nat) (st:Int→Ex→Int) (er:Ex→Int) (f:Nat) (fst cap:Array Value) (w0:World) (x:Ex):Prop :=
  ∀ (v:Int) (d:EA) (w:World),Gr row w0 w→x.At (gu row) w d→dm row v w→Calls Tryz.prog f (fst.push (.agg #[.int .i64 x.kind,.int .i64 x.op,.int .i64 x.line,.int .i64 x.p,.int .i64 x.q,.string x.str,.slice d.a x.args.length d.c,.slice d.fa x.funcs.length d.fc])++cap) w (gx row (st v x) (er x) (.bool true) w)
def mu (row:Option Nat) (st:Int→List St→Int) (er:List St→Int) (f:Nat) (fst cap:Array Value) (w0:World) (x:List St):Prop :=
  ∀ (v:Int) (a:Option Addr) (c:Nat) (w:World),Gr row w0 w→x.length≤c→c≤MX→x.length*128≤LM→St.Ats (gu row) w x a→dm row v w→Calls Tryz.prog f (fst.push (.slice a x.length c)++cap) w (gx row (st v x) (er x) (.bool true) w)
theorem kS.later {row:Option Nat} {st:Int→Ex→Int} {er:Ex→Int} {f:Nat} {fst cap:Array Value} {w0 w1:World} {x:Ex} (h:kS row st er f fst cap w0 x) (hg:Gr row w0 w1):kS row st er f fst cap w1 x:=fun v d w hw=>h v d w (hw.thru hg)
theorem mu.later {row:Option Nat} {st:Int→List St→Int} {er:List St→Int} {f:Nat} {fst cap:Array Value} {w0 w1:World} {x:List St} (h:mu row st er f fst cap w0 x) (hg:Gr row w0 w1):mu row st er f fst cap w1 x:=fun v a c w hw=>h v a c w (hw.thru hg)
def aX {α:Type} (P:Int→α→Prop) (st:Int→α→Int):Int→List α→Prop
  | _,[]=>True
  | v,x::r=>P v x∧aX P st (st v x) r
theorem aX.at_ {α:Type} {P:Int→α→Prop} {st:Int→α→Int}:∀ {l:List α} {v:Int} {k:Nat} {x:α},aX P st v l→l[k]?=some x→P ((l.take k).foldl st v) x
  | [],_,_,_,_,h=>by simp at h
  | y::r,v,0,x,h,hx=>by simp at hx;subst hx;exact h.1
  | y::r,v,k+1,x,h,hx=>by simp only [List.take_succ_cons,List.foldl_cons];exact aX.at_ h.2 (by simpa using hx)
theorem aX.app {α:Type} {P:Int→α→Prop} {st:Int→α→Int}:∀ {a b:List α} {v:Int},aX P st v (a++b)↔aX P st v a∧aX P st (a.foldl st v) b
  | [],b,v=>by simp [aX]
  | x::r,b,v=>by simp only [List.cons_append,aX,List.foldl_cons,aX.app (a:=r),and_assoc]
theorem aX.tt {α:Type} {P:Int→α→Prop} {st:Int→α→Int} (h:∀ v x,P v x):∀ (l:List α) (v:Int),aX P st v l
  | [],_=>trivial
  | x::r,v=>⟨h v x,aX.tt h r _⟩
def j7:Obj→Prop
  | .cells _ t=>t≠81
  | _=>True
theorem frO (cs:Array Value) (t:TypeId) (h:(t==81)=false:=by rfl):j7 (.cells cs t):=fun h9=>by rw [h9] at h;cases h
structure RS where
  R:Nat→Obj→Prop
  S:Int→World→Prop
  lt:∀ {v:Int} {w:World},S v w→∀ k o,R k o→j7 o→k<w.heap.size
  low:∀ {v:Int} {w w':World},S v w→Below w.heap.size w w'→S v w'
structure aw (row:RS) (w w':World):Prop where
  os:w'.os=w.os
  tape:w'.tape=w.tape
  output:w'.output=w.output
  size:w.heap.size≤w'.heap.size
  block:∀ (k:Nat) (o:Obj),w.heap[k]?=some o→¬ row.R k o→w'.heap[k]?=some o
theorem aw.refl (row:RS) (w:World):aw row w w:=⟨rfl,rfl,rfl,KU _,fun _ _ h _=>h⟩
theorem aw.thru {row:RS} {w b c:World} (h:aw row b c) (k:aw row w b):aw row w c :=
  ⟨h.os.trans k.os,h.tape.trans k.tape,h.output.trans k.output,KT k.size h.size,fun i o hi hn=>h.block i o (k.block i o hi hn) hn⟩
theorem aw.of_below {row:RS} {w w':World} (h:Below w.heap.size w w'):aw row w w':=⟨h.os,h.tape,h.output,h.size,fun k o hk _=>(h.block k (aE hk)).trans hk⟩
theorem aw.below {row:RS} {w b c:World} (h:Below b.heap.size b c) (k:aw row w b):aw row w c:=(aw.of_below h).thru k
theorem aw.alloc {row:RS} {w b:World} (k:aw row w b) (o:Obj):aw row w (b.alloc o):=aw.below (aH (Below.refl _ _) o) k
theorem aw.drewN {row:RS} {w b:World} (k:aw row w b) (n:Nat):aw row w (b.drewN n):=aw.below (dQ (Below.refl _ _) n) k
theorem aw.drew {row:RS} {w b:World} (k:aw row w b):aw row w b.drew:=k.drewN 1
abbrev ct (row:RS):Nat→Prop:=fun k=>∀ o,¬ row.R k o
theorem aw.keep {row:RS} {w w':World} (h:aw row w w'):af (ct row) w w':=⟨h.size,fun k hk hl=>(h.block k _ (Array.getElem?_eq_getElem hl) (hk _)).trans (Array.getElem?_eq_getElem hl).symm⟩
theorem aw.box {row:RS} {w w':World} {b:Nat} {o:Obj} (h:aw row w w') (hb:w.heap[b]?=some o) (hne:¬ row.R b o):w'.heap[b]?=some o:=h.block b o hb hne
def bp (row:RS) (v:Int) (w:World):Prop:=row.S v w
theorem bp.below {row:RS} {v:Int} {w w':World} (h:bp row v w) (hb:Below w.heap.size w w'):bp row v w':=row.low h hb
theorem bp.lt {row:RS} {v:Int} {w:World} (h:bp row v w) {k:Nat} {o:Obj} (hk:w.heap.size≤k) (ho:j7 o):¬ row.R k o:=fun hr=>by have:=row.lt h k o hr ho;omega
structure dl (row:RS) (v er:Int) (r:Value) (w:World) (e:Ending) (w':World):Prop where
  gr:aw row w w'
  ok:er=0→e=.returned r∧bp row v w'
  no:er≠0→e=.panicked (gI er)
def nu (r:Option Nat):RS:=⟨fun k _=>some k=r,dm r,fun {v w} h k o hk _=>by have:=aE (h k hk.symm);exact this,fun h hb=>h.below hb⟩
theorem qT {r:Option Nat} {w w':World} (h:aw (nu r) w w'):Gr r w w':=⟨h.os,h.tape,h.output,h.size,fun k hk hr=>(h.block k _ (Array.getElem?_eq_getElem hk) hr).trans (Array.getElem?_eq_getElem hk).symm⟩
theorem IQ {r:Option Nat} {v er:Int} {x:Value} {w w':World} {e:Ending} (h:dl (nu r) v er x w e w'):gx r v er x w e w':=⟨qT h.gr,h.ok,h.no⟩
theorem xU {r:Option Nat} {v er:Int} {x:Value} {w w':World} {e:Ending} (h:gx r v er x w e w'):dl (nu r) v er x w e w':=⟨⟨h.gr.os,h.gr.tape,h.gr.output,h.gr.size,fun k o hk hr=>(h.gr.block k (aE hk) hr).trans hk⟩,h.ok,h.no⟩
def iA (P:Int→Ex→Prop) (row:RS) (st:Int→Ex→Int) (er:Ex→Int) (f:Nat) (fst cap:Array Value) (w0:World) (x:Ex):Prop :=
  ∀ (v:Int) (d:EA) (w:World),aw row w0 w→x.At (ct row) w d→bp row v w→P v x→Calls Tryz.prog f (fst.push (.agg #[.int .i64 x.kind,.int .i64 x.op,.int .i64 x.line,.int .i64 x.p,.int .i64 x.q,.string x.str,.slice d.a x.args.length d.c,.slice d.fa x.funcs.length d.fc])++cap) w (dl row (st v x) (er x) (.bool true) w)
def jd (Q:Int→List St→Prop) (row:RS) (st:Int→List St→Int) (er:List St→Int) (f:Nat) (fst cap:Array Value) (w0:World) (x:List St):Prop :=
  ∀ (v:Int) (a:Option Addr) (c:Nat) (w:World),aw row w0 w→x.length≤c→c≤MX→x.length*128≤LM→St.Ats (ct row) w x a→bp row v w→Q v x→Calls Tryz.prog f (fst.push (.slice a x.length c)++cap) w (dl row (st v x) (er x) (.bool true) w)
theorem iA.later {P:Int→Ex→Prop} {row:RS} {st:Int→Ex→Int} {er:Ex→Int} {f:Nat} {fst cap:Array Value} {w0 w1:World} {x:Ex} (h:iA P row st er f fst cap w0 x) (hg:aw row w0 w1):iA P row st er f fst cap w1 x:=fun v d w hw=>h v d w (hw.thru hg)
theorem jd.later {Q:Int→List St→Prop} {row:RS} {st:Int→List St→Int} {er:List St→Int} {f:Nat} {fst cap:Array Value} {w0 w1:World} {x:List St} (h:jd Q row st er f fst cap w0 x) (hg:aw row w0 w1):jd Q row st er f fst cap w1 x:=fun v a c w hw=>h v a c w (hw.thru hg)
def iC {α:Type} (er:α→Int) (l:List α) (k:Nat):Prop:=∀ j x,j<k→l[j]?=some x→er x=0
theorem iC.succ {α:Type} {er:α→Int} {l:List α} {k:Nat} {x:α} (h:iC er l k) (hx:l[k]?=some x) (hp:er x=0):iC er l (k+1):=by
  intro j y hj hy;rcases (by omega:j<k∨j=k) with h'|rfl
  · exact h j y h' hy
  · rw [hx] at hy;cases hy;exact hp
theorem qM {α:Type} {er:α→Int} {l:List α} (h:iC er l l.length):aB (l.map er)=0:=by
  rw [m5];intro n hn;obtain ⟨x,hx,rfl⟩:=List.mem_map.1 hn;obtain ⟨j,hj⟩:=List.mem_iff_getElem?.1 hx;exact h j x (KQ hj).1 hj
theorem kq {α:Type} {er:α→Int}:∀ {l:List α} {k:Nat} {x:α},iC er l k→l[k]?=some x→er x≠0→aB (l.map er)=er x
  | y::r,0,x,h,hx,hp=>by simp at hx;subst hx;simp only [List.map_cons,aB];unfold alt;rw [if_neg hp]
  | y::r,k+1,x,h,hx,hp=>by
    have h0:er y=0:=h 0 y (by omega) rfl;simp only [List.map_cons,aB];unfold alt;rw [if_pos h0];exact kq (fun (j:Nat) (z:α) (hj:j<k) (hz:r[j]?=some z)=>h (j+1) z (by omega) (by simpa using hz)) (by simpa using hx) hp
theorem iY {α:Type} {l:List α} {k:Nat} {x:α} (h:l[k]?=some x):l.take (k+1)=l.take k++[x]:=by
  rw [List.take_add_one,h];rfl
theorem m7 {α:Type} {st:Int→α→Int} {l:List α} {k:Nat} {x:α} (h:l[k]?=some x) (v:Int):(l.take (k+1)).foldl st v=st ((l.take k).foldl st v) x:=by
  rw [iY h,List.foldl_append];rfl
theorem zh {P:Prop} (h:P:=by
  have HE:k=l.length:=by omega
  have HE':=hI HE;clear HE;clear hk
  go_wp2_with fail
  go_ret;have h0:aB (l.map er)=0:=qM (by have:=HE'.out;subst this;exact HN.out);exact ⟨HG.out,fun _=>⟨rfl,by have:=HSW.out;rw [HE'.out,List.take_length] at this;exact this⟩,fun h9=>absurd h0 h9⟩):P:=h
theorem qJ {P:Int→Ex→Prop} {row:RS} {st:Int→Ex→Int} {er:Ex→Int} {f:Nat} {fst cap:Array Value} {T:TypeId} (hf:∀ args w',(callFunc f args).run Tryz.prog w'=.ok (.enter f args) w')
    (l:List Ex) (a:Option Addr) (c:Nat) (w:World) (be:Nat) (v:Int) (hbe:w.heap[be]?=some (.cells #[.func (.func f) fst cap] T)) (hne:¬ row.R be (.cells #[.func (.func f) fst cap] T))
    (hcb:∀ x ∈ l,iA P row st er f fst cap w x) (hlc:l.length≤c) (hlm:l.length*104≤LM) (hat:aj (ct row) w 8 (fg (ct row) w) l a) (hst:bp row v w) (hP:aX P st v l) :
    Calls Tryz.prog 37 #[.slice a l.length c,.pointer (some ⟨be,0,none⟩)] w (dl row (l.foldl st v) (aB (l.map er)) (.bool true) w):=by
  have hlen:l.length≤9223372036854775807:=by unfold LM at hlm;omega
  have HBE:=hI hbe;clear hbe;have HS:=hI hst;clear hst
  go_enter Tryz.func37,Tryz.ntmps37
  go_wp2_with fail
  go_loopg [5,8] l.length (fun gk u i wr=>∃ k:Nat,gk+k=l.length∧i=.int .i64 k∧aw row w wr∧bp row ((l.take k).foldl st v) wr∧iC er l k)
  case atStart=>exact ⟨0,by omega,rfl,aw.refl _ _,HS.out,fun j x hj=>absurd hj (by omega)⟩
  case round =>
    obtain ⟨k,hk,rfl,hgw,hsw,hno⟩:=hrel;have HG:=hI hgw;clear hgw;have HN:=hI hno;clear hno;have HSW:=hI hsw;clear hsw;have HK:=hI hk;by_cases hlt:k<l.length
    · obtain ⟨x,hx⟩:∃ x,l[k]?=some x:=⟨_,KP hlt⟩
      obtain ⟨b,off,h1,h2⟩:=hat;obtain ⟨rfl,hF,hlb⟩:=h1 (by rintro rfl;simp at hlt);obtain ⟨cs,hr,d,rfl,hax⟩:=h2 k x hx;have hr':=HG.out.keep.range hF hlb hr;have c0:=hr' 0 _ rfl;have c1:=hr' 1 _ rfl;have c2:=hr' 2 _ rfl;have c3:=hr' 3 _ rfl;have c4:=hr' 4 _ rfl;have c5:=hr' 5 _ rfl;have c6:=hr' 6 _ rfl;have c7:=hr' 7 _ rfl;simp only [Nat.add_zero,Nat.mul_one] at c0;have hbx:=HG.out.box HBE.out hne;have kb:=fun i=>au hbx i;have kz:=aE hbx;have hga:=HG.out.alloc (.cells #[.int .i64 x.kind,.int .i64 x.op,.int .i64 x.line,.int .i64 x.p,.int .i64 x.q,.string x.str,.slice d.a x.args.length d.c,.slice d.fa x.funcs.length d.fc] 37);have HC:=hI (hcb x (KR hx) ((l.take k).foldl st v) d (wr.alloc (.cells #[.int .i64 x.kind,.int .i64 x.op,.int .i64 x.line,.int .i64 x.p,.int .i64 x.q,.string x.str,.slice d.a x.args.length d.c,.slice d.fa x.funcs.length d.fc] 37)) hga (hax.keep hga.keep (fun _ h=>h)) (HSW.out.below (aH (Below.refl _ _) _)) (hP.at_ hx));clear hga;have HX:=hI hx;clear hx;clear hr hr' h1 h2 hax hcb hk hbx hP;by_cases hp:er x=0
      · have HP:=hI hp;clear hp
        go_wp2_with ((with_reducible refine HC.out.mono ?_);(rintro e w1 hres;obtain ⟨rfl,hs1⟩:=hres.ok HP.out;have hg1:=hres.gr;clear hres;have HG1:=hI hg1;clear hg1;have HS1:=hI hs1;clear hs1))
        go_roundg (gk - 1)
        case rel=>exact ⟨k+1,by have:=HK.out;omega,by go_num,HG1.out.thru (HG.out.alloc _),by rw [m7 HX.out];exact HS1.out,HN.out.succ HX.out HP.out⟩
        case measure=>have:=HK.out;omega
      · have HP:=hI hp;clear hp
        go_wp2_with ((with_reducible refine HC.out.mono ?_);(rintro e w1 hres;obtain rfl:=hres.no HP.out;have hg1:=hres.gr;clear hres;have HG1:=hI hg1;clear hg1))
        refine ⟨rfl,HG1.out.thru (HG.out.alloc _),fun h9=>?_,fun _=>?_⟩
        · rw [kq HN.out HX.out HP.out] at h9;exact absurd h9 HP.out
        · rw [kq HN.out HX.out HP.out]
    · exact zh
theorem qi {Q:Int→List St→Prop} {row:RS} {st:Int→List St→Int} {er:List St→Int} {f:Nat} {fst cap:Array Value} {T:TypeId} (hf:∀ args w',(callFunc f args).run Tryz.prog w'=.ok (.enter f args) w')
    (l:List (List St)) (a:Option Addr) (c:Nat) (w:World) (be:Nat) (v:Int) (hbe:w.heap[be]?=some (.cells #[.func (.func f) fst cap] T)) (hne:¬ row.R be (.cells #[.func (.func f) fst cap] T))
    (hcb:∀ x ∈ l,jd Q row st er f fst cap w x) (hlc:l.length≤c) (hlm:l.length*24≤LM) (hat:aj (ct row) w 1 (oh (ct row) w) l a) (hst:bp row v w) (hP:aX Q st v l) :
    Calls Tryz.prog 38 #[.slice a l.length c,.pointer (some ⟨be,0,none⟩)] w (dl row (l.foldl st v) (aB (l.map er)) (.bool true) w):=by
  have hlen:l.length≤9223372036854775807:=by unfold LM at hlm;omega
  have HBE:=hI hbe;clear hbe;have HS:=hI hst;clear hst
  go_enter Tryz.func38,Tryz.ntmps38
  go_wp2_with fail
  go_loopg [5,8] l.length (fun gk u i wr=>∃ k:Nat,gk+k=l.length∧i=.int .i64 k∧aw row w wr∧bp row ((l.take k).foldl st v) wr∧iC er l k)
  case atStart=>exact ⟨0,by omega,rfl,aw.refl _ _,HS.out,fun j x hj=>absurd hj (by omega)⟩
  case round =>
    obtain ⟨k,hk,rfl,hgw,hsw,hno⟩:=hrel;have HG:=hI hgw;clear hgw;have HN:=hI hno;clear hno;have HSW:=hI hsw;clear hsw;have HK:=hI hk;by_cases hlt:k<l.length
    · obtain ⟨x,hx⟩:∃ x,l[k]?=some x:=⟨_,KP hlt⟩
      obtain ⟨b,off,h1,h2⟩:=hat;obtain ⟨rfl,hF,hlb⟩:=h1 (by rintro rfl;simp at hlt);obtain ⟨cs,hr,a2,c2,rfl,hq,hax⟩:=h2 k x hx;have hr':=HG.out.keep.range hF hlb hr;have c0:=hr' 0 _ rfl;simp only [Nat.add_zero,Nat.mul_one] at c0;have hbx:=HG.out.box HBE.out hne;have kb:=fun i=>au hbx i;have kz:=aE hbx;have HC:=hI (hcb x (KR hx) ((l.take k).foldl st v) a2 c2 wr HG.out hq.1 hq.2.1 hq.2.2 (St.Ats.keep HG.out.keep (fun _ h=>h) hax) HSW.out (hP.at_ hx));have HX:=hI hx;clear hx;clear hr hr' h1 h2 hax hcb hk hbx hq hP;by_cases hp:er x=0
      · have HP:=hI hp;clear hp
        go_wp2_with ((with_reducible refine HC.out.mono ?_);(rintro e w1 hres;obtain ⟨rfl,hs1⟩:=hres.ok HP.out;have hg1:=hres.gr;clear hres;have HG1:=hI hg1;clear hg1;have HS1:=hI hs1;clear hs1))
        go_roundg (gk - 1)
        case rel=>exact ⟨k+1,by have:=HK.out;omega,by go_num,HG1.out.thru HG.out,by rw [m7 HX.out];exact HS1.out,HN.out.succ HX.out HP.out⟩
        case measure=>have:=HK.out;omega
      · have HP:=hI hp;clear hp
        go_wp2_with ((with_reducible refine HC.out.mono ?_);(rintro e w1 hres;obtain rfl:=hres.no HP.out;have hg1:=hres.gr;clear hres;have HG1:=hI hg1;clear hg1))
        refine ⟨rfl,HG1.out.thru HG.out,fun h9=>?_,fun _=>?_⟩
        · rw [kq HN.out HX.out HP.out] at h9;exact absurd h9 HP.out
        · rw [kq HN.out HX.out HP.out]
    · exact zh
abbrev gv:=Sum Ex (List St)
def bj (s:St):List gv:=cI s.kind (s.left.map .inl) (s.right.map .inl) (s.blocks.map .inr)
def bd (stE:Int→Ex→Int) (stB:Int→List St→Int) (v:Int):gv→Int
  | .inl x=>stE v x
  | .inr b=>stB v b
def cL (erE:Ex→Int) (erB:List St→Int):gv→Int
  | .inl x=>erE x
  | .inr b=>erB b
theorem kC {stE:Int→Ex→Int} {stB:Int→List St→Int} (l:List Ex) (v:Int):(l.map Sum.inl).foldl (bd stE stB) v=l.foldl stE v:=by
  rw [List.foldl_map];rfl
theorem qO {stE:Int→Ex→Int} {stB:Int→List St→Int} (l:List (List St)) (v:Int):(l.map Sum.inr).foldl (bd stE stB) v=l.foldl stB v:=by
  rw [List.foldl_map];rfl
theorem qB {erE:Ex→Int} {erB:List St→Int} (l:List Ex):((l.map Sum.inl).map (cL erE erB))=l.map erE:=by rw [List.map_map];rfl
theorem uJ {erE:Ex→Int} {erB:List St→Int} (l:List (List St)):((l.map Sum.inr).map (cL erE erB))=l.map erB:=by rw [List.map_map];rfl
def fH (P:Int→Ex→Prop) (Q:Int→List St→Prop) (v:Int):gv→Prop
  | .inl x=>P v x
  | .inr b=>Q v b
theorem aX.inl {P:Int→Ex→Prop} {Q:Int→List St→Prop} {stE:Int→Ex→Int} {stB:Int→List St→Int}:∀ {l:List Ex} {v:Int},aX (fH P Q) (bd stE stB) v (l.map Sum.inl)→aX P stE v l
  | [],_,_=>trivial
  | x::r,v,h=>⟨h.1,aX.inl h.2⟩
theorem aX.inr {P:Int→Ex→Prop} {Q:Int→List St→Prop} {stE:Int→Ex→Int} {stB:Int→List St→Int}:∀ {l:List (List St)} {v:Int},aX (fH P Q) (bd stE stB) v (l.map Sum.inr)→aX Q stB v l
  | [],_,_=>trivial
  | x::r,v,h=>⟨h.1,aX.inr h.2⟩
theorem te {α:Type}:∀ (R B:List α) (k:Nat),aP (R.take (k+1)) (B.take (k+1))=aP (R.take k) (B.take k)++(R[k]?.toList++B[k]?.toList)
  | [],B,k=>by simp [aP,List.take_add_one]
  | a::r,[],k=>by
    have h:∀ l:List α,aP l []=l:=fun l=>by cases l <;> rfl
    simp only [List.take_nil,h,List.getElem?_nil,Option.toList_none,List.append_nil];exact List.take_add_one
  | a::r,b::s,0=>by simp [aP]
  | a::r,b::s,k+1=>by
    simp only [List.take_succ_cons,aP,List.getElem?_cons_succ,List.cons_append];rw [te r s k]
theorem gY {a b:Int} (h:a≠0):alt a b=a:=by unfold alt;rw [if_neg h]
theorem bW {a b:Int} (h:a=0):alt a b=b:=by unfold alt;rw [if_pos h]
section
variable {row:RS} {stE:Int→Ex→Int} {stB:Int→List St→Int} {erE:Ex→Int} {erB:List St→Int}
theorem qC (s:St):aB ((bj s).map (cL erE erB))=alt (aB (s.left.map erE)) (if s.kind=7 then alt (aB (s.blocks.map erB)) (aB (s.right.map erE)) else if s.kind=8 then aB ((aP (s.right.map Sum.inl) (s.blocks.map Sum.inr)).map (cL erE erB)) else alt (aB (s.right.map erE)) (aB (s.blocks.map erB))):=by
  unfold bj cI;rw [List.map_append,mZ,qB];congr 1;split
  · rw [List.map_append,mZ,qB,uJ]
  · split
    · rfl
    · rw [List.map_append,mZ,qB,uJ]
theorem so (s:St) (v:Int):(bj s).foldl (bd stE stB) v=if s.kind=7 then s.right.foldl stE (s.blocks.foldl stB (s.left.foldl stE v)) else if s.kind=8 then (aP (s.right.map Sum.inl) (s.blocks.map Sum.inr)).foldl (bd stE stB) (s.left.foldl stE v) else s.blocks.foldl stB (s.right.foldl stE (s.left.foldl stE v)):=by
  unfold bj cI;rw [List.foldl_append,kC];split
  · rw [List.foldl_append,kC,qO]
  · split
    · rfl
    · rw [List.foldl_append,kC,qO]
end
theorem zg {P:Prop} (h:P:=by
  have E1:=hI E1
  go_enter Tryz.func26,Tryz.ntmps26
  go_wp2_with (first|(go_at_call 37;have _t:=T1;(refine (HL.out _ HG0.out HB1.out HST.out).mono ?_);rintro e w1 h1;obtain rfl:=h1.no E1.out;have HH1:=hI h1.gr;clear h1;clear T1 _t))
  exact ⟨rfl,HH1.out.thru HG0.out,fun h9=>absurd h9 (by rw [HEP.out,gY E1.out];exact E1.out),fun _=>by rw [HEP.out,gY E1.out]⟩):P:=h
theorem I4 {P:Int→Ex→Prop} {Q:Int→List St→Prop} {row:RS} {stE:Int→Ex→Int} {stB:Int→List St→Int} {erE:Ex→Int} {erB:List St→Int} {fe fb:Nat} {fste cape fstb capb:Array Value}
    (hfe:∀ args w',(callFunc fe args).run Tryz.prog w'=.ok (.enter fe args) w') (hfb:∀ args w',(callFunc fb args).run Tryz.prog w'=.ok (.enter fb args) w')
    (s:St) (d:SA) (w:World) (v:Int) (hat:s.At (ct row) w d) (hst:bp row v w)
    (hE:∀ x,x ∈ s.left∨x ∈ s.right→iA P row stE erE fe fste cape w x) (hB:∀ x ∈ s.blocks,jd Q row stB erB fb fstb capb w x) (hk:s.kind=7) (hP:aX (fH P Q) (bd stE stB) v (bj s)) :
    Calls Tryz.prog 26 #[(sV s d),.func (.func fe) fste cape,.func (.func fb) fstb capb] w (dl row ((bj s).foldl (bd stE stB) v) (aB ((bj s).map (cL erE erB))) (.bool true) w):=by
  delta sV
  have hnr:∀ k o,w.heap.size≤k→j7 o→¬ row.R k o:=fun k o hk ho=>hst.lt hk ho;obtain ⟨-,⟨hl1,⟨hl2,-⟩,hl3,⟨hl4,hl4'⟩,hl5,⟨hl6,hl6'⟩,hl7,hl8,hl9⟩,-,hrl,hrr,hrb⟩:=St.at_iff.1 hat;have hg0:aw row w (((w.alloc (.cells #[.int .i64 s.kind,.int .i64 s.line,.slice d.na s.names.length d.nc,.slice d.la s.left.length d.lc,.slice d.ra s.right.length d.rc,.slice d.ba s.blocks.length d.bc,.string s.label] 64)).alloc (.cells #[.func (.func fe) fste cape] 55)).alloc (.cells #[.func (.func fb) fstb capb] 41)):=(((aw.refl row w).alloc _).alloc _).alloc _;have hb0:(((w.alloc (.cells #[.int .i64 s.kind,.int .i64 s.line,.slice d.na s.names.length d.nc,.slice d.la s.left.length d.lc,.slice d.ra s.right.length d.rc,.slice d.ba s.blocks.length d.bc,.string s.label] 64)).alloc (.cells #[.func (.func fe) fste cape] 55)).alloc (.cells #[.func (.func fb) fstb capb] 41)).heap[w.heap.size]?=some (.cells #[.int .i64 s.kind,.int .i64 s.line,.slice d.na s.names.length d.nc,.slice d.la s.left.length d.lc,.slice d.ra s.right.length d.rc,.slice d.ba s.blocks.length d.bc,.string s.label] 64):=bC (bC (aV rfl) _) _;have hb1:(((w.alloc (.cells #[.int .i64 s.kind,.int .i64 s.line,.slice d.na s.names.length d.nc,.slice d.la s.left.length d.lc,.slice d.ra s.right.length d.rc,.slice d.ba s.blocks.length d.bc,.string s.label] 64)).alloc (.cells #[.func (.func fe) fste cape] 55)).alloc (.cells #[.func (.func fb) fstb capb] 41)).heap[w.heap.size+1]?=some (.cells #[.func (.func fe) fste cape] 55):=bC (aV (by simp)) _;have hb2:(((w.alloc (.cells #[.int .i64 s.kind,.int .i64 s.line,.slice d.na s.names.length d.nc,.slice d.la s.left.length d.lc,.slice d.ra s.right.length d.rc,.slice d.ba s.blocks.length d.bc,.string s.label] 64)).alloc (.cells #[.func (.func fe) fste cape] 55)).alloc (.cells #[.func (.func fb) fstb capb] 41)).heap[w.heap.size+2]?=some (.cells #[.func (.func fb) fstb capb] 41):=aV (by simp)
  have EX:∀ (l:List Ex) (a:Option Addr) (c:Nat),(∀ x ∈ l,x ∈ s.left∨x ∈ s.right)→l.length≤c→l.length*104≤LM→aj (ct row) w 8 (fg (ct row) w) l a→∀ (w':World) (v':Int),aw row w w'→w'.heap[w.heap.size+1]?=some (.cells #[.func (.func fe) fste cape] 55)→bp row v' w'→aX P stE v' l →
      Calls Tryz.prog 37 #[.slice a l.length c,.pointer (some ⟨w.heap.size+1,0,none⟩)] w' (dl row (l.foldl stE v') (aB (l.map erE)) (.bool true) w') :=
    fun l a c hm q1 q2 q3 w' v' hg hbx hs hp=>qJ hfe l a c w' _ v' hbx (hnr _ _ (by omega) (frO _ _)) (fun x hx=>(hE x (hm x hx)).later hg) q1 q2 (q3.keep hg.keep (fun _ h=>h) (fun x cs _ ⟨d9,e9,h9⟩=>⟨d9,e9,h9.keep hg.keep (fun _ h=>h)⟩)) hs hp
  have BL:∀ (w':World) (v':Int),aw row w w'→w'.heap[w.heap.size+2]?=some (.cells #[.func (.func fb) fstb capb] 41)→bp row v' w'→aX Q stB v' s.blocks →
      Calls Tryz.prog 38 #[.slice d.ba s.blocks.length d.bc,.pointer (some ⟨w.heap.size+2,0,none⟩)] w' (dl row (s.blocks.foldl stB v') (aB (s.blocks.map erB)) (.bool true) w') :=
    fun w' v' hg hbx hs hp=>qi hfb s.blocks d.ba d.bc w' _ v' hbx (hnr _ _ (by omega) (frO _ _)) (fun x hx=>(hB x hx).later hg) hl7 hl9 (hrb.keep hg.keep (fun _ h=>h) (fun x cs _ ⟨a9,c9,e9,q9,h9⟩=>⟨a9,c9,e9,q9,St.Ats.keep hg.keep (fun _ h=>h) h9⟩)) hs hp
  unfold bj cI at hP;rw [if_pos hk,aX.app,aX.app,kC,qO] at hP;have hL0:=fun w' q4 q5 q6=>EX s.left d.la d.lc (fun x hx=>.inl hx) hl3 hl4' hrl w' v q4 q5 q6 hP.1.inl;have BL:=fun w' q4 q5 q6=>BL w' _ q4 q5 q6 hP.2.1.inr;have hR0:=fun w' q4 q5 q6=>EX s.right d.ra d.rc (fun x hx=>.inr hx) hl5 hl6' hrr w' _ q4 q5 q6 hP.2.2.inl;clear hP;have HNR:=hI hnr;have HG0:=hI hg0;have HB0:=hI hb0;have HB1:=hI hb1;have HB2:=hI hb2;have HST:=hI (((hst.below (aH (Below.refl _ _) (.cells #[.int .i64 s.kind,.int .i64 s.line,.slice d.na s.names.length d.nc,.slice d.la s.left.length d.lc,.slice d.ra s.right.length d.rc,.slice d.ba s.blocks.length d.bc,.string s.label] 64))).below (aH (Below.refl _ _) (.cells #[.func (.func fe) fste cape] 55))).below (aH (Below.refl _ _) (.cells #[.func (.func fb) fstb capb] 41)));have hep:=qC (erE:=erE) (erB:=erB) s;have hsp:=so (stE:=stE) (stB:=stB) s v;obtain ⟨v1,hv1⟩:∃ v1,v1=s.left.foldl stE v:=⟨_,rfl⟩
  obtain ⟨e1,he1⟩:∃ e1,e1=aB (s.left.map erE):=⟨_,rfl⟩
  obtain ⟨e2,he2⟩:∃ e2,e2=aB (s.right.map erE):=⟨_,rfl⟩
  obtain ⟨e3,he3⟩:∃ e3,e3=aB (s.blocks.map erB):=⟨_,rfl⟩
  obtain ⟨EP,hEP⟩:∃ EP,EP=aB ((bj s).map (cL erE erB)):=⟨_,rfl⟩
  obtain ⟨SP,hSP⟩:∃ SP,SP=(bj s).foldl (bd stE stB) v:=⟨_,rfl⟩
  rw [←hEP,←he1,←he2,←he3] at hep;rw [←hSP,←hv1] at hsp;simp only [←he1] at hL0;simp only [←he2] at hR0;simp only [←he3] at BL;have HL:=hI hL0;have HR:=hI hR0;have HBL:=hI BL;have HEP:=hI hep;have HSP:=hI hsp;have HV1:=hI hv1;rw [←hEP,←hSP];have g7:=kT 7 hk;rw [if_pos hk] at hep hsp;have HEP:=hI hep;have HSP:=hI hsp;clear hk EX BL hL0 hR0 hep hsp hv1 he1 he2 he3 hEP hSP hg0 hb0 hb1 hb2 hnr hrl hrr hrb hst hE hB hat hl1 hl2 hl3 hl4 hl4' hl5 hl6 hl6' hl7 hl8 hl9;have T1:True:=trivial;have T2:True:=trivial;have T3:True:=trivial;by_cases E1:e1=0
  · have E1:=hI E1;by_cases E3:e3=0
    · have E3:=hI E3;by_cases E2:e2=0
      · have E2:=hI E2
        go_enter Tryz.func26,Tryz.ntmps26
        go_wp2_with (first|(go_at_call 37;have _t:=T1;(refine (HL.out _ HG0.out HB1.out HST.out).mono ?_);rintro e w1 h1;obtain ⟨rfl,hs1⟩:=h1.ok E1.out;have HS1:=hI hs1;have HH1:=hI h1.gr;clear h1 hs1;have HG1:=hI (HH1.out.thru HG0.out);have HA1:=hI (HH1.out.box HB0.out (HNR.out _ _ (by omega) (frO _ _)));have HB1:=hI (HH1.out.box HB1.out (HNR.out _ _ (by omega) (frO _ _)));have HC1:=hI (HH1.out.box HB2.out (HNR.out _ _ (by omega) (frO _ _)));have kb1:=fun i=>au HA1.out i;have kf1:=bi HA1.out;have kz1:=aE HA1.out;clear T1 _t)|(go_at_call 38;have _t:=T3;(refine (HBL.out _ HG1.out HC1.out HS1.out).mono ?_);rintro e w2 h2;obtain ⟨rfl,hs2⟩:=h2.ok E3.out;have HS2:=hI hs2;have HH2:=hI h2.gr;clear h2 hs2;have HG2:=hI (HH2.out.thru HG1.out);have HA2:=hI (HH2.out.box HA1.out (HNR.out _ _ (by omega) (frO _ _)));have HB2:=hI (HH2.out.box HB1.out (HNR.out _ _ (by omega) (frO _ _)));have HC2:=hI (HH2.out.box HC1.out (HNR.out _ _ (by omega) (frO _ _)));have kb2:=fun i=>au HA2.out i;have kf2:=bi HA2.out;have kz2:=aE HA2.out;clear T3 _t)|(go_at_call 37;have _t:=T2;(refine (HR.out _ HG2.out HB2.out HS2.out).mono ?_);rintro e w3 h3;obtain ⟨rfl,hs3⟩:=h3.ok E2.out;have HS3:=hI hs3;have HH3:=hI h3.gr;clear h3 hs3;have HG3:=hI (HH3.out.thru HG2.out);have HA3:=hI (HH3.out.box HA2.out (HNR.out _ _ (by omega) (frO _ _)));have HB3:=hI (HH3.out.box HB2.out (HNR.out _ _ (by omega) (frO _ _)));have HC3:=hI (HH3.out.box HC2.out (HNR.out _ _ (by omega) (frO _ _)));have kb3:=fun i=>au HA3.out i;have kf3:=bi HA3.out;have kz3:=aE HA3.out;clear T2 _t))
        go_ret;exact ⟨HG3.out,fun _=>⟨rfl,by rw [HSP.out,HV1.out];exact HS3.out⟩,fun h9=>absurd (by rw [HEP.out,bW E1.out,bW E3.out];exact E2.out) h9⟩
      · have E2:=hI E2
        go_enter Tryz.func26,Tryz.ntmps26
        go_wp2_with (first|(go_at_call 37;have _t:=T1;(refine (HL.out _ HG0.out HB1.out HST.out).mono ?_);rintro e w1 h1;obtain ⟨rfl,hs1⟩:=h1.ok E1.out;have HS1:=hI hs1;have HH1:=hI h1.gr;clear h1 hs1;have HG1:=hI (HH1.out.thru HG0.out);have HA1:=hI (HH1.out.box HB0.out (HNR.out _ _ (by omega) (frO _ _)));have HB1:=hI (HH1.out.box HB1.out (HNR.out _ _ (by omega) (frO _ _)));have HC1:=hI (HH1.out.box HB2.out (HNR.out _ _ (by omega) (frO _ _)));have kb1:=fun i=>au HA1.out i;have kf1:=bi HA1.out;have kz1:=aE HA1.out;clear T1 _t)|(go_at_call 38;have _t:=T3;(refine (HBL.out _ HG1.out HC1.out HS1.out).mono ?_);rintro e w2 h2;obtain ⟨rfl,hs2⟩:=h2.ok E3.out;have HS2:=hI hs2;have HH2:=hI h2.gr;clear h2 hs2;have HG2:=hI (HH2.out.thru HG1.out);have HA2:=hI (HH2.out.box HA1.out (HNR.out _ _ (by omega) (frO _ _)));have HB2:=hI (HH2.out.box HB1.out (HNR.out _ _ (by omega) (frO _ _)));have HC2:=hI (HH2.out.box HC1.out (HNR.out _ _ (by omega) (frO _ _)));have kb2:=fun i=>au HA2.out i;have kf2:=bi HA2.out;have kz2:=aE HA2.out;clear T3 _t)|(go_at_call 37;have _t:=T2;(refine (HR.out _ HG2.out HB2.out HS2.out).mono ?_);rintro e w3 h3;obtain rfl:=h3.no E2.out;have HH3:=hI h3.gr;clear h3;clear T2 _t))
        exact ⟨rfl,HH3.out.thru HG2.out,fun h9=>absurd h9 (by rw [HEP.out,bW E1.out,bW E3.out];exact E2.out),fun _=>by rw [HEP.out,bW E1.out,bW E3.out]⟩
    · have E3:=hI E3
      go_enter Tryz.func26,Tryz.ntmps26
      go_wp2_with (first|(go_at_call 37;have _t:=T1;(refine (HL.out _ HG0.out HB1.out HST.out).mono ?_);rintro e w1 h1;obtain ⟨rfl,hs1⟩:=h1.ok E1.out;have HS1:=hI hs1;have HH1:=hI h1.gr;clear h1 hs1;have HG1:=hI (HH1.out.thru HG0.out);have HA1:=hI (HH1.out.box HB0.out (HNR.out _ _ (by omega) (frO _ _)));have HB1:=hI (HH1.out.box HB1.out (HNR.out _ _ (by omega) (frO _ _)));have HC1:=hI (HH1.out.box HB2.out (HNR.out _ _ (by omega) (frO _ _)));have kb1:=fun i=>au HA1.out i;have kf1:=bi HA1.out;have kz1:=aE HA1.out;clear T1 _t)|(go_at_call 38;have _t:=T3;(refine (HBL.out _ HG1.out HC1.out HS1.out).mono ?_);rintro e w2 h2;obtain rfl:=h2.no E3.out;have HH2:=hI h2.gr;clear h2;clear T3 _t))
      exact ⟨rfl,HH2.out.thru HG1.out,fun h9=>absurd h9 (by rw [HEP.out,bW E1.out,gY E3.out];exact E3.out),fun _=>by rw [HEP.out,bW E1.out,gY E3.out]⟩
  · exact zg
theorem I3 {P:Int→Ex→Prop} {Q:Int→List St→Prop} {row:RS} {stE:Int→Ex→Int} {stB:Int→List St→Int} {erE:Ex→Int} {erB:List St→Int} {fe fb:Nat} {fste cape fstb capb:Array Value}
    (hfe:∀ args w',(callFunc fe args).run Tryz.prog w'=.ok (.enter fe args) w') (hfb:∀ args w',(callFunc fb args).run Tryz.prog w'=.ok (.enter fb args) w')
    (s:St) (d:SA) (w:World) (v:Int) (hat:s.At (ct row) w d) (hst:bp row v w)
    (hE:∀ x,x ∈ s.left∨x ∈ s.right→iA P row stE erE fe fste cape w x) (hB:∀ x ∈ s.blocks,jd Q row stB erB fb fstb capb w x) (hk7:s.kind≠7) (hk8:s.kind≠8) (hP:aX (fH P Q) (bd stE stB) v (bj s)) :
    Calls Tryz.prog 26 #[(sV s d),.func (.func fe) fste cape,.func (.func fb) fstb capb] w (dl row ((bj s).foldl (bd stE stB) v) (aB ((bj s).map (cL erE erB))) (.bool true) w):=by
  delta sV
  have hnr:∀ k o,w.heap.size≤k→j7 o→¬ row.R k o:=fun k o hk ho=>hst.lt hk ho;obtain ⟨-,⟨hl1,⟨hl2,-⟩,hl3,⟨hl4,hl4'⟩,hl5,⟨hl6,hl6'⟩,hl7,hl8,hl9⟩,-,hrl,hrr,hrb⟩:=St.at_iff.1 hat;have hg0:aw row w (((w.alloc (.cells #[.int .i64 s.kind,.int .i64 s.line,.slice d.na s.names.length d.nc,.slice d.la s.left.length d.lc,.slice d.ra s.right.length d.rc,.slice d.ba s.blocks.length d.bc,.string s.label] 64)).alloc (.cells #[.func (.func fe) fste cape] 55)).alloc (.cells #[.func (.func fb) fstb capb] 41)):=(((aw.refl row w).alloc _).alloc _).alloc _;have hb0:(((w.alloc (.cells #[.int .i64 s.kind,.int .i64 s.line,.slice d.na s.names.length d.nc,.slice d.la s.left.length d.lc,.slice d.ra s.right.length d.rc,.slice d.ba s.blocks.length d.bc,.string s.label] 64)).alloc (.cells #[.func (.func fe) fste cape] 55)).alloc (.cells #[.func (.func fb) fstb capb] 41)).heap[w.heap.size]?=some (.cells #[.int .i64 s.kind,.int .i64 s.line,.slice d.na s.names.length d.nc,.slice d.la s.left.length d.lc,.slice d.ra s.right.length d.rc,.slice d.ba s.blocks.length d.bc,.string s.label] 64):=bC (bC (aV rfl) _) _;have hb1:(((w.alloc (.cells #[.int .i64 s.kind,.int .i64 s.line,.slice d.na s.names.length d.nc,.slice d.la s.left.length d.lc,.slice d.ra s.right.length d.rc,.slice d.ba s.blocks.length d.bc,.string s.label] 64)).alloc (.cells #[.func (.func fe) fste cape] 55)).alloc (.cells #[.func (.func fb) fstb capb] 41)).heap[w.heap.size+1]?=some (.cells #[.func (.func fe) fste cape] 55):=bC (aV (by simp)) _;have hb2:(((w.alloc (.cells #[.int .i64 s.kind,.int .i64 s.line,.slice d.na s.names.length d.nc,.slice d.la s.left.length d.lc,.slice d.ra s.right.length d.rc,.slice d.ba s.blocks.length d.bc,.string s.label] 64)).alloc (.cells #[.func (.func fe) fste cape] 55)).alloc (.cells #[.func (.func fb) fstb capb] 41)).heap[w.heap.size+2]?=some (.cells #[.func (.func fb) fstb capb] 41):=aV (by simp)
  have EX:∀ (l:List Ex) (a:Option Addr) (c:Nat),(∀ x ∈ l,x ∈ s.left∨x ∈ s.right)→l.length≤c→l.length*104≤LM→aj (ct row) w 8 (fg (ct row) w) l a→∀ (w':World) (v':Int),aw row w w'→w'.heap[w.heap.size+1]?=some (.cells #[.func (.func fe) fste cape] 55)→bp row v' w'→aX P stE v' l →
      Calls Tryz.prog 37 #[.slice a l.length c,.pointer (some ⟨w.heap.size+1,0,none⟩)] w' (dl row (l.foldl stE v') (aB (l.map erE)) (.bool true) w') :=
    fun l a c hm q1 q2 q3 w' v' hg hbx hs hp=>qJ hfe l a c w' _ v' hbx (hnr _ _ (by omega) (frO _ _)) (fun x hx=>(hE x (hm x hx)).later hg) q1 q2 (q3.keep hg.keep (fun _ h=>h) (fun x cs _ ⟨d9,e9,h9⟩=>⟨d9,e9,h9.keep hg.keep (fun _ h=>h)⟩)) hs hp
  have BL:∀ (w':World) (v':Int),aw row w w'→w'.heap[w.heap.size+2]?=some (.cells #[.func (.func fb) fstb capb] 41)→bp row v' w'→aX Q stB v' s.blocks →
      Calls Tryz.prog 38 #[.slice d.ba s.blocks.length d.bc,.pointer (some ⟨w.heap.size+2,0,none⟩)] w' (dl row (s.blocks.foldl stB v') (aB (s.blocks.map erB)) (.bool true) w') :=
    fun w' v' hg hbx hs hp=>qi hfb s.blocks d.ba d.bc w' _ v' hbx (hnr _ _ (by omega) (frO _ _)) (fun x hx=>(hB x hx).later hg) hl7 hl9 (hrb.keep hg.keep (fun _ h=>h) (fun x cs _ ⟨a9,c9,e9,q9,h9⟩=>⟨a9,c9,e9,q9,St.Ats.keep hg.keep (fun _ h=>h) h9⟩)) hs hp
  unfold bj cI at hP;rw [if_neg hk7,if_neg hk8,aX.app,aX.app,kC,kC] at hP;have hL0:=fun w' q4 q5 q6=>EX s.left d.la d.lc (fun x hx=>.inl hx) hl3 hl4' hrl w' v q4 q5 q6 hP.1.inl;have hR0:=fun w' q4 q5 q6=>EX s.right d.ra d.rc (fun x hx=>.inr hx) hl5 hl6' hrr w' _ q4 q5 q6 hP.2.1.inl;have BL:=fun w' q4 q5 q6=>BL w' _ q4 q5 q6 hP.2.2.inr;clear hP;have HNR:=hI hnr;have HG0:=hI hg0;have HB0:=hI hb0;have HB1:=hI hb1;have HB2:=hI hb2;have HST:=hI (((hst.below (aH (Below.refl _ _) (.cells #[.int .i64 s.kind,.int .i64 s.line,.slice d.na s.names.length d.nc,.slice d.la s.left.length d.lc,.slice d.ra s.right.length d.rc,.slice d.ba s.blocks.length d.bc,.string s.label] 64))).below (aH (Below.refl _ _) (.cells #[.func (.func fe) fste cape] 55))).below (aH (Below.refl _ _) (.cells #[.func (.func fb) fstb capb] 41)));have hep:=qC (erE:=erE) (erB:=erB) s;have hsp:=so (stE:=stE) (stB:=stB) s v;obtain ⟨v1,hv1⟩:∃ v1,v1=s.left.foldl stE v:=⟨_,rfl⟩
  obtain ⟨e1,he1⟩:∃ e1,e1=aB (s.left.map erE):=⟨_,rfl⟩
  obtain ⟨e2,he2⟩:∃ e2,e2=aB (s.right.map erE):=⟨_,rfl⟩
  obtain ⟨e3,he3⟩:∃ e3,e3=aB (s.blocks.map erB):=⟨_,rfl⟩
  obtain ⟨EP,hEP⟩:∃ EP,EP=aB ((bj s).map (cL erE erB)):=⟨_,rfl⟩
  obtain ⟨SP,hSP⟩:∃ SP,SP=(bj s).foldl (bd stE stB) v:=⟨_,rfl⟩
  rw [←hEP,←he1,←he2,←he3] at hep;rw [←hSP,←hv1] at hsp;simp only [←he1] at hL0;simp only [←he2] at hR0;simp only [←he3] at BL;have HL:=hI hL0;have HR:=hI hR0;have HBL:=hI BL;have HEP:=hI hep;have HSP:=hI hsp;have HV1:=hI hv1;rw [←hEP,←hSP];have g7:(s.kind==7)=false:=by simp [hk7]
  have g8:(s.kind==8)=false:=by simp [hk8]
  rw [if_neg hk7,if_neg hk8] at hep hsp;have HEP:=hI hep;have HSP:=hI hsp;clear hk7 hk8 EX BL hL0 hR0 hep hsp hv1 he1 he2 he3 hEP hSP hg0 hb0 hb1 hb2 hnr hrl hrr hrb hst hE hB hat hl1 hl2 hl3 hl4 hl4' hl5 hl6 hl6' hl7 hl8 hl9;have T1:True:=trivial;have T2:True:=trivial;have T3:True:=trivial;by_cases E1:e1=0
  · have E1:=hI E1;by_cases E2:e2=0
    · have E2:=hI E2;by_cases E3:e3=0
      · have E3:=hI E3
        go_enter Tryz.func26,Tryz.ntmps26
        go_wp2_with (first|(go_at_call 37;have _t:=T1;(refine (HL.out _ HG0.out HB1.out HST.out).mono ?_);rintro e w1 h1;obtain ⟨rfl,hs1⟩:=h1.ok E1.out;have HS1:=hI hs1;have HH1:=hI h1.gr;clear h1 hs1;have HG1:=hI (HH1.out.thru HG0.out);have HA1:=hI (HH1.out.box HB0.out (HNR.out _ _ (by omega) (frO _ _)));have HB1:=hI (HH1.out.box HB1.out (HNR.out _ _ (by omega) (frO _ _)));have HC1:=hI (HH1.out.box HB2.out (HNR.out _ _ (by omega) (frO _ _)));have kb1:=fun i=>au HA1.out i;have kf1:=bi HA1.out;have kz1:=aE HA1.out;clear T1 _t)|(go_at_call 37;have _t:=T2;(refine (HR.out _ HG1.out HB1.out HS1.out).mono ?_);rintro e w2 h2;obtain ⟨rfl,hs2⟩:=h2.ok E2.out;have HS2:=hI hs2;have HH2:=hI h2.gr;clear h2 hs2;have HG2:=hI (HH2.out.thru HG1.out);have HA2:=hI (HH2.out.box HA1.out (HNR.out _ _ (by omega) (frO _ _)));have HB2:=hI (HH2.out.box HB1.out (HNR.out _ _ (by omega) (frO _ _)));have HC2:=hI (HH2.out.box HC1.out (HNR.out _ _ (by omega) (frO _ _)));have kb2:=fun i=>au HA2.out i;have kf2:=bi HA2.out;have kz2:=aE HA2.out;clear T2 _t)|(go_at_call 38;have _t:=T3;(refine (HBL.out _ HG2.out HC2.out HS2.out).mono ?_);rintro e w3 h3;obtain ⟨rfl,hs3⟩:=h3.ok E3.out;have HS3:=hI hs3;have HH3:=hI h3.gr;clear h3 hs3;have HG3:=hI (HH3.out.thru HG2.out);have HA3:=hI (HH3.out.box HA2.out (HNR.out _ _ (by omega) (frO _ _)));have HB3:=hI (HH3.out.box HB2.out (HNR.out _ _ (by omega) (frO _ _)));have HC3:=hI (HH3.out.box HC2.out (HNR.out _ _ (by omega) (frO _ _)));have kb3:=fun i=>au HA3.out i;have kf3:=bi HA3.out;have kz3:=aE HA3.out;clear T3 _t))
        go_ret;exact ⟨HG3.out,fun _=>⟨rfl,by rw [HSP.out,HV1.out];exact HS3.out⟩,fun h9=>absurd (by rw [HEP.out,bW E1.out,bW E2.out];exact E3.out) h9⟩
      · have E3:=hI E3
        go_enter Tryz.func26,Tryz.ntmps26
        go_wp2_with (first|(go_at_call 37;have _t:=T1;(refine (HL.out _ HG0.out HB1.out HST.out).mono ?_);rintro e w1 h1;obtain ⟨rfl,hs1⟩:=h1.ok E1.out;have HS1:=hI hs1;have HH1:=hI h1.gr;clear h1 hs1;have HG1:=hI (HH1.out.thru HG0.out);have HA1:=hI (HH1.out.box HB0.out (HNR.out _ _ (by omega) (frO _ _)));have HB1:=hI (HH1.out.box HB1.out (HNR.out _ _ (by omega) (frO _ _)));have HC1:=hI (HH1.out.box HB2.out (HNR.out _ _ (by omega) (frO _ _)));have kb1:=fun i=>au HA1.out i;have kf1:=bi HA1.out;have kz1:=aE HA1.out;clear T1 _t)|(go_at_call 37;have _t:=T2;(refine (HR.out _ HG1.out HB1.out HS1.out).mono ?_);rintro e w2 h2;obtain ⟨rfl,hs2⟩:=h2.ok E2.out;have HS2:=hI hs2;have HH2:=hI h2.gr;clear h2 hs2;have HG2:=hI (HH2.out.thru HG1.out);have HA2:=hI (HH2.out.box HA1.out (HNR.out _ _ (by omega) (frO _ _)));have HB2:=hI (HH2.out.box HB1.out (HNR.out _ _ (by omega) (frO _ _)));have HC2:=hI (HH2.out.box HC1.out (HNR.out _ _ (by omega) (frO _ _)));have kb2:=fun i=>au HA2.out i;have kf2:=bi HA2.out;have kz2:=aE HA2.out;clear T2 _t)|(go_at_call 38;have _t:=T3;(refine (HBL.out _ HG2.out HC2.out HS2.out).mono ?_);rintro e w3 h3;obtain rfl:=h3.no E3.out;have HH3:=hI h3.gr;clear h3;clear T3 _t))
        exact ⟨rfl,HH3.out.thru HG2.out,fun h9=>absurd h9 (by rw [HEP.out,bW E1.out,bW E2.out];exact E3.out),fun _=>by rw [HEP.out,bW E1.out,bW E2.out]⟩
    · have E2:=hI E2
      go_enter Tryz.func26,Tryz.ntmps26
      go_wp2_with (first|(go_at_call 37;have _t:=T1;(refine (HL.out _ HG0.out HB1.out HST.out).mono ?_);rintro e w1 h1;obtain ⟨rfl,hs1⟩:=h1.ok E1.out;have HS1:=hI hs1;have HH1:=hI h1.gr;clear h1 hs1;have HG1:=hI (HH1.out.thru HG0.out);have HA1:=hI (HH1.out.box HB0.out (HNR.out _ _ (by omega) (frO _ _)));have HB1:=hI (HH1.out.box HB1.out (HNR.out _ _ (by omega) (frO _ _)));have HC1:=hI (HH1.out.box HB2.out (HNR.out _ _ (by omega) (frO _ _)));have kb1:=fun i=>au HA1.out i;have kf1:=bi HA1.out;have kz1:=aE HA1.out;clear T1 _t)|(go_at_call 37;have _t:=T2;(refine (HR.out _ HG1.out HB1.out HS1.out).mono ?_);rintro e w2 h2;obtain rfl:=h2.no E2.out;have HH2:=hI h2.gr;clear h2;clear T2 _t))
      exact ⟨rfl,HH2.out.thru HG1.out,fun h9=>absurd h9 (by rw [HEP.out,bW E1.out,gY E2.out];exact E2.out),fun _=>by rw [HEP.out,bW E1.out,gY E2.out]⟩
  · exact zg
