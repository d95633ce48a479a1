import Derived.Test.YtgncgcfnlbfahaaGreatDoor46
import Derived.Shelf.Strings.SlTrimAscii
import Derived.Lib.AppendIntMem
import Derived.Test.YtgncgcfnlbfahaaGreatDoor13
import Derived.Test.YtgncgcfnlbfahaaGreatDoorCN
set_option linter.all false
namespace Go.Proofs.YtgncgcfnlbfahaaGreatDoor
open Go.RowKit
abbrev ez(w:World):Prop:=Lib.TabIs Tryz.prog w "strings.asciiSpace" .u8 Lib.asciiSpaceTab
theorem ez.below{w w':World}(h:ez w)(hb:Below w.heap.size w w'):ez w':=Lib.tabBelow_of_tabIs h w' hb
def qZ:List UInt8:=[46,46,46,32,47,47,32,60,60,32,62,62,32,61,61,32,126,61,32,60,61,32,62,61,32,58,58,32,46,46,32,43,32,45,32,42,32,47,32,37,32,94,32,35,32,38,32,124,32,126,32,60,32,62,32,61,32,40,32,41,32,123,32,125,32,91,32,93,32,59,32,58,32,44,32,46]
def xF:List (List UInt8):=[[46,46,46],[47,47],[60,60],[62,62],[61,61],[126,61],[60,61],[62,61],[58,58],[46,46],[43],[45],[42],[47],[37],[94],[35],[38],[124],[126],[60],[62],[61],[40],[41],[123],[125],[91],[93],[59],[58],[44],[46]]
theorem Ie:Lib.fields qZ=xF:=by decide +kernel
def lC:Array Value:=(xF.map fun l=>Value.string ⟨l.toArray⟩).toArray
theorem Id:lC.toList.all eY=true:=by kernel_rfl
noncomputable def ls:cI:=fun f args H =>
 if f=230 then(match args.toList with
  |[.string s,.int .u8 c]=>some (.int .i64 (Lib.indexByte s.data.toList c.toNat.toUInt8),H)
  |_=>none)
 else if f=146 then(match args.toList with
  |[.string s,.string p]=>some (.bool (Lib.hasPrefix s.data.toList p.data.toList),H)
  |_=>none)
 else if f=238 then(match args.toList with
  |[.string s,.string p]=>some (.tuple #[.string ⟨(Lib.trimPrefix s.data.toList p.data.toList).toArray⟩,.bool (Lib.hasPrefix s.data.toList p.data.toList)],H)
  |_=>none)
 else if f=253 then(match args.toList with
  |[.string s,.string p]=>if s.data.toList.length≤65536∧jc p.data.toList [32,9,10,13]=true then some (.string ⟨(Lib.trimS s.data.toList [32,9,10,13]).toArray⟩,H)else none
  |_=>none)
 else if f=196 then(match args.toList with
  |[.string s]=>if jc s.data.toList qZ=true then some (.slice (some ⟨gV H 0,0,none⟩) 33 33,pushF H (.row lC 9 1 33 false))else none
  |_=>none)
 else none
section
variable{f:Rn}{H:List ar}{B:Nat}{w w':World}
theorem du.below(hw:WR f (H[·]?) B w)(hb:Below w.heap.size w w'):du B f f H H w w':=
 ⟨⟨fun i b c h=>⟨(hw.lk i b c h).1,I4 (hw.lk i b c h).2 hb.size⟩,fun i b c o h1 h2=>(hw.obj i b c o h1 h2).mono (.refl f) (hb.block b (hw.lk i b c h1).2),hw.inj⟩,.refl ..,⟨hb.os,hb.tape,hb.output,hb.size,fun b h _=>hb.block b h⟩,I6 _⟩
theorem kw{xs ys:Array Value}(h:LR f xs ys){l:List Value}(hl:xs.toList=l)(hf:l.all gw=true):ys=l.toArray:=by
 have e:ys=xs:=o6 h.1 fun i x y hx hy=>(h.2 i x y hx hy).flat_eq (List.all_eq_true.1 hf x (by rw[←hl];exact Array.mem_toList_iff.2 (Array.mem_of_getElem? hx)));rw[e,←hl]
theorem ET{w0:World}(hT:ez w0):dT Tryz.prog w0.heap.size (Below w0.heap.size w0) ls:=by
 intro fn args H v H' h;have hSp:∀{w},Below w0.heap.size w0 w→ez w:=fun hb=>hT.below hb;unfold ls at h;simp only[lu,qu]at h;split at h
 ·rename_i hfn;subst hfn;split at h
  ·rename_i s c hl;cases h;refine⟨I6 _,fun f args' w ha hw hB hI hfr=>?_⟩;rw[kw ha hl rfl];refine(Tryz.strings_IndexByte s c w).mono ?_;rintro e w' ⟨rfl,rfl⟩;exact⟨_,f,rfl,.of_flat rfl,.refl hw⟩
  ·cases h
 split at h
 ·rename_i hfn;subst hfn;split at h
  ·rename_i s p hl;cases h;refine⟨I6 _,fun f args' w ha hw hB hI hfr=>?_⟩;rw[kw ha hl rfl];refine(Tryz.strings_HasPrefix s p w).mono ?_;rintro e w' ⟨rfl,rfl⟩;exact⟨_,f,rfl,.of_flat rfl,.refl hw⟩
  ·cases h
 split at h
 ·rename_i hfn;subst hfn;split at h
  ·rename_i s p hl;cases h;refine⟨I6 _,fun f args' w ha hw hB hI hfr=>?_⟩;rw[kw ha hl rfl];refine(Tryz.strings_CutPrefix s p w).mono ?_;rintro e w' ⟨rfl,rfl⟩;exact⟨_,f,rfl,.of_flat rfl,.refl hw⟩
  ·cases h
 split at h
 ·rename_i hfn;subst hfn;split at h
  ·rename_i s p hl;split at h
   ·rename_i hc;cases h;refine⟨I6 _,fun f args' w ha hw hB hI hfr=>?_⟩;rw[kw ha hl rfl]
    have hp:p=⟨#[32,9,10,13]⟩:=by
     have:=hc.2;rw[kQ]at this;obtain⟨⟨l⟩⟩:=p;simp at this;rw[this]
    subst hp;refine(Any.strings_Trim_laid Tryz.lays160 (by kernel_rfl) s ⟨#[32,9,10,13]⟩ w (by have h9:=hc.1;have:=Lib.size_eq s;omega) (by decide) (ascii_of_all (by decide))).mono ?_;rintro e w' ⟨rfl,hb⟩;exact⟨_,f,rfl,.of_flat rfl,.below hw hb⟩
   ·cases h
  ·cases h
 split at h
 ·rename_i hfn;subst hfn;split at h
  ·rename_i s hl;split at h
   ·rename_i hc;cases h;refine⟨by simp,fun f args' w ha hw hB hI hfr=>?_⟩;rw[kw ha hl rfl]
    have hs:s.data.toList=qZ:=by
     rw[kQ]at hc;simpa using hc
    have hF:=Tryz.strings_Fields s w (by rw[Lib.size_eq,hs];decide) (by rw[hs];exact ascii_of_all (by decide)) (hSp hI);rw[hs,Ie]at hF;refine hF.mono ?_;rintro e w' ⟨rfl,rfl⟩;have hg:w.grownBy (w.alloc (.cells lC 9)) none:=World.grownBy_alloc w _ none
    obtain⟨k1,k2⟩:=WR.new (k:=H.length) (h':=fun i=>(H++[.row lC 9 1 33 false])[i]?) (b:=w.heap.size) (c:=33) (o:=.row lC 9 1 33 false) hw (hfr _ (I6 _) (by simp)) (by simp) (fun i hi _=>jD hi) hg (I6 _) (by simp) hB
     ⟨fun j x hx=>⟨x,by rw[World.cell?_alloc_new];exact hx,.of_atom (jB Id hx)⟩,⟨by kernel_rfl,I6 _,by decide⟩,fun h=>by cases h⟩
    exact⟨_,_,rfl,.slice 33 (by unfold cm;exact if_pos rfl),k1,by rw[List.length_append];exact k2,.of_grown hg,by simp⟩
   ·cases h
  ·cases h
 ·cases h
theorem zH:Tryz.prog.follows .mixedOrders=true:=by kernel_rfl
theorem xd{w0:World}(hT:ez w0)(n:Nat):dT Tryz.prog w0.heap.size (Below w0.heap.size w0) (gK Tryz.prog ls n):=
 B6 zH (fun w w' h1 h2=>h1.trans h2) (ET hT) n
end
def wM(cs:Array Value)(n:Nat):List ar:=[.row cs 180 4 n false,.box #[.slice (some ⟨0,0,none⟩) n n,.int .i64 0] 140,.box #[.slice none 0 0] 22]
noncomputable def wP(H:List ar)(n:Nat)(t:List St):Bool:=match(H[1]?:Option ar),(H[2]?:Option ar)with
 |some (.box c1 _),some (.box c2 _)=>(match c1.toList,c2.toList with
  |[_,.int .i64 a],[v]=>a==(n:Int)&&fF H 7 t.length v (St.isL H t)
  |_,_=>false)
 |_,_=>false
noncomputable def jY(cs:Array Value)(n:Nat)(t:List St)(N:Nat):Bool:=
 cs.toList.all eY&&cs.toList.length==n*4&&decide (n≤65536)&&(match gK Tryz.prog ls N 42 #[.pointer (some ⟨1,0,none⟩),.pointer (some ⟨2,0,none⟩)] (wM cs n)with
  |some (.tuple vs,H)=>vs.toList.isEmpty&&wP H n t
  |_=>false)
noncomputable def f9(s:ByteArray)(t:List St)(N:Nat):Bool:=match gK Tryz.prog ls N 57 #[.string s] []with
 |some (.tuple vs,H)=>(match vs.toList with
  |[.slice (some ⟨k,0,none⟩) n _,.int .i64 0,.int .i64 0]=>(match H[k]? with
   |some (.row cs _ _ m _)=>m==n&&jY cs n t N
   |_=>false)
  |_=>false)
 |_=>false
theorem Fq{s:ByteArray}{t:List St}{N:Nat}(h:f9 s t N=true):∃cs n,jY cs n t N=true∧∀w0,ez w0→∀w,Below w0.heap.size w0 w→Calls Tryz.prog 57 #[.string s] w fun e w' =>
  Below w.heap.size w w'∧∃b c,e=.returned (.tuple #[.slice (some ⟨b,0,none⟩) n c,.int .i64 0,.int .i64 0])∧w.heap.size≤b∧b<w'.heap.size∧n≤c∧c≤maxLen∧∀(j:Nat) (x:Value),cs[j]?=some x→w'.cell? ⟨b,j,none⟩=some x:=by
 unfold f9 at h;split at h<;>try(cases h;done)
 rename_i vs H hev;split at h<;>try(cases h;done)
 rename_i k n c0 hvs;split at h<;>try(cases h;done)
 rename_i cs ty sz m b hH;rw[Bool.and_eq_true,beq_iff_eq]at h;obtain⟨rfl,h⟩:=h;refine⟨cs,m,h,fun w0 hT w hB=>?_⟩;unfold jY at h;simp only[Bool.and_eq_true]at h;have hat:=h.1.1.1;obtain⟨-,hc⟩:=xd hT N _ _ _ _ _ hev;refine(hc (fun _=>none) #[.string s] w (.of_atoms rfl) ⟨fun i b c h=>(by cases h),fun i b c o h=>(by cases h),fun i j b c d o p _ h=>(by cases h)⟩ hB.size hB (fun _ _ _=>rfl)).mono ?_;rintro e w' ⟨v',g,rfl,hv,hS⟩;refine⟨⟨hS.fm.os,hS.fm.tape,hS.fm.output,hS.fm.size,fun k hk=>hS.fm.block k hk (fun i c h=>by cases h)⟩,?_⟩;cases hv with
 |tuple hn hl =>
  rename_i ys;have hvs':vs=#[.slice (some ⟨k,0,none⟩) m c0,.int .i64 0,.int .i64 0]:=by rw[←Array.toArray_toList (xs:=vs),hvs]
  subst hvs';obtain⟨y0,e0,v0⟩:=LR.get ⟨hn,hl⟩ (i:=0) rfl;obtain⟨y1,e1,v1⟩:=LR.get ⟨hn,hl⟩ (i:=1) rfl;obtain⟨y2,e2,v2⟩:=LR.get ⟨hn,hl⟩ (i:=2) rfl;rw[v1.flat_eq rfl]at e1;rw[v2.flat_eq rfl]at e2;cases v0 with
  |slice _ hf =>
  rename_i b' c'
  have hys:ys=#[.slice (some ⟨b',0,none⟩) c0 c',.int .i64 0,.int .i64 0]:=by
   apply Array.ext (by simpa using hn);intro i h1 h2;have hi:i<3:=by simpa using h2
   match i,hi with
   |0,_=>rw[Array.getElem?_eq_getElem h1]at e0;simpa using e0
   |1,_=>rw[Array.getElem?_eq_getElem h1]at e1;simpa using e1
   |2,_=>rw[Array.getElem?_eq_getElem h1]at e2;simpa using e2
  obtain⟨o1,⟨-,o3,o4⟩,-⟩:=hS.wr.obj k b' c' _ hf hH;refine⟨b',c',by rw[hys],?_,(hS.wr.lk k b' c' hf).2,o3,o4,fun j x hx=>?_⟩
  ·rcases hS.rx.new k _ hf with h9|⟨-,-,h9|⟨i0,c9,h9,-⟩⟩
   ·cases h9
   ·exact h9
   ·cases h9
  ·obtain⟨y,q1,q2⟩:=o1 j x hx;rw[q2.atom_eq (jB hat hx)]at q1;exact q1
structure jx(p q r:Nat)(w w':World):Prop where
 os:w'.os=w.os
 tape:w'.tape=w.tape
 output:w'.output=w.output
 size:w.heap.size≤w'.heap.size
 block:∀k,k<w.heap.size→k≠p→k≠q→k≠r→w'.heap[k]?=w.heap[k]?
def jw(F:Nat→Prop)(bb:Nat)(t:List St)(w:World):Prop:=∃a c,w.cell? ⟨bb,0,none⟩=some (.slice a t.length c)∧t.length≤c∧c≤MX∧t.length*128≤LM∧St.Ats F w t a
theorem A0{w0 W:World}(hT:ez w0)(hB:Below w0.heap.size w0 W){cs:Array Value}{n N:Nat}{t:List St}(hp:jY cs n t N=true){tb c p bb:Nat}(h1:w0.heap.size≤tb)(h2:tb<W.heap.size)(h3:w0.heap.size≤p)(h5:w0.heap.size≤bb)(ne1:p≠tb)(ne2:bb≠tb)(ne3:p≠bb)(hc:n≤c)(hc2:c≤maxLen)(hrow:∀(j:Nat) (x:Value),cs[j]?=some x→W.cell? ⟨tb,j,none⟩=some x)(hpx:W.heap[p]?=some (.cells #[.slice (some ⟨tb,0,none⟩) n c,.int .i64 0] 140))(hbx:W.heap[bb]?=some (.cells #[.slice none 0 0] 22))(F:Nat→Prop)(hF1:F tb)(hF2:F p)(hF3:F bb)(hF:∀k,W.heap.size≤k→F k):Calls Tryz.prog 42 #[.pointer (some ⟨p,0,none⟩),.pointer (some ⟨bb,0,none⟩)] W fun e W'=>e=.returned (.tuple #[])∧W'.cell? ⟨p,1,none⟩=some (.int .i64 n)∧jw F bb t W'∧jx p bb tb W W':=by
 unfold jY at hp;simp only[Bool.and_eq_true,beq_iff_eq]at hp;obtain⟨⟨⟨q1,q2⟩,q3⟩,q4⟩:=hp;split at q4<;>try(cases q4;done)
 rename_i vs H hev;rw[Bool.and_eq_true]at q4;obtain⟨q4,q5⟩:=q4
 have hvs:vs=#[]:=by
  have:=List.isEmpty_iff.1 q4;rw[←Array.toArray_toList (xs:=vs),this]
 subst hvs;obtain⟨f,hf⟩:=nM (fun i=>match i with|0=>some (tb,c)|1=>some (p,0)|2=>some (bb,0)|_=>none:Rn)
 have f0:f 0=some (tb,c):=by subst hf;rfl
 have f1:f 1=some (p,0):=by subst hf;rfl
 have f2:f 2=some (bb,0):=by subst hf;rfl
 have fc:∀i v,f i=some v→(i=0∧v=(tb,c))∨(i=1∧v=(p,0))∨(i=2∧v=(bb,0)):=fun i v h=>by
  match i with
  |0=>rw[f0]at h;cases h;exact .inl ⟨rfl,rfl⟩
  |1=>rw[f1]at h;cases h;exact .inr (.inl ⟨rfl,rfl⟩)
  |2=>rw[f2]at h;cases h;exact .inr (.inr ⟨rfl,rfl⟩)
  |i+3=>subst hf;cases h
 have hw:WR f ((wM cs n)[·]?) w0.heap.size W:=by
  refine⟨fun i b d h=>?_,fun i b d o h ho=>?_,fun i j b d e o p' hij hi hj _ _=>?_⟩
  ·rcases fc i _ h with⟨rfl,e⟩|⟨rfl,e⟩|⟨rfl,e⟩<;>cases e
   ·exact⟨h1,h2⟩
   ·exact⟨h3,al hpx⟩
   ·exact⟨h5,al hbx⟩
  ·rcases fc i _ h with⟨rfl,e⟩|⟨rfl,e⟩|⟨rfl,e⟩<;>cases e<;>cases ho
   ·exact⟨fun j x hx=>⟨x,hrow j x hx,.of_atom (jB q1 hx)⟩,⟨by rw[←q2];simp,hc,hc2⟩,fun h=>by cases h⟩
   ·refine⟨_,hpx,rfl,fun j x y hx hy=>?_⟩
    match j with
    |0=>cases hx;cases hy;exact .slice n f0
    |1=>cases hx;cases hy;exact .int _ _
    |j+2=>simp at hx
   ·exact⟨_,hbx,.of_atoms rfl⟩
  ·exfalso;rcases fc i _ hi with⟨rfl,e1⟩|⟨rfl,e1⟩|⟨rfl,e1⟩<;>rcases fc j _ hj with⟨rfl,e2⟩|⟨rfl,e2⟩|⟨rfl,e2⟩<;>first|exact hij rfl|(cases e1;cases e2;first|exact ne1 rfl|exact ne2 rfl|exact ne3 rfl)
 obtain⟨hle,hcall⟩:=xd hT N _ _ _ _ _ hev;refine(hcall f #[.pointer (some ⟨p,0,none⟩),.pointer (some ⟨bb,0,none⟩)] W ⟨rfl,fun j x y hx hy=>?_⟩ hw hB.size hB (fun i q6 _=>?_)).mono ?_
 ·match j with
  |0=>cases hx;cases hy;exact .ptr 0 f1
  |1=>cases hx;cases hy;exact .ptr 0 f2
  |j+2=>simp at hx
 ·cases hfi:f i with
  |none=>rfl
  |some v=>have q7:3≤i:=q6;rcases fc i v hfi with⟨e,-⟩|⟨e,-⟩|⟨e,-⟩<;>omega
 rintro e W' ⟨v',g,rfl,hv,hS⟩
 have hgF:∀i b d,g i=some (b,d)→F b:=fun i b d h=>by
  rcases hS.rx.new i _ h with h6|⟨-,-,h6|⟨i0,d0,h6,-⟩⟩
  ·rcases fc i _ h6 with⟨-,e⟩|⟨-,e⟩|⟨-,e⟩<;>cases e<;>assumption
  ·exact hF b h6
  ·rcases fc i0 _ h6 with⟨-,e⟩|⟨-,e⟩|⟨-,e⟩<;>cases e<;>assumption
 unfold wP at q5;split at q5<;>try(cases q5;done)
 rename_i c1 t1 c2 t2 hH1 hH2;split at q5<;>try(cases q5;done)
 rename_i x0 a v hc1 hc2';rw[Bool.and_eq_true,beq_iff_eq]at q5;obtain⟨rfl,q5⟩:=q5;have g1:=hS.rx.le 1 _ f1;have g2:=hS.rx.le 2 _ f2;obtain⟨cs1,k1,l1⟩:=hS.wr.obj 1 p 0 _ g1 hH1;obtain⟨cs2,k2,l2⟩:=hS.wr.obj 2 bb 0 _ g2 hH2;have hc1':c1[1]?=some (.int .i64 n):=by rw[←Array.getElem?_toList,hc1];rfl
 have hc2'':c2[0]?=some v:=by rw[←Array.getElem?_toList,hc2'];rfl
 obtain⟨y1,m1,m2⟩:=l1.get hc1';obtain⟨y2,m3,m4⟩:=l2.get hc2'';rw[m2.flat_eq rfl]at m1;obtain⟨csr,r1,r2,r3⟩:=gB q5;obtain⟨aa,ca,rfl,s1,s2,s3⟩:=(gC hgF hS.wr m4 r1).get;refine⟨by rw[hv.flat_eq rfl],by rw[cell_of_row W' p 1 cs1 t1 (0,0) k1];exact m1,⟨aa,ca,by rw[cell_of_row W' bb 0 cs2 t2 (0,0) k2];exact m3,s1,s2,small r2 (by decide),?_⟩,hS.fm.os,hS.fm.tape,hS.fm.output,hS.fm.size,fun k hk n1 n2 n3=>hS.fm.block k hk fun i d h=>?_⟩
 ·cases t with
  |nil=>trivial
  |cons y r =>
   obtain⟨b2,rfl,e2,e3,e4⟩:=s3 (by simp);exact St.isL_at hgF hS.wr (y::r) csr b2 0 r3 e4 e2 e3
 ·exfalso;rcases fc i _ h with⟨-,e⟩|⟨-,e⟩|⟨-,e⟩<;>cases e
  ·exact n3 rfl
  ·exact n1 rfl
  ·exact n2 rfl
set_option maxHeartbeats 8000000
set_option maxRecDepth 100000
theorem AO(p1 p2:Addr)(w:World):
  CallsD Tryz.prog 58 #[.pointer (some p1),.pointer (some p2)] .returning w fun e u' w'=>e=.returned (.tuple #[])∧u'=.returning∧w'=w:=by
 refine callsD_of_wpS Tryz.func58 rfl fun c₀ cs hu=>?_;have hrep:(Array.replicate 13 undef:Array Value)=#[undef,undef,undef,undef,undef,undef,undef,undef,undef,undef,undef,undef,undef]:=rfl;apply wpS_seq;apply wpS_region;simp[wpOpsS,go_sem,recoverD,hu,Tryz.ntmps58,Exit.thenS,hrep];refine wpS_of_wp ?_
 go_wp2_with fail
 cases c₀;simp_all [bodyPostS,results,Tryz.results58]
theorem jw.set{F:Nat→Prop}{bb:Nat}{t:List St}{w:World}(h:jw F bb t w){b:Nat}(hb:¬F b)(hne:b≠bb)(v:Value):jw F bb t (w.setCell ⟨b,0,none⟩ v):=by
 obtain⟨a,c,h1,h2,h3,h4,h5⟩:=h;exact⟨a,c,by rw[World.cell?_setCell_other _ _ _ _ (fun e=>hne (by cases e;rfl))];exact h1,h2,h3,h4,St.Ats.keep (aj.set (aj.refl _ _) hb v) (fun _ h=>h) h5⟩
theorem jx.box{p q r b:Nat}{w w':World}{o:Obj}(h:jx p q r w w')(hb:w.heap[b]?=some o)(h1:b≠p)(h2:b≠q)(h3:b≠r):w'.heap[b]?=some o:=(h.block b (al hb) h1 h2 h3).trans hb
theorem jx.below{p q r B:Nat}{w w':World}(h:jx p q r w w')(hB:B≤w.heap.size)(h1:B≤p)(h2:B≤q)(h3:B≤r):Below B w w':=⟨h.os,h.tape,h.output,h.size,fun k hk=>h.block k (by omega) (by omega) (by omega) (by omega)⟩
theorem E7{w0 w:World}(hT:ez w0)(hB:Below w0.heap.size w0 w){s:ByteArray}{t:List St}{N bb:Nat}(hp:f9 s t N=true)(hbb:w0.heap.size≤bb)(hbx:w.heap[bb]?=some (.cells #[.slice none 0 0] 22)):Calls Tryz.prog 41 #[.string s,.func (.func 42) #[] #[.pointer (some ⟨bb,0,none⟩)]] w fun e w'=>e=.returned (.tuple #[.int .i64 0,.int .i64 0])∧Below w0.heap.size w0 w'∧jw ac bb t w':=by
 have hmf:∀(fn:Go.Fn) (first cap:Array Value) (w:World),(Instr.makeFunc fn first cap).run Tryz.prog w=.ok (.func fn first cap) w:=fun _ _ _ _=>rfl;obtain⟨cs,n,hpb,hsc⟩:=Fq hp;have HSC:=hI (hsc w0 hT);have HB:=hI hB;have hbw:=al hbx;have HBX:=hI hbx;have hz0:=hB.size;have HN:=hI (by unfold jY at hpb;simp only[Bool.and_eq_true,decide_eq_true_eq]at hpb;exact hpb.1.2:n≤65536)
 have HRD:=hI (show ∀(W:World) (tb c p:Nat),Below w0.heap.size w0 W→w.heap.size+2≤tb→tb<W.heap.size→tb<p→n≤c→c≤maxLen→(∀(j:Nat) (x:Value),cs[j]?=some x→W.cell? ⟨tb,j,none⟩=some x) →
   W.heap[p]?=some (.cells #[.slice (some ⟨tb,0,none⟩) n c,.int .i64 0] 140)→W.heap[bb]?=some (.cells #[.slice none 0 0] 22) →
   Calls Tryz.prog 42 #[.pointer (some ⟨p,0,none⟩),.pointer (some ⟨bb,0,none⟩)] W fun e W'=>e=.returned (.tuple #[])∧W'.cell? ⟨p,1,none⟩=some (.int .i64 n)∧jw (fun k=>k≠w.heap.size∧k≠w.heap.size+1) bb t W'∧jx p bb tb W W' from
  fun W tb c p k1 k2 k3 k4 k5 k6 k7 k8 k9=>A0 hT k1 hpb (by omega) k3 (by omega) hbb (by omega) (by omega) (by omega) k5 k6 k7 k8 k9 _ ⟨by omega,by omega⟩ ⟨by omega,by omega⟩ ⟨by omega,by omega⟩ (fun k hk=>⟨by omega,by omega⟩))
 clear hsc hT hB hp hbx hpb
 go_enter_defers Tryz.func41,Tryz.ntmps41
 go_wp2_with (first
  |(go_at_call 57;refine(HSC.1 _ (thru (show Below w.heap.size w _ from bw) HB.1)).mono ?_;rintro e w1 ⟨hb1,tb,c,rfl,hs1,hs2,hs3,hs4,hrow⟩;have hx1:=aA hb1 (aN (bJ rfl) _);have hx2:=aA hb1 (bJ (b:=w.heap.size+1) (by simp));have HX1:=hI hx1;have HX2:=hI hx2;have HROW:=hI hrow;have hz1:=al hx2;simp at hs1;have HC:=hI (And.intro hs3 hs4);clear hx1 hx2 hrow hs3 hs4)
  |(refine(HRD.1 _ tb c w1.heap.size (thru (show Below w.heap.size w _ from bw) HB.1) (by omega) (by simp;omega) hs2 HC.1.1 HC.1.2 (fun j x hx=>by rw[World.cell?_alloc_lt _ _ _ hs2];exact HROW.1 j x hx) (bJ rfl) (aA (show Below w.heap.size w _ from bw) HBX.1)).mono ?_;rintro e w2 ⟨rfl,hcp,hch,hfr⟩;have HX1:=hI (hfr.box (aN HX1.1 _) (by omega) (by omega) (by omega));have HX2:=hI (hfr.box (aN HX2.1 _) (by omega) (by omega) (by omega));have HCH:=hI hch;have HFR:=hI hfr;have k1:=fun j=>aO HX1.1 j;have k1f:=fun j=>dC HX1.1 j;have k1z:=al HX1.1;have k2:=fun j=>aO HX2.1 j;have k2f:=fun j=>dC HX2.1 j;have k2z:=al HX2.1;clear hch hfr))
 refine leaves_cons (f:=58) (args:=#[.pointer (some ⟨w.heap.size,0,none⟩),.pointer (some ⟨w.heap.size+1,0,none⟩)]) (by simp) (by simp[go_sem]) ?_;refine(AO ⟨w.heap.size,0,none⟩ ⟨w.heap.size+1,0,none⟩ _).mono ?_;rintro e u' w'' ⟨rfl,rfl,rfl⟩;simp[Leaves,settle,results,Tryz.results41,go_sem,k1,k2];have b0:Below w0.heap.size w0 (w1.alloc (.cells #[.slice (some ⟨tb,0,none⟩) n c,.int .i64 0] 140)):=thru (show Below w.heap.size w _ from bw) HB.1;have b1:=b0.trans (HFR.1.below b0.size (by omega) hbb (by omega));refine⟨(b1.setCell (p:=⟨w.heap.size,0,none⟩) hz0 _).setCell (p:=⟨w.heap.size+1,0,none⟩) (Nat.le_succ_of_le hz0) _,?_⟩;obtain⟨a,d,h1,h2,h3,h4,h5⟩:=(HCH.1.set (b:=w.heap.size) (fun h=>h.1 rfl) (by omega) (.int .i64 0)).set (b:=w.heap.size+1) (fun h=>h.2 rfl) (by omega) (.int .i64 0);exact⟨a,d,h1,h2,h3,h4,h5.mono (fun _ _ _=>trivial)⟩
theorem A1{w:World}(hT:ez w){s:ByteArray}{t:List St}{N:Nat}(hp:f9 s t N=true)(hc:dI t=0)(hz:St.wzs t≤1073741824):Calls Tryz.prog 32 #[.string s] w fun e w'=>(∃a c,e=.returned (.tuple #[.slice a t.length c,.int .i64 0,.int .i64 0])∧t.length≤c∧c≤MX∧t.length*128≤LM∧St.Ats ac w' t a)∧Below w.heap.size w w':=by
 have hmf:∀(fn:Go.Fn) (first cap:Array Value) (w:World),(Instr.makeFunc fn first cap).run Tryz.prog w=.ok (.func fn first cap) w:=fun _ _ _ _=>rfl;have HPAR:=hI (E7 (w0:=w) (w:=w.alloc (.cells #[.slice none 0 0] 22)) hT (aE (Below.refl _ _) _) hp (I6 _) (bJ rfl));have HTC:=hI (fun a c W h1 h2 h3 h4=>xH t a c W hz h1 h2 h3 h4);rw[hc]at HTC;clear hp hc hT hz
 go_enter Tryz.func32,Tryz.ntmps32
 go_wp2_with (first
  |(go_at_call 41;refine HPAR.1.mono ?_;rintro e w1 ⟨rfl,hb1,a,c,hcell,h1,h2,h3,h4⟩;have HB1:=hI hb1;have HST:=hI h4;have HC:=hI (And.intro h1 (And.intro h2 h3));have kz:=World.block_lt_of_cell? w1 _ hcell;clear hb1 h1 h2 h3 h4)
  |(go_at_call 33;refine(HTC.1 a c _ HC.1.1 HC.1.2.1 HC.1.2.2 HST.1).mono ?_;rintro e w2 ⟨rfl,hb2⟩;have hcell2:=(hb2.cell kz).trans hcell))
 refine bodyPost_ret (v:=.tuple #[.slice a t.length c,.int .i64 0,.int .i64 0]) (by simp[results,Tryz.results32,go_sem]) rfl ?_;exact⟨⟨a,c,rfl,HC.1.1,HC.1.2.1,HC.1.2.2,St.Ats.keep (af hb2) (fun _ h=>h) HST.1⟩,thru hb2 HB1.1⟩
theorem FG{s:ByteArray}{t:List St}{N:Nat}(hp:f9 s t N=true)(hc:dI t=0)(hy:St.wys t≤1073741824)(hz:St.wzs t≤1073741824):iX ez s t:=by
 intro w hT;have HC:=hI (A1 hT hp hc hz);clear hp hc hz hT;have HY:=hI hy;clear hy
 go_enter Tryz.func24,Tryz.ntmps24
 go_wp2_with (go_at_call 32;(with_reducible refine HC.1.mono ?_);rintro e w1 ⟨⟨a,c,rfl,h1,h2,h3,h4⟩,hb⟩;have H4:=hI h4;clear h4)
 go_ret;exact⟨⟨a,c,rfl,hI ⟨HY.1,h1,h2,h3,H4.1⟩⟩,hb⟩
