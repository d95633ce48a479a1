import Derived.Test.YtaddbmkkkollpaaGreatDoor23
import Derived.Test.YtaddbmkkkollpaaGreatDoor28
import Derived.Sort.CutIn
import Derived.Test.YtaddbmkkkollpaaGreatDoorT8
set_option linter.all false
namespace Go.Proofs.YtaddbmkkkollpaaGreatDoor
set_option maxHeartbeats 4000000
set_option maxRecDepth 100000
open Go.RowKit
attribute [local go_sem] Oper.semAt_some
mutual
theorem Jm:∀ x:Ex,(bn x).length+1≤x.wy
  | .mk k o l p q s a f=>by
    have h1:=pA a;have h2:=yt f;simp only [bn,List.length_append,Ex.wy];omega
theorem pA:∀ l:List Ex,(fK l).flatten.length≤Ex.wys l
  | []=>Nat.zero_le _
  | x::r=>by
    have h1:=Jm x;have h2:=pA r;simp only [fK,List.flatten_cons,List.length_append,Ex.wys];omega
theorem Jr:∀ x:Fn,(cW x).length≤x.wy
  | .mk _ _ _ b _=>by
    have h1:=pC b;simp only [cW,List.length_cons,Fn.wy];omega
theorem yt:∀ l:List Fn,(jW l).flatten.length≤Fn.wys l
  | []=>Nat.zero_le _
  | x::r=>by
    have h1:=Jr x;have h2:=yt r;simp only [jW,List.flatten_cons,List.length_append,Fn.wys];omega
theorem Jv:∀ x:St,(dY x).length+1≤x.wy
  | .mk k _ ns l r b _=>by
    have h1:=pA l;have h2:=pA r;have h3:=yp b;simp only [dY,List.length_append,St.wy];by_cases h7:k=7
    · rw [if_pos h7,List.length_append];omega
    · rw [if_neg h7];by_cases h8:k≠8
      · rw [if_pos h8,List.length_append];omega
      · rw [if_neg h8,nR];omega
theorem pC:∀ l:List St,(ir l).flatten.length+l.length≤St.wys l
  | []=>Nat.zero_le _
  | x::r=>by
    have h1:=Jv x;have h2:=pC r;simp only [ir,List.flatten_cons,List.length_append,List.length_cons,St.wys];omega
theorem yp:∀ l:List (List St),(iq l).flatten.length≤St.wyss l
  | []=>Nat.zero_le _
  | x::r=>by
    have h1:=pC x;have h2:=yp r;simp only [iq,List.flatten_cons,List.length_append,St.wyss];omega
end
theorem Jx (b:List St) (h:St.wys b≤1073741824):1+(aF b).length≤1073741824:=by
  have h1:=pC b;rw [nG,←List.flatMap_def] at h1;have h2:b=[]→(aF b).length=0:=fun h=>by subst h;rfl
  have h3:b≠[]→0<b.length:=List.length_pos_iff.2;unfold aF at *;by_cases hb:b=[]
  · have:=h2 hb;omega
  · have:=h3 hb;omega
def gJ (p:Fn × FA):List Value:=p.1.cells p.2
theorem p7 (g o j:Nat):(⟨g,o,none⟩:Addr).add j=⟨g,o+j,none⟩:=by unfold Addr.add;split <;> simp_all
theorem uY (p:Fn × FA):(gJ p).length=5:=rfl
theorem If {F:Nat→Prop} {w:World}:∀ {l:List Fn} {a:Option Addr},aj F w 5 (lB F w) l a→∃ L:List (Fn × FA),L.map Prod.fst=l∧(∀ p ∈ L,p.1.At F w p.2)∧(a=none→l=[])∧∀ ad,a=some ad→∀ (j:Nat) u,(L.flatMap gJ)[j]?=some u→w.cell? (ad.add j)=some u:=by
  intro l
  induction l with
  | nil=>exact fun _=>⟨[],rfl,fun p h=>(by cases h),fun _=>rfl,fun ad _ j u h=>(by simp at h)⟩
  | cons x r ih =>
    intro a h;obtain ⟨b,off,cs,rfl,hF,hb,hr,⟨d,rfl,hat⟩,h2⟩:=aj.cons_iff.1 h;obtain ⟨L,h3,h4,-,h5⟩:=ih h2;refine ⟨(x,d)::L,by rw [List.map_cons,h3],fun p hp=>?_,fun h9=>(by cases h9),fun ad hd j u hu=>?_⟩
    · rcases List.mem_cons.1 hp with rfl|hp
      · exact hat
      · exact h4 p hp
    · cases hd;rw [List.flatMap_cons] at hu;rcases Nat.lt_or_ge j 5 with hj|hj
      · rw [List.getElem?_append_left hj] at hu;rw [p7];exact hr j u hu
      · rw [List.getElem?_append_right hj] at hu;have:=h5 _ rfl (j - 5) u hu;rw [show (⟨b,off+5,none⟩:Addr).add (j - 5)=(⟨b,off,none⟩:Addr).add j from by rw [p7,p7,show off+5+(j - 5)=off+j by omega]] at this;exact this
theorem C9 {L:List (Fn × FA)}:∀ u ∈ L.flatMap gJ,u.oneCell'=true:=fun u hu=>by
  obtain ⟨p,-,hp⟩:=List.mem_flatMap.1 hu;simp only [gJ,Fn.cells,List.mem_cons,List.not_mem_nil,or_false] at hp;rcases hp with rfl|rfl|rfl|rfl|rfl <;> rfl
theorem Hv {base:Nat} {W:World} {v:Value} {L:List (Fn × FA)} {F:Nat→Prop} {l:List Fn} {da:Option Addr} {dc:Nat} {ops:Array Oper} {rest:List Oper} {o:Oper} {a:Act} {Q:Exit→Act→World→Prop}
    (HR:W.ownsRow base 81 5 v L.length (L.flatMap gJ)) (hr:aj F W 5 (lB F W) l da) (hL:L.length+l.length≤1073741824) (hb:base≤W.heap.size)
    (hgd:o.guard=none) (s x:Operand) (hop:o.op=.call { callee:=.builtin .append,args:=#[s,x],argTypes:=#[35,35] }) (hs:a.eval s=v) (hx:a.eval x=.slice da l.length dc)
    (h:∀ v' w' L',w'.ownsRow base 81 5 v' (L++L').length ((L++L').flatMap gJ)→L'.map Prod.fst=l→(∀ p ∈ L',p.1.At F W p.2)→W.grownBy w' v.ownBlock→(∀ b,v'.ownBlock=some b→some b=v.ownBlock∨W.heap.size≤b)→wpList Tryz.prog ops Q rest (a.put o.dst v') w') :
    wpList Tryz.prog ops Q (o::rest) a W:=by
  obtain ⟨i0,hi,hz0,hz1,hz2⟩:=info_parts vK;obtain ⟨L',h1,h2,h3,h4⟩:=If hr;have hl:L'.length=l.length:=by rw [←h1,List.length_map]
  by_cases h0:l=[]
  · subst h0;obtain rfl:L'=[]:=List.eq_nil_of_length_eq_zero hl
    have hrun:(Builtin.append_ #[35,35] o.type #[v,.slice da 0 dc]).run Tryz.prog W=.ok v W:=by
      rcases HR.2 with ⟨rfl,hn⟩|⟨g,cap,cur,rfl,hbg,hgg,hnc,hcm,hcs,htake⟩
      · cases da <;> simp [Builtin.append_,run_underlying Tryz.underlying35,sizeOf,typeInfo,hi,Builtin.lenOf,Builtin.firstCells,loadCells,loadCellsFrom]
      · cases da <;> simp [Builtin.append_,run_underlying Tryz.underlying35,sizeOf,typeInfo,hi,Builtin.lenOf,Builtin.firstCells,loadCells,loadCellsFrom,hnc,storeCells]
    refine wpList_plain hgd fun K hK=>?_;unfold Oper.wp;simp only [List.length_nil] at hx;simp [execOp,hop,resolve,invoke,builtin,hs,hx,hrun,Result.andThen];exact hK _ _ (h _ W [] (by simpa using HR) rfl (fun p hp=>by cases hp) (World.grownBy.refl _ _) (fun b hb=>.inl hb.symm))
  · obtain ⟨ad,rfl⟩:∃ ad,da=some ad:=by cases da with|none=>exact absurd (h3 rfl) h0|some ad=>exact ⟨ad,rfl⟩
    refine ms _ hgd s x 35 hop base 81 i0 _ 5 80 Tryz.underlying35 hi hz0 hz1 hz2 rfl (by decide) v L.length _ hs HR ad l.length dc (L'.flatMap gJ) hx (by rw [iP uY,hl]) (h4 ad rfl) C9 (List.length_pos_iff.2 h0) (by unfold maxLen;omega) (by omega) hb ?_;intro v' w' h5 h6 h7;exact h v' w' L' (by rw [List.length_append,hl,List.flatMap_append];exact h5) h1 h2 h6 h7
def ig (b:List St):Fn:=.mk ⟨#[109,97,105,110]⟩ [] true b 0
theorem Dd {base:Nat} {w:World} {v:Value} {L:List (Fn × FA)} (h:w.ownsRow base 81 5 v L.length (L.flatMap gJ)) (hne:0<L.length) (hat:∀ p ∈ L,p.1.At ak w p.2):∃ a c,v=.slice a L.length c∧L.length≤c∧c≤MX∧Fn.Ats ak w (L.map Prod.fst) a:=by
  rcases h.2 with ⟨rfl,h0⟩|⟨g,cap,cur,rfl,hg,hgg,hnc,hcm,hcs,htake⟩
  · omega
  · have hR:Rw gJ 81 5 (fun _=>True) w (.slice (some ⟨g,0,none⟩) L.length cap) L:=⟨⟨h.1,.inr ⟨g,cap,cur,rfl,Nat.zero_le _,hgg,hnc,hcm,hcs,htake⟩⟩,fun _ _=>trivial⟩
    refine ⟨_,_,rfl,hnc,by unfold MX;unfold maxLen at hcm;omega,Fn.ats_iff.2 ⟨g,0,fun _=>⟨rfl,trivial,ae hgg⟩,fun i x hx=>?_⟩⟩;rw [List.getElem?_map] at hx;obtain ⟨p,hp,rfl⟩:=Option.map_eq_some_iff.1 hx;rcases hR.at_ uY with ⟨-,h0⟩|⟨g',c',h1,-,-,-,-,h2⟩
    · rw [h0] at hne;cases hne
    · injection h1 with e1 e2 e3
      injection e1 with e1
      injection e1 with e1
      subst e1;exact ⟨gJ p,by rw [Nat.zero_add];exact h2 i p hp,p.2,rfl,hat p (KR hp)⟩
theorem Cb (a:Option Addr) (n c:Nat) (w:World):Calls Tryz.prog 5 #[.slice a n c] w fun e w'=>e=.returned (.func (.func 15) #[] #[.pointer (some ⟨w.heap.size,0,none⟩)])∧w'=w.alloc (.cells #[.slice a n c] 22):=by
  go_enter Tryz.func5,Tryz.ntmps5
  go_wp2_with fail
  go_ret;exact ⟨rfl,rfl⟩
theorem eQ.low {R:Nat→Obj→Prop} {w w' w'':World} (h:eQ R w w') (hb:Below w.heap.size w' w''):eQ R w w'':=⟨hb.os.trans h.os,hb.tape.trans h.tape,hb.output.trans h.output,KT h.size hb.size,fun k o hk hr=>(hb.block k (ae hk)).trans (h.block k o hk hr)⟩
theorem eQ.thru {R:Nat→Obj→Prop} {w w' w'':World} (h:eQ R w w') (k:eQ R w' w''):eQ R w w'':=⟨k.os.trans h.os,k.tape.trans h.tape,k.output.trans h.output,KT h.size k.size,fun j o hj hr=>k.block j o (h.block j o hj hr) hr⟩
theorem eQ.box {R:Nat→Obj→Prop} {w w':World} {k:Nat} {o:Obj} (h:eQ R w w') (hk:w.heap[k]?=some o) (hr:¬ R k o):w'.heap[k]?=some o:=h.block k o hk hr
theorem eQ.below {R:Nat→Obj→Prop} {w w':World} {n:Nat} (h:eQ R w w') (hn:n≤w.heap.size) (hR:∀ k o,R k o→n≤k):Below n w w':=⟨h.os,h.tape,h.output,h.size,fun k hk=>(h.block k _ (Array.getElem?_eq_getElem (by omega)) (fun hr=>by have:=hR k _ hr;omega)).trans (Array.getElem?_eq_getElem (by omega)).symm⟩
abbrev zR (K:Value→World→Prop):Exit→Act→World→Prop:=bodyPostM Fence.wide 1 Tryz.prog Tryz.f12 fun e w'=>∃ v,e=.returned v∧K v w'
theorem Dc {tmps:Array Value} {w2:World} {v:Value} (h2:tmps[2]?=some v):(results Tryz.f12 tmps).run Tryz.prog w2=.ok v w2:=by
  simp [results,Tryz.results12,go_sem,Act.eval,h2]
theorem Db {w2:World} {a:Act} {D:Nat} {v:Value} {K:Value→World→Prop} (hd:a.defers=[{ target:=.collected D,args:=#[] }]) (hK:w2.heap[D]?=some (.deferred (some []))) (h2:a.tmps[2]?=some v) (hb:K v (w2.putObj D (.deferred none))):zR K .ret a w2:=by
  show LeavesInM _ _ _ _ _ _ a.defers _ _;rw [hd];exact ⟨by simp,.inl ⟨_,_,rfl,run_takeDeferred hK,_,Dc h2,_,rfl,hb⟩⟩
def pX (base:Nat) (k:Nat) (o:Obj):Prop:=k=base+1∨(base≤k∧∃ cs,o=.cells cs 81)
structure kV (b:List St) (base:Nat) (wL:World) (n:Nat) (W:World):Prop where
  gr:eQ (pX base) wL W
  row:∃ (v:Value) (L:List (Fn × FA)),W.heap[base+1]?=some (.cells #[v] 35)∧W.ownsRow base 81 5 v L.length (L.flatMap gJ)∧L.map Prod.fst=ig b::bX ((aW b).take n)∧(∀ p ∈ L,p.1.At (fun k=>k<base) W p.2)∧∀ g,v.ownBlock=some g→g<wL.heap.size∨wL.heap.size+2≤g
theorem rV {w w':World} {base:Nat} {e:TypeId} {n:Nat} {v:Value} {k:Nat} {xs:List Value} (h:w.ownsRow base e n v k xs) (hk:∀ j,v.ownBlock=some j→w'.heap[j]?=w.heap[j]?):w'.ownsRow base e n v k xs:=by
  refine ⟨h.1,?_⟩;rcases h.2 with h2|⟨g,cap,cur,hv,hg,hh,hr⟩
  · exact .inl h2
  · exact .inr ⟨g,cap,cur,hv,hg,by rw [hk g (by rw [hv];rfl)];exact hh,hr⟩
theorem xj {w:World} {base:Nat} {e t:TypeId} {n k m:Nat} {v:Value} {xs:List Value} {cs:Array Value} (h:w.ownsRow base e n v m xs) (hk:w.heap[k]?=some (.cells cs t)) (ht:(t==e)=false):some k≠v.ownBlock:=fun he=>by
  rcases h.2 with ⟨rfl,-⟩|⟨g,cap,cur,rfl,hg,hh,hr⟩
  · cases he
  · cases he;rw [hk] at hh;cases hh;simp at ht
theorem GQ {w:World} {base:Nat} {e:TypeId} {n k m:Nat} {v:Value} {xs:List Value} (h:w.ownsRow base e n v m xs) (hv:v.ownBlock=some k):∃ cs,w.heap[k]?=some (.cells cs e):=by
  rcases h.2 with ⟨rfl,-⟩|⟨g,cap,cur,rfl,hg,hh,hr⟩
  · cases hv
  · cases hv;exact ⟨_,hh⟩
theorem kV.low {b:List St} {base n:Nat} {wL W W':World} (h:kV b base wL n W) (hb1:base+2≤wL.heap.size) (hb:jc wL.heap.size W W'):kV b base wL n W':=by
  obtain ⟨v,L,h1,h2,h3,h4,h5⟩:=h.row;have hz:=h.gr.size;refine ⟨h.gr.low (hb.below hz),v,L,(hb.block _ (by omega) (by omega) (by omega)).trans h1,rV h2 fun j hj=>hb.block j (h2.lt j hj).2 (by have:=h5 j hj;omega) (by have:=h5 j hj;omega),h3,fun p hp=>(h4 p hp).keep ⟨hb.size,fun k hk hl=>hb.block k hl (by have hk':k<base:=hk;omega) (by have hk':k<base:=hk;omega)⟩ (fun _ h=>h),h5⟩
theorem Da {E:List Ex} {n:Nat} {x:Ex} (h:E[n]?=some x):bX (E.take (n+1))=bX (E.take n)++x.funcs:=by unfold bX;rw [iY h,List.flatMap_append];simp
theorem JD {b:List St} {a:Option Addr} {c:Nat} {w:World} (hB:BA b a c w) (hn:1+(bX (aW b)).length≤1073741824) :
    Calls Tryz.prog 12 #[.slice a b.length c] w fun e w'=>∃ v,e=.returned v∧((∃ a' c',v=.slice a' (1+(bX (aW b)).length) c'∧1+(bX (aW b)).length≤c'∧c'≤MX∧Fn.Ats ak w' (ig b::bX (aW b)) a')∧Below w.heap.size w w'):=by
  have HEA:=hI (fun w'=>Cb a b.length c w');refine (callsIn_wide (n:=1)).1 (callsIn_of_wp_marks Tryz.func12 rfl trivial ?_ rfl);refine wpIn_wide.2 ?_;simp only [Tryz.ntmps12,List.size_toArray,List.length_cons,List.length_nil,Nat.reduceAdd,Nat.reduceSub,Array.replicate_succ,Array.replicate_zero,List.push_toArray,List.append_toArray,List.nil_append,List.cons_append];have hfe:∀ k w',(binOp BinOp.eql 24 (.func (.func 15) #[] #[.pointer (some ⟨k,0,none⟩)]) .nilFunc).run Tryz.prog w'=.ok (.bool false) w':=fun _ _=>by kernel_rfl
  have HNN:=hI hn;have HBA:=hI hB;clear hn hB
  go_wp2_with (go_at_call 5;(with_reducible refine (HEA.out _).mono ?_);rintro e w1 ⟨rfl,rfl⟩)
  obtain ⟨wL,hwL⟩:∃ wL:World,wL=((w.alloc (.cells #[.string ⟨#[109,97,105,110]⟩,.slice none 0 0,.bool true,.slice a b.length c,.int .i64 0] 81)).alloc (.cells #[.slice (some ⟨w.heap.size,0,none⟩) 1 1] 35)).alloc (.cells #[.slice a b.length c] 22):=⟨_,rfl⟩
  have hbL:Below w.heap.size w wL:=by rw [hwL];exact bw
  have hsl:wL.heap.size=w.heap.size+3:=by rw [hwL];simp
  have HEX:=hI (show wL.heap[w.heap.size+1+1]?=some (.cells #[.slice a b.length c] 22) from by rw [hwL];exact aA (by simp));have hat0:St.Ats (fun k=>k<w.heap.size) wL b a:=St.Ats.keep (aq hbL) (fun _ h=>h) (St.Ats.mono (fun j _ hl=>hl) HBA.out.at_)
  have HI0:=hI (show kV b w.heap.size wL 0 wL from ⟨⟨rfl,rfl,rfl,KU _,fun _ _ h _=>h⟩,.slice (some ⟨w.heap.size,0,none⟩) 1 1,[(ig b,⟨none,0,a,c⟩)],by rw [hwL];exact ax (aA (by simp)) _,
    ⟨rfl,.inr ⟨w.heap.size,1,_,rfl,KU _,by rw [hwL];exact ax (ax (heap_alloc_new w _) _) _,KU _,by unfold maxLen;decide,rfl,rfl⟩⟩,rfl,fun p hp=>by
      rw [List.mem_singleton] at hp;subst hp;exact Fn.at_iff.2 ⟨⟨by show 4≤MX;unfold MX;omega,by show aJ 0;unfold aJ;omega⟩,⟨Nat.zero_le _,⟨Nat.zero_le _,by show 0*16≤LM;unfold LM;omega⟩,HBA.out.l1,HBA.out.l2,HBA.out.l3⟩,aj.nil _,St.ats_iff.1 hat0⟩,fun g hg=>by cases hg;left;show w.heap.size<_;omega⟩)
  have HBL:=hI hbL;have HSL:=hI hsl;have HA0:=hI hat0;rw [←hwL];clear hwL hbL hsl hat0;refine Kx (P:=Tryz.prog) (gf:=15) (lb:=#[.pointer (some ⟨w.heap.size+1+1,0,none⟩)]) (N:=(aW b).length) rfl (enters_of Tryz.func15 (by kernel_rfl) rfl) (pX w.heap.size) (kV b w.heap.size wL) (fun n W v=>∃ (x:Ex) (d:EA),(aW b)[n]?=some x∧v=#[.agg #[.int .i64 x.kind,.int .i64 x.op,.int .i64 x.line,.int .i64 x.p,.int .i64 x.q,.string x.str,.slice d.a x.args.length d.c,.slice d.fa x.funcs.length d.fc]]∧x.At (fun k=>k<w.heap.size) W d) ?hRc ?hI ?h0 ?hX ?hround ?hseq ?hdone
  case hRc =>
    have hsl:=HSL.out;rintro k o (rfl|⟨hk,cs,rfl⟩) hf
    · omega
    · exact (hf rfl).elim
  case hI=>exact fun n W W' h hb=>h.low (by have:=HSL.out;omega) hb
  case h0=>exact HI0.out
  case hX=>rintro n W v ⟨x,d,-,rfl,-⟩;rfl
  case hseq =>
    intro row W1 hrow hY hs hb;have hsl:=HSL.out
    have hng:∀ k,ct row k→k<w.heap.size:=fun k hk=>by
      have h1:=hk (.cells #[] 81);rw [hrow] at h1;rcases Nat.lt_or_ge k w.heap.size with h2|h2
      · exact h2
      · exact (h1 (.inl (.inr ⟨h2,_,rfl⟩))).elim
    have hne:∀ k,k<w.heap.size→∀ o,¬ row.R k o:=fun k hk o=>by
      rw [hrow];rintro ((rfl|⟨h1,-⟩)|rfl) <;> omega
    refine (B8 hY (fun n W x d h h1=>⟨x,d,h,rfl,h1.mono fun k hk _=>hng k hk⟩) HBA.out.l1 HBA.out.l2 HBA.out.l3 (St.Ats.keep (aq hb) (fun _ h=>h) (St.Ats.mono (G:=ct row) (fun j hj _=>hne j hj) HA0.out)) hs (aD hb HEX.out) (by
      rw [hrow];rintro ((h1|⟨-,cs,h1⟩)|h1)
      · omega
      · cases h1
      · omega)).mono fun e w' h=>h
  case hdone =>
    intro W hi hK;obtain ⟨v,L,h1,h2,h3,h4,h5⟩:=hi.row;have hsl:=HSL.out;have k1:=fun i=>ac h1 i;have hll:L.length=1+(bX (aW b)).length:=by rw [←List.length_map (f:=Prod.fst),h3,List.take_length,List.length_cons];omega
    have hbw:Below w.heap.size w W:=HBL.out.trans (hi.gr.below (by omega) (fun k o hk=>by rcases hk with rfl|⟨hk,-⟩ <;> omega));rw [List.take_length] at h3;have HR:=hI h2;have HM:=hI h3;have HAT:=hI h4;have HOW:=hI h5;have HK:=hI hK;have HBW:=hI hbw;have HLL:=hI hll;clear h1 h2 h3 h4 h5 hi hK hbw hll
    go_wp2_with fail
    refine Db rfl HK.out rfl ?_;have hbp:Below wL.heap.size W (W.putObj wL.heap.size (.deferred none)):=AP (KU _);have hkp:af (fun k=>k<w.heap.size) W (W.putObj wL.heap.size (.deferred none)):=⟨hbp.size,fun k hk _=>hbp.block k (by have hk':k<w.heap.size:=hk;omega)⟩
    obtain ⟨a',c',e1,e2,e3,e4⟩:=Dd (rV HR.out fun j hj=>World.putObj_heap_other (by have:=HOW.out j hj;omega)) (by rw [HLL.out];omega) (fun p hp=>((HAT.out p hp).keep hkp (fun _ h=>h)).mono (fun _ _ _=>trivial));rw [HLL.out] at e1 e2;rw [HM.out] at e4;exact ⟨⟨a',c',e1,e2,e3,e4⟩,HBW.out.trans (hbp.mono (by omega))⟩
  case hround =>
    rintro l n W v hi hn ⟨x,d,hx,rfl,hat⟩ hsz
    gi_wp2
    refine ⟨bw,fun o=>?_⟩;obtain ⟨W2,hW2⟩:∃ W2,W2=(W.alloc (.cells #[.int .i64 x.kind,.int .i64 x.op,.int .i64 x.line,.int .i64 x.p,.int .i64 x.q,.string x.str,.slice d.a x.args.length d.c,.slice d.fa x.funcs.length d.fc] 37)).putObj (wL.heap.size+1) o:=⟨_,rfl⟩
    have hsl:=HSL.out;have hi2:kV b w.heap.size wL n W2:=by rw [hW2];exact (hi.low (by omega) (.of (aH (Below.refl _ _) _))).low (by omega) (.put _)
    have hkx:W2.heap[W.heap.size]?=some (.cells #[.int .i64 x.kind,.int .i64 x.op,.int .i64 x.line,.int .i64 x.p,.int .i64 x.q,.string x.str,.slice d.a x.args.length d.c,.slice d.fa x.funcs.length d.fc] 37):=by rw [hW2];exact (World.putObj_heap_other (by omega)).trans (aA rfl)
    have hat2:x.At (fun k=>k<w.heap.size) W2 d:=by
      rw [hW2];refine hat.keep ⟨by simp,fun k hk hl=>?_⟩ (fun _ h=>h);have hk':k<w.heap.size:=hk;exact (World.putObj_heap_other (by omega)).trans ((aH (Below.refl _ _) _).block k hl)
    have hz2:W2.heap.size=W.heap.size+1:=by rw [hW2];simp
    rw [←hW2];obtain ⟨v,L,h1,h2,h3,h4,h5⟩:=hi2.row;have hgr2:=hi2.gr;have hxl:=Da hx;obtain ⟨-,⟨-,-,hf1,hf2,-⟩,-,hrf⟩:=Ex.at_iff.1 hat2
    have hLL:L.length+x.funcs.length≤1073741824:=by
      have e1:L.length=1+(bX ((aW b).take n)).length:=by rw [←List.length_map (f:=Prod.fst),h3,List.length_cons];omega
      have e2:(bX ((aW b).take (n+1))).length≤(bX (aW b)).length:=by
        have h9:bX (aW b)=bX ((aW b).take (n+1))++bX ((aW b).drop (n+1)):=by unfold bX;rw [←List.flatMap_append,List.take_append_drop]
        rw [h9,List.length_append];omega
      rw [hxl,List.length_append] at e2;have:=HNN.out;omega
    have k1:=fun i=>ac h1 i;have k1f:=fun i=>ag h1 i;have k1z:=ae h1;have kx:=fun i=>ac hkx i;have HKX:=hI hkx;have HR:=hI h2;have HM:=hI h3;have HAT:=hI h4;have HOW:=hI h5;have HGR:=hI hgr2;have HRF:=hI hrf;have HLL:=hI hLL;have HXL:=hI hxl;have HB1:=hI h1;have hbz:w.heap.size≤W2.heap.size:=by omega
    clear h1 h2 h3 h4 h5 hgr2 hat hat2 hW2 hi hi2 hkx hrf hLL hxl hx
    gi_upto_region 4 with fail
    refine Ia (by kernel_rfl) (by rintro ⟨a9,w9,h9⟩;cases h9.1) ?_
    go_wp2_with (at_builtin;go_loud (refine Hv HR.out HRF.out HLL.out hbz rfl _ _ rfl rfl rfl ?_;intro v3 w3 L3 r1 r2 r3 r4 r5;rw [List.length_append] at r1;obtain ⟨a3,c3,rfl⟩:=xi r1;have R1:=hI r1;have R2:=hI r2;have R3:=hI r3;have R4:=hI r4;have R5:=hI r5;have hob:w3.heap[w.heap.size+1]?=some (.cells #[v] 35):=(r4.block _ (ae HB1.out) (xj HR.out HB1.out rfl)).trans HB1.out;have q1:=fun i=>ac hob i;have q1f:=fun i=>ag hob i;have q1z:=ae hob;have HOB:=hI hob;clear r1 r2 r3 r4 r5 hob))
    have hz3:=R4.out.size
    have hgr:eQ (pX w.heap.size) W2 (w3.setCell ⟨w.heap.size+1,0,none⟩ (.slice a3 (L.length+L3.length) c3)):=⟨R4.out.os,R4.out.tape,R4.out.output,by simp [World.setCell];exact hz3,fun k o hk hr=>by
      have h1:k≠w.heap.size+1:=fun h=>hr (.inl h);refine (Below.heap_setCell _ _ _ _ h1).trans ((R4.out.block k (ae hk) (fun h2=>?_)).trans hk);obtain ⟨cs,h3⟩:=GQ HR.out h2.symm;rw [hk] at h3;cases h3;exact hr (.inr ⟨(HR.out.lt k h2.symm).1,_,rfl⟩)⟩
    have hkp:af (fun k=>k<w.heap.size) W2 (w3.setCell ⟨w.heap.size+1,0,none⟩ (.slice a3 (L.length+L3.length) c3)):=⟨hgr.size,fun k hk hl=>by
      have hk':k<w.heap.size:=hk;exact (Below.heap_setCell _ _ _ _ (by show k≠w.heap.size+1;omega)).trans (R4.out.block k hl (fun h2=>by have:=(HR.out.lt k h2.symm).1;omega))⟩
    refine ⟨hgr,HGR.out.thru hgr,_,L++L3,aR HOB.out 0 _,rV (by rw [List.length_append];exact R1.out) fun j hj=>Below.heap_setCell _ _ _ _ (fun h=>xj R1.out HOB.out rfl (by rw [hj,h])),by rw [List.map_append,HM.out,R2.out,HXL.out];rfl,fun p hp=>?_,fun g hg=>?_⟩
    · rcases List.mem_append.1 hp with hp|hp
      · exact (HAT.out p hp).keep hkp (fun _ h=>h)
      · exact (R3.out p hp).keep hkp (fun _ h=>h)
    · rcases R5.out g hg with h1|h1
      · exact HOW.out g h1.symm
      · right;omega
def zB (b:Bool):List Value:=[.bool b]
structure j8 (cl:List Int) (P:Nat→Int→Prop) (s:List Bool):Prop where
  len:s.length=cl.length
  on:∀ (j:Nat) v,cl[j]?=some v→P j v→s[j]?=some true
theorem j8.imp {cl:List Int} {P Q:Nat→Int→Prop} {s:List Bool} (h:j8 cl P s) (hq:∀ (j:Nat) v,cl[j]?=some v→Q j v→P j v):j8 cl Q s:=⟨h.len,fun j v h1 h2=>h.on j v h1 (hq j v h1 h2)⟩
theorem j8.tick {cl:List Int} {P Q:Nat→Int→Prop} {s:List Bool} {i:Nat} (h:j8 cl P s) (hi:i<cl.length) (hq:∀ (j:Nat) v,cl[j]?=some v→Q j v→P j v∨j=i):j8 cl Q (s.set i true):=⟨by rw [List.length_set];exact h.len,fun j v h1 h2=>by
  have hl:=h.len;rw [List.getElem?_set];rcases hq j v h1 h2 with h3|rfl
  · have:=h.on j v h1 h3;split
    · rw [if_pos (by omega)]
    · exact this
  · rw [if_pos rfl,if_pos (by omega)]⟩
def gX (σ:Sc) (fn k:Nat) (v:Int):Prop:=∃ (k' i:Nat) (y:Fu) (nm:ByteArray) (c:Nat),k'<k∧σ.funs[k']?=some y∧y.up=(fn:Int)∧y.ups[i]?=some (nm,true,c)∧v=(c:Int)
def gz (σ:Sc) (fn k:Nat) (y:Fu) (i:Nat) (v:Int):Prop:=gX σ fn k v∨∃ (i':Nat) (nm:ByteArray) (c:Nat),i'<i∧y.ups[i']?=some (nm,true,c)∧v=(c:Int)
theorem JU {σ:Sc} {fn:Nat} {v:Int} (h:gX σ fn 0 v):False:=by obtain ⟨k',i,y,nm,c,h1,-⟩:=h;omega
theorem JS {σ:Sc} {fn k:Nat} {v:Int} {y:Fu} (hy:σ.funs[k]?=some y) (hn:y.up≠(fn:Int)) (h:gX σ fn (k+1) v):gX σ fn k v:=by
  obtain ⟨k',i,z,nm,c,h1,h2,h3,h4,h5⟩:=h;rcases Nat.lt_or_ge k' k with h6|h6
  · exact ⟨k',i,z,nm,c,h6,h2,h3,h4,h5⟩
  · obtain rfl:k'=k:=by omega
    rw [hy] at h2;cases h2;exact (hn h3).elim
theorem JT {σ:Sc} {fn k:Nat} {v:Int} {y:Fu} (hy:σ.funs[k]?=some y) (h:gX σ fn (k+1) v):gz σ fn k y y.ups.length v:=by
  obtain ⟨k',i,z,nm,c,h1,h2,h3,h4,h5⟩:=h;rcases Nat.lt_or_ge k' k with h6|h6
  · exact .inl ⟨k',i,z,nm,c,h6,h2,h3,h4,h5⟩
  · obtain rfl:k'=k:=by omega
    rw [hy] at h2;cases h2;exact .inr ⟨i,nm,c,(KQ h4).1,h4,h5⟩
theorem JQ {σ:Sc} {fn k:Nat} {v:Int} {y:Fu} (h:gz σ fn k y 0 v):gX σ fn k v:=by
  rcases h with h|⟨i,nm,c,h,-⟩
  · exact h
  · omega
theorem JO {σ:Sc} {fn k i ix:Nat} {v:Int} {y:Fu} {nm:ByteArray} (hu:y.ups[i]?=some (nm,false,ix)) (h:gz σ fn k y (i+1) v):gz σ fn k y i v:=by
  rcases h with h|⟨i',nm',c,h1,h2,h3⟩
  · exact .inl h
  · rcases Nat.lt_or_ge i' i with h6|h6
    · exact .inr ⟨i',nm',c,h6,h2,h3⟩
    · obtain rfl:i'=i:=by omega
      rw [hu] at h2;cases h2
theorem JP {σ:Sc} {fn k i ix:Nat} {v:Int} {y:Fu} {nm:ByteArray} (hu:y.ups[i]?=some (nm,true,ix)) (h:gz σ fn k y (i+1) v):gz σ fn k y i v∨v=(ix:Int):=by
  rcases h with h|⟨i',nm',c,h1,h2,h3⟩
  · exact .inl (.inl h)
  · rcases Nat.lt_or_ge i' i with h6|h6
    · exact .inl (.inr ⟨i',nm',c,h6,h2,h3⟩)
    · obtain rfl:i'=i:=by omega
      rw [hu] at h2;cases h2;exact .inr h3
theorem JR {σ:Sc} (hi:b7 σ) {fn:Nat} {x:Fu} (hx:σ.funs[fn]?=some x) {v:Int} (hv:v ∈ cF x):gX σ fn σ.funs.length v:=by
  obtain ⟨c,hc,rfl⟩:=(tV x v).1 hv;obtain ⟨j,i,y,nm,h1,h2,h3⟩:=hi.cb fn x c hx hc;exact ⟨j,i,y,nm,c,(KQ h1).1,h1,h2,h3,rfl⟩
theorem Bm (x:Fu):(cF x).length≤x.cau.length:=by
  unfold cF;rw [List.length_mergeSort];have h:=(tY x.cau).2;generalize hD:dr (cR x.cau)=D at *;obtain ⟨es,rfl⟩:Maps.IsMap D:=hD ▸ mG _;have e:(intKeys (.map es:DataW Unit)).length=es.length:=by show (es.map _).length=_;rw [List.length_map]
  rw [e];exact h
theorem vn {cv:List St→Int} {b:List St} {σ:Sc} {f:Nat} {x:Fu} (hσ:bU cv b=.ok σ) (hx:σ.funs[f]?=some x):ew cv b f=.ok x:=by
  have h1:=(KQ hx).1;unfold ew;rw [hσ];show (if _ then _ else _)=_;rw [if_pos ⟨by omega,by omega⟩];have h2:=ev h1;rw [hx] at h2;cases h2;rfl
theorem J5 {b:List St} {σ:Sc} (hw:St.wgs b) (h:lY b=.ok σ):dR ((ig b::bX (aW b)).map fun f=>(aF f.body).length) (1+(bX (aW b)).length) (1+(bX (aW b)).length)=σ.upL∧σ.funs.length=1+(bX (aW b)).length∧(bX (aW b)).length=(aF b).length∧∀ f ∈ ig b::bX (aW b),(aF f.body).length≤(aF b).length:=by
  have hn:=Ip hw h;have he:=Jw hw;have e1:(bX (aW b)).length=(aF b).length:=by rw [he];unfold dK;rw [List.length_map]
  have e2:σ.upL.length=1+(aF b).length:=by rw [hn.len,List.length_cons];omega
  have e3:σ.upL.length=σ.funs.length:=by unfold Sc.upL;rw [List.length_map]
  have e4:((ig b::bX (aW b)).map fun f=>(aF f.body).length)=(aF b).length::aF b:=by
    rw [List.map_cons];show (aF b).length::dK (aW b)=_;rw [←he]
  refine ⟨?_,by omega,e1,fun f hf=>?_⟩
  · rw [e4,e1,←e2];refine List.ext_getElem? fun r=>?_;rcases Nat.lt_or_ge r σ.upL.length with hr|hr
    · rw [uB _ _ _ hr,Cj hn (KP hr),KP hr]
    · rw [List.getElem?_eq_none (by rw [mT];exact hr),List.getElem?_eq_none hr]
  · have h5:(aF f.body).length ∈ (aF b).length::aF b:=by rw [←e4];exact List.mem_map.2 ⟨f,hf,rfl⟩
    obtain ⟨i,hi,h6⟩:=List.getElem_of_mem h5;have:=hn.cl i _ (by rw [KP hi,h6]);rw [List.length_cons] at this;omega
theorem Ek:(Tryz.prog.info? 4).map (fun i=>(i.zero,i.size,i.bytes))=some (some (.bool false),1,1):=by kernel_rfl
theorem FK (n:Nat):(madeCells (Value.bool false).cells (n*1)).toList=(List.replicate n false).flatMap zB:=by
  have e2:(List.replicate n false).flatMap zB=List.replicate n (.bool false):=by
    induction n with
    | zero=>rfl
    | succ n ih=>rw [List.replicate_succ,List.flatMap_cons,ih,List.replicate_succ];rfl
  rw [e2,Nat.mul_one];refine List.eq_replicate_iff.2 ⟨by simp [madeCells],fun u hu=>?_⟩;unfold madeCells at hu;simp only [Array.toList_map,List.mem_map] at hu;obtain ⟨i,-,rfl⟩:=hu;show (#[Value.bool false]:Array Value)[i % 1]! = _;rw [Nat.mod_one];rfl
theorem FL {w:World} {n:Nat} {ops:Array Oper} {rest:List Oper} {o:Oper} {a:Act} {Q:Exit→Act→World→Prop} (hn:n≤68719476736) (hg:o.guard=none) (l c:Operand) (hop:o.op=Op.makeSlice 52 l c) (hl:a.eval l=.int .i64 n) (hc:a.eval c=.int .i64 n)
    (h:∀ w',Below w.heap.size w w'→Rw zB 4 1 (fun j=>w.heap.size≤j) w' (.slice (some ⟨w.heap.size,0,none⟩) n n) (List.replicate n false)→w.heap.size<w'.heap.size→wpList Tryz.prog ops Q rest (a.put o.dst (.slice (some ⟨w.heap.size,0,none⟩) n n)) w'):wpList Tryz.prog ops Q (o::rest) a w:=by
  obtain ⟨i0,hi,hz0,hz1,hz2⟩:=info_parts Ek;refine wpList_make_full w hg l c 52 hop w.heap.size 4 i0 (.bool false) 1 Tryz.underlying52 hi hz0 hz1 .i64 .i64 n n n hl hc rfl rfl (by rw [hz2];omega) (by unfold maxLen;omega) (KU _) ?_;intro w' h1 h2;have hlt:=(h1.lt w.heap.size rfl).2;refine h w' ⟨h2.os,h2.tape,h2.output,h2.size,fun k hk=>h2.block k hk (by simp)⟩ ?_ hlt;rw [FK] at h1;rcases h1.2 with ⟨h3,h4⟩|⟨g,cap,cur,h3,h4,h5,h6,h7,h8,h9⟩
  · cases h3
  · cases h3;exact ⟨by rw [List.length_replicate];exact ⟨by rw [iP (f:=zB) (fun _=>rfl)];simp,.inr ⟨_,_,cur,rfl,Nat.zero_le _,h5,h6,h7,h8,h9⟩⟩,fun j hj=>by cases hj;exact KU _⟩
theorem Rw.read {α:Type} {f:α→List Value} {e:TypeId} {n g m c i:Nat} {D:Nat→Prop} {w:World} {l:List α} {x:α} (h:Rw f e n D w (.slice (some ⟨g,0,none⟩) m c) l) (hf:∀ x,(f x).length=n) (hi:l[i]?=some x):w.rangeAt g (i*n) (f x)∧m≤c∧c≤maxLen:=by
  obtain ⟨g',c',h1,-,h3,h4,h2⟩:=h.pick hf hi;injection h1 with e1 e2 e3
  injection e1 with e1
  injection e1 with e1
  subst e1 e2 e3;exact ⟨h2,h3,h4⟩
theorem Rw.some_of {α:Type} {f:α→List Value} {e:TypeId} {n m c i:Nat} {a:Option Addr} {D:Nat→Prop} {w:World} {l:List α} {x:α} (h:Rw f e n D w (.slice a m c) l) (hf:∀ x,(f x).length=n) (hi:l[i]?=some x):∃ g,a=some ⟨g,0,none⟩:=by
  obtain ⟨g',c',h1,-⟩:=h.pick hf hi;injection h1 with e1 e2 e3
  exact ⟨g',e1⟩
theorem Rw.set1 {α:Type} {f:α→List Value} {e:TypeId} {g m c i:Nat} {u:Value} {x x':α} {D:Nat→Prop} {w:World} {l:List α} (h:Rw f e 1 D w (.slice (some ⟨g,0,none⟩) m c) l) (hf:∀ x,(f x).length=1) (hi:l[i]?=some x) (hx:f x'=[u]):Rw f e 1 D (w.setCell ⟨g,i,none⟩ u) (.slice (some ⟨g,0,none⟩) m c) (l.set i x'):=by
  obtain ⟨g',c',h1,-⟩:=h.pick hf hi;injection h1 with e1 e2 e3
  subst e2
  have h3:=h.set hf hi (j:=0) (u:=u) (x':=x') (by decide) (by
    rw [hx];have:=hf x
    match hq:f x with
    | [y]=>rfl
    | []=>rw [hq] at this;cases this
    | _::_::_=>rw [hq] at this;simp at this)
  rw [Nat.mul_one,Nat.add_zero] at h3;exact h3
structure gq (σ:Sc) (w:World) (x:Fu) (n g:Nat) (cs:Nat) (V v1 v2:Value) (P:Nat→Int→Prop) (W:World):Prop where
  below:Below w.heap.size w W
  hg:w.heap.size≤g
  lt:g<W.heap.size
  par:Rw zF 3 1 (fun j=>j≠g) W V σ.upL
  cap:Rw zF 3 1 (fun j=>j≠g) W v1 (cF x)
  ups:Rw gU 54 3 (fun j=>j≠g) W v2 x.ups
  seen:∃ s,Rw zB 4 1 (fun _=>True) W (.slice (some ⟨g,0,none⟩) n cs) s∧j8 (cF x) P s
theorem gq.go {σ:Sc} {w:World} {x:Fu} {n g cs:Nat} {V v1 v2:Value} {P Q:Nat→Int→Prop} {W W':World} (h:gq σ w x n g cs V v1 v2 P W) (hb:Below W.heap.size W W') (hq:∀ (j:Nat) v,(cF x)[j]?=some v→Q j v→P j v):gq σ w x n g cs V v1 v2 Q W':=by
  obtain ⟨s,h1,h2⟩:=h.seen;exact ⟨thru hb h.below,h.hg,KS h.lt hb.size,h.par.keep (aq hb),h.cap.keep (aq hb),h.ups.keep (aq hb),s,h1.keep (aq hb),h2.imp hq⟩
theorem gq.tick {σ:Sc} {w:World} {x:Fu} {n g cs i:Nat} {V v1 v2:Value} {P Q:Nat→Int→Prop} {W:World} (h:gq σ w x n g cs V v1 v2 P W) (hi:i<(cF x).length) (hq:∀ (j:Nat) v,(cF x)[j]?=some v→Q j v→P j v∨j=i):gq σ w x n g cs V v1 v2 Q (W.setCell ⟨g,i,none⟩ (.bool true)):=by
  obtain ⟨s,h1,h2⟩:=h.seen;have hk:af (fun j=>j≠g) W (W.setCell ⟨g,i,none⟩ (.bool true)):=(af.refl _ _).set (fun h=>h rfl) _;exact ⟨gZ h.below h.hg _,h.hg,by have:=h.lt;simp [World.setCell];exact this,h.par.keep hk,h.cap.keep hk,h.ups.keep hk,_,h1.set1 (fun _=>rfl) (KP (by rw [h2.len];exact hi)) rfl,h2.tick hi hq⟩
theorem Bn {cv:List St→Int} (hC:CV cv) (hG:∀ b,cv b=0→St.wgs b) {T:World→Prop} (hA:pV T) {b:List St} {a:Option Addr} {c:Nat} {w:World} (hB:BA b a c w) (hT:T w) :
    Calls Tryz.prog 4 #[.slice a b.length c] w fun e w'=>e=.returned (.bool true)∧Below w.heap.size w w':=by
  obtain ⟨Z,hZ⟩:∃ Z,Z=wN (cM b):=⟨_,rfl⟩
  have HSZ:=hI (fun w' h=>(IC b a c w' hB.l1 hB.l2 (hB.below h).at_).mono fun e w'' h9=>⟨by rw [hZ];exact h9.1,by obtain ⟨m,rfl⟩:=h9.2;exact gE _ m⟩:∀ w',Below w.heap.size w w'→Calls Tryz.prog 6 #[.slice a b.length c] w' fun e w''=>e=.returned (.int .i64 Z)∧Below w'.heap.size w' w'');have HAW:=hI (fun w' h=>hA.run w' (hA.keep _ _ h hT):∀ w',Below w.heap.size w w'→Calls Tryz.prog 7 #[] w' fun e w''=>e=.returned (.bool true)∧Below w'.heap.size w' w'');have HU:=hI (show ∀ w',Below w.heap.size w w'→Calls Tryz.prog 10 #[.slice a b.length c] w' fun e w''=>e=.returned (.tuple #[.int .i64 (eq (bU cv b)).1,.int .i64 (eq (bU cv b)).2])∧Below w'.heap.size w' w'' from fun w' h=>mL hC (hB.below h));have hnz:=yM cv b;clear hZ;obtain ⟨R,hR⟩:∃ R,R=bU cv b:=⟨_,rfl⟩
  rw [←hR] at HU hnz;rcases R with q|σ
  · have hq:(q.2 != 0)=true:=by have:=hnz q rfl;simp [this]
    clear hR hnz hB hC hG;unfold eq at HU
    go_enter Tryz.func4,Tryz.ntmps4
    go_wp2_with (first
      | (go_at_call 10;(with_reducible refine (HU.out _ bw).mono ?_);rintro e w1 ⟨rfl,hb1⟩)
      | (go_at_call 7;(with_reducible refine (HAW.out _ bw).mono ?_);rintro e w2 ⟨rfl,hb2⟩))
    go_ret;exact ⟨rfl,bw⟩
  have HU:=hI (show ∀ w',Below w.heap.size w w'→Calls Tryz.prog 10 #[.slice a b.length c] w' fun e w''=>e=.returned (.tuple #[.int .i64 0,.int .i64 0])∧Below w'.heap.size w' w'' from HU.out);clear hnz;by_cases hz:400<Z
  · clear hR hB hC hG
    go_enter Tryz.func4,Tryz.ntmps4
    go_wp2_with (first
      | (go_at_call 10;(with_reducible refine (HU.out _ bw).mono ?_);rintro e w1 ⟨rfl,hb1⟩)
      | (go_at_call 6;(with_reducible refine (HSZ.out _ bw).mono ?_);rintro e w1 ⟨rfl,hb1⟩)
      | (go_at_call 7;(with_reducible refine (HAW.out _ bw).mono ?_);rintro e w2 ⟨rfl,hb2⟩))
    go_ret;exact ⟨rfl,bw⟩
  have hsc:lY b=.ok σ:=by unfold bU at hR;split at hR;exact hR.symm;cases hR
  have hwg:=hG b (by unfold bU at hR;split at hR;assumption;cases hR);have hinv:=Iq hsc;obtain ⟨hen,hfl,hxl,hsz⟩:=J5 hwg hsc;have hwy:=Jx b hB.wy;have hbd:=Io hsc hB.wy;obtain ⟨N,hN⟩:∃ N,N=1+(bX (aW b)).length:=⟨_,rfl⟩
  rw [←hN] at hen hfl;have hNb:N≤1073741824:=by omega
  have HFU:=hI (show ∀ w',Below w.heap.size w w'→Calls Tryz.prog 12 #[.slice a b.length c] w' fun e w''=>∃ a' c',e=.returned (.slice a' N c')∧(N≤c'∧c'≤MX∧Fn.Ats ak w'' (ig b::bX (aW b)) a')∧Below w'.heap.size w' w'' from fun w' h=>(JD (hB.below h) (by omega)).mono fun e w'' h9=>by
    obtain ⟨v,rfl,⟨a',c',rfl,h1,h2,h3⟩,h4⟩:=h9;rw [hN];exact ⟨a',c',rfl,⟨h1,h2,h3⟩,h4⟩)
  have HEN:=hI (show ∀ w' a' c',N≤c'→c'≤MX→Fn.Ats ak w' (ig b::bX (aW b)) a'→Calls Tryz.prog 11 #[.slice a' N c'] w' fun e w''=>∃ v,e=.returned v∧Rw zF 3 1 (fun j=>w'.heap.size≤j) w'' v σ.upL∧Below w'.heap.size w' w'' from fun w' a' c' h1 h2 h3=>by
    have e:(ig b::bX (aW b)).length=N:=by rw [hN,List.length_cons];omega
    have h9:=Ck (ig b::bX (aW b)) a' c' w' (by rw [e];exact h1) h2 (by rw [e];exact hNb) (by rw [e];omega) h3 (fun f hf=>by have:=hsz f hf;omega);rw [e,hen] at h9;exact h9)
  have HCA:=hI (show ∀ (k:Nat) x w',σ.funs[k]?=some x→Below w.heap.size w w'→Calls Tryz.prog 13 #[.slice a b.length c,.int .i64 k] w' fun e w''=>∃ v,e=.returned (.tuple #[v,.int .i64 0])∧Rw zF 3 1 (fun j=>w'.heap.size≤j) w'' v (cF x)∧Below w'.heap.size w' w'' from fun k x w' hx h=>by
    have h8:=vn hR.symm hx;refine (tW hC (hB.below h) k fun y hy=>?_).mono fun e w'' h9=>?_
    · rw [h8] at hy;cases hy;exact (hbd x (KR hx)).1
    · rw [h8] at h9;obtain ⟨h1,v,h2,h3⟩:=h9;exact ⟨v,h2,h3,h1⟩)
  have HUP:=hI (show ∀ (k:Nat) x w',σ.funs[k]?=some x→Below w.heap.size w w'→Calls Tryz.prog 14 #[.slice a b.length c,.int .i64 k] w' fun e w''=>∃ v,e=.returned (.tuple #[v,.int .i64 0])∧Rw gU 54 3 (fun j=>w'.heap.size≤j) w'' v x.ups∧Below w'.heap.size w' w'' from fun k x w' hx h=>by
    have h8:=vn hR.symm hx;refine (yD hC (hB.below h) k).mono fun e w'' h9=>?_;rw [h8] at h9;obtain ⟨h1,v,h2,h3⟩:=h9;exact ⟨v,h2,h3,h1⟩)
  have HIN:=hI hinv;have HBD:=hI (fun x hx=>⟨KT (Bm x) (hbd x hx).1,(hbd x hx).2⟩:∀ x ∈ σ.funs,(cF x).length≤68719476736∧x.ups.length≤60);have HFL:=hI hfl;have HUL:=hI (show σ.upL.length=N from by unfold Sc.upL;rw [List.length_map];exact hfl);have hN0:0<N:=by omega
  clear hB hC hG hR hsc hwg hinv hen hfl hxl hsz hwy hbd hN hA hT
  go_enter Tryz.func4,Tryz.ntmps4
  go_wp2_with (first
      | (go_at_call 10;(with_reducible refine (HU.out _ bw).mono ?_);rintro e w1 ⟨rfl,hb1⟩)
      | (go_at_call 6;(with_reducible refine (HSZ.out _ bw).mono ?_);rintro e w2 ⟨rfl,hb2⟩)
      | (go_at_call 12;(with_reducible refine (HFU.out _ bw).mono ?_);rintro e w3 ⟨a3,c3,rfl,⟨h31,h32,h33⟩,hb3⟩)
      | (go_at_call 11;(with_reducible refine (HEN.out _ _ _ h31 h32 h33).mono ?_);rintro e w4 ⟨v4,rfl,hr4,hb4⟩;obtain ⟨pa,pc,rfl⟩:=hr4.shape;obtain ⟨pg,rfl⟩:=hr4.some_of (fun _=>rfl) (KP (show 0<σ.upL.length by rw [HUL.out];exact hN0));rw [HUL.out] at hr4 ⊢))
  have hpc:N≤pc∧pc≤maxLen:=(hr4.read (fun _=>rfl) (KP (show 0<σ.upL.length by rw [HUL.out];exact hN0))).2;unfold maxLen at hpc;obtain ⟨hpc1,hpc2⟩:=hpc
  go_loopg [37] N (fun gk i wr=>∃ k:Nat,gk+k=N∧i=.int .i64 k∧Hid (Below w.heap.size w wr)∧Hid (Rw zF 3 1 (fun _=>True) wr (.slice (some ⟨pg,0,none⟩) N pc) σ.upL))
  case atStart=>exact ⟨0,by omega,rfl,hI bw,hI (hr4.mono fun _ _ _=>trivial)⟩
  case round =>
    obtain ⟨k,hkk,rfl,HB,HR⟩:=hrel;have HK:=hI hkk;clear hkk;by_cases hlt:k<N
    rotate_left
    · go_wp2_with (go_at_call 7;(with_reducible refine (HAW.out _ (by have:=HB.out;exact bw)).mono ?_);rintro e w5 ⟨rfl,hb5⟩)
      go_ret;exact ⟨rfl,thru hb5 HB.out⟩
    obtain ⟨x,hx⟩:∃ x,σ.funs[k]?=some x:=⟨_,KP (by rw [HFL.out];exact hlt)⟩
    have hbx:=HBD.out x (KR hx);obtain ⟨n1,hn1⟩:∃ n1,n1=(cF x).length:=⟨_,rfl⟩
    obtain ⟨n2,hn2⟩:∃ n2,n2=x.ups.length:=⟨_,rfl⟩
    have HX:=hI hx;have HN1:=hI hn1;have HN2:=hI hn2;rw [←hn1,←hn2] at hbx;obtain ⟨hb1l,hb2l⟩:=hbx;clear hb1 hb2 hb3 hb4 hr4 h31 h32 h33 hx hn1 hn2;have hBB:=HB.out
    go_wp2_with (first
      | (go_at_call 13;(with_reducible refine (HCA.out _ x _ HX.out hBB).mono ?_);rintro e w5 ⟨v5,rfl,hr5,hb5⟩;obtain ⟨a5,c5,rfl⟩:=hr5.shape;rw [←HN1.out] at hr5 ⊢;have HR5:=hI hr5;clear hr5)
      | (go_at_call 14;(with_reducible refine (HUP.out _ x _ HX.out bw).mono ?_);rintro e w6 ⟨v6,rfl,hr6,hb6⟩;obtain ⟨a6,c6,rfl⟩:=hr6.shape;rw [←HN2.out] at hr6 ⊢;have HR6:=hI hr6;clear hr6)
      | (at_make;go_loud (refine FL (n:=n1) hb1l rfl _ _ rfl rfl rfl ?_;intro w7 hb7 hr7 hl7;have HR7:=hI hr7;clear hr7)))
    obtain ⟨gs,hgs⟩:∃ gs,gs=w6.heap.size:=⟨_,rfl⟩
    have HS0:=hI (show gq σ w x n1 gs n1 (.slice (some ⟨pg,0,none⟩) N pc) (.slice a5 n1 c5) (.slice a6 n2 c6) (fun _ v=>gX σ k 0 v) w7 from by
      have h56:=thru hb6 hb5;have hz:=HB.out.size;have hz5:=h56.size;have hne:∀ j,j<w6.heap.size→j≠gs:=fun j hj=>by omega
      exact ⟨thru hb7 (thru h56 HB.out),by omega,by omega,((HR.out.keep (aq h56)).mono fun j _ hj=>hne j hj).keep (aq hb7),((HR5.out.keep (aq hb6)).mono fun j _ hj=>hne j hj).keep (aq hb7),(HR6.out.mono fun j _ hj=>hne j hj).keep (aq hb7),
        _,by rw [hgs];exact HR7.out.mono fun _ _ _=>trivial,by rw [List.length_replicate];exact HN1.out,fun j v _ h=>(JU h).elim⟩)
    rw [←hgs];have HIX:=hI (show ∃ k:Nat,gk+k=N from ⟨k,HK.out⟩);clear hgs HR5 HR6 HR7 HR HB hBB hb5 hb6 hb7 hl7;obtain ⟨g0,rfl⟩:∃ g0:Nat,g0=gk:=⟨_,rfl⟩
    go_loopg [63] N (fun gk i wi=>∃ k2:Nat,gk+k2=N∧i=.int .i64 k2∧Hid (gq σ w x n1 gs n1 (.slice (some ⟨pg,0,none⟩) N pc) (.slice a5 n1 c5) (.slice a6 n2 c6) (fun _ v=>gX σ k k2 v) wi))
    case atStart=>exact ⟨0,by omega,rfl,HS0⟩
    case round =>
    clear HS0;obtain ⟨k2,hkk,rfl,HS⟩:=hrel;have HK2:=hI hkk;clear hkk;by_cases hlt2:k2<N
    rotate_left
    · -- the fifth loop
      have hk2N:k2=N:=by have:=HK2.out;omega
      have HT:=hI (HS.out.go (Below.refl _ _) (Q:=fun _ _=>True) (fun j v hv _=>by
        have h9:=JR HIN.out HX.out (KR hv);rw [HFL.out,←hk2N] at h9;exact h9))
      clear hk2N
      go_wp2_with fail
      go_loopg [149] n1 (fun gk i wi=>∃ j:Nat,gk+j=n1∧i=.int .i64 j∧Hid (gq σ w x n1 gs n1 (.slice (some ⟨pg,0,none⟩) N pc) (.slice a5 n1 c5) (.slice a6 n2 c6) (fun _ _=>True) wi))
      case atStart=>exact ⟨0,by omega,rfl,HT⟩
      case round =>
      clear HT HS;obtain ⟨j,hjj,rfl,HS⟩:=hrel;have HJ:=hI hjj;clear hjj;by_cases hlt5:j<n1
      · obtain ⟨s,hs1,hs2⟩:=HS.out.seen;have hj:=hs2.on j _ (KP (show j<(cF x).length by have:=HN1.out;omega)) trivial
        have q1:wr.cell? ⟨gs,j,none⟩=some (.bool true):=by
          have h1:=(hs1.read (fun _=>rfl) hj).1 0 _ rfl;simpa using h1
        have qz:=HS.out.lt;clear hs1 hs2 hj
        go_wp2_with fail
        go_roundg (gk - 1)
        case rel=>exact ⟨j+1,by have:=HJ.out;omega,by go_num,HS⟩
        case measure=>have:=HJ.out;omega
      · go_wp2_with fail
        go_roundg (g0 - 1)
        case rel=>exact ⟨k+1,by have:=HK.out;omega,by go_num,hI HS.out.below,hI (HS.out.par.mono fun _ _ _=>trivial)⟩
        case measure=>have:=HK.out;omega
    obtain ⟨y,hy⟩:∃ y,σ.funs[k2]?=some y:=⟨_,KP (by rw [HFL.out];exact hlt2)⟩
    have q0:wr.cell? ⟨pg,k2,none⟩=some (.int .i64 y.up):=by
      have h1:=(HS.out.par.read (fun _=>rfl) (show σ.upL[k2]?=some y.up from by unfold Sc.upL;rw [List.getElem?_map,hy];rfl)).1 0 _ rfl;simpa using h1
    have HY:=hI hy;clear hy;by_cases hup:y.up=(k:Int)
    rotate_left
    · have hup':(y.up != (k:Int))=true:=by simp [hup]
      have HUP':=hI hup;clear hup
      go_wp2_with fail
      go_roundg (gk - 1)
      case rel=>exact ⟨k2+1,by have:=HK2.out;omega,by go_num,hI (HS.out.go (Below.refl _ _) fun j v _ h=>JS HY.out HUP'.out h)⟩
      case measure=>have:=HK2.out;omega
    have hup':(y.up != (k:Int))=false:=by rw [hup];simp
    have HUE:=hI hup;clear hup;obtain ⟨n3,hn3⟩:∃ n3,n3=y.ups.length:=⟨_,rfl⟩
    have hb3l:=(HBD.out y (KR HY.out)).2;rw [←hn3] at hb3l;have HN3:=hI hn3;clear hn3;have hBB:=HS.out.below
    go_wp2_with (go_at_call 14;(with_reducible refine (HUP.out _ y _ HY.out hBB).mono ?_);rintro e w5 ⟨v5,rfl,hr5,hb5⟩;obtain ⟨a7,c7,rfl⟩:=hr5.shape;rw [←HN3.out] at hr5 ⊢;have HR5:=hI hr5;clear hr5)
    have HS5:=hI (HS.out.go hb5 (Q:=fun _ v=>gz σ k k2 y 0 v) fun j v _ h=>JQ h);have HV5:=hI (HR5.out.mono fun j hj _=>(fun h=>by have:=HS.out.lt;omega:j≠gs));clear HR5 HS q0 hb5 hBB;obtain ⟨g1,rfl⟩:∃ g1:Nat,g1=gk:=⟨_,rfl⟩
    go_loopg [82] n3 (fun gk i wi=>∃ i2:Nat,gk+i2=n3∧i=.int .i64 i2∧Hid (gq σ w x n1 gs n1 (.slice (some ⟨pg,0,none⟩) N pc) (.slice a5 n1 c5) (.slice a6 n2 c6) (fun _ v=>gz σ k k2 y i2 v) wi)∧Hid (Rw gU 54 3 (fun j=>j≠gs) wi (.slice a7 n3 c7) y.ups))
    case atStart=>exact ⟨0,by omega,rfl,HS5,HV5⟩
    case round =>
    clear HS5 HV5;obtain ⟨i2,hii,rfl,HS,HV⟩:=hrel;have HI2:=hI hii;clear hii;by_cases hlt3:i2<n3
    rotate_left
    · have HE:=hI (HS.out.go (Below.refl _ _) (Q:=fun _ v=>gX σ k (k2+1) v) fun j v _ h=>by
        have h1:=JT HY.out h;rw [←HN3.out] at h1
        rwa [show i2=n3 by have:=HI2.out;omega])
      go_wp2_with fail
      go_roundg (g1 - 1)
      case rel=>exact ⟨k2+1,by have:=HK2.out;omega,by go_num,HE⟩
      case measure=>have:=HK2.out;omega
    obtain ⟨⟨nm,loc,ix⟩,hu⟩:∃ u,y.ups[i2]?=some u:=⟨_,KP (by rw [←HN3.out];exact hlt3)⟩
    obtain ⟨g7,rfl⟩:=HV.out.some_of (fun _=>rfl) hu;obtain ⟨hr,hc7,hm7⟩:=HV.out.read (fun _=>rfl) hu;unfold maxLen at hm7;have r0:=hr 0 _ rfl;have r1:=hr 1 _ rfl;have r2:=hr 2 _ rfl;simp only [Nat.add_zero] at r0;have HUU:=hI hu;clear hr hu;cases loc
    · obtain ⟨z,e,hz1,hz2⟩:=J6 HIN.out HY.out HUU.out HUE.out;obtain rfl:x=z:=by have h9:=HX.out;rw [hz1] at h9;cases h9;rfl
      obtain ⟨g6,rfl⟩:=HS.out.ups.some_of (fun _=>rfl) hz2;obtain ⟨hr6,hc6,hm6⟩:=HS.out.ups.read (fun _=>rfl) hz2;unfold maxLen at hm6;have q6:=hr6 0 _ rfl;simp only [Nat.add_zero] at q6;have hix:ix<n2:=by rw [HN2.out];exact (KQ hz2).1
      have hcl:¬ n2≤ix:=by omega
      have hcl2:decide (n2≤ix)=false:=by simp;omega
      have hcl3:¬ (ix:Int)<0:=by omega
      have hcl4:decide ((ix:Int)<0)=false:=by simp
      clear hr6 hz1 hz2
      go_wp2_with fail
      go_quiet (fail)
      go_wp2_with fail
      have hbq:Below wr.heap.size wr (wr.drewN nq):=bw
      go_roundg (gk - 1)
      case rel=>exact ⟨i2+1,by have:=HI2.out;omega,by go_num,hI (HS.out.go hbq fun j v _ h=>JO HUU.out h),hI (HV.out.keep (aq hbq))⟩
      case measure=>have:=HI2.out;omega
    · have HS4:=hI (HS.out.go (Below.refl _ _) (Q:=fun (j':Nat) v=>gz σ k k2 y i2 v∨(j'<0∧v=(ix:Int))) fun j v _ h=>h.elim id fun h=>by omega);have HV4:=hI HV.out;have HF4:=hI (show ∀ j':Nat,j'<0→(cF x)[j']?=some (ix:Int)→false=true from fun j' h=>by omega)
      go_wp2_with fail
      clear HS HV r0 r1 r2;obtain ⟨g2,rfl⟩:∃ g2:Nat,g2=gk:=⟨_,rfl⟩
      go_loopg [16,126] n1 (fun gk f i wi=>∃ (j:Nat) (fb:Bool),gk+j=n1∧i=.int .i64 j∧f=.bool fb∧Hid (gq σ w x n1 gs n1 (.slice (some ⟨pg,0,none⟩) N pc) (.slice a5 n1 c5) (.slice a6 n2 c6) (fun (j':Nat) v=>gz σ k k2 y i2 v∨(j'<j∧v=(ix:Int))) wi)∧Hid (Rw gU 54 3 (fun j=>j≠gs) wi (.slice (some ⟨g7,0,none⟩) n3 c7) y.ups)∧Hid (∀ j':Nat,j'<j→(cF x)[j']?=some (ix:Int)→fb=true))
      case atStart=>exact ⟨0,false,by omega,rfl,rfl,HS4,HV4,HF4⟩
      case round =>
      clear HS4 HV4 HF4;obtain ⟨j,fb,hjj,rfl,rfl,HS,HV,HF⟩:=hrel;have HJ:=hI hjj;clear hjj;by_cases hlt4:j<n1
      rotate_left
      · have hje:j=n1:=by have:=HJ.out;omega
        obtain rfl:fb=true:=by
          obtain ⟨z,hz1,hz2⟩:=J7 HIN.out HY.out HUU.out HUE.out;obtain rfl:x=z:=by have h9:=HX.out;rw [hz1] at h9;cases h9;rfl
          have h3:(ix:Int) ∈ cF x:=(tV x _).2 ⟨ix,hz2,rfl⟩;obtain ⟨j',hj',h4⟩:=List.getElem_of_mem h3;exact HF.out j' (by have:=HN1.out;omega) (by rw [KP hj',h4])
        have HE:=hI (HS.out.go (Below.refl _ _) (Q:=fun _ v=>gz σ k k2 y (i2+1) v) fun j' v hv h=>by
          rcases JP HUU.out h with h1|h1
          · exact .inl h1
          · exact .inr ⟨by have:=(KQ hv).1;have:=HN1.out;omega,h1⟩)
        clear hje
        go_wp2_with fail
        go_roundg (g2 - 1)
        case rel=>exact ⟨i2+1,by have:=HI2.out;omega,by go_num,HE,HV⟩
        case measure=>have:=HI2.out;omega
      obtain ⟨z,hz⟩:∃ z,(cF x)[j]?=some z:=⟨_,KP (by have:=HN1.out;omega)⟩
      obtain ⟨g5,rfl⟩:=HS.out.cap.some_of (fun _=>rfl) hz;obtain ⟨hr5,hc5,hm5⟩:=HS.out.cap.read (fun _=>rfl) hz;have q5:wr.cell? ⟨g5,j,none⟩=some (.int .i64 z):=by have:=hr5 0 _ rfl;simpa using this
      have r2:=(HV.out.read (fun _=>rfl) HUU.out).1 2 _ rfl;unfold maxLen at hm5;have HZ:=hI hz;clear hr5 hz;by_cases hzx:z=(ix:Int)
      · subst hzx;obtain ⟨s,hs1,hs2⟩:=HS.out.seen;obtain ⟨sb,hsb⟩:∃ sb,s[j]?=some sb:=⟨_,KP (by have:=HN1.out;have:=hs2.len;omega)⟩
        have hf1:=fun i=>hs1.free i
        have q1:wr.cell? ⟨gs,j,none⟩=some (.bool sb):=by
          have h1:=(hs1.read (fun _=>rfl) hsb).1 0 _ rfl;simpa using h1
        have qz:=HS.out.lt;clear hs1 hs2 hsb
        go_wp2_with fail
        go_quiet (fail)
        go_wp2_with fail
        have hbq:Below wr.heap.size wr (wr.drewN nq):=bw
        go_roundg (gk - 1)
        case rel=>exact ⟨j+1,true,by have:=HJ.out;omega,by go_num,rfl,hI ((HS.out.go hbq fun j' v _ h=>h).tick (by have:=HN1.out;omega) fun j' v hv h=>by
          rcases h with h|⟨h1,h2⟩
          · exact .inl (.inl h)
          · rcases Nat.lt_or_ge j' j with h3|h3
            · exact .inl (.inr ⟨h3,h2⟩)
            · right;omega),hI (HV.out.keep ((aq hbq).set (fun h=>h rfl) _)),hI (fun _ _ _=>rfl)⟩
        case measure=>have:=HJ.out;omega
      · have hzx':(z==(ix:Int))=false:=by simp [hzx]
        have HZX:=hI hzx
        go_wp2_with fail
        go_quiet (fail)
        go_wp2_with fail
        have hbq:Below wr.heap.size wr (wr.drewN nq):=bw
        have hne:∀ j':Nat,j'<j+1→(cF x)[j']?=some (ix:Int)→j'<j:=fun j' h1 h2=>by
          rcases Nat.lt_or_ge j' j with h3|h3
          · exact h3
          · obtain rfl:j'=j:=by omega
            have h4:=HZ.out;rw [h2] at h4;cases h4;exact (HZX.out rfl).elim
        go_roundg (gk - 1)
        case rel=>exact ⟨j+1,fb,by have:=HJ.out;omega,by go_num,rfl,hI (HS.out.go hbq fun j' v hv h=>by
          rcases h with h|⟨h1,h2⟩
          · exact .inl h
          · exact .inr ⟨hne j' h1 (by rw [hv,h2]),h2⟩),hI (HV.out.keep (aq hbq)),hI (fun j' h1 h2=>HF.out j' (hne j' h1 h2) h2)⟩
        case measure=>have:=HJ.out;omega
