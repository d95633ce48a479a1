/- Chunks one behind the other in memory; law07.large; the law PrinterJoins, but the examples. -/
import Derived.Test.YtalopgnjgbiopaaGreatDoorPU
import Derived.Test.YtalopgnjgbiopaaGreatDoorTD
namespace Go.Proofs.YtalopgnjgbiopaaGreatDoor
open Go.RowKit
set_option linter.unusedVariables false
set_option linter.unusedSimpArgs false
theorem info_stat:(Tryz.prog.info? 38).map (fun i=>(i.zero,i.size,i.bytes))=some (some (.agg #[.int .i64 0,.int .i64 0,.slice none 0 0,.slice none 0 0,.slice none 0 0,.slice none 0 0,.string ⟨#[]⟩]),7,128):=by kernel_rfl
theorem wpList_append_opt {P:Program} (w:World) {ops:Array Oper} {rest:List Oper} {o:Oper} {a:Act} {Q:Exit→Act→World→Prop}
    (hgd:o.guard=none) (s x:Operand) (t:TypeId) (hop:o.op=.call { callee:=.builtin .append,args:=#[s,x],argTypes:=#[t,t] })
    (base:Nat) (e:TypeId) (i:TypeInfo) (z:Value) (size bytes:Nat) (ht:P.underlying t=some (.slice e)) (hi:P.info? e=some i) (hz:i.zero=some z)
    (hsize:i.size=size) (hby:i.bytes=bytes) (hzs:z.cells.size=size) (hsz:0<size)
    (v:Value) (n:Nat) (xs:List Value) (hs:a.eval s=v) (hown:w.ownsRow base e size v n xs)
    (xa:Option Addr) (m c:Nat) (news:List Value) (hx:a.eval x=.slice xa m c) (hnone:xa=none→m=0) (hl:news.length=m*size)
    (hnews:∀ ad,xa=some ad→∀ j u,news[j]?=some u→w.cell? (ad.add j)=some u) (h1:∀ u ∈ news,u.oneCell'=true)
    (h63:n+m≤maxLen) (hbytes:(n+m)*bytes≤140737488355328) (hbase:base≤w.heap.size)
    (h:∀ v' w',w'.ownsRow base e size v' (n+m) (xs++news)→w.grownBy w' v.ownBlock→wpList P ops Q rest (a.put o.dst v') w'):wpList P ops Q (o::rest) a w:=by
  cases xa with
  | none =>
    have hm:=hnone rfl;subst hm;have hn:news=[]:=List.eq_nil_of_length_eq_zero (by simpa using hl);subst hn
    have hrun:(Builtin.append_ #[t,t] o.type #[v,.slice none 0 c]).run P w=.ok v w:=by
      rcases hown.2 with ⟨rfl,rfl⟩|⟨g,cap,cur,rfl,hbg,hgg,hnc,hcm,hcs,htake⟩
      · simp [Builtin.append_,run_underlying ht,sizeOf,typeInfo,hi,Builtin.lenOf,Builtin.firstCells,loadCells,loadCellsFrom]
      · simp [Builtin.append_,run_underlying ht,sizeOf,typeInfo,hi,Builtin.lenOf,Builtin.firstCells,loadCells,loadCellsFrom,hnc,storeCells]
    refine wpList_plain hgd fun K hK=>?_;unfold Oper.wp;simp [execOp,hop,resolve,invoke,builtin,hs,hx,hrun,Result.andThen];exact hK _ _ (h _ w (by simpa using hown) (World.grownBy.refl _ _))
  | some ad=>exact wpList_append_own w hgd s x t hop base e i z size bytes ht hi hz hsize hby hzs hsz v n xs hs hown ad m c news hx hl (hnews ad rfl) h1 h63 hbytes hbase fun v' w' r1 r2 _=>h v' w' r1 r2
theorem range_join {w:World} {b o:Nat} {xs ys:List Value} (h:w.rangeAt b o xs) (k:w.rangeAt b (o+xs.length) ys):w.rangeAt b o (xs++ys):=by
  intro j v hv;by_cases hj:j<xs.length
  · exact h j v (by rwa [List.getElem?_append_left hj] at hv)
  · rw [List.getElem?_append_right (by omega)] at hv;have:=k (j - xs.length) v hv
    rwa [show o+xs.length+(j - xs.length)=o+j by omega] at this
def stC (p:St × SA):List Value:=p.1.cells p.2
theorem stC_len (p:St × SA):(stC p).length=7:=rfl
theorem ats_pairs {w:World}:∀ {l:List St} {a:Option Addr},St.Ats AllB w l a→∃ ps:List (St × SA),ps.map (·.1)=l∧(∀ p ∈ ps,p.1.At AllB w p.2)∧(l≠[]→∃ b off,a=some ⟨b,off,none⟩∧b<w.heap.size∧w.rangeAt b off (ps.flatMap stC))
  | [],a,_=>⟨[],rfl,by simp,fun h=>absurd rfl h⟩
  | x::r,a,⟨b,off,d,h0,_,hlt,hr,hx,hrest⟩=>by
    obtain ⟨ps,h1,h2,h3⟩:=ats_pairs hrest;refine ⟨(x,d)::ps,by simp [h1],?_,fun _=>⟨b,off,h0,hlt,?_⟩⟩
    · intro p hp;rcases List.mem_cons.1 hp with rfl|hp
      · exact hx
      · exact h2 p hp
    · rw [List.flatMap_cons];refine range_join hr ?_;by_cases hr0:r=[]
      · subst hr0;have:ps=[]:=List.map_eq_nil_iff.1 h1;subst this;intro j v hv;simp at hv
      · obtain ⟨b',off',h4,-,h5⟩:=h3 hr0;simp only [Option.some.injEq,Addr.mk.injEq] at h4;obtain ⟨rfl,rfl,-⟩:=h4;exact h5
theorem flat_get {α β:Type} {f:α→List β} {n:Nat} (h:∀ x,(f x).length=n):∀ (l:List α) (i:Nat) (x:α) (j:Nat),l[i]?=some x→j<n→(l.flatMap f)[i*n+j]?=(f x)[j]?
  | [],i,x,j,hx,_=>by simp at hx
  | y::r,0,x,j,hx,hj=>by
    simp at hx;subst hx;simp only [List.flatMap_cons,Nat.zero_mul,Nat.zero_add];rw [List.getElem?_append_left (by rw [h];exact hj)]
  | y::r,i+1,x,j,hx,hj=>by
    simp only [List.flatMap_cons];rw [List.getElem?_append_right (by rw [h,Nat.add_mul];omega),h,show (i+1)*n+j - n=i*n+j from by rw [Nat.add_mul];omega];exact flat_get h r i x j (by simpa using hx) hj
theorem flat_len {α β:Type} {f:α→List β} {n:Nat} (h:∀ x,(f x).length=n) (l:List α):(l.flatMap f).length=l.length*n:=by
  induction l with
  | nil=>simp
  | cons a r ih=>rw [List.flatMap_cons,List.length_append,h,ih,List.length_cons,Nat.add_mul];omega
theorem pairs_ats {w:World} {base:Nat} {v:Value} {ps:List (St × SA)} (h:w.ownsRow base 38 7 v ps.length (ps.flatMap stC)) (hp:∀ p ∈ ps,p.1.At AllB w p.2) :
    ∃ a c,v=.slice a ps.length c∧ps.length≤c∧c≤maxLen∧St.Ats AllB w (ps.map (·.1)) a:=by
  rcases h.2 with ⟨rfl,hn⟩|⟨g,cap,cur,rfl,hg,hgg,hnc,hcm,hcs,htake⟩
  · have:ps=[]:=List.length_eq_zero_iff.1 hn;subst this;exact ⟨none,0,rfl,Nat.le_refl _,Nat.zero_le _,trivial⟩
  · refine ⟨some ⟨g,0,none⟩,cap,rfl,hnc,hcm,St.ats_iff.2 ⟨g,0,fun _=>⟨rfl,trivial,new_lt hgg⟩,fun i x hx=>?_⟩⟩;rw [List.getElem?_map] at hx;obtain ⟨p,hpi,rfl⟩:=Option.map_eq_some_iff.1 hx;refine ⟨stC p,fun j u hu=>?_,p.2,rfl,hp p (List.mem_of_getElem? hpi)⟩;have hj:j<7:=(List.getElem?_eq_some_iff.1 hu).1;rw [box_cell0 hgg];have h3:(cur.toList.take (ps.length*7))[i*7+j]?=some u:=by rw [htake,flat_get stC_len ps i p j hpi hj];exact hu
    rw [List.getElem?_take] at h3;split at h3
    · simpa using h3
    · cases h3
def largeB (b:List St):Bool:=(checkV b != 0) || decide (2000<mSs b)
set_option maxRecDepth 100000 in
set_option maxHeartbeats 4000000 in
theorem large_law (b:List St) (a:Option Addr) (c:Nat) (w:World) (hw:St.wys b≤4194304) (h1:b.length≤c) (h2:c≤MX) (h3:b.length*128≤LM) (hat:St.Ats AllB w b a) :
    Calls Tryz.prog 13 #[.slice a b.length c] w fun e w'=>e=.returned (.bool (largeB b))∧Below w.heap.size w w':=by
  have hwz:St.wzs b≤1073741824:=by have:=St.wzs_wy b;omega
  have hsz:=St.szs_wz b;have hsm:mSs b≤1073741824:=Nat.le_trans (mSs_sz b) (by omega);have hwn:wN (nSs b)=(mSs b:Int):=by rw [nSs_m];unfold wN wrap64;omega
  have HA:=hI hat;have HCK:=hI (show ∀ w',Below w.heap.size w w'→Calls Tryz.prog 23 #[.slice a b.length c] w' fun e w''=>e=.returned (.int .i64 (checkV b))∧Below w'.heap.size w' w'' from fun w' hb=>rcheck_any b a c w' hwz h1 h2 h3 (HA.out.keep (keep_below hb) (fun _ h=>h)));have HSZ:=hI (show ∀ w',Below w.heap.size w w'→Calls Tryz.prog 7 #[.slice a b.length c] w' fun e w''=>e=.returned (.int .i64 (mSs b:Int))∧Below w'.heap.size w' w'' from fun w' hb=>(size_any b a c w' h1 h2 (HA.out.keep (keep_below hb) (fun _ h=>h))).mono fun e w'' ⟨he,m,hm⟩=>⟨by rw [he,hwn],by rw [hm];exact bdrewN (Below.refl _ _) _⟩);have hL:largeB b=((checkV b != 0) || decide (2000<mSs b)):=rfl;obtain ⟨r,hr⟩:∃ r,r=largeB b:=⟨_,rfl⟩
  rw [←hr] at hL ⊢;obtain ⟨v,hv⟩:∃ v,v=checkV b:=⟨_,rfl⟩
  obtain ⟨m,hm⟩:∃ m,m=mSs b:=⟨_,rfl⟩
  rw [←hv] at hL HCK;rw [←hm] at hL HSZ;have HL:=hI hL;clear hat hwz hsz hsm hwn hL hr hv hm hw h1 h2 h3;by_cases hv0:v=0
  · have t0:(v != 0)=false:=by rw [hv0];rfl
    have e:r=decide (2000<m):=by rw [HL.out,t0];rfl
    subst e;clear HL hv0
    go_enter Tryz.func13,Tryz.ntmps13
    go_wp2_with (first
      | (go_at_call 23;(with_reducible refine (HCK.out _ bw).mono ?_);rintro e w2 ⟨rfl,hb2⟩)
      | (go_at_call 7;(with_reducible refine (HSZ.out _ bw).mono ?_);rintro e w3 ⟨rfl,hb3⟩))
    go_ret;refine ⟨?_,thru hb3 hb2⟩
    first
      | rfl
      | (refine congrArg (fun b=>Ending.returned (.bool b)) ?_;rw [decide_eq_decide];omega)
  · have t0:(v != 0)=true:=by simp;exact hv0
    have e:r=true:=by rw [HL.out,t0];rfl
    subst e;clear HL hv0
    go_enter Tryz.func13,Tryz.ntmps13
    go_wp2_with (go_at_call 23;(with_reducible refine (HCK.out _ bw).mono ?_);rintro e w2 ⟨rfl,hb2⟩)
    go_ret;exact ⟨rfl,hb2⟩
theorem join_text {A B:List St} (hA:largeB A=false) (hB:largeB B=false) (hl:∀ s,A.getLast?=some s→s.kind≠11) (h1:(chunkR A).2=0) (h2:(chunkR B).2=0) (h3:(chunkR A).1.size+(chunkR B).1.size≤65536) :
    chunkR (A++B)=((chunkR A).1++(chunkR B).1,0):=by
  have big:∀ {b:List St},largeB b=false→checkV b=0∧mSs b≤2000:=by
    intro b h;unfold largeB at h;simp at h;exact ⟨h.1,h.2⟩
  obtain ⟨a1,a2⟩:=big hA;obtain ⟨b1,b2⟩:=big hB
  have txt:∀ {b:List St},checkV b=0→(chunkR b).2=0→(chunkR b).1=⟨(chunkT b).toArray⟩∧(chunkT b).length≤65536:=by
    intro b h h9;unfold chunkR at h9 ⊢;rw [if_pos h] at h9 ⊢;unfold boundB at h9 ⊢;split at h9
    · rename_i hl;rw [if_pos hl];exact ⟨rfl,hl⟩
    · cases h9
  obtain ⟨a3,a4⟩:=txt a1 h1;obtain ⟨b3,b4⟩:=txt b1 h2
  have dep:∀ {b:List St},checkV b=0→1+dSs b≤64:=by
    intro b h;unfold checkV at h;split at h
    · exact absurd h (by decide)
    · omega
  have c1:checkV (A++B)=0:=by
    unfold checkV;rw [if_neg]
    · exact errSs_append (check_zero a1) (check_zero b1) hl
    · rw [mSs_append,dSs_append];have:=dep a1;have:=dep b1;omega
  have c2:chunkT (A++B)=chunkT A++chunkT B:=tSs_append 0 A B;unfold chunkR at *;rw [if_pos c1,c2];rw [if_pos a1] at a3 h3 ⊢;rw [if_pos b1] at b3 h3 ⊢;rw [a3,b3] at h3 ⊢;have s1:(⟨(chunkT A).toArray⟩:ByteArray).size=(chunkT A).length:=List.size_toArray;have s2:(⟨(chunkT B).toArray⟩:ByteArray).size=(chunkT B).length:=List.size_toArray;rw [s1,s2] at h3;unfold boundB;rw [if_pos (by rw [List.length_append];exact h3)];refine Prod.ext (of_bsOf' ?_) rfl;have e:∀ a b:ByteArray,(a++b).data.toList=a.data.toList++b.data.toList:=fun a b=>bsOf_append a b;simp only [e]
end Go.Proofs.YtalopgnjgbiopaaGreatDoor
