/- The arguments that are trees, weighed with their letters: from the reading of an argument to the tree that it holds. -/
import Derived.Test.YtaddbmkkkollpaaGreatDoorD0
import Derived.Test.YtaddbmkkkollpaaGreatDoorRows
import Derived.Test.YtaddbmkkkollpaaGreatDoorC1
import Derived.OpenShut
import Derived.ChangeArms
import Derived.DataReads
import Derived.WideShapes
import Derived.Test.YtaddbmkkkollpaaGreatDoorP0
namespace Go.Proofs.YtaddbmkkkollpaaGreatDoor
open Go.RowKit Go.ChangeShapes Go.WideShapes
set_option linter.unusedVariables false
set_option linter.unusedSimpArgs false
theorem list_of {α:Type} {Q:Nat→α→Prop}:∀ {n:Nat},(∀ i,i<n→∃ z,Q i z)→∃ l:List α,l.length=n∧∀ (i:Nat) z,l[i]?=some z→Q i z
  | 0,_=>⟨[],rfl,fun i z h=>by simp at h⟩
  | n+1,h=>by
    obtain ⟨l,hl,hq⟩:=list_of (n:=n) (fun i hi=>h i (by omega));obtain ⟨z,hz⟩:=h n (by omega);refine ⟨l++[z],by simp [hl],fun i y hy=>?_⟩;rcases (by omega:i<n∨n≤i) with hi|hi
    · rw [List.getElem?_append_left (by omega)] at hy;exact hq i y hy
    · rw [List.getElem?_append_right (by omega),hl] at hy
      have h0:i - n=0:=by
        cases hk:i - n with
        | zero=>rfl
        | succ k=>rw [hk] at hy;simp at hy
      rw [h0] at hy;simp at hy;subst hy;have:i=n:=by omega
      subst this;exact hz
section
variable {H:Type} {enc:TypeId × Value→H} {W:World}
def Fits (t:TypeId) (d:DataW H):Prop:=∀ m ∈ d.weights Tryz.prog t,m≤LM
theorem Fits.all {e:TypeId} {l:List (DataW H)} (h:∀ m ∈ DataW.weightsAll Tryz.prog e l,m≤LM) {d:DataW H} (hd:d ∈ l):Fits e d:=by
  induction l with
  | nil=>cases hd
  | cons x r ih =>
    simp only [DataW.weightsAll,List.mem_append] at h;rcases List.mem_cons.1 hd with rfl|hd
    · exact fun m hm=>h m (.inl hm)
    · exact ih (fun m hm=>h m (.inr hm)) hd
theorem bulk_mem {d:DataW H} {l:List (DataW H)} (h:d ∈ l):Rows.uptoBulk d≤Rows.uptoBulkAll l:=by
  induction l with
  | nil=>cases h
  | cons x r ih =>
    simp only [Rows.uptoBulkAll];rcases List.mem_cons.1 h with rfl|h
    · omega
    · have:=ih h;omega
theorem bulk_sum {α:Type} {μ:α→Nat}:∀ {l:List α} {ds:List (DataW H)},l.length=ds.length→(∀ (i:Nat) z d,l[i]?=some z→ds[i]?=some d→μ z≤Rows.uptoBulk d)→(l.map μ).sum≤Rows.uptoBulkAll ds
  | [],[],_,_=>by simp
  | [],_::_,h,_=>by simp at h
  | _::_,[],h,_=>by simp at h
  | z::l,d::ds,h,hi=>by
    simp only [List.map_cons,List.sum_cons,Rows.uptoBulkAll];have h0:=hi 0 z d rfl rfl;have h1:=bulk_sum (l:=l) (ds:=ds) (by simpa using h) (fun i z d h1 h2=>hi (i+1) z d (by simpa using h1) (by simpa using h2));omega
theorem slice_of {α:Type} {n:Nat} {t e:TypeId} (ht:Tryz.prog.underlying t=some (.slice e)) {sz bytes:Nat} (hsz:Tryz.prog.cellsOf e=sz) (hpos:0<sz) (hby:Tryz.prog.bytesOf e=bytes) {R:α→List Value→Prop} {μ:α→Nat}
    (hE:∀ cs x,DataW.trod enc Tryz.prog W 0 (fun _=>true) true n e cs=some x→Fits e x.1→∃ y,R y cs∧μ y≤Rows.uptoBulk x.1)
    {cs:List Value} {x:DataW H × List MemPlace} (h:DataW.trod enc Tryz.prog W 0 (fun _=>true) true (n+1) t cs=some x) (hw:Fits t x.1) :
    ∃ (l:List α) (a:Option Addr) (c:Nat),cs=[.slice a l.length c]∧l.length≤c∧c≤MX∧c*bytes≤LM∧Rows (fun _=>True) W sz R l a∧(l.map μ).sum+1≤Rows.uptoBulk x.1:=by
  rcases DataW.trod_slice ht h with ⟨rfl,rfl⟩|⟨a,len,cap,elems,rest,n',hn,rfl,rfl,hb,hlc,hcm,hel,helem,hrest,-⟩
  · exact ⟨[],none,0,rfl,Nat.le_refl _,Nat.zero_le _,by simp,Rows.nil _,by simp [Rows.uptoBulk]⟩
  · obtain rfl:n'=n:=by omega
    have hfit:((elems.map (·.1)).length+(rest.map (·.1)).length)*bytes≤LM∧∀ m ∈ DataW.weightsAll Tryz.prog e (elems.map (·.1)),m≤LM:=by
      unfold Fits at hw;simp only [DataW.weights,ht,hby] at hw;exact ⟨hw _ (List.mem_cons_self ..),fun m hm=>hw m (List.mem_cons_of_mem _ (List.mem_append_left _ hm))⟩
    have hrl:=(hrest rfl).1
    have hex:∀ i,i<len→∃ z,∃ cs y,elems[i]?=some y∧W.rangeAt a.block (a.off+i*sz) cs∧(0<len→a.spot=none∧a.block<W.heap.size)∧R z cs∧μ z≤Rows.uptoBulk y.1:=by
      intro i hi;have h1:=helem i hi;have h2:elems[i]?=some (elems[i]'(by omega)):=List.getElem?_eq_getElem (by omega);rw [h2] at h1;obtain ⟨cs,hc,ht'⟩:=Option.bind_eq_some_iff.1 h1;obtain ⟨-,hcl,hat⟩:=World.cells?_some hc;rw [hsz] at hc hcl hat;obtain ⟨z,hz,hm⟩:=hE cs _ ht' (Fits.all hfit.2 (List.mem_map_of_mem (List.getElem_mem _)))
      have hsp:a.spot=none∧a.block<W.heap.size:=by
        have h0:=helem 0 (by omega);have h02:elems[0]?=some (elems[0]'(by omega)):=List.getElem?_eq_getElem (by omega);rw [h02] at h0;obtain ⟨cs0,hc0,-⟩:=Option.bind_eq_some_iff.1 h0;obtain ⟨-,hcl0,hat0⟩:=World.cells?_some hc0;rw [hsz] at hcl0 hat0;have h3:=hat0 0 hpos;have h4:cs0[0]?=some (cs0[0]'(by omega)):=List.getElem?_eq_getElem (by omega);rw [h4,Nat.zero_mul] at h3;have h5:W.cell? a=some (cs0[0]'(by omega)):=by simpa [Addr.add] using h3
        refine ⟨?_,World.block_lt_of_cell? W a h5⟩;unfold World.cell? at h5;split at h5
        · split at h5
          · cases h5
          · rename_i hh;simpa using hh
        · cases h5
      refine ⟨z,cs,_,h2,?_,fun _=>hsp,hz,hm⟩;intro j v hv;have hj:j<sz:=by rw [←hcl];exact (List.getElem?_eq_some_iff.1 hv).1
      have h6:=hat j hj;rw [hv] at h6
      have h7:(a.add (i*sz)).add j=⟨a.block,a.off+i*sz+j,none⟩:=by
        obtain ⟨ab,ao,asp⟩:=a;simp only at hsp;obtain ⟨rfl,-⟩:=hsp;simp only [Addr.add];split <;> split <;> simp_all
      rw [h7] at h6;exact h6
    obtain ⟨l,hl,hq⟩:=list_of hex;refine ⟨l,some a,cap,by rw [hl],by omega,by unfold maxLen at hcm;unfold MX;exact hcm,?_,?_,?_⟩
    · have:=hfit.1;simp only [List.length_map] at this
      rwa [hel,hrl,Nat.add_sub_cancel' hlc] at this
    · by_cases h0:len=0
      · have:l=[]:=List.length_eq_zero_iff.1 (by omega);subst this;exact Rows.nil _
      · have hsp:a.spot=none∧a.block<W.heap.size:=by
          obtain ⟨z,cs,y,-,-,h3,-⟩:=hex 0 (by omega);exact h3 (by omega)
        refine ⟨a.block,a.off,fun _=>⟨?_,trivial,hsp.2⟩,fun i z hz=>?_⟩
        · obtain ⟨ab,ao,asp⟩:=a;simp only at hsp;rw [hsp.1]
        · obtain ⟨cs,y,-,h2,-,h4,-⟩:=hq i z hz;exact ⟨cs,h2,h4⟩
    · simp only [Rows.uptoBulk]
      have:(l.map μ).sum≤Rows.uptoBulkAll (elems.map (·.1)):=by
        refine bulk_sum (by rw [hl,List.length_map,hel]) (fun i z d h1 h2=>?_);obtain ⟨cs,y,h3,-,-,-,h5⟩:=hq i z h1;rw [List.getElem?_map,h3] at h2;cases h2;exact h5
      omega
theorem Fits.each:∀ {ts:List TypeId} {ds:List (DataW H)} (i:Nat) {t:TypeId} {d:DataW H},(∀ m ∈ DataW.weightsEach Tryz.prog ts ds,m≤LM)→ts[i]?=some t→ds[i]?=some d→Fits t d
  | [],_,i,_,_,_,h,_=>by simp at h
  | _::_,[],i,_,_,_,_,h=>by simp at h
  | t0::ts,d0::ds,0,_,_,hw,h1,h2=>by
    simp at h1 h2;subst h1 h2;exact fun m hm=>hw m (by simp only [DataW.weightsEach,List.mem_append];exact .inl hm)
  | t0::ts,d0::ds,i+1,_,_,hw,h1,h2=>Fits.each (ts:=ts) (ds:=ds) i (fun m hm=>hw m (by simp only [DataW.weightsEach,List.mem_append];exact .inr hm)) (by simpa using h1) (by simpa using h2)
abbrev TR (enc:TypeId × Value→H) (W:World) (n:Nat) (t:TypeId) (cs:List Value) (x:DataW H × List MemPlace):Prop:=DataW.trod enc Tryz.prog W 0 (fun _=>true) true n t cs=some x
theorem struct_of {n:Nat} {t:TypeId} {fs:Array Field} {cs:List Value} {x:DataW H × List MemPlace} (ht:Tryz.prog.underlying t=some (.struct fs)) (h:DataW.trod enc Tryz.prog W 0 (fun _=>true) true (n+1) t cs=some x) (hw:Fits t x.1) :
    ∃ xs:List (DataW H × List MemPlace),x.1=.agg (xs.map (·.1))∧cs.length=Tryz.prog.cellsOf t∧xs.length=fs.size ∧
      ∀ (i:Nat) (f:Field) (t' o k:Nat),fs[i]?=some f→f.type=t'→f.offset=o→Tryz.prog.cellsOf t'=k→∃ y,xs[i]?=some y∧TR enc W n t' ((cs.drop o).take k) y∧Fits t' y.1:=by
  obtain ⟨xs,n',hn,rfl,hl,hxl,hf⟩:=DataW.trod_struct ht h;obtain rfl:n'=n:=by omega
  refine ⟨xs,rfl,hl,hxl,fun i f t' o k hi he1 he2 he3=>?_⟩;subst he1 he2 he3;have h1:=hf i f hi;have hlt:i<xs.length:=by rw [hxl];exact (Array.getElem?_eq_some_iff.1 hi).1
  have h2:xs[i]?=some (xs[i]'hlt):=List.getElem?_eq_getElem hlt;refine ⟨xs[i]'hlt,h2,h1.trans h2,?_⟩;unfold Fits at hw;simp only [DataW.weights,ht] at hw;exact Fits.each i hw (by rw [List.getElem?_map,Array.getElem?_toList,hi];rfl) (by rw [List.getElem?_map,h2];rfl)
theorem cInt:Tryz.prog.cellsOf 3=1:=by kernel_rfl
theorem cBool:Tryz.prog.cellsOf 4=1:=by kernel_rfl
theorem cStr:Tryz.prog.cellsOf 9=1:=by kernel_rfl
theorem cNum:Tryz.prog.cellsOf 33=2:=by kernel_rfl
theorem cExpr:Tryz.prog.cellsOf 37=8:=by kernel_rfl
theorem cFunc:Tryz.prog.cellsOf 81=5:=by kernel_rfl
theorem cStat:Tryz.prog.cellsOf 64=7:=by kernel_rfl
theorem cLocal:Tryz.prog.cellsOf 69=2:=by kernel_rfl
theorem cExprs:Tryz.prog.cellsOf 34=1:=by kernel_rfl
theorem cFuncs:Tryz.prog.cellsOf 35=1:=by kernel_rfl
theorem cStats:Tryz.prog.cellsOf 22=1:=by kernel_rfl
theorem cBlocks:Tryz.prog.cellsOf 62=1:=by kernel_rfl
theorem cLocals:Tryz.prog.cellsOf 61=1:=by kernel_rfl
theorem cStrs:Tryz.prog.cellsOf 79=1:=by kernel_rfl
theorem bStr:Tryz.prog.bytesOf 9=16:=by kernel_rfl
theorem bExpr:Tryz.prog.bytesOf 37=104:=by kernel_rfl
theorem bFunc:Tryz.prog.bytesOf 81=80:=by kernel_rfl
theorem bStat:Tryz.prog.bytesOf 64=128:=by kernel_rfl
theorem bLocal:Tryz.prog.bytesOf 69=24:=by kernel_rfl
theorem bStats:Tryz.prog.bytesOf 22=24:=by kernel_rfl
theorem w64b {n:Int} (h:(Lit.int .i64 n).wf=true):W64 n:=bounds_i64 h
theorem TR.succ {n:Nat} {t:TypeId} {cs:List Value} {x:DataW H × List MemPlace} (h:TR enc W n t cs x):∃ m,n=m+1:=by
  cases n with
  | zero=>exact absurd (show (none:Option (DataW H × List MemPlace))=some x from h) (fun h=>by cases h)
  | succ m=>exact ⟨m,rfl⟩
theorem str_of {n:Nat} {cs:List Value} {x:DataW H × List MemPlace} (h:TR enc W n 9 cs x):∃ s:ByteArray,strR s cs∧s.size≤Rows.uptoBulk x.1:=by
  obtain ⟨s,rfl,rfl,hs⟩:=DataW.trod_string Tryz.underlying9 h;refine ⟨s,⟨rfl,by unfold maxLen at hs;unfold MX;exact hs⟩,?_⟩;simp only [Rows.uptoBulk];have:s.data.toList.length=s.size:=Array.length_toList;omega
theorem len2 {l:List Value} (h:l.length=2):∃ a b,l=[a,b]:=by
  rcases l with _|⟨a,_|⟨b,_|⟨c,r⟩⟩⟩ <;> simp at h
  exact ⟨a,b,rfl⟩
theorem num_of {n:Nat} {cs:List Value} {x:DataW H × List MemPlace} (h:TR enc W n 33 cs x) (hw:Fits 33 x.1):∃ p q:Int,cs=[.int .i64 p,.int .i64 q]∧W64 p∧W64 q:=by
  obtain ⟨m,rfl⟩:=h.succ;obtain ⟨xs,hx,hl,hxl,hf⟩:=struct_of Tryz.underlying33 h hw;rw [cNum] at hl;obtain ⟨c0,c1,rfl⟩:=len2 hl;obtain ⟨y0,-,t0,-⟩:=hf 0 _ _ _ _ rfl rfl rfl cInt;obtain ⟨y1,-,t1,-⟩:=hf 1 _ _ _ _ rfl rfl rfl cInt;obtain ⟨p,hp,rfl,hpw⟩:=DataW.trod_int Tryz.underlying3 t0;obtain ⟨q,hq,rfl,hqw⟩:=DataW.trod_int Tryz.underlying3 t1;cases hp;cases hq;exact ⟨p,q,rfl,w64b hpw,w64b hqw⟩
theorem int_of {n:Nat} {cs:List Value} {x:DataW H × List MemPlace} (h:TR enc W n 3 cs x):∃ k:Int,cs=[.int .i64 k]∧W64 k:=by
  obtain ⟨k,hk,rfl,hkw⟩:=DataW.trod_int Tryz.underlying3 h;exact ⟨k,hk,w64b hkw⟩
theorem len8 {l:List Value} (h:l.length=8):∃ a b c d e f g i,l=[a,b,c,d,e,f,g,i]:=by
  rcases l with _|⟨a,_|⟨b,_|⟨c,_|⟨d,_|⟨e,_|⟨f,_|⟨g,_|⟨i,_|⟨j,r⟩⟩⟩⟩⟩⟩⟩⟩⟩ <;> simp at h
  exact ⟨a,b,c,d,e,f,g,i,rfl⟩
theorem len5 {l:List Value} (h:l.length=5):∃ a b c d e,l=[a,b,c,d,e]:=by
  rcases l with _|⟨a,_|⟨b,_|⟨c,_|⟨d,_|⟨e,_|⟨j,r⟩⟩⟩⟩⟩⟩ <;> simp at h
  exact ⟨a,b,c,d,e,rfl⟩
theorem len7 {l:List Value} (h:l.length=7):∃ a b c d e f g,l=[a,b,c,d,e,f,g]:=by
  rcases l with _|⟨a,_|⟨b,_|⟨c,_|⟨d,_|⟨e,_|⟨f,_|⟨g,_|⟨j,r⟩⟩⟩⟩⟩⟩⟩⟩ <;> simp at h
  exact ⟨a,b,c,d,e,f,g,rfl⟩
theorem sum_mem {d:DataW H × List MemPlace} {xs:List (DataW H × List MemPlace)} {i:Nat} (h:xs[i]?=some d):d.1 ∈ xs.map (·.1):=List.mem_map_of_mem (List.mem_of_getElem? h)
theorem bulk_two:∀ {xs:List (DataW H × List MemPlace)} {i j:Nat} {a b:DataW H × List MemPlace},i<j→xs[i]?=some a→xs[j]?=some b→Rows.uptoBulk a.1+Rows.uptoBulk b.1≤Rows.uptoBulkAll (xs.map (·.1))
  | [],i,_,_,_,_,h,_=>by simp at h
  | x::r,0,j+1,a,b,_,h1,h2=>by
    simp at h1;subst h1;have:=bulk_mem (sum_mem (i:=j) (by simpa using h2));simp only [List.map_cons,Rows.uptoBulkAll];omega
  | x::r,i+1,j+1,a,b,hij,h1,h2=>by
    have:=bulk_two (xs:=r) (i:=i) (j:=j) (by omega) (by simpa using h1) (by simpa using h2);simp only [List.map_cons,Rows.uptoBulkAll];omega
theorem bulk_three:∀ {xs:List (DataW H × List MemPlace)} {i j k:Nat} {a b c:DataW H × List MemPlace},i<j→j<k→xs[i]?=some a→xs[j]?=some b→xs[k]?=some c→Rows.uptoBulk a.1+Rows.uptoBulk b.1+Rows.uptoBulk c.1≤Rows.uptoBulkAll (xs.map (·.1))
  | [],i,_,_,_,_,_,_,_,h,_,_=>by simp at h
  | x::r,0,j+1,k+1,a,b,c,_,hjk,h1,h2,h3=>by
    simp at h1;subst h1;have:=bulk_two (xs:=r) (i:=j) (j:=k) (by omega) (by simpa using h2) (by simpa using h3);simp only [List.map_cons,Rows.uptoBulkAll];omega
  | x::r,i+1,j+1,k+1,a,b,c,hij,hjk,h1,h2,h3=>by
    have:=bulk_three (xs:=r) (i:=i) (j:=j) (k:=k) (by omega) (by omega) (by simpa using h1) (by simpa using h2) (by simpa using h3);simp only [List.map_cons,Rows.uptoBulkAll];omega
end
section
variable {H:Type} {enc:TypeId × Value→H} {W:World}
theorem bulk_at {xs:List (DataW H × List MemPlace)} {i:Nat} {a:DataW H × List MemPlace} (h:xs[i]?=some a):Rows.uptoBulk a.1+Rows.uptoBulkAll ((xs.drop (i+1)).map (·.1))=Rows.uptoBulkAll ((xs.drop i).map (·.1)):=by
  obtain ⟨hlt,he⟩:=List.getElem?_eq_some_iff.1 h;have e:xs.drop i=a::xs.drop (i+1):=by rw [List.drop_eq_getElem_cons hlt,he]
  rw [e];rfl
theorem bulk_le:∀ (xs:List (DataW H × List MemPlace)) (i:Nat),Rows.uptoBulkAll ((xs.drop (i+1)).map (·.1))≤Rows.uptoBulkAll ((xs.drop i).map (·.1))
  | [],i=>by simp
  | x::r,0=>by simp [Rows.uptoBulkAll]
  | x::r,i+1=>by simpa using bulk_le r i
theorem stry_of {n:Nat} {cs:List Value} {x:DataW H × List MemPlace} (h:TR enc W n 9 cs x):∃ s:ByteArray,strR s cs∧1+s.size≤Rows.uptoBulk x.1:=by
  obtain ⟨s,rfl,rfl,hs⟩:=DataW.trod_string Tryz.underlying9 h;refine ⟨s,⟨rfl,by unfold maxLen at hs;unfold MX;exact hs⟩,?_⟩;simp only [Rows.uptoBulk];have:s.data.toList.length=s.size:=Array.length_toList;omega
theorem localy_of {n:Nat} {cs:List Value} {x:DataW H × List MemPlace} (h:TR enc W n 69 cs x) (hw:Fits 69 x.1):∃ y:ByteArray × Int,locR y cs∧1+y.1.size≤Rows.uptoBulk x.1:=by
  obtain ⟨m,rfl⟩:=h.succ;obtain ⟨xs,hx,hl,hxl,hf⟩:=struct_of Tryz.underlying69 h hw;rw [cLocal] at hl;obtain ⟨c0,c1,rfl⟩:=len2 hl;obtain ⟨y0,g0,t0,-⟩:=hf 0 _ _ _ _ rfl rfl rfl cStr;obtain ⟨y1,-,t1,-⟩:=hf 1 _ _ _ _ rfl rfl rfl cInt;obtain ⟨s,⟨hs,hs2⟩,hsz⟩:=stry_of t0;obtain ⟨k,hk,rfl,hkw⟩:=DataW.trod_int Tryz.underlying3 t1;cases hs;cases hk;refine ⟨(s,k),⟨rfl,hs2,w64b hkw⟩,?_⟩;rw [hx];simp only [Rows.uptoBulk];have:=bulk_mem (sum_mem g0);omega
theorem wys_sumR (l:List Ex):Ex.wys l=(l.map Ex.wy).sum:=by induction l with|nil=>rfl|cons x r ih=>simp [Ex.wys,ih]
theorem fwys_sum (l:List Fn):Fn.wys l=(l.map Fn.wy).sum:=by induction l with|nil=>rfl|cons x r ih=>simp [Fn.wys,ih]
theorem swys_sum (l:List St):St.wys l=(l.map St.wy).sum:=by induction l with|nil=>rfl|cons x r ih=>simp [St.wys,ih]
theorem wyss_sumR (l:List (List St)):St.wyss l=(l.map fun b=>1+St.wys b).sum:=by induction l with|nil=>rfl|cons x r ih=>simp [St.wyss,ih]
def PEy (enc:TypeId × Value→H) (W:World) (n:Nat):Prop:=∀ cs x,TR enc W n 37 cs x→Fits 37 x.1→∃ y:Ex,exR (fun _=>True) W y cs∧y.wy≤Rows.uptoBulk x.1
def PFy (enc:TypeId × Value→H) (W:World) (n:Nat):Prop:=∀ cs x,TR enc W n 81 cs x→Fits 81 x.1→∃ y:Fn,fnR (fun _=>True) W y cs∧y.wy≤Rows.uptoBulk x.1
def PSy (enc:TypeId × Value→H) (W:World) (n:Nat):Prop:=∀ cs x,TR enc W n 64 cs x→Fits 64 x.1→∃ y:St,stR (fun _=>True) W y cs∧y.wy≤Rows.uptoBulk x.1
theorem pe_stepy {n:Nat} (hE:∀ m,m<n→PEy enc W m) (hF:∀ m,m<n→PFy enc W m):PEy enc W n:=by
  intro cs x h hw;obtain ⟨m,rfl⟩:=h.succ;obtain ⟨xs,hx,hl,hxl,hf⟩:=struct_of Tryz.underlying37 h hw;rw [cExpr] at hl;obtain ⟨c0,c1,c2,c3,c4,c5,c6,c7,rfl⟩:=len8 hl;obtain ⟨y0,-,t0,-⟩:=hf 0 _ _ _ _ rfl rfl rfl cInt;obtain ⟨y1,-,t1,-⟩:=hf 1 _ _ _ _ rfl rfl rfl cInt;obtain ⟨y2,-,t2,-⟩:=hf 2 _ _ _ _ rfl rfl rfl cInt;obtain ⟨y3,-,t3,u3⟩:=hf 3 _ _ _ _ rfl rfl rfl cNum;obtain ⟨y4,g4,t4,-⟩:=hf 4 _ _ _ _ rfl rfl rfl cStr;obtain ⟨y5,g5,t5,u5⟩:=hf 5 _ _ _ _ rfl rfl rfl cExprs;obtain ⟨y6,g6,t6,u6⟩:=hf 6 _ _ _ _ rfl rfl rfl cFuncs;obtain ⟨k,hk,wk⟩:=int_of t0;obtain ⟨o,ho,wo⟩:=int_of t1;obtain ⟨l,hl',wl⟩:=int_of t2;obtain ⟨p,q,hpq,wp,wq⟩:=num_of t3 u3;obtain ⟨s,⟨hs,ws⟩,hsz⟩:=str_of t4;obtain ⟨j,rfl⟩:=t5.succ;obtain ⟨args,a,c,ha,ha1,ha2,ha3,ha4,ha5⟩:=slice_of (R:=exR (fun _=>True) W) (μ:=Ex.wy) Tryz.underlying34 cExpr (by omega) bExpr (hE j (by omega)) t5 u5;obtain ⟨funcs,fa,fc,hb,hb1,hb2,hb3,hb4,hb5⟩:=slice_of (R:=fnR (fun _=>True) W) (μ:=Fn.wy) Tryz.underlying35 cFunc (by omega) bFunc (hF j (by omega)) t6 u6;cases hk;cases ho;cases hl';cases hpq;cases hs;cases ha;cases hb;refine ⟨.mk k o l p q s args funcs,⟨⟨a,c,fa,fc⟩,rfl,?_⟩,?_⟩
  · refine Ex.at_iff.2 ⟨⟨wk,wo,wl,wp,wq,ws⟩,⟨ha1,⟨ha2,?_⟩,hb1,hb2,?_⟩,ha4,hb4⟩
    · exact Nat.le_trans (Nat.mul_le_mul_right _ ha1) ha3
    · exact Nat.le_trans (Nat.mul_le_mul_right _ hb1) hb3
  · rw [hx];simp only [Rows.uptoBulk,Ex.wy,wys_sumR,fwys_sum];have:=bulk_three (by omega:4<5) (by omega:5<6) g4 g5 g6;omega
theorem pf_stepy {n:Nat} (hS:∀ m,m<n→PSy enc W m):PFy enc W n:=by
  intro cs x h hw;obtain ⟨m,rfl⟩:=h.succ;obtain ⟨xs,hx,hl,hxl,hf⟩:=struct_of Tryz.underlying81 h hw;rw [cFunc] at hl;obtain ⟨c0,c1,c2,c3,c4,rfl⟩:=len5 hl;obtain ⟨y0,g0,t0,-⟩:=hf 0 _ _ _ _ rfl rfl rfl cStr;obtain ⟨y1,g1,t1,u1⟩:=hf 1 _ _ _ _ rfl rfl rfl cStrs;obtain ⟨y2,-,t2,-⟩:=hf 2 _ _ _ _ rfl rfl rfl cBool;obtain ⟨y3,g3,t3,u3⟩:=hf 3 _ _ _ _ rfl rfl rfl cStats;obtain ⟨y4,-,t4,-⟩:=hf 4 _ _ _ _ rfl rfl rfl cInt;obtain ⟨s,⟨hs,ws⟩,hsz⟩:=stry_of t0;obtain ⟨v,hv,-⟩:=DataW.trod_bool Tryz.underlying4 t2;obtain ⟨l,hl',wl⟩:=int_of t4;obtain ⟨j,rfl⟩:=t1.succ;obtain ⟨ps,a,c,ha,ha1,ha2,ha3,ha4,ha5⟩:=slice_of (R:=strR) (μ:=fun s=>1+s.size) Tryz.underlying79 cStr (by omega) bStr (fun cs x h _=>stry_of h) t1 u1;obtain ⟨body,ba,bc,hb,hb1,hb2,hb3,hb4,hb5⟩:=slice_of (R:=stR (fun _=>True) W) (μ:=St.wy) Tryz.underlying22 cStat (by omega) bStat (hS j (by omega)) t3 u3;cases hs;cases hv;cases hl';cases ha;cases hb;refine ⟨.mk s ps v body l,⟨⟨a,c,ba,bc⟩,rfl,?_⟩,?_⟩
  · refine Fn.at_iff.2 ⟨⟨ws,wl⟩,⟨ha1,⟨ha2,?_⟩,hb1,hb2,?_⟩,ha4,hb4⟩
    · exact Nat.le_trans (Nat.mul_le_mul_right _ ha1) ha3
    · exact Nat.le_trans (Nat.mul_le_mul_right _ hb1) hb3
  · rw [hx];simp only [Rows.uptoBulk,Fn.wy,psW,swys_sum];have e0:=bulk_at g0;have e1:=bulk_at g1;have e2:=bulk_le xs 2;have e3:=bulk_at g3;simp only [List.drop_zero,Nat.zero_add,Nat.reduceAdd] at *;omega
theorem ps_stepy {n:Nat} (hE:∀ m,m<n→PEy enc W m) (hS:∀ m,m<n→PSy enc W m):PSy enc W n:=by
  intro cs x h hw;obtain ⟨m,rfl⟩:=h.succ;obtain ⟨xs,hx,hl,hxl,hf⟩:=struct_of Tryz.underlying64 h hw;rw [cStat] at hl;obtain ⟨c0,c1,c2,c3,c4,c5,c6,rfl⟩:=len7 hl;obtain ⟨y0,-,t0,-⟩:=hf 0 _ _ _ _ rfl rfl rfl cInt;obtain ⟨y1,-,t1,-⟩:=hf 1 _ _ _ _ rfl rfl rfl cInt;obtain ⟨y2,g2,t2,u2⟩:=hf 2 _ _ _ _ rfl rfl rfl cLocals;obtain ⟨y3,g3,t3,u3⟩:=hf 3 _ _ _ _ rfl rfl rfl cExprs;obtain ⟨y4,g4,t4,u4⟩:=hf 4 _ _ _ _ rfl rfl rfl cExprs;obtain ⟨y5,g5,t5,u5⟩:=hf 5 _ _ _ _ rfl rfl rfl cBlocks;obtain ⟨y6,g6,t6,-⟩:=hf 6 _ _ _ _ rfl rfl rfl cStr;obtain ⟨k,hk,wk⟩:=int_of t0;obtain ⟨l,hl',wl⟩:=int_of t1;obtain ⟨s,⟨hs,ws⟩,hsz⟩:=stry_of t6;obtain ⟨j,rfl⟩:=t2.succ;obtain ⟨ns,na,nc,hn,hn1,hn2,hn3,hn4,hn5⟩:=slice_of (R:=locR) (μ:=fun x=>1+x.1.size) Tryz.underlying61 cLocal (by omega) bLocal (fun cs x h hw=>localy_of h hw) t2 u2;obtain ⟨left,la,lc,hL,hL1,hL2,hL3,hL4,hL5⟩:=slice_of (R:=exR (fun _=>True) W) (μ:=Ex.wy) Tryz.underlying34 cExpr (by omega) bExpr (hE j (by omega)) t3 u3;obtain ⟨right,ra,rc,hR,hR1,hR2,hR3,hR4,hR5⟩:=slice_of (R:=exR (fun _=>True) W) (μ:=Ex.wy) Tryz.underlying34 cExpr (by omega) bExpr (hE j (by omega)) t4 u4
  obtain ⟨blocks,ba,bc,hB,hB1,hB2,hB3,hB4,hB5⟩:=slice_of (R:=blR (fun _=>True) W) (μ:=fun b=>1+St.wys b) Tryz.underlying62 cStats (by omega) bStats (fun cs x h hw=>by
    obtain ⟨i,rfl⟩:=TR.succ h;obtain ⟨b,a,c,hc,h1,h2,h3,h4,h5⟩:=slice_of (R:=stR (fun _=>True) W) (μ:=St.wy) Tryz.underlying22 cStat (by omega) bStat (hS i (by omega)) h hw;exact ⟨b,⟨a,c,hc,⟨h1,h2,Nat.le_trans (Nat.mul_le_mul_right _ h1) h3⟩,St.ats_iff.2 h4⟩,by rw [swys_sum];omega⟩) t5 u5
  cases hk;cases hs;cases hl';cases hn;cases hL;cases hR;cases hB;refine ⟨.mk k l ns left right blocks s,⟨⟨na,nc,la,lc,ra,rc,ba,bc⟩,rfl,?_⟩,?_⟩
  · refine St.at_iff.2 ⟨⟨wk,wl,ws⟩,⟨hn1,⟨hn2,?_⟩,hL1,⟨hL2,?_⟩,hR1,⟨hR2,?_⟩,hB1,hB2,?_⟩,hn4,hL4,hR4,hB4⟩
    · exact Nat.le_trans (Nat.mul_le_mul_right _ hn1) hn3
    · exact Nat.le_trans (Nat.mul_le_mul_right _ hL1) hL3
    · exact Nat.le_trans (Nat.mul_le_mul_right _ hR1) hR3
    · exact Nat.le_trans (Nat.mul_le_mul_right _ hB1) hB3
  · rw [hx];simp only [Rows.uptoBulk,St.wy,nsW,wys_sumR,wyss_sumR];have e0:=bulk_le xs 0;have e1:=bulk_le xs 1;have e2:=bulk_at g2;have e3:=bulk_at g3;have e4:=bulk_at g4;have e5:=bulk_at g5;have e6:=bulk_at g6;simp only [List.drop_zero,Nat.zero_add,Nat.reduceAdd] at *;omega
theorem p_ally (n:Nat):∀ m,m<n→PEy enc W m∧PFy enc W m∧PSy enc W m:=by
  induction n with
  | zero=>exact fun m hm=>absurd hm (by omega)
  | succ n ih =>
    intro m hm;by_cases h:m<n
    · exact ih m h
    · obtain rfl:m=n:=by omega
      exact ⟨pe_stepy (fun k hk=>(ih k hk).1) (fun k hk=>(ih k hk).2.1),pf_stepy (fun k hk=>(ih k hk).2.2),ps_stepy (fun k hk=>(ih k hk).1) (fun k hk=>(ih k hk).2.2)⟩
set_option maxRecDepth 100000 in
theorem open_stsy {b0:Nat} {v:Value} {d:DataW H} {ps:List MemPlace} (hval:Value.okWide Tryz.prog W .any b0 22 v) (hd:DataW.Trod enc Tryz.prog W 0 (fun _=>true) true 22 v d ps) (hw:Fits 22 d) :
    ∃ (x:List St) (a:Option Addr) (c:Nat),v=.slice a x.length c∧(x.length≤c∧c≤MX∧x.length*128≤LM)∧St.Ats (fun _=>True) W x a∧St.wys x+1≤Rows.uptoBulk d:=by
  obtain ⟨a,len,cap,rfl⟩:=okWide_slice Tryz.underlying22 hval;obtain ⟨fuel,hf⟩:=hd;obtain ⟨i,rfl⟩:=TR.succ hf;obtain ⟨b,a',c,hc,h1,h2,h3,h4,h5⟩:=slice_of (R:=stR (fun _=>True) W) (μ:=St.wy) Tryz.underlying22 cStat (by omega) bStat ((p_ally (enc:=enc) (W:=W) (i+1) i (by omega)).2.2) hf hw;cases hc;exact ⟨b,a,cap,rfl,⟨h1,h2,Nat.le_trans (Nat.mul_le_mul_right _ h1) h3⟩,St.ats_iff.2 h4,by rw [swys_sum];exact h5⟩
end
end Go.Proofs.YtaddbmkkkollpaaGreatDoor
