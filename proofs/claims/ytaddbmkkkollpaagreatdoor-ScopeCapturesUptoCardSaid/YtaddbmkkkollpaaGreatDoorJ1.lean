import Derived.Test.YtaddbmkkkollpaaGreatDoorE1
import Derived.Test.YtaddbmkkkollpaaGreatDoorJ0
import Derived.StillTailTactics
import Derived.RegionTactic
import Derived.Deep.RegionHeld3
import Derived.Deep.DeepCutAuto
import Derived.Deep.LoopGhost
import Derived.Deep.RegionWith
set_option linter.all false
namespace Go.Proofs.YtaddbmkkkollpaaGreatDoor
set_option maxHeartbeats 4000000
set_option maxRecDepth 100000
open Go.RowKit
structure Gs (p:Nat) (w w':World):Prop where
  os:w'.os=w.os
  tape:w'.tape=w.tape
  output:w'.output=w.output
  size:w.heap.size≤w'.heap.size
  block:∀ k,k<w.heap.size→k≠p→w'.heap[k]?=w.heap[k]?
theorem Gs.refl (p:Nat) (w:World):Gs p w w:=⟨rfl,rfl,rfl,KU _,fun _ _ _=>rfl⟩
theorem Gs.thru {p:Nat} {w b c:World} (h:Gs p b c) (k:Gs p w b):Gs p w c :=
  ⟨h.os.trans k.os,h.tape.trans k.tape,h.output.trans k.output,KT k.size h.size,fun i hi hn=>(h.block i (KS hi k.size) hn).trans (k.block i hi hn)⟩
theorem Gs.of_below {p:Nat} {w w':World} (h:Below w.heap.size w w'):Gs p w w':=⟨h.os,h.tape,h.output,h.size,fun k hk _=>h.block k hk⟩
theorem Gs.below {p:Nat} {w b c:World} (h:Below b.heap.size b c) (k:Gs p w b):Gs p w c:=(Gs.of_below h).thru k
theorem Gs.alloc {p:Nat} {w b:World} (k:Gs p w b) (o:Obj):Gs p w (b.alloc o):=Gs.below (aH (Below.refl _ _) o) k
theorem Gs.drewN {p:Nat} {w b:World} (k:Gs p w b) (n:Nat):Gs p w (b.drewN n):=Gs.below (dQ (Below.refl _ _) n) k
theorem Gs.drew {p:Nat} {w b:World} (k:Gs p w b):Gs p w b.drew:=Gs.below (Below.drew (Below.refl _ _)) k
theorem Gs.set {p:Nat} {w b:World} (k:Gs p w b) {a:Addr} (ha:a.block=p∨w.heap.size≤a.block) (v:Value):Gs p w (b.setCell a v) :=
  ⟨k.os,k.tape,k.output,by simpa [World.setCell] using k.size,fun i hi hn=>by rw [Below.heap_setCell _ _ _ _ (fun e=>by rcases ha with h|h;exact hn (e.trans h);omega)];exact k.block i hi hn⟩
theorem Gs.grown {p:Nat} {w b c:World} {row:Option Nat} (hg:b.grownBy c row) (hr:∀ k,row=some k→w.heap.size≤k) (k:Gs p w b):Gs p w c :=
  ⟨hg.os.trans k.os,hg.tape.trans k.tape,hg.output.trans k.output,KT k.size hg.size,fun i hi hn=>(hg.block i (KS hi k.size) (fun e=>by have:=hr i e.symm;omega)).trans (k.block i hi hn)⟩
theorem Gs.keep {p:Nat} {w w':World} {F:Nat→Prop} (h:Gs p w w') (hF:¬ F p):af F w w':=⟨h.size,fun k hk hl=>h.block k hl (fun e=>hF (e ▸ hk))⟩
theorem Gs.box {p b:Nat} {w w':World} {o:Obj} (h:Gs p w w') (hb:w.heap[b]?=some o) (hne:b≠p):w'.heap[b]?=some o:=(h.block b (ae hb) hne).trans hb
theorem Gs.to_below {B p:Nat} {w w':World} (h:Gs p w w') (hp:B≤p) (hB:B≤w.heap.size):Below B w w':=⟨h.os,h.tape,h.output,h.size,fun k hk=>h.block k (by omega) (by omega)⟩
def kM (t:Tk):List Value:=[.int .i64 t.kind,.string t.text,.int .i64 t.line,.int .i64 t.pos]
def jX (t:Tk) (cs:List Value):Prop:=cs=kM t∧t.text.size≤MX∧aJ t.kind∧aJ t.line∧aJ t.pos
structure PC where
  p:Nat
  L:List Tk
  ta:Option Addr
  tc:Nat
structure PC.At (C:PC) (w:World) (l:List Tk):Prop where
  box:∃ i,i≤C.L.length∧l=C.L.drop i∧w.heap[C.p]?=some (.cells #[.slice C.ta C.L.length C.tc,.int .i64 (i:Int)] 128)
  row:aj (fun k=>k<C.p) w 4 jX C.L C.ta
  cap:C.L.length≤65536
theorem PC.At.mv {C:PC} {w w':World} {l:List Tk} (h:C.At w l) (hb:Below w.heap.size w w'):C.At w' l:=by
  obtain ⟨i,h1,h2,h3⟩:=h.box;exact ⟨⟨i,h1,h2,aD hb h3⟩,h.row.keep (aq hb) (fun _ h=>h) (fun _ _ _ h=>h),h.cap⟩
theorem PC.At.gs {C:PC} {w w':World} {l l':List Tk} {i:Nat} (h:C.At w l) (hg:Gs C.p w w') (hi:i≤C.L.length) (hl:l'=C.L.drop i)
    (hb:w'.heap[C.p]?=some (.cells #[.slice C.ta C.L.length C.tc,.int .i64 (i:Int)] 128)):C.At w' l' :=
  ⟨⟨i,hi,hl,hb⟩,h.row.keep (hg.keep (Nat.lt_irrefl _)) (fun _ h=>h) (fun _ _ _ h=>h),h.cap⟩
theorem PC.At.ca {C:PC} {w w':World} {l:List Tk} (h:C.At w l) (hk:af (fun k=>k≤C.p) w w'):C.At w' l:=by
  obtain ⟨i,h1,h2,h3⟩:=h.box;exact ⟨⟨i,h1,h2,(hk.block _ (KU _) (ae h3)).trans h3⟩,h.row.keep (hk.weak fun k hk=>Nat.le_of_lt hk) (fun _ h=>h) (fun _ _ _ h=>h),h.cap⟩
theorem PC.At.tok {C:PC} {w:World} {l:List Tk} (h:C.At w l) {i:Nat} {t:Tk} (ht:C.L[i]?=some t):∃ b off,C.ta=some ⟨b,off,none⟩∧b<C.p∧b<w.heap.size∧w.rangeAt b (off+i*4) (kM t)∧t.text.size≤MX∧aJ t.kind∧aJ t.line∧aJ t.pos:=by
  obtain ⟨b,off,h1,h2⟩:=h.row;have hne:C.L≠[]:=by intro h0;rw [h0] at ht;simp at ht
  obtain ⟨h3,h4,h5⟩:=h1 hne;obtain ⟨cs,hr,rfl,h6⟩:=h2 i t ht;exact ⟨b,off,h3,h4,h5,hr,h6⟩
theorem wS {L:List Tk} {i:Nat} {t:Tk} (h:L[i]?=some t):L.drop i=t::L.drop (i+1):=by
  obtain ⟨hi,rfl⟩:=KQ h;exact List.drop_eq_getElem_cons hi
theorem cP (C:PC) (l:List Tk) (w:World) (h:C.At w l) :
    Calls Tryz.prog 87 #[.pointer (some ⟨C.p,0,none⟩)] w fun e w'=>e=.returned (.agg #[.int .i64 (aa l).kind,.string (aa l).text,.int .i64 (aa l).line,.int .i64 (aa l).pos])∧Below w.heap.size w w':=by
  obtain ⟨p,L,ta,tc⟩:=C;have HA:=hI h;obtain ⟨i,hi,rfl,hbox⟩:=h.box;have hcap:=h.cap;simp only at hi hbox hcap;clear h;have kb:=fun j=>ac hbox j;have kz:=ae hbox;clear hbox;by_cases hlt:i<L.length
  · obtain ⟨t,ht⟩:∃ t,L[i]?=some t:=⟨_,KP hlt⟩
    obtain ⟨b,off,rfl,hpb,hlb,hr,-⟩:=HA.out.tok (i:=i) ht;have hne:b≠p:=Nat.ne_of_lt hpb;have HN:=hI (wS ht);have c0:=hr 0 _ rfl;have c1:=hr 1 _ rfl;have c2:=hr 2 _ rfl;have c3:=hr 3 _ rfl;simp only [Nat.add_zero] at c0;clear hr ht
    go_enter Tryz.func87,Tryz.ntmps87
    go_wp2_with fail
    go_quiet (fail)
    go_wp2_with fail
    go_region
    all_goals
      go_wp2_with fail
      refine bodyPost_ret (v:=.agg #[.int .i64 t.kind,.string t.text,.int .i64 t.line,.int .i64 t.pos]) (by simp [results,Tryz.results87,go_sem]) rfl ?_;exact ⟨by rw [HN.out];rfl,bw⟩
  · have HN:=hI (show L.drop i=[] from List.drop_eq_nil_of_le (by omega))
    go_enter Tryz.func87,Tryz.ntmps87
    go_wp2_with fail
    go_quiet (fail)
    go_wp2_with fail
    refine bodyPost_ret (v:=.agg #[.int .i64 0,.string ⟨#[]⟩,.int .i64 0,.int .i64 0]) (by simp [results,Tryz.results87,go_sem]) rfl ?_;exact ⟨by rw [HN.out];rfl,bw⟩
theorem vQ (s:Sb) (l:List Tk):ar s l=(((aa l).kind==2 || (aa l).kind==5) && (aa l).text.data.toList==s):=by cases l <;> rfl
theorem Ew (C:PC) (s:ByteArray) (l:List Tk) (w:World) (h:C.At w l) :
    Calls Tryz.prog 58 #[.pointer (some ⟨C.p,0,none⟩),.string s] w fun e w'=>e=.returned (.bool (ar s.data.toList l))∧Below w.heap.size w w':=by
  have HN:=hI (cP C l w h);rw [vQ];generalize aa l=t at HN;cases h1:(t.kind==2) <;> cases h2:(t.kind==5)
  all_goals
    go_enter Tryz.func58,Tryz.ntmps58
    go_wp2_with (go_at_call 87;(with_reducible refine HN.out.mono ?_);rintro e w2 ⟨rfl,hb2⟩)
    go_ret;exact ⟨by simp [ByteArray.toList_eq],bw⟩
def jB (n:Int):List PanicEntry:=[{ v:=.iface 126 (.agg #[.int .i64 n,.int .i64 4]),recovered:=false }]
theorem Fe {L:List Tk} {i:Nat} {t:Tk} (h:L[i]?=some t):gd L (L.drop i)=t.line:=by rw [wS h];rfl
theorem Ff {L:List Tk} {i:Nat} (h:L.length≤i):gd L (L.drop i)=(L.getLast?.map (·.line)).getD 1:=by rw [List.drop_eq_nil_of_le h];rfl
theorem zq {P:Prop} (h:P:=by
  go_wp2_with fail
  go_quiet (fail)
  go_wp2_with fail
  exact ⟨rfl,by rw [HN.out,HT.out];rfl,bw⟩):P:=h
theorem i7 (C:PC) (l:List Tk) (w:World) (h:C.At w l) :
    Calls Tryz.prog 55 #[.pointer (some ⟨C.p,0,none⟩)] w fun e w'=>e=.panicked (jB (gd C.L l))∧Below w.heap.size w w':=by
  obtain ⟨p,L,ta,tc⟩:=C;have HA:=hI h;obtain ⟨i,hi,rfl,hbox⟩:=h.box;have hcap:=h.cap;simp only at hi hbox hcap;clear h;have kb:=fun j=>ac hbox j;have kz:=ae hbox;clear hbox;by_cases hlt:i<L.length
  · obtain ⟨t,ht⟩:∃ t,L[i]?=some t:=⟨_,KP hlt⟩
    obtain ⟨b,off,rfl,hpb,hlb,hr,-⟩:=HA.out.tok (i:=i) ht;have hne:b≠p:=Nat.ne_of_lt hpb;have HN:=hI (Fe ht);have c2:=hr 2 _ rfl;clear hr ht
    go_enter Tryz.func55,Tryz.ntmps55
    go_wp2_with fail
    go_quiet (fail)
    go_wp2_with fail
    go_quiet (fail)
    go_wp2_with fail
    exact ⟨rfl,by rw [HN.out];rfl,bw⟩
  · have HN:=hI (Ff (L:=L) (i:=i) (by omega));by_cases h0:0<L.length
    · obtain ⟨t,ht⟩:∃ t,L[L.length - 1]?=some t:=⟨_,KP (by omega)⟩
      obtain ⟨b,off,rfl,hpb,hlb,hr,-⟩:=HA.out.tok (i:=L.length - 1) ht;have hne:b≠p:=Nat.ne_of_lt hpb;have HT:=hI (show L.getLast?=some t by rw [List.getLast?_eq_getElem?];exact ht);have c2:=hr 2 _ rfl;clear hr ht
      go_enter Tryz.func55,Tryz.ntmps55
      go_wp2_with fail
      go_quiet (fail)
      exact zq
    · have HT:=hI (show L.getLast?=none by rw [List.length_eq_zero_iff.1 (by omega:L.length=0)];rfl)
      go_enter Tryz.func55,Tryz.ntmps55
      exact zq
structure ai {α:Type} (C:PC) (V:α→World→World→Value→Prop) (r:az α) (w:World) (e:Ending) (w':World):Prop where
  gs:Gs C.p w w'
  ok:∀ x l,r=.ok x l→∃ u,e=.returned u∧V x w w' u∧C.At w' l
  bad:∀ l,r=.bad l→e=.panicked (jB (gd C.L l))
def sy (t:Tk) (w w':World) (u:Value):Prop:=u=.agg #[.int .i64 t.kind,.string t.text,.int .i64 t.line,.int .i64 t.pos]∧t.text.size≤MX∧aJ t.kind∧aJ t.line
theorem gw {p:Nat} {w w':World} (h:Gs p w w':=by repeat with_reducible first|exact Gs.refl _ _|assumption|refine Gs.alloc ?_ _|refine Gs.drewN ?_ _|refine Gs.drew ?_|refine Gs.set ?_ (by first|exact Or.inl rfl|(right;simp;done)|(right;simp;omega)) _|refine Gs.below (by assumption) ?_|refine Gs.thru (by assumption) ?_):Gs p w w':=h
theorem kw {n:Nat} {w w':World} (h:af (fun k=>k≤n) w w':=by repeat with_reducible first|exact af.refl _ _|refine af.alloc ?_ _|refine af.set ?_ (by simp;omega) _|refine af.drewN ?_ _|refine af.drew ?_|refine af.thru (by assumption) ?_):af (fun k=>k≤n) w w':=h
theorem bS {w:World} {b:Nat} {o:Option Obj} {a:Addr} {v:Value} (h:w.heap[b]?=o) (hne:a.block≠b):(w.setCell a v).heap[b]?=o:=by rw [Below.heap_setCell _ _ _ _ (fun e=>hne e.symm)];exact h
theorem qj {w:World} {b:Nat} {o:Option Obj} (h:w.heap[b]?=o):w.drew.heap[b]?=o:=h
theorem Bc {w:World} {b n:Nat} {o:Option Obj} (h:w.heap[b]?=o):(w.drewN n).heap[b]?=o:=by rw [←h];exact (dQ (Below.refl (b+1) w) n).block b (by omega)
theorem xL {w:World} {b:Nat} {u0 u1 u2 u3:Value} {T:TypeId} (h:w.heap[b]?=some (.cells #[u0,u1,u2,u3] T)) (v0 v1 v2 v3:Value) :
    ((((w.setCell ⟨b,0,none⟩ v0).setCell ⟨b,1,none⟩ v1).setCell ⟨b,2,none⟩ v2).setCell ⟨b,3,none⟩ v3).heap[b]?=some (.cells #[v0,v1,v2,v3] T) :=
  aR (aR (aR (aR h 0 v0) 1 v1) 2 v2) 3 v3
theorem yA (t:Tk) (w:World):Sem.run Tryz.prog (Instr.field 163 (.agg #[.int .i64 t.kind,.string t.text,.int .i64 t.line,.int .i64 t.pos]) 0) w=.ok (.int .i64 t.kind) w:=by kernel_rfl
theorem iu (t:Tk) (w:World):Sem.run Tryz.prog (Instr.field 163 (.agg #[.int .i64 t.kind,.string t.text,.int .i64 t.line,.int .i64 t.pos]) 1) w=.ok (.string t.text) w:=by kernel_rfl
theorem mg (t:Tk) (w:World):Sem.run Tryz.prog (Instr.field 163 (.agg #[.int .i64 t.kind,.string t.text,.int .i64 t.line,.int .i64 t.pos]) 2) w=.ok (.int .i64 t.line) w:=by kernel_rfl
section
variable {α β:Type} {C:PC} {V:α→World→World→Value→Prop} {R:az α} {w w':World} {l:List Tk}
theorem ai.no (HR:Hid (R=.bad l)) (hg:Gs C.p w w'):ai C V R w (.panicked (jB (gd C.L l))) w' :=
  ⟨hg,(fun x l' h=>by rw [HR.out] at h;cases h),fun l' h=>by rw [HR.out] at h;injection h with h;rw [h]⟩
theorem ai.yes {x:α} {u:Value} (HR:Hid (R=.ok x l)) (hg:Gs C.p w w') (hA:C.At w' l) (hv:V x w w' u):ai C V R w (.returned u) w' :=
  ⟨hg,(fun x' l' h=>by rw [HR.out] at h;injection h with h1 h2;subst h1 h2;exact ⟨u,rfl,hv,hA⟩),(fun l' h=>by rw [HR.out] at h;cases h)⟩
theorem ai.step {R:az β} {m:az α} {k:α→List Tk→az β} {P:Program} {n:FuncId} {args:Array Value} (HR:Hid (R=m.bind k)) (h:Calls P n args w (ai C V m w)) :
    Calls P n args w fun e w'=>(∃ l,e=.panicked (jB (gd C.L l))∧Hid (R=.bad l)∧Gs C.p w w')∨∃ x l u,e=.returned u∧V x w w' u∧Hid (m=.ok x l)∧Hid (R=k x l)∧Hid (C.At w' l)∧Gs C.p w w':=by
  refine h.mono fun e w' h=>?_;cases m with
  | ok x l =>
    obtain ⟨u,h1,h2,h3⟩:=h.ok x l rfl;exact .inr ⟨x,l,u,h1,h2,rfl,HR,h3,h.gs⟩
  | bad l=>exact .inl ⟨l,h.bad l rfl,HR,h.gs⟩
theorem ai.tail {R m:az α} {P:Program} {n:FuncId} {args:Array Value} (HR:Hid (R=m)) (h:Calls P n args w (ai C V m w)) :
    Calls P n args w fun e w'=>(∃ l,e=.panicked (jB (gd C.L l))∧Hid (R=.bad l)∧Gs C.p w w')∨∃ x l u,e=.returned u∧V x w w' u∧Hid (m=.ok x l)∧Hid (R=.ok x l)∧Hid (C.At w' l)∧Gs C.p w w' :=
  ai.step (k:=.ok) (show R=m.bind .ok by rw [HR.out];cases m <;> rfl) h
end
theorem Eu {s:Sb} {l:List Tk} (h:ar s l=true):∃ t r,l=t::r:=by cases l with|nil=>cases h|cons t r=>exact ⟨t,r,rfl⟩
theorem PC.At.cut {C:PC} {w:World} {t:Tk} {r:List Tk} (h:C.At w (t::r)):∃ i,i<C.L.length∧t::r=C.L.drop i∧C.L[i]?=some t∧r=C.L.drop (i+1)∧w.heap[C.p]?=some (.cells #[.slice C.ta C.L.length C.tc,.int .i64 (i:Int)] 128):=by
  obtain ⟨i,hi,hl,hb⟩:=h.box
  have hlt:i<C.L.length:=by
    rcases Nat.lt_or_ge i C.L.length with h9|h9
    · exact h9
    · rw [List.drop_eq_nil_of_le h9] at hl;cases hl
  have h2:=List.drop_eq_getElem_cons hlt;rw [←hl] at h2;injection h2 with h3 h4
  exact ⟨i,hlt,hl,by rw [KP hlt,h3],h4,hb⟩
theorem fL (C:PC) (l:List Tk) (w:World) (h:C.At w l) :
    Calls Tryz.prog 88 #[.pointer (some ⟨C.p,0,none⟩)] w (ai C sy (bJ l) w):=by
  cases l with
  | nil =>
    have HW:=hI (fun w' (hb:Below w.heap.size w w')=>i7 C [] w' (h.mv hb));obtain ⟨i,hi,hl,hbox⟩:=h.box
    have hge:C.L.length≤i:=by
      rcases Nat.lt_or_ge i C.L.length with h9|h9
      · rw [List.drop_eq_getElem_cons h9] at hl;cases hl
      · exact h9
    have hcap:=h.cap;clear h hl;have kb:=fun j=>ac hbox j;have kz:=ae hbox;clear hbox
    go_enter Tryz.func88,Tryz.ntmps88
    go_wp2_with fail
    go_quiet (fail)
    go_wp2_with (go_at_call 55;(with_reducible refine (HW.out _ bw).mono ?_);rintro e w2 ⟨rfl,hb2⟩)
    exact ⟨rfl,ai.no rfl (Gs.of_below (thru hb2 bw))⟩
  | cons t r =>
    have HA:=hI h;obtain ⟨i,hlt,hl,ht,hr,hbox⟩:=h.cut;obtain ⟨b,off,hta,hpb,hlb,hrg,hts,hk,hln,-⟩:=h.tok ht;have hne:b≠C.p:=Nat.ne_of_lt hpb;have hcap:=h.cap;have HT:=hI (And.intro hts (And.intro hk hln));have HL:=hI hr;have HB:=hI hbox;clear h hl ht hr hts hk hln;obtain ⟨p,L,ta,tc⟩:=C;simp only at *;subst hta;have kb:=fun j=>ac hbox j;have kz:=ae hbox;have kf:=fun j=>ag hbox j;have c0:=hrg 0 _ rfl;have c1:=hrg 1 _ rfl;have c2:=hrg 2 _ rfl;have c3:=hrg 3 _ rfl;simp only [Nat.add_zero] at c0;clear hrg hbox
    go_enter Tryz.func88,Tryz.ntmps88
    go_wp2_with fail
    go_quiet (fail)
    go_wp2_with fail
    go_region
    all_goals
      go_wp2_with fail
      refine bodyPost_ret (v:=.agg #[.int .i64 t.kind,.string t.text,.int .i64 t.line,.int .i64 t.pos]) (by simp [results,Tryz.results88,go_sem,kz]) rfl ?_;refine ai.yes rfl gw (HA.out.gs gw hlt HL.out ?_) ⟨rfl,HT.out⟩;exact qj (bS (bS (bS (bS (aR (Bc (ax HB.out _)) 1 _) (by simp;omega)) (by simp;omega)) (by simp;omega)) (by simp;omega))
theorem m9 (C:PC) (s:Sb) (l:List Tk) (w:World) (h:C.At w l) :
    Calls Tryz.prog 58 #[.pointer (some ⟨C.p,0,none⟩),.string ⟨s.toArray⟩] w fun e w'=>e=.returned (.bool (ar s l))∧C.At w' l∧Below w.heap.size w w' :=
  (Ew C ⟨s.toArray⟩ l w h).mono fun e w' h9=>⟨h9.1,h.mv h9.2,h9.2⟩
theorem pm (C:PC) (s:Sb) (l:List Tk) (w:World) (h:C.At w l) :
    Calls Tryz.prog 57 #[.pointer (some ⟨C.p,0,none⟩),.string ⟨s.toArray⟩] w fun e w'=>e=.returned (.bool (ar s l))∧C.At w' (if ar s l=true then l.tail else l)∧Gs C.p w w':=by
  have HI:=hI (m9 C s l w h);cases hb:ar s l
  · rw [hb] at HI;clear hb h
    go_enter Tryz.func57,Tryz.ntmps57
    go_wp2_with (go_at_call 58;(with_reducible refine HI.out.mono ?_);rintro e w2 ⟨rfl,hA,hb2⟩;have HA:=hI hA;clear hA)
    go_ret;exact ⟨rfl,HA.out,Gs.of_below hb2⟩
  · obtain ⟨t,r,rfl⟩:=Eu hb;rw [hb] at HI;clear hb h
    go_enter Tryz.func57,Tryz.ntmps57
    go_wp2_with (go_at_call 58;(with_reducible refine HI.out.mono ?_);rintro e w2 ⟨rfl,hA,hb2⟩;have HA:=hI hA;obtain ⟨i,hlt,-,-,hr,hbox⟩:=hA.cut;have hcap:=hA.cap;have HB:=hI hbox;have HR:=hI hr;have kb:=fun j=>ac hbox j;have kf:=fun j=>ag hbox j;have kz:=ae hbox;clear hA hbox hr)
    go_ret;refine ⟨rfl,HA.out.gs gw hlt HR.out (aR HB.out 1 _),gw⟩
theorem kE {β:Type} {R A B:az β} (C:PC) (s:Sb) (l:List Tk) (w:World) (HR:Hid (R=if ar s l=true then A else B)) (h:C.At w l) :
    Calls Tryz.prog 58 #[.pointer (some ⟨C.p,0,none⟩),.string ⟨s.toArray⟩] w fun e w'=>(e=.returned (.bool true)∧Hid (ar s l=true)∧Hid (R=A)∧Hid (C.At w' l)∧Gs C.p w w')∨(e=.returned (.bool false)∧Hid (ar s l=false)∧Hid (R=B)∧Hid (C.At w' l)∧Gs C.p w w'):=by
  refine (m9 C s l w h).mono fun e w' h=>?_;cases hb:ar s l with
  | true=>exact .inl ⟨by rw [h.1,hb],rfl,by rw [hb] at HR;exact HR,h.2.1,Gs.of_below h.2.2⟩
  | false=>exact .inr ⟨by rw [h.1,hb],rfl,by rw [hb] at HR;exact HR,h.2.1,Gs.of_below h.2.2⟩
theorem dI {β:Type} {R A B:az β} (C:PC) (s:Sb) (l:List Tk) (w:World) (HR:Hid (R=if ar s l=true then A else B)) (h:C.At w l) :
    Calls Tryz.prog 57 #[.pointer (some ⟨C.p,0,none⟩),.string ⟨s.toArray⟩] w fun e w'=>(e=.returned (.bool true)∧Hid (ar s l=true)∧Hid (R=A)∧Hid (C.At w' l.tail)∧Gs C.p w w')∨(e=.returned (.bool false)∧Hid (ar s l=false)∧Hid (R=B)∧Hid (C.At w' l)∧Gs C.p w w'):=by
  refine (pm C s l w h).mono fun e w' h=>?_;cases hb:ar s l with
  | true=>exact .inl ⟨by rw [h.1,hb],rfl,by rw [hb] at HR;exact HR,by have h9:=h.2.1;rw [hb] at h9;exact h9,h.2.2⟩
  | false=>exact .inr ⟨by rw [h.1,hb],rfl,by rw [hb] at HR;exact HR,by have h9:=h.2.1;rw [hb] at h9;exact h9,h.2.2⟩
theorem PC.At.lt {C:PC} {w:World} {l:List Tk} (h:C.At w l):C.p<w.heap.size:=by obtain ⟨i,_,_,h3⟩:=h.box;exact ae h3
theorem gi (C:PC) (s:Sb) (l:List Tk) (w:World) (h:C.At w l) :
    Calls Tryz.prog 95 #[.pointer (some ⟨C.p,0,none⟩),.string ⟨s.toArray⟩] w (ai C sy (bz s l) w):=by
  have HA:=hI h;have hp:=h.lt;have hpn:w.heap.size≠C.p:=by omega
  generalize hR:bz s l=R;have HR:=hI hR.symm;clear hR h;unfold bz at HR
  go_enter Tryz.func95,Tryz.ntmps95
  go_wp2_with (first
    | (go_at_call 58;(with_reducible refine (kE C s l _ HR (HA.out.ca kw)).mono ?_);rintro e w2 (⟨rfl,-,HR,HA,hg2⟩|⟨rfl,-,HR,HA,hg2⟩) <;> (have HB:=hI (hg2.box (aA rfl) hpn);have kb:=fun i=>ac HB.out i;have kbf:=fun i=>ag HB.out i;have kbz:=ae HB.out))
    | (go_at_call 55;(with_reducible refine (i7 C l _ (HA.out.ca kw)).mono ?_);rintro e w3 ⟨rfl,hb3⟩)
    | (go_at_call 88;(with_reducible refine (ai.tail HR (fL C l _ (HA.out.ca kw))).mono ?_);rintro e w3 (⟨l3,rfl,HR,hg3⟩|⟨t,l3,u,rfl,⟨rfl,ht⟩,-,HR,HA,hg3⟩);rotate_left;have HB:=hI (hg3.box HB.out hpn);have kb3:=fun i=>ac HB.out i;have kb3f:=fun i=>ag HB.out i;have kb3z:=ae HB.out))
  all_goals first
    | exact ⟨rfl,ai.no HR gw⟩
    | (have k4:=fun j=>ac (xL HB.out (.int .i64 t.kind) (.string t.text) (.int .i64 t.line) (.int .i64 t.pos)) j;have s0:=k4 0;have s1:=k4 1;have s2:=k4 2;have s3:=k4 3;refine bodyPost_ret (v:=.agg #[.int .i64 t.kind,.string t.text,.int .i64 t.line,.int .i64 t.pos]) (by simp [results,Tryz.results95,go_sem,kb3z,s0,s1,s2,s3]) rfl ?_;exact ai.yes HR gw (HA.out.ca kw) ⟨rfl,ht⟩)
theorem ii (C:PC) (l:List Tk) (w:World) (h:C.At w l) :
    Calls Tryz.prog 97 #[.pointer (some ⟨C.p,0,none⟩)] w (ai C sy (bI l) w):=by
  have HA:=hI h;have hp:=h.lt;have hpn:w.heap.size≠C.p:=by omega
  generalize hR:bI l=R;have HR:=hI hR.symm;clear hR h;unfold bI at HR;generalize ht:aa l=t at HR;have tf0:=yA t;have HT:=hI ht;clear ht;cases h1:(t.kind != 1)
  · have HR:=hI (show R=bJ l by rw [HR.out,if_pos (by simpa using h1)])
    go_enter Tryz.func97,Tryz.ntmps97
    go_wp2_with (first
      | (go_at_call 87;(with_reducible refine (cP C l _ (HA.out.ca kw)).mono ?_);rw [HT.out];rintro e w2 ⟨rfl,hb2⟩;have HB:=hI (aD hb2 (aA rfl));have HA:=hI (HA.out.ca (af.thru hb2 kw));have hg2:Gs C.p _ _:=Gs.of_below hb2;have kb:=fun i=>ac HB.out i;have kbf:=fun i=>ag HB.out i;have kbz:=ae HB.out)
      | (go_at_call 88;(with_reducible refine (ai.tail HR (fL C l _ (HA.out.ca kw))).mono ?_);rintro e w3 (⟨l3,rfl,HR,hg3⟩|⟨t,l3,u,rfl,⟨rfl,ht⟩,-,HR,HA,hg3⟩);rotate_left;have HB:=hI (hg3.box HB.out hpn);have kb3:=fun i=>ac HB.out i;have kb3f:=fun i=>ag HB.out i;have kb3z:=ae HB.out))
    all_goals first
      | exact ⟨rfl,ai.no HR gw⟩
      | (have k4:=fun j=>ac (xL HB.out (.int .i64 t.kind) (.string t.text) (.int .i64 t.line) (.int .i64 t.pos)) j;have s0:=k4 0;have s1:=k4 1;have s2:=k4 2;have s3:=k4 3;refine bodyPost_ret (v:=.agg #[.int .i64 t.kind,.string t.text,.int .i64 t.line,.int .i64 t.pos]) (by simp [results,Tryz.results97,go_sem,kb3z,s0,s1,s2,s3]) rfl ?_;exact ai.yes HR gw (HA.out.ca kw) ⟨rfl,ht⟩)
  · have HR:=hI (show R=.bad l by rw [HR.out,if_neg (by simpa using h1)])
    go_enter Tryz.func97,Tryz.ntmps97
    go_wp2_with (first
      | (go_at_call 87;(with_reducible refine (cP C l _ (HA.out.ca kw)).mono ?_);rw [HT.out];rintro e w2 ⟨rfl,hb2⟩;have HA:=hI (HA.out.ca (af.thru hb2 kw)))
      | (go_at_call 55;(with_reducible refine (i7 C l _ (HA.out.ca kw)).mono ?_);rintro e w3 ⟨rfl,hb3⟩))
    exact ⟨rfl,ai.no HR gw⟩
theorem Cl {C:PC} {w:World} {l:List Tk} (h:C.At w l):∃ i,w.heap[C.p]?=some (.cells #[.slice C.ta C.L.length C.tc,.int .i64 (i:Int)] 128)∧((i:Int)==(C.L.length:Int))=l.isEmpty:=by
  obtain ⟨i,hi,hl,hb⟩:=h.box;refine ⟨i,hb,?_⟩;rcases Nat.lt_or_ge i C.L.length with h9|h9
  · rw [hl,List.drop_eq_getElem_cons h9];show _=false;rw [beq_eq_false_iff_ne];omega
  · rw [hl,List.drop_eq_nil_of_le h9];show _=true;rw [beq_iff_eq];omega
theorem sS {P:Prop} (h:P:=by
  refine tH 25 ?_;refine tH 26 ?_;refine wpAnyH_done (by kernel_rfl) ?_ _
  go_wp2_with fail
  go_ret;exact ⟨rfl,bw⟩):P:=h
theorem sT {P:Prop} (h:P:=by
  refine uH 20 ?_;refine tH 21 ?_;refine tH 22 ?_;refine uH 23 ?_;refine uH 24 ?_;exact sS):P:=h
theorem Cm (C:PC) (l:List Tk) (w:World) (h:C.At w l) :
    Calls Tryz.prog 56 #[.pointer (some ⟨C.p,0,none⟩)] w fun e w'=>e=.returned (.bool (ff l))∧Below w.heap.size w w':=by
  have HI:=hI (fun (s:Sb) w' (hb:Below w.heap.size w w')=>m9 C s l w' (h.mv hb));obtain ⟨i,hbox,hie⟩:=Cl h;have hcap:=h.cap;have HS:=hI (show ∀ w',Below w.heap.size w w'→w'.cell? ⟨C.p,0,none⟩=some (.slice C.ta C.L.length C.tc)∧w'.cell? ⟨C.p,1,none⟩=some (.int .i64 (i:Int)) from fun w' hb=>⟨ac (aD hb hbox) 0,ac (aD hb hbox) 1⟩);clear h;have kb:=fun j=>ac hbox j;have kz:=ae hbox;clear hbox;unfold ff;have hI:∀ (t:Sb) (b:Bool),b=ar t l→Hid (∀ w' (hb:Below w.heap.size w w'),Calls Tryz.prog 58 #[.pointer (some ⟨C.p,0,none⟩),.string ⟨t.toArray⟩] w' fun e w''=>e=.returned (.bool b)∧Below w'.heap.size w' w''):=fun t b hb=>by subst hb;exact fun w' hb'=>(HI.out t w' hb').mono fun e w'' h=>⟨h.1,h.2.2⟩
  obtain ⟨b1,hb1⟩:∃ b,b=ar gQ l:=⟨_,rfl⟩;obtain ⟨b2,hb2⟩:∃ b,b=ar [101,108,115,101] l:=⟨_,rfl⟩
  obtain ⟨b3,hb3⟩:∃ b,b=ar [101,108,115,101,105,102] l:=⟨_,rfl⟩;obtain ⟨b4,hb4⟩:∃ b,b=ar [117,110,116,105,108] l:=⟨_,rfl⟩
  have H1:=hI _ b1 hb1;have H2:=hI _ b2 hb2;have H3:=hI _ b3 hb3;have H4:=hI _ b4 hb4;rw [←hb1,←hb2,←hb3,←hb4];clear hI HI hb1 hb2 hb3 hb4;generalize l.isEmpty=b0 at hie ⊢
  go_enter Tryz.func56,Tryz.ntmps56
  go_wp2_with fail
  refine wp_region_held_drew (S:=fun w'=>w'.cell? ⟨C.p,0,none⟩=some (.slice C.ta C.L.length C.tc)∧w'.cell? ⟨C.p,1,none⟩=some (.int .i64 (i:Int))) (by kernel_rfl) ?hS ?r0
  case hS=>exact HS.out _ bw
  case r0 =>
  intro hHeld;refine tH 0 ?_;refine tH 1 ?_;refine tH 2 ?_;refine tH 3 ?_;refine tH 4 ?_;refine tH 5 ?_;refine tH 6 ?_;refine tH 7 ?_;refine tH 8 ?_;refine tH 9 ?_;refine tH 10 ?_;cases b0
  · refine wpAnyH_take (i:=11) (v:=?v12) rfl (by kernel_rfl) (by kernel_rfl) (by kernel_rfl) (fun _ _ _ h=>h) (Or.inl ⟨by rfl,?y12⟩) (by assumption) ?r12
    case y12=>(intro w9 hS9;(try dsimp only at hS9);go_simp;try with_reducible rfl)
    change wpAnyH _ _ _ _ _ _ _ (Act.put _ (some 14) _) _
    try simp only [Act.put,al,am,ap]
    refine wpAnyH_ready (rs:=[12]) (by kernel_rfl) (by simp) ?_;refine AllReadyH.cons rfl (fun K hK=>?_) AllReadyH.nil
    go_simp
    go_at_call 58;(with_reducible refine (H1.out _ bw).mono ?_);rintro e w2 ⟨rfl,hb2⟩
    go_wp2_with fail
    refine hK.out _ _ ?s13 ?r13
    case s13=>exact HS.out _ bw
    intro hHeld;clear hK K
    try simp only [Act.put,al,am,ap]
    refine tH 13 ?_;refine tH 14 ?_;cases b1
    · refine wpAnyH_take (i:=15) (v:=?v16) rfl (by kernel_rfl) (by kernel_rfl) (by kernel_rfl) (fun _ _ _ h=>h) (Or.inl ⟨by rfl,?y16⟩) (by assumption) ?r16
      case y16=>(intro w9 hS9;(try dsimp only at hS9);go_simp;try with_reducible rfl)
      change wpAnyH _ _ _ _ _ _ _ (Act.put _ (some 18) _) _
      try simp only [Act.put,al,am,ap]
      refine wpAnyH_ready (rs:=[16]) (by kernel_rfl) (by simp) ?_;refine AllReadyH.cons rfl (fun K hK=>?_) AllReadyH.nil
      go_simp
      go_at_call 58;(with_reducible refine (H2.out _ bw).mono ?_);rintro e w3 ⟨rfl,hb3⟩
      go_wp2_with fail
      refine hK.out _ _ ?s17 ?r17
      case s17=>exact HS.out _ bw
      intro hHeld;clear hK K
      try simp only [Act.put,al,am,ap]
      refine tH 17 ?_;refine tH 18 ?_;cases b2
      · refine wpAnyH_take (i:=19) (v:=?v20) rfl (by kernel_rfl) (by kernel_rfl) (by kernel_rfl) (fun _ _ _ h=>h) (Or.inl ⟨by rfl,?y20⟩) (by assumption) ?r20
        case y20=>(intro w9 hS9;(try dsimp only at hS9);go_simp;try with_reducible rfl)
        change wpAnyH _ _ _ _ _ _ _ (Act.put _ (some 22) _) _
        try simp only [Act.put,al,am,ap]
        refine wpAnyH_ready (rs:=[20]) (by kernel_rfl) (by simp) ?_;refine AllReadyH.cons rfl (fun K hK=>?_) AllReadyH.nil
        go_simp
        go_at_call 58;(with_reducible refine (H3.out _ bw).mono ?_);rintro e w4 ⟨rfl,hb4⟩
        go_wp2_with fail
        refine hK.out _ _ ?s21 ?r21
        case s21=>exact HS.out _ bw
        intro hHeld;clear hK K
        try simp only [Act.put,al,am,ap]
        refine tH 21 ?_;refine tH 22 ?_;cases b3
        · refine wpAnyH_take (i:=23) (v:=?v24) rfl (by kernel_rfl) (by kernel_rfl) (by kernel_rfl) (fun _ _ _ h=>h) (Or.inl ⟨by rfl,?y24⟩) (by assumption) ?r24
          case y24=>(intro w9 hS9;(try dsimp only at hS9);go_simp;try with_reducible rfl)
          change wpAnyH _ _ _ _ _ _ _ (Act.put _ (some 26) _) _
          try simp only [Act.put,al,am,ap]
          refine wpAnyH_ready (rs:=[24]) (by kernel_rfl) (by simp) ?_;refine AllReadyH.cons rfl (fun K hK=>?_) AllReadyH.nil
          go_simp
          go_at_call 58;(with_reducible refine (H4.out _ bw).mono ?_);rintro e w5 ⟨rfl,hb5⟩
          go_wp2_with fail
          refine hK.out _ _ ?s25 ?r25
          case s25=>exact HS.out _ bw
          intro hHeld;clear hK K
          try simp only [Act.put,al,am,ap]
          exact sS
        · refine wpAnyH_take (i:=23) (v:=undef) rfl (by kernel_rfl) (by kernel_rfl) (by kernel_rfl) (fun _ _ _ h=>h) (Or.inr ⟨by rfl,rfl⟩) (by assumption) ?_;change wpAnyH _ _ _ _ _ _ _ (Act.put _ (some 26) _) _
          try simp only [Act.put,al,am,ap]
          refine uH 24 ?_;exact sS
      · refine wpAnyH_take (i:=19) (v:=undef) rfl (by kernel_rfl) (by kernel_rfl) (by kernel_rfl) (fun _ _ _ h=>h) (Or.inr ⟨by rfl,rfl⟩) (by assumption) ?_;change wpAnyH _ _ _ _ _ _ _ (Act.put _ (some 22) _) _
        try simp only [Act.put,al,am,ap]
        exact sT
    · refine wpAnyH_take (i:=15) (v:=undef) rfl (by kernel_rfl) (by kernel_rfl) (by kernel_rfl) (fun _ _ _ h=>h) (Or.inr ⟨by rfl,rfl⟩) (by assumption) ?_;change wpAnyH _ _ _ _ _ _ _ (Act.put _ (some 18) _) _
      try simp only [Act.put,al,am,ap]
      refine uH 16 ?_;refine tH 17 ?_;refine tH 18 ?_;refine uH 19 ?_;exact sT
  · refine wpAnyH_take (i:=11) (v:=undef) rfl (by kernel_rfl) (by kernel_rfl) (by kernel_rfl) (fun _ _ _ h=>h) (Or.inr ⟨by rfl,rfl⟩) (by assumption) ?_;change wpAnyH _ _ _ _ _ _ _ (Act.put _ (some 14) _) _
    try simp only [Act.put,al,am,ap]
    refine uH 12 ?_;refine tH 13 ?_;refine tH 14 ?_;refine uH 15 ?_;refine uH 16 ?_;refine tH 17 ?_;refine tH 18 ?_;refine uH 19 ?_;exact sT
theorem oA {β:Type} {R A B:az β} (C:PC) (l:List Tk) (w:World) (HR:Hid (R=if ff l=true then A else B)) (h:C.At w l) :
    Calls Tryz.prog 56 #[.pointer (some ⟨C.p,0,none⟩)] w fun e w'=>(e=.returned (.bool true)∧Hid (ff l=true)∧Hid (R=A)∧Hid (C.At w' l)∧Gs C.p w w')∨(e=.returned (.bool false)∧Hid (ff l=false)∧Hid (R=B)∧Hid (C.At w' l)∧Gs C.p w w'):=by
  refine (Cm C l w h).mono fun e w' h9=>?_;cases hb:ff l with
  | true=>exact .inl ⟨by rw [h9.1,hb],rfl,by rw [hb] at HR;exact HR,h.mv h9.2,Gs.of_below h9.2⟩
  | false=>exact .inr ⟨by rw [h9.1,hb],rfl,by rw [hb] at HR;exact HR,h.mv h9.2,Gs.of_below h9.2⟩
def ly (x:Ex) (w w':World) (u:Value):Prop:=∃ d,u=.agg #[.int .i64 x.kind,.int .i64 x.op,.int .i64 x.line,.int .i64 x.p,.int .i64 x.q,.string x.str,.slice d.a x.args.length d.c,.slice d.fa x.funcs.length d.fc]∧x.At (ay w.heap.size) w' d
def CT (l:List Ex) (w w':World) (u:Value):Prop:=∃ a c,u=.slice a l.length c∧l.length≤c∧c≤MX∧Ex.Ats (ay w.heap.size) w' l a
def fI (x:St) (w w':World) (u:Value):Prop:=∃ d,u=.agg #[.int .i64 x.kind,.int .i64 x.line,.slice d.na x.names.length d.nc,.slice d.la x.left.length d.lc,.slice d.ra x.right.length d.rc,.slice d.ba x.blocks.length d.bc,.string x.label]∧x.At (ay w.heap.size) w' d
def sq (l:List St) (w w':World) (u:Value):Prop:=∃ a c,u=.slice a l.length c∧l.length≤c∧c≤MX∧St.Ats (ay w.heap.size) w' l a
abbrev co (C:PC):Value:=.pointer (some ⟨C.p,0,none⟩)
abbrev EC (C:PC) (E:EF) (n:Nat):Prop:=∀ (lim:Int) (l:List Tk) (w:World),0≤lim→lim≤12→l.length<n→C.At w l→Calls Tryz.prog 94 #[co C,.int .i64 lim] w (ai C ly (E lim l) w)
abbrev BC (C:PC) (B:BF) (n:Nat):Prop:=∀ (l:List Tk) (w:World),l.length<n→C.At w l→Calls Tryz.prog 41 #[co C] w (ai C sq (B l) w)
theorem PC.At.len {C:PC} {w:World} {l:List Tk} (h:C.At w l):l.length≤65536:=by obtain ⟨i,_,rfl,_⟩:=h.box;have:=h.cap;simp;omega
theorem aM.one {α δ:Type} {f:α→δ→List Value} {A:(Nat→Prop)→World→α→δ→Prop} {e:TypeId} {n base:Nat} {w:World} {cs:Array Value} {x:α} {d:δ} {b:Nat} (hA:cq A) (hb:b=w.heap.size) (hbase:base≤w.heap.size) (hn:0<n) (hcs:cs.toList=f x d) (hl:(f x d).length=n) (hx:A (ay base) w x d) :
    aM f A e n base (w.alloc (.cells cs e)) (.slice (some ⟨b,0,none⟩) 1 1) [x] [d]:=by
  subst hb;refine ⟨rfl,⟨by simp [hl],.inr ⟨w.heap.size,1,cs,rfl,hbase,aA rfl,KU _,by unfold maxLen;omega,by rw [←Array.length_toList,hcs,hl];omega,?_⟩⟩,fun i y d' hy hd=>?_⟩
  · rw [hcs];simp [←hl]
  · have hi:i=0:=by have:=(KQ hy).1;simpa using this
    subst hi;cases hy;cases hd;exact hA _ _ w _ x d ((af.refl _ _).alloc _) (fun k hk hlt=>⟨hk,fun he=>absurd (Option.some.inj (show some k=some w.heap.size from he)) (Nat.ne_of_lt hlt)⟩) hx
theorem aM.gs {α δ:Type} {f:α→δ→List Value} {A:(Nat→Prop)→World→α→δ→Prop} {e:TypeId} {n base p:Nat} {w w':World} {v:Value} {l:List α} {ds:List δ}
    (hA:cq A) (h:aM f A e n base w v l ds) (hg:Gs p w w') (hp:p<base):aM f A e n base w' v l ds :=
  h.lt hA (hg.keep (by rintro ⟨h1,-⟩;omega))
theorem xD {α δ:Type} {f:α→δ→List Value} {A:(Nat→Prop)→World→α→δ→Prop} {t e:TypeId} {z:Value} {n bytes base p k:Nat} {w1 w0:World} {v:Value} {l:List α} {ds:List δ} {y:α} {dy:δ} {cs:Array Value}
    {ops:Array Oper} {rest:List Oper} {o:Oper} {a:Act} {Q:Exit→Act→World→Prop} (hA:cq A) (ht:Tryz.prog.underlying t=some (.slice e)) (hinfo:(Tryz.prog.info? e).map (fun i=>(i.zero,i.size,i.bytes))=some (some z,n,bytes)) (hzs:z.cells.size=n) (hn:0<n) (hbt:bytes≤1000)
    (hf:∀ x d,(f x d).length=n) (h1:∀ u ∈ f y dy,u.oneCell'=true)
    (HG:aM f A e n base w1 v l ds) (hp:p<base) (hg:Gs p w1 w0) (hb:base≤w1.heap.size) (hk:w1.heap.size≤k) (hy:A (ay k) w0 y dy) (hcs:cs.toList=f y dy) (hlen:l.length≤70000)
    (hgd:o.guard=none) (s x:Operand) (hop:o.op=.call { callee:=.builtin .append,args:=#[s,x],argTypes:=#[t,t] }) (hs:a.eval s=v) (hx:a.eval x=.slice (some ⟨w0.heap.size,0,none⟩) 1 1)
    (h:∀ v' w',aM f A e n base w' v' (l++[y]) (ds++[dy])→(w0.alloc (.cells cs e)).grownBy w' v.ownBlock→(∀ j,v.ownBlock=some j→base≤j)→wpList Tryz.prog ops Q rest (a.put o.dst v') w'):wpList Tryz.prog ops Q (o::rest) a (w0.alloc (.cells cs e)):=by
  obtain ⟨i0,hi,hz0,hz1,hz2⟩:=info_parts hinfo;have HG0:=HG.gs hA hg hp;refine ms _ hgd s x t hop base e i0 z n bytes ht hi hz0 hz1 hz2 hzs hn v l.length _ hs (HG0.own.alloc _) ⟨w0.heap.size,0,none⟩ 1 1 (f y dy) hx (by rw [hf];omega) (fun j u hu=>lK rfl j u (by rw [hcs];exact hu)) h1 (by decide) (by unfold maxLen;omega) ?_ (by have:=hg.size;simp;omega) ?_
  · have:(l.length+1)*bytes≤70001*1000:=Nat.mul_le_mul (by omega) hbt;omega
  intro v' w' r1 r2 r3;refine h v' w' (aM.push hA (HG0.alloc hA _) ?_ r1 r2 r3) r2 (fun j hj=>(HG.own.lt j hj).1);refine hA (ay k) _ w0 _ y dy ((af.refl _ _).alloc _) (fun j hj _=>⟨by omega,fun he=>?_⟩) hy;have h9:=(HG.own.lt j he.symm).2;have h8:k≤j:=hj;omega
theorem PC.At.grown {C:PC} {w w':World} {l:List Tk} {row:Option Nat} {base:Nat} (h:C.At w l) (hg:w.grownBy w' row) (hr:∀ k,row=some k→base≤k) (hp:C.p<base):C.At w' l :=
  h.ca (af.grown hg fun k hk he=>by have:=hr k he.symm;omega)
theorem Ht {base p k:Nat} {w1 w0:World} {v:Value} {l:List Ex} {ds:List EA} {y:Ex} {dy:EA} {ops:Array Oper} {rest:List Oper} {o:Oper} {a:Act} {Q:Exit→Act→World→Prop}
    (HG:aM Ex.cells dT 37 8 base w1 v l ds) (hp:p<base) (hg:Gs p w1 w0) (hb:base≤w1.heap.size) (hk:w1.heap.size≤k) (hy:y.At (ay k) w0 dy) (hlen:l.length≤70000)
    (hgd:o.guard=none) (s x:Operand) (hop:o.op=.call { callee:=.builtin .append,args:=#[s,x],argTypes:=#[34,34] }) (hs:a.eval s=v) (hx:a.eval x=.slice (some ⟨w0.heap.size,0,none⟩) 1 1)
    (h:∀ v' w',aM Ex.cells dT 37 8 base w' v' (l++[y]) (ds++[dy])→(w0.alloc (.cells #[.int .i64 y.kind,.int .i64 y.op,.int .i64 y.line,.int .i64 y.p,.int .i64 y.q,.string y.str,.slice dy.a y.args.length dy.c,.slice dy.fa y.funcs.length dy.fc] 37)).grownBy w' v.ownBlock→(∀ j,v.ownBlock=some j→base≤j)→wpList Tryz.prog ops Q rest (a.put o.dst v') w'):wpList Tryz.prog ops Q (o::rest) a (w0.alloc (.cells #[.int .i64 y.kind,.int .i64 y.op,.int .i64 y.line,.int .i64 y.p,.int .i64 y.q,.string y.str,.slice dy.a y.args.length dy.c,.slice dy.fa y.funcs.length dy.fc] 37)) :=
  xD db Tryz.underlying34 qZ rfl (by decide) (by decide) (fun _ _=>rfl) (Ex.cells_one _ _) HG hp hg hb hk hy rfl hlen hgd s x hop hs hx h
theorem aM.exs {w:World} {base:Nat} {v:Value} {l:List Ex} {ds:List EA} (h:aM Ex.cells dT 37 8 base w v l ds):∃ a c,v=.slice a l.length c∧l.length≤c∧c≤MX∧Ex.Ats (ay base) w l a:=by
  obtain ⟨a,c,h1,h2,h3,h4⟩:=h.rows db (fun _ _=>rfl);exact ⟨a,c,h1,h2,by unfold maxLen at h3;unfold MX;exact h3,Ex.ats_iff.2 h4⟩
theorem oQ {C:PC} {E:EF} {n:Nat} (hE:EC C E n) (hL:SE E) (l:List Tk) (w:World) (hl:l.length<n) (h:C.At w l) :
    Calls Tryz.prog 89 #[co C] w (ai C CT (eH E l) w):=by
  have HA:=hI h;have hp:=h.lt;have hl6:=h.len;have HE:=hI hE;have HL:=hI hL;have HN:=hI hl;generalize hR:eH E l=R;have HR:=hI hR.symm;clear hR h hE hL hl;unfold eH at HR
  go_enter Tryz.func89,Tryz.ntmps89
  go_wp2_with (go_at_call 94;(with_reducible refine (ai.step HR (HE.out 0 l _ (by omega) (by omega) HN.out (HA.out.ca kw))).mono ?_);rintro e w2 (⟨l2,rfl,HR,hg2⟩|⟨x,l2,u,rfl,⟨d,rfl,hx⟩,HM,HR,HA,hg2⟩);rotate_left;(have HX:=hI hx);clear hx)
  case inl=>exact ⟨rfl,ai.no HR gw⟩
  have HS2:=hI (HL.out 0 l _ _ HM.out)
  go_loopg [3] (l2.length+1) (fun gk v wr=>∃ acc ds l',l'.length<gk∧Hid (R=jG E gk acc l')∧Hid (C.At wr l')∧aM Ex.cells dT 37 8 w.heap.size wr v acc ds∧Gs C.p w wr∧l'.length<n∧acc.length+l'.length≤65536)
  case atStart=>exact ⟨[x],[d],l2,by omega,HR,hI (HA.out.ca kw),aM.one db rfl hg2.size (by decide) rfl rfl HX.out,gw,by have:=HS2.out;have:=HN.out;simp at *;omega,by have:=HS2.out;simp at *;omega⟩
  case round =>
  clear HA HR HX;obtain ⟨acc,ds,l',hgk,HR,HA,hgath,hgw,hln,hal⟩:=hrel;obtain ⟨k,rfl⟩:∃ k,gk=k+1:=⟨gk - 1,by omega⟩
  obtain ⟨a,c,hv,hc1,hc2,hrow⟩:=hgath.exs;subst hv;have HG:=hI hgath;have HROW:=hI hrow;have HR:=hI (show R=if ar [44] l'=true then (E 0 l'.tail).bind fun x l1=>jG E k (acc++[x]) l1 else .ok acc l' from HR.out);clear hgath hrow;unfold MX at hc2
  go_wp2_with (first
    | (go_at_call 57;(with_reducible refine (dI C [44] l' _ HR (HA.out.ca kw)).mono ?_);rintro e w3 (⟨rfl,HB,HR,HA,hg3⟩|⟨rfl,-,HR,HA,hg3⟩))
    | (go_at_call 94;(with_reducible refine (ai.step HR (HE.out 0 l'.tail _ (by omega) (by omega) (Nat.lt_of_le_of_lt (cN _) hln) (HA.out.ca kw))).mono ?_);rintro e w4 (⟨l4,rfl,HR,hg4⟩|⟨y,l4,u,rfl,⟨dy,rfl,hy⟩,HM,HR,HA,hg4⟩);rotate_left;(have HY:=hI hy;clear hy))
    | (at_builtin;go_loud (refine Ht HG.out hp gw hgw.size hg3.size HY.out (by omega) rfl _ _ rfl rfl rfl ?_;intro v' w5 hg5 hgr hlo;have HG5:=hI hg5;have HGR:=hI hgr;have HLO:=hI hlo;clear hg5 hgr hlo)))
  case inl=>exact ⟨rfl,ai.no HR gw⟩
  · have h4:=HL.out 0 _ _ _ HM.out;have h5:=bO HB.out
    go_roundg k
    case rel=>exact ⟨acc++[y],ds++[dy],l4,by omega,HR,hI ((HA.out.ca kw).grown HGR.out HLO.out hp),HG5.out,Gs.grown HGR.out HLO.out gw,by omega,by simp;omega⟩
    case measure=>omega
  · go_ret;exact ai.yes HR gw HA.out ⟨a,c,rfl,hc1,hc2,((aM.gs db HG.out hg3 hp).exs).elim fun _ h=>h.elim fun _ h=>by obtain ⟨h,_,_,h2⟩:=h;cases h;exact h2⟩
theorem af.gsT {p:Nat} {F:Nat→Prop} {w b c:World} (hg:Gs p b c) (hF:¬ F p) (k:af F w b):af F w c :=
  k.trans (hg.keep (F:=fun j=>j≠p) (by simp)) (fun i hi _=>by rintro rfl;exact hF hi)
theorem kx {n:Nat} {w w':World} (h:af (ay n) w w':=by repeat with_reducible first|exact af.refl _ _|refine af.alloc ?_ _|refine af.set ?_ (by simp [ay];omega) _|refine af.drewN ?_ _|refine af.drew ?_|refine af.gsT (by assumption) (by simp [ay];omega) ?_|refine af.thru (by assumption) ?_):af (ay n) w w':=h
theorem fr {m n:Nat} (h:n≤m):∀ k,ay m k→ay n k:=fun k hk=>KT h hk
theorem tK {C:PC} {B:BF} {n:Nat} (hB:BC C B n) (hL:SB B) (s:Sb) (l:List Tk) (w:World) (hl:l.length<n) (h:C.At w l) :
    Calls Tryz.prog 96 #[co C,.string ⟨s.toArray⟩] w (ai C sq (fU B s l) w):=by
  have HA:=hI h;have hp:=h.lt;have HB:=hI hB;have HN:=hI hl;generalize hR:fU B s l=R;have HR:=hI hR.symm;clear hR h hB hL hl;unfold fU at HR
  go_enter Tryz.func96,Tryz.ntmps96
  go_wp2_with (first
    | (go_at_call 41;(with_reducible refine (ai.step HR (HB.out l _ HN.out (HA.out.ca kw))).mono ?_);rintro e w2 (⟨l2,rfl,HR,hg2⟩|⟨b,l2,u,rfl,⟨a,c,rfl,h1,h2,hb⟩,-,HR,HA,hg2⟩);rotate_left;(have HX:=hI hb;have HC:=hI (And.intro h1 h2));clear hb h1 h2)
    | (go_at_call 95;(with_reducible refine (ai.step HR (gi C s l2 _ (HA.out.ca kw))).mono ?_);rintro e w3 (⟨l3,rfl,HR,hg3⟩|⟨t,l3,u,rfl,⟨rfl,-⟩,-,HR,HA,hg3⟩);rotate_left))
  case inl=>exact ⟨rfl,ai.no HR gw⟩
  case inl=>exact ⟨rfl,ai.no HR gw⟩
  go_ret;exact ai.yes HR gw HA.out ⟨a,c,rfl,HC.out.1,HC.out.2,HX.out.keep kx (fr (KU _))⟩
theorem Bk (C:PC) (l:List Tk) (w:World) (h:C.At w l) :
    Calls Tryz.prog 160 #[co C] w fun e w'=>e=.returned (.bool (eX l))∧Below w.heap.size w w':=by
  have HI:=hI (fun (s:Sb) w' (hb:Below w.heap.size w w')=>m9 C s l w' (h.mv hb));have HX:=hI (fun w' (hb:Below w.heap.size w w')=>cP C l w' (h.mv hb));have tf0:=yA (aa l);unfold eX;generalize aa l=t at HX tf0 ⊢;cases h1:ar [40] l <;> cases h2:ar [123] l <;> cases h3:(t.kind==4)
  all_goals
    have H1:=hI h1;have H2:=hI h2;clear h1 h2 h
    go_enter Tryz.func160,Tryz.ntmps160
    go_wp2_with (first
      | (go_at_call 58;(with_reducible refine (HI.out [40] _ bw).mono ?_);rw [H1.out];rintro e w2 ⟨rfl,-,hb2⟩)
      | (go_at_call 58;(with_reducible refine (HI.out [123] _ bw).mono ?_);rw [H2.out];rintro e w3 ⟨rfl,-,hb3⟩)
      | (go_at_call 87;(with_reducible refine (HX.out _ bw).mono ?_);rintro e w4 ⟨rfl,hb4⟩))
    go_ret;exact ⟨rfl,bw⟩
theorem tU {β:Type} {R A B:az β} (C:PC) (l:List Tk) (w:World) (HR:Hid (R=if eX l=true then A else B)) (h:C.At w l) :
    Calls Tryz.prog 160 #[co C] w fun e w'=>(e=.returned (.bool true)∧Hid (eX l=true)∧Hid (R=A)∧Hid (C.At w' l)∧Gs C.p w w')∨(e=.returned (.bool false)∧Hid (eX l=false)∧Hid (R=B)∧Hid (C.At w' l)∧Gs C.p w w'):=by
  refine (Bk C l w h).mono fun e w' h9=>?_;cases hb:eX l with
  | true=>exact .inl ⟨by rw [h9.1,hb],rfl,by rw [hb] at HR;exact HR,h.mv h9.2,Gs.of_below h9.2⟩
  | false=>exact .inr ⟨by rw [h9.1,hb],rfl,by rw [hb] at HR;exact HR,h.mv h9.2,Gs.of_below h9.2⟩
def CS (m:Nat) (l:List Ex) (w w':World) (u:Value):Prop:=∃ a c,u=.slice a l.length c∧l.length≤c∧c≤MX∧Ex.Ats (ay m) w' l a
abbrev tn (C:PC) (E:EF) (n:Nat):Prop:=∀ (l:List Tk) (w:World),eX l=true→ar [40] l=false→l.length<n→C.At w l→Calls Tryz.prog 126 #[co C] w (ai C ly (og E l) w)
theorem mX {w:World} {F:Nat→Prop} {b:Nat} {x y:Ex} {dx dy:EA} (hb:b=w.heap.size) (hF:F w.heap.size) (hx:x.At F w dx) (hy:y.At F w dy) :
    Ex.Ats F (w.alloc (.cells #[.int .i64 x.kind,.int .i64 x.op,.int .i64 x.line,.int .i64 x.p,.int .i64 x.q,.string x.str,.slice dx.a x.args.length dx.c,.slice dx.fa x.funcs.length dx.fc,.int .i64 y.kind,.int .i64 y.op,.int .i64 y.line,.int .i64 y.p,.int .i64 y.q,.string y.str,.slice dy.a y.args.length dy.c,.slice dy.fa y.funcs.length dy.fc] 37)) [x,y] (some ⟨b,0,none⟩):=by
  subst hb;have K:af F w (w.alloc (.cells #[.int .i64 x.kind,.int .i64 x.op,.int .i64 x.line,.int .i64 x.p,.int .i64 x.q,.string x.str,.slice dx.a x.args.length dx.c,.slice dx.fa x.funcs.length dx.fc,.int .i64 y.kind,.int .i64 y.op,.int .i64 y.line,.int .i64 y.p,.int .i64 y.q,.string y.str,.slice dy.a y.args.length dy.c,.slice dy.fa y.funcs.length dy.fc] 37)):=(af.refl _ _).alloc _;have hr:(w.alloc (.cells #[.int .i64 x.kind,.int .i64 x.op,.int .i64 x.line,.int .i64 x.p,.int .i64 x.q,.string x.str,.slice dx.a x.args.length dx.c,.slice dx.fa x.funcs.length dx.fc,.int .i64 y.kind,.int .i64 y.op,.int .i64 y.line,.int .i64 y.p,.int .i64 y.q,.string y.str,.slice dy.a y.args.length dy.c,.slice dy.fa y.funcs.length dy.fc] 37)).rangeAt w.heap.size 0 (x.cells dx++y.cells dy):=fun i v hv=>by rw [Nat.zero_add,ac (aA rfl),←Array.getElem?_toList];exact hv
  exact ⟨_,0,dx,rfl,hF,by simp,H6 hr,hx.keep K (fun _ h=>h),_,_,dy,rfl,hF,by simp,H7 hr,hy.keep K (fun _ h=>h),trivial⟩
theorem fX {w:World} {F:Nat→Prop} {b:Nat} {x:Ex} {dx:EA} (hb:b=w.heap.size) (hF:F w.heap.size) (hx:x.At F w dx):Ex.Ats F (w.alloc (.cells #[.int .i64 x.kind,.int .i64 x.op,.int .i64 x.line,.int .i64 x.p,.int .i64 x.q,.string x.str,.slice dx.a x.args.length dx.c,.slice dx.fa x.funcs.length dx.fc] 37)) [x] (some ⟨b,0,none⟩):=by
  subst hb;exact ⟨_,0,dx,rfl,hF,by simp,fun j v hv=>by rw [Nat.zero_add,ac (aA rfl),←Array.getElem?_toList];exact hv,hx.keep ((af.refl _ _).alloc _) (fun _ h=>h),trivial⟩
theorem aM.app2 {α δ:Type} {f:α→δ→List Value} {A:(Nat→Prop)→World→α→δ→Prop} {e:TypeId} {n base:Nat} {w:World} {v:Value} {l:List α} {ds:List δ} (hA:cq A) (h:aM f A e n base w v l ds) {w':World} {v':Value} {xs:List α} {ds':List δ} (hlen:ds'.length=xs.length) (hx:∀ (i:Nat) x d,xs[i]?=some x→ds'[i]?=some d→A (fQ base v) w x d)
    (h1:w'.ownsRow base e n v' (l.length+xs.length) (((l.zip ds).flatMap fun p=>f p.1 p.2)++(xs.zip ds').flatMap fun p=>f p.1 p.2)) (h2:w.grownBy w' v.ownBlock) (h3:∀ b,v'.ownBlock=some b→some b=v.ownBlock∨w.heap.size≤b) :
    aM f A e n base w' v' (l++xs) (ds++ds'):=by
  have hG:∀ k,fQ base v k→k<w.heap.size→fQ base v' k:=fun k hk hl=>⟨hk.1,fun he=>by
    rcases h3 k he.symm with h|h
    · exact hk.2 h
    · omega⟩
  have K:af (fQ base v) w w':=af.grown h2 fun k hk=>hk.2;refine ⟨by simp [h.len,hlen],?_,fun i y d' hy hd=>?_⟩
  · rw [List.zip_append h.len.symm,List.flatMap_append,List.length_append];exact h1
  · rcases Nat.lt_or_ge i l.length with hi|hi
    · rw [List.getElem?_append_left hi] at hy;rw [List.getElem?_append_left (by rw [h.len];exact hi)] at hd;exact hA _ _ w w' y d' K hG (h.at_ i y d' hy hd)
    · rw [List.getElem?_append_right hi] at hy;rw [List.getElem?_append_right (by rw [h.len];exact hi),h.len] at hd;exact hA _ _ w w' y d' K hG (hx _ y d' hy hd)
theorem Fg {E:EF} {l:List Tk} {xs:List Ex} {l':List Tk} (h:eH E l=.ok xs l'):xs≠[]:=by
  have h1:∀ n acc l,acc≠[]→∀ v l',jG E n acc l=.ok v l'→v≠[]:=fun n=>by
    induction n with
    | zero=>intro acc l _ v l' h;cases h
    | succ n ih =>
      intro acc l ha v l' h;unfold jG at h;split at h
      · cases hE:E 0 l.tail with
        | ok x l1=>rw [hE] at h;exact ih _ _ (by simp) v l' h
        | bad l1=>rw [hE] at h;cases h
      · cases h;exact ha
  unfold eH at h;cases hE:E 0 l with
  | ok x l1=>rw [hE] at h;exact h1 _ _ _ (by simp) _ _ h
  | bad l1=>rw [hE] at h;cases h
theorem Ab {F:Nat→Prop} {w:World} {xs:List Ex} {a:Option Addr} (h:Ex.Ats F w xs a) (hne:xs≠[]):∃ ad,a=some ad:=by
  cases xs with
  | nil=>exact absurd rfl hne
  | cons x r=>obtain ⟨b,off,d,h1,_⟩:=h;exact ⟨_,h1⟩
theorem Hz {w:World} {b o:Nat} {xs ys:List Value} (h1:w.rangeAt b o xs) (h2:w.rangeAt b (o+xs.length) ys):w.rangeAt b o (xs++ys):=fun j v hv=>by
  rcases Nat.lt_or_ge j xs.length with hj|hj
  · rw [List.getElem?_append_left hj] at hv;exact h1 j v hv
  · rw [List.getElem?_append_right hj] at hv;have:=h2 _ v hv
    rwa [show o+xs.length+(j - xs.length)=o+j by omega] at this
theorem tA {F:Nat→Prop} {w:World}:∀ {xs:List Ex} {b off:Nat},(xs≠[]→Ex.Ats F w xs (some ⟨b,off,none⟩))→∃ ds:List EA,ds.length=xs.length∧w.rangeAt b off ((xs.zip ds).flatMap fun p=>p.1.cells p.2)∧∀ (i:Nat) x d,xs[i]?=some x→ds[i]?=some d→x.At F w d
  | [],b,off,_=>⟨[],rfl,fun j v hv=>by simp at hv,fun i x d h=>by simp at h⟩
  | x::r,b,off,h=>by
    obtain ⟨b',off',d,h1,h2,h3,h4,h5,h6⟩:=h (by simp);injection h1 with h1;injection h1 with e1 e2;subst e1 e2
    obtain ⟨ds,hl,hr,ha⟩:=tA (xs:=r) (b:=b) (off:=off+8) (fun _=>h6);refine ⟨d::ds,by simp [hl],?_,fun i y dy hy hd=>?_⟩
    · show w.rangeAt b off (x.cells d++_);exact Hz h4 hr
    · cases i with
      | zero=>cases hy;cases hd;exact h5
      | succ i=>exact ha i y dy (by simpa using hy) (by simpa using hd)
theorem Hu {base p k c:Nat} {w1 w0:World} {v:Value} {l xs:List Ex} {ds:List EA} {ad:Addr} {ops:Array Oper} {rest:List Oper} {o:Oper} {a:Act} {Q:Exit→Act→World→Prop}
    (HG:aM Ex.cells dT 37 8 base w1 v l ds) (hp:p<base) (hg:Gs p w1 w0) (hb:base≤w1.heap.size) (hk:w1.heap.size≤k) (hxs:xs≠[]) (hy:Ex.Ats (ay k) w0 xs (some ad)) (hlen:l.length+xs.length≤200000)
    (hgd:o.guard=none) (s x:Operand) (hop:o.op=.call { callee:=.builtin .append,args:=#[s,x],argTypes:=#[34,34] }) (hs:a.eval s=v) (hx:a.eval x=.slice (some ad) xs.length c)
    (h:∀ v' w' ds',aM Ex.cells dT 37 8 base w' v' (l++xs) (ds++ds')→w0.grownBy w' v.ownBlock→(∀ j,v.ownBlock=some j→base≤j)→wpList Tryz.prog ops Q rest (a.put o.dst v') w'):wpList Tryz.prog ops Q (o::rest) a w0:=by
  obtain ⟨i0,hi,hz0,hz1,hz2⟩:=info_parts qZ;have HG0:=HG.gs db hg hp
  have h0:∃ b off,ad=⟨b,off,none⟩:=by
    cases xs with
    | nil=>exact absurd rfl hxs
    | cons x r=>obtain ⟨b,off,d,h1,_⟩:=hy;cases h1;exact ⟨b,off,rfl⟩
  obtain ⟨b,off,rfl⟩:=h0;obtain ⟨ds',hl,hr,ha⟩:=tA (fun _=>hy);have hz:(xs.zip ds').length=xs.length:=by rw [List.length_zip,hl];omega
  refine ms _ hgd s x 34 hop base 37 i0 _ 8 104 Tryz.underlying34 hi hz0 hz1 hz2 rfl (by decide) v l.length _ hs HG0.own ⟨b,off,none⟩ xs.length c _ hx (by rw [iP (f:=fun p:Ex × EA=>p.1.cells p.2) (n:=8) (fun _=>rfl),hz]) (fun j u hu=>?_) (fun u hu=>?_) (by cases xs with|nil=>exact absurd rfl hxs|cons x r=>simp) (by unfold maxLen;omega) (by omega) (KT hb hg.size) ?_
  · have:=hr j u hu;rw [←this,Addr.add_lit]
  · obtain ⟨q,-,hq⟩:=List.mem_flatMap.1 hu;exact Ex.cells_one _ _ u hq
  intro v' w' r1 r2 r3;refine h v' w' ds' (aM.app2 db HG0 hl (fun i x d hx hd=>?_) r1 r2 r3) r2 (fun j hj=>(HG.own.lt j hj).1);refine db (ay k) _ w0 _ x d (af.refl _ _) (fun j hj _=>⟨by omega,fun he=>?_⟩) (ha i x d hx hd);have h9:=(HG.own.lt j he.symm).2;have h8:k≤j:=hj;omega
theorem ty {C:PC} {E:EF} {n:Nat} (hE:EC C E n) (hL:SE E) (hP:tn C E n) (e:Ex) (d:EA) (m:Nat) (l:List Tk) (w:World) (hc:eX l=true) (hl:l.length<n) (h:C.At w l) (hm:C.p<m) (hmw:m≤w.heap.size) (he:e.At (ay m) w d) :
    Calls Tryz.prog 161 #[co C,(eV e d)] w (ai C (CS m) (gA E e l) w):=by
  delta eV
  have HA:=hI h;have hp:=h.lt;have hl6:=h.len;have hpn:w.heap.size≠C.p:=by omega
  have HE:=hI hE;have HL:=hI hL;have HN:=hI hl;have HP:=hI hP;have HC:=hI hc;have HX:=hI he;generalize hR:gA E e l=R;have HR:=hI hR.symm;clear hR h hE hL hl hP hc he;unfold gA at HR
  go_enter Tryz.func161,Tryz.ntmps161
  go_wp2_with (first
    | (go_at_call 57;(with_reducible refine (dI C [40] l _ HR (HA.out.ca kw)).mono ?_);rintro e w2 (⟨rfl,HB,HR,HA,hg2⟩|⟨rfl,HB,HR,HA,hg2⟩) <;> (have HBX:=hI (hg2.box (aA rfl) hpn);have kb:=fun i=>ac HBX.out i;have kbf:=fun i=>ag HBX.out i;have kbz:=ae HBX.out)))
  · have hb0:=hg2.size;have HG:=hI (show aM Ex.cells dT 37 8 m (w2.alloc (.cells #[.int .i64 e.kind,.int .i64 e.op,.int .i64 e.line,.int .i64 e.p,.int .i64 e.q,.string e.str,.slice d.a e.args.length d.c,.slice d.fa e.funcs.length d.fc] 37)) (.slice (some ⟨w2.heap.size,0,none⟩) 1 1) [e] [d] from aM.one (x:=e) db rfl (by simp at hb0;omega) (by decide) rfl rfl (HX.out.keep kx (fr (KU _))));have ht2:=bO HB.out
    go_wp2_with (first
      | (go_at_call 58;(with_reducible refine (kE C [41] l.tail _ HR (HA.out.ca kw)).mono ?_);rintro e w3 (⟨rfl,HB3,HR,HA,hg3⟩|⟨rfl,HB3,HR,HA,hg3⟩))
      | (go_at_call 89;(with_reducible refine (ai.step HR (oQ HE.out HL.out l.tail _ (by have:=HN.out;omega) (HA.out.ca kw))).mono ?_);rintro e w4 (⟨l4,rfl,HR,hg4⟩|⟨xs,l4,u,rfl,⟨a,c,rfl,h1,h2,hx⟩,HM,HR,HA,hg4⟩);rotate_left;(have hlx:=ib HL.out _ _ _ HM.out;have HNE:=hI (Fg HM.out);obtain ⟨ad,rfl⟩:∃ ad,a=some ad:=Ab hx HNE.out;have HXS:=hI hx;clear hx))
      | (at_builtin;go_loud (refine Hu HG.out hm gw (by simp at hb0 ⊢;omega) (KT hg3.size (KU _)) HNE.out HXS.out (by simp;omega) rfl _ _ rfl rfl rfl ?_;intro v' w6 ds' hg6 hgr hlo;have HG6:=hI hg6;have HGR:=hI hgr;have HLO:=hI hlo;clear hg6 hgr hlo;have HA:=hI ((HA.out.ca kw).grown HGR.out HLO.out hm);have hg6:Gs C.p w w6:=Gs.grown HGR.out (fun k hk=>by have h9:=Option.some.inj (show some w2.heap.size=some k from hk);simp at hb0;omega) gw))
      | (go_at_call 95;(with_reducible refine (ai.step HR (gi C [41] _ _ (HA.out.ca kw))).mono ?_);rintro e w5 (⟨l5,rfl,HR,hg5⟩|⟨t,l5,u,rfl,⟨rfl,-⟩,-,HR,HA,hg5⟩);rotate_left))
    all_goals try exact ⟨rfl,ai.no HR gw⟩
    · go_ret;exact ai.yes HR gw (HA.out.ca kw) (HG.out.gs db gw hm).exs
    · go_ret;exact ai.yes HR gw (HA.out.ca kw) (HG6.out.gs db gw hm).exs
  · have HS:=hI (show ∀ w',Gs C.p w2 w'→∀ i,w'.cell? ⟨w.heap.size,i,none⟩=#[.int .i64 e.kind,.int .i64 e.op,.int .i64 e.line,.int .i64 e.p,.int .i64 e.q,.string e.str,.slice d.a e.args.length d.c,.slice d.fa e.funcs.length d.fc][i]? from fun w' hg i=>ac (hg.box HBX.out hpn) i);refine wp_region_held_drew (S:=(fun w'=>∀ i,w'.cell? ⟨w.heap.size,i,none⟩=#[.int .i64 e.kind,.int .i64 e.op,.int .i64 e.line,.int .i64 e.p,.int .i64 e.q,.string e.str,.slice d.a e.args.length d.c,.slice d.fa e.funcs.length d.fc][i]?)) (by kernel_rfl) ?s101 ?r101
    case s101=>exact HS.out _ gw
    intro hHeld;refine tH 0 ?_;refine tH 1 ?_;refine wpAnyH_ready (rs:=[2]) (by kernel_rfl) (by simp) ?_;refine AllReadyH.cons rfl (fun K hK=>?_) AllReadyH.nil
    go_simp
    go_at_call 126;(with_reducible refine (ai.step HR (HP.out l _ HC.out HB.out HN.out (HA.out.ca kw))).mono ?_);rintro e w3 (⟨l3,rfl,HR,hg3⟩|⟨x,l3,u,rfl,⟨dx,rfl,hx⟩,-,HR,HA,hg3⟩)
    · go_wp2_with fail
      exact ⟨rfl,ai.no HR gw⟩
    have HY:=hI hx;clear hx
    go_wp2_with fail
    refine hK.out _ _ ?s104 ?r104
    case s104=>exact HS.out _ gw
    intro hHeld;clear hK K
    try simp only [Act.put,al,am,ap]
    refine wpAnyH_ready (rs:=[3]) (by kernel_rfl) (by simp) ?_;refine AllReadyH.cons rfl (fun K hK=>?_) AllReadyH.nil
    go_simp
    refine hK.out _ _ ?s105 ?r105
    case s105=>exact HS.out _ gw
    intro hHeld;clear hK K
    try simp only [Act.put,al,am,ap]
    refine wpAnyH_ready (rs:=[4]) (by kernel_rfl) (by simp) ?_;refine AllReadyH.cons rfl (fun K hK=>?_) AllReadyH.nil
    go_simp
    refine hK.out _ _ ?s106 ?r106
    case s106=>exact HS.out _ gw
    intro hHeld;clear hK K
    try simp only [Act.put,al,am,ap]
    refine wpAnyH_done (by kernel_rfl) ?_ _
    go_wp2_with fail
    go_ret;exact ai.yes HR gw (HA.out.ca kw) ⟨_,2,rfl,KU _,by unfold MX;decide,mX rfl (show m≤_ by have:=hg2.size;have:=hg3.size;simp at *;omega) (HX.out.keep kx (fr (KU _))) (HY.out.keep kx (fr (by have:=hg2.size;simp at *;omega)))⟩
