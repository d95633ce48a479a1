/- The parser's tokens in memory. Contracts of the parser's methods next, is, wrong, take. -/
import Derived.Test.YtaddbmkkkollpaaGreatDoorE1
import Derived.Test.YtaddbmkkkollpaaGreatDoorJ0
import Derived.StillTailTactics
import Derived.RegionTactic
import Derived.Deep.RegionHeld3
import Derived.Deep.DeepCutAuto
import Derived.Deep.LoopGhost
import Derived.Deep.RegionWith
namespace Go.Proofs.YtaddbmkkkollpaaGreatDoor
open Go.RowKit
set_option linter.unusedVariables false
set_option linter.unusedSimpArgs false
set_option maxHeartbeats 4000000
set_option maxRecDepth 100000
structure Gs (p:Nat) (w w':World):Prop where
  os:w'.os=w.os
  tape:w'.tape=w.tape
  output:w'.output=w.output
  size:w.heap.size≤w'.heap.size
  block:∀ k,k<w.heap.size→k≠p→w'.heap[k]?=w.heap[k]?
theorem Gs.refl (p:Nat) (w:World):Gs p w w:=⟨rfl,rfl,rfl,Nat.le_refl _,fun _ _ _=>rfl⟩
theorem Gs.thru {p:Nat} {w b c:World} (h:Gs p b c) (k:Gs p w b):Gs p w c :=
  ⟨h.os.trans k.os,h.tape.trans k.tape,h.output.trans k.output,Nat.le_trans k.size h.size,fun i hi hn=>(h.block i (Nat.lt_of_lt_of_le hi k.size) hn).trans (k.block i hi hn)⟩
theorem Gs.of_below {p:Nat} {w w':World} (h:Below w.heap.size w w'):Gs p w w':=⟨h.os,h.tape,h.output,h.size,fun k hk _=>h.block k hk⟩
theorem Gs.below {p:Nat} {w b c:World} (h:Below b.heap.size b c) (k:Gs p w b):Gs p w c:=(Gs.of_below h).thru k
theorem Gs.alloc {p:Nat} {w b:World} (k:Gs p w b) (o:Obj):Gs p w (b.alloc o):=Gs.below (balloc (Below.refl _ _) o) k
theorem Gs.drewN {p:Nat} {w b:World} (k:Gs p w b) (n:Nat):Gs p w (b.drewN n):=Gs.below (bdrewN (Below.refl _ _) n) k
theorem Gs.drew {p:Nat} {w b:World} (k:Gs p w b):Gs p w b.drew:=Gs.below (Below.drew (Below.refl _ _)) k
theorem Gs.set {p:Nat} {w b:World} (k:Gs p w b) {a:Addr} (ha:a.block=p∨w.heap.size≤a.block) (v:Value):Gs p w (b.setCell a v) :=
  ⟨k.os,k.tape,k.output,by simpa [World.setCell] using k.size,fun i hi hn=>by rw [Below.heap_setCell _ _ _ _ (fun e=>by rcases ha with h|h;exact hn (e.trans h);omega)];exact k.block i hi hn⟩
theorem Gs.grown {p:Nat} {w b c:World} {row:Option Nat} (hg:b.grownBy c row) (hr:∀ k,row=some k→w.heap.size≤k) (k:Gs p w b):Gs p w c :=
  ⟨hg.os.trans k.os,hg.tape.trans k.tape,hg.output.trans k.output,Nat.le_trans k.size hg.size,fun i hi hn=>(hg.block i (Nat.lt_of_lt_of_le hi k.size) (fun e=>by have:=hr i e.symm;omega)).trans (k.block i hi hn)⟩
theorem Gs.keep {p:Nat} {w w':World} {F:Nat→Prop} (h:Gs p w w') (hF:¬ F p):Keep F w w':=⟨h.size,fun k hk hl=>h.block k hl (fun e=>hF (e ▸ hk))⟩
theorem Gs.box {p b:Nat} {w w':World} {o:Obj} (h:Gs p w w') (hb:w.heap[b]?=some o) (hne:b≠p):w'.heap[b]?=some o:=(h.block b (box_lt hb) hne).trans hb
theorem Gs.to_below {B p:Nat} {w w':World} (h:Gs p w w') (hp:B≤p) (hB:B≤w.heap.size):Below B w w':=⟨h.os,h.tape,h.output,h.size,fun k hk=>h.block k (by omega) (by omega)⟩
def tkC (t:Tk):List Value:=[.int .i64 t.kind,.string t.text,.int .i64 t.line,.int .i64 t.pos]
def tkR (t:Tk) (cs:List Value):Prop:=cs=tkC t∧t.text.size≤MX∧W64 t.kind∧W64 t.line∧W64 t.pos
structure PC where
  p:Nat
  L:List Tk
  ta:Option Addr
  tc:Nat
structure PC.At (C:PC) (w:World) (l:List Tk):Prop where
  box:∃ i,i≤C.L.length∧l=C.L.drop i∧w.heap[C.p]?=some (.cells #[.slice C.ta C.L.length C.tc,.int .i64 (i:Int)] 128)
  row:Rows (fun k=>k<C.p) w 4 tkR C.L C.ta
  cap:C.L.length≤65536
theorem PC.At.mv {C:PC} {w w':World} {l:List Tk} (h:C.At w l) (hb:Below w.heap.size w w'):C.At w' l:=by
  obtain ⟨i,h1,h2,h3⟩:=h.box;exact ⟨⟨i,h1,h2,box_below hb h3⟩,h.row.keep (keep_below hb) (fun _ h=>h) (fun _ _ _ h=>h),h.cap⟩
theorem PC.At.gs {C:PC} {w w':World} {l l':List Tk} {i:Nat} (h:C.At w l) (hg:Gs C.p w w') (hi:i≤C.L.length) (hl:l'=C.L.drop i)
    (hb:w'.heap[C.p]?=some (.cells #[.slice C.ta C.L.length C.tc,.int .i64 (i:Int)] 128)):C.At w' l' :=
  ⟨⟨i,hi,hl,hb⟩,h.row.keep (hg.keep (Nat.lt_irrefl _)) (fun _ h=>h) (fun _ _ _ h=>h),h.cap⟩
theorem PC.At.ca {C:PC} {w w':World} {l:List Tk} (h:C.At w l) (hk:Keep (fun k=>k≤C.p) w w'):C.At w' l:=by
  obtain ⟨i,h1,h2,h3⟩:=h.box;exact ⟨⟨i,h1,h2,(hk.block _ (Nat.le_refl _) (box_lt h3)).trans h3⟩,h.row.keep (hk.weak fun k hk=>Nat.le_of_lt hk) (fun _ h=>h) (fun _ _ _ h=>h),h.cap⟩
theorem PC.At.tok {C:PC} {w:World} {l:List Tk} (h:C.At w l) {i:Nat} {t:Tk} (ht:C.L[i]?=some t):∃ b off,C.ta=some ⟨b,off,none⟩∧b<C.p∧b<w.heap.size∧w.rangeAt b (off+i*4) (tkC t)∧t.text.size≤MX∧W64 t.kind∧W64 t.line∧W64 t.pos:=by
  obtain ⟨b,off,h1,h2⟩:=h.row;have hne:C.L≠[]:=by intro h0;rw [h0] at ht;simp at ht
  obtain ⟨h3,h4,h5⟩:=h1 hne;obtain ⟨cs,hr,rfl,h6⟩:=h2 i t ht;exact ⟨b,off,h3,h4,h5,hr,h6⟩
theorem next_drop {L:List Tk} {i:Nat} {t:Tk} (h:L[i]?=some t):L.drop i=t::L.drop (i+1):=by
  obtain ⟨hi,rfl⟩:=List.getElem?_eq_some_iff.1 h;exact List.drop_eq_getElem_cons hi
theorem next_any (C:PC) (l:List Tk) (w:World) (h:C.At w l) :
    Calls Tryz.prog 87 #[.pointer (some ⟨C.p,0,none⟩)] w fun e w'=>e=.returned (.agg #[.int .i64 (nextK l).kind,.string (nextK l).text,.int .i64 (nextK l).line,.int .i64 (nextK l).pos])∧Below w.heap.size w w':=by
  obtain ⟨p,L,ta,tc⟩:=C;have HA:=hI h;obtain ⟨i,hi,rfl,hbox⟩:=h.box;have hcap:=h.cap;simp only at hi hbox hcap;clear h;have kb:=fun j=>box_cell hbox j;have kz:=box_lt hbox;clear hbox;by_cases hlt:i<L.length
  · obtain ⟨t,ht⟩:∃ t,L[i]?=some t:=⟨_,List.getElem?_eq_getElem hlt⟩
    obtain ⟨b,off,rfl,hpb,hlb,hr,-⟩:=HA.out.tok (i:=i) ht;have hne:b≠p:=Nat.ne_of_lt hpb;have HN:=hI (next_drop ht);have c0:=hr 0 _ rfl;have c1:=hr 1 _ rfl;have c2:=hr 2 _ rfl;have c3:=hr 3 _ rfl;simp only [Nat.add_zero] at c0;clear hr ht
    go_enter Tryz.func87,Tryz.ntmps87
    go_wp2_with fail
    go_quiet (fail)
    go_wp2_with fail
    go_region
    all_goals
      go_wp2_with fail
      refine bodyPost_ret (v:=.agg #[.int .i64 t.kind,.string t.text,.int .i64 t.line,.int .i64 t.pos]) (by simp [results,Tryz.results87,go_sem]) rfl ?_;exact ⟨by rw [HN.out];rfl,bw⟩
  · have HN:=hI (show L.drop i=[] from List.drop_eq_nil_of_le (by omega))
    go_enter Tryz.func87,Tryz.ntmps87
    go_wp2_with fail
    go_quiet (fail)
    go_wp2_with fail
    refine bodyPost_ret (v:=.agg #[.int .i64 0,.string ⟨#[]⟩,.int .i64 0,.int .i64 0]) (by simp [results,Tryz.results87,go_sem]) rfl ?_;exact ⟨by rw [HN.out];rfl,bw⟩
theorem isB_next (s:Sb) (l:List Tk):isB s l=(((nextK l).kind==2 || (nextK l).kind==5) && (nextK l).text.data.toList==s):=by cases l <;> rfl
theorem is_any (C:PC) (s:ByteArray) (l:List Tk) (w:World) (h:C.At w l) :
    Calls Tryz.prog 58 #[.pointer (some ⟨C.p,0,none⟩),.string s] w fun e w'=>e=.returned (.bool (isB s.data.toList l))∧Below w.heap.size w w':=by
  have HN:=hI (next_any C l w h);rw [isB_next];generalize nextK l=t at HN;cases h1:(t.kind==2) <;> cases h2:(t.kind==5)
  all_goals
    go_enter Tryz.func58,Tryz.ntmps58
    go_wp2_with (go_at_call 87;(with_reducible refine HN.out.mono ?_);rintro e w2 ⟨rfl,hb2⟩)
    go_ret;exact ⟨by simp [ByteArray.toList_eq],bw⟩
def flP (n:Int):List PanicEntry:=[{ v:=.iface 126 (.agg #[.int .i64 n,.int .i64 4]),recovered:=false }]
theorem lineK_drop {L:List Tk} {i:Nat} {t:Tk} (h:L[i]?=some t):lineK L (L.drop i)=t.line:=by rw [next_drop h];rfl
theorem lineK_nil {L:List Tk} {i:Nat} (h:L.length≤i):lineK L (L.drop i)=(L.getLast?.map (·.line)).getD 1:=by rw [List.drop_eq_nil_of_le h];rfl
theorem yJ1a {P:Prop} (h:P:=by
  go_wp2_with fail
  go_quiet (fail)
  go_wp2_with fail
  exact ⟨rfl,by rw [HN.out,HT.out];rfl,bw⟩):P:=h
theorem wrong_any (C:PC) (l:List Tk) (w:World) (h:C.At w l) :
    Calls Tryz.prog 55 #[.pointer (some ⟨C.p,0,none⟩)] w fun e w'=>e=.panicked (flP (lineK C.L l))∧Below w.heap.size w w':=by
  obtain ⟨p,L,ta,tc⟩:=C;have HA:=hI h;obtain ⟨i,hi,rfl,hbox⟩:=h.box;have hcap:=h.cap;simp only at hi hbox hcap;clear h;have kb:=fun j=>box_cell hbox j;have kz:=box_lt hbox;clear hbox;by_cases hlt:i<L.length
  · obtain ⟨t,ht⟩:∃ t,L[i]?=some t:=⟨_,List.getElem?_eq_getElem hlt⟩
    obtain ⟨b,off,rfl,hpb,hlb,hr,-⟩:=HA.out.tok (i:=i) ht;have hne:b≠p:=Nat.ne_of_lt hpb;have HN:=hI (lineK_drop ht);have c2:=hr 2 _ rfl;clear hr ht
    go_enter Tryz.func55,Tryz.ntmps55
    go_wp2_with fail
    go_quiet (fail)
    go_wp2_with fail
    go_quiet (fail)
    go_wp2_with fail
    exact ⟨rfl,by rw [HN.out];rfl,bw⟩
  · have HN:=hI (lineK_nil (L:=L) (i:=i) (by omega));by_cases h0:0<L.length
    · obtain ⟨t,ht⟩:∃ t,L[L.length - 1]?=some t:=⟨_,List.getElem?_eq_getElem (by omega)⟩
      obtain ⟨b,off,rfl,hpb,hlb,hr,-⟩:=HA.out.tok (i:=L.length - 1) ht;have hne:b≠p:=Nat.ne_of_lt hpb;have HT:=hI (show L.getLast?=some t by rw [List.getLast?_eq_getElem?];exact ht);have c2:=hr 2 _ rfl;clear hr ht
      go_enter Tryz.func55,Tryz.ntmps55
      go_wp2_with fail
      go_quiet (fail)
      exact yJ1a
    · have HT:=hI (show L.getLast?=none by rw [List.length_eq_zero_iff.1 (by omega:L.length=0)];rfl)
      go_enter Tryz.func55,Tryz.ntmps55
      exact yJ1a
structure Tells {α:Type} (C:PC) (V:α→World→World→Value→Prop) (r:Res α) (w:World) (e:Ending) (w':World):Prop where
  gs:Gs C.p w w'
  ok:∀ x l,r=.ok x l→∃ u,e=.returned u∧V x w w' u∧C.At w' l
  bad:∀ l,r=.bad l→e=.panicked (flP (lineK C.L l))
def tkW (t:Tk) (w w':World) (u:Value):Prop:=u=.agg #[.int .i64 t.kind,.string t.text,.int .i64 t.line,.int .i64 t.pos]∧t.text.size≤MX∧W64 t.kind∧W64 t.line
theorem gw {p:Nat} {w w':World} (h:Gs p w w':=by repeat with_reducible first|exact Gs.refl _ _|assumption|refine Gs.alloc ?_ _|refine Gs.drewN ?_ _|refine Gs.drew ?_|refine Gs.set ?_ (by first|exact Or.inl rfl|(right;simp;done)|(right;simp;omega)) _|refine Gs.below (by assumption) ?_|refine Gs.thru (by assumption) ?_):Gs p w w':=h
theorem kw {n:Nat} {w w':World} (h:Keep (fun k=>k≤n) w w':=by repeat with_reducible first|exact Keep.refl _ _|refine Keep.alloc ?_ _|refine Keep.set ?_ (by simp;omega) _|refine Keep.drewN ?_ _|refine Keep.drew ?_|refine Keep.thru (by assumption) ?_):Keep (fun k=>k≤n) w w':=h
theorem bx_ne {w:World} {b:Nat} {o:Option Obj} {a:Addr} {v:Value} (h:w.heap[b]?=o) (hne:a.block≠b):(w.setCell a v).heap[b]?=o:=by rw [Below.heap_setCell _ _ _ _ (fun e=>hne e.symm)];exact h
theorem bx_drew {w:World} {b:Nat} {o:Option Obj} (h:w.heap[b]?=o):w.drew.heap[b]?=o:=h
theorem bx_drewN {w:World} {b n:Nat} {o:Option Obj} (h:w.heap[b]?=o):(w.drewN n).heap[b]?=o:=by rw [←h];exact (bdrewN (Below.refl (b+1) w) n).block b (by omega)
theorem set4 {w:World} {b:Nat} {u0 u1 u2 u3:Value} {T:TypeId} (h:w.heap[b]?=some (.cells #[u0,u1,u2,u3] T)) (v0 v1 v2 v3:Value) :
    ((((w.setCell ⟨b,0,none⟩ v0).setCell ⟨b,1,none⟩ v1).setCell ⟨b,2,none⟩ v2).setCell ⟨b,3,none⟩ v3).heap[b]?=some (.cells #[v0,v1,v2,v3] T) :=
  box_set (box_set (box_set (box_set h 0 v0) 1 v1) 2 v2) 3 v3
theorem tok_field0 (t:Tk) (w:World):Sem.run Tryz.prog (Instr.field 163 (.agg #[.int .i64 t.kind,.string t.text,.int .i64 t.line,.int .i64 t.pos]) 0) w=.ok (.int .i64 t.kind) w:=by kernel_rfl
theorem tok_field1 (t:Tk) (w:World):Sem.run Tryz.prog (Instr.field 163 (.agg #[.int .i64 t.kind,.string t.text,.int .i64 t.line,.int .i64 t.pos]) 1) w=.ok (.string t.text) w:=by kernel_rfl
theorem tok_field2 (t:Tk) (w:World):Sem.run Tryz.prog (Instr.field 163 (.agg #[.int .i64 t.kind,.string t.text,.int .i64 t.line,.int .i64 t.pos]) 2) w=.ok (.int .i64 t.line) w:=by kernel_rfl
section
variable {α β:Type} {C:PC} {V:α→World→World→Value→Prop} {R:Res α} {w w':World} {l:List Tk}
theorem Tells.no (HR:Hid (R=.bad l)) (hg:Gs C.p w w'):Tells C V R w (.panicked (flP (lineK C.L l))) w' :=
  ⟨hg,(fun x l' h=>by rw [HR.out] at h;cases h),fun l' h=>by rw [HR.out] at h;injection h with h;rw [h]⟩
theorem Tells.yes {x:α} {u:Value} (HR:Hid (R=.ok x l)) (hg:Gs C.p w w') (hA:C.At w' l) (hv:V x w w' u):Tells C V R w (.returned u) w' :=
  ⟨hg,(fun x' l' h=>by rw [HR.out] at h;injection h with h1 h2;subst h1 h2;exact ⟨u,rfl,hv,hA⟩),(fun l' h=>by rw [HR.out] at h;cases h)⟩
theorem Tells.step {R:Res β} {m:Res α} {k:α→List Tk→Res β} {P:Program} {n:FuncId} {args:Array Value} (HR:Hid (R=m.bind k)) (h:Calls P n args w (Tells C V m w)) :
    Calls P n args w fun e w'=>(∃ l,e=.panicked (flP (lineK C.L l))∧Hid (R=.bad l)∧Gs C.p w w')∨∃ x l u,e=.returned u∧V x w w' u∧Hid (m=.ok x l)∧Hid (R=k x l)∧Hid (C.At w' l)∧Gs C.p w w':=by
  refine h.mono fun e w' h=>?_;cases m with
  | ok x l =>
    obtain ⟨u,h1,h2,h3⟩:=h.ok x l rfl;exact .inr ⟨x,l,u,h1,h2,rfl,HR,h3,h.gs⟩
  | bad l=>exact .inl ⟨l,h.bad l rfl,HR,h.gs⟩
theorem Tells.tail {R m:Res α} {P:Program} {n:FuncId} {args:Array Value} (HR:Hid (R=m)) (h:Calls P n args w (Tells C V m w)) :
    Calls P n args w fun e w'=>(∃ l,e=.panicked (flP (lineK C.L l))∧Hid (R=.bad l)∧Gs C.p w w')∨∃ x l u,e=.returned u∧V x w w' u∧Hid (m=.ok x l)∧Hid (R=.ok x l)∧Hid (C.At w' l)∧Gs C.p w w' :=
  Tells.step (k:=.ok) (show R=m.bind .ok by rw [HR.out];cases m <;> rfl) h
end
theorem isB_cons {s:Sb} {l:List Tk} (h:isB s l=true):∃ t r,l=t::r:=by cases l with|nil=>cases h|cons t r=>exact ⟨t,r,rfl⟩
theorem PC.At.cut {C:PC} {w:World} {t:Tk} {r:List Tk} (h:C.At w (t::r)):∃ i,i<C.L.length∧t::r=C.L.drop i∧C.L[i]?=some t∧r=C.L.drop (i+1)∧w.heap[C.p]?=some (.cells #[.slice C.ta C.L.length C.tc,.int .i64 (i:Int)] 128):=by
  obtain ⟨i,hi,hl,hb⟩:=h.box
  have hlt:i<C.L.length:=by
    rcases Nat.lt_or_ge i C.L.length with h9|h9
    · exact h9
    · rw [List.drop_eq_nil_of_le h9] at hl;cases hl
  have h2:=List.drop_eq_getElem_cons hlt;rw [←hl] at h2;injection h2 with h3 h4
  exact ⟨i,hlt,hl,by rw [List.getElem?_eq_getElem hlt,h3],h4,hb⟩
theorem take_any (C:PC) (l:List Tk) (w:World) (h:C.At w l) :
    Calls Tryz.prog 88 #[.pointer (some ⟨C.p,0,none⟩)] w (Tells C tkW (takeR l) w):=by
  cases l with
  | nil =>
    have HW:=hI (fun w' (hb:Below w.heap.size w w')=>wrong_any C [] w' (h.mv hb));obtain ⟨i,hi,hl,hbox⟩:=h.box
    have hge:C.L.length≤i:=by
      rcases Nat.lt_or_ge i C.L.length with h9|h9
      · rw [List.drop_eq_getElem_cons h9] at hl;cases hl
      · exact h9
    have hcap:=h.cap;clear h hl;have kb:=fun j=>box_cell hbox j;have kz:=box_lt hbox;clear hbox
    go_enter Tryz.func88,Tryz.ntmps88
    go_wp2_with fail
    go_quiet (fail)
    go_wp2_with (go_at_call 55;(with_reducible refine (HW.out _ bw).mono ?_);rintro e w2 ⟨rfl,hb2⟩)
    exact ⟨rfl,Tells.no rfl (Gs.of_below (thru hb2 bw))⟩
  | cons t r =>
    have HA:=hI h;obtain ⟨i,hlt,hl,ht,hr,hbox⟩:=h.cut;obtain ⟨b,off,hta,hpb,hlb,hrg,hts,hk,hln,-⟩:=h.tok ht;have hne:b≠C.p:=Nat.ne_of_lt hpb;have hcap:=h.cap;have HT:=hI (And.intro hts (And.intro hk hln));have HL:=hI hr;have HB:=hI hbox;clear h hl ht hr hts hk hln;obtain ⟨p,L,ta,tc⟩:=C;simp only at *;subst hta;have kb:=fun j=>box_cell hbox j;have kz:=box_lt hbox;have kf:=fun j=>box_free hbox j;have c0:=hrg 0 _ rfl;have c1:=hrg 1 _ rfl;have c2:=hrg 2 _ rfl;have c3:=hrg 3 _ rfl;simp only [Nat.add_zero] at c0;clear hrg hbox
    go_enter Tryz.func88,Tryz.ntmps88
    go_wp2_with fail
    go_quiet (fail)
    go_wp2_with fail
    go_region
    all_goals
      go_wp2_with fail
      refine bodyPost_ret (v:=.agg #[.int .i64 t.kind,.string t.text,.int .i64 t.line,.int .i64 t.pos]) (by simp [results,Tryz.results88,go_sem,kz]) rfl ?_;refine Tells.yes rfl gw (HA.out.gs gw hlt HL.out ?_) ⟨rfl,HT.out⟩;exact bx_drew (bx_ne (bx_ne (bx_ne (bx_ne (box_set (bx_drewN (box_alloc HB.out _)) 1 _) (by simp;omega)) (by simp;omega)) (by simp;omega)) (by simp;omega))
theorem is_at (C:PC) (s:Sb) (l:List Tk) (w:World) (h:C.At w l) :
    Calls Tryz.prog 58 #[.pointer (some ⟨C.p,0,none⟩),.string ⟨s.toArray⟩] w fun e w'=>e=.returned (.bool (isB s l))∧C.At w' l∧Below w.heap.size w w' :=
  (is_any C ⟨s.toArray⟩ l w h).mono fun e w' h9=>⟨h9.1,h.mv h9.2,h9.2⟩
theorem skip_at (C:PC) (s:Sb) (l:List Tk) (w:World) (h:C.At w l) :
    Calls Tryz.prog 57 #[.pointer (some ⟨C.p,0,none⟩),.string ⟨s.toArray⟩] w fun e w'=>e=.returned (.bool (isB s l))∧C.At w' (if isB s l=true then l.tail else l)∧Gs C.p w w':=by
  have HI:=hI (is_at C s l w h);cases hb:isB s l
  · rw [hb] at HI;clear hb h
    go_enter Tryz.func57,Tryz.ntmps57
    go_wp2_with (go_at_call 58;(with_reducible refine HI.out.mono ?_);rintro e w2 ⟨rfl,hA,hb2⟩;have HA:=hI hA;clear hA)
    go_ret;exact ⟨rfl,HA.out,Gs.of_below hb2⟩
  · obtain ⟨t,r,rfl⟩:=isB_cons hb;rw [hb] at HI;clear hb h
    go_enter Tryz.func57,Tryz.ntmps57
    go_wp2_with (go_at_call 58;(with_reducible refine HI.out.mono ?_);rintro e w2 ⟨rfl,hA,hb2⟩;have HA:=hI hA;obtain ⟨i,hlt,-,-,hr,hbox⟩:=hA.cut;have hcap:=hA.cap;have HB:=hI hbox;have HR:=hI hr;have kb:=fun j=>box_cell hbox j;have kf:=fun j=>box_free hbox j;have kz:=box_lt hbox;clear hA hbox hr)
    go_ret;refine ⟨rfl,HA.out.gs gw hlt HR.out (box_set HB.out 1 _),gw⟩
theorem is_step {β:Type} {R A B:Res β} (C:PC) (s:Sb) (l:List Tk) (w:World) (HR:Hid (R=if isB s l=true then A else B)) (h:C.At w l) :
    Calls Tryz.prog 58 #[.pointer (some ⟨C.p,0,none⟩),.string ⟨s.toArray⟩] w fun e w'=>(e=.returned (.bool true)∧Hid (isB s l=true)∧Hid (R=A)∧Hid (C.At w' l)∧Gs C.p w w')∨(e=.returned (.bool false)∧Hid (isB s l=false)∧Hid (R=B)∧Hid (C.At w' l)∧Gs C.p w w'):=by
  refine (is_at C s l w h).mono fun e w' h=>?_;cases hb:isB s l with
  | true=>exact .inl ⟨by rw [h.1,hb],rfl,by rw [hb] at HR;exact HR,h.2.1,Gs.of_below h.2.2⟩
  | false=>exact .inr ⟨by rw [h.1,hb],rfl,by rw [hb] at HR;exact HR,h.2.1,Gs.of_below h.2.2⟩
theorem skip_step {β:Type} {R A B:Res β} (C:PC) (s:Sb) (l:List Tk) (w:World) (HR:Hid (R=if isB s l=true then A else B)) (h:C.At w l) :
    Calls Tryz.prog 57 #[.pointer (some ⟨C.p,0,none⟩),.string ⟨s.toArray⟩] w fun e w'=>(e=.returned (.bool true)∧Hid (isB s l=true)∧Hid (R=A)∧Hid (C.At w' l.tail)∧Gs C.p w w')∨(e=.returned (.bool false)∧Hid (isB s l=false)∧Hid (R=B)∧Hid (C.At w' l)∧Gs C.p w w'):=by
  refine (skip_at C s l w h).mono fun e w' h=>?_;cases hb:isB s l with
  | true=>exact .inl ⟨by rw [h.1,hb],rfl,by rw [hb] at HR;exact HR,by have h9:=h.2.1;rw [hb] at h9;exact h9,h.2.2⟩
  | false=>exact .inr ⟨by rw [h.1,hb],rfl,by rw [hb] at HR;exact HR,by have h9:=h.2.1;rw [hb] at h9;exact h9,h.2.2⟩
theorem PC.At.lt {C:PC} {w:World} {l:List Tk} (h:C.At w l):C.p<w.heap.size:=by obtain ⟨i,_,_,h3⟩:=h.box;exact box_lt h3
theorem need_at (C:PC) (s:Sb) (l:List Tk) (w:World) (h:C.At w l) :
    Calls Tryz.prog 95 #[.pointer (some ⟨C.p,0,none⟩),.string ⟨s.toArray⟩] w (Tells C tkW (needR s l) w):=by
  have HA:=hI h;have hp:=h.lt;have hpn:w.heap.size≠C.p:=by omega
  generalize hR:needR s l=R;have HR:=hI hR.symm;clear hR h;unfold needR at HR
  go_enter Tryz.func95,Tryz.ntmps95
  go_wp2_with (first
    | (go_at_call 58;(with_reducible refine (is_step C s l _ HR (HA.out.ca kw)).mono ?_);rintro e w2 (⟨rfl,-,HR,HA,hg2⟩|⟨rfl,-,HR,HA,hg2⟩) <;> (have HB:=hI (hg2.box (box_at rfl) hpn);have kb:=fun i=>box_cell HB.out i;have kbf:=fun i=>box_free HB.out i;have kbz:=box_lt HB.out))
    | (go_at_call 55;(with_reducible refine (wrong_any C l _ (HA.out.ca kw)).mono ?_);rintro e w3 ⟨rfl,hb3⟩)
    | (go_at_call 88;(with_reducible refine (Tells.tail HR (take_any C l _ (HA.out.ca kw))).mono ?_);rintro e w3 (⟨l3,rfl,HR,hg3⟩|⟨t,l3,u,rfl,⟨rfl,ht⟩,-,HR,HA,hg3⟩);rotate_left;have HB:=hI (hg3.box HB.out hpn);have kb3:=fun i=>box_cell HB.out i;have kb3f:=fun i=>box_free HB.out i;have kb3z:=box_lt HB.out))
  all_goals first
    | exact ⟨rfl,Tells.no HR gw⟩
    | (have k4:=fun j=>box_cell (set4 HB.out (.int .i64 t.kind) (.string t.text) (.int .i64 t.line) (.int .i64 t.pos)) j;have s0:=k4 0;have s1:=k4 1;have s2:=k4 2;have s3:=k4 3;refine bodyPost_ret (v:=.agg #[.int .i64 t.kind,.string t.text,.int .i64 t.line,.int .i64 t.pos]) (by simp [results,Tryz.results95,go_sem,kb3z,s0,s1,s2,s3]) rfl ?_;exact Tells.yes HR gw (HA.out.ca kw) ⟨rfl,ht⟩)
theorem name_at (C:PC) (l:List Tk) (w:World) (h:C.At w l) :
    Calls Tryz.prog 97 #[.pointer (some ⟨C.p,0,none⟩)] w (Tells C tkW (nameR l) w):=by
  have HA:=hI h;have hp:=h.lt;have hpn:w.heap.size≠C.p:=by omega
  generalize hR:nameR l=R;have HR:=hI hR.symm;clear hR h;unfold nameR at HR;generalize ht:nextK l=t at HR;have tf0:=tok_field0 t;have HT:=hI ht;clear ht;cases h1:(t.kind != 1)
  · have HR:=hI (show R=takeR l by rw [HR.out,if_pos (by simpa using h1)])
    go_enter Tryz.func97,Tryz.ntmps97
    go_wp2_with (first
      | (go_at_call 87;(with_reducible refine (next_any C l _ (HA.out.ca kw)).mono ?_);rw [HT.out];rintro e w2 ⟨rfl,hb2⟩;have HB:=hI (box_below hb2 (box_at rfl));have HA:=hI (HA.out.ca (Keep.thru hb2 kw));have hg2:Gs C.p _ _:=Gs.of_below hb2;have kb:=fun i=>box_cell HB.out i;have kbf:=fun i=>box_free HB.out i;have kbz:=box_lt HB.out)
      | (go_at_call 88;(with_reducible refine (Tells.tail HR (take_any C l _ (HA.out.ca kw))).mono ?_);rintro e w3 (⟨l3,rfl,HR,hg3⟩|⟨t,l3,u,rfl,⟨rfl,ht⟩,-,HR,HA,hg3⟩);rotate_left;have HB:=hI (hg3.box HB.out hpn);have kb3:=fun i=>box_cell HB.out i;have kb3f:=fun i=>box_free HB.out i;have kb3z:=box_lt HB.out))
    all_goals first
      | exact ⟨rfl,Tells.no HR gw⟩
      | (have k4:=fun j=>box_cell (set4 HB.out (.int .i64 t.kind) (.string t.text) (.int .i64 t.line) (.int .i64 t.pos)) j;have s0:=k4 0;have s1:=k4 1;have s2:=k4 2;have s3:=k4 3;refine bodyPost_ret (v:=.agg #[.int .i64 t.kind,.string t.text,.int .i64 t.line,.int .i64 t.pos]) (by simp [results,Tryz.results97,go_sem,kb3z,s0,s1,s2,s3]) rfl ?_;exact Tells.yes HR gw (HA.out.ca kw) ⟨rfl,ht⟩)
  · have HR:=hI (show R=.bad l by rw [HR.out,if_neg (by simpa using h1)])
    go_enter Tryz.func97,Tryz.ntmps97
    go_wp2_with (first
      | (go_at_call 87;(with_reducible refine (next_any C l _ (HA.out.ca kw)).mono ?_);rw [HT.out];rintro e w2 ⟨rfl,hb2⟩;have HA:=hI (HA.out.ca (Keep.thru hb2 kw)))
      | (go_at_call 55;(with_reducible refine (wrong_any C l _ (HA.out.ca kw)).mono ?_);rintro e w3 ⟨rfl,hb3⟩))
    exact ⟨rfl,Tells.no HR gw⟩
theorem endsB_at {C:PC} {w:World} {l:List Tk} (h:C.At w l):∃ i,w.heap[C.p]?=some (.cells #[.slice C.ta C.L.length C.tc,.int .i64 (i:Int)] 128)∧((i:Int)==(C.L.length:Int))=l.isEmpty:=by
  obtain ⟨i,hi,hl,hb⟩:=h.box;refine ⟨i,hb,?_⟩;rcases Nat.lt_or_ge i C.L.length with h9|h9
  · rw [hl,List.drop_eq_getElem_cons h9];show _=false;rw [beq_eq_false_iff_ne];omega
  · rw [hl,List.drop_eq_nil_of_le h9];show _=true;rw [beq_iff_eq];omega
theorem yJ2a {P:Prop} (h:P:=by
  refine tH 25 ?_;refine tH 26 ?_;refine wpAnyH_done (by kernel_rfl) ?_ _
  go_wp2_with fail
  go_ret;exact ⟨rfl,bw⟩):P:=h
theorem yJ2b {P:Prop} (h:P:=by
  refine uH 20 ?_;refine tH 21 ?_;refine tH 22 ?_;refine uH 23 ?_;refine uH 24 ?_;exact yJ2a):P:=h
theorem ends_at (C:PC) (l:List Tk) (w:World) (h:C.At w l) :
    Calls Tryz.prog 56 #[.pointer (some ⟨C.p,0,none⟩)] w fun e w'=>e=.returned (.bool (endsB l))∧Below w.heap.size w w':=by
  have HI:=hI (fun (s:Sb) w' (hb:Below w.heap.size w w')=>is_at C s l w' (h.mv hb));obtain ⟨i,hbox,hie⟩:=endsB_at h;have hcap:=h.cap;have HS:=hI (show ∀ w',Below w.heap.size w w'→w'.cell? ⟨C.p,0,none⟩=some (.slice C.ta C.L.length C.tc)∧w'.cell? ⟨C.p,1,none⟩=some (.int .i64 (i:Int)) from fun w' hb=>⟨box_cell (box_below hb hbox) 0,box_cell (box_below hb hbox) 1⟩);clear h;have kb:=fun j=>box_cell hbox j;have kz:=box_lt hbox;clear hbox;unfold endsB;have hI:∀ (t:Sb) (b:Bool),b=isB t l→Hid (∀ w' (hb:Below w.heap.size w w'),Calls Tryz.prog 58 #[.pointer (some ⟨C.p,0,none⟩),.string ⟨t.toArray⟩] w' fun e w''=>e=.returned (.bool b)∧Below w'.heap.size w' w''):=fun t b hb=>by subst hb;exact fun w' hb'=>(HI.out t w' hb').mono fun e w'' h=>⟨h.1,h.2.2⟩
  obtain ⟨b1,hb1⟩:∃ b,b=isB sEnd l:=⟨_,rfl⟩;obtain ⟨b2,hb2⟩:∃ b,b=isB [101,108,115,101] l:=⟨_,rfl⟩
  obtain ⟨b3,hb3⟩:∃ b,b=isB [101,108,115,101,105,102] l:=⟨_,rfl⟩;obtain ⟨b4,hb4⟩:∃ b,b=isB [117,110,116,105,108] l:=⟨_,rfl⟩
  have H1:=hI _ b1 hb1;have H2:=hI _ b2 hb2;have H3:=hI _ b3 hb3;have H4:=hI _ b4 hb4;rw [←hb1,←hb2,←hb3,←hb4];clear hI HI hb1 hb2 hb3 hb4;generalize l.isEmpty=b0 at hie ⊢
  go_enter Tryz.func56,Tryz.ntmps56
  go_wp2_with fail
  refine wp_region_held_drew (S:=fun w'=>w'.cell? ⟨C.p,0,none⟩=some (.slice C.ta C.L.length C.tc)∧w'.cell? ⟨C.p,1,none⟩=some (.int .i64 (i:Int))) (by kernel_rfl) ?hS ?r0
  case hS=>exact HS.out _ bw
  case r0 =>
  intro hHeld;refine tH 0 ?_;refine tH 1 ?_;refine tH 2 ?_;refine tH 3 ?_;refine tH 4 ?_;refine tH 5 ?_;refine tH 6 ?_;refine tH 7 ?_;refine tH 8 ?_;refine tH 9 ?_;refine tH 10 ?_;cases b0
  · refine wpAnyH_take (i:=11) (v:=?v12) rfl (by kernel_rfl) (by kernel_rfl) (by kernel_rfl) (fun _ _ _ h=>h) (Or.inl ⟨by rfl,?y12⟩) (by assumption) ?r12
    case y12=>(intro w9 hS9;(try dsimp only at hS9);go_simp;try with_reducible rfl)
    change wpAnyH _ _ _ _ _ _ _ (Act.put _ (some 14) _) _
    try simp only [Act.put,sS1,sS2,sS3]
    refine wpAnyH_ready (rs:=[12]) (by kernel_rfl) (by simp) ?_;refine AllReadyH.cons rfl (fun K hK=>?_) AllReadyH.nil
    go_simp
    go_at_call 58;(with_reducible refine (H1.out _ bw).mono ?_);rintro e w2 ⟨rfl,hb2⟩
    go_wp2_with fail
    refine hK.out _ _ ?s13 ?r13
    case s13=>exact HS.out _ bw
    intro hHeld;clear hK K
    try simp only [Act.put,sS1,sS2,sS3]
    refine tH 13 ?_;refine tH 14 ?_;cases b1
    · refine wpAnyH_take (i:=15) (v:=?v16) rfl (by kernel_rfl) (by kernel_rfl) (by kernel_rfl) (fun _ _ _ h=>h) (Or.inl ⟨by rfl,?y16⟩) (by assumption) ?r16
      case y16=>(intro w9 hS9;(try dsimp only at hS9);go_simp;try with_reducible rfl)
      change wpAnyH _ _ _ _ _ _ _ (Act.put _ (some 18) _) _
      try simp only [Act.put,sS1,sS2,sS3]
      refine wpAnyH_ready (rs:=[16]) (by kernel_rfl) (by simp) ?_;refine AllReadyH.cons rfl (fun K hK=>?_) AllReadyH.nil
      go_simp
      go_at_call 58;(with_reducible refine (H2.out _ bw).mono ?_);rintro e w3 ⟨rfl,hb3⟩
      go_wp2_with fail
      refine hK.out _ _ ?s17 ?r17
      case s17=>exact HS.out _ bw
      intro hHeld;clear hK K
      try simp only [Act.put,sS1,sS2,sS3]
      refine tH 17 ?_;refine tH 18 ?_;cases b2
      · refine wpAnyH_take (i:=19) (v:=?v20) rfl (by kernel_rfl) (by kernel_rfl) (by kernel_rfl) (fun _ _ _ h=>h) (Or.inl ⟨by rfl,?y20⟩) (by assumption) ?r20
        case y20=>(intro w9 hS9;(try dsimp only at hS9);go_simp;try with_reducible rfl)
        change wpAnyH _ _ _ _ _ _ _ (Act.put _ (some 22) _) _
        try simp only [Act.put,sS1,sS2,sS3]
        refine wpAnyH_ready (rs:=[20]) (by kernel_rfl) (by simp) ?_;refine AllReadyH.cons rfl (fun K hK=>?_) AllReadyH.nil
        go_simp
        go_at_call 58;(with_reducible refine (H3.out _ bw).mono ?_);rintro e w4 ⟨rfl,hb4⟩
        go_wp2_with fail
        refine hK.out _ _ ?s21 ?r21
        case s21=>exact HS.out _ bw
        intro hHeld;clear hK K
        try simp only [Act.put,sS1,sS2,sS3]
        refine tH 21 ?_;refine tH 22 ?_;cases b3
        · refine wpAnyH_take (i:=23) (v:=?v24) rfl (by kernel_rfl) (by kernel_rfl) (by kernel_rfl) (fun _ _ _ h=>h) (Or.inl ⟨by rfl,?y24⟩) (by assumption) ?r24
          case y24=>(intro w9 hS9;(try dsimp only at hS9);go_simp;try with_reducible rfl)
          change wpAnyH _ _ _ _ _ _ _ (Act.put _ (some 26) _) _
          try simp only [Act.put,sS1,sS2,sS3]
          refine wpAnyH_ready (rs:=[24]) (by kernel_rfl) (by simp) ?_;refine AllReadyH.cons rfl (fun K hK=>?_) AllReadyH.nil
          go_simp
          go_at_call 58;(with_reducible refine (H4.out _ bw).mono ?_);rintro e w5 ⟨rfl,hb5⟩
          go_wp2_with fail
          refine hK.out _ _ ?s25 ?r25
          case s25=>exact HS.out _ bw
          intro hHeld;clear hK K
          try simp only [Act.put,sS1,sS2,sS3]
          exact yJ2a
        · refine wpAnyH_take (i:=23) (v:=undef) rfl (by kernel_rfl) (by kernel_rfl) (by kernel_rfl) (fun _ _ _ h=>h) (Or.inr ⟨by rfl,rfl⟩) (by assumption) ?_;change wpAnyH _ _ _ _ _ _ _ (Act.put _ (some 26) _) _
          try simp only [Act.put,sS1,sS2,sS3]
          refine uH 24 ?_;exact yJ2a
      · refine wpAnyH_take (i:=19) (v:=undef) rfl (by kernel_rfl) (by kernel_rfl) (by kernel_rfl) (fun _ _ _ h=>h) (Or.inr ⟨by rfl,rfl⟩) (by assumption) ?_;change wpAnyH _ _ _ _ _ _ _ (Act.put _ (some 22) _) _
        try simp only [Act.put,sS1,sS2,sS3]
        exact yJ2b
    · refine wpAnyH_take (i:=15) (v:=undef) rfl (by kernel_rfl) (by kernel_rfl) (by kernel_rfl) (fun _ _ _ h=>h) (Or.inr ⟨by rfl,rfl⟩) (by assumption) ?_;change wpAnyH _ _ _ _ _ _ _ (Act.put _ (some 18) _) _
      try simp only [Act.put,sS1,sS2,sS3]
      refine uH 16 ?_;refine tH 17 ?_;refine tH 18 ?_;refine uH 19 ?_;exact yJ2b
  · refine wpAnyH_take (i:=11) (v:=undef) rfl (by kernel_rfl) (by kernel_rfl) (by kernel_rfl) (fun _ _ _ h=>h) (Or.inr ⟨by rfl,rfl⟩) (by assumption) ?_;change wpAnyH _ _ _ _ _ _ _ (Act.put _ (some 14) _) _
    try simp only [Act.put,sS1,sS2,sS3]
    refine uH 12 ?_;refine tH 13 ?_;refine tH 14 ?_;refine uH 15 ?_;refine uH 16 ?_;refine tH 17 ?_;refine tH 18 ?_;refine uH 19 ?_;exact yJ2b
theorem ends_step {β:Type} {R A B:Res β} (C:PC) (l:List Tk) (w:World) (HR:Hid (R=if endsB l=true then A else B)) (h:C.At w l) :
    Calls Tryz.prog 56 #[.pointer (some ⟨C.p,0,none⟩)] w fun e w'=>(e=.returned (.bool true)∧Hid (endsB l=true)∧Hid (R=A)∧Hid (C.At w' l)∧Gs C.p w w')∨(e=.returned (.bool false)∧Hid (endsB l=false)∧Hid (R=B)∧Hid (C.At w' l)∧Gs C.p w w'):=by
  refine (ends_at C l w h).mono fun e w' h9=>?_;cases hb:endsB l with
  | true=>exact .inl ⟨by rw [h9.1,hb],rfl,by rw [hb] at HR;exact HR,h.mv h9.2,Gs.of_below h9.2⟩
  | false=>exact .inr ⟨by rw [h9.1,hb],rfl,by rw [hb] at HR;exact HR,h.mv h9.2,Gs.of_below h9.2⟩
def exW (x:Ex) (w w':World) (u:Value):Prop:=∃ d,u=.agg #[.int .i64 x.kind,.int .i64 x.op,.int .i64 x.line,.int .i64 x.p,.int .i64 x.q,.string x.str,.slice d.a x.args.length d.c,.slice d.fa x.funcs.length d.fc]∧x.At (From w.heap.size) w' d
def exsW (l:List Ex) (w w':World) (u:Value):Prop:=∃ a c,u=.slice a l.length c∧l.length≤c∧c≤MX∧Ex.Ats (From w.heap.size) w' l a
def stW (x:St) (w w':World) (u:Value):Prop:=∃ d,u=.agg #[.int .i64 x.kind,.int .i64 x.line,.slice d.na x.names.length d.nc,.slice d.la x.left.length d.lc,.slice d.ra x.right.length d.rc,.slice d.ba x.blocks.length d.bc,.string x.label]∧x.At (From w.heap.size) w' d
def stsW (l:List St) (w w':World) (u:Value):Prop:=∃ a c,u=.slice a l.length c∧l.length≤c∧c≤MX∧St.Ats (From w.heap.size) w' l a
abbrev thisP (C:PC):Value:=.pointer (some ⟨C.p,0,none⟩)
abbrev EC (C:PC) (E:EF) (n:Nat):Prop:=∀ (lim:Int) (l:List Tk) (w:World),0≤lim→lim≤12→l.length<n→C.At w l→Calls Tryz.prog 94 #[thisP C,.int .i64 lim] w (Tells C exW (E lim l) w)
abbrev BC (C:PC) (B:BF) (n:Nat):Prop:=∀ (l:List Tk) (w:World),l.length<n→C.At w l→Calls Tryz.prog 41 #[thisP C] w (Tells C stsW (B l) w)
theorem PC.At.len {C:PC} {w:World} {l:List Tk} (h:C.At w l):l.length≤65536:=by obtain ⟨i,_,rfl,_⟩:=h.box;have:=h.cap;simp;omega
theorem Gath.one {α δ:Type} {f:α→δ→List Value} {A:(Nat→Prop)→World→α→δ→Prop} {e:TypeId} {n base:Nat} {w:World} {cs:Array Value} {x:α} {d:δ} {b:Nat} (hA:Lies A) (hb:b=w.heap.size) (hbase:base≤w.heap.size) (hn:0<n) (hcs:cs.toList=f x d) (hl:(f x d).length=n) (hx:A (From base) w x d) :
    Gath f A e n base (w.alloc (.cells cs e)) (.slice (some ⟨b,0,none⟩) 1 1) [x] [d]:=by
  subst hb;refine ⟨rfl,⟨by simp [hl],.inr ⟨w.heap.size,1,cs,rfl,hbase,box_at rfl,Nat.le_refl _,by unfold maxLen;omega,by rw [←Array.length_toList,hcs,hl];omega,?_⟩⟩,fun i y d' hy hd=>?_⟩
  · rw [hcs];simp [←hl]
  · have hi:i=0:=by have:=(List.getElem?_eq_some_iff.1 hy).1;simpa using this
    subst hi;cases hy;cases hd;exact hA _ _ w _ x d ((Keep.refl _ _).alloc _) (fun k hk hlt=>⟨hk,fun he=>absurd (Option.some.inj (show some k=some w.heap.size from he)) (Nat.ne_of_lt hlt)⟩) hx
theorem Gath.gs {α δ:Type} {f:α→δ→List Value} {A:(Nat→Prop)→World→α→δ→Prop} {e:TypeId} {n base p:Nat} {w w':World} {v:Value} {l:List α} {ds:List δ}
    (hA:Lies A) (h:Gath f A e n base w v l ds) (hg:Gs p w w') (hp:p<base):Gath f A e n base w' v l ds :=
  h.lt hA (hg.keep (by rintro ⟨h1,-⟩;omega))
theorem push_any {α δ:Type} {f:α→δ→List Value} {A:(Nat→Prop)→World→α→δ→Prop} {t e:TypeId} {z:Value} {n bytes base p k:Nat} {w1 w0:World} {v:Value} {l:List α} {ds:List δ} {y:α} {dy:δ} {cs:Array Value}
    {ops:Array Oper} {rest:List Oper} {o:Oper} {a:Act} {Q:Exit→Act→World→Prop} (hA:Lies A) (ht:Tryz.prog.underlying t=some (.slice e)) (hinfo:(Tryz.prog.info? e).map (fun i=>(i.zero,i.size,i.bytes))=some (some z,n,bytes)) (hzs:z.cells.size=n) (hn:0<n) (hbt:bytes≤1000)
    (hf:∀ x d,(f x d).length=n) (h1:∀ u ∈ f y dy,u.oneCell'=true)
    (HG:Gath f A e n base w1 v l ds) (hp:p<base) (hg:Gs p w1 w0) (hb:base≤w1.heap.size) (hk:w1.heap.size≤k) (hy:A (From k) w0 y dy) (hcs:cs.toList=f y dy) (hlen:l.length≤70000)
    (hgd:o.guard=none) (s x:Operand) (hop:o.op=.call { callee:=.builtin .append,args:=#[s,x],argTypes:=#[t,t] }) (hs:a.eval s=v) (hx:a.eval x=.slice (some ⟨w0.heap.size,0,none⟩) 1 1)
    (h:∀ v' w',Gath f A e n base w' v' (l++[y]) (ds++[dy])→(w0.alloc (.cells cs e)).grownBy w' v.ownBlock→(∀ j,v.ownBlock=some j→base≤j)→wpList Tryz.prog ops Q rest (a.put o.dst v') w'):wpList Tryz.prog ops Q (o::rest) a (w0.alloc (.cells cs e)):=by
  obtain ⟨i0,hi,hz0,hz1,hz2⟩:=info_parts hinfo;have HG0:=HG.gs hA hg hp;refine wpList_append_keep _ hgd s x t hop base e i0 z n bytes ht hi hz0 hz1 hz2 hzs hn v l.length _ hs (HG0.own.alloc _) ⟨w0.heap.size,0,none⟩ 1 1 (f y dy) hx (by rw [hf];omega) (fun j u hu=>new_adds rfl j u (by rw [hcs];exact hu)) h1 (by decide) (by unfold maxLen;omega) ?_ (by have:=hg.size;simp;omega) ?_
  · have:(l.length+1)*bytes≤70001*1000:=Nat.mul_le_mul (by omega) hbt;omega
  intro v' w' r1 r2 r3;refine h v' w' (Gath.push hA (HG0.alloc hA _) ?_ r1 r2 r3) r2 (fun j hj=>(HG.own.lt j hj).1);refine hA (From k) _ w0 _ y dy ((Keep.refl _ _).alloc _) (fun j hj _=>⟨by omega,fun he=>?_⟩) hy;have h9:=(HG.own.lt j he.symm).2;have h8:k≤j:=hj;omega
theorem PC.At.grown {C:PC} {w w':World} {l:List Tk} {row:Option Nat} {base:Nat} (h:C.At w l) (hg:w.grownBy w' row) (hr:∀ k,row=some k→base≤k) (hp:C.p<base):C.At w' l :=
  h.ca (Keep.grown hg fun k hk he=>by have:=hr k he.symm;omega)
theorem push_ex {base p k:Nat} {w1 w0:World} {v:Value} {l:List Ex} {ds:List EA} {y:Ex} {dy:EA} {ops:Array Oper} {rest:List Oper} {o:Oper} {a:Act} {Q:Exit→Act→World→Prop}
    (HG:Gath Ex.cells exA 37 8 base w1 v l ds) (hp:p<base) (hg:Gs p w1 w0) (hb:base≤w1.heap.size) (hk:w1.heap.size≤k) (hy:y.At (From k) w0 dy) (hlen:l.length≤70000)
    (hgd:o.guard=none) (s x:Operand) (hop:o.op=.call { callee:=.builtin .append,args:=#[s,x],argTypes:=#[34,34] }) (hs:a.eval s=v) (hx:a.eval x=.slice (some ⟨w0.heap.size,0,none⟩) 1 1)
    (h:∀ v' w',Gath Ex.cells exA 37 8 base w' v' (l++[y]) (ds++[dy])→(w0.alloc (.cells #[.int .i64 y.kind,.int .i64 y.op,.int .i64 y.line,.int .i64 y.p,.int .i64 y.q,.string y.str,.slice dy.a y.args.length dy.c,.slice dy.fa y.funcs.length dy.fc] 37)).grownBy w' v.ownBlock→(∀ j,v.ownBlock=some j→base≤j)→wpList Tryz.prog ops Q rest (a.put o.dst v') w'):wpList Tryz.prog ops Q (o::rest) a (w0.alloc (.cells #[.int .i64 y.kind,.int .i64 y.op,.int .i64 y.line,.int .i64 y.p,.int .i64 y.q,.string y.str,.slice dy.a y.args.length dy.c,.slice dy.fa y.funcs.length dy.fc] 37)) :=
  push_any exA_lies Tryz.underlying34 info_expr rfl (by decide) (by decide) (fun _ _=>rfl) (Ex.cells_one _ _) HG hp hg hb hk hy rfl hlen hgd s x hop hs hx h
theorem Gath.exs {w:World} {base:Nat} {v:Value} {l:List Ex} {ds:List EA} (h:Gath Ex.cells exA 37 8 base w v l ds):∃ a c,v=.slice a l.length c∧l.length≤c∧c≤MX∧Ex.Ats (From base) w l a:=by
  obtain ⟨a,c,h1,h2,h3,h4⟩:=h.rows exA_lies (fun _ _=>rfl);exact ⟨a,c,h1,h2,by unfold maxLen at h3;unfold MX;exact h3,Ex.ats_iff.2 h4⟩
set_option maxRecDepth 100000 in
set_option maxHeartbeats 4000000 in
theorem list_at {C:PC} {E:EF} {n:Nat} (hE:EC C E n) (hL:SE E) (l:List Tk) (w:World) (hl:l.length<n) (h:C.At w l) :
    Calls Tryz.prog 89 #[thisP C] w (Tells C exsW (listR E l) w):=by
  have HA:=hI h;have hp:=h.lt;have hl6:=h.len;have HE:=hI hE;have HL:=hI hL;have HN:=hI hl;generalize hR:listR E l=R;have HR:=hI hR.symm;clear hR h hE hL hl;unfold listR at HR
  go_enter Tryz.func89,Tryz.ntmps89
  go_wp2_with (go_at_call 94;(with_reducible refine (Tells.step HR (HE.out 0 l _ (by omega) (by omega) HN.out (HA.out.ca kw))).mono ?_);rintro e w2 (⟨l2,rfl,HR,hg2⟩|⟨x,l2,u,rfl,⟨d,rfl,hx⟩,HM,HR,HA,hg2⟩);rotate_left;(have HX:=hI hx);clear hx)
  case inl=>exact ⟨rfl,Tells.no HR gw⟩
  have HS2:=hI (HL.out 0 l _ _ HM.out)
  go_loopg [3] (l2.length+1) (fun gk v wr=>∃ acc ds l',l'.length<gk∧Hid (R=listG E gk acc l')∧Hid (C.At wr l')∧Gath Ex.cells exA 37 8 w.heap.size wr v acc ds∧Gs C.p w wr∧l'.length<n∧acc.length+l'.length≤65536)
  case atStart=>exact ⟨[x],[d],l2,by omega,HR,hI (HA.out.ca kw),Gath.one exA_lies rfl hg2.size (by decide) rfl rfl HX.out,gw,by have:=HS2.out;have:=HN.out;simp at *;omega,by have:=HS2.out;simp at *;omega⟩
  case round =>
  clear HA HR HX;obtain ⟨acc,ds,l',hgk,HR,HA,hgath,hgw,hln,hal⟩:=hrel;obtain ⟨k,rfl⟩:∃ k,gk=k+1:=⟨gk - 1,by omega⟩
  obtain ⟨a,c,hv,hc1,hc2,hrow⟩:=hgath.exs;subst hv;have HG:=hI hgath;have HROW:=hI hrow;have HR:=hI (show R=if isB [44] l'=true then (E 0 l'.tail).bind fun x l1=>listG E k (acc++[x]) l1 else .ok acc l' from HR.out);clear hgath hrow;unfold MX at hc2
  go_wp2_with (first
    | (go_at_call 57;(with_reducible refine (skip_step C [44] l' _ HR (HA.out.ca kw)).mono ?_);rintro e w3 (⟨rfl,HB,HR,HA,hg3⟩|⟨rfl,-,HR,HA,hg3⟩))
    | (go_at_call 94;(with_reducible refine (Tells.step HR (HE.out 0 l'.tail _ (by omega) (by omega) (Nat.lt_of_le_of_lt (tail_le _) hln) (HA.out.ca kw))).mono ?_);rintro e w4 (⟨l4,rfl,HR,hg4⟩|⟨y,l4,u,rfl,⟨dy,rfl,hy⟩,HM,HR,HA,hg4⟩);rotate_left;(have HY:=hI hy;clear hy))
    | (at_builtin;go_loud (refine push_ex HG.out hp gw hgw.size hg3.size HY.out (by omega) rfl _ _ rfl rfl rfl ?_;intro v' w5 hg5 hgr hlo;have HG5:=hI hg5;have HGR:=hI hgr;have HLO:=hI hlo;clear hg5 hgr hlo)))
  case inl=>exact ⟨rfl,Tells.no HR gw⟩
  · have h4:=HL.out 0 _ _ _ HM.out;have h5:=tail_lt HB.out
    go_roundg k
    case rel=>exact ⟨acc++[y],ds++[dy],l4,by omega,HR,hI ((HA.out.ca kw).grown HGR.out HLO.out hp),HG5.out,Gs.grown HGR.out HLO.out gw,by omega,by simp;omega⟩
    case measure=>omega
  · go_ret;exact Tells.yes HR gw HA.out ⟨a,c,rfl,hc1,hc2,((Gath.gs exA_lies HG.out hg3 hp).exs).elim fun _ h=>h.elim fun _ h=>by obtain ⟨h,_,_,h2⟩:=h;cases h;exact h2⟩
theorem Keep.gsT {p:Nat} {F:Nat→Prop} {w b c:World} (hg:Gs p b c) (hF:¬ F p) (k:Keep F w b):Keep F w c :=
  k.trans (hg.keep (F:=fun j=>j≠p) (by simp)) (fun i hi _=>by rintro rfl;exact hF hi)
theorem kx {n:Nat} {w w':World} (h:Keep (From n) w w':=by repeat with_reducible first|exact Keep.refl _ _|refine Keep.alloc ?_ _|refine Keep.set ?_ (by simp [From];omega) _|refine Keep.drewN ?_ _|refine Keep.drew ?_|refine Keep.gsT (by assumption) (by simp [From];omega) ?_|refine Keep.thru (by assumption) ?_):Keep (From n) w w':=h
theorem fr {m n:Nat} (h:n≤m):∀ k,From m k→From n k:=fun k hk=>Nat.le_trans h hk
theorem body_at {C:PC} {B:BF} {n:Nat} (hB:BC C B n) (hL:SB B) (s:Sb) (l:List Tk) (w:World) (hl:l.length<n) (h:C.At w l) :
    Calls Tryz.prog 96 #[thisP C,.string ⟨s.toArray⟩] w (Tells C stsW (bodyR B s l) w):=by
  have HA:=hI h;have hp:=h.lt;have HB:=hI hB;have HN:=hI hl;generalize hR:bodyR B s l=R;have HR:=hI hR.symm;clear hR h hB hL hl;unfold bodyR at HR
  go_enter Tryz.func96,Tryz.ntmps96
  go_wp2_with (first
    | (go_at_call 41;(with_reducible refine (Tells.step HR (HB.out l _ HN.out (HA.out.ca kw))).mono ?_);rintro e w2 (⟨l2,rfl,HR,hg2⟩|⟨b,l2,u,rfl,⟨a,c,rfl,h1,h2,hb⟩,-,HR,HA,hg2⟩);rotate_left;(have HX:=hI hb;have HC:=hI (And.intro h1 h2));clear hb h1 h2)
    | (go_at_call 95;(with_reducible refine (Tells.step HR (need_at C s l2 _ (HA.out.ca kw))).mono ?_);rintro e w3 (⟨l3,rfl,HR,hg3⟩|⟨t,l3,u,rfl,⟨rfl,-⟩,-,HR,HA,hg3⟩);rotate_left))
  case inl=>exact ⟨rfl,Tells.no HR gw⟩
  case inl=>exact ⟨rfl,Tells.no HR gw⟩
  go_ret;exact Tells.yes HR gw HA.out ⟨a,c,rfl,HC.out.1,HC.out.2,HX.out.keep kx (fr (Nat.le_refl _))⟩
theorem calls_at (C:PC) (l:List Tk) (w:World) (h:C.At w l) :
    Calls Tryz.prog 160 #[thisP C] w fun e w'=>e=.returned (.bool (callsB l))∧Below w.heap.size w w':=by
  have HI:=hI (fun (s:Sb) w' (hb:Below w.heap.size w w')=>is_at C s l w' (h.mv hb));have HX:=hI (fun w' (hb:Below w.heap.size w w')=>next_any C l w' (h.mv hb));have tf0:=tok_field0 (nextK l);unfold callsB;generalize nextK l=t at HX tf0 ⊢;cases h1:isB [40] l <;> cases h2:isB [123] l <;> cases h3:(t.kind==4)
  all_goals
    have H1:=hI h1;have H2:=hI h2;clear h1 h2 h
    go_enter Tryz.func160,Tryz.ntmps160
    go_wp2_with (first
      | (go_at_call 58;(with_reducible refine (HI.out [40] _ bw).mono ?_);rw [H1.out];rintro e w2 ⟨rfl,-,hb2⟩)
      | (go_at_call 58;(with_reducible refine (HI.out [123] _ bw).mono ?_);rw [H2.out];rintro e w3 ⟨rfl,-,hb3⟩)
      | (go_at_call 87;(with_reducible refine (HX.out _ bw).mono ?_);rintro e w4 ⟨rfl,hb4⟩))
    go_ret;exact ⟨rfl,bw⟩
theorem calls_step {β:Type} {R A B:Res β} (C:PC) (l:List Tk) (w:World) (HR:Hid (R=if callsB l=true then A else B)) (h:C.At w l) :
    Calls Tryz.prog 160 #[thisP C] w fun e w'=>(e=.returned (.bool true)∧Hid (callsB l=true)∧Hid (R=A)∧Hid (C.At w' l)∧Gs C.p w w')∨(e=.returned (.bool false)∧Hid (callsB l=false)∧Hid (R=B)∧Hid (C.At w' l)∧Gs C.p w w'):=by
  refine (calls_at C l w h).mono fun e w' h9=>?_;cases hb:callsB l with
  | true=>exact .inl ⟨by rw [h9.1,hb],rfl,by rw [hb] at HR;exact HR,h.mv h9.2,Gs.of_below h9.2⟩
  | false=>exact .inr ⟨by rw [h9.1,hb],rfl,by rw [hb] at HR;exact HR,h.mv h9.2,Gs.of_below h9.2⟩
def exsF (m:Nat) (l:List Ex) (w w':World) (u:Value):Prop:=∃ a c,u=.slice a l.length c∧l.length≤c∧c≤MX∧Ex.Ats (From m) w' l a
abbrev PC0 (C:PC) (E:EF) (n:Nat):Prop:=∀ (l:List Tk) (w:World),callsB l=true→isB [40] l=false→l.length<n→C.At w l→Calls Tryz.prog 126 #[thisP C] w (Tells C exW (bareR E l) w)
theorem exs_two {w:World} {F:Nat→Prop} {b:Nat} {x y:Ex} {dx dy:EA} (hb:b=w.heap.size) (hF:F w.heap.size) (hx:x.At F w dx) (hy:y.At F w dy) :
    Ex.Ats F (w.alloc (.cells #[.int .i64 x.kind,.int .i64 x.op,.int .i64 x.line,.int .i64 x.p,.int .i64 x.q,.string x.str,.slice dx.a x.args.length dx.c,.slice dx.fa x.funcs.length dx.fc,.int .i64 y.kind,.int .i64 y.op,.int .i64 y.line,.int .i64 y.p,.int .i64 y.q,.string y.str,.slice dy.a y.args.length dy.c,.slice dy.fa y.funcs.length dy.fc] 37)) [x,y] (some ⟨b,0,none⟩):=by
  subst hb;have K:Keep F w (w.alloc (.cells #[.int .i64 x.kind,.int .i64 x.op,.int .i64 x.line,.int .i64 x.p,.int .i64 x.q,.string x.str,.slice dx.a x.args.length dx.c,.slice dx.fa x.funcs.length dx.fc,.int .i64 y.kind,.int .i64 y.op,.int .i64 y.line,.int .i64 y.p,.int .i64 y.q,.string y.str,.slice dy.a y.args.length dy.c,.slice dy.fa y.funcs.length dy.fc] 37)):=(Keep.refl _ _).alloc _;have hr:(w.alloc (.cells #[.int .i64 x.kind,.int .i64 x.op,.int .i64 x.line,.int .i64 x.p,.int .i64 x.q,.string x.str,.slice dx.a x.args.length dx.c,.slice dx.fa x.funcs.length dx.fc,.int .i64 y.kind,.int .i64 y.op,.int .i64 y.line,.int .i64 y.p,.int .i64 y.q,.string y.str,.slice dy.a y.args.length dy.c,.slice dy.fa y.funcs.length dy.fc] 37)).rangeAt w.heap.size 0 (x.cells dx++y.cells dy):=fun i v hv=>by rw [Nat.zero_add,box_cell (box_at rfl),←Array.getElem?_toList];exact hv
  exact ⟨_,0,dx,rfl,hF,by simp,range_left hr,hx.keep K (fun _ h=>h),_,_,dy,rfl,hF,by simp,range_right hr,hy.keep K (fun _ h=>h),trivial⟩
theorem exs_one {w:World} {F:Nat→Prop} {b:Nat} {x:Ex} {dx:EA} (hb:b=w.heap.size) (hF:F w.heap.size) (hx:x.At F w dx):Ex.Ats F (w.alloc (.cells #[.int .i64 x.kind,.int .i64 x.op,.int .i64 x.line,.int .i64 x.p,.int .i64 x.q,.string x.str,.slice dx.a x.args.length dx.c,.slice dx.fa x.funcs.length dx.fc] 37)) [x] (some ⟨b,0,none⟩):=by
  subst hb;exact ⟨_,0,dx,rfl,hF,by simp,fun j v hv=>by rw [Nat.zero_add,box_cell (box_at rfl),←Array.getElem?_toList];exact hv,hx.keep ((Keep.refl _ _).alloc _) (fun _ h=>h),trivial⟩
theorem Gath.app2 {α δ:Type} {f:α→δ→List Value} {A:(Nat→Prop)→World→α→δ→Prop} {e:TypeId} {n base:Nat} {w:World} {v:Value} {l:List α} {ds:List δ} (hA:Lies A) (h:Gath f A e n base w v l ds) {w':World} {v':Value} {xs:List α} {ds':List δ} (hlen:ds'.length=xs.length) (hx:∀ (i:Nat) x d,xs[i]?=some x→ds'[i]?=some d→A (Out base v) w x d)
    (h1:w'.ownsRow base e n v' (l.length+xs.length) (((l.zip ds).flatMap fun p=>f p.1 p.2)++(xs.zip ds').flatMap fun p=>f p.1 p.2)) (h2:w.grownBy w' v.ownBlock) (h3:∀ b,v'.ownBlock=some b→some b=v.ownBlock∨w.heap.size≤b) :
    Gath f A e n base w' v' (l++xs) (ds++ds'):=by
  have hG:∀ k,Out base v k→k<w.heap.size→Out base v' k:=fun k hk hl=>⟨hk.1,fun he=>by
    rcases h3 k he.symm with h|h
    · exact hk.2 h
    · omega⟩
  have K:Keep (Out base v) w w':=Keep.grown h2 fun k hk=>hk.2;refine ⟨by simp [h.len,hlen],?_,fun i y d' hy hd=>?_⟩
  · rw [List.zip_append h.len.symm,List.flatMap_append,List.length_append];exact h1
  · rcases Nat.lt_or_ge i l.length with hi|hi
    · rw [List.getElem?_append_left hi] at hy;rw [List.getElem?_append_left (by rw [h.len];exact hi)] at hd;exact hA _ _ w w' y d' K hG (h.at_ i y d' hy hd)
    · rw [List.getElem?_append_right hi] at hy;rw [List.getElem?_append_right (by rw [h.len];exact hi),h.len] at hd;exact hA _ _ w w' y d' K hG (hx _ y d' hy hd)
theorem list_ne {E:EF} {l:List Tk} {xs:List Ex} {l':List Tk} (h:listR E l=.ok xs l'):xs≠[]:=by
  have h1:∀ n acc l,acc≠[]→∀ v l',listG E n acc l=.ok v l'→v≠[]:=fun n=>by
    induction n with
    | zero=>intro acc l _ v l' h;cases h
    | succ n ih =>
      intro acc l ha v l' h;unfold listG at h;split at h
      · cases hE:E 0 l.tail with
        | ok x l1=>rw [hE] at h;exact ih _ _ (by simp) v l' h
        | bad l1=>rw [hE] at h;cases h
      · cases h;exact ha
  unfold listR at h;cases hE:E 0 l with
  | ok x l1=>rw [hE] at h;exact h1 _ _ _ (by simp) _ _ h
  | bad l1=>rw [hE] at h;cases h
theorem ats_some {F:Nat→Prop} {w:World} {xs:List Ex} {a:Option Addr} (h:Ex.Ats F w xs a) (hne:xs≠[]):∃ ad,a=some ad:=by
  cases xs with
  | nil=>exact absurd rfl hne
  | cons x r=>obtain ⟨b,off,d,h1,_⟩:=h;exact ⟨_,h1⟩
theorem range_app {w:World} {b o:Nat} {xs ys:List Value} (h1:w.rangeAt b o xs) (h2:w.rangeAt b (o+xs.length) ys):w.rangeAt b o (xs++ys):=fun j v hv=>by
  rcases Nat.lt_or_ge j xs.length with hj|hj
  · rw [List.getElem?_append_left hj] at hv;exact h1 j v hv
  · rw [List.getElem?_append_right hj] at hv;have:=h2 _ v hv
    rwa [show o+xs.length+(j - xs.length)=o+j by omega] at this
theorem ats_ds {F:Nat→Prop} {w:World}:∀ {xs:List Ex} {b off:Nat},(xs≠[]→Ex.Ats F w xs (some ⟨b,off,none⟩))→∃ ds:List EA,ds.length=xs.length∧w.rangeAt b off ((xs.zip ds).flatMap fun p=>p.1.cells p.2)∧∀ (i:Nat) x d,xs[i]?=some x→ds[i]?=some d→x.At F w d
  | [],b,off,_=>⟨[],rfl,fun j v hv=>by simp at hv,fun i x d h=>by simp at h⟩
  | x::r,b,off,h=>by
    obtain ⟨b',off',d,h1,h2,h3,h4,h5,h6⟩:=h (by simp);injection h1 with h1;injection h1 with e1 e2;subst e1 e2
    obtain ⟨ds,hl,hr,ha⟩:=ats_ds (xs:=r) (b:=b) (off:=off+8) (fun _=>h6);refine ⟨d::ds,by simp [hl],?_,fun i y dy hy hd=>?_⟩
    · show w.rangeAt b off (x.cells d++_);exact range_app h4 hr
    · cases i with
      | zero=>cases hy;cases hd;exact h5
      | succ i=>exact ha i y dy (by simpa using hy) (by simpa using hd)
theorem push_exs {base p k c:Nat} {w1 w0:World} {v:Value} {l xs:List Ex} {ds:List EA} {ad:Addr} {ops:Array Oper} {rest:List Oper} {o:Oper} {a:Act} {Q:Exit→Act→World→Prop}
    (HG:Gath Ex.cells exA 37 8 base w1 v l ds) (hp:p<base) (hg:Gs p w1 w0) (hb:base≤w1.heap.size) (hk:w1.heap.size≤k) (hxs:xs≠[]) (hy:Ex.Ats (From k) w0 xs (some ad)) (hlen:l.length+xs.length≤200000)
    (hgd:o.guard=none) (s x:Operand) (hop:o.op=.call { callee:=.builtin .append,args:=#[s,x],argTypes:=#[34,34] }) (hs:a.eval s=v) (hx:a.eval x=.slice (some ad) xs.length c)
    (h:∀ v' w' ds',Gath Ex.cells exA 37 8 base w' v' (l++xs) (ds++ds')→w0.grownBy w' v.ownBlock→(∀ j,v.ownBlock=some j→base≤j)→wpList Tryz.prog ops Q rest (a.put o.dst v') w'):wpList Tryz.prog ops Q (o::rest) a w0:=by
  obtain ⟨i0,hi,hz0,hz1,hz2⟩:=info_parts info_expr;have HG0:=HG.gs exA_lies hg hp
  have h0:∃ b off,ad=⟨b,off,none⟩:=by
    cases xs with
    | nil=>exact absurd rfl hxs
    | cons x r=>obtain ⟨b,off,d,h1,_⟩:=hy;cases h1;exact ⟨b,off,rfl⟩
  obtain ⟨b,off,rfl⟩:=h0;obtain ⟨ds',hl,hr,ha⟩:=ats_ds (fun _=>hy);have hz:(xs.zip ds').length=xs.length:=by rw [List.length_zip,hl];omega
  refine wpList_append_keep _ hgd s x 34 hop base 37 i0 _ 8 104 Tryz.underlying34 hi hz0 hz1 hz2 rfl (by decide) v l.length _ hs HG0.own ⟨b,off,none⟩ xs.length c _ hx (by rw [flat_length (f:=fun p:Ex × EA=>p.1.cells p.2) (n:=8) (fun _=>rfl),hz]) (fun j u hu=>?_) (fun u hu=>?_) (by cases xs with|nil=>exact absurd rfl hxs|cons x r=>simp) (by unfold maxLen;omega) (by omega) (Nat.le_trans hb hg.size) ?_
  · have:=hr j u hu;rw [←this,Addr.add_lit]
  · obtain ⟨q,-,hq⟩:=List.mem_flatMap.1 hu;exact Ex.cells_one _ _ u hq
  intro v' w' r1 r2 r3;refine h v' w' ds' (Gath.app2 exA_lies HG0 hl (fun i x d hx hd=>?_) r1 r2 r3) r2 (fun j hj=>(HG.own.lt j hj).1);refine exA_lies (From k) _ w0 _ x d (Keep.refl _ _) (fun j hj _=>⟨by omega,fun he=>?_⟩) (ha i x d hx hd);have h9:=(HG.own.lt j he.symm).2;have h8:k≤j:=hj;omega
set_option maxRecDepth 100000 in
set_option maxHeartbeats 4000000 in
theorem args_at {C:PC} {E:EF} {n:Nat} (hE:EC C E n) (hL:SE E) (hP:PC0 C E n) (e:Ex) (d:EA) (m:Nat) (l:List Tk) (w:World) (hc:callsB l=true) (hl:l.length<n) (h:C.At w l) (hm:C.p<m) (hmw:m≤w.heap.size) (he:e.At (From m) w d) :
    Calls Tryz.prog 161 #[thisP C,(eV e d)] w (Tells C (exsF m) (argsR E e l) w):=by
  delta eV
  have HA:=hI h;have hp:=h.lt;have hl6:=h.len;have hpn:w.heap.size≠C.p:=by omega
  have HE:=hI hE;have HL:=hI hL;have HN:=hI hl;have HP:=hI hP;have HC:=hI hc;have HX:=hI he;generalize hR:argsR E e l=R;have HR:=hI hR.symm;clear hR h hE hL hl hP hc he;unfold argsR at HR
  go_enter Tryz.func161,Tryz.ntmps161
  go_wp2_with (first
    | (go_at_call 57;(with_reducible refine (skip_step C [40] l _ HR (HA.out.ca kw)).mono ?_);rintro e w2 (⟨rfl,HB,HR,HA,hg2⟩|⟨rfl,HB,HR,HA,hg2⟩) <;> (have HBX:=hI (hg2.box (box_at rfl) hpn);have kb:=fun i=>box_cell HBX.out i;have kbf:=fun i=>box_free HBX.out i;have kbz:=box_lt HBX.out)))
  · have hb0:=hg2.size;have HG:=hI (show Gath Ex.cells exA 37 8 m (w2.alloc (.cells #[.int .i64 e.kind,.int .i64 e.op,.int .i64 e.line,.int .i64 e.p,.int .i64 e.q,.string e.str,.slice d.a e.args.length d.c,.slice d.fa e.funcs.length d.fc] 37)) (.slice (some ⟨w2.heap.size,0,none⟩) 1 1) [e] [d] from Gath.one (x:=e) exA_lies rfl (by simp at hb0;omega) (by decide) rfl rfl (HX.out.keep kx (fr (Nat.le_refl _))));have ht2:=tail_lt HB.out
    go_wp2_with (first
      | (go_at_call 58;(with_reducible refine (is_step C [41] l.tail _ HR (HA.out.ca kw)).mono ?_);rintro e w3 (⟨rfl,HB3,HR,HA,hg3⟩|⟨rfl,HB3,HR,HA,hg3⟩))
      | (go_at_call 89;(with_reducible refine (Tells.step HR (list_at HE.out HL.out l.tail _ (by have:=HN.out;omega) (HA.out.ca kw))).mono ?_);rintro e w4 (⟨l4,rfl,HR,hg4⟩|⟨xs,l4,u,rfl,⟨a,c,rfl,h1,h2,hx⟩,HM,HR,HA,hg4⟩);rotate_left;(have hlx:=listR_le HL.out _ _ _ HM.out;have HNE:=hI (list_ne HM.out);obtain ⟨ad,rfl⟩:∃ ad,a=some ad:=ats_some hx HNE.out;have HXS:=hI hx;clear hx))
      | (at_builtin;go_loud (refine push_exs HG.out hm gw (by simp at hb0 ⊢;omega) (Nat.le_trans hg3.size (Nat.le_refl _)) HNE.out HXS.out (by simp;omega) rfl _ _ rfl rfl rfl ?_;intro v' w6 ds' hg6 hgr hlo;have HG6:=hI hg6;have HGR:=hI hgr;have HLO:=hI hlo;clear hg6 hgr hlo;have HA:=hI ((HA.out.ca kw).grown HGR.out HLO.out hm);have hg6:Gs C.p w w6:=Gs.grown HGR.out (fun k hk=>by have h9:=Option.some.inj (show some w2.heap.size=some k from hk);simp at hb0;omega) gw))
      | (go_at_call 95;(with_reducible refine (Tells.step HR (need_at C [41] _ _ (HA.out.ca kw))).mono ?_);rintro e w5 (⟨l5,rfl,HR,hg5⟩|⟨t,l5,u,rfl,⟨rfl,-⟩,-,HR,HA,hg5⟩);rotate_left))
    all_goals try exact ⟨rfl,Tells.no HR gw⟩
    · go_ret;exact Tells.yes HR gw (HA.out.ca kw) (HG.out.gs exA_lies gw hm).exs
    · go_ret;exact Tells.yes HR gw (HA.out.ca kw) (HG6.out.gs exA_lies gw hm).exs
  · have HS:=hI (show ∀ w',Gs C.p w2 w'→∀ i,w'.cell? ⟨w.heap.size,i,none⟩=#[.int .i64 e.kind,.int .i64 e.op,.int .i64 e.line,.int .i64 e.p,.int .i64 e.q,.string e.str,.slice d.a e.args.length d.c,.slice d.fa e.funcs.length d.fc][i]? from fun w' hg i=>box_cell (hg.box HBX.out hpn) i);refine wp_region_held_drew (S:=(fun w'=>∀ i,w'.cell? ⟨w.heap.size,i,none⟩=#[.int .i64 e.kind,.int .i64 e.op,.int .i64 e.line,.int .i64 e.p,.int .i64 e.q,.string e.str,.slice d.a e.args.length d.c,.slice d.fa e.funcs.length d.fc][i]?)) (by kernel_rfl) ?s101 ?r101
    case s101=>exact HS.out _ gw
    intro hHeld;refine tH 0 ?_;refine tH 1 ?_;refine wpAnyH_ready (rs:=[2]) (by kernel_rfl) (by simp) ?_;refine AllReadyH.cons rfl (fun K hK=>?_) AllReadyH.nil
    go_simp
    go_at_call 126;(with_reducible refine (Tells.step HR (HP.out l _ HC.out HB.out HN.out (HA.out.ca kw))).mono ?_);rintro e w3 (⟨l3,rfl,HR,hg3⟩|⟨x,l3,u,rfl,⟨dx,rfl,hx⟩,-,HR,HA,hg3⟩)
    · go_wp2_with fail
      exact ⟨rfl,Tells.no HR gw⟩
    have HY:=hI hx;clear hx
    go_wp2_with fail
    refine hK.out _ _ ?s104 ?r104
    case s104=>exact HS.out _ gw
    intro hHeld;clear hK K
    try simp only [Act.put,sS1,sS2,sS3]
    refine wpAnyH_ready (rs:=[3]) (by kernel_rfl) (by simp) ?_;refine AllReadyH.cons rfl (fun K hK=>?_) AllReadyH.nil
    go_simp
    refine hK.out _ _ ?s105 ?r105
    case s105=>exact HS.out _ gw
    intro hHeld;clear hK K
    try simp only [Act.put,sS1,sS2,sS3]
    refine wpAnyH_ready (rs:=[4]) (by kernel_rfl) (by simp) ?_;refine AllReadyH.cons rfl (fun K hK=>?_) AllReadyH.nil
    go_simp
    refine hK.out _ _ ?s106 ?r106
    case s106=>exact HS.out _ gw
    intro hHeld;clear hK K
    try simp only [Act.put,sS1,sS2,sS3]
    refine wpAnyH_done (by kernel_rfl) ?_ _
    go_wp2_with fail
    go_ret;exact Tells.yes HR gw (HA.out.ca kw) ⟨_,2,rfl,Nat.le_refl _,by unfold MX;decide,exs_two rfl (show m≤_ by have:=hg2.size;have:=hg3.size;simp at *;omega) (HX.out.keep kx (fr (Nat.le_refl _))) (HY.out.keep kx (fr (by have:=hg2.size;simp at *;omega)))⟩
end Go.Proofs.YtaddbmkkkollpaaGreatDoor
