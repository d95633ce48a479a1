/- Contract of the parser's method choice. -/
import Derived.Test.YtdekaghipjpgpaaGreatDoorJK
namespace Go.Proofs.YtdekaghipjpgpaaGreatDoor
open Go.RowKit
set_option linter.unusedVariables false
set_option linter.unusedSimpArgs false
abbrev ifQ (line:Int) (cs:List Ex) (bs:List (List St)) (l4:List Tk):Res St:=(needR sEnd l4).bind fun _ l5=>.ok (.mk 8 line [] [] cs bs ⟨#[]⟩) l5
abbrev ifF (B:BF) (line:Int) (x:List Ex × List (List St)) (l2:List Tk):Res St:=if isB [101,108,115,101] l2=true then (B l2.tail).bind fun b l3=>ifQ line x.1 (x.2++[b]) l3 else ifQ line x.1 x.2 l2
theorem if_eq (E:EF) (B:BF) (l:List Tk):ifR E B l=(takeR l).bind fun t l1=>(ifG E B (l1.length+1) [] [] l1).bind (ifF B t.line):=by
  unfold ifR;refine bind_congr fun t l1=>bind_congr fun x l2=>?_;rw [bind_ite,bind_bind];rfl
theorem if_step (E:EF) (B:BF) (k:Nat) (cs:List Ex) (bs:List (List St)) (l:List Tk) (f:List Ex × List (List St)→List Tk→Res St):(ifG E B (k+1) cs bs l).bind f=(E 0 l).bind fun c l1=>(needR [116,104,101,110] l1).bind fun _ l2=>(B l2).bind fun b l3=>if isB sElseif l3=true then (ifG E B k (cs++[c]) (bs++[b]) l3.tail).bind f else f (cs++[c],bs++[b]) l3:=by
  rw [ifG,bind_bind];refine bind_congr fun c l1=>?_;rw [bind_bind];refine bind_congr fun _ l2=>?_;rw [bind_bind];refine bind_congr fun b l3=>?_;rw [bind_ite];rfl
structure TwoH (C:PC) (w:World) (b1:Nat) (wr:World) (line:Int) (rs:List Ex) (ra:Option Addr) (rc:Nat) (ds:List EA) (bs:List (List St)) (ba:Option Addr) (bc:Nat) (es:List (Option Addr × Nat)) (D1 D2:Nat→Prop):Prop where
  gs:Gs C.p w wr
  p1:C.p<w.heap.size
  b01:w.heap.size<b1
  bw:b1<wr.heap.size
  res:wr.heap[w.heap.size]?=some (.cells zeroS 49)
  box:wr.heap[b1]?=some (.cells #[.int .i64 8,.int .i64 line,.slice none 0 0,.slice none 0 0,.slice ra rs.length rc,.slice ba bs.length bc,.string ⟨#[]⟩] 49)
  d1:∀ k,D1 k→b1<k∧k<wr.heap.size
  d2:∀ k,D2 k→b1<k∧k<wr.heap.size
  dis:∀ k,D1 k→¬ D2 k
  cr:Col Ex.cells exA 28 8 D1 wr (.slice ra rs.length rc) rs ds
  cb:Col blC blA 40 1 D2 wr (.slice ba bs.length bc) bs es
section
variable {C:PC} {w wa wb w10:World} {b1:Nat} {line:Int} {rs:List Ex} {ra:Option Addr} {rc:Nat} {ds:List EA} {bs:List (List St)} {ba:Option Addr} {bc:Nat} {es:List (Option Addr × Nat)} {D1 D2:Nat→Prop}
theorem TwoH.go (h:TwoH C w b1 wa line rs ra rc ds bs ba bc es D1 D2) (hg:Gs C.p wa wb):TwoH C w b1 wb line rs ra rc ds bs ba bc es D1 D2:=by
  have h1:=h.p1;have h2:=h.b01;have hz:=hg.size
  exact ⟨hg.thru h.gs,h1,h2,Nat.lt_of_lt_of_le h.bw hg.size,hg.box h.res (by omega),hg.box h.box (by omega),fun k hk=>⟨(h.d1 k hk).1,Nat.lt_of_lt_of_le (h.d1 k hk).2 hz⟩,fun k hk=>⟨(h.d2 k hk).1,Nat.lt_of_lt_of_le (h.d2 k hk).2 hz⟩,h.dis,
    h.cr.keep exA_lies (hg.keep (fun hd=>by have:=(h.d1 _ hd).1;omega)),h.cb.keep blA_lies (hg.keep (fun hd=>by have:=(h.d2 _ hd).1;omega))⟩
theorem TwoH.pushR {g cap:Nat} {y:Ex} {dy:EA} {o:Obj} (h:TwoH C w b1 wa line rs ra rc ds bs ba bc es D1 D2) (hg:Gs C.p wa wb) (hgr:(wb.alloc o).grownBy w10 (Value.slice ra rs.length rc).ownBlock)
    (hC:Col Ex.cells exA 28 8 (fun k=>D1 k∨wa.heap.size≤k) w10 (.slice (some ⟨g,0,none⟩) (rs.length+1) cap) (rs++[y]) (ds++[dy])):TwoH C w b1 (w10.setCell ⟨b1,4,none⟩ (.slice (some ⟨g,0,none⟩) (rs.length+1) cap)) line (rs++[y]) (some ⟨g,0,none⟩) cap (ds++[dy]) bs ba bc es (fun k=>(D1 k∨wa.heap.size≤k)∧k<w10.heap.size) D2:=by
  have h1:=h.p1;have h2:=h.b01;have h3:=h.bw;have hz:=hg.size;have hz2:=hgr.size;simp at hz2;have hne:∀ b,b≤b1→some b≠(Value.slice ra rs.length rc).ownBlock:=fun b hb he=>by have:=(h.d1 _ (h.cr.dom b he.symm)).1;omega
  have h9n:=(hC.mono exA_lies (D':=(fun k=>(D1 k∨wa.heap.size≤k)∧k<w10.heap.size)) (fun k hk hl=>⟨hk,hl⟩)).keep exA_lies (Keep.set (Keep.refl _ w10) (p:=⟨b1,4,none⟩) (fun hd=>by rcases hd.1 with h9|h9;have:=(h.d1 _ h9).1;simp at this;simp at h9;omega) (.slice (some ⟨g,0,none⟩) (rs.length+1) cap));have h9o:=h.cb.keep blA_lies (Keep.set (((hg.keep (fun hd=>by have:=(h.d2 _ hd).1;omega):Keep D2 wa wb).alloc o).trans (Keep.grown (F:=D2) hgr (fun k hk he=>h.dis k (h.cr.dom k he.symm) hk)) (fun _ h _=>h)) (p:=⟨b1,4,none⟩) (fun hd=>by have:=(h.d2 _ hd).1;simp at this) (.slice (some ⟨g,0,none⟩) (rs.length+1) cap));refine ⟨Gs.set (Gs.grown hgr (fun k hk=>by have:=(h.d1 _ (h.cr.dom k hk)).1;omega) ((hg.thru h.gs).alloc o)) (.inr (Nat.le_of_lt h2)) _,h1,h2,by simp [World.setCell];omega,?_,?_,fun k hk=>⟨by rcases hk.1 with h9|h9;exact (h.d1 k h9).1;omega,by simpa [World.setCell] using hk.2⟩,fun k hk=>⟨(h.d2 k hk).1,by have h9:=(h.d2 k hk).2;simp [World.setCell];omega⟩,fun k hk h2k=>by rcases hk.1 with h9|h9;exact h.dis k h9 h2k;have:=(h.d2 k h2k).2;omega,by simpa using h9n,h9o⟩
  · exact bx_ne (box_grown hgr (box_alloc (hg.box h.res (by omega)) _) (hne _ (by omega))) (by simp;omega)
  · have h9:=box_set (box_grown hgr (box_alloc (hg.box h.box (by omega)) _) (hne _ (Nat.le_refl _))) 4 (.slice (some ⟨g,0,none⟩) (rs.length+1) cap);simpa using h9
theorem TwoH.pushB {g cap:Nat} {y:List St} {dy:Option Addr × Nat} {o:Obj} (h:TwoH C w b1 wa line rs ra rc ds bs ba bc es D1 D2) (hg:Gs C.p wa wb) (hgr:(wb.alloc o).grownBy w10 (Value.slice ba bs.length bc).ownBlock)
    (hC:Col blC blA 40 1 (fun k=>D2 k∨wa.heap.size≤k) w10 (.slice (some ⟨g,0,none⟩) (bs.length+1) cap) (bs++[y]) (es++[dy])):TwoH C w b1 (w10.setCell ⟨b1,5,none⟩ (.slice (some ⟨g,0,none⟩) (bs.length+1) cap)) line rs ra rc ds (bs++[y]) (some ⟨g,0,none⟩) cap (es++[dy]) D1 (fun k=>(D2 k∨wa.heap.size≤k)∧k<w10.heap.size):=by
  have h1:=h.p1;have h2:=h.b01;have h3:=h.bw;have hz:=hg.size;have hz2:=hgr.size;simp at hz2;have hne:∀ b,b≤b1→some b≠(Value.slice ba bs.length bc).ownBlock:=fun b hb he=>by have:=(h.d2 _ (h.cb.dom b he.symm)).1;omega
  have h9n:=(hC.mono blA_lies (D':=(fun k=>(D2 k∨wa.heap.size≤k)∧k<w10.heap.size)) (fun k hk hl=>⟨hk,hl⟩)).keep blA_lies (Keep.set (Keep.refl _ w10) (p:=⟨b1,5,none⟩) (fun hd=>by rcases hd.1 with h9|h9;have:=(h.d2 _ h9).1;simp at this;simp at h9;omega) (.slice (some ⟨g,0,none⟩) (bs.length+1) cap));have h9o:=h.cr.keep exA_lies (Keep.set (((hg.keep (fun hd=>by have:=(h.d1 _ hd).1;omega):Keep D1 wa wb).alloc o).trans (Keep.grown (F:=D1) hgr (fun k hk he=>h.dis k hk (h.cb.dom k he.symm))) (fun _ h _=>h)) (p:=⟨b1,5,none⟩) (fun hd=>by have:=(h.d1 _ hd).1;simp at this) (.slice (some ⟨g,0,none⟩) (bs.length+1) cap));refine ⟨Gs.set (Gs.grown hgr (fun k hk=>by have:=(h.d2 _ (h.cb.dom k hk)).1;omega) ((hg.thru h.gs).alloc o)) (.inr (Nat.le_of_lt h2)) _,h1,h2,by simp [World.setCell];omega,?_,?_,fun k hk=>⟨(h.d1 k hk).1,by have h9:=(h.d1 k hk).2;simp [World.setCell];omega⟩,fun k hk=>⟨by rcases hk.1 with h9|h9;exact (h.d2 k h9).1;omega,by simpa [World.setCell] using hk.2⟩,fun k h1k hk=>by rcases hk.1 with h9|h9;exact h.dis k h1k h9;have:=(h.d1 k h1k).2;omega,h9o,by simpa using h9n⟩
  · exact bx_ne (box_grown hgr (box_alloc (hg.box h.res (by omega)) _) (hne _ (by omega))) (by simp;omega)
  · have h9:=box_set (box_grown hgr (box_alloc (hg.box h.box (by omega)) _) (hne _ (Nat.le_refl _))) 5 (.slice (some ⟨g,0,none⟩) (bs.length+1) cap);simpa using h9
end
end Go.Proofs.YtdekaghipjpgpaaGreatDoor
