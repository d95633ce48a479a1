/- The walk of scriptinglaw06.ParserOperators. -/
import Derived.Test.YtdekaghipjpgpaaGreatDoorO2
namespace Go.Proofs.YtdekaghipjpgpaaGreatDoor
open Go.RowKit
set_option linter.unusedVariables false
set_option linter.unusedSimpArgs false
theorem ops_at {j:Nat} {a:Sb} (h:opA[j]?=some a):(#[.string ⟨#[111,114]⟩,.string ⟨#[97,110,100]⟩,.string ⟨#[60]⟩,.string ⟨#[62]⟩,.string ⟨#[60,61]⟩,.string ⟨#[62,61]⟩,.string ⟨#[126,61]⟩,.string ⟨#[61,61]⟩,.string ⟨#[124]⟩,.string ⟨#[126]⟩,.string ⟨#[38]⟩,.string ⟨#[60,60]⟩,.string ⟨#[62,62]⟩,.string ⟨#[46,46]⟩,.string ⟨#[43]⟩,.string ⟨#[45]⟩,.string ⟨#[42]⟩,.string ⟨#[47]⟩,.string ⟨#[47,47]⟩,.string ⟨#[37]⟩,.string ⟨#[94]⟩]:Array Value)[j]?=some (.string (txA a)):=by
  have h2:(#[.string ⟨#[111,114]⟩,.string ⟨#[97,110,100]⟩,.string ⟨#[60]⟩,.string ⟨#[62]⟩,.string ⟨#[60,61]⟩,.string ⟨#[62,61]⟩,.string ⟨#[126,61]⟩,.string ⟨#[61,61]⟩,.string ⟨#[124]⟩,.string ⟨#[126]⟩,.string ⟨#[38]⟩,.string ⟨#[60,60]⟩,.string ⟨#[62,62]⟩,.string ⟨#[46,46]⟩,.string ⟨#[43]⟩,.string ⟨#[45]⟩,.string ⟨#[42]⟩,.string ⟨#[47]⟩,.string ⟨#[47,47]⟩,.string ⟨#[37]⟩,.string ⟨#[94]⟩]:Array Value)=(opA.map fun l=>Value.string ⟨l.toArray⟩).toArray:=rfl;rw [h2];simp [h,txA]
theorem lvs_at {j:Nat} {u:Int} (h:lvL[j]?=some u):(#[.int .i64 0,.int .i64 1,.int .i64 2,.int .i64 2,.int .i64 2,.int .i64 2,.int .i64 2,.int .i64 2,.int .i64 3,.int .i64 4,.int .i64 5,.int .i64 6,.int .i64 6,.int .i64 7,.int .i64 8,.int .i64 8,.int .i64 9,.int .i64 9,.int .i64 9,.int .i64 9,.int .i64 10]:Array Value)[j]?=some (.int .i64 u):=by
  have h2:(#[.int .i64 0,.int .i64 1,.int .i64 2,.int .i64 2,.int .i64 2,.int .i64 2,.int .i64 2,.int .i64 2,.int .i64 3,.int .i64 4,.int .i64 5,.int .i64 6,.int .i64 6,.int .i64 7,.int .i64 8,.int .i64 8,.int .i64 9,.int .i64 9,.int .i64 9,.int .i64 9,.int .i64 10]:Array Value)=(lvL.map fun l=>Value.int .i64 l).toArray:=rfl;rw [h2];simp [h]
theorem opTx_eq (a b:Sb):(⟨#[120,32]⟩++txA a++⟨#[32,121,32]⟩++txA b++⟨#[32,122]⟩:ByteArray).data.toList=opTx a b:=by
  simp [ByteArray.data_append,txA,opTx]
theorem opA_len {j:Nat} {a:Sb} (h:opA[j]?=some a):(txA a).size≤3:=by
  have:∀ a ∈ opA,a.length≤3:=by decide
  have h2:=this a (List.mem_of_getElem? h);show a.length≤3;exact h2
theorem below_d2 {w1 w2:World} (h:Below w1.drew.drew.heap.size w1.drew.drew w2):Below w1.heap.size w1 w2:=⟨h.os,h.tape,h.output,h.size,h.block⟩
theorem box_drew2 {w1 w2:World} {o:Obj} (h:Below (w1.alloc o).drew.drew.heap.size (w1.alloc o).drew.drew w2):w2.heap[w1.heap.size]?=some o:=box_below (w:=(w1.alloc o)) (below_d2 h) (box_at rfl)
theorem below_drew2 {w1 w2:World} {o:Obj} (h:Below (w1.alloc o).drew.drew.heap.size (w1.alloc o).drew.drew w2):Below w1.heap.size w1 w2:=thru (below_d2 h) (balloc (Below.refl _ _) _)
theorem at_drew2 {w1 w2:World} {o:Obj} {x:Ex} {d:EA} {v0 v1 v2 v3 v4 v5 v6 v7:Value} (h:Ex.At (From (w1.alloc o).drew.drew.heap.size) w2 x d) :
    Ex.At (From w1.heap.size) ((((((((w2.setCell ⟨w1.heap.size,0,none⟩ v0).setCell ⟨w1.heap.size,1,none⟩ v1).setCell ⟨w1.heap.size,2,none⟩ v2).setCell ⟨w1.heap.size,3,none⟩ v3).setCell ⟨w1.heap.size,4,none⟩ v4).setCell ⟨w1.heap.size,5,none⟩ v5).setCell ⟨w1.heap.size,6,none⟩ v6).setCell ⟨w1.heap.size,7,none⟩ v7) x d:=by
  have h2:Ex.At (From (w1.alloc o).heap.size) w2 x d:=h;have e:(w1.alloc o).heap.size=w1.heap.size+1:=by simp
  rw [e] at h2;exact Ex.At.mono (G:=From w1.heap.size) (fun k h _=>Nat.le_of_succ_le h) (Ex.At.keep (set8k (F:=From (w1.heap.size+1)) (by show ¬ (w1.heap.size+1≤w1.heap.size);omega) _ _ _ _ _ _ _ _) (fun _ h=>h) h2)
set_option maxRecDepth 100000 in
set_option maxHeartbeats 40000000 in
theorem ops_walk {cv:List St→Int} (hTC:TCk cv) (hL:LiveP cv) (hO:OpsP cv) (A B:Int) (hA:0≤A∧A≤255) (hB:0≤B∧B≤255) (w:World) (hT:SpT w) :
    Calls Tryz.prog 4 #[.int .u8 A,.int .u8 B] w fun e w'=>e=.returned (.bool true)∧Below w.heap.size w w':=by
  have HT:=hI hT;have HLV:=hI (fun W hW=>lives_at hTC hL W hW);obtain ⟨I,hIq⟩:∃ I:Nat,(I:Int)=A % 21:=⟨(A % 21).toNat,by omega⟩
  obtain ⟨K,hK⟩:∃ K:Nat,(K:Int)=B % 21:=⟨(B % 21).toNat,by omega⟩
  have hI21:I<21:=by omega
  have hK21:K<21:=by omega
  obtain ⟨a,ha⟩:∃ a,opA[I]?=some a:=⟨_,List.getElem?_eq_getElem hI21⟩
  obtain ⟨b,hb⟩:∃ b,opA[K]?=some b:=⟨_,List.getElem?_eq_getElem hK21⟩
  obtain ⟨u,hu⟩:∃ u,lvL[I]?=some u:=⟨_,List.getElem?_eq_getElem hI21⟩
  obtain ⟨v,hv⟩:∃ v,lvL[K]?=some v:=⟨_,List.getElem?_eq_getElem hK21⟩
  obtain ⟨x,hx,hsh⟩:=hO I K a b u v ha hb hu hv
  have HEX:∀ W,SpT W→Hid (Calls Tryz.prog 11 #[.string (⟨#[120,32]⟩++txA a++⟨#[32,121,32]⟩++txA b++⟨#[32,122]⟩)] W fun e w'=>∃ d,e=.returned (.tuple #[.agg #[.int .i64 x.kind,.int .i64 x.op,.int .i64 x.line,.int .i64 x.p,.int .i64 x.q,.string x.str,.slice d.a x.args.length d.c,.slice d.fa x.funcs.length d.fc],.int .i64 0,.int .i64 0])∧x.wz≤589824∧x.At (From W.heap.size) w' d∧Below W.heap.size W w') :=
    fun W hW=>hI (expr_ok hTC _ W hW (by have:=opA_len ha;have:=opA_len hb;have e1:(⟨#[120,32]⟩:ByteArray).size=2:=rfl;have e2:(⟨#[32,121,32]⟩:ByteArray).size=3:=rfl;have e3:(⟨#[32,122]⟩:ByteArray).size=2:=rfl;simp only [ByteArray.size_append,e1,e2,e3];omega) (by rw [opTx_eq];exact hx))
  have hsa:=opA_len ha;have hsb:=opA_len hb;have hof:=ops_at ha;have hog:=ops_at hb;have hlu:=lvs_at hu;have hlv:=lvs_at hv;generalize txA a=o1 at HEX hsa hof;generalize txA b=o2 at HEX hsb hog;have HOF:=hI hof;have HOG:=hI hog;have HLU:=hI hlu;have HLW:=hI hlv;have HSA:=hI hsa;have HSB:=hI hsb;have HSH:=hI hsh;have HI:=hI hIq;have HK:=hI hK;have HI21:=hI hI21;have HK21:=hI hK21;clear hTC hL hO hT ha hb hu hv hx hsh hIq hK hI21 hK21 hof hog hlu hlv hsa hsb a b
  go_enter Tryz.func4,Tryz.ntmps4
  go_upto_region 3 with fail
  obtain ⟨w1,hw1⟩:∃ w1:World,w1=(w.alloc (.cells #[.string ⟨#[111,114]⟩,.string ⟨#[97,110,100]⟩,.string ⟨#[60]⟩,.string ⟨#[62]⟩,.string ⟨#[60,61]⟩,.string ⟨#[62,61]⟩,.string ⟨#[126,61]⟩,.string ⟨#[61,61]⟩,.string ⟨#[124]⟩,.string ⟨#[126]⟩,.string ⟨#[38]⟩,.string ⟨#[60,60]⟩,.string ⟨#[62,62]⟩,.string ⟨#[46,46]⟩,.string ⟨#[43]⟩,.string ⟨#[45]⟩,.string ⟨#[42]⟩,.string ⟨#[47]⟩,.string ⟨#[47,47]⟩,.string ⟨#[37]⟩,.string ⟨#[94]⟩] 9)).alloc (.cells #[.int .i64 0,.int .i64 1,.int .i64 2,.int .i64 2,.int .i64 2,.int .i64 2,.int .i64 2,.int .i64 2,.int .i64 3,.int .i64 4,.int .i64 5,.int .i64 6,.int .i64 6,.int .i64 7,.int .i64 8,.int .i64 8,.int .i64 9,.int .i64 9,.int .i64 9,.int .i64 9,.int .i64 10] 3):=⟨_,rfl⟩
  rw [←hw1];have HB1:=hI (show Below w.heap.size w w1 by rw [hw1];exact bw);have HOX:=hI (show w1.heap[w.heap.size]?=some (.cells #[.string ⟨#[111,114]⟩,.string ⟨#[97,110,100]⟩,.string ⟨#[60]⟩,.string ⟨#[62]⟩,.string ⟨#[60,61]⟩,.string ⟨#[62,61]⟩,.string ⟨#[126,61]⟩,.string ⟨#[61,61]⟩,.string ⟨#[124]⟩,.string ⟨#[126]⟩,.string ⟨#[38]⟩,.string ⟨#[60,60]⟩,.string ⟨#[62,62]⟩,.string ⟨#[46,46]⟩,.string ⟨#[43]⟩,.string ⟨#[45]⟩,.string ⟨#[42]⟩,.string ⟨#[47]⟩,.string ⟨#[47,47]⟩,.string ⟨#[37]⟩,.string ⟨#[94]⟩] 9) by rw [hw1];exact box_alloc (box_at rfl) _);have HLX:=hI (show w1.heap[w.heap.size+1]?=some (.cells #[.int .i64 0,.int .i64 1,.int .i64 2,.int .i64 2,.int .i64 2,.int .i64 2,.int .i64 2,.int .i64 2,.int .i64 3,.int .i64 4,.int .i64 5,.int .i64 6,.int .i64 6,.int .i64 7,.int .i64 8,.int .i64 8,.int .i64 9,.int .i64 9,.int .i64 9,.int .i64 9,.int .i64 10] 3) by rw [hw1];exact box_at (by simp));clear hw1;have ko1:w1.cell? ⟨w.heap.size,I,none⟩=some (.string o1):=by rw [box_cell HOX.out];exact HOF.out
  have ko2:w1.cell? ⟨w.heap.size,K,none⟩=some (.string o2):=by rw [box_cell HOX.out];exact HOG.out
  have hz1:=box_lt HOX.out;have eI:A.tmod 21=(I:Int):=by have:=HI.out;rw [Int.tmod_eq_emod_of_nonneg (by omega)];omega
  have eK:B.tmod 21=(K:Int):=by have:=HK.out;rw [Int.tmod_eq_emod_of_nonneg (by omega)];omega
  have eA:IntKind.i64.wrap A=A:=w64i (by omega);have eB:IntKind.i64.wrap B=B:=w64i (by omega);refine wp_region_held_drew (S:=(fun _=>True)) (by kernel_rfl) ?s101 ?r101
  case s101=>trivial
  intro hHeld;refine tH 0 ?_;refine tH 1 ?_;refine tH 2 ?_;refine tH 3 ?_;refine tH 4 ?_;refine tH 5 ?_;refine tH 6 ?_;refine tH 7 ?_;refine tH 8 ?_;refine tH 9 ?_;refine tH 10 ?_;refine tH 11 ?_;refine wpAnyH_done (by kernel_rfl) ?_ _;have xI:(I:Int)<21:=by have:=HI21.out;omega
  have xK:(K:Int)<21:=by have:=HK21.out;omega
  have z1:¬ 9223372036854775807<2+o1.size:=by have:=HSA.out;omega
  have z2:¬ 9223372036854775807<2+o1.size+3:=by have:=HSA.out;omega
  have z3:¬ 9223372036854775807<2+o1.size+3+o2.size:=by have:=HSA.out;have:=HSB.out;omega
  have z4:¬ 9223372036854775807<2+o1.size+3+o2.size+2:=by have:=HSA.out;have:=HSB.out;omega
  go_upto_region 4 with fail
  go_cut [9,10,11] (fun v9 v10 v11 wx=>∃ (d:EA) (bx:Nat),v9=.pointer (some ⟨bx,0,none⟩)∧v10=.int .i64 0∧v11=.int .i64 0∧wx.heap[bx]?=some (.cells #[.int .i64 x.kind,.int .i64 x.op,.int .i64 x.line,.int .i64 x.p,.int .i64 x.q,.string x.str,.slice d.a x.args.length d.c,.slice d.fa x.funcs.length d.fc] 28)∧x.wz≤589824∧x.At (From w1.heap.size) wx d∧Below w1.heap.size w1 wx)
  case first =>
    have HT1:=hI (HT.out.below HB1.out)
    go_region_law (go_simp;go_at_call 11;refine (HEX _ (HT1.out.below bw)).out.mono ?_;rintro e w2 ⟨d,rfl,hwz,hat,hb2⟩;have HWZ:=hI hwz;have HAT:=hI hat;have hz2:=hb2.size;have hc:=fun i hi=>hb2.cell (p:=⟨w1.heap.size,i,none⟩) hi;have hcf:=fun i hi=>hb2.frozen (p:=⟨w1.heap.size,i,none⟩) hi;simp at hc hcf hz2;have HB2:=hI hb2;clear hwz hat hb2)
    all_goals
      go_wp2_with fail
      go_meet
      case rel=>first
        | (refine ⟨d,w2.heap.size,rfl,rfl,rfl,?_,HWZ.out,?_,?_⟩;(with_reducible exact box_at rfl);exact Ex.At.keep ((Keep.refl _ _).alloc _) (fun _ h=>h) HAT.out;exact balloc (below_d2 HB2.out) _)
        | (refine ⟨d,w1.heap.size,rfl,rfl,rfl,?_,HWZ.out,?_,?_⟩;exact set8h (box_drew2 HB2.out) _ _ _ _ _ _ _ _;exact at_drew2 HAT.out;exact below8 (below_drew2 HB2.out) (Nat.le_refl _) _ _ _ _ _ _ _ _)
  case rest =>
    obtain ⟨w3,rfl⟩:∃ w3:World,w3=wc:=⟨_,rfl⟩
    obtain ⟨d,bx,rfl,rfl,rfl,hbox,hwz,hat,hb3⟩:=hcut;have HB3:=hI (show Below w.heap.size w w3 from thru hb3 HB1.out);have HWZ:=hI hwz;have HAT:=hI hat;have kb:=fun j=>box_cell hbox j;have kbf:=box_free hbox;have kbz:=box_lt hbox;have HT3:=hI (HT.out.below HB3.out);have hl3:=box_below hb3 HLX.out;have ku1:w3.cell? ⟨w.heap.size+1,I,none⟩=some (.int .i64 u):=by rw [box_cell hl3];exact HLU.out
    have ku2:w3.cell? ⟨w.heap.size+1,K,none⟩=some (.int .i64 v):=by rw [box_cell hl3];exact HLW.out
    have hz3:=box_lt hl3
    have hlen:x.args.length=2:=by
      rcases hr:rgtB u v
      · obtain ⟨p,q,z,y,h1,-⟩:=shape_l (hr ▸ HSH.out);rw [h1];rfl
      · obtain ⟨p,q,z,y,h1,-⟩:=shape_r (hr ▸ HSH.out);rw [h1];rfl
    clear hbox hwz hat hb3 hl3 ko1 ko2 z1 z2 z3 z4 eI eK eA eB
    go_upto_region 7 with fail
    go_cut [12] (fun v12 wx=>v12=.bool (rgtB u v)∧∃ m,wx=w3.drewN m)
    case first =>
      rcases Int.lt_trichotomy u v with h1|h1|h1
      · have hr:rgtB u v=true:=by unfold rgtB;simp [h1]
        refine wp_region_held_drew (S:=(fun w'=>w'.cell? ⟨w.heap.size+1,I,none⟩=some (.int .i64 u)∧w'.cell? ⟨w.heap.size+1,K,none⟩=some (.int .i64 v))) (by kernel_rfl) ?s114 ?r114
        case s114=>exact ⟨ku1,ku2⟩
        intro hHeld;refine tH 0 ?_;refine tH 1 ?_;refine tH 2 ?_;refine tH 3 ?_;refine tH 4 ?_;refine tH 5 ?_;refine tH 6 ?_;refine tH 7 ?_;refine tH 8 ?_;refine tH 9 ?_;refine uH 10 ?_;refine uH 11 ?_;refine uH 12 ?_;refine uH 13 ?_;refine uH 14 ?_;refine uH 15 ?_;refine uH 16 ?_;refine uH 17 ?_;refine uH 18 ?_;refine uH 19 ?_;refine uH 20 ?_;refine uH 21 ?_;refine uH 22 ?_;refine uH 23 ?_;refine uH 24 ?_;refine uH 25 ?_;refine uH 26 ?_;refine uH 27 ?_;refine uH 28 ?_;refine uH 29 ?_;refine uH 30 ?_;refine uH 31 ?_;refine uH 32 ?_;refine tH 33 ?_;refine tH 34 ?_;refine wpAnyH_done (by kernel_rfl) ?_ _
        go_wp2_with fail
        go_meet
        case rel=>exact ⟨by rw [hr],_,rfl⟩
      · subst h1;by_cases h7:u=7
        · subst h7;have hr:rgtB 7 7=true:=rfl;refine wp_region_held_drew (S:=(fun w'=>w'.cell? ⟨w.heap.size+1,I,none⟩=some (.int .i64 7)∧w'.cell? ⟨w.heap.size+1,K,none⟩=some (.int .i64 7))) (by kernel_rfl) ?s150 ?r150
          case s150=>exact ⟨ku1,ku2⟩
          intro hHeld;refine tH 0 ?_;refine tH 1 ?_;refine tH 2 ?_;refine tH 3 ?_;refine tH 4 ?_;refine tH 5 ?_;refine tH 6 ?_;refine tH 7 ?_;refine tH 8 ?_;refine tH 9 ?_;refine tH 10 ?_;refine tH 11 ?_;refine tH 12 ?_;refine tH 13 ?_;refine tH 14 ?_;refine tH 15 ?_;refine tH 16 ?_;refine tH 17 ?_;refine tH 18 ?_;refine tH 19 ?_;refine tH 20 ?_;refine tH 21 ?_;refine tH 22 ?_;refine tH 23 ?_;refine tH 24 ?_;refine tH 25 ?_;refine uH 26 ?_;refine uH 27 ?_;refine uH 28 ?_;refine uH 29 ?_;refine uH 30 ?_;refine tH 31 ?_;refine tH 32 ?_;refine tH 33 ?_;refine tH 34 ?_;refine wpAnyH_done (by kernel_rfl) ?_ _
          go_wp2_with fail
          go_meet
          case rel=>exact ⟨by rw [hr],_,rfl⟩
        · by_cases h10:u=10
          · subst h10;have hr:rgtB 10 10=true:=rfl;refine wp_region_held_drew (S:=(fun w'=>w'.cell? ⟨w.heap.size+1,I,none⟩=some (.int .i64 10)∧w'.cell? ⟨w.heap.size+1,K,none⟩=some (.int .i64 10))) (by kernel_rfl) ?s186 ?r186
            case s186=>exact ⟨ku1,ku2⟩
            intro hHeld;refine tH 0 ?_;refine tH 1 ?_;refine tH 2 ?_;refine tH 3 ?_;refine tH 4 ?_;refine tH 5 ?_;refine tH 6 ?_;refine tH 7 ?_;refine tH 8 ?_;refine tH 9 ?_;refine tH 10 ?_;refine tH 11 ?_;refine tH 12 ?_;refine tH 13 ?_;refine tH 14 ?_;refine tH 15 ?_;refine tH 16 ?_;refine tH 17 ?_;refine tH 18 ?_;refine tH 19 ?_;refine tH 20 ?_;refine tH 21 ?_;refine tH 22 ?_;refine tH 23 ?_;refine tH 24 ?_;refine tH 25 ?_;refine tH 26 ?_;refine tH 27 ?_;refine tH 28 ?_;refine tH 29 ?_;refine tH 30 ?_;refine tH 31 ?_;refine tH 32 ?_;refine tH 33 ?_;refine tH 34 ?_;refine wpAnyH_done (by kernel_rfl) ?_ _
            go_wp2_with fail
            go_meet
            case rel=>exact ⟨by rw [hr],_,rfl⟩
          · have e7:(u==7)=false:=by simp [h7]
            have e10:(u==10)=false:=by simp [h10]
            have hr:rgtB u u=false:=by unfold rgtB;simp [h7,h10]
            refine wp_region_held_drew (S:=(fun w'=>w'.cell? ⟨w.heap.size+1,I,none⟩=some (.int .i64 u)∧w'.cell? ⟨w.heap.size+1,K,none⟩=some (.int .i64 u))) (by kernel_rfl) ?s222 ?r222
            case s222=>exact ⟨ku1,ku2⟩
            intro hHeld;refine tH 0 ?_;refine tH 1 ?_;refine tH 2 ?_;refine tH 3 ?_;refine tH 4 ?_;refine tH 5 ?_;refine tH 6 ?_;refine tH 7 ?_;refine tH 8 ?_;refine tH 9 ?_;refine tH 10 ?_;refine tH 11 ?_;refine tH 12 ?_;refine tH 13 ?_;refine tH 14 ?_;refine tH 15 ?_;refine tH 16 ?_;refine tH 17 ?_;refine tH 18 ?_;refine tH 19 ?_;refine tH 20 ?_;refine tH 21 ?_;refine tH 22 ?_;refine tH 23 ?_;refine tH 24 ?_;refine tH 25 ?_;refine tH 26 ?_;refine tH 27 ?_;refine tH 28 ?_;refine tH 29 ?_;refine tH 30 ?_;refine tH 31 ?_;refine tH 32 ?_;refine tH 33 ?_;refine tH 34 ?_;refine wpAnyH_done (by kernel_rfl) ?_ _
            go_wp2_with fail
            go_meet
            case rel=>exact ⟨by rw [hr],_,rfl⟩
      · have g1:¬ u<v:=by omega
        have g2:¬ v=u:=by omega
        have e2:(v==u)=false:=by simp [g2]
        have hr:rgtB u v=false:=by unfold rgtB;simp [g1,g2]
        refine wp_region_held_drew (S:=(fun w'=>w'.cell? ⟨w.heap.size+1,I,none⟩=some (.int .i64 u)∧w'.cell? ⟨w.heap.size+1,K,none⟩=some (.int .i64 v))) (by kernel_rfl) ?s258 ?r258
        case s258=>exact ⟨ku1,ku2⟩
        intro hHeld;refine tH 0 ?_;refine tH 1 ?_;refine tH 2 ?_;refine tH 3 ?_;refine tH 4 ?_;refine tH 5 ?_;refine tH 6 ?_;refine tH 7 ?_;refine tH 8 ?_;refine tH 9 ?_;refine tH 10 ?_;refine tH 11 ?_;refine tH 12 ?_;refine tH 13 ?_;refine tH 14 ?_;refine tH 15 ?_;refine tH 16 ?_;refine tH 17 ?_;refine tH 18 ?_;refine tH 19 ?_;refine uH 20 ?_;refine uH 21 ?_;refine uH 22 ?_;refine uH 23 ?_;refine uH 24 ?_;refine uH 25 ?_;refine uH 26 ?_;refine uH 27 ?_;refine uH 28 ?_;refine uH 29 ?_;refine uH 30 ?_;refine uH 31 ?_;refine tH 32 ?_;refine tH 33 ?_;refine tH 34 ?_;refine wpAnyH_done (by kernel_rfl) ?_ _
        go_wp2_with fail
        go_meet
        case rel=>exact ⟨by rw [hr],_,rfl⟩
    case rest =>
      obtain ⟨w4,rfl⟩:∃ w4:World,w4=wc:=⟨_,rfl⟩
      obtain ⟨rfl,m,hw4⟩:=hcut;have hb4:Below w3.heap.size w3 w4:=by rw [hw4];exact bw
      have HB4:=hI (show Below w.heap.size w w4 from thru hb4 HB3.out);have HT4:=hI (HT3.out.below hb4);have hat:=Ex.At.keep (keep_below hb4) (fun _ h=>h) HAT.out;have c4:∀ i,w4.cell? ⟨bx,i,none⟩=w3.cell? ⟨bx,i,none⟩:=by rw [hw4];intro i;rfl
      have hz4:bx<w4.heap.size:=by rw [hw4];exact kbz
      have kb:=fun j=>(c4 j).trans (kb j);have kbf:∀ i,w4.frozen? ⟨bx,i,none⟩=false:=by rw [hw4];exact kbf
      clear hw4 c4 hb4 ku1 ku2 kbz;have HC:=hI (fun W hb=>(HLV.out W (HT4.out.below (w:=w4) hb)));rcases hr:rgtB u v
      · obtain ⟨p,q,z,y,h1,h2,h3,h4,h5⟩:=shape_l (hr ▸ HSH.out);obtain ⟨b,off,dp,dq,ha,-,hlb,hc1,hc2,hrp,hatp,hrq,-⟩:=args2 hat h1;obtain ⟨b2,off2,dz,dy,ha2,-,hlb2,hc3,hc4,hrz,-,-,-⟩:=args2 hatp h2;have hlp:p.args.length=2:=by rw [h2];rfl
        have kb6:w4.cell? ⟨bx,6,none⟩=some (.slice (some ⟨b,off,none⟩) 2 d.c):=by have h9:=kb 6;rw [ha,hlen] at h9;exact h9
        have q0:w4.cell? ⟨b,off+8,none⟩=some (.int .i64 7):=by have h9:=hrq 0 _ rfl;rw [h3] at h9;exact h9
        have q5:w4.cell? ⟨b,off+8+5,none⟩=some (.string ⟨#[122]⟩):=by have h9:=hrq 5 _ rfl;rw [h4] at h9;exact h9
        have q5':w4.cell? ⟨b,off+13,none⟩=some (.string ⟨#[122]⟩):=q5;have p6:w4.cell? ⟨b,off+6,none⟩=some (.slice (some ⟨b2,off2,none⟩) 2 dp.c):=by have h9:=hrp 6 _ rfl;rw [ha2,hlp] at h9;exact h9
        have z5:w4.cell? ⟨b2,off2+5,none⟩=some (.string ⟨#[120]⟩):=by have h9:=hrz 5 _ rfl;rw [h5] at h9;exact h9
        clear kb kbf hrp hrq hrz hatp hat h1 h2 h3 h4 h5 ha ha2 hlen hlp
        go_wp2_with (go_at_call 10;refine (HC.out _ bw).mono ?_;rintro e w5 ⟨rfl,hb5⟩)
        go_ret;exact ⟨rfl,by have h9:=HB4.out;exact bw⟩
      · obtain ⟨p,q,y,z,h1,h2,h3,h4,h5⟩:=shape_r (hr ▸ HSH.out);obtain ⟨b,off,dp,dq,ha,-,hlb,hc1,hc2,hrp,-,hrq,hatq⟩:=args2 hat h1;obtain ⟨b2,off2,dy,dz,ha2,-,hlb2,hc3,hc4,-,-,hrz,-⟩:=args2 hatq h2;have hlp:q.args.length=2:=by rw [h2];rfl
        have kb6:w4.cell? ⟨bx,6,none⟩=some (.slice (some ⟨b,off,none⟩) 2 d.c):=by have h9:=kb 6;rw [ha,hlen] at h9;exact h9
        have p0:w4.cell? ⟨b,off,none⟩=some (.int .i64 7):=by have h9:=hrp 0 _ rfl;rw [h3] at h9;exact h9
        have p5:w4.cell? ⟨b,off+5,none⟩=some (.string ⟨#[120]⟩):=by have h9:=hrp 5 _ rfl;rw [h4] at h9;exact h9
        have q6:w4.cell? ⟨b,off+8+6,none⟩=some (.slice (some ⟨b2,off2,none⟩) 2 dq.c):=by have h9:=hrq 6 _ rfl;rw [ha2,hlp] at h9;exact h9
        have q6':w4.cell? ⟨b,off+14,none⟩=some (.slice (some ⟨b2,off2,none⟩) 2 dq.c):=q6;have z5:w4.cell? ⟨b2,off2+8+5,none⟩=some (.string ⟨#[122]⟩):=by have h9:=hrz 5 _ rfl;rw [h5] at h9;exact h9
        have z5':w4.cell? ⟨b2,off2+13,none⟩=some (.string ⟨#[122]⟩):=z5;clear kb kbf hrp hrq hrz hatq hat h1 h2 h3 h4 h5 ha ha2 hlen hlp
        go_wp2_with (go_at_call 10;refine (HC.out _ bw).mono ?_;rintro e w5 ⟨rfl,hb5⟩)
        go_ret;exact ⟨rfl,by have h9:=HB4.out;exact bw⟩
end Go.Proofs.YtdekaghipjpgpaaGreatDoor
