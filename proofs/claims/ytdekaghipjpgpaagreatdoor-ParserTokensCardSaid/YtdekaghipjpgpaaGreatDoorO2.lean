/- The walks of scriptinglaw06.lives and ParserOperators. -/
import Derived.Test.YtdekaghipjpgpaaGreatDoorB1
import Derived.Test.YtdekaghipjpgpaaGreatDoorE1
import Derived.Test.YtdekaghipjpgpaaGreatDoorE3
import Derived.Test.YtdekaghipjpgpaaGreatDoorE6
import Derived.Test.YtdekaghipjpgpaaGreatDoorCN
namespace Go.Proofs.YtdekaghipjpgpaaGreatDoor
open Go.RowKit
set_option linter.unusedVariables false
set_option linter.unusedSimpArgs false
theorem args1 {F:Nat→Prop} {w:World} {x p:Ex} {d:EA} (h:x.At F w d) (ha:x.args=[p]):∃ b off dp,d.a=some ⟨b,off,none⟩∧F b∧b<w.heap.size∧1≤d.c∧d.c≤MX∧w.rangeAt b off (p.cells dp)∧p.At F w dp:=by
  obtain ⟨-,hc,hr,-⟩:=Ex.at_iff.1 h;have h2:=Ex.ats_iff.2 hr;rw [ha] at h2 hc;obtain ⟨b,off,dp,h3,h4,h5,h6,h7,-⟩:=h2;exact ⟨b,off,dp,h3,h4,h5,hc.1,hc.2.1.1,h6,h7⟩
def LiveP (cv:List St→Int):Prop:=∃ x y,exprV cv [45,50,32,94,32,50]=.ok x∧x.kind=15∧x.op=20∧x.args=[y]∧y.kind=16∧y.op=7
theorem expr_ok {cv:List St→Int} (hTC:TCk cv) (s:ByteArray) (w:World) (hT:SpT w) (hs:s.size≤4611686018427387904) {x:Ex} (hx:exprV cv s.data.toList=.ok x) :
    Calls Tryz.prog 11 #[.string s] w fun e w'=>∃ d,e=.returned (.tuple #[.agg #[.int .i64 x.kind,.int .i64 x.op,.int .i64 x.line,.int .i64 x.p,.int .i64 x.q,.string x.str,.slice d.a x.args.length d.c,.slice d.fa x.funcs.length d.fc],.int .i64 0,.int .i64 0])∧x.wz≤589824∧x.At (From w.heap.size) w' d∧Below w.heap.size w w' :=
  (expr_at2 hTC s w hT hs).mono fun e w' h=>by
    obtain ⟨hb,⟨n,y,h1,-⟩|⟨v,d,h1,h2,h3,h4⟩⟩:=h
    · rw [hx] at h1;cases h1
    · rw [hx] at h1;cases h1;exact ⟨d,h2,h3,h4,hb⟩
set_option maxRecDepth 100000 in
set_option maxHeartbeats 4000000 in
theorem lives_at {cv:List St→Int} (hTC:TCk cv) (hL:LiveP cv) (w:World) (hT:SpT w) :
    Calls Tryz.prog 10 #[] w fun e w'=>e=.returned (.bool true)∧Below w.heap.size w w':=by
  obtain ⟨x,y,hx,h1,h2,h3,h4,h5⟩:=hL;have HE:=hI (expr_ok hTC ⟨#[45,50,32,94,32,50]⟩ w hT (by decide) hx);have a1:=kT 15 h1;have a2:(x.op==20)=true:=by rw [h2];rfl
  have a4:=kT 16 h4;have a5:(y.op==7)=true:=by rw [h5];rfl
  have HA:=hI h3;clear hTC hx h1 h2 h4 h5 h3 hT
  go_enter Tryz.func10,Tryz.ntmps10
  go_wp2_with (go_at_call 11;refine HE.out.mono ?_;rintro e w1 ⟨d,rfl,hwz,hat,hb1⟩;obtain ⟨a,c,fa,fc⟩:=d;obtain ⟨b,off,dp,ha,hF,hlb,hc1,hc2,hr,-⟩:=args1 hat HA.out;simp only at ha hc1 hc2;subst ha;have hl1:=congrArg List.length HA.out;have r0:=hr 0 _ rfl;have r1:=hr 1 _ rfl;simp only [Nat.add_zero] at r0;clear hat hwz hr)
  go_ret;exact ⟨rfl,bw⟩
theorem Ag.bind {α β:Type} {m m':Res α} {f f':α→List Tk→Res β} {s:α→Nat} {k:Nat} (h:m=m') (hl:Le m s k) (hk:∀ x l,l.length+s x≤k→f x l=f' x l):m.bind f=m'.bind f':=by
  subst h;cases m with
  | ok x l=>exact hk x l (hl x l rfl)
  | bad l=>rfl
theorem Ag.ite {α:Type} {c:Prop} [Decidable c] {m n m' n':Res α} (h1:c→m=m') (h2:¬ c→n=n'):(if c then m else n)=(if c then m' else n'):=by
  by_cases h:c
  · rw [if_pos h,if_pos h,h1 h]
  · rw [if_neg h,if_neg h,h2 h]
def AE (N:Nat) (E E':EF):Prop:=∀ lim l,l.length<N→E lim l=E' lim l
def AB (N:Nat) (B B':BF):Prop:=∀ l,l.length<N→B l=B' l
section
variable {N:Nat} {E E':EF} {B B':BF} (aE:AE N E E') (aB:AB N B B') (hE:SE E) (hB:SB B)
include aE hE in
include aE hE in
include aE hE in
include aE hE in
include aE hE in
include aE hE in
include aE hE in
include aE hE in
include aE hE in
include aE hE in
include aB in
include aB in
include aE aB hE in
include aE hE in
include aE aB hE in
include aE aB hE hB in
include aE aB hE in
include aB in
include aE aB hE hB in
include aE aB hE hB in
include aE aB hE in
include aE hE in
include hE in
include aE hE in
include aE aB hE hB in
include aE aB hE hB in
include aE hE in
include aE aB hE hB in
end
mutual
theorem Ex.ml_id:∀ x:Ex,x.ml id=x
  | .mk k o l p q s a f=>by simp only [Ex.ml,id,Ex.mls_id a,Fn.mls_id f]
theorem Ex.mls_id:∀ l:List Ex,Ex.mls id l=l
  | []=>rfl
  | x::r=>by simp only [Ex.mls,Ex.ml_id x,Ex.mls_id r]
theorem Fn.ml_id:∀ x:Fn,x.ml id=x
  | .mk n p v b l=>by simp only [Fn.ml,id,St.mls_id b]
theorem Fn.mls_id:∀ l:List Fn,Fn.mls id l=l
  | []=>rfl
  | x::r=>by simp only [Fn.mls,Fn.ml_id x,Fn.mls_id r]
theorem St.ml_id:∀ x:St,x.ml id=x
  | .mk k l n a b c t=>by simp only [St.ml,id,Ex.mls_id a,Ex.mls_id b,St.mlss_id c]
theorem St.mls_id:∀ l:List St,St.mls id l=l
  | []=>rfl
  | x::r=>by simp only [St.mls,St.ml_id x,St.mls_id r]
theorem St.mlss_id:∀ l:List (List St),St.mlss id l=l
  | []=>rfl
  | x::r=>by simp only [St.mlss,St.mls_id x,St.mlss_id r]
end
open Classical in
def Ln (P:St→Prop) (m:Res St):Prop:=∀ s l,m=.ok s l→P s
section
variable {P:St→Prop}
theorem Ln.bind {α:Type} {m:Res α} {f:α→List Tk→Res St} (h:∀ x l,Ln P (f x l)):Ln P (m.bind f):=by
  cases m with
  | ok x l=>exact h x l
  | bad l=>intro s l e;cases e
theorem Ln.ite {c:Prop} [Decidable c] {m m':Res St} (h:Ln P m) (h':Ln P m'):Ln P (if c then m else m'):=by split <;> assumption
theorem Ln.yes {s:St} {l:List Tk} (h:P s):Ln P (.ok s l):=fun s' l' e=>by cases e;exact h
theorem Ln.no {l:List Tk}:Ln P (.bad l):=fun s' l' e=>by cases e
theorem Ln.step {t:Tk} {r:List Tk} {f:Tk→List Tk→Res St} (h:Ln P (f t r)):Ln P ((takeR (t::r)).bind f):=h
end
section
variable (E:EF) (B:BF) (t:Tk) (r:List Tk)
end
section
variable {g:Int→Int}
theorem ml_args (x:Ex):(x.ml g).args=x.args.map (Ex.ml g):=by cases x;exact Ex.mls_map g _
theorem ml_funcs (x:Ex):(x.ml g).funcs=x.funcs.map (Fn.ml g):=by cases x;exact Fn.mls_map g _
theorem ml_op (x:Ex):(x.ml g).op=x.op:=by cases x;rfl
theorem ml_p (x:Ex):(x.ml g).p=x.p:=by cases x;rfl
theorem ml_q (x:Ex):(x.ml g).q=x.q:=by cases x;rfl
theorem ml_str (x:Ex):(x.ml g).str=x.str:=by cases x;rfl
theorem ml_line (x:Ex):(x.ml g).line=g x.line:=by cases x;rfl
theorem mf_name (f:Fn):(f.ml g).name=f.name:=by cases f;rfl
theorem mf_params (f:Fn):(f.ml g).params=f.params:=by cases f;rfl
theorem mf_line (f:Fn):(f.ml g).line=g f.line:=by cases f;rfl
theorem ms_kind (s:St):(s.ml g).kind=s.kind:=by cases s;rfl
theorem ms_line (s:St):(s.ml g).line=g s.line:=by cases s;rfl
theorem ms_names (s:St):(s.ml g).names=s.names:=by cases s;rfl
theorem ms_label (s:St):(s.ml g).label=s.label:=by cases s;rfl
theorem ms_left (s:St):(s.ml g).left=s.left.map (Ex.ml g):=by cases s;exact Ex.mls_map g _
theorem ms_right (s:St):(s.ml g).right=s.right.map (Ex.ml g):=by cases s;exact Ex.mls_map g _
theorem ms_blocks (s:St):(s.ml g).blocks=s.blocks.map (List.map (St.ml g)):=by cases s;exact St.mlss_map g _
theorem ml_has (x:Ex) (a b c:Bool) (n:Int):hasB (x.ml g) a b c n=hasB x a b c n:=by
  unfold hasB;rw [Ex.kind_ml,ml_op,ml_p,ml_q,ml_str,ml_args,ml_funcs,List.length_map,List.length_map]
theorem ml_subj (x:Ex):subjB (x.ml g)=subjB x:=by
  unfold subjB;rw [ml_args];cases x.args with
  | nil=>rfl
  | cons y r=>simp [Ex.kind_ml]
theorem ml_form (x:Ex) (k:Int):formB (x.ml g) k=formB x k:=by
  have h1:(x.args.map (Ex.ml g)).all (fun y=>y.kind==13 || y.kind==14)=x.args.all (fun y=>y.kind==13 || y.kind==14):=by
    rw [List.all_map];congr 1;funext y;simp [Ex.kind_ml]
  unfold formB;simp only [ml_has,ml_subj,Ex.kind_ml,ml_p,ml_q,ml_op,ml_args,ml_funcs,List.length_map,h1];clear h1;generalize x.args=l;cases l with
  | nil=>rfl
  | cons y r=>simp only [List.map_cons,Ex.kind_ml]
theorem mf_fits (t:Ttl) (f:Fn):fitsB t (f.ml g)=fitsB t f:=by unfold fitsB;rw [mf_name,mf_params]
theorem ml_path:∀ x:Ex,pathE (x.ml g)=pathE x
  | .mk k o l p q s [] f=>rfl
  | .mk k o l p q s [x] f=>rfl
  | .mk k o l p q s [x,y] f=>by
    show (if k=7 then some [s] else if k=8 then (if (y.ml g).kind=5∧nameB (y.ml g).str=true then (pathE (x.ml g)).map (·++[(y.ml g).str]) else none) else none)=_;rw [Ex.kind_ml,ml_str,ml_path x];rfl
  | .mk k o l p q s (x::y::z::r) f=>rfl
theorem ms_ttl (s:St):ttlS (s.ml g)=ttlS s:=by
  have h:pathE ((s.left.map (Ex.ml g)).headD default)=pathE (s.left.headD default):=by
    cases s.left with
    | nil=>rfl
    | cons x r=>exact ml_path x
  unfold ttlS;rw [ms_kind,ms_names,ms_left,ms_right,List.length_map,List.length_map,h]
theorem any_fn (p q:Fn→Bool) (h:∀ f,p (f.ml g)=q f) (l:List Fn):(l.map (Fn.ml g)).any p=l.any q:=by
  rw [List.any_map];congr 1;funext f;exact h f
theorem ms_form (s:St) (last:Bool):formSB (s.ml g) last=formSB s last:=by
  have h1:∀ a b c d e,cntB (s.ml g) a b c d e=cntB s a b c d e:=fun a b c d e=>by
    unfold cntB;rw [ms_names,ms_left,ms_right,ms_blocks,ms_label,List.length_map,List.length_map,List.length_map]
  have h2:(s.left.map (Ex.ml g)).all (fun x=>x.kind==7 || x.kind==8)=s.left.all (fun x=>x.kind==7 || x.kind==8):=by
    rw [List.all_map];congr 1;funext y;simp [Ex.kind_ml]
  have h3:headK (s.right.map (Ex.ml g))=headK s.right:=by
    cases s.right with
    | nil=>rfl
    | cons x r=>exact Ex.kind_ml g x
  unfold formSB;simp only [h1,ms_kind,ms_names,ms_left,ms_right,ms_blocks,List.length_map,h2,h3]
def Sg (g:Int→Int):Prop:=∀ n:Int,g n<0↔n<0
theorem ml_errX (hg:Sg g) (x:Ex) (k:Int) (t:Ttl):errX (x.ml g) k t=errX x k t:=by
  have hl:∀ n:Int,decide (g n<0)=decide (n<0):=fun n=>by simp only [hg n]
  unfold errX
  rw [Ex.kind_ml,ml_str,ml_line,ml_form,ml_funcs,hl,
    any_fn _ (fun f=>decide (4096<f.name.size) || f.params.any (fun p=>decide (40<p.size))) (fun f=>by rw [mf_name,mf_params]),
    any_fn _ (fun f=>decide (f.line<0) || !fitsB t f) (fun f=>by rw [mf_line,mf_fits,hl]),
    any_fn _ (fun f=>f.params.any (fun p => !nameB p)) (fun f=>by rw [mf_params])]
theorem ms_errY (hg:Sg g) (s:St) (last:Bool):errY (s.ml g) last=errY s last:=by
  have hl:∀ n:Int,decide (g n<0)=decide (n<0):=fun n=>by simp only [hg n]
  unfold errY;rw [ms_label,ms_names,ms_line,ms_form,ms_kind,hl]
mutual
theorem ml_errT (hg:Sg g) (t:Ttl) (k:Int):∀ x:Ex,errT t k (x.ml g)=errT t k x
  | .mk kd o l p q s a f=>by
    have h:=ml_errX hg (.mk kd o l p q s a f) k t;show alt (errX ((Ex.mk kd o l p q s a f).ml g) k t) (alt (firstE (errTs ttl0 kd (Ex.mls g a))) (firstE (errFs (Fn.mls g f))))=_;rw [h,ml_errTs hg ttl0 kd a,ml_errFs hg f];rfl
theorem ml_errTs (hg:Sg g) (t:Ttl) (k:Int):∀ l:List Ex,errTs t k (Ex.mls g l)=errTs t k l
  | []=>rfl
  | x::r=>by rw [Ex.mls,errTs,errTs,ml_errT hg t k x,ml_errTs hg t k r]
theorem ml_errF (hg:Sg g):∀ f:Fn,errF (f.ml g)=errF f
  | .mk n p v b l=>by rw [Fn.ml,errF,errF,ml_errSs hg b]
theorem ml_errFs (hg:Sg g):∀ l:List Fn,errFs (Fn.mls g l)=errFs l
  | []=>rfl
  | x::r=>by rw [Fn.mls,errFs,errFs,ml_errF hg x,ml_errFs hg r]
theorem ml_errS (hg:Sg g) (last:Bool):∀ s:St,errS last (s.ml g)=errS last s
  | .mk k l n a b c t=>by
    have h:=ms_errY hg (.mk k l n a b c t) last;have h2:=ms_ttl (g:=g) (.mk k l n a b c t);rw [St.ml] at h h2;rw [St.ml,errS,errS,h,h2,ml_errTs hg _ _ a,ml_errTs hg _ _ b,ml_errBs hg c]
theorem ml_errSs (hg:Sg g):∀ l:List St,errSs (St.mls g l)=errSs l
  | []=>rfl
  | x::r=>by
    have h:(St.mls g r).isEmpty=r.isEmpty:=by cases r <;> rfl
    rw [St.mls,errSs,errSs,h,ml_errS hg _ x,ml_errSs hg r]
theorem ml_errBs (hg:Sg g):∀ l:List (List St),errBs (St.mlss g l)=errBs l
  | []=>rfl
  | x::r=>by rw [St.mlss,errBs,errBs,ml_errSs hg x,ml_errBs hg r]
end
mutual
theorem ml_mE:∀ x:Ex,mE (x.ml g)=mE x
  | .mk k o l p q s a f=>by rw [Ex.ml,mE,mE,ml_mEs a,ml_mFs f]
theorem ml_mEs:∀ l:List Ex,mEs (Ex.mls g l)=mEs l
  | []=>rfl
  | x::r=>by rw [Ex.mls,mEs,mEs,ml_mE x,ml_mEs r]
theorem ml_mF:∀ x:Fn,mF (x.ml g)=mF x
  | .mk n p v b l=>by rw [Fn.ml,mF,mF,ml_mSs b]
theorem ml_mFs:∀ l:List Fn,mFs (Fn.mls g l)=mFs l
  | []=>rfl
  | x::r=>by rw [Fn.mls,mFs,mFs,ml_mF x,ml_mFs r]
theorem ml_mS:∀ x:St,mS (x.ml g)=mS x
  | .mk k l n a b c t=>by rw [St.ml,mS,mS,ml_mEs a,ml_mEs b,ml_mBs c]
theorem ml_mSs:∀ l:List St,mSs (St.mls g l)=mSs l
  | []=>rfl
  | x::r=>by rw [St.mls,mSs,mSs,ml_mS x,ml_mSs r]
theorem ml_mBs:∀ l:List (List St),mBs (St.mlss g l)=mBs l
  | []=>rfl
  | x::r=>by rw [St.mlss,mBs,mBs,ml_mSs x,ml_mBs r]
end
mutual
theorem ml_dE:∀ x:Ex,dE (x.ml g)=dE x
  | .mk k o l p q s a f=>by rw [Ex.ml,dE,dE,ml_dEs a,ml_dFs f]
theorem ml_dEs:∀ l:List Ex,dEs (Ex.mls g l)=dEs l
  | []=>rfl
  | x::r=>by rw [Ex.mls,dEs,dEs,ml_dE x,ml_dEs r]
theorem ml_dF:∀ x:Fn,dF (x.ml g)=dF x
  | .mk n p v b l=>by rw [Fn.ml,dF,dF,ml_dSs b]
theorem ml_dFs:∀ l:List Fn,dFs (Fn.mls g l)=dFs l
  | []=>rfl
  | x::r=>by rw [Fn.mls,dFs,dFs,ml_dF x,ml_dFs r]
theorem ml_dS:∀ x:St,dS (x.ml g)=dS x
  | .mk k l n a b c t=>by rw [St.ml,dS,dS,ml_dEs a,ml_dEs b,ml_dBs c]
theorem ml_dSs:∀ l:List St,dSs (St.mls g l)=dSs l
  | []=>rfl
  | x::r=>by rw [St.mls,dSs,dSs,ml_dS x,ml_dSs r]
theorem ml_dBs:∀ l:List (List St),dBs (St.mlss g l)=dBs l
  | []=>rfl
  | x::r=>by rw [St.mlss,dBs,dBs,ml_dSs x,ml_dBs r]
end
theorem ml_check (hg:Sg g) (b:List St):checkV (St.mls g b)=checkV b:=by unfold checkV;rw [ml_mSs,ml_dSs,ml_errSs hg]
end
end Go.Proofs.YtdekaghipjpgpaaGreatDoor
