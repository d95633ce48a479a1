/- Lines do not matter to the form of a tree, but for their sign. -/
import Derived.Test.YtdmdhopfgnlnoaaGreatDoorE1
import Derived.Test.YtdmdhopfgnlnoaaGreatDoorCN
import Derived.Test.YtdmdhopfgnlnoaaGreatDoorX7
namespace Go.Proofs.YtdmdhopfgnlnoaaGreatDoor
open Go.RowKit
set_option linter.unusedVariables false
set_option linter.unusedSimpArgs false
section
variable {g:Int→Int}
theorem ml_has (x:Ex) (a b c:Bool) (n:Int):ZC (x.ml g) a b c n=ZC x a b c n:=by
  unfold ZC;rw [Ex.kind_ml,Uz,ml_p,ml_q,jW,jk,KO,List.length_map,List.length_map]
theorem ml_subj (x:Ex):zg (x.ml g)=zg x:=by
  unfold zg;rw [jk];cases x.args with
  | nil=>rfl
  | cons y r=>simp [Ex.kind_ml]
theorem ml_form (x:Ex) (k:Int):Zn (x.ml g) k=Zn x k:=by
  have h1:(x.args.map (Ex.ml g)).all (fun y=>y.kind==13 || y.kind==14)=x.args.all (fun y=>y.kind==13 || y.kind==14):=by
    rw [List.all_map];congr 1;funext y;simp [Ex.kind_ml]
  unfold Zn;simp only [ml_has,ml_subj,Ex.kind_ml,ml_p,ml_q,Uz,jk,KO,List.length_map,h1];clear h1;generalize x.args=l;cases l with
  | nil=>rfl
  | cons y r=>simp only [List.map_cons,Ex.kind_ml]
theorem mf_fits (t:Ttl) (f:Fn):zn t (f.ml g)=zn t f:=by unfold zn;rw [yx,KZ]
theorem ml_path:∀ x:Ex,Qr (x.ml g)=Qr x
  | .mk k o l p q s [] f=>rfl
  | .mk k o l p q s [x] f=>rfl
  | .mk k o l p q s [x,y] f=>by
    show (if k=7 then some [s] else if k=8 then (if (y.ml g).kind=5∧ZG (y.ml g).str=true then (Qr (x.ml g)).map (·++[(y.ml g).str]) else none) else none)=_;rw [Ex.kind_ml,jW,ml_path x];rfl
  | .mk k o l p q s (x::y::z::r) f=>rfl
theorem ms_ttl (s:St):ZP (s.ml g)=ZP s:=by
  have h:Qr ((s.left.map (Ex.ml g)).headD default)=Qr (s.left.headD default):=by
    cases s.left with
    | nil=>rfl
    | cons x r=>exact ml_path x
  unfold ZP;rw [XJ,jc,XH,ju,List.length_map,List.length_map,h]
theorem any_fn (p q:Fn→Bool) (h:∀ f,p (f.ml g)=q f) (l:List Fn):(l.map (Fn.ml g)).any p=l.any q:=by
  rw [List.any_map];congr 1;funext f;exact h f
theorem ms_form (s:St) (last:Bool):Zp (s.ml g) last=Zp s last:=by
  have h1:∀ a b c d e,Zv (s.ml g) a b c d e=Zv s a b c d e:=fun a b c d e=>by
    unfold Zv;rw [jc,XH,ju,XX,XI,List.length_map,List.length_map,List.length_map]
  have h2:(s.left.map (Ex.ml g)).all (fun x=>x.kind==7 || x.kind==8)=s.left.all (fun x=>x.kind==7 || x.kind==8):=by
    rw [List.all_map];congr 1;funext y;simp [Ex.kind_ml]
  have h3:Zx (s.right.map (Ex.ml g))=Zx s.right:=by
    cases s.right with
    | nil=>rfl
    | cons x r=>exact Ex.kind_ml g x
  unfold Zp;simp only [h1,XJ,jc,XH,ju,XX,List.length_map,h2,h3]
def Sg (g:Int→Int):Prop:=∀ n:Int,g n<0↔n<0
theorem ml_errX (hg:Sg g) (x:Ex) (k:Int) (t:Ttl):Jf (x.ml g) k t=Jf x k t:=by
  have hl:∀ n:Int,decide (g n<0)=decide (n<0):=fun n=>by simp only [hg n]
  unfold Jf
  rw [Ex.kind_ml,jW,ml_line,ml_form,KO,hl,
    any_fn _ (fun f=>decide (4096<f.name.size) || f.params.any (fun p=>decide (40<p.size))) (fun f=>by rw [yx,KZ]),
    any_fn _ (fun f=>decide (f.line<0) || !zn t f) (fun f=>by rw [mf_line,mf_fits,hl]),
    any_fn _ (fun f=>f.params.any (fun p => !ZG p)) (fun f=>by rw [KZ])]
theorem ms_errY (hg:Sg g) (s:St) (last:Bool):VI (s.ml g) last=VI s last:=by
  have hl:∀ n:Int,decide (g n<0)=decide (n<0):=fun n=>by simp only [hg n]
  unfold VI;rw [XI,jc,ms_line,ms_form,XJ,hl]
mutual
theorem ml_errT (hg:Sg g) (t:Ttl) (k:Int):∀ x:Ex,ZH t k (x.ml g)=ZH t k x
  | .mk kd o l p q s a f=>by
    have h:=ml_errX hg (.mk kd o l p q s a f) k t;show Vl (Jf ((Ex.mk kd o l p q s a f).ml g) k t) (Vl (Zf (Kt ttl0 kd (Ex.mls g a))) (Zf (XM (Fn.mls g f))))=_;rw [h,XK hg ttl0 kd a,ml_errFs hg f];rfl
theorem XK (hg:Sg g) (t:Ttl) (k:Int):∀ l:List Ex,Kt t k (Ex.mls g l)=Kt t k l
  | []=>rfl
  | x::r=>by rw [Ex.mls,Kt,Kt,ml_errT hg t k x,XK hg t k r]
theorem ml_errF (hg:Sg g):∀ f:Fn,errF (f.ml g)=errF f
  | .mk n p v b l=>by rw [Fn.ml,errF,errF,Ub hg b]
theorem ml_errFs (hg:Sg g):∀ l:List Fn,XM (Fn.mls g l)=XM l
  | []=>rfl
  | x::r=>by rw [Fn.mls,XM,XM,ml_errF hg x,ml_errFs hg r]
theorem ml_errS (hg:Sg g) (last:Bool):∀ s:St,Qs last (s.ml g)=Qs last s
  | .mk k l n a b c t=>by
    have h:=ms_errY hg (.mk k l n a b c t) last;have h2:=ms_ttl (g:=g) (.mk k l n a b c t);rw [St.ml] at h h2;rw [St.ml,Qs,Qs,h,h2,XK hg _ _ a,XK hg _ _ b,ml_errBs hg c]
theorem Ub (hg:Sg g):∀ l:List St,ZI (St.mls g l)=ZI l
  | []=>rfl
  | x::r=>by
    have h:(St.mls g r).isEmpty=r.isEmpty:=by cases r <;> rfl
    rw [St.mls,ZI,ZI,h,ml_errS hg _ x,Ub hg r]
theorem ml_errBs (hg:Sg g):∀ l:List (List St),yj (St.mlss g l)=yj l
  | []=>rfl
  | x::r=>by rw [St.mlss,yj,yj,Ub hg x,ml_errBs hg r]
end
mutual
theorem ml_mE:∀ x:Ex,mE (x.ml g)=mE x
  | .mk k o l p q s a f=>by rw [Ex.ml,mE,mE,ml_mEs a,ml_mFs f]
theorem ml_mEs:∀ l:List Ex,Yk (Ex.mls g l)=Yk l
  | []=>rfl
  | x::r=>by rw [Ex.mls,Yk,Yk,ml_mE x,ml_mEs r]
theorem ml_mF:∀ x:Fn,mF (x.ml g)=mF x
  | .mk n p v b l=>by rw [Fn.ml,mF,mF,ml_mSs b]
theorem ml_mFs:∀ l:List Fn,mFs (Fn.mls g l)=mFs l
  | []=>rfl
  | x::r=>by rw [Fn.mls,mFs,mFs,ml_mF x,ml_mFs r]
theorem ml_mS:∀ x:St,mS (x.ml g)=mS x
  | .mk k l n a b c t=>by rw [St.ml,mS,mS,ml_mEs a,ml_mEs b,ml_mBs c]
theorem ml_mSs:∀ l:List St,mSs (St.mls g l)=mSs l
  | []=>rfl
  | x::r=>by rw [St.mls,mSs,mSs,ml_mS x,ml_mSs r]
theorem ml_mBs:∀ l:List (List St),mBs (St.mlss g l)=mBs l
  | []=>rfl
  | x::r=>by rw [St.mlss,mBs,mBs,ml_mSs x,ml_mBs r]
end
mutual
theorem ml_dE:∀ x:Ex,dE (x.ml g)=dE x
  | .mk k o l p q s a f=>by rw [Ex.ml,dE,dE,ml_dEs a,ml_dFs f]
theorem ml_dEs:∀ l:List Ex,zZ (Ex.mls g l)=zZ l
  | []=>rfl
  | x::r=>by rw [Ex.mls,zZ,zZ,ml_dE x,ml_dEs r]
theorem ml_dF:∀ x:Fn,dF (x.ml g)=dF x
  | .mk n p v b l=>by rw [Fn.ml,dF,dF,ml_dSs b]
theorem ml_dFs:∀ l:List Fn,JM (Fn.mls g l)=JM l
  | []=>rfl
  | x::r=>by rw [Fn.mls,JM,JM,ml_dF x,ml_dFs r]
theorem ml_dS:∀ x:St,dS (x.ml g)=dS x
  | .mk k l n a b c t=>by rw [St.ml,dS,dS,ml_dEs a,ml_dEs b,ml_dBs c]
theorem ml_dSs:∀ l:List St,VL (St.mls g l)=VL l
  | []=>rfl
  | x::r=>by rw [St.mls,VL,VL,ml_dS x,ml_dSs r]
theorem ml_dBs:∀ l:List (List St),YR (St.mlss g l)=YR l
  | []=>rfl
  | x::r=>by rw [St.mlss,YR,YR,ml_dSs x,ml_dBs r]
end
end
section
variable (g:Int→Int)
theorem Ud (x:Ex):Qb (x.ml g)=Qb x:=by unfold Qb;rw [Ex.kind_ml,Uz]
theorem pref_ml (x:Ex):Qf (x.ml g)=Qf x:=by unfold Qf;rw [Ex.kind_ml]
theorem lft_ml (x a:Ex):zj (x.ml g) (a.ml g)=zj x a:=by unfold zj;rw [Ud,Ud]
theorem rgt_ml (x a:Ex):zN (x.ml g) (a.ml g)=zN x a:=by unfold zN;rw [Ud,Ud]
theorem minus_ml:∀ x:Ex,Qi (x.ml g)=Qi x
  | .mk k o l p q s [] f=>by simp only [Ex.ml,Ex.mls,Qi]
  | .mk k o l p q s (a::r) f=>by
    have h:=minus_ml a;have h2:=lft_ml g (.mk k o l p q s (a::r) f) a;simp only [Ex.ml,Ex.mls] at h2;simp only [Ex.ml,Ex.mls,Qi,h,h2,pref_ml]
theorem opens_ml:∀ x:Ex,ZF (x.ml g)=ZF x
  | .mk k o l p q s [] f=>by simp only [Ex.ml,Ex.mls,ZF]
  | .mk k o l p q s (a::r) f=>by
    have h:=opens_ml a;simp only [Ex.ml,Ex.mls,ZF,h,pref_ml]
theorem named_ml (x:Ex):zt (x.ml g)=zt x:=by unfold zt;rw [Ex.kind_ml,jW]
theorem key_ml (c:Bs) (k:Ex) (t:Bs):qX c (k.ml g) t=qX c k t:=by unfold qX;rw [named_ml,jW]
theorem word_ml (x:Ex):VB (x.ml g)=VB x:=by unfold VB;rw [Ex.kind_ml,Uz]
theorem fn_ml (n:Nat) (f:Fn) (k:Nat) (b:Bs):QT n (f.ml g) k b=QT n f k b:=by cases f;rfl
theorem acc_ml (x:Ex) (ts:List Bs):vL (x.ml g) ts=vL x ts:=by
  unfold vL;rw [jk,Ex.kind_ml,jW];rcases x.args with _|⟨a,_|⟨b,r⟩⟩ <;> rcases ts with _|⟨ta,_|⟨tb,tr⟩⟩ <;> simp only [List.map_cons,List.map_nil,pref_ml,key_ml]
theorem bin_ml (x:Ex) (ts:List Bs):qH (x.ml g) ts=qH x ts:=by
  have h1:∀ a,zj (x.ml g) (a.ml g)=zj x a:=lft_ml g x;have h2:∀ a,zN (x.ml g) (a.ml g)=zN x a:=rgt_ml g x;unfold qH;rw [jk];rcases x.args with _|⟨a,_|⟨b,_|⟨c,r⟩⟩⟩ <;> rcases ts with _|⟨ta,_|⟨tb,_|⟨tc,tr⟩⟩⟩ <;> simp only [List.map_cons,List.map_nil,h1,h2,word_ml]
theorem node_ml (n:Nat) (x:Ex) (ts bs:List Bs):Qj n (x.ml g) ts bs=Qj n x ts bs:=by
  unfold Qj;rw [Ex.kind_ml,ml_p,ml_q,jW,Uz,acc_ml,bin_ml,jk,KO]
  repeat' (first|with_reducible rfl|refine ite_congr rfl (fun _=>?_) (fun _=>?_))
  · rcases x.funcs with _|⟨f,r⟩ <;> rcases bs with _|⟨b,tr⟩ <;> simp only [List.map_cons,List.map_nil,fn_ml]
  · rcases x.args with _|⟨a,_|⟨b,_|⟨c,r⟩⟩⟩ <;> rcases ts with _|⟨ta,_|⟨tb,_|⟨tc,tr⟩⟩⟩ <;> simp only [List.map_cons,List.map_nil,key_ml]
  · rcases x.args with _|⟨a,r⟩ <;> rcases ts with _|⟨ta,tr⟩ <;> simp only [List.map_cons,List.map_nil,Ud,minus_ml]
theorem opd_ml (l:List Ex):ZF ((l.map (Ex.ml g)).headD default)=ZF (l.headD default):=by
  cases l with
  | nil=>rfl
  | cons a r=>exact opens_ml g a
theorem asg_ml (n:Nat) (s:St) (tl tr:List Bs) (br:List (List Bs)):vI n (s.ml g) tl tr br=vI n s tl tr br:=by
  unfold vI;rw [ju,XH,opd_ml];rcases s.right with _|⟨a,_|⟨b,r⟩⟩ <;> rcases br with _|⟨_|⟨b,bs⟩,_|⟨tb,tr⟩⟩ <;> simp only [List.map_cons,List.map_nil]
  rw [KO,Ex.kind_ml];rcases a.funcs with _|⟨f,r⟩ <;> simp only [List.map_cons,List.map_nil,fn_ml,yx]
theorem line_ml (n:Nat) (s:St) (tl tr:List Bs) (br:List (List Bs)) (tb:List Bs):Qy n (s.ml g) tl tr br tb=Qy n s tl tr br tb:=by
  unfold Qy;rw [XJ,jc,XI,asg_ml,ju,opd_ml]
  repeat' (first|with_reducible rfl|refine ite_congr rfl (fun _=>?_) (fun _=>?_))
  rcases s.right with _|⟨a,r⟩ <;> rcases br with _|⟨_|⟨b,bs⟩,tr⟩ <;> simp only [List.map_cons,List.map_nil]
  rw [KO];rcases a.funcs with _|⟨f,r⟩ <;> simp only [List.map_cons,List.map_nil,fn_ml]
mutual
theorem tE_ml (n:Nat):∀ x:Ex,tE n (x.ml g)=tE n x
  | .mk k o l p q s a f=>by
    have h1:=tEs_ml n a;have h2:=tFs_ml n f;have h3:=node_ml g n (.mk k o l p q s a f);simp only [Ex.ml] at h3;simp only [Ex.ml,tE,h1,h2,h3]
theorem tEs_ml (n:Nat):∀ l:List Ex,tEs n (Ex.mls g l)=tEs n l
  | []=>rfl
  | x::r=>by have h1:=tE_ml n x;have h2:=tEs_ml n r;simp only [Ex.mls,tEs,h1,h2]
theorem tFs_ml (n:Nat):∀ l:List Fn,tFs n (Fn.mls g l)=tFs n l
  | []=>rfl
  | x::r=>by have h1:=tF_ml n x;have h2:=tFs_ml n r;simp only [Fn.mls,tFs,h1,h2]
theorem tF_ml (n:Nat):∀ x:Fn,tF n (x.ml g)=tF n x
  | .mk _ _ _ b _=>by have h:=yF (n+1) b;simp only [Fn.ml,tF,h]
theorem tS_ml (n:Nat):∀ x:St,tS n (x.ml g)=tS n x
  | .mk k l ns a b c t=>by
    have h1:=tEs_ml n a;have h2:=tEs_ml n b;have h3:=tBs_ml n c;have h4:=line_ml g n (.mk k l ns a b c t);simp only [St.ml] at h4;simp only [St.ml,tS,h1,h2,h3,h4]
theorem yF (n:Nat):∀ l:List St,Qe n (St.mls g l)=Qe n l
  | []=>rfl
  | x::r=>by have h1:=tS_ml n x;have h2:=yF n r;simp only [St.mls,Qe,h1,h2]
theorem tBs_ml (n:Nat):∀ l:List (List St),tBs n (St.mlss g l)=tBs n l
  | []=>rfl
  | x::r=>by have h1:=yF (n+1) x;have h2:=tBs_ml n r;simp only [St.mlss,tBs,h1,h2]
end
end
theorem distinct_law {a b:List St} (ha:Zf (ZI a)=0) (hb:Zf (ZI b)=0) (la:(Ky a).length≤65536) (lb:(Ky b).length≤65536):Ky a=Ky b↔St.mls Z a=St.mls Z b:=by
  constructor
  · intro h;obtain ⟨c,h1,h2⟩:=yT ha la;obtain ⟨d,h3,h4⟩:=yT hb lb;rw [h] at h1;have h5:=h1.symm.trans h3;cases h5;rw [←Uw a ha,←Uw b hb,←h2,←h4]
  · intro h;have h1:=yF Z 0 a;have h2:=yF Z 0 b;rw [h] at h1;exact h1.symm.trans h2
end Go.Proofs.YtdmdhopfgnlnoaaGreatDoor
