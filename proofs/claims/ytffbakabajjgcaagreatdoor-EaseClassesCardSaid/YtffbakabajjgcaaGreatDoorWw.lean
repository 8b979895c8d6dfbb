/- A part. -/
import Derived.Test.YtffbakabajjgcaaGreatDoorWs
set_option linter.all false
set_option maxRecDepth 100000
set_option maxHeartbeats 16000000
namespace Go.Abs
theorem MY(a b:Nat):(a==b)=((a:Int)==(b:Int)):=by
 by_cases h:a=b
 .simp[h]
 have:(a==b)=false:=by simpa using h
 rw[this];symm;simp;omega
def pcR(F:Nat)(ls:List Let)(av bv:Nat):Option (List Pc):=
 if ((mG ls av true&&mG ls bv false)||(mG ls av false&&mG ls bv true))&&(!((pA ls av).l.id==(pA ls (nx ls av)).l.id)&&
  (((((pA ls bv).l.id==(pA ls av).l.id)&&((pA ls (nx ls bv)).l.id==(pA ls (nx ls av)).l.id))||(((pA ls bv).l.id==(pA ls (nx ls av)).l.id)&&((pA ls (nx ls bv)).l.id==(pA ls av).l.id)))&&
  (!((av+2)%ls.length==bv)&&(!((bv+2)%ls.length==av)&&rV F ls 0 [av,bv] av))))
 then some (O1 (pieces ls) [(pA ls av).l.id,(pA ls (nx ls av)).l.id]) else none
theorem akE{Q:dy}{ak:Env}{aj:aw}{os:List bI}{d:Option Nat}{f id ty z:Nat}{es:List (List PV)}{c:C}(Uu:∀ {al:Al} {aj:aw},es=[]\/al.ok id=true->grown id ty z es (.one c) aj->∃v ao,iw S f [.one c] al aj v ao/\Hy id ty z es c aj v ao)(hg:grown id ty z es (.one c) aj)
  (hK:∀ao,grown id ty z es.reverse (.one c) ao->(∀i,i≠id->ao i=aj i)->RN S .all os Q (put ak d (.tup [])) ao):gP S .all (.sc f [.one c]) d os Q ak aj:=by
 refine tV (P:=Hy id ty z es c aj) zK (Uu ?_ hg) ?_
 .rcases VM hg with ⟨h,_⟩|h
  .exact .inl h
  exact .inr (u9 (by simp[h]))
 rintro v ao ⟨rfl,h1,h2⟩
 exact hK ao h1 h2
abbrev vis(x k:Nat)(sg:Int)(ov:Bool):Pc:=⟨⟨2,0,0,((x+k:Nat):Int),sg,ov⟩,false⟩
abbrev E6(F:Nat)(ls:List Let)(d:Nat):Nat:=(ou F ls).getD d 0
abbrev pmF(x:Nat)(sg:Int)(o:Bool):List Pc:=[vis x 1 sg o,vis x 2 (-sg) o]
abbrev pmS(x:Nat)(sg:Int)(o same:Bool):List Pc:=if same then [vis x 2 (-sg) (!o),vis x 1 sg (!o)] else [vis x 1 sg (!o),vis x 2 (-sg) (!o)]
def pmV(ls:List Let)(av bv:Nat)(l o same other:Bool):Option (List Pc):=
 if !same&& !other then none
 else
  let sg:Int:=if o==(same==l) then 1 else -1
  let first:=pmF (aC Let.aG ls/2) sg o
  let second:=pmS (aC Let.aG ls/2) sg o same
  some (if av<bv then EX (EX (pieces ls) second bv) first av else EX (EX (pieces ls) first av) second bv)
def pmR(F:Nat)(ls:List Let)(av bv:Nat)(l o:Bool):Option (List Pc):=
 if l then pmV ls av bv l o ((E6 F ls (2*bv):Int)==(E6 F ls (2*av):Int)) ((E6 F ls (2*bv+1):Int)==(E6 F ls (2*av):Int))
 else pmV ls av bv l o ((E6 F ls (2*bv+1):Int)==(E6 F ls (2*av+1):Int)) ((E6 F ls (2*bv):Int)==(E6 F ls (2*av+1):Int))
abbrev Lm(F:Nat):V:=.agg [.p (.int .i64 F),.p (.sl [])]
theorem zz:¬(((0:Int))<((0:Nat):Int)):=ae
theorem zm:IntKind.i64.wrap (2*((0:Nat):Int))=((0:Nat):Int):=ae
theorem zr:(0:Nat)<=140737488355328:=ae
theorem zr8:(0:Nat)*8<=140737488355328:=ae
section
variable {F:Nat}
theorem aii(hF:F<=40):di (F:Int) []=0:=by unfold di;rw[ay (by simp[aC]),ay aa,aD rfl]
theorem aqj(hF:F<=40):aF S 35 [Lm F] (Ah (zc F) (.int .i64 0)):=by have pr:=QR F [] (bj _);rw[NG (aii hF),aD rfl] at pr;exact pr
theorem ahO:aF S 137 [.one (.p (zc F))] (.one (.own 4 1 [])):=by refine aV c137 ?_;simp only[go_sem,i137];refine kG ?_;simp only[go_sem,i137_l1,i137_r2,zz];rfl
theorem ajX(hF:F<=40):aF S 112 [Lm F] (.tup [.one (aO tP 5 []),.one (.p (.int .i64 0))]):=by
 have pr:=aqj hF;have hLB:∀aj:aw,land aj [] 7168384064 ((RV.one (.own 4 1 [])).eD (S.lone 7168384064))=some (.one (.hsl 7168384064 ((aj 7168384064).1+1) 1 0 0),[(7168384064,((aj 7168384064).1+1,some (.arr 4 1 [])))]):=by intro aj;rw[show S.lone 7168384064=false by kernel_rfl];rfl
 refine aV c112 ?_;simp only[go_sem,i112,s35,cU pr mw,s137,cU ahO (hLB _),zm,zr];refine kG ?_;simp only[go_sem,i112_l1,i112_r2,zz];rfl
theorem aoJ(hF:F<=40):aF S 76 [Lm F] (Ah (fO F []) (.int .i64 0)):=by
 have pf:=ajX hF;have pps:aF S 113 [Lm F] (ri ((0:Nat):Int)):=Vx F [] (bj _);have pcs:aF S 114 [Lm F] (ri ((0:Nat):Int)):=YJ F [] (bj _);have lo:S.lone 4864064064=false:=ah;have wF:=bN (n:=F) aa;have r2:(F+1)*8<=140737488355328:=aa;have e2:List.replicate (F+1) [PV.int .i64 0]=nP (counts [] F):=by rw[<- SY,eE,SZ];simp
 refine aV c76 ?_;simp only[go_sem,i76,s112];refine aae pf lo fun cf mF vm te=>?_;have Lc:=te 4864000000 ae;simp only[go_sem] at Lc;obtain⟨_,hv⟩|⟨h,_⟩:=vm
 .cases hv;simp only[go_sem,Lc,wF,r2,zm,zr,s113,s114,gV pps,gV pcs,e2];refine⟨aK,?_⟩;refine kG ?_;simp only[go_sem,i76_l1,i76_r6,zz];refine kG ?_;simp only[go_sem,i76_l4,i76_r5,zz];have t2:List.take (F+1) (nP (counts [] F))=nP (counts [] F):=dD (by simp[counts]);have n2:F+1<=(counts [] F).length:=by simp[counts]
  simp only[go_sem,gh,nL,tU,kI,kh,gQ,t2,n2];rfl
 exact absurd rfl h
end
section
variable {F:Nat}
end
abbrev circ(b:Nat):List Let:=[⟨1,b,1,0,0,false⟩,⟨1,b,2,0,0,false⟩]
end Go.Abs
