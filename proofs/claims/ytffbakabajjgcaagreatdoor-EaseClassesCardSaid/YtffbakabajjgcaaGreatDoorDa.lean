/-
  The moves of the document.
-/
import Derived.Test.YtffbakabajjgcaaGreatDoorVb
import Derived.Test.YtffbakabajjgcaaGreatDoorVe
set_option linter.all false
set_option maxRecDepth 100000
set_option maxHeartbeats 16000000
namespace Go.Abs
abbrev stC(F:Nat)(ls:List Let):List C:=[.p (.int .i64 F),.p (cQ ls),.p (.int .i64 ls.length),.p (.sl (jR (dh F ls)))]
abbrev iH(F:Nat)(ls:List Let):V:=.agg (stC F ls)
abbrev Bg(l:Let):RV:=.agg [.p (.int .i64 l.kind),.p (.int .i64 l.gate),.p (.int .i64 l.aE),.p (.int .i64 l.id),.p (.int .i64 l.sign),.p (.bool l.over)]
theorem akV{s1 t1 z1:Nat}{es:List (List PV)}{c:C}{x y w:PV}{aj:aw}(h:grown s1 t1 z1 es (.one c) aj):gh aj (.agg [.p x,.p y,.p w,c])=some (.agg [.p x,.p y,.p w,aO t1 z1 es]):=by obtain⟨c',o,hc,h2,h3⟩:=h.gQ;cases hc;have e1:gQ aj (.p x)=some (.p x,[],[]):=rfl;have e2:gQ aj (.p y)=some (.p y,[],[]):=rfl;have e3:gQ aj (.p w)=some (.p w,[],[]):=rfl;rcases h3 with rfl|rfl<;>simp[gh,nL,kI,kh,h2,e1,e2,e3,apart,sI,pQ]
theorem Vp{F:Nat}{ls:List Let}(g:bQ F ls):aF S 84 [cZ F ls] (.agg [.p (.int .i64 F),.p (cQ ls),.p (.int .i64 ls.length),aO tP 5 (jR (dh F ls))]):=by
 have hF:=g.fing;have pf:=aj1 g.ok aa g.axne;have lo:S.lone 5376192064=false:=ah;have hn:(0:Int)<(ls.length:Int):=by have:=jl.2 g.ne;omega
 refine aV c84 ?_;simp only[go_sem,i84,hn,s127];refine vj pf lo (.inl rfl) fun cc cn gc hb=>?_;have b1:=hb 5376064320 ae;have b2:=hb 5376000064 ae;simp only[go_sem] at b1 b2;simp only[go_sem,b1,b2];exact akV (gc.of_eq ((aR ae).trans (aR ae)))
theorem Gc{F:Nat}{ls:List Let}{e:Nat}(he:e<ls.length)(hl:ls.length<=1000000):aF S 88 [iH F ls,vi e] (ri ((e+1)%ls.length:Nat)):=by have w1:=bN (n:=e) aa;have hz:¬((ls.length:Int)=0):=aa;have tm:=um (e+1) ls.length;refine aV c88 ?_;simp only[go_sem,i88,w1,hz,tm]
theorem OQ{F:Nat}{ls:List Let}{e:Nat}(he:e<ls.length)(hl:ls.length<=1000000):aF S 86 [iH F ls,vi e] (.tup [Bg (lA ls e),Bg (lA ls (nx ls e))]):=by have pe:=Gc (F:=F) he hl;have hm:=ez (e+1) (show 0<ls.length by omega);have h1:=fv (nC he);have h2:=fv (nC hm);refine aV c86 ?_;simp only[go_sem,i86,s88,gV pe,h1,h2,Let.ps];exact⟨aK,rfl⟩
theorem I7(o:List Int)(x:Int)(hl:o.length<=1000000):aF S 129 [.one (.p (.sl (iP o))),vi x] (rb (decide (x∈o))):=by
 refine aV c129 ?_;simp only[go_sem,i129];refine cJ (fun k ak aj=>ak 0=.one (.p (.sl (iP o)))/\ak 1=vi x/\ak 5=vi k/\ ∀j,j<k->o[j]? ≠some x) 0 o.length (bj _) ?_ ?_
 .simp only[go_sem];exact⟨rfl,fun j hj=>absurd hj (mT j)⟩
 rintro k ak aj hk ⟨h0,h1,h5,hn⟩
 by_cases aq:k<o.length
 .have aL:((k:Int)<(o.length:Int)):=aa;obtain⟨y,hy⟩:=aM aq;have jX:=yp hy;have w1:=bN (n:=k) aa;by_cases hb:y=x
  .subst hb;have hc:decide (y∈o)=true:=by simpa using aW hy
   simp only[go_sem,i129_l1,h0,h1,h5,aL,jX,hc]
  have qj:=(vh hb).1;have GK:∀j,j<k+1->o[j]? ≠some x:=fun j hj=>by
   rcases lL.1 hj with h|rfl
   .exact hn j h
   rw[hy];intro h;cases h;exact hb rfl
  simp only[go_sem,i129_l1,h0,h1,h5,aq,aL,jX,qj,w1];exact GK
 have:k=o.length:=aa;subst this;have hc:decide (x∈o)=false:=by simp only[decide_eq_false_iff_not];intro hm;obtain⟨j,hj⟩:=jd hm;exact absurd hj (hn j (bg.1 hj).1)
 simp only[go_sem,i129_l1,i129_r2,h0,h5,dG,hc]
theorem amk(o:List Nat):nP o=iP (o.map fun n:Nat=>(n:Int)):=by simp[yL]
theorem Pt(o:List Nat)(x:Nat)(hl:o.length<=1000000):aF S 129 [.one (.p (.sl (nP o))),vi x] (rb (decide (x∈o))):=by
 have:=I7 (o.map fun n:Nat=>(n:Int)) x (by rw[cH];exact hl);rw[amk];rw[show decide ((x:Int)∈o.map fun n:Nat=>(n:Int))=decide (x∈o) by
  rw[decide_eq_decide,dI];constructor
  .rintro ⟨a,h,e⟩
   have:a=x:=aa;exact this▸h
  exact fun h=>⟨x,h,rfl⟩] at this
 exact this
theorem CV{F:Nat}{ls:List Let}(i:Int):aF S 217 [iH F ls,vi i] (rb (iX ls.length i)):=by
 refine aV c217 ?_;unfold iX;by_cases h1:0<=i
 .by_cases h2:i<(ls.length:Int)
  .simp only[go_sem,i217,h1,h2]
  simp only[go_sem,i217,h1,h2]
 simp only[go_sem,i217,h1]
def Dc(a b:Let):Bool:=(a.kind==1)&&((b.kind==1)&&((a.gate==b.gate)&&((a.aE==b.aE+1)||(b.aE==a.aE+1))))
abbrev rkB(a:Let):Prop:= -1000000<=a.aE/\a.aE<=1000000
theorem acY(a b:Let)(ha:rkB a)(hb:rkB b):aF S 219 [w7 a,w7 b] (rb (Dc a b)):=by
 have wa:IntKind.i64.wrap (a.aE+1)=a.aE+1:=rM (by have:=ha.1;omega) (by have:=ha.2;omega);have wb:IntKind.i64.wrap (b.aE+1)=b.aE+1:=rM (by have:=hb.1;omega) (by have:=hb.2;omega);unfold Dc;refine aV c219 ?_;simp only[go_sem,i219];repeat' ((first|apply qX|apply qW|apply qQ|apply qP|apply qN|apply qM)<;>intro he<;>simp only[go_sem, *])
 all_goals(first|done|exact aK|exact⟨aK,rfl⟩|rfl)
theorem Qh{aj:aw}{s:Nat}{l:Bool}(a b:Let):land aj [] s ((RV.tup [Bg a,Bg b]).eD l)=some (.tup [w7 a,w7 b],[]):=by cases l<;>rfl
theorem Fa{aj:aw}{s:Nat}{l:Bool}(a b:Let)(x:Bool):land aj [] s ((RV.tup [Bg a,Bg b,.one (.p (.bool x))]).eD l)=some (.tup [w7 a,w7 b,vb x],[]):=by cases l<;>rfl
def iE(ls:List Let)(e:Nat):Let×Let×Bool:=if (lA ls e).kind==1 then (lA ls (nx ls e),lA ls e,((lA ls (nx ls e)).kind==2)&&((lA ls e).kind==1)) else (lA ls e,lA ls (nx ls e),((lA ls e).kind==2)&&((lA ls (nx ls e)).kind==1))
def tL(ls:List Let)(e:Nat):Bool:=((lA ls e).kind==2)&&((lA ls (nx ls e)).kind==2)
def Fg(ls:List Let)(e:Nat):Int:=(if (lA ls e).over then 1 else 0)+(if (lA ls (nx ls e)).over then 1 else 0)
section
variable {F:Nat} {ls:List Let}
theorem Qo{e:Nat}(he:e<ls.length)(hl:ls.length<=1000000):aF S 91 [iH F ls,vi e] (.tup [Bg (iE ls e).1,Bg (iE ls e).2.1,.one (.p (.bool (iE ls e).2.2))]):=by
 have pb:=OQ (F:=F) he hl;unfold iE;generalize lA ls e=A at pb ⊢;generalize lA ls (nx ls e)=B at pb ⊢;refine aV c91 ?_;cases hk:(A.kind==1) with
 |true=>
  rw[aD rfl];simp only[go_sem,i91,s86,cU pb (Qh _ _),hk];repeat' ((first|apply qX|apply qW|apply qQ|apply qP|apply qN|apply qM)<;>intro he<;>simp only[go_sem, *])
  all_goals(first|done|exact aK|exact⟨aK,rfl⟩|rfl)
 |false=>
  rw[ay ae];simp only[go_sem,i91,s86,cU pb (Qh _ _),hk];repeat' ((first|apply qX|apply qW|apply qQ|apply qP|apply qN|apply qM)<;>intro he<;>simp only[go_sem, *])
  all_goals(first|done|exact aK|exact⟨aK,rfl⟩|rfl)
theorem OW{e:Nat}(he:e<ls.length)(hl:ls.length<=1000000):aF S 221 [iH F ls,vi e] (.tup [Bg (lA ls e),Bg (lA ls (nx ls e)),.one (.p (.bool (tL ls e)))]):=by
 have pb:=OQ (F:=F) he hl;unfold tL;generalize lA ls e=A at pb ⊢;generalize lA ls (nx ls e)=B at pb ⊢;refine aV c221 ?_;simp only[go_sem,i221,s86,cU pb (Qh _ _)];repeat' ((first|apply qX|apply qW|apply qQ|apply qP|apply qN|apply qM)<;>intro he<;>simp only[go_sem, *])
 all_goals(first|done|exact aK|exact⟨aK,rfl⟩|rfl)
theorem anL{e:Nat}(he:e<ls.length)(hl:ls.length<=1000000):aF S 251 [iH F ls,vi e] (ri (Fg ls e)):=by
 have pb:=OQ (F:=F) he hl;unfold Fg;generalize lA ls e=A at pb ⊢;generalize lA ls (nx ls e)=B at pb ⊢;have w0:IntKind.i64.wrap (0+1)=1:=ae;have w1:IntKind.i64.wrap (1+1)=2:=ae;refine aV c251 ?_;cases ha:A.over<;>cases hb:B.over<;>simp only[go_sem,i251,s86,cU pb (Qh _ _),ha,hb]
 all_goals rfl
end
abbrev kB(s:ByteArray):V:=.one (.p (.str s))
abbrev Ko(s:ByteArray):RV:=.one (.p (.str s))
theorem afy:aF S 124 [vi 1] (Ko ⟨#[65]⟩):=pW S 20 ah
theorem afz:aF S 124 [vi 3] (Ko ⟨#[65,66]⟩):=pW S 20 ah
theorem afA:aF S 124 [vi 4] (Ko ⟨#[65]⟩):=pW S 20 ah
theorem afB:aF S 124 [vi 6] (Ko ⟨#[65,66]⟩):=pW S 20 ah
theorem afC:aF S 124 [vi 8] (Ko ⟨#[65,66,67]⟩):=pW S 20 ah
theorem JY:aF S 125 [kB ⟨#[65]⟩,.one (.p (.int .u8 66))] (rb false):=pW S 30 ah
theorem QD:aF S 125 [kB ⟨#[65]⟩,.one (.p (.int .u8 67))] (rb false):=pW S 30 ah
theorem QE:aF S 125 [kB ⟨#[65]⟩,.one (.p (.int .u8 76))] (rb false):=pW S 30 ah
theorem QF:aF S 125 [kB ⟨#[65]⟩,.one (.p (.int .u8 79))] (rb false):=pW S 30 ah
theorem adK:aF S 125 [kB ⟨#[65]⟩,.one (.p (.int .u8 83))] (rb false):=pW S 30 ah
theorem JZ:aF S 125 [kB ⟨#[65,66]⟩,.one (.p (.int .u8 66))] (rb true):=pW S 30 ah
theorem Ka:aF S 125 [kB ⟨#[65,66]⟩,.one (.p (.int .u8 67))] (rb false):=pW S 30 ah
theorem QB:aF S 125 [kB ⟨#[65,66]⟩,.one (.p (.int .u8 76))] (rb false):=pW S 30 ah
theorem QC:aF S 125 [kB ⟨#[65,66]⟩,.one (.p (.int .u8 79))] (rb false):=pW S 30 ah
theorem adJ:aF S 125 [kB ⟨#[65,66]⟩,.one (.p (.int .u8 83))] (rb false):=pW S 30 ah
theorem Vv:aF S 125 [kB ⟨#[65,66,67]⟩,.one (.p (.int .u8 66))] (rb true):=pW S 30 ah
theorem Vw:aF S 125 [kB ⟨#[65,66,67]⟩,.one (.p (.int .u8 67))] (rb true):=pW S 30 ah
theorem adH:aF S 125 [kB ⟨#[65,66,67]⟩,.one (.p (.int .u8 76))] (rb false):=pW S 30 ah
theorem adI:aF S 125 [kB ⟨#[65,66,67]⟩,.one (.p (.int .u8 79))] (rb false):=pW S 30 ah
theorem aoX:aF S 125 [kB ⟨#[65,66,67]⟩,.one (.p (.int .u8 83))] (rb false):=pW S 30 ah
theorem neA:BS .eql ⟨#[65]⟩ ⟨#[]⟩=some (.bool false):=ah
theorem acW:BS .eql ⟨#[65,66]⟩ ⟨#[]⟩=some (.bool false):=ah
theorem aov:BS .eql ⟨#[65,66,67]⟩ ⟨#[]⟩=some (.bool false):=ah
theorem not_lt{a b:Int}:decide (a<b)= !decide (b<=a):=by
 by_cases h:a<b
 .have:¬b<=a:=aa;simp[h,this]
 have:b<=a:=aa;simp[h,this]
section
variable {F:Nat} {ls:List Let} {a b c:Int} {l o:Bool} {sg:Int}
theorem atH(hl:ls.length<=1000000):aF S 191 [iH F ls,fE 1 a b c l o sg] (rb (!bY F ls 1 a b c l o sg)):=by
 unfold bY;simp only[Int.reduceEq,if_true,if_false,or_false,or_self,not_lt];refine aV c191 ?_;simp only[go_sem,i191,s124,vk afy,neA,s125,bh JY,bne];repeat' ((first|apply qX|apply qW|apply qQ|apply qP|apply qN|apply qM)<;>intro he<;>simp only[go_sem, *,s125,bh JY,bh QD,bh QE,bh QF,bh adK,s217,bh (CV a),bne])
 all_goals(first|done|exact aK|exact⟨aK,rfl⟩|rfl)
theorem atJ(hl:ls.length<=1000000):aF S 191 [iH F ls,fE 4 a b c l o sg] (rb (!bY F ls 4 a b c l o sg)):=by
 unfold bY;simp only[Int.reduceEq,if_true,if_false,or_false,or_true,or_self,not_lt];refine aV c191 ?_;simp only[go_sem,i191,s124,vk afA,neA,s125,bh JY,bne];repeat' ((first|apply qX|apply qW|apply qQ|apply qP|apply qN|apply qM)<;>intro he<;>simp only[go_sem, *,s125,bh JY,bh QD,bh QE,bh QF,bh adK,s217,bh (CV a),bne])
 all_goals(first|done|exact aK|exact⟨aK,rfl⟩|rfl)
end
section
variable {F:Nat} {ls:List Let} {a b c:Int} {l o:Bool} {sg:Int}
theorem atI(hl:ls.length<=1000000):aF S 191 [iH F ls,fE 3 a b c l o sg] (rb (!bY F ls 3 a b c l o sg)):=by
 unfold bY;simp only[Int.reduceEq,if_true,if_false,or_false,or_self,not_lt];refine aV c191 ?_;simp only[go_sem,i191,s124,vk afz,acW,s125,bh JZ,bh Ka,bne];repeat' ((first|apply qX|apply qW|apply qQ|apply qP|apply qN|apply qM)<;>intro he<;>simp only[go_sem, *,s125,bh JZ,bh Ka,bh QB,bh QC,bh adJ,s217,bh (CV a),bh (CV b),bne])
 all_goals(first|done|exact aK|exact⟨aK,rfl⟩|rfl)
theorem atK(hl:ls.length<=1000000):aF S 191 [iH F ls,fE 6 a b c l o sg] (rb (!bY F ls 6 a b c l o sg)):=by
 unfold bY;simp only[Int.reduceEq,if_true,if_false,or_true,or_self,not_lt];refine aV c191 ?_;simp only[go_sem,i191,s124,vk afB,acW,s125,bh JZ,bh Ka,bne];repeat' ((first|apply qX|apply qW|apply qQ|apply qP|apply qN|apply qM)<;>intro he<;>simp only[go_sem, *,s125,bh JZ,bh Ka,bh QB,bh QC,bh adJ,s217,bh (CV a),bh (CV b),bne])
 all_goals(first|done|exact aK|exact⟨aK,rfl⟩|rfl)
end
section
variable {F:Nat} {ls:List Let} {a b c:Int} {l o:Bool} {sg:Int}
theorem atL(hl:ls.length<=1000000):aF S 191 [iH F ls,fE 8 a b c l o sg] (rb (!bY F ls 8 a b c l o sg)):=by
 unfold bY;simp only[Int.reduceEq,if_true,if_false,or_self,not_lt];refine aV c191 ?_;simp only[go_sem,i191,s124,vk afC,aov,s125,bh Vv,bh Vw,bh adH];repeat' ((first|apply qX|apply qW|apply qQ|apply qP|apply qN|apply qM)<;>intro he<;>simp only[go_sem, *,s125,bh Vv,bh Vw,bh adI,bh aoX,s217,bh (CV a),bh (CV b),bh (CV c),bne])
 all_goals(first|done|exact aK|exact⟨aK,rfl⟩|rfl)
end
section
variable {F:Nat} {ls:List Let}
theorem agU(f:Nat->Bool)(l:List Nat)(k e:Nat)(h:l[k]?=some e):(l.take (k+1)).all f=((l.take k).all f&&f e):=by rw[iu,h];simp
abbrev Hp(f:Fc)(e:Nat):Bool:= !(decide (2*e∈f.bl)==decide (2*e+1∈f.bl))
theorem Vr(g:bQ F ls)(pl:Nat)(es:List Nat)(kA:∀e∈es,e<ls.length)(de:es.length<=1000):aF S 250 [iH F ls,.one (.p (.sl (nP es))),vi pl] (rb (vJ F ls pl es)):=by
 have hlen:=g.len;have uI:(dh F ls).length<=1000000:=by have h1:=g.nw;have h2:=oU Let.aJ ls;have h3:=oU Let.aG ls;rw[Tm];omega
 refine aV c250 ?_;simp only[go_sem,i250];refine cJ (fun i ak aj=>ak 1=.one (.p (.sl (nP es)))/\ak 2=vi pl/\ak 3=.one (.aX 16000000000 1 0)/\ak 7=vi i/\aj 16000000000=(1,some (.var (stC F ls)))/\ ∀j f,j<i->(dh F ls)[j]?=some f->Bj pl es f=false) 0 (dh F ls).length (bj _) ?_ ?_
 .simp only[go_sem];exact⟨rfl,fun j f hj=>absurd hj (mT j)⟩
 rintro i ak aj hi ⟨h1,h2,h3,h7,b0,hn⟩
 by_cases aq:i<(dh F ls).length
 .have aL:((i:Int)<((dh F ls).length:Int)):=aa;obtain⟨f,hf⟩:=aM aq;have jX:=Pa hf;have w1:=bN (n:=i) aa;have Cr:f.bl.length<=1000000:=by
   have h9:f.bl.length<=2*ls.length+2*(aB ls).length:=O9 g.ok (aW hf);have jF:(aB ls).length<=ls.length:=sX ls ls.length;omega
  have EK:Bj pl es f=((((f.bl.length:Int)==(es.length:Int))&&((f.places.length:Int)==(pl:Int)))&&es.all (Hp f)):=by unfold Bj;rw[MY,MY,WC]
  generalize Ew:(((f.bl.length:Int)==(es.length:Int))&&((f.places.length:Int)==(pl:Int)))=c0 at EK;have key:∀ft cn g1,ft 1=.one (.p (.sl (nP es)))->ft 2=vi pl->ft 3=.one (.aX 16000000000 1 0)->ft 7=vi i->cn 16000000000=(1,some (.var (stC F ls)))->ft 8=.one (.aX 16000256320 g1 0)->ft 9=vb c0->ft 10=vi 0->cn 16000256320=(g1,some (.var [.p (.bool f.fi),.p (.sl (nP f.bl)),.p (.sl (dN f.places)),.p (.sl (nP f.tQ)),.p (.bool f.outer)]))->
    W S .all (.loop i250_l1) (lN 2 (xu S .all i250_r2 (lN 1 (xu S .all i250_r3 (Hk (dh F ls).length (fun i ak aj=>ak 1=.one (.p (.sl (nP es)))/\ak 2=vi pl/\ak 3=.one (.aX 16000000000 1 0)/\ak 7=vi i/\aj 16000000000=(1,some (.var (stC F ls)))/\ ∀j f,j<i->(dh F ls)[j]?=some f->Bj pl es f=false) i (lN 0 (xu S .all i250_r5 (qS .all [(6,none)] fun v aj=>gh aj v=some (rb (vJ F ls pl es)))))))))) ft cn:=by
   intro ft cn g1 k1 k2 k3 k7 kb k8 k9 JE k8b;refine cJ (fun k ak aj=>ak 1=.one (.p (.sl (nP es)))/\ak 2=vi pl/\ak 3=.one (.aX 16000000000 1 0)/\ak 7=vi i/\aj 16000000000=(1,some (.var (stC F ls)))/\ak 8=.one (.aX 16000256320 g1 0)/\ak 9=vb (c0&&(es.take k).all (Hp f))/\ak 10=vi k/\aj 16000256320=(g1,some (.var [.p (.bool f.fi),.p (.sl (nP f.bl)),.p (.sl (dN f.places)),.p (.sl (nP f.tQ)),.p (.bool f.outer)]))) 0 es.length (bj _) ⟨k1,k2,k3,k7,kb,k8,by rw[k9];simp,JE,k8b⟩ ?_;rintro k dp ba hk ⟨k1,k2,k3,k7,kb,k8,k9,JE,k8b⟩
   by_cases Ub:k<es.length
   .have aaW:((k:Int)<(es.length:Int)):=aa;obtain⟨e,he⟩:=aM Ub;have Ct:=kA e (aW he);have uK:=iF he;have wk:=bN (n:=k) aa;have m2:=sL (a:=e) aa;have m3:=bN (n:=2*e) aa;have p1:=Pt f.bl (2*e) Cr;have p2:=Pt f.bl (2*e+1) Cr;have hs:=agU (Hp f) es k e he;generalize (es.take k).all (Hp f)=x at k9 hs;cases hcx:(c0&&x) with
    |false=>
     rw[hcx] at k9;have hv:(c0&&(x&&Hp f e))=false:=by rw[<- WC,hcx];rfl
     simp only[go_sem,i250_l1,k1,k2,k3,k7,kb,k8,k9,JE,k8b,Ub,aaW,wk,hs,hv];exact aK
    |true=>
     rw[hcx] at k9;have hv:(c0&&(x&&Hp f e))=Hp f e:=by rw[<- WC,hcx];rfl
     simp only[go_sem,i250_l1,k1,k2,k3,k7,kb,k8,k9,JE,k8b,Ub,aaW,wk,hs,hv,uK,m2,m3,s129,kW p1,kW p2];exact aK
   have:k=es.length:=aa;subst this;rw[kE,<- EK] at k9;cases hv:Bj pl es f with
   |true=>have ha:vJ F ls pl es=true:=FO.2 ⟨f,aW hf,hv⟩;rw[hv] at k9;simp only[go_sem,i250_l1,i250_r2,k1,k9,JE,dG,ha]
   |false=>
    rw[hv] at k9;simp only[go_sem,i250_l1,i250_r2,i250_r3,k1,k2,k3,k7,kb,k9,JE,dG,w1,aq];intro j f' hj EB;rcases lL.1 hj with h|rfl
    .exact hn j f' h EB
    rw[hf] at EB;cases EB;exact hv
  cases hA:((f.bl.length:Int)==(es.length:Int)) with
  |false=>rw[hA] at Ew;simp only[Oa] at Ew;subst Ew;simp only[go_sem,i250_l4,h1,h3,h7,b0,aL,jX,Fc.ps,hA];refine key _ _ ((aj 16000256320).1+1) ?_ ?_ ?_ ?_ ?_ ?_ ?_ ?_ ?_ <;>simp only[go_sem,h1,h2,h3,h7,b0]
  |true=>rw[hA] at Ew;simp only[xx] at Ew;simp only[go_sem,i250_l4,h1,h2,h3,h7,b0,aL,jX,Fc.ps,hA,Ew];refine key _ _ ((aj 16000256320).1+1) ?_ ?_ ?_ ?_ ?_ ?_ ?_ ?_ ?_ <;>simp only[go_sem,h1,h2,h3,h7,b0]
 have:i=(dh F ls).length:=aa;subst this;have ha:vJ F ls pl es=false:=by
  cases h:vJ F ls pl es with
  |false=>rfl
  |true=>obtain⟨f,hf,h2⟩:=FO.1 h;obtain⟨j,hj⟩:=jd hf;rw[hn j f (bg.1 hj).1 hj] at h2;cases h2
 simp only[go_sem,i250_l4,i250_r5,h3,h7,b0,dG,ha]
end
section
variable {F:Nat} {ls:List Let}
theorem QT(g:bQ F ls){i:Nat}(h:i<ls.length):rkB (lA ls i):=by have hp:=pP (nC h);exact aqe g _ (aW hp)
theorem Hm{e:Nat}(he:e<ls.length):nx ls e<ls.length:=ez _ aa
theorem acM(g:bQ F ls){e:Nat}(he:e<ls.length):rkB (iE ls e).2.1:=by
 unfold iE;split
 .exact QT g he
 exact QT g (Hm he)
def Hz(F:Nat)(ls:List Let)(a b:Nat):Bool:=(iE ls a).2.2&&((iE ls b).2.2&&(((iE ls a).1.id==(iE ls b).1.id)&&(!((iE ls a).1.over==(iE ls b).1.over)&&(Dc (iE ls a).2.1 (iE ls b).2.1&&vJ F ls 1 [a,b]))))
theorem arS(g:bQ F ls){av bv:Nat}(ha:av<ls.length)(hb:bv<ls.length):aF S 220 [iH F ls,vi av,vi bv] (rb (Hz F ls av bv)):=by
 have hlen:=g.len;have pa:=Qo (F:=F) ha aa;have pb:=Qo (F:=F) hb aa;have pn:=acY _ _ (acM g ha) (acM g hb);have po:=Vr g 1 [av,bv] (by simp;omega) af;simp only[fy,pV] at po;have c1:((1:Nat):Int)=1:=rfl;rw[c1] at po;unfold Hz;generalize iE ls av=M at*;generalize iE ls bv=K at*;obtain⟨x,p,is⟩:=M;obtain⟨y,q,too⟩:=K;simp only at pa pb pn po ⊢;refine aV c220 ?_;simp only[go_sem,i220,s91,cU pa (Fa _ _ _),cU pb (Fa _ _ _)];repeat' ((first|apply qX|apply qW|apply qQ|apply qP|apply qN|apply qM)<;>intro he<;>simp only[go_sem, *,s219,bh pn,s250,bh po])
 all_goals(first|done|exact aK|exact⟨aK,rfl⟩|rfl)
def dpR(F:Nat)(ls:List Let)(a b:Nat):Bool:=
 tL ls a&&(tL ls b&&(!((lA ls a).id==(lA ls (nx ls a)).id)&&(!((((a+2)%ls.length:Nat):Int)==(b:Int))&&(!((((b+2)%ls.length:Nat):Int)==(a:Int))&&
  (((((lA ls a).id==(lA ls b).id)&&((lA ls (nx ls a)).id==(lA ls (nx ls b)).id))||(((lA ls a).id==(lA ls (nx ls b)).id)&&((lA ls (nx ls a)).id==(lA ls b).id)))&&
   (((lA ls a).over==(lA ls (nx ls a)).over)&&(((lA ls b).over==(lA ls (nx ls b)).over)&&(!((lA ls a).over==(lA ls b).over)&&vJ F ls 0 [a,b]))))))))
theorem aoU(g:bQ F ls){av bv:Nat}(ha:av<ls.length)(hb:bv<ls.length):aF S 222 [iH F ls,vi av,vi bv] (rb (dpR F ls av bv)):=by
 have hlen:=g.len;have pa:=OW (F:=F) ha aa;have pb:=OW (F:=F) hb aa;have po:=Vr g 0 [av,bv] (by simp;omega) af;simp only[fy,pV] at po;have c1:((0:Nat):Int)=0:=rfl;rw[c1] at po;have hz:¬((ls.length:Int)=0):=aa;have e2w:IntKind.i64.wrap ((av:Int)+2)=((av+2:Nat):Int):=(rM (x:=(av:Int)+2) aa aa).trans aa;have e2m:=um (av+2) ls.length;have e3w:IntKind.i64.wrap ((bv:Int)+2)=((bv+2:Nat):Int):=(rM (x:=(bv:Int)+2) aa aa).trans aa;have e3m:=um (bv+2) ls.length;unfold dpR;generalize tL ls av=is at*;generalize tL ls bv=too at*;generalize lA ls av=x at*;generalize lA ls (nx ls av)=y at*;generalize lA ls bv=u at*;generalize lA ls (nx ls bv)=v at*;refine aV c222 ?_
 simp only[go_sem,i222,s221,cU pa (Fa _ _ _),cU pb (Fa _ _ _)];repeat' ((first|apply qX|apply qW|apply qQ|apply qP|apply qN|apply qM)<;>intro he<;>simp only[go_sem, *,s250,bh po])
 all_goals(first|done|exact aK|exact⟨aK,rfl⟩|rfl)
end
section
variable {F:Nat} {ls:List Let}
def fV(l:List Int)(x:Int):List Int:=if x∈l then l else l++[x]
def zR(ls:List Let)(l:List Int)(e:Nat):List Int:=fV (fV l (lA ls e).id) (lA ls (nx ls e)).id
def uk(ls:List Let)(es:List Nat):List Nat:=es.flatMap fun e=>[e,nx ls e]
def qH(ls:List Let)(es:List Nat):List Int:=es.map (Fg ls)
def jL(ls:List Let)(es:List Nat):List Int:=es.foldl (zR ls) []
def Ak(ls:List Let)(es:List Nat)(j:Nat):Bool:=match es[j]? with|some e=>tL ls e&&(!decide (e∈uk ls (es.take j))&& !decide (nx ls e∈uk ls (es.take j)))|none=>true
def Dt(F:Nat)(ls:List Let)(es:List Nat):Bool:=(List.range es.length).all (Ak ls es)&&(((jL ls es).length==3)&&(decide ((2:Int)∈qH ls es)&&(decide ((0:Int)∈qH ls es)&&vJ F ls 0 es)))
theorem Wk(es:List Nat):(uk ls es).length=2*es.length:=by
 unfold uk
 induction es with
 |nil=>rfl
 |cons a r ih=>rw[DC,eG,ih,cS];simp;omega
theorem amm(l:List Int)(e:Nat):(zR ls l e).length<=l.length+2:=by
 unfold zR fV;repeat' split
 all_goals simp
theorem Ku(es:List Nat):(jL ls es).length<=2*es.length:=by
 unfold jL;have:∀(es:List Nat) (l:List Int),(es.foldl (zR ls) l).length<=l.length+2*es.length:=by
  intro es
  induction es with
  |nil=>intro l;simp
  |cons a r ih=>intro l;have h1:=ih (zR ls l a);have h2:=amm (ls:=ls) l a;simp only[uY,cS];omega
 have:=this es []
 simpa using this
theorem asT(g:bQ F ls){av bv cv:Nat}(ha:av<ls.length)(hb:bv<ls.length)(hc:cv<ls.length):aF S 223 [iH F ls,vi av,vi bv,vi cv] (rb (Dt F ls [av,bv,cv])):=by
 have hlen:=g.len;have kA:∀e∈[av,bv,cv],e<ls.length:=fun e h=>by simp at h;rcases h with rfl|rfl|rfl<;>assumption
 have po:=Vr g 0 [av,bv,cv] kA af;have c1:((0:Nat):Int)=0:=rfl;rw[c1] at po;have GL:nP [av,bv,cv]=[[.int .i64 av],[.int .i64 bv],[.int .i64 cv]]:=rfl;generalize hE:[av,bv,cv]=es at*;have de:es.length=3:=by rw[<- hE];rfl
 refine aV c223 ?_;simp only[go_sem,i223];refine cJ (fun j ak aj=>ak 4=.one (.aX 14272000000 1 0)/\ak 9=.one (.hsl 14272064192 1 1 0 3)/\ak 13=vi j/\aj 14272000000=(1,some (.var (stC F ls)))/\aj 14272064192=(1,some (.arr 3 1 (nP es)))/\(∀i,i<j->Ak ls es i=true)/\
  ∃c10 c11 c12,∃s11,ak 10=.one c10/\ak 11=.one c11/\ak 12=.one c12/\(s11=14272832256\/s11=14272960256)/\grown 14272640768 3 1 (nP (uk ls (es.take j))) (.one c10) aj/\grown s11 3 1 (iP (jL ls (es.take j))) (.one c11) aj/\grown 14272704512 3 1 (iP (qH ls (es.take j))) (.one c12) aj) 0 3 (bj _) ?_ ?_
 .simp only[go_sem];exact⟨rfl,by rw[GL],fun i hi=>absurd hi (mT i),_,_,_,14272832256,rfl,rfl,rfl,.inl rfl,grown.nil,grown.nil,grown.nil⟩
 rintro j ak aj hj ⟨h4,h9,ta,b0,b9,au,c10,c11,c12,s11,fP,ie,kY,zP,g10,g11,g12⟩
 have nu:(es.take j).length<=3:=by rw[gT];omega
 by_cases aq:j<3
 .have aL:((j:Int)<3):=aa;obtain⟨e,he⟩:=aM (ls:=es) (k:=j) aa;have Ct:=kA e (aW he);have uK:=iF he;have w1:=bN (n:=j) aa;have pc:=OW (F:=F) Ct aa;have pe:=Gc (F:=F) Ct aa;have pl:=anL (F:=F) Ct aa;have p1:=Pt (uk ls (es.take j)) e (by rw[Wk];omega);have p2:=Pt (uk ls (es.take j)) (nx ls e) (by rw[Wk];omega);obtain⟨r10,VW,Ut⟩:=g10.Aj;have AZ:Ak ls es j=(tL ls e&&(!decide (e∈uk ls (es.take j))&& !decide (nx ls e∈uk ls (es.take j)))):=by unfold Ak;rw[he]
  have dr:Ak ls es j=false->Dt F ls es=false:=fun h=>by
   have:(List.range es.length).all (Ak ls es)=false:=by
    cases hh:(List.range es.length).all (Ak ls es) with
    |false=>rfl
    |true=>rw[ir.1 hh j (fg.2 aa)] at h;cases h
   unfold Dt;rw[this];rfl
  cases cr:tL ls e with
  |false=>rw[cr] at AZ;rw[dr AZ];rw[cr] at pc;simp only[go_sem,i223_l1,h4,h9,ta,b0,b9,aq,aL,uK,s221,mH pc (Fa _ _ _)];first|done|exact aK|exact⟨aK,rfl⟩|exact⟨aK,aK,rfl⟩
  |true=>
   rw[cr] at AZ pc;cases m1:decide (e∈uk ls (es.take j)) with
   |true=>rw[m1] at AZ p1;rw[dr AZ];simp only[go_sem,i223_l1,h4,h9,fP,ta,b0,b9,aq,aL,uK,VW,s221,mH pc (Fa _ _ _),s129,kW p1];refine⟨aK,?_⟩;rcases Ut with rfl|rfl<;>exact aK
   |false=>
    rw[m1] at AZ p1;cases m2:decide (nx ls e∈uk ls (es.take j)) with
    |true=>rw[m2] at AZ p2;rw[dr AZ];simp only[go_sem,i223_l1,h4,h9,fP,ta,b0,b9,aq,aL,uK,VW,s221,mH pc (Fa _ _ _),s129,kW p1,kW p2,s88,gV pe];refine⟨aK,?_⟩;rcases Ut with rfl|rfl<;>exact aK
    |false=>
     rw[m2] at AZ p2;simp only[go_sem,i223_l1,h4,h9,fP,ta,b0,b9,aq,aL,uK,VW,s221,mH pc (Fa _ _ _),s129,kW p1,kW p2,s88,gV pe];refine⟨aK,?_,?_⟩
     .rcases Ut with rfl|rfl<;>exact aK
     have n1:s11≠14272640768:=by rcases zP with rfl|rfl<;>decide
     have n2:s11≠14272704512:=by rcases zP with rfl|rfl<;>decide
     have n3:s11≠14272448640:=by rcases zP with rfl|rfl<;>decide
     have n4:s11≠14272448704:=by rcases zP with rfl|rfl<;>decide
     have n5:s11≠14272640704:=by rcases zP with rfl|rfl<;>decide
     have n6:s11≠14272704448:=by rcases zP with rfl|rfl<;>decide
     refine mZ (xs:=[[.int .i64 (e:Nat)],[.int .i64 ((e+1)%ls.length:Nat)]]) (g10.of_eq (by simp only[go_sem])) (by simp only[ed,aN,if_true];rfl) (.inl rfl) (by simp only[Nf,Wk,cS,eE];omega) fun d10 cn r w akH cq hw=>?_;have q0:=cq 14272000000 ae ae;have q9:=cq 14272064192 ae ae;have q14:=cq 14272448640 ae ae;have q15:=cq 14272448704 ae ae;have q12:=cq 14272704512 ae ae;have Ae:=cq s11 n1 n1;simp only[go_sem,b0,b9,n3,n4,n5] at q0 q9 q14 q15 q12 Ae;have akx:=g12.of_eq q12;have akw:=g11.of_eq Ae;simp only[go_sem,h4,h9,kY,ta,q0,q9,aq,uK,s251,gV pl];refine⟨?_,?_⟩
     .rcases hw with ⟨rfl,rfl⟩|⟨rfl,rfl⟩|⟨rfl,rfl⟩<;>kernel_rfl
     refine mZ (xs:=[[.int .i64 (Fg ls e)]]) (akx.of_eq (aR ae)) (by simp only[ed,aN,if_true];rfl) (.inl rfl) (by simp[qH];omega) fun d12 ba r2 w2 TE aT vC=>?_;have TD:=akH.of_eq ((aT 14272640768 ae ae).trans (aR ae));have p0:=aT 14272000000 ae ae;have p9:=aT 14272064192 ae ae;have uT:=aT 14272448640 ae ae;have p15:=aT 14272448704 ae ae;have p11:=aT s11 n2 n2;simp only[go_sem,q0,q9,q14,q15,n6] at p0 p9 uT p15 p11;have LP:=akw.of_eq p11;have hMe:nP (uk ls (es.take (j+1)))=nP (uk ls (es.take j))++[[.int .i64 (e:Nat)],[.int .i64 ((e+1)%ls.length:Nat)]]:=by rw[iu,he,uk,uk];simp
     have hVe:iP (qH ls (es.take (j+1)))=iP (qH ls (es.take j))++[[.int .i64 (Fg ls e)]]:=by rw[iu,he,qH,qH];simp
     have hIe:jL ls (es.take (j+1))=fV (fV (jL ls (es.take j)) (lA ls e).id) (lA ls (nx ls e)).id:=by rw[iu,he];simp[jL,Av,zR]
     have PL:∀i,i<j+1->Ak ls es i=true:=fun i hi=>by
      rcases lL.1 hi with h|rfl
      .exact au i h
      rw[AZ];rfl
     simp only[go_sem,ie,uT];refine⟨?_,?_⟩
     .rcases vC with ⟨rfl,rfl⟩|⟨rfl,rfl⟩|⟨rfl,rfl⟩<;>kernel_rfl
     have m0:14272000000≠s11:=by rcases zP with rfl|rfl<;>decide
     have m9:14272064192≠s11:=by rcases zP with rfl|rfl<;>decide
     have m3:s11≠14272832192:=by rcases zP with rfl|rfl<;>decide
     have m4:s11≠14272960192:=by rcases zP with rfl|rfl<;>decide
     have m14:14272448640≠s11:=n3.symm;have m15:14272448704≠s11:=n4.symm;have ph1:=I7 (jL ls (es.take j)) (lA ls e).id (by have:=Ku (ls:=ls) (es.take j);omega);obtain⟨r11,aeU,_⟩:=LP.Aj;cases hx:decide ((lA ls e).id∈jL ls (es.take j)) with
     |true=>
      rw[hx] at ph1;simp only[go_sem,ie,p15,aeU,s129,bh ph1];have L6:fV (jL ls (es.take j)) (lA ls e).id=jL ls (es.take j):=by rw[fV,aD (l7 hx)]
      have uU:=I7 (jL ls (es.take j)) (lA ls (nx ls e)).id (by have:=Ku (ls:=ls) (es.take j);omega);obtain⟨r11b,sn11b,_⟩:=LP.Aj;cases hy:decide ((lA ls (nx ls e)).id∈jL ls (es.take j)) with
      |true=>
       rw[hy] at uU;have hI:jL ls (es.take (j+1))=jL ls (es.take j):=by rw[hIe,L6,fV,aD (l7 hy)]
       simp only[go_sem,h4,h9,ta,ie,p0,p9,bh uU,w1,aq];exact⟨PL,d10,c11,d12,s11,rfl,rfl,rfl,zP,by rw[hMe];exact TD,by rw[hI];exact LP,by rw[hVe];exact TE⟩
      |false=>
       rw[hy] at uU;have hI:iP (jL ls (es.take (j+1)))=iP (jL ls (es.take j))++[[.int .i64 (lA ls (nx ls e)).id]]:=by rw[hIe,L6,fV,ay (fA hy)];simp
       simp only[go_sem,ie,p15,bh uU];refine ni (xs:=[[.int .i64 (lA ls (nx ls e)).id]]) (LP.of_eq (aR (m4))) (by simp only[ed,aN,if_true];rfl) (.inl rfl) (by have:=Ku (ls:=ls) (es.take j);simp only[pK,cS,eE];omega) fun mJ ahX ge Cl=>?_;have z0:=Cl 14272000000 ae m0;have z9:=Cl 14272064192 ae m9;simp only[go_sem,p0,p9] at z0 z9;have TH:=TD.of_eq ((Cl 14272640768 ae n1.symm).trans (aR ae));have TI:=TE.of_eq ((Cl 14272704512 ae n2.symm).trans (aR ae));simp only[go_sem,h4,h9,ta,z0,z9,w1,aq];exact⟨PL,d10,mJ,d12,14272960256,rfl,rfl,rfl,.inr rfl,by rw[hMe];exact TH,by rw[hI];exact ge,by rw[hVe];exact TI⟩
     |false=>
      rw[hx] at ph1;simp only[go_sem,ie,uT,aeU,s129,bh ph1];have L6:fV (jL ls (es.take j)) (lA ls e).id=jL ls (es.take j)++[(lA ls e).id]:=by rw[fV,ay (fA hx)]
      refine ni (xs:=[[.int .i64 (lA ls e).id]]) (LP.of_eq (aR m3)) (by simp only[ed,aN,if_true];rfl) (.inl rfl) (by have:=Ku (ls:=ls) (es.take j);simp only[pK,cS,eE];omega) fun c11b ahW ga I8=>?_;have y0:=I8 14272000000 ae m0;have y9:=I8 14272064192 ae m9;have y14:=I8 14272448640 ae m14;have y15:=I8 14272448704 ae m15;simp only[go_sem,p0,p9,uT,p15] at y0 y9 y14 y15;have aar:=TD.of_eq ((I8 14272640768 ae n1.symm).trans (aR ae));have aas:=TE.of_eq ((I8 14272704512 ae n2.symm).trans (aR ae));have ga':grown 14272832256 3 1 (iP (jL ls (es.take j)++[(lA ls e).id])) (.one c11b) ahW:=by rw[iP,rQ];exact ga
      have uU:=I7 (jL ls (es.take j)++[(lA ls e).id]) (lA ls (nx ls e)).id (by have:=Ku (ls:=ls) (es.take j);simp only[eG,cS,eE];omega);obtain⟨r11b,sn11b,_⟩:=ga'.Aj;cases hy:decide ((lA ls (nx ls e)).id∈jL ls (es.take j)++[(lA ls e).id]) with
      |true=>
       rw[hy] at uU;have hI:jL ls (es.take (j+1))=jL ls (es.take j)++[(lA ls e).id]:=by rw[hIe,L6,fV,aD (l7 hy)]
       simp only[go_sem,h4,h9,ta,y0,y9,y15,sn11b,s129,bh uU,w1,aq];exact⟨PL,d10,c11b,d12,14272832256,rfl,rfl,rfl,.inl rfl,by rw[hMe];exact aar,by rw[hI];exact ga',by rw[hVe];exact aas⟩
      |false=>
       rw[hy] at uU;have hI:iP (jL ls (es.take (j+1)))=iP (jL ls (es.take j)++[(lA ls e).id])++[[.int .i64 (lA ls (nx ls e)).id]]:=by rw[hIe,L6,fV,ay (fA hy)];simp
       simp only[go_sem,y15,sn11b,s129,bh uU];refine ni (xs:=[[.int .i64 (lA ls (nx ls e)).id]]) (ga'.of_eq (aR ae)) (by simp only[ed,aN,if_true];rfl) (.inl rfl) (by have:=Ku (ls:=ls) (es.take j);simp only[pK,eG,cS,eE];omega) fun mJ ahX ge Cl=>?_;have z0:=Cl 14272000000 ae ae;have z9:=Cl 14272064192 ae ae;simp only[go_sem,y0,y9] at z0 z9;have TH:=aar.of_eq ((Cl 14272640768 ae ae).trans (aR ae));have TI:=aas.of_eq ((Cl 14272704512 ae ae).trans (aR ae));simp only[go_sem,h4,h9,ta,z0,z9,w1,aq];exact⟨PL,d10,mJ,d12,14272960256,rfl,rfl,rfl,.inr rfl,by rw[hMe];exact TH,by rw[hI];exact ge,by rw[hVe];exact TI⟩
 have:j=3:=aa;subst this;have ht:es.take 3=es:=by rw[<- hE];rfl
 rw[ht] at g10 g11 g12;have cV:(List.range es.length).all (Ak ls es)=true:=by rw[ir];intro i hi;exact au i (by have:=fg.1 hi;omega)
 have hBv:Dt F ls es=((((jL ls es).length:Int)==3)&&(decide ((2:Int)∈qH ls es)&&(decide ((0:Int)∈qH ls es)&&vJ F ls 0 es))):=by unfold Dt;rw[cV,MY];rfl
 rw[hBv];have zn:¬(((3:Nat):Int)<3):=ae;have uU:=I7 (qH ls es) 2 (by simp[qH];omega);have ph0:=I7 (qH ls es) 0 (by simp[qH];omega);obtain⟨r12,VX,_⟩:=g12.Aj;have h3e:3<=es.length:=aa;have ht3:List.take 3 (nP es)=nP es:=dD (by rw[Nf];omega);rcases g11 with ⟨mJ,q⟩|⟨_,gg,q,bb⟩
 .cases q;have e0:jL ls es=[]:=by simpa using mJ
  rw[e0];simp only[go_sem,i223_l1,i223_r2,ie,ta,zn,show((((0:Nat):Int))==3)=false from rfl];try rfl
 cases q;cases q1:(((jL ls es).length:Int)==3) with
 |false=>simp only[go_sem,i223_l1,i223_r2,ie,ta,zn,pK,q1];try rfl
 |true=>
  cases q2:decide ((2:Int)∈qH ls es) with
  |false=>rw[q2] at uU;simp only[go_sem,i223_l1,i223_r2,ie,kY,ta,zn,pK,VX,q1,s129,bh uU];try rfl
  |true=>
   rw[q2] at uU;cases q3:decide ((0:Int)∈qH ls es) with
   |false=>rw[q3] at ph0;simp only[go_sem,i223_l1,i223_r2,ie,kY,ta,zn,pK,VX,q1,s129,bh uU,bh ph0];try rfl
   |true=>rw[q3] at ph0;simp only[go_sem,i223_l1,i223_r2,h4,h9,ie,kY,ta,b0,b9,zn,pK,VX,ht3,h3e,q1,s129,bh uU,bh ph0,s250,bh po];try rfl
end
theorem sc_b(l:List Bool):((bP l).all fun e=>e.all PV.scalar)=true:=by simp[PV.scalar]
theorem CX(l:List Let):(aZ l).length=l.length:=cH _
theorem SB(l:List Bool):(bP l).length=l.length:=cH _
theorem akU{s1 t1 z1 s2 t2 z2:Nat}{es fs:List (List PV)}{c d:C}{aj:aw}(hs:s1≠s2)(h:grown s1 t1 z1 es (.one c) aj)(h':grown s2 t2 z2 fs (.one d) aj):gh aj (.agg [c,d])=some (.agg [aO t1 z1 es,aO t2 z2 fs]):=by obtain⟨c',o,hc,h2,h3⟩:=h.gQ;cases hc;obtain⟨d',q,hd,k2,k3⟩:=h'.gQ;cases hd;rcases h3 with rfl|rfl<;>rcases k3 with rfl|rfl<;>simp[gh,nL,kI,kh,h2,k2,apart,sI,pQ,hs]
def Ed(ls:List Let)(k:Nat):List Bool:=(List.range k).map (dn ls)
abbrev rY(ls:List Let):List Bool:=Ed ls ls.length
theorem ajl(ls:List Let)(k:Nat):bP (Ed ls (k+1))=bP (Ed ls k)++[[.bool (dn ls k)]]:=by simp[Ed,uZ]
theorem ajk(ls:List Let)(k:Nat):(Ed ls k).length=k:=by simp[Ed]
theorem ajg(f:Int)(ls:List Let)(hl:ls.length<=1000000):aF S 128 [cZ f ls] (.one (aO 4 1 (bP (rY ls)))):=by
 refine aV c128 ?_;simp only[go_sem,i128];refine cJ (fun k ak aj=>ak 1=.one (.aX 8192000000 1 0)/\ak 4=vi k/\aj 8192000000=(1,some (.var (mh f ls)))/\ ∃c,ak 3=.one c/\grown 8192320320 4 1 (bP (Ed ls k)) (.one c) aj) 0 ls.length (bj _) ?_ ?_
 .simp only[go_sem];exact⟨rfl,_,rfl,grown.nil⟩
 rintro k ak aj hk ⟨h1,h4,b0,c,h3,gc⟩
 by_cases aq:k<ls.length
 .have aL:((k:Int)<(ls.length:Int)):=aa;have w1:=bN (n:=k) aa;have pd:=Ga f ls k hl aa;simp only[go_sem,i128_l1,h1,h3,h4,b0,aL,s55,bh pd];refine ni (xs:=[[.bool (dn ls k)]]) (gc.of_eq (aR ae)) (by simp only[ed,aN,if_true];rfl) (.inl rfl) (by simp[ajk];omega) fun c2 cn g2 hb=>?_;have q0:=hb 8192000000 ae ae;simp only[go_sem,b0] at q0;simp only[go_sem,h1,h4,w1,aq,q0];exact⟨c2,rfl,by rw[ajl];exact g2⟩
 have:k=ls.length:=aa;subst this;simp only[go_sem,i128_l1,i128_r2,h1,h3,h4,b0,dG];exact xR gc
theorem ady(f:Int)(ls:List Let)(hl:ls.length<=1000000):aF S 85 [cZ f ls] (.agg [aO gH 6 (aZ ls),aO 4 1 (bP (rY ls))]):=by
 have pd:=ajg f ls hl;have lo:S.lone 5440064256=false:=ah;refine aV c85 ?_;simp only[go_sem,i85];refine mZ (id:=5440064128) (bytes:=48) grown.nil (xs:=aZ ls) (rd:=[]) rfl (.inr (yF _)) (by simp;omega) fun c1 cn r w g1 cq hw=>?_;rw[nH] at g1;have q0:=cq 5440000000 ae ae;have q1:=cq 5440000064 ae ae;simp only[go_sem] at q0 q1;simp only[go_sem,q0,s128];refine aiT pd lo (.inr (xD (sc_b _))) fun c2 ba w2 g2 aT vC=>?_;have LN:=g1.of_eq (aT 5440064128 ae);have Ht:=(aT 5440000064 ae).trans q1;simp only[go_sem,Ht];refine⟨?_,akU ae (LN.of_eq (aR ae)) (g2.of_eq (aR ae))⟩;rcases hw with ⟨rfl,rfl⟩|⟨rfl,rfl⟩|⟨rfl,rfl⟩<;>rcases vC with rfl|rfl<;>kernel_rfl
theorem Yx(f:Int)(ls:List Let)(hl:ls.length<=1000000):aF S 97 [cZ f ls] (.agg [.p (.int .i64 f),aO gH 6 (aZ ls)]):=by refine aV c97 ?_;simp only[go_sem,i97];refine mZ (id:=6208064256) (bytes:=48) grown.nil (xs:=aZ ls) (rd:=[]) rfl (.inr (yF _)) (by simp;omega) fun c1 cn r w g1 cq hw=>?_;rw[nH] at g1;have q1:=cq 6208000064 ae ae;simp only[go_sem] at q1;simp only[go_sem,q1];refine⟨?_,Em (g1.of_eq (aR ae))⟩;rcases hw with ⟨rfl,rfl⟩|⟨rfl,rfl⟩|⟨rfl,rfl⟩<;>kernel_rfl
def FH(L:List Let)(D:List Bool)(i:Nat):Bool:=match L[i]?,D[i]? with|some l,some d=>(l.kind==1)&&d|_,_=>false
def HB(L:List Let)(D:List Bool):Option Nat:=(List.range L.length).find? (FH L D)
def sJ(L:List Let)(D:List Bool):List Let:=match HB L D with|some i=>L.drop i++L.take i|none=>L
theorem aeM(f:Int)(L:List Let)(D:List Bool)(hl:L.length<=1000000)(hd:D.length=L.length):aF S 99 [cZ f L,.one (.p (.sl (bP D)))] (.agg [.p (.int .i64 f),aO gH 6 (aZ (sJ L D))]):=by
 have pc:=Yx f L hl;have lo:S.lone 6336384064=false:=ah;refine aV c99 ?_;simp only[go_sem,i99];refine cJ (fun k ak aj=>ak 1=.one (.p (.sl (bP D)))/\ak 2=.one (.aX 6336000000 1 0)/\ak 4=.one (.aX 6336000064 1 0)/\ak 5=vi k/\aj 6336000000=(1,some (.var (mh f L)))/\aj 6336000064=(1,some (.var [.p (.int .i64 0),.p .nils]))/\ ∀j,j<k->FH L D j=false) 0 L.length (bj _) ?_ ?_
 .simp only[go_sem];exact⟨rfl,fun j hj=>absurd hj (mT j)⟩
 rintro k ak aj hk ⟨h1,h2,h4,h5,b0,b1,hn⟩
 by_cases aq:k<L.length
 .have aL:((k:Int)<(L.length:Int)):=aa;obtain⟨l,hL⟩:=aM aq;obtain⟨d,hD⟩:=aM (ls:=D) (k:=k) aa;have cK:=fv hL;have uL:=pZ hD;have w1:=bN (n:=k) aa;have hs:FH L D k=((l.kind==1)&&d):=by simp[FH,hL,hD]
  have miss:FH L D k=false->∀j,j<k+1->FH L D j=false:=fun h j hj=>by
   rcases lL.1 hj with h1|rfl
   .exact hn j h1
   exact h
  cases cF:(l.kind==1) with
  |false=>rw[cF] at hs;simp only[go_sem,i99_l1,h1,h2,h4,h5,b0,b1,aq,aL,cK,Let.ps,cF,w1];exact miss hs
  |true=>
   rw[cF] at hs;cases d with
   |false=>simp only[go_sem,i99_l1,h1,h2,h4,h5,b0,b1,aq,aL,cK,uL,Let.ps,cF,w1];exact miss hs
   |true=>
    have hf:HB L D=some k:=Cd aq hn hs;have cM:sJ L D=L.drop k++L.take k:=by unfold sJ;rw[hf]
    have kl:k<=L.length:=aa;have MR:=yF L;have Ez:List.take (L.length-k) (List.drop k (aZ L))=aZ (L.drop k):=by rw[dD af];simp[KP]
    have eY:List.take k (aZ L)=aZ (L.take k):=by simp[KQ]
    rw[cM,U0];simp only[go_sem,i99_l1,h1,h2,h5,b0,aL,cK,uL,Let.ps,cF,kl,MR,Ez];refine mZ (id:=6336320384) (bytes:=48) grown.nil (xs:=aZ (L.drop k)) (rd:=[]) rfl (.inr (yF _)) (by simp;omega) fun c1 cn r w g1 cq hw=>?_;rw[nH] at g1;have q0:=(cq 6336000000 ae ae).trans b0;have q1:=(cq 6336000064 ae ae).trans b1;simp only[go_sem,h2,h5,q0,kl,MR,eY];refine mZ (bytes:=48) g1 (xs:=aZ (L.take k)) (rd:=[]) rfl (.inr (yF _)) (by simp;omega) fun c2 ba r2 w2 g2 aT vC=>?_;have Ht:=(aT 6336000064 ae ae).trans q1;simp only[go_sem,h4,Ht];refine⟨?_,Em (g2.of_eq (aR ae))⟩;rcases hw with ⟨rfl,rfl⟩|⟨rfl,rfl⟩|⟨rfl,rfl⟩<;>rcases vC with ⟨rfl,rfl⟩|⟨rfl,rfl⟩|⟨rfl,rfl⟩<;>kernel_rfl
 have:k=L.length:=aa;subst this;have hf:HB L D=none:=IL hn;have cM:sJ L D=L:=by unfold sJ;rw[hf]
 rw[cM];simp only[go_sem,i99_l1,i99_r2,h2,h5,b0,dG,s97];refine LR pc lo rfl (Fz _) fun c2 ba Ej aT=>?_;have q1:=(aT 6336000064 ae).trans b1;simp only[go_sem,h4,q1];exact Em (Ej.of_eq (aR ae))
theorem Ye(f:Int)(ls L:List Let)(D:List Bool)(hl:L.length<=1000000)(hd:D.length=L.length):aF S 96 [.agg [.p (cQ L),.p (.sl (bP D))],cZ f ls] (.agg [.p (.int .i64 f),aO gH 6 (aZ (sJ L D))]):=by have ps:=aeM f L D hl hd;have lo:S.lone 6144064448=false:=ah;refine aV c96 ?_;simp only[go_sem,i96,s99];refine LR ps lo rfl (Fz _) fun c2 ba Ej aT=>?_;have q1:=aT 6144000128 ae;simp only[go_sem] at q1;simp only[go_sem,q1];exact Em (Ej.of_eq (aR ae))
abbrev dfR(L:List Let)(D:List Bool):RV:=.agg [aO gH 6 (aZ L),aO 4 1 (bP D)]
def YX(idL gL idD gD box:Nat)(L:List Let)(D:List Bool)(aj:aw)(v:V)(ao:aw):Prop:=v=.tup []/\ao idL=(gL,some (.arr gH 6 (aZ L)))/\ao idD=(gD,some (.arr 4 1 (bP D)))/\Kept (fun i=>i=idL\/i=idD\/i=box) aj ao
def Ds{α:Type}(l:List α)(i j:Nat)(x y:α):List α:=(l.set i y).set j x
theorem asC{al:Al}{aj:aw}{idL gL idD gD i j:Nat}{L:List Let}{D:List Bool}{x y:Let}{c d:Bool}(o1:al.ok idL=true)(o2:al.ok idD=true)(o3:al.ok 5888000000=true)(n1:idL≠idD)(n2:idL≠5888000000)(n3:idD≠5888000000)
  (hL:aj idL=(gL,some (.arr gH 6 (aZ L)))) (hD:aj idD=(gD,some (.arr 4 1 (bP D)))) (hd:D.length=L.length) (hx:L[i]?=some x) (hy:L[j]?=some y) (hc:D[i]?=some c) (he:D[j]?=some d) (eU:i≠j):
  ∃v ao,iw S 92 [.agg [.hsl idL gL 6 0 L.length,.hsl idD gD 1 0 D.length],vi i,vi j] al aj v ao/\YX idL gL idD gD 5888000000 (Ds L i j x y) (Ds D i j c d) aj v ao:=by
 have hi:=(bg.1 hx).1;have hj:=(bg.1 hy).1;have Jf:i<D.length:=aa;have nV:j<D.length:=aa;have px:=fv hx;have py:=fv hy;have pc:=pZ hc;have pd:=pZ he;have zC:¬(j=i):=fun h=>eU h.symm;refine mV c92 (iv rfl) ?_;simp only[go_sem,i92,o1,o2,o3,hL,hD,n1.symm,n2,n2.symm,n3,hi,hj,Jf,nV,px,py,pc,pd,Let.ps,eU,mC,CX,SB];refine⟨aK (by simp[rF,JV,BU,meets,CT,n2.symm];decide),aK (by simp[rF,JV,BU,meets,CT,n3.symm];decide),?_⟩;refine⟨rfl,?_,?_,?_⟩
 .simp only[go_sem,n1,n2];simp[Ds,aZ,yM,Let.ps]
 .simp only[go_sem,n1.symm,n3];simp[Ds,yM]
 intro q hq;have q1:q≠idL:=fun h=>hq (.inl h);have q2:q≠idD:=fun h=>hq (.inr (.inl h));have q3:q≠5888000000:=fun h=>hq (.inr (.inr h));simp only[go_sem,q1,q2,q3]
theorem acH{α:Type}{f:α->α}{L:List α}{k:Nat}{x:α}(h:L[k]?=some x):((L.take k).map f++L.drop k)[k]?=some x:=by have hl:k<L.length:=(bg.1 h).1;rw[yK (by simp;omega)];simp only[cH,gT,yO (Nat.le_of_lt hl),HW,Aw,xA,h]
theorem U4{α:Type}{f:α->α}{L:List α}{k:Nat}{x:α}(h:L[k]?=some x):((L.take k).map f++L.drop k).set k (f x)=(L.take (k+1)).map f++L.drop (k+1):=by
 have hl:k<L.length:=(bg.1 h).1;rw[WV _ _ (by simp;omega)];simp only[cH,gT,yO (Nat.le_of_lt hl),HW];rw[iu,h];have hd:L.drop k=x::L.drop (k+1):=by rw[WL hl];congr 1;exact(bg.1 h).2
 rw[hd];simp
theorem an3{α:Type}{f:α->α}{L:List α}{k:Nat}{x:α}(h:L[k]?=some x)(hf:f x=x):(L.take k).map f++L.drop k=(L.take (k+1)).map f++L.drop (k+1):=by rw[<- U4 h,hf];have:=acH (f:=f) h;obtain⟨hk,hv⟩:=bg.1 this;have e:=List.set_getElem_self hk;rw[hv] at e;exact e.symm
theorem an2{α:Type}{f:α->α}(L:List α)(k:Nat):((L.take k).map f++L.drop k).length=L.length:=by simp;omega
def eN{α:Type}(l:List α)(i j:Nat):List α:=match l[i]?,l[j]? with
 |some x,some y=>(l.set i y).set j x
 |_,_=>l
theorem JT{ls:List Let}{k:Nat}(h2:2<=ls.length)(hk:k<ls.length):k≠nx ls k:=by
 unfold nx;by_cases h:k+1<ls.length
 .rw[jN h];omega
 have:k+1=ls.length:=aa;rw[this,KX];omega
abbrev Db{α:Type}(f:α->α)(L:List α)(k:Nat):List α:=(L.take k).map f++L.drop k
theorem Ql(L:List Let)(i:Nat)(y:Let){z:List PV}(h:y.ps=z):(aZ L).set i z=aZ (L.set i y):=by subst h;simp[aZ,yM]
theorem aok{i:Nat}:Al.all.ok i=true:=rfl
attribute [go_sem] aok
theorem IG(ls:List Let):(rY ls).length=ls.length:=by simp[rY,Ed]
theorem ae9(L:List Let)(D:List Bool):(sJ L D).length=L.length:=by
 simp only[sJ];split
 .simp only[eG,lX,gT];omega
 rfl
theorem ahA{L:List Bool}(h:L≠[]):bP L≠[]:=by simpa using h
abbrev dfO(L:List Let)(D:List Bool):RV:=.agg [.own gH 6 (aZ L),.own 4 1 (bP D)]
theorem YY{L:List Let}{D:List Bool}(h:L≠[])(hd:D.length=L.length):dfR L D=dfO L D:=by have h2:D≠[]:=fun e=>h (DG.1 (by rw[<- hd,e];rfl));simp only[dfR,dfO,xQ (Qk h),xQ (ahA h2)]
theorem Yk(F:Nat)(L:List Let):(RV.agg [.p (.int .i64 F),.own gH 6 (aZ L)]).alone=true:=by have a:=Fz L;simp[RV.alone,iR,jq,RC.alone,PV.scalar,a]
theorem NS(l:List Let):(aZ l).take l.length=aZ l:=dD af
theorem afk(l:List Bool):(bP l).take l.length=bP l:=dD af
theorem Tn{F:Nat}{ls:List Let}(g:bQ F ls):jR (dh F ls)≠[]:=by
 have hl:0<ls.length:=jl.2 g.ne;obtain⟨j,hj,_⟩:=O7 (F:=F) (ls:=ls) (d:=0) aa;intro e;have:dh F ls=[]:=by simpa using e
 rw[this] at hj;cases hj
end Go.Abs
