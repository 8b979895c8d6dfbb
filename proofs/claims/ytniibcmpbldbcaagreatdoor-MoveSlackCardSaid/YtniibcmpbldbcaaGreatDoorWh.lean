/- A part. -/
import Derived.Test.YtniibcmpbldbcaaGreatDoorWa
set_option linter.all false
set_option maxRecDepth 100000
set_option maxHeartbeats 16000000
namespace Go.Abs
section
variable{F j n2 v x:Nat}{ls:List Let}
abbrev tH(F:Nat)(ls:List Let):PV:=Ic F ls (.sl (bP (pE ls))) (.sl (nP (aC ls))) (.sl (nP (jO ls ls.length))) (.mp true (pS ls ls.length)) (.sl (nP (counts ls F)))
structure eP (F:Nat) (ls:List Let):Prop where
 hl:ls.length<=1000000
 ax:BG F ls
 cr:lz ls=true
 kinds:∀l∈ls,l.ay=true\/l.aw=true
theorem vK{a:Nat}(h:a<=9223372036854775807):IntKind.i64.wrap ((a:Int)-1)=(a:Int)-1:=by
 cases a with
 |zero=>decide
 |succ a=>rw[G0 aa h];omega
theorem aft{a n:Nat}(hn:1<=n)(h:a+n<=9223372036854775807):IntKind.i64.wrap (((a:Int)-1)+(n:Int))=((a+n-1:Nat):Int):=by have e:((a:Int)-1)+(n:Int)=((a+n-1:Nat):Int):=aa;rw[e];exact wrap_small aa
theorem TT(F:Nat)(ls:List Let)(i:Nat)(hl:ls.length<=1000000)(hi:i<ls.length):aH S 138 [.one (.p (tH F ls)),vi i] (ri (dk ls.length i true)):=by refine ba c138 ?_;have e:=qF (a:=i) aa;simp only[go_sem,i138,e,dk]
theorem Q0(F:Nat)(ls:List Let)(i:Nat)(hl:ls.length<=1000000)(hi:i<ls.length):aH S 137 [.one (.p (tH F ls)),vi i] (ri (dk ls.length i false)):=by refine ba c137 ?_;have e1:=vK (a:=i) aa;have e2:=aft (a:=i) (n:=ls.length) aa aa;have e3:=uj (i+ls.length-1) ls.length;have hm:=dw (i+ls.length-1) (show 0<ls.length by omega);have e4:=qF (a:=(i+ls.length-1)%ls.length) aa;have e5:=bG (n:=2*((i+ls.length-1)%ls.length)) aa;have hz:¬((ls.length:Int)=0):=aa;simp only[go_sem,i137,e1,e2,e3,e4,e5,hz,dk]
theorem N9{l:Let}(h:ls[v]?=some l)(hp:l.ay=true):(pE ls)[v]?=some (dn ls v):=by have:=(aV.1 h).1;simp[pE,tu this,iE,h,hp]
theorem anu{l:Let}(h:ls[v]?=some l)(hp:l.ay=true):(jO ls ls.length)[v]?=some (dJ ls l):=by have:=(aV.1 h).1;simp[jO,this,GI h hp]
theorem eP.Pj(ok:eP F ls){l:Let}(h:ls[v]?=some l)(h2:(l.kind==2)=false):l.ay=true:=by
 rcases ok.kinds l (aQ h) with hp|hc
 .exact hp
 unfold Let.aw at hc;rw[h2] at hc;cases hc
theorem Yv(ok:eP F ls)(d:Nat)(hd:d<2*ls.length+2*(aC ls).length):aH S 101 [.one (.p (tH F ls)),vi d] (ri (fN ls (aC ls) d)):=by
 have hl:=ok.hl;have iK:(aC ls).length<=1000000:=mU (uy ls ls.length) hl;have jT:∀x∈aC ls,x<ls.length/\ ∃l,ls[x]?=some l/\l.ay=true:=fun x hx=>by obtain⟨l,h1,h2⟩:=tB.1 hx;exact⟨(aV.1 h1).1,l,h1,h2⟩
 have m1:IntKind.i64.wrap (2*(ls.length:Int))=((2*ls.length:Nat):Int):=qF aa;unfold fN;by_cases h:2*ls.length<=d
 .rw[if_pos h];refine ba c101 ?_;have h':((2*ls.length:Nat):Int)<=(d:Int):=aa;have m2:=Wv (a:=d) (b:=2*ls.length) h aa;have m3:=wrap_small (n:=(d-2*ls.length)/2) aa;have hm:=dw ((d-2*ls.length)/2+1) (show 0<(aC ls).length by omega);have pK:¬(((aC ls).length:Int)=0):=aa;obtain⟨u,hu⟩:=aI (ls:=aC ls) (k:=(d-2*ls.length)/2) aa;have En:=iA hu;by_cases h2:d%2=0
  .rw[if_pos h2];have m4:=bG (n:=(d-2*ls.length)/2) aa;have ij:(((d%2:Nat):Int)==0)=true:=by simp[h2]
   have m5:=uj ((d-2*ls.length)/2+1) (aC ls).length;obtain⟨v,hv⟩:=aI hm;have qC:(aC ls).getD (((d-2*ls.length)/2+1)%(aC ls).length) 0=v:=by rw[cJ,hv];rfl
   rw[qC];obtain⟨ss,l,l8,Co⟩:=jT v (aQ hv);have yk:=iA hv;have fp:=tD (N9 l8 Co);have pf:=TT F ls v hl ss;have pb:=Q0 F ls v hl ss;cases hq:dn ls v with
   |true=>rw[hq] at fp;simp only[go_sem,i101,m1,m2,m3,m4,m5,h',ij,En,yk,fp,pK,jG,fy,eD,s137,dV pb];exact⟨aD,aD⟩
   |false=>rw[hq] at fp;simp only[go_sem,i101,m1,m2,m3,m4,m5,h',ij,En,yk,fp,pK,jG,fy,eD,s138,dV pf];exact⟨aD,aD⟩
  rw[if_neg h2];have ij:(((d%2:Nat):Int)==0)=false:=by simp;omega
  have qC:(aC ls).getD ((d-2*ls.length)/2) 0=u:=by rw[cJ,hu];rfl
  rw[qC];obtain⟨ss,l,l8,Co⟩:=jT u (aQ hu);have fp:=tD (N9 l8 Co);have pf:=TT F ls u hl ss;have pb:=Q0 F ls u hl ss;cases hq:dn ls u with
  |true=>rw[hq] at fp;simp only[go_sem,i101,m1,m2,m3,h',ij,En,fp,jG,fy,eD,s138,dV pf];exact aD
  |false=>rw[hq] at fp;simp only[go_sem,i101,m1,m2,m3,h',ij,En,fp,jG,fy,eD,s137,dV pb];exact aD
 rw[if_neg h];have h':¬(((2*ls.length:Nat):Int)<=(d:Int)):=aa;have m3:=wrap_small (n:=d/2) aa;have fR:¬((ls.length:Int)=0):=aa;have pK:=dw (d/2+1) (show 0<ls.length by omega);have m4:=bG (n:=d/2) aa;have m5:=uj (d/2+1) ls.length;have body:∀v:Nat,v<ls.length->∀fw:Bool,v=(if fw then (d/2+1)%ls.length else d/2)->(((d%2:Nat):Int)==0)=fw->aH S 101 [.one (.p (tH F ls)),vi d] (ri ((match ls[v]? with
   |none=>0
   |some l=>if l.kind==2 then dk ls.length (fH ls v) (fw==(l.over==(l.sign==1)))
    else if dn ls v==fw then 2*ls.length+2*(aC ls).idxOf v else 2*ls.length+2*(((aC ls).idxOf v+(aC ls).length-1)%(aC ls).length)+1:Nat):Int)):=by
  intro v hv fw fi qS;obtain⟨l,l8⟩:=aI hv;have gT:=lf l8;rw[l8];simp only;refine ba c101 ?_;cases hk:(l.kind==2) with
  |true=>
   have hc:l.aw=true:=hk;have cM:(l.kind==1)=false:=by simp only[beq_iff_eq] at hk;rw[hk];rfl
   obtain⟨EA,Mq⟩:=PA ok.cr l8 hc;have hf:=Z4 ls ls.length l.id;rw[if_pos (O3 (aQ l8) hc)] at hf;have pf:=TT F ls (fH ls v) hl Mq;have pb:=Q0 F ls (fH ls v) hl Mq;cases ho:l.over with
   |true=>
    rw[ho] at EA;have EA:gC ls ls.length l.id false=some (fH ls v):=EA;simp only[qM,EA] at hf;simp only[Bn] at hf;cases hs:(l.sign==1) with
    |true=>
     cases fw with
     |true=>have fi:v=(d/2+1)%ls.length:=fi;rw[fi] at gT hf pf pb ⊢;simp only[go_sem,i101,m1,m3,m4,m5,h',qS,gT,Let.ps,fR,cM,ho,hs,jG,fy,eD,mapOf,mapVal,jM,hf,s138,dV pf];exact⟨aD,aD⟩
     |false=>have fi:v=d/2:=fi;rw[fi] at gT hf pf pb ⊢;simp only[go_sem,i101,m1,m3,h',qS,gT,Let.ps,cM,ho,hs,jG,fy,eD,mapOf,mapVal,jM,hf,s137,dV pb];exact⟨aD,aD⟩
    |false=>
     cases fw with
     |true=>have fi:v=(d/2+1)%ls.length:=fi;rw[fi] at gT hf pf pb ⊢;simp only[go_sem,i101,m1,m3,m4,m5,h',qS,gT,Let.ps,fR,cM,ho,hs,jG,fy,eD,mapOf,mapVal,jM,hf,s137,dV pb];exact⟨aD,aD⟩
     |false=>have fi:v=d/2:=fi;rw[fi] at gT hf pf pb ⊢;simp only[go_sem,i101,m1,m3,h',qS,gT,Let.ps,cM,ho,hs,jG,fy,eD,mapOf,mapVal,jM,hf,s138,dV pf];exact⟨aD,aD⟩
   |false=>
    rw[ho] at EA;have EA:gC ls ls.length l.id true=some (fH ls v):=EA;simp only[qM,EA] at hf;simp only[Bn] at hf;cases hs:(l.sign==1) with
    |true=>
     cases fw with
     |true=>have fi:v=(d/2+1)%ls.length:=fi;rw[fi] at gT hf pf pb ⊢;simp only[go_sem,i101,m1,m3,m4,m5,h',qS,gT,Let.ps,fR,cM,ho,hs,jG,fy,eD,mapOf,mapVal,jM,hf,s137,dV pb];exact⟨aD,aD⟩
     |false=>have fi:v=d/2:=fi;rw[fi] at gT hf pf pb ⊢;simp only[go_sem,i101,m1,m3,h',qS,gT,Let.ps,cM,ho,hs,jG,fy,eD,mapOf,mapVal,jM,hf,s138,dV pf];exact⟨aD,aD⟩
    |false=>
     cases fw with
     |true=>have fi:v=(d/2+1)%ls.length:=fi;rw[fi] at gT hf pf pb ⊢;simp only[go_sem,i101,m1,m3,m4,m5,h',qS,gT,Let.ps,fR,cM,ho,hs,jG,fy,eD,mapOf,mapVal,jM,hf,s138,dV pf];exact⟨aD,aD⟩
     |false=>have fi:v=d/2:=fi;rw[fi] at gT hf pf pb ⊢;simp only[go_sem,i101,m1,m3,h',qS,gT,Let.ps,cM,ho,hs,jG,fy,eD,mapOf,mapVal,jM,hf,s137,dV pb];exact⟨aD,aD⟩
  |false=>
   have hp:=ok.Pj l8 hk;have cM:(l.kind==1)=true:=hp;have fp:=tD (N9 l8 hp);have bh:=iA (anu l8 hp);have Mg:=HD ok.ax l8 hp;have hpT:=Vp (ok.ax.eQ l (aQ l8) hp);rw[Dt ok.ax.ql] at hpT;rw[Mg];have Mh:¬(((aC ls).length:Int)=0):=aa;have kJ:=dw (dJ ls l+(aC ls).length-1) (show 0<(aC ls).length by omega);have n1:=qF (a:=dJ ls l) aa;have n2:=wrap_add (a:=2*ls.length) (b:=2*dJ ls l) aa;have n3:=vK (a:=dJ ls l) aa;have n4:=aft (a:=dJ ls l) (n:=(aC ls).length) aa aa;have n5:=uj (dJ ls l+(aC ls).length-1) (aC ls).length;have n6:=qF (a:=(dJ ls l+(aC ls).length-1)%(aC ls).length) aa;have n7:=wrap_add (a:=2*ls.length) (b:=2*((dJ ls l+(aC ls).length-1)%(aC ls).length)) aa
   have n8:=bG (n:=2*ls.length+2*((dJ ls l+(aC ls).length-1)%(aC ls).length)) aa;cases fw with
   |true=>
    have fi:v=(d/2+1)%ls.length:=fi;cases LQ:dn ls v with
    |true=>rw[LQ] at fp;rw[fi] at gT fp bh;simp only[go_sem,i101,m1,m3,m4,m5,h',qS,gT,Let.ps,fR,cM,jG,fy,eD,fp,bh,n1,n2];exact aD
    |false=>rw[LQ] at fp;rw[fi] at gT fp bh;simp only[go_sem,i101,m1,m3,m4,m5,h',qS,gT,Let.ps,fR,cM,jG,fy,eD,fp,bh,n3,n4,n5,n6,n7,n8,Mh];exact aD
   |false=>
    have fi:v=d/2:=fi;cases LQ:dn ls v with
    |true=>rw[LQ] at fp;rw[fi] at gT fp bh;simp only[go_sem,i101,m1,m3,h',qS,gT,Let.ps,cM,jG,fy,eD,fp,bh,n3,n4,n5,n6,n7,n8,Mh];exact aD
    |false=>rw[LQ] at fp;rw[fi] at gT fp bh;simp only[go_sem,i101,m1,m3,h',qS,gT,Let.ps,cM,jG,fy,eD,fp,bh,n1,n2];exact aD
 have ss:(if (d%2==0)=true then (d/2+1)%ls.length else d/2)<ls.length:=by
  split
  .exact pK
  omega
 have:=body _ ss (d%2==0) rfl (by cases hq:(d%2==0)<;>simp at hq ⊢ <;>omega);exact this
abbrev aO(ls:List Let):Nat->Nat:=fN ls (aC ls)
theorem ajn(ok:eP F ls){Q:ef}:
  ∀(fuel x:Nat) (sn:List Bool) (aj:Env) (blk:aB),aj 0=.one (.p (tH F ls))->aj 4=.one (.hsl 5376128064 1 1 0 sn.length)->blk 5376128064=(1,some (.arr 4 1 (bP sn)))->
   aj 7=vi x->x<sn.length->sn.length=2*ls.length+2*(aC ls).length->yF sn<fuel->
   (∀aE ak,aE 0=aj 0->aE 4=aj 4->aE 5=aj 5->aE 24=aj 24->aE 25=aj 25->ak 5376128064=(1,some (.arr 4 1 (bP (eZ (aO ls) fuel x sn).2)))->Q .normal aE ak)->
   W S .all (.loop i84_l1) (rG 2 Q) aj blk:=by
 have iK:(aC ls).length<=1000000:=mU (uy ls ls.length) ok.hl;have jT:∀x∈aC ls,x<ls.length:=fun x h=>NV h;have hp:∀v l,ls[v]?=some l->(l.kind==2)=false->v∈aC ls:=fun v l hv h2=>tB.2 ⟨l,hv,ok.Pj hv h2⟩;intro fuel
 induction fuel with
 |zero=>intro x sn aj blk _ _ _ _ _ _ h;omega
 |succ fuel ih=>
  intro x sn aj blk h0 h4 hS h7 hx hsl hu hq;obtain⟨b,hb⟩:=aI hx;have od:=tD hb;have rY:sn.getD x true=b:=by rw[cJ,hb];rfl
  unfold eZ at hq;rw[rY] at hq;refine oU ?_;cases b with
  |true=>simp only[go_sem,i84_l1,h4,hS,h7,hx,od];refine hq _ _ ?_ ?_ ?_ ?_ ?_ hS;all_goals simp only[go_sem,h4]
  |false=>
   have Ez:=Nu hb;have pt:=Yv ok x aa;have ir:=Qu (d:=x) jT hp aa;have km:=HF sn x true;simp only[go_sem,i84_l1,h0,h4,hS,h7,hx,od,km,s101,dV pt];refine ih (fN ls (aC ls) x) (sn.set x true) _ _ ?_ ?_ ?_ ?_ (by simpa [hsl] using ir) (by simpa using hsl) aa ?_
   .simp only[go_sem,h0]
   .simp only[go_sem,h4,nX]
   .simp only[go_sem]
   .simp only[go_sem]
   intro aE ak q0 q4 q5 mO vD b1;refine hq aE ak ?_ ?_ ?_ ?_ ?_ b1
   .rw[q0];simp only[go_sem]
   .rw[q4];simp only[go_sem]
   .rw[q5];simp only[go_sem]
   .rw[mO];simp only[go_sem]
   rw[vD];simp only[go_sem]
theorem ajq(ok:eP F ls):aH S 84 [.one (.p (tH F ls))] (rb (eN ls==au Let.ay ls+au Let.aw ls/2+2)):=by
 have hl:=ok.hl;have iK:(aC ls).length<=ls.length:=uy ls ls.length;have m1:=qF (a:=ls.length) aa;have m2:=qF (a:=(aC ls).length) aa;have m3:=wrap_add (a:=2*ls.length) (b:=2*(aC ls).length) aa;have kL:2*ls.length+2*(aC ls).length<=140737488355328:=aa;have Cx:List.replicate (2*ls.length+2*(aC ls).length) [PV.bool false]=bP (List.replicate (2*ls.length+2*(aC ls).length) false):=af;have kJ:(pS ls ls.length).length=au Let.aw ls/2:=by have:=ok.cr;unfold lz at this;simp only[bQ,beq_iff_eq] at this;simp[pS,this.2]
 have rX:au Let.aw ls<=ls.length:=sM _ _;refine ba c84 ?_;simp only[go_sem,i84,m1,m2,m3,kL,Cx];refine⟨aD,?_⟩;generalize hN:2*ls.length+2*(aC ls).length=N at kL;refine cQ (fun k aj blk=>aj 0=.one (.p (tH F ls))/\aj 4=.one (.hsl 5376128064 1 1 0 N)/\blk 5376128064=(1,some (.arr 4 1 (bP (dC (aO ls) N k).2)))/\
   aj 5=vi (dC (aO ls) N k).1.length/\aj 24=vi N/\aj 25=vi k) 0 N (aY _) ?_ ?_
 .simp only[go_sem];exact⟨rfl,rfl,rfl⟩
 rintro k aj blk hk ⟨h0,h4,hS,h5,tM,tN⟩
 have hlen:=GW (aO ls) N k;have Ep:=Nx (aO ls) N k;by_cases aq:k<N
 .have aJ:((k:Int)<(N:Int)):=aa;have w1:=bG (n:=k) aa;have hs:=yG (aO ls) N k;generalize cA:dC (aO ls) N k=st at hlen hs hS h5 Ep;obtain⟨out,sn⟩:=st;simp only at hlen hS h5 Ep;obtain⟨b,hb⟩:=aI (ls:=sn) (k:=k) aa;have od:=tD hb;unfold uS at hs;have rY:sn.getD k true=b:=by rw[cJ,hb];rfl
  simp only[rY] at hs;cases b with
  |true=>have hs:dC (aO ls) N (k+1)=(out,sn):=hs;simp only[go_sem,i84_l3,i84_r2,h0,h4,hS,h5,tM,tN,aq,aJ,od,w1,hs]
  |false=>
   have hs:dC (aO ls) N (k+1)=(out++[(eZ (aO ls) (N+1) k sn).1],(eZ (aO ls) (N+1) k sn).2):=by rw[hs,hlen];rfl
   have Ey:=Kc sn;have w2:=bG (n:=out.length) aa;simp only[go_sem,i84_l3,h4,hS,h5,tM,tN,aq,aJ,od,w2];refine ajn ok (N+1) k sn _ _ ?_ ?_ ?_ ?_ aa aa aa ?_
   .simp only[go_sem,h0]
   .simp only[go_sem,h4,hlen]
   .simp only[go_sem,hS]
   .simp only[go_sem]
   intro aE ak q0 q4 q5 mO vD b1;simp only[go_sem,h0,h4,h5,tM,tN] at q0 q4 q5 mO vD;simp only[go_sem,i84_r2,q0,q4,q5,mO,vD,b1,w1,hs,aq];simp
 have:k=N:=aa;subst this;have he:eN ls=(dC (aO ls) k k).1.length:=by unfold eN fV aO;rw[hN]
 rw[<- he] at h5;have w3:=wrap_add (a:=(aC ls).length) (b:=au Let.aw ls/2) aa;have w4:IntKind.i64.wrap ((((aC ls).length+au Let.aw ls/2:Nat):Int)+2)=(((aC ls).length+au Let.aw ls/2+2:Nat):Int):=wrap_add (a:=(aC ls).length+au Let.aw ls/2) (b:=2) aa;have hb:(((eN ls:Nat):Int)==(((aC ls).length+au Let.aw ls/2+2:Nat):Int))=(eN ls==au Let.ay ls+au Let.aw ls/2+2):=by
  rw[Fz];cases h:(eN ls==au Let.ay ls+au Let.aw ls/2+2) with
  |true=>simp at h ⊢;omega
  |false=>simp at h ⊢;omega
 simp only[go_sem,i84_l3,i84_r4,h0,h5,tM,tN,dZ,AU,kJ,w3,w4,hb];exact aD
abbrev Kq(id:Nat):Prop:=id=1408320128\/(nQ id=49\/nQ id=82\/nQ id=83)
def ail(F:Nat)(ls:List Let)(g:Nat)(blk:aB):Prop:= ∃g1 g2 g3 g4 g5,
 blk 1408320128=(g,some (.var (u7 F ls (hs 5248128448 g2 ls.length) (hs 5249344128 g5 (aC ls).length) (hs 5248192448 g3 ls.length) (.k9 5312256064 g4) (hs 5248064448 g1 (F+1)))))/\
 blk 5248064448=(g1,some (.arr 3 1 (nP (counts ls F))))/\blk 5248128448=(g2,some (.arr 4 1 (bP (pE ls))))/\blk 5248192448=(g3,some (.arr 3 1 (nP (jO ls ls.length))))/\
 blk 5249344128=(g5,some (.arr 3 1 (nP (aC ls))))/\blk 5312256064=(g4,some (.map true (pS ls ls.length)))
def Qv(F:Nat)(ls:List Let):Bool:=decide (ls=[])||lV F ls
def Wj(F:Nat)(ls:List Let)(g:Nat)(jQ:aB)(v:V)(ak:aB):Prop:=v=vb (Qv F ls)/\Kept Kq jQ ak/\(ls≠[]->lV F ls=true->ail F ls g ak)/\(ls=[]->ak 1408320128=jQ 1408320128)
theorem VW:S.sites 49=[49,82,83]:=ah
theorem aeb:S.sites 82=[82]:=ah
theorem aec:S.sites 83=[83]:=ah
theorem Kept.QB{K K':Nat->Prop}{a b:aB}(h:Kept K a b)(hk:∀id,K id->K' id):Kept K' a b:=fun id hn=>h id fun hh=>hn (hk id hh)
abbrev Dc(g:Nat):List (List C):=[[.hfn 80 [.bt 1408320128 g 0] []],[.hfn 81 [.bt 1408320128 g 0] []],[.hfn 82 [.bt 1408320128 g 0] []],[.hfn 83 [.bt 1408320128 g 0] []],[.hfn 84 [.bt 1408320128 g 0] []]]
section
variable {al:Al} {Q:ef} {aj:Env} {blk:aB} {g g0:Nat}
theorem Wn(k:Nat){f:Nat}{dv:PV}{r:List Nat}{b:Bool}(hk:k<5)(hf:(Dc g)[k]?=some [.hfn f [.bt 1408320128 g 0] []])(I1:S.shared f=false)(oV:al.ok 3136192640=true)
  (lR:aj 22=.one (hs 3136192640 g0 5)) (l5:aj 23=vi 5) (tM:aj 24=vi k) (bV:blk 3136192640=(g0,some (.iT 26 1 (Dc g))))
  (se:nT blk (.one (.bt 1408320128 g 0))=some (.one (.p dv),r)) (hr:al.gG r=true) (hp:aH S f [.one (.p dv)] (rb b))
  (Ue:b=false->∀aE,aE 2=vb false->Q .ret aE blk)
  (UJ:b=true->∀aE,aE 22=.one (hs 3136192640 g0 5)->aE 23=vi 5->aE 24=vi ((k+1:Nat):Int)->W S al (.loop i49_l1) Q aE blk):W S al (.loop i49_l1) Q aj blk:=by
 refine oU ?_;have aq:((k:Int)<5):=aa;have w1:=bG (n:=k) aa;cases b with
 |false=>simp only[go_sem,i49_l1,lR,l5,tM,bV,aq,hk,hf,I1,oV,↓se,aas hp,hr];exact Ue rfl _ (by simp only[go_sem])
 |true=>
  simp only[go_sem,i49_l1,lR,l5,tM,bV,aq,hk,hf,I1,oV,↓se,aas hp,hr,w1];refine UJ rfl _ ?_ ?_ ?_
  .simp only[go_sem,lR]
  .simp only[go_sem,l5]
  simp only[go_sem]
theorem afd(k:Nat){f:Nat}{P:V->aB->Prop}{b:Bool}(hk:k<5)(hf:(Dc g)[k]?=some [.hfn f [.bt 1408320128 g 0] []])(I1:S.shared f=true)(oV:al.ok 3136192640=true)
  (lR:aj 22=.one (hs 3136192640 g0 5)) (l5:aj 23=vi 5) (tM:aj 24=vi k) (bV:blk 3136192640=(g0,some (.iT 26 1 (Dc g))))
  (hh:al.holds (allow (S.ctx al) f [.one (.bt 1408320128 g 0)] blk)=true) (h:∃v ak,jd S f [.one (.bt 1408320128 g 0)] (allow (S.ctx al) f [.one (.bt 1408320128 g 0)] blk) blk v ak/\P v ak)
  (hP:∀v ak,P v ak->v=vb b)
  (Ue:b=false->∀v aE ak,P v ak->aE 2=vb false->Q .ret aE ak)
  (UJ:b=true->∀v aE ak,P v ak->aE 22=.one (hs 3136192640 g0 5)->aE 23=vi 5->aE 24=vi ((k+1:Nat):Int)->W S al (.loop i49_l1) Q aE ak):W S al (.loop i49_l1) Q aj blk:=by
 refine oU ?_;have aq:((k:Int)<5):=aa;have w1:=bG (n:=k) aa;simp only[go_sem,i49_l1,lR,l5,tM,bV,aq,hk,hf,I1,oV];refine wD hh h fun v ak hp=>?_;have hv:=hP v ak hp;subst hv;cases b with
 |false=>simp only[go_sem];exact Ue rfl _ _ _ hp (by simp only[go_sem])
 |true=>
  simp only[go_sem,tM,w1];refine UJ rfl _ _ _ hp ?_ ?_ ?_
  .simp only[go_sem,lR]
  .simp only[go_sem,l5]
  simp only[go_sem]
end
theorem art{al:Al}(kQ:al.ok 1408320128=true)(okf:∀id,(nQ id=49\/nQ id=82\/nQ id=83)->al.ok id=true)(f1:al.fs.contains 82=true)(f2:al.fs.contains 83=true)
  {blk:aB} {g F:Nat} {ls:List Let} (hl:ls.length<=1000000) (hF:F<=1000000)
  (bD:blk 1408320128=(g,some (.var (u7 F ls (.p .nils) (.p .nils) (.p .nils) (.p .rj) (.p .nils))))):∃v ak,jd S 49 [.one (.bt 1408320128 g 0)] al blk v ak/\Wj F ls g blk v ak:=by
 have oV:=okf 3136192640 (.inl rfl);refine oY c49 (hU rfl) ?_;by_cases he:ls=[]
 .subst he;have hz:(((0:Nat):Int)==0)=true:=ae;simp only[go_sem,i49,bD,hz,kQ];exact⟨rfl,Kept.refl _ _,fun h=>absurd rfl h,fun _=>rfl⟩
 have ff:=iR.2 he;have Cu:(((ls.length:Nat):Int)==0)=false:=by simp;omega
 obtain⟨l0,h0⟩:=aI ff;have vd:decide (ls=[])=false:=by simp[he]
 have pl:=aim F ls (.sl []) (.sl []) (.sl []) .rj (.sl []) hl ⟨rfl,rfl,rfl,rfl,rfl⟩;have pb:=aif F ls l0 (.sl []) (.sl []) (.sl []) .rj (.sl []) hl h0;have aa9:=MK (F:=F) (ls:=ls);have fail:∀aE ak,Kept Kq blk ak->lV F ls=false->aE 2=vb false->rG 0 (Bj S al i49_r2 (qL al [(2,none)] (Wj F ls g blk))) .ret aE ak:=fun aE ak hk hv h2=>by simp only[go_sem,h2];exact⟨by rw[Qv,vd,hv];rfl,hk,fun _ h=>(by rw[hv] at h;cases h),fun h=>absurd h he⟩
 have noL:vu F ls=false->lV F ls=false:=fun h=>by simp[lV,h]
 have Va:¬(ls.any (de F)=false/\yB ls=true/\lz ls=true)->lV F ls=false:=fun h=>noL (by
  cases hq:vu F ls with
  |false=>rfl
  |true=>exact absurd (aa9.1 hq) h)
 simp only[go_sem,i49,bD,Cu,kQ,oV];have cM:Kept Kq blk (cZ blk 3136192640 ((blk 3136192640).1+1,some (.iT 26 1 (Dc g)))):=Kept.cZ (Kept.refl _ _) (.inr (.inl rfl)) _;generalize aR:cZ blk 3136192640 ((blk 3136192640).1+1,some (.iT 26 1 (Dc g)))=bc;rw[aR] at cM;have bV:bc 3136192640=((blk 3136192640).1+1,some (.iT 26 1 (Dc g))):=by rw[<- aR];simp only[go_sem]
 have bD:bc 1408320128=(g,some (.var (u7 F ls (.p .nils) (.p .nils) (.p .nils) (.p .rj) (.p .nils)))):=by rw[<- aR];simp only[go_sem,bD]
 clear aR;have se:nT bc (.one (.bt 1408320128 g 0))=some (.one (.p (Ic F ls (.sl []) (.sl []) (.sl []) .rj (.sl []))),[1408320128]):=by simp only[go_sem,bD]
 have pN:al.gG [1408320128]=true:=by simp only[go_sem,kQ]
 refine Wn 0 aa rfl s80 oV (by simp only[go_sem]) (by simp only[go_sem];rfl) (by simp only[go_sem];rfl) bV se pN pl (fun hb aE h2=>fail aE bc cM (Va fun h=>by simp[h.1] at hb) h2) (fun hb aE zS rm mO=>?_);have aR:ls.any (de F)=false:=by simpa using hb
 have mH:∀l∈ls,de F l=false:=fun l hl=>by simpa using Dh.1 aR l hl
 have hg:ql F ls:=fun l hl hp=>((lU hp).1 (mH l hl)).1.1.1;refine Wn 1 aa rfl s81 oV zS rm mO bV se pN pb (fun hb aE h2=>fail aE bc cM (by simp only[lV,h0,hb];rfl) h2) (fun hbg aE zS rm mO=>?_);clear hb;have hre:mh bc (.one (.bt 1408320128 g 0))=[1408320128]:=by rw[VH bD];simp[VG]
 refine afd (b:=yB ls) 2 aa rfl ah oV zS rm mO bV ?_ (aoq (BA (by simp[hre])) (fun id h=>Kw (by rw[aeb,h];rfl)) hl hF hg bD) (fun v ak h=>h.1) ?_ ?_
 .refine holds_of ?_ ?_
  .show al.gG ([V.one (.bt 1408320128 g 0)].map (mh bc)).flatten=true;simp only[dG,lK,hre,mR,List.flatten_nil,oN];exact pN
  show(S.sites 82).all al.fs.contains=true;rw[aeb];simp only[uT,yH,f1];rfl
 .intro hb v aE ak hp h2;exact fail aE ak (cM.trans (hp.2.1.QB fun id h=>h.elim .inl fun h=>.inr (.inr (.inl h)))) (Va fun h=>by rw[h.2.1] at hb;cases hb) h2
 intro kK v aE aT hp zS rm mO;obtain⟨_,r4,nH⟩:=hp;obtain⟨g1,g2,g3,g5,bD,bC,bW,o9,bA⟩:=nH kK;have jT:BG F ls:=by obtain⟨a,b⟩:=(GL hg).1 kK;exact⟨a,b⟩
 rw[agS jT] at bA;rw[Dt hg] at bD;have bV:aT 3136192640=((blk 3136192640).1+1,some (.iT 26 1 (Dc g))):=by rw[<- bV];exact r4 _ ae
 have aa6:Kept Kq blk aT:=cM.trans (r4.QB fun id h=>h.elim .inl fun h=>.inr (.inr (.inl h)));have oC:=okf 5248064448 (.inr (.inl rfl));have oW:=okf 5248128448 (.inr (.inl rfl));have oP:=okf 5248192448 (.inr (.inl rfl));have oA:=okf 5249344128 (.inr (.inl rfl));have oM:=okf 5312256064 (.inr (.inr rfl));have Mv:mh aT (.one (.bt 1408320128 g 0))=[1408320128,5248128448,5249344128,5248192448,5248064448]:=by rw[VH bD];simp only[dG,lK,VG,JM bW,JM bA,JM o9,JM bC,mR,List.flatten_nil,gZ,oN,mq]
 refine afd (b:=lz ls) 3 aa rfl ah oV zS rm mO bV ?_ (aih (BA (by simp[Mv])) (fun id h=>Kw (by rw[aec,h];rfl)) hl bD) (fun v ak h=>h.1) ?_ ?_
 .refine holds_of ?_ ?_
  .show al.gG ([V.one (.bt 1408320128 g 0)].map (mh aT)).flatten=true;simp only[dG,lK,Mv,mR,List.flatten_nil,oN,Vc,Vd,kQ,oC,oW,oP,oA,Fl]
  show(S.sites 83).all al.fs.contains=true;rw[aec];simp only[uT,yH,f2];rfl
 .intro hb v aE ak hp h2;exact fail aE ak (aa6.trans (hp.2.1.QB fun id h=>h.elim .inl fun h=>.inr (.inr (.inr h)))) (Va fun h=>by rw[h.2.2] at hb;cases hb) h2
 intro dX v aE jz hp zS rm mO;obtain⟨_,hk3,hr3⟩:=hp;obtain⟨g4,bD,bM⟩:=hr3 dX;have kp:∀id,nQ id=82->jz id=aT id:=fun id h=>hk3 id (by
  rintro (e|e)
  .rw[e] at h;revert h;decide
  rw[e] at h;revert h;decide)
 rw[<- kp _ rfl] at bC bW o9 bA;have bV:jz 3136192640=((blk 3136192640).1+1,some (.iT 26 1 (Dc g))):=by rw[<- bV];exact hk3 _ ae
 have aa7:Kept Kq blk jz:=aa6.trans (hk3.QB fun id h=>h.elim .inl fun h=>.inr (.inr (.inr h)));have ok:eP F ls:=⟨hl,jT,dX,fun l hl=>yW (mH l hl)⟩;have pf:=ajq ok;have hlR:vu F ls=true:=aa9.2 ⟨aR,kK,dX⟩;have hvr:lV F ls=(eN ls==au Let.ay ls+au Let.aw ls/2+2):=by
  have aaU:(l0.kind==1)=true/\(au Let.ay ls%2==0)=true:=by simpa using hbg
  simp only[lV,h0,aaU.1,aaU.2,hlR,Bool.true_and]
 have t1:List.take ls.length (bP (pE ls))=bP (pE ls):=fY (by simp[pE]);have t2:List.take (aC ls).length (nP (aC ls))=nP (aC ls):=fY af;have t3:List.take ls.length (nP (jO ls ls.length))=nP (jO ls ls.length):=fY (by simp[jO]);have t4:List.take (F+1) (nP (counts ls F))=nP (counts ls F):=fY (by simp[counts]);have n1:ls.length<=(pE ls).length:=by simp[pE]
 have n3:ls.length<=(jO ls ls.length).length:=by simp[jO]
 have n4:F+1<=(counts ls F).length:=by simp[counts]
 have se:nT jz (.one (.bt 1408320128 g 0))=some (.one (.p (tH F ls)),[1408320128,5248128448,5249344128,5248192448,5312256064,5248064448]):=by simp only[go_sem,aep,bD,bW,bA,o9,bC,bM,V4,t1,t2,t3,t4,n1,n3,n4]
 have pN:al.gG [1408320128,5248128448,5249344128,5248192448,5312256064,5248064448]=true:=by simp only[Vc,Vd,kQ,oC,oW,oP,oA,oM,Fl]
 refine Wn 4 aa rfl s84 oV zS rm mO bV se pN pf (fun hb aE h2=>fail aE jz aa7 (by rw[hvr];exact hb) h2) (fun qu aE zS rm mO=>?_);have hv:lV F ls=true:=by rw[hvr];exact qu
 refine oU ?_;have n5:¬((((4+1:Nat)):Int)<5):=ae;simp only[go_sem,i49_l1,i49_r2,rm,mO,n5];exact⟨by rw[Qv,vd,hv];rfl,aa7,fun _ _=>⟨g1,g2,g3,g4,g5,bD,bC,bW,o9,bA,bM⟩,fun h=>absurd h he⟩
abbrev dgE(f:Int):PV:=Ic f [] (.sl []) (.sl []) (.sl []) .rj (.sl [])
abbrev uQ(a b:PV):RV:=.tup [.one (.p a),.one (.p b)]
def JN(f:Int)(ls:List Let):RV:=if iD f ls=0 then uQ (if ls=[] then dgE f else tH f.toNat ls) (.int .i64 0) else uQ .xg (.int .i64 (iD f ls))
theorem iz{blk:aB}{s:Nat}{a b:PV}{l:Bool}:land blk [] s ((uQ a b).gV l)=some (.tup [.one (.p a),.one (.p b)],[]):=by cases l<;>rfl
theorem Nb{f:Int}{e:Int}(h:iD f ls=e)(he:e≠0):JN f ls=uQ .xg (.int .i64 e):=by unfold JN;rw[h,if_neg he]
theorem Nc{f:Int}(h:iD f ls=0):JN f ls=uQ (if ls=[] then dgE f else tH f.toNat ls) (.int .i64 0):=by unfold JN;rw[if_pos h]
theorem VI(f:Int)(ls:List Let)(hl:ls.length<=1000000):aH S 22 [fP f ls] (JN f ls):=by
 have pc:=Rw f ls hl;refine ba c22 ?_;by_cases h1:400<ls.length
 .have jI:(400:Int)<(ls.length:Int):=aa;rw[Nb (e:=7) (by unfold iD;rw[if_pos (Or.inl h1)]) ae];simp only[go_sem,i22,jI];rfl
 have jI:¬(400:Int)<(ls.length:Int):=aa;by_cases h2:200<au Let.aw ls
 .have ij:(200:Int)<(au Let.aw ls:Int):=aa;rw[Nb (e:=7) (by unfold iD;rw[if_pos (Or.inr h2)]) ae];simp only[go_sem,i22,jI,ij,s48,dV pc];rfl
 have ij:¬(200:Int)<(au Let.aw ls:Int):=aa;have n1:¬(400<ls.length\/200<au Let.aw ls):=aa;by_cases h3:f<0
 .rw[Nb (e:=2) (by unfold iD;rw[if_neg n1,if_pos (Or.inl h3)]) ae];simp only[go_sem,i22,jI,ij,h3,s48,dV pc];rfl
 by_cases h4:40<f
 .rw[Nb (e:=2) (by unfold iD;rw[if_neg n1,if_pos (Or.inr h4)]) ae];simp only[go_sem,i22,jI,ij,h3,h4,s48,dV pc];rfl
 have n2:¬(f<0\/40<f):=aa;obtain⟨F,rfl⟩:=oL (show 0<=f by omega);have eC:S.shared 49=true:=ah;simp only[go_sem,i22,jI,ij,h3,h4,s48,dV pc,eC];refine wD (P:=Wj F ls 1 _) Cv (art (F:=F) (ls:=ls) ?_ ?_ ?_ ?_ hl aa ?_) ?_
 .refine BA ?_;rw[dG,lK,VH (g0:=1) (cs:=u7 F ls (.p .nils) (.p .nils) (.p .nils) (.p .rj) (.p .nils)) (by simp only[go_sem])];simp
 .intro id h;refine Kw ?_;rw[VW];rcases h with h|h|h<;>rw[h]<;>rfl
 .show(S.sites 49).contains _=true;rw[VW];rfl
 .show(S.sites 49).contains _=true;rw[VW];rfl
 .simp only[go_sem]
 rintro v ak ⟨rfl,hk,hr,hz⟩
 unfold Qv;by_cases he:ls=[]
 .have hc:iD F ls=0:=by unfold iD;rw[if_neg n1,if_neg n2,if_pos he]
  have bD:=hz he;rw[Nc hc,if_pos he];have vd:(decide (ls=[])||lV F ls)=true:=by simp[he]
  rw[vd];subst he;simp only[go_sem] at bD;simp only[go_sem];simp only[go_sem,kx,tL,wA,oa,mN,lG,bD];rfl
 have vd:decide (ls=[])=false:=by simp[he]
 cases hv:lV F ls with
 |false=>rw[Nb (e:=3) (by unfold iD;rw[if_neg n1,if_neg n2,if_neg he,hv];rfl) ae];rw[vd,Df];simp only[go_sem];rfl
 |true=>
  have hc:iD F ls=0:=by unfold iD;rw[if_neg n1,if_neg n2,if_neg he,hv];rfl
  rw[Nc hc,if_neg he];obtain⟨g1,g2,g3,g4,g5,bD,bC,bW,o9,bA,bM⟩:=hr he hv;have hFn:(F:Int).toNat=F:=rfl;rw[hFn];have t1:List.take ls.length (bP (pE ls))=bP (pE ls):=fY (by simp[pE]);have t2:List.take (aC ls).length (nP (aC ls))=nP (aC ls):=fY af;have t3:List.take ls.length (nP (jO ls ls.length))=nP (jO ls ls.length):=fY (by simp[jO]);have t4:List.take (F+1) (nP (counts ls F))=nP (counts ls F):=fY (by simp[counts]);have n1:ls.length<=(pE ls).length:=by simp[pE]
  have n3:ls.length<=(jO ls ls.length).length:=by simp[jO]
  have n4:F+1<=(counts ls F).length:=by simp[counts]
  rw[vd,Df];simp only[go_sem];simp only[go_sem,kx,tL,wA,oa,mN,lG,aep,bD,bW,bA,o9,bC,bM,V4,t1,t2,t3,t4,n1,n3,n4];rfl
abbrev gK(k a b c:Int)(l o:Bool)(s:Int):V:=.agg [.p (.int .i64 k),.p (.int .i64 a),.p (.int .i64 b),.p (.int .i64 c),.p (.bool l),.p (.bool o),.p (.int .i64 s)]
abbrev th(e:Int):RV:=.tup [.agg [.p (.int .i64 0),.p .nils],.one (.p (.int .i64 e))]
theorem alV{blk:aB}{s:Nat}{e:Int}{l:Bool}:land blk [] s ((th e).gV l)=some (.tup [.agg [.p (.int .i64 0),.p .nils],.one (.p (.int .i64 e))],[]):=by cases l<;>rfl
section
variable {f:Int} {ls:List Let} {e:Int}
abbrev kinds(k:Nat):List Nat:=(List.range k).map (· +1)
theorem alR(k:Nat):nP (kinds (k+1))=nP (kinds k)++[[.int .i64 ((k+1:Nat):Int)]]:=by simp[kinds,uv]
def outK(k:Nat)(v:V)(blk:aB):Prop:=(k=0/\v=.one (.p .nils))\/(k≠0/\ ∃g,v=.one (.hsl 1088320192 g 1 0 k)/\blk 1088320192=(g,some (.arr 27 1 (nP (kinds k)))))
end
def gQ(n v:Nat)(fw:Bool):Nat:=if fw then 2*((v+n-1)%n) else 2*v+1
def lvV(n e:Nat):Nat:=if e%2=0 then e/2 else (e/2+1)%n
theorem xe{n:Nat}(hv:v<n):((v+n-1)%n+1)%n=v:=by
 by_cases h:v=0
 .subst h;rw[jc,fK (show n-1<n by omega),show n-1+1=n by omega,xz]
 rw[show v+n-1=(v-1)+n by omega,uX,fK (show v-1<n by omega),show v-1+1=v by omega,fK hv]
theorem EL{n:Nat}(hv:v<n):((v+1)%n+n-1)%n=v:=by
 by_cases h:v+1=n
 .rw[h,xz,jc,fK (show n-1<n by omega)];omega
 rw[fK (show v+1<n by omega),show v+1+n-1=v+n by omega,uX,fK hv]
theorem acj{n:Nat}(hv:v<n)(g:Bool):lvV n (dk n v g)=v/\(dk n v g%2==0)=g:=by
 unfold lvV dk;cases g with
 |true=>have h1:(2*v)%2=0:=aa;simp only[if_true,h1];exact⟨aa,rfl⟩
 |false=>have h1:(2*((v+n-1)%n)+1)%2=1:=aa;have h2:(2*((v+n-1)%n)+1)/2=(v+n-1)%n:=aa;simp only[eY,if_false,h1,h2,Nat.one_ne_zero,xe hv];exact⟨trivial,rfl⟩
def JE(ls:List Let)(ax:List Nat)(e:Nat):Nat:=
 if 2*ls.length<=e then
  if e%2=0 then gQ ls.length (ax.getD ((e-2*ls.length)/2) 0) (dn ls (ax.getD ((e-2*ls.length)/2) 0))
  else gQ ls.length (ax.getD (((e-2*ls.length)/2+1)%ax.length) 0) (!dn ls (ax.getD (((e-2*ls.length)/2+1)%ax.length) 0))
 else
  let v:=lvV ls.length e
  let g:=e%2==0
  match ls[v]? with
  |none=>0
  |some l=>if l.kind==2 then
    match ls[fH ls v]? with
    |some u=>gQ ls.length (fH ls v) (g==(u.over==(u.sign==1)))
    |none=>0
   else if g==dn ls v then 2*ls.length+2*ax.idxOf v+1 else 2*ls.length+2*((ax.idxOf v+ax.length-1)%ax.length)
theorem pW(hr:lz ls=true){i:Nat}{l:Let}(hl:ls[i]?=some l)(hc:l.aw=true):fH ls (fH ls i)=i/\ ∃m,ls[fH ls i]?=some m/\m.aw=true/\m.id=l.id/\m.over= !l.over/\m.sign=l.sign:=by
 obtain⟨h1,h2⟩:=PA hr hl hc;obtain⟨_,h3⟩:=GV h1;obtain⟨m,hm,mc,mi,mo⟩:=Au h3;have hp:GG ls:=by have:=hr;unfold lz at this;simp only[bQ,beq_iff_eq,iC,fk] at this;exact(Ha.1 this.1.2).2
 have aK:i≠fH ls i:=by intro e;rw[<- e,hl] at hm;cases hm;revert mo;cases l.over<;>simp
 obtain⟨h4,h5⟩:=PA hr hm mc;obtain⟨_,h6⟩:=GV h4;obtain⟨x,hx,xc,xi,xo⟩:=Au h6;refine⟨?_,m,hm,mc,mi,mo,((hp i _ l m hl hm hc mc mi.symm aK).2).symm⟩;refine Decidable.byContradiction fun hn=>?_;have:=(hp _ i x l hx hl xc hc (by rw[xi,mi]) hn).1;rw[xo,mo] at this;revert this;cases l.over<;>simp
theorem ae2{ax:List Nat}{d:Nat}{fw:Bool}{l:Let}(h:¬2*ls.length<=d)(yf:(d%2==0)=fw)(hv:v=if fw then (d/2+1)%ls.length else d/2)(hl:ls[v]?=some l):
  fN ls ax d=if l.kind==2 then dk ls.length (fH ls v) (fw==(l.over==(l.sign==1)))
   else if dn ls v==fw then 2*ls.length+2*ax.idxOf v else 2*ls.length+2*((ax.idxOf v+ax.length-1)%ax.length)+1:=by
 subst yf;subst hv;unfold fN;rw[if_neg h];simp only[hl]
theorem adv(ok:eP F ls){d:Nat}(hd:d<2*ls.length+2*(aC ls).length):JE ls (aC ls) (fN ls (aC ls) d)=d:=by
 have jT:∀x∈aC ls,x<ls.length/\ ∃l,ls[x]?=some l/\l.ay=true:=fun x hx=>by obtain⟨l,h1,h2⟩:=tB.1 hx;exact⟨(aV.1 h1).1,l,h1,h2⟩
 have Uh:∀ {p v:Nat},(aC ls)[p]?=some v->(aC ls).idxOf v=p:=fun {p v} hp=>by obtain⟨l,hl,Co,he⟩:=yV ok.ax hp;rw[HD ok.ax hl Co,he]
 have along_small:∀ {v:Nat} (g:Bool),v<ls.length-> ¬2*ls.length<=dk ls.length v g:=fun {v} g hv=>by have:=Fv (n:=ls.length) (fw:=g) hv;omega
 have notC:∀ {l:Let},l.ay=true->(l.kind==2)=false:=fun {l} h=>mA h;have fromAxis:∀ {p v:Nat} (g:Bool),(aC ls)[p]?=some v->JE ls (aC ls) (dk ls.length v g)=if g==dn ls v then 2*ls.length+2*p+1 else 2*ls.length+2*((p+(aC ls).length-1)%(aC ls).length):=by intro p v g hp;obtain⟨hv,l,hl,Co⟩:=jT v (aQ hp);obtain⟨e1,e2⟩:=acj hv g;unfold JE;rw[if_neg (along_small g hv)];simp only[e1,e2,hl,notC Co,Uh hp];rfl
 by_cases h:2*ls.length<=d
 .unfold fN;rw[if_pos h];have hm:=dw ((d-2*ls.length)/2+1) (show 0<(aC ls).length by omega);by_cases h2:d%2=0
  .rw[if_pos h2];obtain⟨v,hv⟩:=aI hm;have qC:(aC ls).getD (((d-2*ls.length)/2+1)%(aC ls).length) 0=v:=by rw[cJ,hv];rfl
   rw[qC,fromAxis _ hv];have hb:((!dn ls v)==dn ls v)=false:=by cases dn ls v<;>rfl
   rw[hb,EL (show(d-2*ls.length)/2<(aC ls).length by omega)];simp only[eY,if_false];omega
  rw[if_neg h2];obtain⟨v,hv⟩:=aI (ls:=aC ls) (k:=(d-2*ls.length)/2) aa;have qC:(aC ls).getD ((d-2*ls.length)/2) 0=v:=by rw[cJ,hv];rfl
  rw[qC,fromAxis _ hv];simp only[beq_self_eq_true,if_true];omega
 have hn:0<ls.length:=aa;have pK:=dw (d/2+1) hn;have key:∀(v:Nat) (fw:Bool),v<ls.length->(d%2==0)=fw->v=(if fw then (d/2+1)%ls.length else d/2)->gQ ls.length v fw=d:=by
  intro v fw hv yf fi;unfold gQ;cases fw with
  |true=>
   have yf:d%2=0:=by simpa using yf
   simp only[if_true] at fi ⊢;rw[fi,EL (show d/2<ls.length by omega)];omega
  |false=>
   have yf:d%2≠0:=by simpa using yf
   simp only[eY,if_false] at fi ⊢;omega
 generalize hv:(if (d%2==0)=true then (d/2+1)%ls.length else d/2)=v;generalize yf:(d%2==0)=fw at hv;have ss:v<ls.length:=by rw[<- hv];split<;>omega
 have Eg:=key v fw ss yf hv.symm;obtain⟨l,hl⟩:=aI ss;rw[ae2 h yf hv.symm hl];cases hk:(l.kind==2) with
 |true=>
  have hc:l.aw=true:=hk;obtain⟨hb,m,hm,mc,mi,mo,ms⟩:=pW ok.cr hl hc;have Mq:=(PA ok.cr hl hc).2;rw[if_pos rfl];obtain⟨e1,e2⟩:=acj Mq (fw==(l.over==(l.sign==1)));unfold JE;rw[if_neg (along_small _ Mq)];have mk:(m.kind==2)=true:=mc;simp only[e1,e2,hm,mk,if_true,hb,hl];have Ca:((fw==(l.over==(l.sign==1)))==(l.over==(l.sign==1)))=fw:=by cases fw<;>cases (l.over==(l.sign==1))<;>rfl
  rw[Ca];exact Eg
 |false=>
  have hp:=ok.Pj hl hk;have Mg:=HD ok.ax hl hp;have bh:=QZ ok.ax hl hp;have hpT:=(aV.1 bh).1;rw[if_neg af,Mg];cases hq:(dn ls v==fw) with
  |true=>
   simp only[if_true];unfold JE;rw[if_pos aa,if_pos aa];have e1:(2*ls.length+2*dJ ls l-2*ls.length)/2=dJ ls l:=aa;have e2:(aC ls).getD (dJ ls l) 0=v:=by rw[cJ,bh];rfl
   rw[e1,e2,show dn ls v=fw by simpa using hq];exact Eg
  |false=>
   have kJ:=dw (dJ ls l+(aC ls).length-1) (show 0<(aC ls).length by omega);simp only[eY,if_false];unfold JE;rw[if_pos aa,if_neg aa];have e1:(2*ls.length+2*((dJ ls l+(aC ls).length-1)%(aC ls).length)+1-2*ls.length)/2=(dJ ls l+(aC ls).length-1)%(aC ls).length:=aa;have e2:(aC ls).getD (dJ ls l) 0=v:=by rw[cJ,bh];rfl
   rw[e1,xe hpT,e2,show(!dn ls v)=fw by revert hq;cases dn ls v<;>cases fw<;>simp];exact Eg
theorem arn(ok:eP F ls){d e:Nat}(hd:d<2*ls.length+2*(aC ls).length)(he:e<2*ls.length+2*(aC ls).length)(h:aO ls d=aO ls e):d=e:=by have h1:=adv ok hd;have h2:=adv ok he;rw[<- h1,<- h2];exact congrArg _ h
def JG(next:Nat->Nat)(n2:Nat):Nat->Nat->List Bool->List Nat×List Bool
 |0,_,sp=>([],sp)
 |k+1,x,sp=>if x<n2 then
   if sp.getD x true then ([],sp) else (x::(JG next n2 k (next x) (sp.set x true)).1,(JG next n2 k (next x) (sp.set x true)).2)
  else (x::(JG next n2 k (next x) sp).1,(JG next n2 k (next x) sp).2)
abbrev sn(S:List Bool)(x:Nat):Bool:=S.getD x true
theorem Nk{S:List Bool}{y:Nat}(hx:x<S.length):sn (S.set x true) y=if y=x then true else sn S y:=by
 unfold sn;rw[cJ,cJ,mT];by_cases h:x=y
 .subst h;simp[hx]
 rw[if_neg h,if_neg (fun e=>h e.symm)]
structure yN (next:Nat->Nat) (n2 N:Nat):Prop where
 le:n2<=N
 lt:∀x,x<N->next x<N
 inj:∀x y,x<N->y<N->next x=next y->x=y
 ax:∀x,x<N->n2<=x->next x<n2
def Kp(next:Nat->Nat)(N:Nat)(S:List Bool):Prop:=∀y,y<N->sn S y=sn S (next y)
structure Inv (next:Nat->Nat) (N d:Nat) (S:List Bool) (x:Nat):Prop where
 i1:∀y,y<N->sn S (next y)=true->sn S y=true\/next y=d
 i2:∀y,y<N->sn S y=true->sn S (next y)=true\/next y=x
 i4:sn S x=true->x=d
 pr:(x=d/\sn S x=false)\/ ∃p,p<N/\next p=x/\sn S p=true
theorem Inv.start{next:Nat->Nat}{N d:Nat}{S:List Bool}(h:Kp next N S)(hd:sn S d=false):Inv next N d S d:=
 ⟨fun y hy hs=>.inl (by rw[h y hy];exact hs),fun y hy hs=>.inl (by rw[<- h y hy];exact hs),fun _=>rfl,.inl ⟨rfl,hd⟩⟩
theorem Inv.stop{next:Nat->Nat}{N d:Nat}{S:List Bool}(m:yN next n2 N)(h:Inv next N d S x)(hx:sn S x=true):Kp next N S:=by
 have hxd:=h.i4 hx;subst hxd;intro y hy;cases h1:sn S y with
 |true=>
  rcases h.i2 y hy h1 with h2|h2
  .rw[h2]
  rw[h2,hx]
 |false=>
  cases h2:sn S (next y) with
  |false=>rfl
  |true=>
   rcases h.i1 y hy h2 with h3|h3
   .rw[h3] at h1;cases h1
   rcases h.pr with ⟨_,h4⟩|⟨p,hp,jL,dh⟩
   .rw[hx] at h4;cases h4
   have:=m.inj y p hy hp (by rw[h3,jL]);rw[this,dh] at h1;cases h1
theorem Inv.step{next:Nat->Nat}{N d:Nat}{S:List Bool}(m:yN next n2 N)(hl:S.length=N)(zK:x<N)(h:Inv next N d S x)(hx:sn S x=false):Inv next N d (S.set x true) (next x):=by
 have wX:x<S.length:=aa;refine⟨fun y hy hs=>?_,fun y hy hs=>?_,fun hs=>?_,.inr ⟨x,zK,rfl,by rw[Nk wX,if_pos rfl]⟩⟩
 .rw[Nk wX] at hs ⊢;by_cases e:next y=x
  .rcases h.pr with ⟨h1,_⟩|⟨p,hp,jL,dh⟩
   .exact .inr (by rw[e,h1])
   have:=m.inj y p hy hp (by rw[e,jL]);left;rw[this];split
   .rfl
   exact dh
  rw[if_neg e] at hs;rcases h.i1 y hy hs with h2|h2
  .left;split
   .rfl
   exact h2
  exact .inr h2
 .rw[Nk wX] at hs ⊢;by_cases e:y=x
  .subst e;exact .inr rfl
  rw[if_neg e] at hs;rcases h.i2 y hy hs with h2|h2
  .left;split
   .rfl
   exact h2
  left;rw[if_pos h2]
 rw[Nk wX] at hs;by_cases e:next x=x
 .rcases h.pr with ⟨h1,_⟩|⟨p,hp,jL,dh⟩
  .rw[e,h1]
  have:=m.inj p x hp zK (by rw[jL,e]);rw[this,hx] at dh;cases dh
 rw[if_neg e] at hs;rcases h.i1 x zK hs with h2|h2
 .rw[hx] at h2;cases h2
 exact h2
theorem VY{S:List Bool}(hx:x<n2)(hl:n2<=S.length):(S.take n2).getD x true=sn S x:=by unfold sn;rw[cJ,cJ,jm,if_pos hx]
theorem aeU{S:List Bool}:(S.take n2).set x true=(S.set x true).take n2:=by rw[<- List.take_set]
theorem aeT{S:List Bool}(hx:n2<=x):(S.set x true).take n2=S.take n2:=by rw[List.take_set];exact NJ (by rw[fJ];omega)
theorem arE{next:Nat->Nat}{N d:Nat}(m:yN next n2 N)(hd:d<n2):∀(fuel x:Nat) (S:List Bool),S.length=N->x<N->Inv next N d S x->yF S<fuel->
  Kp next N (eZ next fuel x S).2/\JG next n2 fuel x (S.take n2)=((eZ next fuel x S).1,(eZ next fuel x S).2.take n2):=by
 intro fuel
 induction fuel with
 |zero=>intro x S _ _ _ h;omega
 |succ fuel ih=>
  intro x S hl hx hi hu;have hle:=m.le;unfold eZ JG;cases hs:S.getD x true with
  |true=>have hxd:=hi.i4 hs;have aq:x<n2:=aa;rw[if_pos aq,VY aq aa,show sn S x=true from hs];exact⟨hi.stop m hs,rfl⟩
  |false=>
   have I4:S[x]?=some false:=by
    rw[cJ] at hs;cases h1:S[x]? with
    |none=>rw[h1] at hs;cases hs
    |some b=>rw[h1] at hs;exact congrArg some hs
   have Ez:=Nu I4;obtain⟨c1,c2⟩:=ih (next x) (S.set x true) (by rw[nX,hl]) (m.lt x hx) (hi.step m hl hx hs) aa;simp only[eY,if_false];refine⟨c1,?_⟩;by_cases aq:x<n2
   .rw[if_pos aq,VY aq aa,show sn S x=false from hs];simp only[eY,if_false];rw[aeU,c2]
   rw[if_neg aq];rw[aeT aa] at c2;rw[c2]
theorem eP.jT(_:eP F ls):∀x∈aC ls,x<ls.length:=fun _ h=>NV h
theorem eP.hp(ok:eP F ls):∀v l,ls[v]?=some l->(l.kind==2)=false->v∈aC ls:=fun _ l hv h2=>tB.2 ⟨l,hv,ok.Pj hv h2⟩
abbrev nD(ls:List Let):Nat:=2*ls.length+2*(aC ls).length
theorem maps(ok:eP F ls):yN (aO ls) (2*ls.length) (nD ls):=by
 refine⟨by unfold nD;omega,fun x hx=>Qu ok.jT ok.hp hx,fun x y hx hy h=>arn ok hx hy h,fun x hx hn=>?_⟩;have hx:x<2*ls.length+2*(aC ls).length:=hx;have Cj:∀k,k<(aC ls).length->(aC ls).getD k 0<ls.length:=fun k hk=>by obtain⟨v,hv⟩:=aI hk;rw[cJ,hv];exact ok.jT v (aQ hv)
 have hm:=dw ((x-2*ls.length)/2+1) (show 0<(aC ls).length by omega);show fN ls (aC ls) x<_;unfold fN;rw[if_pos hn];split
 .exact Fv (Cj _ hm)
 exact Fv (Cj _ aa)
theorem afh(next:Nat->Nat):∀(k x:Nat) (S:List Bool) (y:Nat),sn S y=true->sn (eZ next k x S).2 y=true:=by
 intro k
 induction k with
 |zero=>intro x S y h;exact h
 |succ k ih=>
  intro x S y h;unfold eZ;split
  .exact h
  refine ih _ _ _ ?_;unfold sn;rw[cJ,mT];split
  .split<;>rfl
  rw[<- cJ];exact h
theorem aff(next:Nat->Nat)(k x:Nat)(S:List Bool)(hk:yF S<k):sn (eZ next k x S).2 x=true:=by
 cases k with
 |zero=>omega
 |succ k=>
  unfold eZ;cases hs:S.getD x true with
  |true=>simpa using hs
  |false=>
   simp only[eY,if_false];refine afh _ _ _ _ _ ?_;unfold sn;rw[cJ,mT];split
   .split<;>rfl
   rename_i h;exact absurd rfl h
section
variable {next:Nat->Nat} {n2 N:Nat}
theorem VX(h:x<N):sn (List.replicate N false) x=false:=by unfold sn;rw[cJ,List.getElem?_replicate,if_pos h];rfl
theorem Qx(m:yN next n2 N):∀k,k<=n2->Kp next N (dC next N k).2/\ ∀x,x<k->sn (dC next N k).2 x=true:=by
 intro k
 induction k with
 |zero=>intro _;refine⟨fun y hy=>?_,fun x h=>absurd h (tA x)⟩;show sn (List.replicate N false) y=sn (List.replicate N false) (next y);rw[VX hy,VX (m.lt y hy)]
 |succ k ih=>
  intro hk;obtain⟨c,s⟩:=ih aa;have hlen:=GW next N k;have hle:=m.le;rw[yG];unfold uS;cases hs:(dC next N k).2.getD k true with
  |true=>
   simp only[if_true];refine⟨c,fun x hx=>?_⟩;rcases nZ.1 hx with h|rfl
   .exact s x h
   exact hs
  |false=>
   simp only[eY,if_false];have Ey:=Kc (dC next N k).2;obtain⟨c1,_⟩:=arE m (show k<n2 by omega) ((dC next N k).2.length+1) k (dC next N k).2 hlen aa (Inv.start c hs) aa;refine⟨c1,fun x hx=>?_⟩;rcases nZ.1 hx with h|rfl
   .exact afh _ _ _ _ _ (s x h)
   exact aff _ _ _ _ aa
theorem Wo(m:yN next n2 N):∀k,n2<=k->k<=N->dC next N k=dC next N n2:=by
 intro k
 induction k with
 |zero=>intro h _;rw[show n2=0 by omega]
 |succ k ih=>
  intro h1 h2;by_cases e:n2=k+1
  .rw[e]
  rw[yG,ih aa aa];obtain⟨c,s⟩:=Qx m n2 (aZ _);unfold uS;have:(dC next N n2).2.getD k true=true:=by have h3:=c k aa;have h4:=s (next k) (m.ax k aa aa);show sn (dC next N n2).2 k=true;rw[h3,h4]
  rw[this];rfl
end

abbrev jF(o:List (Nat×Nat)):List (List PV):=o.map fun p=>[PV.int .i64 (p.1:Int),PV.int .i64 (p.2:Int)]
theorem anA{o:List (Nat×Nat)}{k:Nat}{p:Nat×Nat}(h:o[k]?=some p):(jF o)[k]?=some [.int .i64 (p.1:Int),.int .i64 (p.2:Int)]:=by simp[h]
def oJ(g r to:Nat):List (Nat×Nat):=(g,r)::(List.range (to-g)).map fun i=>(g+1+i,0)
def ui(g to:Nat):List Nat:=(List.range (to-g)).map fun i=>g+1+i
abbrev CP:Nat:=147
def gN (ls:List Let)(i:Nat):Nat:=match ls[i]? with|some l=>l.gate.toNat|none=>0
def rN (ls:List Let)(i:Nat):Nat:=match ls[i]? with|some l=>l.aA.toNat|none=>0
theorem B3{i:Nat}{l:Let}(h:ls[i]?=some l):gN ls i=l.gate.toNat:=by simp[gN,h]
theorem VD{i:Nat}{l:Let}(h:ls[i]?=some l):rN ls i=l.aA.toNat:=by simp[rN,h]
def pX(F:Nat)(ls:List Let)(j:Nat):List (Nat×Nat):=
 let u:=(aC ls).getD j 0
 let v:=(aC ls).getD ((j+1)%(aC ls).length) 0
 if j+1<(aC ls).length then oJ (gN ls u) (rN ls u) (gN ls v) else oJ (gN ls u) (rN ls u) F++oJ 0 0 (gN ls v)
def CO(F:Nat)(ls:List Let)(j:Nat):List Nat:=
 let u:=(aC ls).getD j 0
 let v:=(aC ls).getD ((j+1)%(aC ls).length) 0
 if j+1<(aC ls).length then ui (gN ls u) (gN ls v) else ui (gN ls u) F++ui 0 (gN ls v)
theorem JC(a b:List (Nat×Nat)):jF (a++b)=jF a++jF b:=af
theorem Jq(a b:List Nat):nP (a++b)=nP a++nP b:=af
theorem Bi(g r to:Nat):(oJ g r to).length=to-g+1:=by simp[oJ]
theorem Qn(g to:Nat):(ui g to).length=to-g:=by simp[ui]
theorem QY(ok:eP F ls)(hj:j<(aC ls).length):∃u l,(aC ls)[j]?=some u/\(aC ls).getD j 0=u/\ls[u]?=some l/\l.ay=true/\sP F ls l:=by obtain⟨u,hu⟩:=aI hj;obtain⟨l,h1,h2⟩:=tB.1 (aQ hu);exact⟨u,l,hu,by rw[cJ,hu];rfl,h1,h2,ok.ax.eQ l (aQ h1) h2⟩
structure Fc where
 ek:Bool
 dd:List Nat
 places:List (Nat×Nat)
 wx:List Nat
 outer:Bool
def Fc.ps(f:Fc):List PV:=[.bool f.ek,.sl (nP f.dd),.sl (jF f.places),.sl (nP f.wx),.bool f.outer]
def Fc.add(F:Nat)(ls:List Let)(f:Fc)(x:Nat):Fc:=
 if x<2*ls.length then {f with dd:=f.dd++[x]}
 else {f with places:=f.places++(if x%2=0 then pX F ls ((x-2*ls.length)/2) else (pX F ls ((x-2*ls.length)/2)).reverse),wx:=f.wx++(if x%2=0 then CO F ls ((x-2*ls.length)/2) else (CO F ls ((x-2*ls.length)/2)).reverse),outer:=f.outer||decide ((x-2*ls.length)/2+1=(aC ls).length)}
def Fc.new(ls:List Let)(d:Nat):Fc:=⟨dn ls (d/2+1),[],[],[],false⟩
def BZ(F:Nat)(ls:List Let)(w:List Nat)(k:Nat):Fc:=(w.take k).foldl (Fc.add F ls) (Fc.new ls (w.headD 0))
def lA(F:Nat)(ls:List Let)(w:List Nat):Fc:=w.foldl (Fc.add F ls) (Fc.new ls (w.headD 0))
def dS(F:Nat)(ls:List Let):List Fc:=(fV (aO ls) (nD ls)).map (lA F ls)
theorem ZU(F:Nat)(ls:List Let)(w:List Nat):BZ F ls w w.length=lA F ls w:=by unfold BZ lA;rw[jo]
theorem ZW{w:List Nat}{k:Nat}(h:w[k]?=some x):BZ F ls w (k+1)=(BZ F ls w k).add F ls x:=by unfold BZ;rw[kW,h,Bq];rfl
theorem Iu(ok:eP F ls)(hj:j<(aC ls).length):gN ls ((aC ls).getD j 0)<=F:=by obtain⟨u,l,_,du,hl,_,hg⟩:=QY ok hj;rw[du,B3 hl];have:=hg.g1;have:=hg.g0;omega
theorem Vn(ok:eP F ls)(hj:j<(aC ls).length):(pX F ls j).length<=2*F+2:=by have h1:=Iu ok hj;have h2:=Iu ok (dw (j+1) (show 0<(aC ls).length by omega));unfold pX;simp only;split<;>simp only[fc,Bi]<;>omega
theorem Vm(ok:eP F ls)(hj:j<(aC ls).length):(CO F ls j).length<=2*F+2:=by have h1:=Iu ok hj;have h2:=Iu ok (dw (j+1) (show 0<(aC ls).length by omega));unfold CO;simp only;split<;>simp only[fc,Qn]<;>omega
theorem ZV(ok:eP F ls){w:List Nat}(hw:∀x∈w,x<nD ls):∀k,k<=w.length->(BZ F ls w k).dd.length<=k/\(BZ F ls w k).places.length<=k*(2*F+2)/\(BZ F ls w k).wx.length<=k*(2*F+2):=by
 intro k
 induction k with
 |zero=>intro _;exact⟨aZ _,aY _,aY _⟩
 |succ k ih=>
  intro hk;obtain⟨x,hx⟩:=aI (show k<w.length by omega);obtain⟨i1,i2,i3⟩:=ih aa;have vr:=hw x (aQ hx);rw[ZW hx,Nat.succ_mul];unfold Fc.add;by_cases h:x<2*ls.length
  .rw[if_pos h];simp only[fc,cE,dQ];exact⟨aa,aa,aa⟩
  rw[if_neg h];have hj:(x-2*ls.length)/2<(aC ls).length:=by unfold nD at vr;omega
  have l1:=Vn ok hj;have l2:=Vm ok hj;refine⟨by simp only;omega,?_,?_⟩
  .simp only[fc];split<;>(try rw[xy])<;>omega
  simp only[fc];split<;>(try rw[xy])<;>omega
theorem arA(next:Nat->Nat):∀(k x:Nat) (S:List Bool),∀y∈(eZ next k x S).1,y<S.length:=by
 intro k
 induction k with
 |zero=>intro x S y h;simp[eZ] at h
 |succ k ih=>
  intro x S y h;unfold eZ at h;cases hs:S.getD x true with
  |true=>rw[hs] at h;simp at h
  |false=>
   rw[hs] at h;have hx:x<S.length:=by
    rcases Nat.lt_or_ge x S.length with h1|h1
    .exact h1
    rw[cJ,mS h1] at hs;cases hs
   simp only[eY,if_false,cT] at h;rcases h with rfl|h
   .exact hx
   have:=ih _ _ y h
   simpa using this
theorem arB(next:Nat->Nat):∀(k x:Nat) (S:List Bool),(eZ next k x S).1.length<=yF S:=by
 intro k
 induction k with
 |zero=>intro x S;simp[eZ]
 |succ k ih=>
  intro x S;unfold eZ;cases hs:S.getD x true with
  |true=>simp
  |false=>
   have I4:S[x]?=some false:=by
    rw[cJ] at hs;cases h1:S[x]? with
    |none=>rw[h1] at hs;cases hs
    |some b=>rw[h1] at hs;exact congrArg some hs
   have Ez:=Nu I4;have:=ih (next x) (S.set x true);simp only[eY,if_false,cE];omega
theorem afe(next:Nat->Nat){k:Nat}{S:List Bool}(h:S.getD x true=false):∃t,(eZ next (k+1) x S).1=x::t:=by unfold eZ;rw[h];exact⟨_,rfl⟩
theorem arF(next:Nat->Nat)(N:Nat):∀k,∀w∈(dC next N k).1,(∃d t,w=d::t/\d<k)/\w.length<=N/\ ∀y∈w,y<N:=by
 intro k
 induction k with
 |zero=>intro w h;simp[dC] at h
 |succ k ih=>
  intro w h;rw[yG] at h;unfold uS at h;have hlen:=GW next N k;have old:w∈(dC next N k).1->(∃d t,w=d::t/\d<k+1)/\w.length<=N/\ ∀y∈w,y<N:=fun h=>by obtain⟨⟨d,t,h1,h2⟩,h3⟩:=ih w h;exact⟨⟨d,t,h1,aa⟩,h3⟩
  cases hs:(dC next N k).2.getD k true with
  |true=>simp only[hs,if_true] at h;exact old h
  |false=>
   simp only[hs,eY,if_false,fq,j6] at h;rcases h with h|rfl
   .exact old h
   obtain⟨t,ht⟩:=afe next (k:=(dC next N k).2.length) hs;refine⟨⟨k,t,ht,aa⟩,?_,fun y hy=>?_⟩
   .have h1:=arB next ((dC next N k).2.length+1) k (dC next N k).2;have h2:=Kc (dC next N k).2;omega
   have:=arA next _ _ _ y hy;omega
theorem zZ(ok:eP F ls):∀w∈fV (aO ls) (nD ls),(∃d t,w=d::t/\d<2*ls.length)/\w.length<=nD ls/\ ∀y∈w,y<nD ls:=by intro w h;unfold fV at h;rw[Wo (maps ok) (nD ls) (by unfold nD;omega) (aZ _)] at h;exact arF (aO ls) (nD ls) _ w h
abbrev An:Nat:=93
theorem ar2{a b:PV}{id g z o l:Nat}{cp cf:C}:Bl [[.p a,.hsl id g z o l,cp,cf,.p b]]=none:=rfl
theorem aiC{blk:aB}{s g ty sd td zd sp tp zp sf tf zf:Nat}{a o:Bool}{cd cp cf:C}{D P G:List (List PV)}(hb:blk s=(g,some (.iT ty 5 [[.p (.bool a),cd,cp,cf,.p (.bool o)]])))(gd:grown sd td zd D (.one cd) blk)(gp:grown sp tp zp P (.one cp) blk)(gf:grown sf tf zf G (.one cf) blk):
  ∃fr,eT blk (.one (.hsl s g 5 0 1))=some ([[.bool a,.sl D,.sl P,.sl G,.bool o]],[s],fr)/\vS blk fr/\ ∀i∈fr,i=sd\/i=sp\/i=sf:=by
 obtain⟨r1,n1,a1,q1⟩:=gd.Qi;obtain⟨r2,n2,a2,q2⟩:=gp.Qi;obtain⟨r3,n3,a3,q3⟩:=gf.Qi;refine⟨r1++(r2++r3),?_,a1.app (a2.app a3),fun i hi=>?_⟩
 .simp only[eT,hb];simp[collect,n1,n2,n3,Ql,PV.norm]
 simp only[fq] at hi;rcases hi with hi|hi|hi
 .rcases q1 with rfl|rfl<;>simp at hi;exact .inl hi
 .rcases q2 with rfl|rfl<;>simp at hi;exact .inr (.inl hi)
 rcases q3 with rfl|rfl<;>simp at hi;exact .inr (.inr hi)
abbrev ni(l:List Fc):List (List PV):=l.map Fc.ps
theorem af2(F:Nat)(ls:List Let):∀(w:List Nat) (f:Fc),f.dd≠[]->(w.foldl (Fc.add F ls) f).dd≠[]:=by
 intro w
 induction w with
 |nil=>intro f h;exact h
 |cons x w ih=>
  intro f h;refine ih _ ?_;unfold Fc.add;split
  .simp
  exact h
theorem ai5{d:Nat}{t:List Nat}(h:d<2*ls.length):(lA F ls (d::t)).dd≠[]:=by unfold lA;refine af2 F ls t _ ?_;unfold Fc.add;rw[show(d::t).headD 0=d from rfl,if_pos h];simp
def uz(ls:List Let)(k:Nat):List Bool:=(List.range ls.length).map fun i=>decide (i<k)&& !dn ls (i+1)
theorem Xz(ls:List Let)(k:Nat):(uz ls k).length=ls.length:=by simp[uz]
theorem ag1(ls:List Let):uz ls 0=List.replicate ls.length false:=by
 refine xx fun i=>?_;simp only[uz,fX,List.getElem?_replicate];by_cases h:i<ls.length
 .simp[h]
 rw[mS (by simpa using h),if_neg h];rfl
theorem ag0(ls:List Let)(k:Nat):uz ls (k+1)=(uz ls k).set k (!dn ls (k+1)):=by
 refine xx fun i=>?_;rw[mT,Xz];simp only[uz,fX];by_cases h:i<ls.length
 .rw[tu h];by_cases e:k=i
  .subst e;simp[h]
  simp only[kX,e,if_false];congr 2;exact decide_eq_decide.2 aa
 rw[mS (by simpa using h)];by_cases e:k=i
 .subst e;rw[if_pos rfl,if_neg h];rfl
 rw[if_neg e];rfl
abbrev BJ(ls:List Let):List Bool:=uz ls ls.length
theorem ag2{i:Nat}(h:i<ls.length):(BJ ls)[i]?=some (!dn ls (i+1)):=by simp[uz,h]
theorem ag4(ok:eP F ls):aH S 65 [.one (.p (tH F ls))] (.one (.own 4 1 (bP (BJ ls)))):=by
 have hl:=ok.hl;have kL:ls.length<=140737488355328:=aa;have Cx:List.replicate ls.length [PV.bool false]=bP (uz ls 0):=by rw[ag1];simp
 refine ba c65 ?_;simp only[go_sem,i65,kL,Cx];refine cQ (fun k aj blk=>aj 0=.one (.p (tH F ls))/\aj 3=.one (.hsl 4160064384 1 1 0 ls.length)/\blk 4160064384=(1,some (.arr 4 1 (bP (uz ls k))))/\
   aj 4=vb (!dn ls k)/\aj 18=.one (.p (pR ls))/\aj 19=vi ls.length/\aj 20=vi k) 0 ls.length (aY _) ?_ ?_
 .simp only[go_sem];first|exact⟨rfl,rfl⟩|exact⟨rfl,rfl,rfl⟩|exact⟨rfl,rfl,rfl,rfl⟩|exact rfl
 rintro k aj blk hk ⟨h0,h3,hA,h4,rW,zn,mF⟩
 by_cases aq:k<ls.length
 .obtain⟨l,cM⟩:=aI aq;have hi:=lf cM;have aJ:((k:Int)<(ls.length:Int)):=aa;have w1:=bG (n:=k) aa;have hlen:k<(uz ls k).length:=by rw[Xz];exact aq
  obtain⟨b0,iL⟩:=aI hlen;have od:=tD iL;have km:=HF (uz ls k) k (!dn ls (k+1));rw[<- ag0] at km;cases hp:(l.kind==1) with
  |true=>have hd:=DE cM hp;have akb:=tD (N9 cM hp);rw[hd] at km;rw[Bool.not_not] at km;simp only[go_sem,i65_l1,h0,h3,hA,h4,rW,zn,mF,hi,Let.ps,aq,aJ,w1,hp,akb,od,km,hd]
  |false=>have hd:=Ig cM hp;rw[hd] at km;simp only[go_sem,i65_l1,h0,h3,hA,h4,rW,zn,mF,hi,Let.ps,aq,aJ,w1,hp,od,km,hd]
 have:k=ls.length:=aa;subst this;simp only[go_sem,i65_l1,i65_r2,h3,zn,mF,dZ];exact MY hA (by simp[uz])
abbrev ED(id:Nat):Prop:=nQ id=139
theorem aev{g r T k:Nat}(h:k<=T-g):(oJ g r T)[k]?=some (g+k,if k=0 then r else 0):=by
 cases k with
 |zero=>rfl
 |succ k=>unfold oJ;rw[List.getElem?_cons_succ,fX,tu aa];simp;omega
theorem aqh{g T k:Nat}(h:k<T-g):(ui g T)[k]?=some (g+1+k):=by unfold ui;rw[fX,tu h];rfl
def HL(g r T:Nat)(ps fs:List (List PV))(i1 i2:Nat)(blk:aB)(v:V)(ak:aB):Prop:=
 ∃c1 c2 j2,v=.tup [.one c1,.one c2]/\grown 8896320192 CP 2 (ps++jF (oJ g r T)) (.one c1) ak/\grown j2 3 1 (fs++nP (ui g T)) (.one c2) ak/\(j2=i2\/j2=8896256256)/\
  Kept (fun id=>ED id\/id=i1\/id=i2) blk ak
def bt1:List Nat:=[8896000000,8896000064,8896128128,8896256192,8896256256,8896320128]
def bt2:List Nat:=[8896000000,8896000064,8896128128,8896128192,8896256192,8896320128,8896320192]
theorem KE{al:Al}{blk:aB}{g r T t i1 i2:Nat}{ps fs:List (List PV)}{c1 c2:C}(okf:∀id,ED id->al.ok id=true)(o1:al.ok i1=true)(o2:al.ok i2=true)(hT:g<=T)(ht:t=if T=g then r else 0)(hb:T<=1000)(dh:ps.length<=1000000)(hfs:fs.length<=1000000)
  (n12:i1≠i2) (nb1:i1∉bt1) (nb2:i2∉bt2) (h1:grown i1 CP 2 ps (.one c1) blk) (h2:grown i2 3 1 fs (.one c2) blk):
  ∃v ak,jd S 139 [.agg [.p (.int .i64 g),.p (.int .i64 r)],.agg [.p (.int .i64 T),.p (.int .i64 t)],.one c1,.one c2] al blk v ak/\HL g r T ps fs i1 i2 blk v ak:=by
 have k0:al.ok 8896000000=true:=okf _ rfl;have k64:al.ok 8896000064=true:=okf _ rfl;have kb1:al.ok 8896128128=true:=okf _ rfl;have ka1:al.ok 8896128192=true:=okf _ rfl;have MI:al.ok 8896256192=true:=okf _ rfl;have ka2:al.ok 8896256256=true:=okf _ rfl;have kb3:al.ok 8896320128=true:=okf _ rfl;have ka3:al.ok 8896320192=true:=okf _ rfl;refine oY c139 (hU rfl) ?_;simp only[go_sem,i139,k0,k64];have lenP:=Bi g r T;have lenF:=Qn g T;refine cQ (fun k aj ak=>aj 4=.one (.bt 8896000000 ((blk 8896000000).1+1) 0)/\aj 5=.one (.bt 8896000064 ((blk 8896000064).1+1) 0)/\
   ak 8896000000=((blk 8896000000).1+1,some (.var [.p (.int .i64 ((g+k:Nat):Int)),.p (.int .i64 ((if k=0 then r else 0:Nat):Int))]))/\ak 8896000064=((blk 8896000064).1+1,some (.var [.p (.int .i64 T),.p (.int .i64 t)]))/\
   ∃d1 d2 j1 j2,aj 2=.one d1/\aj 3=.one d2/\(j1=i1\/j1=8896128192)/\(j2=i2\/j2=8896256256)/\grown j1 CP 2 (ps++jF ((oJ g r T).take k)) (.one d1) ak/\grown j2 3 1 (fs++nP ((ui g T).take k)) (.one d2) ak/\Kept (fun id=>ED id\/id=i1\/id=i2) blk ak) 0 (T-g) (aY _) ?_ ?_
 .simp only[go_sem];refine⟨rfl,c1,c2,i1,i2,rfl,rfl,.inl rfl,.inl rfl,?_,?_,?_⟩
  .exact(h1.of_eq (aN (Pr nb1 (by simp[bt1])))).of_eq (aN (Pr nb1 (by simp[bt1])))
  .exact(h2.of_eq (aN (Pr nb2 (by simp[bt2])))).of_eq (aN (Pr nb2 (by simp[bt2])))
  exact((Kept.refl _ _).cZ (.inl rfl) _).cZ (.inl rfl) _
 rintro k aj ak hk ⟨h4,h5,hA,hB,d1,d2,j1,j2,e2,e3,q1,q2,g1,g2,cU⟩
 have oj1:al.ok j1=true:=by rcases q1 with rfl|rfl<;>assumption
 have oj2:al.ok j2=true:=by rcases q2 with rfl|rfl<;>assumption
 have n1:∀a,a∈bt1->j1≠a:=fun a ha e=>by
  rcases q1 with rfl|rfl
  .exact nb1 (e▸ha)
  exact absurd (e▸ha) ae
 have n2:∀a,a∈bt2->j2≠a:=fun a ha e=>by
  rcases q2 with rfl|rfl
  .exact nb2 (e▸ha)
  exact absurd (e▸ha) ae
 have n3:j1≠j2:=fun e=>by
  rcases q1 with rfl|rfl
  .rcases q2 with rfl|rfl
   .exact n12 e
   exact n1 _ ae e
  exact n2 _ ae e.symm
 have kj1:ED j1\/j1=i1\/j1=i2:=by
  rcases q1 with rfl|rfl
  .exact .inr (.inl rfl)
  exact .inl rfl
 have kj2:ED j2\/j2=i1\/j2=i2:=by
  rcases q2 with rfl|rfl
  .exact .inr (.inr rfl)
  exact .inl rfl
 have ltk:((oJ g r T).take k).length=k:=by rw[fJ];omega
 have ltf:((ui g T).take k).length=k:=by rw[fJ];omega
 by_cases aq:k<T-g
 .have aJ:(((g+k:Nat):Int)<(T:Int)):=aa;have w1:IntKind.i64.wrap (((g+k:Nat):Int)+1)=((g+(k+1):Nat):Int):=bG (n:=g+k) aa;have hp:jF ((oJ g r T).take (k+1))=jF ((oJ g r T).take k)++[[.int .i64 ((g+k:Nat):Int),.int .i64 ((if k=0 then r else 0:Nat):Int)]]:=by
   rw[kW,aev aa,JC];rfl
  have hf:nP ((ui g T).take (k+1))=nP ((ui g T).take k)++[[.int .i64 ((g+(k+1):Nat):Int)]]:=by rw[kW,aqh aq,Jq,show g+1+k=g+(k+1) by omega];rfl
  simp only[go_sem,i139_l1,h4,h5,hA,hB,e2,aJ,k0,k64,kb1];refine OG (id:=j1) (site:=8896128192) (bytes:=16) (xs:=[[.int .i64 ((g+k:Nat):Int),.int .i64 ((if k=0 then r else 0:Nat):Int)]]) (rd:=[8896128128]) (by simp[ka1,oj1,kb1]) (g1.of_eq (aN (n1 _ ae))) (by simp[eT,aS]) (.inl rfl) (by simp only[fc,cF,ltk,cE,dQ];omega) fun c aT hc aU=>?_;have hA2:=(aU 8896000000 ae (n1 _ ae).symm).trans ((aN ae).trans hA);have uH:=(aU 8896000064 ae (n1 _ ae).symm).trans ((aN ae).trans hB);simp only[go_sem,h4,hA2,e3,w1,k0,MI]
  refine OG (id:=j2) (site:=8896256256) (bytes:=8) (xs:=[[.int .i64 ((g+(k+1):Nat):Int)]]) (rd:=[8896256192]) (by simp[ka2,oj2,MI]) (g2.of_eq ((aN (n2 _ ae)).trans ((aN (n2 _ ae)).trans ((aU _ (n2 _ ae) n3.symm).trans (aN (n2 _ ae)))))) (by simp[eT,aS]) (.inl rfl) (by simp only[fc,cF,ltf,cE,dQ];omega) fun c' jz ki kG=>?_;have hA3:=(kG 8896000000 ae (n2 _ ae).symm).trans ((aN ae).trans rz);have hB3:=(kG 8896000064 ae (n2 _ ae).symm).trans ((aN ae).trans ((aN ae).trans uH));simp only[go_sem,h4,h5,hA3,hB3,e2,e3,aq];refine⟨rfl,c,c',8896128192,8896256256,rfl,rfl,.inr rfl,.inr rfl,?_,?_,fun id hn=>?_⟩
  .rw[hp,<- qG];exact hc.of_eq ((kG _ ae (n2 _ ae).symm).trans ((aN ae).trans (aN ae)))
  .rw[hf,<- qG];exact ki
  have a:∀x,ED x->id≠x:=fun x hx e=>hn (.inl (e▸hx));have b1:id≠j1:=fun e=>hn (e▸kj1);have b2:id≠j2:=fun e=>hn (e▸kj2);exact(kG id (a _ rfl) b2).trans ((aN (a _ rfl)).trans ((aN (a _ rfl)).trans ((aU id (a _ rfl) b1).trans ((aN (a _ rfl)).trans (cU id hn)))))
 have:k=T-g:=aa;subst this;have aJ:¬(((g+(T-g):Nat):Int)<(T:Int)):=aa;simp only[go_sem,i139_l1,i139_r2,h4,h5,hA,hB,e2,aJ,k0,k64,kb3];have Ui:jF (oJ g r T)=jF ((oJ g r T).take (T-g))++[[.int .i64 (T:Int),.int .i64 (t:Int)]]:=by
  have h1:=kW (l:=oJ g r T) (i:=T-g);rw[aev (aZ _),fY (show(oJ g r T).length<=T-g+1 by omega)] at h1;have e1:g+(T-g)=T:=aa;have e2:(if T-g=0 then r else 0)=t:=by
   rw[ht];by_cases h:T=g
   .rw[if_pos h,if_pos aa]
   rw[if_neg h,if_neg aa]
  rw[e1,e2] at h1;exact(congrArg (fun l:List (Nat×Nat)=>jF l) h1).trans (JC _ _)
 have eK:(ui g T).take (T-g)=ui g T:=fY aa;refine OG (id:=j1) (site:=8896320192) (bytes:=16) (xs:=[[.int .i64 (T:Int),.int .i64 (t:Int)]]) (rd:=[8896320128]) (by simp[ka3,oj1,kb3]) (g1.of_eq (aN (n1 _ ae))) (by simp[eT,aS]) (.inl rfl) (by simp only[fc,cF,ltk,cE,dQ];omega) fun c aT hc aU=>?_;simp only[go_sem,e3];refine⟨c,d2,j2,rfl,?_,?_,q2,fun id hn=>?_⟩
 .rw[Ui,<- qG];exact hc
 .rw[eK] at g2;exact g2.of_eq ((aU _ (n2 _ ae) n3.symm).trans (aN (n2 _ ae)))
 have a:∀x,ED x->id≠x:=fun x hx e=>hn (.inl (e▸hx));have b1:id≠j1:=fun e=>hn (e▸kj1);exact(aU id (a _ rfl) b1).trans ((aN (a _ rfl)).trans (cU id hn))
theorem Xu(ok:eP F ls)(hj:j<(aC ls).length):∃u l,(aC ls)[j]?=some u/\(aC ls).getD j 0=u/\ls[u]?=some l/\l.ay=true/\sP F ls l/\dJ ls l=j:=by obtain⟨u,l,h1,h2,h3,h4,h5⟩:=QY ok hj;obtain⟨l',k1,k2,k3⟩:=yV ok.ax h1;rw[h3] at k1;cases k1;exact⟨u,l,h1,h2,h3,h4,h5,k3⟩
theorem agT{pg pr qg qr:Nat}{p q:Let}(gp:sP F ls p)(gq:sP F ls q)(hp:dJ ls p=j)(hq:dJ ls q=j+1)(h1:p.gate=(pg:Int))(h2:p.aA=(pr:Int))(h3:q.gate=(qg:Int))(h4:q.aA=(qr:Int)):
  pg<=qg/\qr-1=if qg=pg then pr else 0:=by
 obtain⟨_,_,p1,p2⟩:=gp;obtain⟨_,_,q1,q2⟩:=gq;unfold dJ at hp hq;rw[h1,h2] at hp;rw[h3,h4] at hq;rw[h2] at p1;rw[h1,h2] at p2;rw[h4] at q1;rw[h3,h4] at q2;simp only[lJ] at hp hq p2 q2;have sp:=sO ls pg;have sq:=sO ls qg;have hle:pg<=qg:=by
  rcases Nat.lt_or_ge qg pg with h|h
  .have:=zg (ls:=ls) (show qg+1<=pg by omega);omega
  exact h
 refine⟨hle,?_⟩;by_cases e:qg=pg
 .subst e;rw[if_pos rfl];omega
 rw[if_neg e];have:=zg (ls:=ls) (show pg+1<=qg by omega);omega
theorem agR{qg qr:Nat}{q:Let}(gq:sP F ls q)(hq:dJ ls q=0)(h3:q.gate=(qg:Int))(h4:q.aA=(qr:Int)):qr-1=0:=by obtain⟨_,_,q1,q2⟩:=gq;unfold dJ at hq;rw[h3,h4] at hq;rw[h4] at q1;simp only[lJ] at hq;omega
theorem apJ:S.sites 139=[139]:=ah
theorem ux{vs:List V}{blk:aB}:∀id,ED id->(allow (S.ctx .all) 139 vs blk).ok id=true:=fun id h=>Kw (by rw[apJ,h];simp)
theorem aoI(ok:eP F ls)(hF:F<=1000)(hj:j<(aC ls).length):
  aH S 102 [.one (.p (tH F ls)),vi j] (.tup [.one (bK CP 2 (jF (pX F ls j))),.one (bK 3 1 (nP (CO F ls j)))]):=by
 have hl:=ok.hl;have iK:(aC ls).length<=1000000:=mU (uy ls ls.length) hl;have hm:=dw (j+1) (show 0<(aC ls).length by omega);obtain⟨u,p,hu,du,hp,pp,gp,xp⟩:=Xu ok hj;obtain⟨v,q,hv,dv,hq,pq,gq,xq⟩:=Xu ok hm;unfold pX CO;simp only[du,dv,B3 hp,B3 hq,VD hp];have ez:=lf hp;have Cw:=lf hq;have En:=iA hu;have yk:=iA hv;have e1:=uj (j+1) (aC ls).length;have w1:=bG (n:=j) aa;have w2:=G0 (a:=(aC ls).length) aa aa;have pK:¬(((aC ls).length:Int)=0):=aa
 have Eb:=gp.g0;have Ec:=gp.g1;have Ck:=gq.g0;have cM:=gq.g1;have IX:=gp.r0;have dI:=gp.r1;have jf:=gq.r0;have fL:=gq.r1;have hcg:cg ls p.gate.toNat<=ls.length:=sM _ _;have hcq:cg ls q.gate.toNat<=ls.length:=sM _ _;obtain⟨pg,h1⟩:=oL (show 0<=p.gate by omega);obtain⟨pr,h2⟩:=oL (show 0<=p.aA by omega);obtain⟨qg,h3⟩:=oL (show 0<=q.gate by omega);obtain⟨qr,h4⟩:=oL (show 0<=q.aA by omega);have wr:=G0 (a:=qr) (by rw[h4] at jf;omega) aa;have eC:S.shared 139=true:=ah;have El:=fun h=>agT gp gq xp (h:dJ ls q=j+1) h1 h2 h3 h4;have Uf:=fun h=>agR gq (h:dJ ls q=0) h3 h4
 rw[h1] at Ec dI hcg Eb;rw[h2] at dI IX;rw[h3] at Ck cM fL hcq;rw[h4] at jf fL;rw[h1,h2,h3];simp only[lJ] at dI hcg fL hcq ⊢;refine ba c102 ?_;by_cases aq:j+1<(aC ls).length
 .have aJ:(j:Int)<(((aC ls).length-1:Nat):Int):=aa;rw[fK aq] at xq;obtain⟨n1,n2⟩:=El xq;simp only[if_pos aq];simp only[go_sem,i102,En,yk,ez,Cw,Let.ps,w1,e1,w2,wr,aJ,pK,h1,h2,h3,h4,eC];refine⟨aD,?_⟩;refine wD (P:=HL pg pr qg [] [] 8896128192 8896256256 _) Cv (KE (g:=pg) (r:=pr) (T:=qg) (t:=qr-1) (c1:=.p .nils) (c2:=.p .nils) ux (ux _ rfl) (ux _ rfl) n1 n2 aa (aY _) (aY _) ae ae ae grown.nil grown.nil) ?_;rintro v ak ⟨c1,c2,j2,rfl,g1,g2,jK,cU⟩
  have jK:j2=8896256256:=by rcases jK with h|h<;>exact h
  subst jK;simp only[go_sem];exact Ll ae g1 g2
 have aJ:¬(j:Int)<(((aC ls).length-1:Nat):Int):=aa;have F6:(j+1)%(aC ls).length=0:=by rw[show j+1=(aC ls).length by omega,xz]
 rw[F6] at xq;have n2:=Uf xq;simp only[if_neg aq];have Ui:∃t:Nat,t=(if F=pg then pr else 0):=⟨_,rfl⟩;obtain⟨t,ht⟩:=Ui;have fin:∀(aj:Env) (blk:aB) (c1 c2:C),True:=fun _ _ _ _=>trivial;have ini:(((pg:Int)==(F:Int))=true/\t=pr/\F=pg)\/(((pg:Int)==(F:Int))=false/\t=0):=by
  by_cases h:F=pg
  .subst h;rw[if_pos rfl] at ht;exact .inl ⟨af,ht,rfl⟩
  rw[if_neg h] at ht;exact .inr ⟨by simp;omega,ht⟩
 rcases ini with ⟨hb,I5,hFp⟩|⟨hb,I5⟩
 .subst hFp;simp only[go_sem,i102,En,yk,ez,Cw,Let.ps,w1,e1,w2,wr,aJ,pK,h1,h2,h3,h4,eC,hb];refine⟨aD,?_⟩;refine⟨aD,?_⟩;refine wD (P:=HL F pr F [] [] 8896128192 8896256256 _) Cv (KE (g:=F) (r:=pr) (T:=F) (t:=pr) (c1:=.p .nils) (c2:=.p .nils) ux (ux _ rfl) (ux _ rfl) aa (by rw[if_pos rfl]) aa (aY _) (aY _) ae ae ae grown.nil grown.nil) ?_;rintro v bc ⟨c1,c2,j2,rfl,g1,g2,jK,cU⟩
  have jK:j2=8896256256:=by rcases jK with h|h<;>exact h
  subst jK;rw[gZ] at g1 g2;have hA:=cU 6528256384 ae;simp only[go_sem] at hA;simp only[go_sem,hA,eC];refine wD (P:=HL 0 0 qg (jF (oJ F pr F)) (nP (ui F F)) 8896320192 8896256256 _) Cv (KE (g:=0) (r:=0) (T:=qg) (t:=qr-1) (c1:=c1) (c2:=c2) ux (ux _ rfl) (ux _ rfl) (aY _) (by rw[n2];split<;>rfl) aa (by simp only[cF,Bi];omega) (by simp only[cF,Qn];omega) ae ae ae g1 g2) ?_;rintro v aT ⟨d1,d2,j3,rfl,k1,k2,yg,_⟩
  have yg:j3=8896256256:=by rcases yg with h|h<;>exact h
  subst yg;simp only[go_sem];rw[JC,Jq];exact Ll ae k1 k2
 simp only[go_sem,i102,En,yk,ez,Cw,Let.ps,w1,e1,w2,wr,aJ,pK,h1,h2,h3,h4,eC,hb];refine⟨aD,?_⟩;refine⟨aD,?_⟩;refine wD (P:=HL pg pr F [] [] 8896128192 8896256256 _) Cv (KE (g:=pg) (r:=pr) (T:=F) (t:=0) (c1:=.p .nils) (c2:=.p .nils) ux (ux _ rfl) (ux _ rfl) aa (by rw[I5] at ht;exact ht) aa (aY _) (aY _) ae ae ae grown.nil grown.nil) ?_;rintro v bc ⟨c1,c2,j2,rfl,g1,g2,jK,cU⟩
 have jK:j2=8896256256:=by rcases jK with h|h<;>exact h
 subst jK;rw[gZ] at g1 g2;have hA:=cU 6528256384 ae;simp only[go_sem] at hA;simp only[go_sem,hA,eC];refine wD (P:=HL 0 0 qg (jF (oJ pg pr F)) (nP (ui pg F)) 8896320192 8896256256 _) Cv (KE (g:=0) (r:=0) (T:=qg) (t:=qr-1) (c1:=c1) (c2:=c2) ux (ux _ rfl) (ux _ rfl) (aY _) (by rw[n2];split<;>rfl) aa (by simp only[cF,Bi];omega) (by simp only[cF,Qn];omega) ae ae ae g1 g2) ?_;rintro v aT ⟨d1,d2,j3,rfl,k1,k2,yg,_⟩
 have yg:j3=8896256256:=by rcases yg with h|h<;>exact h
 subst yg;simp only[go_sem];rw[JC,Jq];exact Ll ae k1 k2
end
end Go.Abs
