/- A part. -/
import Derived.Test.YtfgognempokgkaaGreatDoorWa
set_option linter.all false
set_option maxRecDepth 100000
set_option maxHeartbeats 16000000
namespace Go.Abs
section
variable{F j n2 v x:Nat}{ls:List Let}
abbrev oJ(F:Nat)(ls:List Let):PV:=Em F ls (.sl (bP (ll ls))) (.sl (nP (aD ls))) (.sl (nP (ib ls ls.length))) (.mp true (lI ls ls.length)) (.sl (nP (counts ls F)))
structure gU (F:Nat) (ls:List Let):Prop where
 hl:ls.length<=1000000
 ax:vX F ls
 cr:km ls=true
 kinds:∀l∈ls,l.aG=true\/l.aC=true
theorem ru{a:Nat}(h:a<=9223372036854775807):IntKind.i64.wrap ((a:Int)-1)=(a:Int)-1:=by
 cases a with
 |zero=>decide
 |succ a=>rw[Bl aa h];omega
theorem Wy{a n:Nat}(hn:1<=n)(h:a+n<=9223372036854775807):IntKind.i64.wrap (((a:Int)-1)+(n:Int))=((a+n-1:Nat):Int):=by have e:((a:Int)-1)+(n:Int)=((a+n-1:Nat):Int):=aa;rw[e];exact wrap_small aa
theorem Ma(F:Nat)(ls:List Let)(i:Nat)(hl:ls.length<=1000000)(hi:i<ls.length):aE S 113 [.one (.p (oJ F ls)),vi i] (ri (gn ls.length i true)):=by refine bd c113 ?_;have e:=mj (a:=i) aa;simp only[go_sem,i113,e,gn]
theorem JD(F:Nat)(ls:List Let)(i:Nat)(hl:ls.length<=1000000)(hi:i<ls.length):aE S 112 [.one (.p (oJ F ls)),vi i] (ri (gn ls.length i false)):=by refine bd c112 ?_;have e1:=ru (a:=i) aa;have e2:=Wy (a:=i) (n:=ls.length) aa aa;have e3:=rm (i+ls.length-1) ls.length;have hm:=eJ (i+ls.length-1) (show 0<ls.length by omega);have e4:=mj (a:=(i+ls.length-1)%ls.length) aa;have e5:=bj (n:=2*((i+ls.length-1)%ls.length)) aa;have hz:¬((ls.length:Int)=0):=aa;simp only[go_sem,i112,e1,e2,e3,e4,e5,hz,gn]
theorem Hl{l:Let}(h:ls[v]?=some l)(hp:l.aG=true):(ll ls)[v]?=some (dn ls v):=by have:=(bn.1 h).1;simp[ll,rz this,ko,h,hp]
theorem adA{l:Let}(h:ls[v]?=some l)(hp:l.aG=true):(ib ls ls.length)[v]?=some (cU ls l):=by have:=(bn.1 h).1;simp[ib,this,A6 h hp]
theorem gU.Ih(ok:gU F ls){l:Let}(h:ls[v]?=some l)(h2:(l.kind==2)=false):l.aG=true:=by
 rcases ok.kinds l (ba h) with hp|hc
 .exact hp
 unfold Let.aC at hc;rw[h2] at hc;cases hc
theorem Qi(ok:gU F ls)(d:Nat)(hd:d<2*ls.length+2*(aD ls).length):aE S 76 [.one (.p (oJ F ls)),vi d] (ri (eL ls (aD ls) d)):=by
 have hl:=ok.hl;have gI:(aD ls).length<=1000000:=mm (pQ ls ls.length) hl;have jA:∀x∈aD ls,x<ls.length/\ ∃l,ls[x]?=some l/\l.aG=true:=fun x hx=>by obtain⟨l,h1,h2⟩:=rF.1 hx;exact⟨(bn.1 h1).1,l,h1,h2⟩
 have m1:IntKind.i64.wrap (2*(ls.length:Int))=((2*ls.length:Nat):Int):=mj aa;unfold eL;by_cases h:2*ls.length<=d
 .rw[if_pos h];refine bd c76 ?_;have h':((2*ls.length:Nat):Int)<=(d:Int):=aa;have m2:=Oz (a:=d) (b:=2*ls.length) h aa;have m3:=wrap_small (n:=(d-2*ls.length)/2) aa;have hm:=eJ ((d-2*ls.length)/2+1) (show 0<(aD ls).length by omega);have lC:¬(((aD ls).length:Int)=0):=aa;obtain⟨u,hu⟩:=aL (ls:=aD ls) (k:=(d-2*ls.length)/2) aa;have yO:=fv hu;by_cases h2:d%2=0
  .rw[if_pos h2];have m4:=bj (n:=(d-2*ls.length)/2) aa;have fU:(((d%2:Nat):Int)==0)=true:=by simp[h2]
   have m5:=rm ((d-2*ls.length)/2+1) (aD ls).length;obtain⟨v,hv⟩:=aL hm;have qN:(aD ls).getD (((d-2*ls.length)/2+1)%(aD ls).length) 0=v:=by rw[cP,hv];rfl
   rw[qN];obtain⟨nq,l,jY,Av⟩:=jA v (ba hv);have vl:=fv hv;have eS:=oF (Hl jY Av);have pf:=Ma F ls v hl nq;have pb:=JD F ls v hl nq;cases hq:dn ls v with
   |true=>rw[hq] at eS;simp only[go_sem,i76,m1,m2,m3,m4,m5,h',fU,yO,vl,eS,lC,gR,eo,dw,s112,dR pb];exact⟨ay,ay⟩
   |false=>rw[hq] at eS;simp only[go_sem,i76,m1,m2,m3,m4,m5,h',fU,yO,vl,eS,lC,gR,eo,dw,s113,dR pf];exact⟨ay,ay⟩
  rw[if_neg h2];have fU:(((d%2:Nat):Int)==0)=false:=by simp;omega
  have qN:(aD ls).getD ((d-2*ls.length)/2) 0=u:=by rw[cP,hu];rfl
  rw[qN];obtain⟨nq,l,jY,Av⟩:=jA u (ba hu);have eS:=oF (Hl jY Av);have pf:=Ma F ls u hl nq;have pb:=JD F ls u hl nq;cases hq:dn ls u with
  |true=>rw[hq] at eS;simp only[go_sem,i76,m1,m2,m3,h',fU,yO,eS,gR,eo,dw,s113,dR pf];exact ay
  |false=>rw[hq] at eS;simp only[go_sem,i76,m1,m2,m3,h',fU,yO,eS,gR,eo,dw,s112,dR pb];exact ay
 rw[if_neg h];have h':¬(((2*ls.length:Nat):Int)<=(d:Int)):=aa;have m3:=wrap_small (n:=d/2) aa;have eX:¬((ls.length:Int)=0):=aa;have lC:=eJ (d/2+1) (show 0<ls.length by omega);have m4:=bj (n:=d/2) aa;have m5:=rm (d/2+1) ls.length;have body:∀v:Nat,v<ls.length->∀fw:Bool,v=(if fw then (d/2+1)%ls.length else d/2)->(((d%2:Nat):Int)==0)=fw->aE S 76 [.one (.p (oJ F ls)),vi d] (ri ((match ls[v]? with
   |none=>0
   |some l=>if l.kind==2 then gn ls.length (fL ls v) (fw==(l.over==(l.sign==1)))
    else if dn ls v==fw then 2*ls.length+2*(aD ls).idxOf v else 2*ls.length+2*(((aD ls).idxOf v+(aD ls).length-1)%(aD ls).length)+1:Nat):Int)):=by
  intro v hv fw dZ my;obtain⟨l,jY⟩:=aL hv;have fh:=iU jY;rw[jY];simp only;refine bd c76 ?_;cases hk:(l.kind==2) with
  |true=>
   have hc:l.aC=true:=hk;have bx:(l.kind==1)=false:=by simp only[beq_iff_eq] at hk;rw[hk];rfl
   obtain⟨yW,FU⟩:=IB ok.cr jY hc;have hf:=Sb ls ls.length l.id;rw[if_pos (HY (ba jY) hc)] at hf;have pf:=Ma F ls (fL ls v) hl FU;have pb:=JD F ls (fL ls v) hl FU;cases ho:l.over with
   |true=>
    rw[ho] at yW;have yW:eU ls ls.length l.id false=some (fL ls v):=yW;simp only[mv,yW] at hf;simp only[vK] at hf;cases hs:(l.sign==1) with
    |true=>
     cases fw with
     |true=>have dZ:v=(d/2+1)%ls.length:=dZ;rw[dZ] at fh hf pf pb ⊢;simp only[go_sem,i76,m1,m3,m4,m5,h',my,fh,Let.ps,eX,bx,ho,hs,gR,eo,dw,mapOf,mapVal,ia,hf,s113,dR pf];exact⟨ay,ay⟩
     |false=>have dZ:v=d/2:=dZ;rw[dZ] at fh hf pf pb ⊢;simp only[go_sem,i76,m1,m3,h',my,fh,Let.ps,bx,ho,hs,gR,eo,dw,mapOf,mapVal,ia,hf,s112,dR pb];exact⟨ay,ay⟩
    |false=>
     cases fw with
     |true=>have dZ:v=(d/2+1)%ls.length:=dZ;rw[dZ] at fh hf pf pb ⊢;simp only[go_sem,i76,m1,m3,m4,m5,h',my,fh,Let.ps,eX,bx,ho,hs,gR,eo,dw,mapOf,mapVal,ia,hf,s112,dR pb];exact⟨ay,ay⟩
     |false=>have dZ:v=d/2:=dZ;rw[dZ] at fh hf pf pb ⊢;simp only[go_sem,i76,m1,m3,h',my,fh,Let.ps,bx,ho,hs,gR,eo,dw,mapOf,mapVal,ia,hf,s113,dR pf];exact⟨ay,ay⟩
   |false=>
    rw[ho] at yW;have yW:eU ls ls.length l.id true=some (fL ls v):=yW;simp only[mv,yW] at hf;simp only[vK] at hf;cases hs:(l.sign==1) with
    |true=>
     cases fw with
     |true=>have dZ:v=(d/2+1)%ls.length:=dZ;rw[dZ] at fh hf pf pb ⊢;simp only[go_sem,i76,m1,m3,m4,m5,h',my,fh,Let.ps,eX,bx,ho,hs,gR,eo,dw,mapOf,mapVal,ia,hf,s112,dR pb];exact⟨ay,ay⟩
     |false=>have dZ:v=d/2:=dZ;rw[dZ] at fh hf pf pb ⊢;simp only[go_sem,i76,m1,m3,h',my,fh,Let.ps,bx,ho,hs,gR,eo,dw,mapOf,mapVal,ia,hf,s113,dR pf];exact⟨ay,ay⟩
    |false=>
     cases fw with
     |true=>have dZ:v=(d/2+1)%ls.length:=dZ;rw[dZ] at fh hf pf pb ⊢;simp only[go_sem,i76,m1,m3,m4,m5,h',my,fh,Let.ps,eX,bx,ho,hs,gR,eo,dw,mapOf,mapVal,ia,hf,s113,dR pf];exact⟨ay,ay⟩
     |false=>have dZ:v=d/2:=dZ;rw[dZ] at fh hf pf pb ⊢;simp only[go_sem,i76,m1,m3,h',my,fh,Let.ps,bx,ho,hs,gR,eo,dw,mapOf,mapVal,ia,hf,s112,dR pb];exact⟨ay,ay⟩
  |false=>
   have hp:=ok.Ih jY hk;have bx:(l.kind==1)=true:=hp;have eS:=oF (Hl jY hp);have bq:=fv (adA jY hp);have FH:=BO ok.ax jY hp;have hpT:=NC (ok.ax.gA l (ba jY) hp);rw[zO ok.ax.mw] at hpT;rw[FH];have FL:¬(((aD ls).length:Int)=0):=aa;have jZ:=eJ (cU ls l+(aD ls).length-1) (show 0<(aD ls).length by omega);have n1:=mj (a:=cU ls l) aa;have n2:=wrap_add (a:=2*ls.length) (b:=2*cU ls l) aa;have n3:=ru (a:=cU ls l) aa;have n4:=Wy (a:=cU ls l) (n:=(aD ls).length) aa aa;have n5:=rm (cU ls l+(aD ls).length-1) (aD ls).length;have n6:=mj (a:=(cU ls l+(aD ls).length-1)%(aD ls).length) aa;have n7:=wrap_add (a:=2*ls.length) (b:=2*((cU ls l+(aD ls).length-1)%(aD ls).length)) aa
   have n8:=bj (n:=2*ls.length+2*((cU ls l+(aD ls).length-1)%(aD ls).length)) aa;cases fw with
   |true=>
    have dZ:v=(d/2+1)%ls.length:=dZ;cases Fu:dn ls v with
    |true=>rw[Fu] at eS;rw[dZ] at fh eS bq;simp only[go_sem,i76,m1,m3,m4,m5,h',my,fh,Let.ps,eX,bx,gR,eo,dw,eS,bq,n1,n2];exact ay
    |false=>rw[Fu] at eS;rw[dZ] at fh eS bq;simp only[go_sem,i76,m1,m3,m4,m5,h',my,fh,Let.ps,eX,bx,gR,eo,dw,eS,bq,n3,n4,n5,n6,n7,n8,FL];exact ay
   |false=>
    have dZ:v=d/2:=dZ;cases Fu:dn ls v with
    |true=>rw[Fu] at eS;rw[dZ] at fh eS bq;simp only[go_sem,i76,m1,m3,h',my,fh,Let.ps,bx,gR,eo,dw,eS,bq,n3,n4,n5,n6,n7,n8,FL];exact ay
    |false=>rw[Fu] at eS;rw[dZ] at fh eS bq;simp only[go_sem,i76,m1,m3,h',my,fh,Let.ps,bx,gR,eo,dw,eS,bq,n1,n2];exact ay
 have nq:(if (d%2==0)=true then (d/2+1)%ls.length else d/2)<ls.length:=by
  split
  .exact lC
  omega
 have:=body _ nq (d%2==0) rfl (by cases hq:(d%2==0)<;>simp at hq ⊢ <;>omega);exact this
abbrev bR(ls:List Let):Nat->Nat:=eL ls (aD ls)
theorem Z4(ok:gU F ls){Q:dF}:
  ∀(fuel x:Nat) (sn:List Bool) (aj:Env) (blk:aw),aj 0=.one (.p (oJ F ls))->aj 4=.one (.hsl 6400128064 1 1 0 sn.length)->blk 6400128064=(1,some (.arr 4 1 (bP sn)))->
   aj 7=vi x->x<sn.length->sn.length=2*ls.length+2*(aD ls).length->tO sn<fuel->
   (∀aB ak,aB 0=aj 0->aB 4=aj 4->aB 5=aj 5->aB 24=aj 24->aB 25=aj 25->ak 6400128064=(1,some (.arr 4 1 (bP (ei (bR ls) fuel x sn).2)))->Q .normal aB ak)->
   W S .all (.loop i100_l1) (nO 2 Q) aj blk:=by
 have gI:(aD ls).length<=1000000:=mm (pQ ls ls.length) ok.hl;have jA:∀x∈aD ls,x<ls.length:=fun x h=>Hd h;have hp:∀v l,ls[v]?=some l->(l.kind==2)=false->v∈aD ls:=fun v l hv h2=>rF.2 ⟨l,hv,ok.Ih hv h2⟩;intro fuel
 induction fuel with
 |zero=>intro x sn aj blk _ _ _ _ _ _ h;omega
 |succ fuel ih=>
  intro x sn aj blk h0 h4 hS h7 hx hsl hu hq;obtain⟨b,hb⟩:=aL hx;have lB:=oF hb;have uw:sn.getD x true=b:=by rw[cP,hb];rfl
  unfold ei at hq;rw[uw] at hq;refine k8 ?_;cases b with
  |true=>simp only[go_sem,i100_l1,h4,hS,h7,hx,lB];refine hq _ _ ?_ ?_ ?_ ?_ ?_ hS;all_goals simp only[go_sem,h4]
  |false=>
   have yV:=GN hb;have pt:=Qi ok x aa;have jd:=Jd (d:=x) jA hp aa;have iT:=BQ sn x true;simp only[go_sem,i100_l1,h0,h4,hS,h7,hx,lB,iT,s76,dR pt];refine ih (eL ls (aD ls) x) (sn.set x true) _ _ ?_ ?_ ?_ ?_ (by simpa [hsl] using jd) (by simpa using hsl) aa ?_
   .simp only[go_sem,h0]
   .simp only[go_sem,h4,kY]
   .simp only[go_sem]
   .simp only[go_sem]
   intro aB ak q0 q4 q5 j8 qY b1;refine hq aB ak ?_ ?_ ?_ ?_ ?_ b1
   .rw[q0];simp only[go_sem]
   .rw[q4];simp only[go_sem]
   .rw[q5];simp only[go_sem]
   .rw[j8];simp only[go_sem]
   rw[qY];simp only[go_sem]
theorem Z7(ok:gU F ls):aE S 100 [.one (.p (oJ F ls))] (rb (sj ls==aA Let.aG ls+aA Let.aC ls/2+2)):=by
 have hl:=ok.hl;have gI:(aD ls).length<=ls.length:=pQ ls ls.length;have m1:=mj (a:=ls.length) aa;have m2:=mj (a:=(aD ls).length) aa;have m3:=wrap_add (a:=2*ls.length) (b:=2*(aD ls).length) aa;have jE:2*ls.length+2*(aD ls).length<=140737488355328:=aa;have AS:List.replicate (2*ls.length+2*(aD ls).length) [PV.bool false]=bP (List.replicate (2*ls.length+2*(aD ls).length) false):=af;have jZ:(lI ls ls.length).length=aA Let.aC ls/2:=by have:=ok.cr;unfold km at this;simp only[cA,beq_iff_eq] at this;simp[lI,this.2]
 have tm:aA Let.aC ls<=ls.length:=oH _ _;refine bd c100 ?_;simp only[go_sem,i100,m1,m2,m3,jE,AS];refine⟨ay,?_⟩;generalize hN:2*ls.length+2*(aD ls).length=N at jE;refine ck (fun k aj blk=>aj 0=.one (.p (oJ F ls))/\aj 4=.one (.hsl 6400128064 1 1 0 N)/\blk 6400128064=(1,some (.arr 4 1 (bP (cR (bR ls) N k).2)))/\
   aj 5=vi (cR (bR ls) N k).1.length/\aj 24=vi N/\aj 25=vi k) 0 N (bc _) ?_ ?_
 .simp only[go_sem];exact⟨rfl,rfl,rfl⟩
 rintro k aj blk hk ⟨h0,h4,hS,h5,oU,oX⟩
 have hlen:=Bh (bR ls) N k;have yP:=GR (bR ls) N k;by_cases au:k<N
 .have aF:((k:Int)<(N:Int)):=aa;have w1:=bj (n:=k) aa;have hs:=uR (bR ls) N k;generalize bU:cR (bR ls) N k=st at hlen hs hS h5 yP;obtain⟨out,sn⟩:=st;simp only at hlen hS h5 yP;obtain⟨b,hb⟩:=aL (ls:=sn) (k:=k) aa;have lB:=oF hb;unfold rq at hs;have uw:sn.getD k true=b:=by rw[cP,hb];rfl
  simp only[uw] at hs;cases b with
  |true=>have hs:cR (bR ls) N (k+1)=(out,sn):=hs;simp only[go_sem,i100_l3,i100_r2,h0,h4,hS,h5,oU,oX,au,aF,lB,w1,hs]
  |false=>
   have hs:cR (bR ls) N (k+1)=(out++[(ei (bR ls) (N+1) k sn).1],(ei (bR ls) (N+1) k sn).2):=by rw[hs,hlen];rfl
   have hul:=Dy sn;have w2:=bj (n:=out.length) aa;simp only[go_sem,i100_l3,h4,hS,h5,oU,oX,au,aF,lB,w2];refine Z4 ok (N+1) k sn _ _ ?_ ?_ ?_ ?_ aa aa aa ?_
   .simp only[go_sem,h0]
   .simp only[go_sem,h4,hlen]
   .simp only[go_sem,hS]
   .simp only[go_sem]
   intro aB ak q0 q4 q5 j8 qY b1;simp only[go_sem,h0,h4,h5,oU,oX] at q0 q4 q5 j8 qY;simp only[go_sem,i100_r2,q0,q4,q5,j8,qY,b1,w1,hs,au];simp
 have:k=N:=aa;subst this;have he:sj ls=(cR (bR ls) k k).1.length:=by unfold sj lN bR;rw[hN]
 rw[<- he] at h5;have w3:=wrap_add (a:=(aD ls).length) (b:=aA Let.aC ls/2) aa;have w4:IntKind.i64.wrap ((((aD ls).length+aA Let.aC ls/2:Nat):Int)+2)=(((aD ls).length+aA Let.aC ls/2+2:Nat):Int):=wrap_add (a:=(aD ls).length+aA Let.aC ls/2) (b:=2) aa;have hb:(((sj ls:Nat):Int)==(((aD ls).length+aA Let.aC ls/2+2:Nat):Int))=(sj ls==aA Let.aG ls+aA Let.aC ls/2+2):=by
  rw[JA];cases h:(sj ls==aA Let.aG ls+aA Let.aC ls/2+2) with
  |true=>simp at h ⊢;omega
  |false=>simp at h ⊢;omega
 simp only[go_sem,i100_l3,i100_r4,h0,h5,oU,oX,dT,vr,jZ,w3,w4,hb];exact ay
abbrev DP(id:Nat):Prop:=id=2752320128\/(kI id=70\/kI id=98\/kI id=99)
def Y2(F:Nat)(ls:List Let)(g:Nat)(blk:aw):Prop:= ∃g1 g2 g3 g4 g5,
 blk 2752320128=(g,some (.var (qA F ls (hs 6272128448 g2 ls.length) (hs 6273344128 g5 (aD ls).length) (hs 6272192448 g3 ls.length) (.iS 6336256064 g4) (hs 6272064448 g1 (F+1)))))/\
 blk 6272064448=(g1,some (.arr 3 1 (nP (counts ls F))))/\blk 6272128448=(g2,some (.arr 4 1 (bP (ll ls))))/\blk 6272192448=(g3,some (.arr 3 1 (nP (ib ls ls.length))))/\
 blk 6273344128=(g5,some (.arr 3 1 (nP (aD ls))))/\blk 6336256064=(g4,some (.map true (lI ls ls.length)))
def Je(F:Nat)(ls:List Let):Bool:=decide (ls=[])||jH F ls
def On(F:Nat)(ls:List Let)(g:Nat)(jv:aw)(v:V)(ak:aw):Prop:=v=vb (Je F ls)/\Kept DP jv ak/\(ls≠[]->jH F ls=true->Y2 F ls g ak)/\(ls=[]->ak 2752320128=jv 2752320128)
theorem NZ:S.sites 70=[70,98,99]:=ah
theorem Vt:S.sites 98=[98]:=ah
theorem Vu:S.sites 99=[99]:=ah
theorem Kept.Jj{K K':Nat->Prop}{a b:aw}(h:Kept K a b)(hk:∀id,K id->K' id):Kept K' a b:=fun id hn=>h id fun hh=>hn (hk id hh)
abbrev xL(g:Nat):List (List C):=[[.hfn 96 [.aZ 2752320128 g 0] []],[.hfn 97 [.aZ 2752320128 g 0] []],[.hfn 98 [.aZ 2752320128 g 0] []],[.hfn 99 [.aZ 2752320128 g 0] []],[.hfn 100 [.aZ 2752320128 g 0] []]]
section
variable {al:Al} {Q:dF} {aj:Env} {blk:aw} {g g0:Nat}
theorem Ou(k:Nat){f:Nat}{dv:PV}{r:List Nat}{b:Bool}(hk:k<5)(hf:(xL g)[k]?=some [.hfn f [.aZ 2752320128 g 0] []])(CA:S.shared f=false)(oV:al.ok 4480192640=true)
  (rT:aj 22=.one (hs 4480192640 g0 5)) (te:aj 23=vi 5) (oU:aj 24=vi k) (bV:blk 4480192640=(g0,some (.fO 26 1 (xL g))))
  (pC:kJ blk (.one (.aZ 2752320128 g 0))=some (.one (.p dv),r)) (hr:al.fi r=true) (hp:aE S f [.one (.p dv)] (rb b))
  (Ms:b=false->∀aB,aB 2=vb false->Q .ret aB blk)
  (MQ:b=true->∀aB,aB 22=.one (hs 4480192640 g0 5)->aB 23=vi 5->aB 24=vi ((k+1:Nat):Int)->W S al (.loop i70_l1) Q aB blk):W S al (.loop i70_l1) Q aj blk:=by
 refine k8 ?_;have au:((k:Int)<5):=aa;have w1:=bj (n:=k) aa;cases b with
 |false=>simp only[go_sem,i70_l1,rT,te,oU,bV,au,hk,hf,CA,oV,↓pC,Ss hp,hr];exact Ms rfl _ (by simp only[go_sem])
 |true=>
  simp only[go_sem,i70_l1,rT,te,oU,bV,au,hk,hf,CA,oV,↓pC,Ss hp,hr,w1];refine MQ rfl _ ?_ ?_ ?_
  .simp only[go_sem,rT]
  .simp only[go_sem,te]
  simp only[go_sem]
theorem Wm(k:Nat){f:Nat}{P:V->aw->Prop}{b:Bool}(hk:k<5)(hf:(xL g)[k]?=some [.hfn f [.aZ 2752320128 g 0] []])(CA:S.shared f=true)(oV:al.ok 4480192640=true)
  (rT:aj 22=.one (hs 4480192640 g0 5)) (te:aj 23=vi 5) (oU:aj 24=vi k) (bV:blk 4480192640=(g0,some (.fO 26 1 (xL g))))
  (hh:al.holds (allow (S.ctx al) f [.one (.aZ 2752320128 g 0)] blk)=true) (h:∃v ak,fT S f [.one (.aZ 2752320128 g 0)] (allow (S.ctx al) f [.one (.aZ 2752320128 g 0)] blk) blk v ak/\P v ak)
  (hP:∀v ak,P v ak->v=vb b)
  (Ms:b=false->∀v aB ak,P v ak->aB 2=vb false->Q .ret aB ak)
  (MQ:b=true->∀v aB ak,P v ak->aB 22=.one (hs 4480192640 g0 5)->aB 23=vi 5->aB 24=vi ((k+1:Nat):Int)->W S al (.loop i70_l1) Q aB ak):W S al (.loop i70_l1) Q aj blk:=by
 refine k8 ?_;have au:((k:Int)<5):=aa;have w1:=bj (n:=k) aa;simp only[go_sem,i70_l1,rT,te,oU,bV,au,hk,hf,CA,oV];refine rQ hh h fun v ak hp=>?_;have hv:=hP v ak hp;subst hv;cases b with
 |false=>simp only[go_sem];exact Ms rfl _ _ _ hp (by simp only[go_sem])
 |true=>
  simp only[go_sem,oU,w1];refine MQ rfl _ _ _ hp ?_ ?_ ?_
  .simp only[go_sem,rT]
  .simp only[go_sem,te]
  simp only[go_sem]
end
theorem agT{al:Al}(fY:al.ok 2752320128=true)(okf:∀id,(kI id=70\/kI id=98\/kI id=99)->al.ok id=true)(f1:al.fs.contains 98=true)(f2:al.fs.contains 99=true)
  {blk:aw} {g F:Nat} {ls:List Let} (hl:ls.length<=1000000) (hF:F<=1000000)
  (bD:blk 2752320128=(g,some (.var (qA F ls (.p .nils) (.p .nils) (.p .nils) (.p .mf) (.p .nils))))):∃v ak,fT S 70 [.one (.aZ 2752320128 g 0)] al blk v ak/\On F ls g blk v ak:=by
 have oV:=okf 4480192640 (.inl rfl);refine lf c70 (fy rfl) ?_;by_cases he:ls=[]
 .subst he;have hz:(((0:Nat):Int)==0)=true:=ae;simp only[go_sem,i70,bD,hz,fY];exact⟨rfl,Kept.refl _ _,fun h=>absurd rfl h,fun _=>rfl⟩
 have gM:=nH.2 he;have xf:(((ls.length:Nat):Int)==0)=false:=by simp;omega
 obtain⟨l0,h0⟩:=aL gM;have qG:decide (ls=[])=false:=by simp[he]
 have pl:=Y3 F ls (.sl []) (.sl []) (.sl []) .mf (.sl []) hl ⟨rfl,rfl,rfl,rfl,rfl⟩;have pb:=YZ F ls l0 (.sl []) (.sl []) (.sl []) .mf (.sl []) hl h0;have S4:=Ik (F:=F) (ls:=ls);have fail:∀aB ak,Kept DP blk ak->jH F ls=false->aB 2=vb false->nO 0 (xJ S al i70_r2 (oL al [(2,none)] (On F ls g blk))) .ret aB ak:=fun aB ak hk hv h2=>by simp only[go_sem,h2];exact⟨by rw[Je,qG,hv];rfl,hk,fun _ h=>(by rw[hv] at h;cases h),fun h=>absurd h he⟩
 have noL:qR F ls=false->jH F ls=false:=fun h=>by simp[jH,h]
 have Ni:¬(ls.any (cV F)=false/\tL ls=true/\km ls=true)->jH F ls=false:=fun h=>noL (by
  cases hq:qR F ls with
  |false=>rfl
  |true=>exact absurd (S4.1 hq) h)
 simp only[go_sem,i70,bD,xf,fY,oV];have bx:Kept DP blk (ca blk 4480192640 ((blk 4480192640).1+1,some (.fO 26 1 (xL g)))):=Kept.ca (Kept.refl _ _) (.inr (.inl rfl)) _;generalize aQ:ca blk 4480192640 ((blk 4480192640).1+1,some (.fO 26 1 (xL g)))=aW;rw[aQ] at bx;have bV:aW 4480192640=((blk 4480192640).1+1,some (.fO 26 1 (xL g))):=by rw[<- aQ];simp only[go_sem]
 have bD:aW 2752320128=(g,some (.var (qA F ls (.p .nils) (.p .nils) (.p .nils) (.p .mf) (.p .nils)))):=by rw[<- aQ];simp only[go_sem,bD]
 clear aQ;have pC:kJ aW (.one (.aZ 2752320128 g 0))=some (.one (.p (Em F ls (.sl []) (.sl []) (.sl []) .mf (.sl []))),[2752320128]):=by simp only[go_sem,bD]
 have nn:al.fi [2752320128]=true:=by simp only[go_sem,fY]
 refine Ou 0 aa rfl s96 oV (by simp only[go_sem]) (by simp only[go_sem];rfl) (by simp only[go_sem];rfl) bV pC nn pl (fun hb aB h2=>fail aB aW bx (Ni fun h=>by simp[h.1] at hb) h2) (fun hb aB uO mM j8=>?_);have aQ:ls.any (cV F)=false:=by simpa using hb
 have lA:∀l∈ls,cV F l=false:=fun l hl=>by simpa using zD.1 aQ l hl
 have hg:mw F ls:=fun l hl hp=>((vz hp).1 (lA l hl)).1.1.1;refine Ou 1 aa rfl s97 oV uO mM j8 bV pC nn pb (fun hb aB h2=>fail aB aW bx (by simp only[jH,h0,hb];rfl) h2) (fun hbg aB uO mM j8=>?_);clear hb;have hre:jG aW (.one (.aZ 2752320128 g 0))=[2752320128]:=by rw[NS bD];simp[NR]
 refine Wm (b:=tL ls) 2 aa rfl ah oV uO mM j8 bV ?_ (aeu (vT (by simp[hre])) (fun id h=>DU (by rw[Vt,h];rfl)) hl hF hg bD) (fun v ak h=>h.1) ?_ ?_
 .refine holds_of ?_ ?_
  .show al.fi ([V.one (.aZ 2752320128 g 0)].map (jG aW)).flatten=true;simp only[dE,jj,hre,kb,List.flatten_nil,qu];exact nn
  show(S.sites 98).all al.fs.contains=true;rw[Vt];simp only[tQ,vN,f1];rfl
 .intro hb v aB ak hp h2;exact fail aB ak (bx.trans (hp.2.1.Jj fun id h=>h.elim .inl fun h=>.inr (.inr (.inl h)))) (Ni fun h=>by rw[h.2.1] at hb;cases hb) h2
 intro l9 v aB aN hp uO mM j8;obtain⟨_,nj,og⟩:=hp;obtain⟨g1,g2,g3,g5,bD,bC,bW,lj,bA⟩:=og l9;have jA:vX F ls:=by obtain⟨a,b⟩:=(Dh hg).1 l9;exact⟨a,b⟩
 rw[XT jA] at bA;rw[zO hg] at bD;have bV:aN 4480192640=((blk 4480192640).1+1,some (.fO 26 1 (xL g))):=by rw[<- bV];exact nj _ ae
 have S1:Kept DP blk aN:=bx.trans (nj.Jj fun id h=>h.elim .inl fun h=>.inr (.inr (.inl h)));have oC:=okf 6272064448 (.inr (.inl rfl));have oW:=okf 6272128448 (.inr (.inl rfl));have oP:=okf 6272192448 (.inr (.inl rfl));have oA:=okf 6273344128 (.inr (.inl rfl));have oM:=okf 6336256064 (.inr (.inr rfl));have F1:jG aN (.one (.aZ 2752320128 g 0))=[2752320128,6272128448,6273344128,6272192448,6272064448]:=by rw[NS bD];simp only[dE,jj,NR,Di bW,Di bA,Di lj,Di bC,kb,List.flatten_nil,xQ,qu,List.cons_append]
 refine Wm (b:=km ls) 3 aa rfl ah oV uO mM j8 bV ?_ (Y0 (vT (by simp[F1])) (fun id h=>DU (by rw[Vu,h];rfl)) hl bD) (fun v ak h=>h.1) ?_ ?_
 .refine holds_of ?_ ?_
  .show al.fi ([V.one (.aZ 2752320128 g 0)].map (jG aN)).flatten=true;simp only[dE,jj,F1,kb,List.flatten_nil,qu,Nl,Nn,fY,oC,oW,oP,oA,Bo]
  show(S.sites 99).all al.fs.contains=true;rw[Vu];simp only[tQ,vN,f2];rfl
 .intro hb v aB ak hp h2;exact fail aB ak (S1.trans (hp.2.1.Jj fun id h=>h.elim .inl fun h=>.inr (.inr (.inr h)))) (Ni fun h=>by rw[h.2.2] at hb;cases hb) h2
 intro fD v aB iG hp uO mM j8;obtain⟨_,hk3,hr3⟩:=hp;obtain⟨g4,bD,bM⟩:=hr3 fD;have kp:∀id,kI id=98->iG id=aN id:=fun id h=>hk3 id (by
  rintro (e|e)
  .rw[e] at h;revert h;decide
  rw[e] at h;revert h;decide)
 rw[<- kp _ rfl] at bC bW lj bA;have bV:iG 4480192640=((blk 4480192640).1+1,some (.fO 26 1 (xL g))):=by rw[<- bV];exact hk3 _ ae
 have S2:Kept DP blk iG:=S1.trans (hk3.Jj fun id h=>h.elim .inl fun h=>.inr (.inr (.inr h)));have ok:gU F ls:=⟨hl,jA,fD,fun l hl=>yd (lA l hl)⟩;have pf:=Z7 ok;have hlR:qR F ls=true:=S4.2 ⟨aQ,l9,fD⟩;have hvr:jH F ls=(sj ls==aA Let.aG ls+aA Let.aC ls/2+2):=by
  have SQ:(l0.kind==1)=true/\(aA Let.aG ls%2==0)=true:=by simpa using hbg
  simp only[jH,h0,SQ.1,SQ.2,hlR,Bool.true_and]
 have t1:List.take ls.length (bP (ll ls))=bP (ll ls):=fS (by simp[ll]);have t2:List.take (aD ls).length (nP (aD ls))=nP (aD ls):=fS af;have t3:List.take ls.length (nP (ib ls ls.length))=nP (ib ls ls.length):=fS (by simp[ib]);have t4:List.take (F+1) (nP (counts ls F))=nP (counts ls F):=fS (by simp[counts]);have n1:ls.length<=(ll ls).length:=by simp[ll]
 have n3:ls.length<=(ib ls ls.length).length:=by simp[ib]
 have n4:F+1<=(counts ls F).length:=by simp[counts]
 have pC:kJ iG (.one (.aZ 2752320128 g 0))=some (.one (.p (oJ F ls)),[2752320128,6272128448,6273344128,6272192448,6336256064,6272064448]):=by simp only[go_sem,VG,bD,bW,bA,lj,bC,bM,Oa,t1,t2,t3,t4,n1,n3,n4]
 have nn:al.fi [2752320128,6272128448,6273344128,6272192448,6336256064,6272064448]=true:=by simp only[Nl,Nn,fY,oC,oW,oP,oA,oM,Bo]
 refine Ou 4 aa rfl s100 oV uO mM j8 bV pC nn pf (fun hb aB h2=>fail aB iG S2 (by rw[hvr];exact hb) h2) (fun qH aB uO mM j8=>?_);have hv:jH F ls=true:=by rw[hvr];exact qH
 refine k8 ?_;have n5:¬((((4+1:Nat)):Int)<5):=ae;simp only[go_sem,i70_l1,i70_r2,mM,j8,n5];exact⟨by rw[Je,qG,hv];rfl,S2,fun _ _=>⟨g1,g2,g3,g4,g5,bD,bC,bW,lj,bA,bM⟩,fun h=>absurd h he⟩
abbrev dgE(f:Int):PV:=Em f [] (.sl []) (.sl []) (.sl []) .mf (.sl [])
abbrev tN(a b:PV):RV:=.tup [.one (.p a),.one (.p b)]
def Gx(f:Int)(ls:List Let):RV:=if jN f ls=0 then tN (if ls=[] then dgE f else oJ f.toNat ls) (.int .i64 0) else tN .qU (.int .i64 (jN f ls))
theorem fE{blk:aw}{s:Nat}{a b:PV}{l:Bool}:land blk [] s ((tN a b).fx l)=some (.tup [.one (.p a),.one (.p b)],[]):=by cases l<;>rfl
theorem Gy{f:Int}{e:Int}(h:jN f ls=e)(he:e≠0):Gx f ls=tN .qU (.int .i64 e):=by unfold Gx;rw[h,if_neg he]
theorem IT{f:Int}(h:jN f ls=0):Gx f ls=tN (if ls=[] then dgE f else oJ f.toNat ls) (.int .i64 0):=by unfold Gx;rw[if_pos h]
theorem Vb(f:Int)(ls:List Let)(hl:ls.length<=1000000):aE S 43 [eQ f ls] (Gx f ls):=by
 have pc:=Kf f ls hl;refine bd c43 ?_;by_cases h1:400<ls.length
 .have iQ:(400:Int)<(ls.length:Int):=aa;rw[Gy (e:=7) (by unfold jN;rw[if_pos (Or.inl h1)]) ae];simp only[go_sem,i43,iQ];rfl
 have iQ:¬(400:Int)<(ls.length:Int):=aa;by_cases h2:200<aA Let.aC ls
 .have fU:(200:Int)<(aA Let.aC ls:Int):=aa;rw[Gy (e:=7) (by unfold jN;rw[if_pos (Or.inr h2)]) ae];simp only[go_sem,i43,iQ,fU,s52,dR pc];rfl
 have fU:¬(200:Int)<(aA Let.aC ls:Int):=aa;have n1:¬(400<ls.length\/200<aA Let.aC ls):=aa;by_cases h3:f<0
 .rw[Gy (e:=2) (by unfold jN;rw[if_neg n1,if_pos (Or.inl h3)]) ae];simp only[go_sem,i43,iQ,fU,h3,s52,dR pc];rfl
 by_cases h4:40<f
 .rw[Gy (e:=2) (by unfold jN;rw[if_neg n1,if_pos (Or.inr h4)]) ae];simp only[go_sem,i43,iQ,fU,h3,h4,s52,dR pc];rfl
 have n2:¬(f<0\/40<f):=aa;obtain⟨F,rfl⟩:=nG (show 0<=f by omega);have dY:S.shared 70=true:=ah;simp only[go_sem,i43,iQ,fU,h3,h4,s52,dR pc,dY];refine rQ (P:=On F ls 1 _) xg (agT (F:=F) (ls:=ls) ?_ ?_ ?_ ?_ hl aa ?_) ?_
 .refine vT ?_;rw[dE,jj,NS (g0:=1) (cs:=qA F ls (.p .nils) (.p .nils) (.p .nils) (.p .mf) (.p .nils)) (by simp only[go_sem])];simp
 .intro id h;refine DU ?_;rw[NZ];rcases h with h|h|h<;>rw[h]<;>rfl
 .show(S.sites 70).contains _=true;rw[NZ];rfl
 .show(S.sites 70).contains _=true;rw[NZ];rfl
 .simp only[go_sem]
 rintro v ak ⟨rfl,hk,hr,hz⟩
 unfold Je;by_cases he:ls=[]
 .have hc:jN F ls=0:=by unfold jN;rw[if_neg n1,if_neg n2,if_pos he]
  have bD:=hz he;rw[IT hc,if_pos he];have qG:(decide (ls=[])||jH F ls)=true:=by simp[he]
  rw[qG];subst he;simp only[go_sem] at bD;simp only[go_sem];simp only[go_sem,ji,qB,sX,lX,kV,jF,bD];rfl
 have qG:decide (ls=[])=false:=by simp[he]
 cases hv:jH F ls with
 |false=>rw[Gy (e:=3) (by unfold jN;rw[if_neg n1,if_neg n2,if_neg he,hv];rfl) ae];rw[qG,xM];simp only[go_sem];rfl
 |true=>
  have hc:jN F ls=0:=by unfold jN;rw[if_neg n1,if_neg n2,if_neg he,hv];rfl
  rw[IT hc,if_neg he];obtain⟨g1,g2,g3,g4,g5,bD,bC,bW,lj,bA,bM⟩:=hr he hv;have hFn:(F:Int).toNat=F:=rfl;rw[hFn];have t1:List.take ls.length (bP (ll ls))=bP (ll ls):=fS (by simp[ll]);have t2:List.take (aD ls).length (nP (aD ls))=nP (aD ls):=fS af;have t3:List.take ls.length (nP (ib ls ls.length))=nP (ib ls ls.length):=fS (by simp[ib]);have t4:List.take (F+1) (nP (counts ls F))=nP (counts ls F):=fS (by simp[counts]);have n1:ls.length<=(ll ls).length:=by simp[ll]
  have n3:ls.length<=(ib ls ls.length).length:=by simp[ib]
  have n4:F+1<=(counts ls F).length:=by simp[counts]
  rw[qG,xM];simp only[go_sem];simp only[go_sem,ji,qB,sX,lX,kV,jF,VG,bD,bW,bA,lj,bC,bM,Oa,t1,t2,t3,t4,n1,n3,n4];rfl
abbrev fc(k a b c:Int)(l o:Bool)(s:Int):V:=.agg [.p (.int .i64 k),.p (.int .i64 a),.p (.int .i64 b),.p (.int .i64 c),.p (.bool l),.p (.bool o),.p (.int .i64 s)]
abbrev pH(e:Int):RV:=.tup [.agg [.p (.int .i64 0),.p .nils],.one (.p (.int .i64 e))]
theorem acg{blk:aw}{s:Nat}{e:Int}{l:Bool}:land blk [] s ((pH e).fx l)=some (.tup [.agg [.p (.int .i64 0),.p .nils],.one (.p (.int .i64 e))],[]):=by cases l<;>rfl
section
variable {f:Int} {ls:List Let} {e:Int}
abbrev kinds(k:Nat):List Nat:=(List.range k).map (· +1)
theorem acb(k:Nat):nP (kinds (k+1))=nP (kinds k)++[[.int .i64 ((k+1:Nat):Int)]]:=by simp[kinds,sL]
def outK(k:Nat)(v:V)(blk:aw):Prop:=(k=0/\v=.one (.p .nils))\/(k≠0/\ ∃g,v=.one (.hsl 1024320192 g 1 0 k)/\blk 1024320192=(g,some (.arr 27 1 (nP (kinds k)))))
end
def kO(n v:Nat)(fw:Bool):Nat:=if fw then 2*((v+n-1)%n) else 2*v+1
def lvV(n e:Nat):Nat:=if e%2=0 then e/2 else (e/2+1)%n
theorem y8{n:Nat}(hv:v<n):((v+n-1)%n+1)%n=v:=by
 by_cases h:v=0
 .subst h;rw[kZ,mq (show n-1<n by omega),show n-1+1=n by omega,Nat.mod_self]
 rw[show v+n-1=(v-1)+n by omega,Bu,mq (show v-1<n by omega),show v-1+1=v by omega,mq hv]
theorem Io{n:Nat}(hv:v<n):((v+1)%n+n-1)%n=v:=by
 by_cases h:v+1=n
 .rw[h,Nat.mod_self,kZ,mq (show n-1<n by omega)];omega
 rw[mq (show v+1<n by omega),show v+1+n-1=v+n by omega,Bu,mq hv]
theorem T0{n:Nat}(hv:v<n)(g:Bool):lvV n (gn n v g)=v/\(gn n v g%2==0)=g:=by
 unfold lvV gn;cases g with
 |true=>have h1:(2*v)%2=0:=aa;simp only[if_true,h1];exact⟨aa,rfl⟩
 |false=>have h1:(2*((v+n-1)%n)+1)%2=1:=aa;have h2:(2*((v+n-1)%n)+1)/2=(v+n-1)%n:=aa;simp only[iF,if_false,h1,h2,Nat.one_ne_zero,y8 hv];exact⟨trivial,rfl⟩
def Da(ls:List Let)(ax:List Nat)(e:Nat):Nat:=
 if 2*ls.length<=e then
  if e%2=0 then kO ls.length (ax.getD ((e-2*ls.length)/2) 0) (dn ls (ax.getD ((e-2*ls.length)/2) 0))
  else kO ls.length (ax.getD (((e-2*ls.length)/2+1)%ax.length) 0) (!dn ls (ax.getD (((e-2*ls.length)/2+1)%ax.length) 0))
 else
  let v:=lvV ls.length e
  let g:=e%2==0
  match ls[v]? with
  |none=>0
  |some l=>if l.kind==2 then
    match ls[fL ls v]? with
    |some u=>kO ls.length (fL ls v) (g==(u.over==(u.sign==1)))
    |none=>0
   else if g==dn ls v then 2*ls.length+2*ax.idxOf v+1 else 2*ls.length+2*((ax.idxOf v+ax.length-1)%ax.length)
theorem Gr(hr:km ls=true){i:Nat}{l:Let}(hl:ls[i]?=some l)(hc:l.aC=true):fL ls (fL ls i)=i/\ ∃m,ls[fL ls i]?=some m/\m.aC=true/\m.id=l.id/\m.over= !l.over/\m.sign=l.sign:=by
 obtain⟨h1,h2⟩:=IB hr hl hc;obtain⟨_,h3⟩:=Bg h1;obtain⟨m,hm,mc,mi,mo⟩:=wX h3;have hp:CW ls:=by have:=hr;unfold km at this;simp only[cA,beq_iff_eq,im,iN] at this;exact(DC.1 this.1.2).2
 have aR:i≠fL ls i:=by intro e;rw[<- e,hl] at hm;cases hm;revert mo;cases l.over<;>simp
 obtain⟨h4,h5⟩:=IB hr hm mc;obtain⟨_,h6⟩:=Bg h4;obtain⟨x,hx,xc,xi,xo⟩:=wX h6;refine⟨?_,m,hm,mc,mi,mo,((hp i _ l m hl hm hc mc mi.symm aR).2).symm⟩;refine Decidable.byContradiction fun hn=>?_;have:=(hp _ i x l hx hl xc hc (by rw[xi,mi]) hn).1;rw[xo,mo] at this;revert this;cases l.over<;>simp
theorem We{ax:List Nat}{d:Nat}{fw:Bool}{l:Let}(h:¬2*ls.length<=d)(tx:(d%2==0)=fw)(hv:v=if fw then (d/2+1)%ls.length else d/2)(hl:ls[v]?=some l):
  eL ls ax d=if l.kind==2 then gn ls.length (fL ls v) (fw==(l.over==(l.sign==1)))
   else if dn ls v==fw then 2*ls.length+2*ax.idxOf v else 2*ls.length+2*((ax.idxOf v+ax.length-1)%ax.length)+1:=by
 subst tx;subst hv;unfold eL;rw[if_neg h];simp only[hl]
theorem UZ(ok:gU F ls){d:Nat}(hd:d<2*ls.length+2*(aD ls).length):Da ls (aD ls) (eL ls (aD ls) d)=d:=by
 have jA:∀x∈aD ls,x<ls.length/\ ∃l,ls[x]?=some l/\l.aG=true:=fun x hx=>by obtain⟨l,h1,h2⟩:=rF.1 hx;exact⟨(bn.1 h1).1,l,h1,h2⟩
 have Mv:∀ {p v:Nat},(aD ls)[p]?=some v->(aD ls).idxOf v=p:=fun {p v} hp=>by obtain⟨l,hl,Av,he⟩:=zT ok.ax hp;rw[BO ok.ax hl Av,he]
 have along_small:∀ {v:Nat} (g:Bool),v<ls.length-> ¬2*ls.length<=gn ls.length v g:=fun {v} g hv=>by have:=BI (n:=ls.length) (fw:=g) hv;omega
 have notC:∀ {l:Let},l.aG=true->(l.kind==2)=false:=fun {l} h=>Iv h;have fromAxis:∀ {p v:Nat} (g:Bool),(aD ls)[p]?=some v->Da ls (aD ls) (gn ls.length v g)=if g==dn ls v then 2*ls.length+2*p+1 else 2*ls.length+2*((p+(aD ls).length-1)%(aD ls).length):=by intro p v g hp;obtain⟨hv,l,hl,Av⟩:=jA v (ba hp);obtain⟨e1,e2⟩:=T0 hv g;unfold Da;rw[if_neg (along_small g hv)];simp only[e1,e2,hl,notC Av,Mv hp];rfl
 by_cases h:2*ls.length<=d
 .unfold eL;rw[if_pos h];have hm:=eJ ((d-2*ls.length)/2+1) (show 0<(aD ls).length by omega);by_cases h2:d%2=0
  .rw[if_pos h2];obtain⟨v,hv⟩:=aL hm;have qN:(aD ls).getD (((d-2*ls.length)/2+1)%(aD ls).length) 0=v:=by rw[cP,hv];rfl
   rw[qN,fromAxis _ hv];have hb:((!dn ls v)==dn ls v)=false:=by cases dn ls v<;>rfl
   rw[hb,Io (show(d-2*ls.length)/2<(aD ls).length by omega)];simp only[iF,if_false];omega
  rw[if_neg h2];obtain⟨v,hv⟩:=aL (ls:=aD ls) (k:=(d-2*ls.length)/2) aa;have qN:(aD ls).getD ((d-2*ls.length)/2) 0=v:=by rw[cP,hv];rfl
  rw[qN,fromAxis _ hv];simp only[beq_self_eq_true,if_true];omega
 have hn:0<ls.length:=aa;have lC:=eJ (d/2+1) hn;have key:∀(v:Nat) (fw:Bool),v<ls.length->(d%2==0)=fw->v=(if fw then (d/2+1)%ls.length else d/2)->kO ls.length v fw=d:=by
  intro v fw hv tx dZ;unfold kO;cases fw with
  |true=>
   have tx:d%2=0:=by simpa using tx
   simp only[if_true] at dZ ⊢;rw[dZ,Io (show d/2<ls.length by omega)];omega
  |false=>
   have tx:d%2≠0:=by simpa using tx
   simp only[iF,if_false] at dZ ⊢;omega
 generalize hv:(if (d%2==0)=true then (d/2+1)%ls.length else d/2)=v;generalize tx:(d%2==0)=fw at hv;have nq:v<ls.length:=by rw[<- hv];split<;>omega
 have yJ:=key v fw nq tx hv.symm;obtain⟨l,hl⟩:=aL nq;rw[We h tx hv.symm hl];cases hk:(l.kind==2) with
 |true=>
  have hc:l.aC=true:=hk;obtain⟨hb,m,hm,mc,mi,mo,ms⟩:=Gr ok.cr hl hc;have FU:=(IB ok.cr hl hc).2;rw[if_pos rfl];obtain⟨e1,e2⟩:=T0 FU (fw==(l.over==(l.sign==1)));unfold Da;rw[if_neg (along_small _ FU)];have mk:(m.kind==2)=true:=mc;simp only[e1,e2,hm,mk,if_true,hb,hl];have wS:((fw==(l.over==(l.sign==1)))==(l.over==(l.sign==1)))=fw:=by cases fw<;>cases (l.over==(l.sign==1))<;>rfl
  rw[wS];exact yJ
 |false=>
  have hp:=ok.Ih hl hk;have FH:=BO ok.ax hl hp;have bq:=JC ok.ax hl hp;have hpT:=(bn.1 bq).1;rw[if_neg af,FH];cases hq:(dn ls v==fw) with
  |true=>
   simp only[if_true];unfold Da;rw[if_pos aa,if_pos aa];have e1:(2*ls.length+2*cU ls l-2*ls.length)/2=cU ls l:=aa;have e2:(aD ls).getD (cU ls l) 0=v:=by rw[cP,bq];rfl
   rw[e1,e2,show dn ls v=fw by simpa using hq];exact yJ
  |false=>
   have jZ:=eJ (cU ls l+(aD ls).length-1) (show 0<(aD ls).length by omega);simp only[iF,if_false];unfold Da;rw[if_pos aa,if_neg aa];have e1:(2*ls.length+2*((cU ls l+(aD ls).length-1)%(aD ls).length)+1-2*ls.length)/2=(cU ls l+(aD ls).length-1)%(aD ls).length:=aa;have e2:(aD ls).getD (cU ls l) 0=v:=by rw[cP,bq];rfl
   rw[e1,y8 hpT,e2,show(!dn ls v)=fw by revert hq;cases dn ls v<;>cases fw<;>simp];exact yJ
theorem agO(ok:gU F ls){d e:Nat}(hd:d<2*ls.length+2*(aD ls).length)(he:e<2*ls.length+2*(aD ls).length)(h:bR ls d=bR ls e):d=e:=by have h1:=UZ ok hd;have h2:=UZ ok he;rw[<- h1,<- h2];exact congrArg _ h
def Dc(next:Nat->Nat)(n2:Nat):Nat->Nat->List Bool->List Nat×List Bool
 |0,_,sp=>([],sp)
 |k+1,x,sp=>if x<n2 then
   if sp.getD x true then ([],sp) else (x::(Dc next n2 k (next x) (sp.set x true)).1,(Dc next n2 k (next x) (sp.set x true)).2)
  else (x::(Dc next n2 k (next x) sp).1,(Dc next n2 k (next x) sp).2)
abbrev sn(S:List Bool)(x:Nat):Bool:=S.getD x true
theorem GG{S:List Bool}{y:Nat}(hx:x<S.length):sn (S.set x true) y=if y=x then true else sn S y:=by
 unfold sn;rw[cP,cP,ml];by_cases h:x=y
 .subst h;simp[hx]
 rw[if_neg h,if_neg (fun e=>h e.symm)]
structure xY (next:Nat->Nat) (n2 N:Nat):Prop where
 le:n2<=N
 lt:∀x,x<N->next x<N
 inj:∀x y,x<N->y<N->next x=next y->x=y
 ax:∀x,x<N->n2<=x->next x<n2
def DO(next:Nat->Nat)(N:Nat)(S:List Bool):Prop:=∀y,y<N->sn S y=sn S (next y)
structure Inv (next:Nat->Nat) (N d:Nat) (S:List Bool) (x:Nat):Prop where
 i1:∀y,y<N->sn S (next y)=true->sn S y=true\/next y=d
 i2:∀y,y<N->sn S y=true->sn S (next y)=true\/next y=x
 i4:sn S x=true->x=d
 pr:(x=d/\sn S x=false)\/ ∃p,p<N/\next p=x/\sn S p=true
theorem Inv.start{next:Nat->Nat}{N d:Nat}{S:List Bool}(h:DO next N S)(hd:sn S d=false):Inv next N d S d:=
 ⟨fun y hy hs=>.inl (by rw[h y hy];exact hs),fun y hy hs=>.inl (by rw[<- h y hy];exact hs),fun _=>rfl,.inl ⟨rfl,hd⟩⟩
theorem Inv.stop{next:Nat->Nat}{N d:Nat}{S:List Bool}(m:xY next n2 N)(h:Inv next N d S x)(hx:sn S x=true):DO next N S:=by
 have hxd:=h.i4 hx;subst hxd;intro y hy;cases h1:sn S y with
 |true=>
  rcases h.i2 y hy h1 with h2|h2
  .rw[h2]
  rw[h2,hx]
 |false=>
  cases h2:sn S (next y) with
  |false=>rfl
  |true=>
   rcases h.i1 y hy h2 with h3|h3
   .rw[h3] at h1;cases h1
   rcases h.pr with ⟨_,h4⟩|⟨p,hp,hY,cn⟩
   .rw[hx] at h4;cases h4
   have:=m.inj y p hy hp (by rw[h3,hY]);rw[this,cn] at h1;cases h1
theorem Inv.step{next:Nat->Nat}{N d:Nat}{S:List Bool}(m:xY next n2 N)(hl:S.length=N)(vp:x<N)(h:Inv next N d S x)(hx:sn S x=false):Inv next N d (S.set x true) (next x):=by
 have xj:x<S.length:=aa;refine⟨fun y hy hs=>?_,fun y hy hs=>?_,fun hs=>?_,.inr ⟨x,vp,rfl,by rw[GG xj,if_pos rfl]⟩⟩
 .rw[GG xj] at hs ⊢;by_cases e:next y=x
  .rcases h.pr with ⟨h1,_⟩|⟨p,hp,hY,cn⟩
   .exact .inr (by rw[e,h1])
   have:=m.inj y p hy hp (by rw[e,hY]);left;rw[this];split
   .rfl
   exact cn
  rw[if_neg e] at hs;rcases h.i1 y hy hs with h2|h2
  .left;split
   .rfl
   exact h2
  exact .inr h2
 .rw[GG xj] at hs ⊢;by_cases e:y=x
  .subst e;exact .inr rfl
  rw[if_neg e] at hs;rcases h.i2 y hy hs with h2|h2
  .left;split
   .rfl
   exact h2
  left;rw[if_pos h2]
 rw[GG xj] at hs;by_cases e:next x=x
 .rcases h.pr with ⟨h1,_⟩|⟨p,hp,hY,cn⟩
  .rw[e,h1]
  have:=m.inj p x hp vp (by rw[hY,e]);rw[this,hx] at cn;cases cn
 rw[if_neg e] at hs;rcases h.i1 x vp hs with h2|h2
 .rw[hx] at h2;cases h2
 exact h2
theorem N5{S:List Bool}(hx:x<n2)(hl:n2<=S.length):(S.take n2).getD x true=sn S x:=by unfold sn;rw[cP,cP,lQ,if_pos hx]
theorem V9{S:List Bool}:(S.take n2).set x true=(S.set x true).take n2:=by rw[<- List.take_set]
theorem V8{S:List Bool}(hx:n2<=x):(S.set x true).take n2=S.take n2:=by rw[List.take_set];exact List.set_eq_of_length_le (by rw[jt];omega)
theorem agZ{next:Nat->Nat}{N d:Nat}(m:xY next n2 N)(hd:d<n2):∀(fuel x:Nat) (S:List Bool),S.length=N->x<N->Inv next N d S x->tO S<fuel->
  DO next N (ei next fuel x S).2/\Dc next n2 fuel x (S.take n2)=((ei next fuel x S).1,(ei next fuel x S).2.take n2):=by
 intro fuel
 induction fuel with
 |zero=>intro x S _ _ _ h;omega
 |succ fuel ih=>
  intro x S hl hx hi hu;have hle:=m.le;unfold ei Dc;cases hs:S.getD x true with
  |true=>have hxd:=hi.i4 hs;have au:x<n2:=aa;rw[if_pos au,N5 au aa,show sn S x=true from hs];exact⟨hi.stop m hs,rfl⟩
  |false=>
   have CC:S[x]?=some false:=by
    rw[cP] at hs;cases h1:S[x]? with
    |none=>rw[h1] at hs;cases hs
    |some b=>rw[h1] at hs;exact congrArg some hs
   have yV:=GN CC;obtain⟨c1,c2⟩:=ih (next x) (S.set x true) (by rw[kY,hl]) (m.lt x hx) (hi.step m hl hx hs) aa;simp only[iF,if_false];refine⟨c1,?_⟩;by_cases au:x<n2
   .rw[if_pos au,N5 au aa,show sn S x=false from hs];simp only[iF,if_false];rw[V9,c2]
   rw[if_neg au];rw[V8 aa] at c2;rw[c2]
theorem gU.jA(_:gU F ls):∀x∈aD ls,x<ls.length:=fun _ h=>Hd h
theorem gU.hp(ok:gU F ls):∀v l,ls[v]?=some l->(l.kind==2)=false->v∈aD ls:=fun _ l hv h2=>rF.2 ⟨l,hv,ok.Ih hv h2⟩
abbrev nD(ls:List Let):Nat:=2*ls.length+2*(aD ls).length
theorem maps(ok:gU F ls):xY (bR ls) (2*ls.length) (nD ls):=by
 refine⟨by unfold nD;omega,fun x hx=>Jd ok.jA ok.hp hx,fun x y hx hy h=>agO ok hx hy h,fun x hx hn=>?_⟩;have hx:x<2*ls.length+2*(aD ls).length:=hx;have wW:∀k,k<(aD ls).length->(aD ls).getD k 0<ls.length:=fun k hk=>by obtain⟨v,hv⟩:=aL hk;rw[cP,hv];exact ok.jA v (ba hv)
 have hm:=eJ ((x-2*ls.length)/2+1) (show 0<(aD ls).length by omega);show eL ls (aD ls) x<_;unfold eL;rw[if_pos hn];split
 .exact BI (wW _ hm)
 exact BI (wW _ aa)
theorem Wq(next:Nat->Nat):∀(k x:Nat) (S:List Bool) (y:Nat),sn S y=true->sn (ei next k x S).2 y=true:=by
 intro k
 induction k with
 |zero=>intro x S y h;exact h
 |succ k ih=>
  intro x S y h;unfold ei;split
  .exact h
  refine ih _ _ _ ?_;unfold sn;rw[cP,ml];split
  .split<;>rfl
  rw[<- cP];exact h
theorem Wo(next:Nat->Nat)(k x:Nat)(S:List Bool)(hk:tO S<k):sn (ei next k x S).2 x=true:=by
 cases k with
 |zero=>omega
 |succ k=>
  unfold ei;cases hs:S.getD x true with
  |true=>simpa using hs
  |false=>
   simp only[iF,if_false];refine Wq _ _ _ _ _ ?_;unfold sn;rw[cP,ml];split
   .split<;>rfl
   rename_i h;exact absurd rfl h
section
variable {next:Nat->Nat} {n2 N:Nat}
theorem N4(h:x<N):sn (List.replicate N false) x=false:=by unfold sn;rw[cP,List.getElem?_replicate,if_pos h];rfl
theorem Jg(m:xY next n2 N):∀k,k<=n2->DO next N (cR next N k).2/\ ∀x,x<k->sn (cR next N k).2 x=true:=by
 intro k
 induction k with
 |zero=>intro _;refine⟨fun y hy=>?_,fun x h=>absurd h (rC x)⟩;show sn (List.replicate N false) y=sn (List.replicate N false) (next y);rw[N4 hy,N4 (m.lt y hy)]
 |succ k ih=>
  intro hk;obtain⟨c,s⟩:=ih aa;have hlen:=Bh next N k;have hle:=m.le;rw[uR];unfold rq;cases hs:(cR next N k).2.getD k true with
  |true=>
   simp only[if_true];refine⟨c,fun x hx=>?_⟩;rcases kK.1 hx with h|rfl
   .exact s x h
   exact hs
  |false=>
   simp only[iF,if_false];have hul:=Dy (cR next N k).2;obtain⟨c1,_⟩:=agZ m (show k<n2 by omega) ((cR next N k).2.length+1) k (cR next N k).2 hlen aa (Inv.start c hs) aa;refine⟨c1,fun x hx=>?_⟩;rcases kK.1 hx with h|rfl
   .exact Wq _ _ _ _ _ (s x h)
   exact Wo _ _ _ _ aa
theorem Ov(m:xY next n2 N):∀k,n2<=k->k<=N->cR next N k=cR next N n2:=by
 intro k
 induction k with
 |zero=>intro h _;rw[show n2=0 by omega]
 |succ k ih=>
  intro h1 h2;by_cases e:n2=k+1
  .rw[e]
  rw[uR,ih aa aa];obtain⟨c,s⟩:=Jg m n2 (bo _);unfold rq;have:(cR next N n2).2.getD k true=true:=by have h3:=c k aa;have h4:=s (next k) (m.ax k aa aa);show sn (cR next N n2).2 k=true;rw[h3,h4]
  rw[this];rfl
end

abbrev gQ(o:List (Nat×Nat)):List (List PV):=o.map fun p=>[PV.int .i64 (p.1:Int),PV.int .i64 (p.2:Int)]
theorem adF{o:List (Nat×Nat)}{k:Nat}{p:Nat×Nat}(h:o[k]?=some p):(gQ o)[k]?=some [.int .i64 (p.1:Int),.int .i64 (p.2:Int)]:=by simp[h]
def mh(g r to:Nat):List (Nat×Nat):=(g,r)::(List.range (to-g)).map fun i=>(g+1+i,0)
def pJ(g to:Nat):List Nat:=(List.range (to-g)).map fun i=>g+1+i
abbrev xz:Nat:=127
def gN (ls:List Let)(i:Nat):Nat:=match ls[i]? with|some l=>l.gate.toNat|none=>0
def rN (ls:List Let)(i:Nat):Nat:=match ls[i]? with|some l=>l.aO.toNat|none=>0
theorem Mi{i:Nat}{l:Let}(h:ls[i]?=some l):gN ls i=l.gate.toNat:=by simp[gN,h]
theorem U7{i:Nat}{l:Let}(h:ls[i]?=some l):rN ls i=l.aO.toNat:=by simp[rN,h]
def uN(F:Nat)(ls:List Let)(j:Nat):List (Nat×Nat):=
 let u:=(aD ls).getD j 0
 let v:=(aD ls).getD ((j+1)%(aD ls).length) 0
 if j+1<(aD ls).length then mh (gN ls u) (rN ls u) (gN ls v) else mh (gN ls u) (rN ls u) F++mh 0 0 (gN ls v)
def xy(F:Nat)(ls:List Let)(j:Nat):List Nat:=
 let u:=(aD ls).getD j 0
 let v:=(aD ls).getD ((j+1)%(aD ls).length) 0
 if j+1<(aD ls).length then pJ (gN ls u) (gN ls v) else pJ (gN ls u) F++pJ 0 (gN ls v)
theorem CY(a b:List (Nat×Nat)):gQ (a++b)=gQ a++gQ b:=af
theorem CO(a b:List Nat):nP (a++b)=nP a++nP b:=af
theorem I8(g r to:Nat):(mh g r to).length=to-g+1:=by simp[mh]
theorem I7(g to:Nat):(pJ g to).length=to-g:=by simp[pJ]
theorem JB(ok:gU F ls)(hj:j<(aD ls).length):∃u l,(aD ls)[j]?=some u/\(aD ls).getD j 0=u/\ls[u]?=some l/\l.aG=true/\nV F ls l:=by obtain⟨u,hu⟩:=aL hj;obtain⟨l,h1,h2⟩:=rF.1 (ba hu);exact⟨u,l,hu,by rw[cP,hu];rfl,h1,h2,ok.ax.gA l (ba h1) h2⟩
structure Fc where
 eC:Bool
 bX:List Nat
 places:List (Nat×Nat)
 rM:List Nat
 outer:Bool
def Fc.ps(f:Fc):List PV:=[.bool f.eC,.sl (nP f.bX),.sl (gQ f.places),.sl (nP f.rM),.bool f.outer]
def Fc.add(F:Nat)(ls:List Let)(f:Fc)(x:Nat):Fc:=
 if x<2*ls.length then {f with bX:=f.bX++[x]}
 else {f with places:=f.places++(if x%2=0 then uN F ls ((x-2*ls.length)/2) else (uN F ls ((x-2*ls.length)/2)).reverse),rM:=f.rM++(if x%2=0 then xy F ls ((x-2*ls.length)/2) else (xy F ls ((x-2*ls.length)/2)).reverse),outer:=f.outer||decide ((x-2*ls.length)/2+1=(aD ls).length)}
def Fc.new(ls:List Let)(d:Nat):Fc:=⟨dn ls (d/2+1),[],[],[],false⟩
def wH(F:Nat)(ls:List Let)(w:List Nat)(k:Nat):Fc:=(w.take k).foldl (Fc.add F ls) (Fc.new ls (w.headD 0))
def lW(F:Nat)(ls:List Let)(w:List Nat):Fc:=w.foldl (Fc.add F ls) (Fc.new ls (w.headD 0))
def cX(F:Nat)(ls:List Let):List Fc:=(lN (bR ls) (nD ls)).map (lW F ls)
theorem RY(F:Nat)(ls:List Let)(w:List Nat):wH F ls w w.length=lW F ls w:=by unfold wH lW;rw[ke]
theorem R0{w:List Nat}{k:Nat}(h:w[k]?=some x):wH F ls w (k+1)=(wH F ls w k).add F ls x:=by unfold wH;rw[lR,h,List.foldl_append];rfl
theorem Cc(ok:gU F ls)(hj:j<(aD ls).length):gN ls ((aD ls).getD j 0)<=F:=by obtain⟨u,l,_,du,hl,_,hg⟩:=JB ok hj;rw[du,Mi hl];have:=hg.g1;have:=hg.g0;omega
theorem NA(ok:gU F ls)(hj:j<(aD ls).length):(uN F ls j).length<=2*F+2:=by have h1:=Cc ok hj;have h2:=Cc ok (eJ (j+1) (show 0<(aD ls).length by omega));unfold uN;simp only;split<;>simp only[iW,I8]<;>omega
theorem Nz(ok:gU F ls)(hj:j<(aD ls).length):(xy F ls j).length<=2*F+2:=by have h1:=Cc ok hj;have h2:=Cc ok (eJ (j+1) (show 0<(aD ls).length by omega));unfold xy;simp only;split<;>simp only[iW,I7]<;>omega
theorem RZ(ok:gU F ls){w:List Nat}(hw:∀x∈w,x<nD ls):∀k,k<=w.length->(wH F ls w k).bX.length<=k/\(wH F ls w k).places.length<=k*(2*F+2)/\(wH F ls w k).rM.length<=k*(2*F+2):=by
 intro k
 induction k with
 |zero=>intro _;exact⟨bo _,bc _,bc _⟩
 |succ k ih=>
  intro hk;obtain⟨x,hx⟩:=aL (show k<w.length by omega);obtain⟨i1,i2,i3⟩:=ih aa;have qO:=hw x (ba hx);rw[R0 hx,Nat.succ_mul];unfold Fc.add;by_cases h:x<2*ls.length
  .rw[if_pos h];simp only[iW,dN,fj];exact⟨aa,aa,aa⟩
  rw[if_neg h];have hj:(x-2*ls.length)/2<(aD ls).length:=by unfold nD at qO;omega
  have l1:=NA ok hj;have l2:=Nz ok hj;refine⟨by simp only;omega,?_,?_⟩
  .simp only[iW];split<;>(try rw[xO])<;>omega
  simp only[iW];split<;>(try rw[xO])<;>omega
theorem agW(next:Nat->Nat):∀(k x:Nat) (S:List Bool),∀y∈(ei next k x S).1,y<S.length:=by
 intro k
 induction k with
 |zero=>intro x S y h;simp[ei] at h
 |succ k ih=>
  intro x S y h;unfold ei at h;cases hs:S.getD x true with
  |true=>rw[hs] at h;simp at h
  |false=>
   rw[hs] at h;have hx:x<S.length:=by
    rcases Nat.lt_or_ge x S.length with h1|h1
    .exact h1
    rw[cP,uT h1] at hs;cases hs
   simp only[iF,if_false,dU] at h;rcases h with rfl|h
   .exact hx
   have:=ih _ _ y h
   simpa using this
theorem agX(next:Nat->Nat):∀(k x:Nat) (S:List Bool),(ei next k x S).1.length<=tO S:=by
 intro k
 induction k with
 |zero=>intro x S;simp[ei]
 |succ k ih=>
  intro x S;unfold ei;cases hs:S.getD x true with
  |true=>simp
  |false=>
   have CC:S[x]?=some false:=by
    rw[cP] at hs;cases h1:S[x]? with
    |none=>rw[h1] at hs;cases hs
    |some b=>rw[h1] at hs;exact congrArg some hs
   have yV:=GN CC;have:=ih (next x) (S.set x true);simp only[iF,if_false,dN];omega
theorem Wn(next:Nat->Nat){k:Nat}{S:List Bool}(h:S.getD x true=false):∃t,(ei next (k+1) x S).1=x::t:=by unfold ei;rw[h];exact⟨_,rfl⟩
theorem ag0(next:Nat->Nat)(N:Nat):∀k,∀w∈(cR next N k).1,(∃d t,w=d::t/\d<k)/\w.length<=N/\ ∀y∈w,y<N:=by
 intro k
 induction k with
 |zero=>intro w h;simp[cR] at h
 |succ k ih=>
  intro w h;rw[uR] at h;unfold rq at h;have hlen:=Bh next N k;have old:w∈(cR next N k).1->(∃d t,w=d::t/\d<k+1)/\w.length<=N/\ ∀y∈w,y<N:=fun h=>by obtain⟨⟨d,t,h1,h2⟩,h3⟩:=ih w h;exact⟨⟨d,t,h1,aa⟩,h3⟩
  cases hs:(cR next N k).2.getD k true with
  |true=>simp only[hs,if_true] at h;exact old h
  |false=>
   simp only[hs,iF,if_false,fk,sK] at h;rcases h with h|rfl
   .exact old h
   obtain⟨t,ht⟩:=Wn next (k:=(cR next N k).2.length) hs;refine⟨⟨k,t,ht,aa⟩,?_,fun y hy=>?_⟩
   .have h1:=agX next ((cR next N k).2.length+1) k (cR next N k).2;have h2:=Dy (cR next N k).2;omega
   have:=agW next _ _ _ y hy;omega
theorem Jh(ok:gU F ls):∀w∈lN (bR ls) (nD ls),(∃d t,w=d::t/\d<2*ls.length)/\w.length<=nD ls/\ ∀y∈w,y<nD ls:=by intro w h;unfold lN at h;rw[Ov (maps ok) (nD ls) (by unfold nD;omega) (bo _)] at h;exact ag0 (bR ls) (nD ls) _ w h
abbrev u6:Nat:=77
theorem ahh{a b:PV}{id g z o l:Nat}{cp cf:C}:vJ [[.p a,.hsl id g z o l,cp,cf,.p b]]=none:=rfl
theorem Zh{blk:aw}{s g ty sd td zd sp tp zp sf tf zf:Nat}{a o:Bool}{cd cp cf:C}{D P G:List (List PV)}(hb:blk s=(g,some (.fO ty 5 [[.p (.bool a),cd,cp,cf,.p (.bool o)]])))(gd:grown sd td zd D (.one cd) blk)(gp:grown sp tp zp P (.one cp) blk)(gf:grown sf tf zf G (.one cf) blk):
  ∃fr,eK blk (.one (.hsl s g 5 0 1))=some ([[.bool a,.sl D,.sl P,.sl G,.bool o]],[s],fr)/\rD blk fr/\ ∀i∈fr,i=sd\/i=sp\/i=sf:=by
 obtain⟨r1,n1,a1,q1⟩:=gd.I1;obtain⟨r2,n2,a2,q2⟩:=gp.I1;obtain⟨r3,n3,a3,q3⟩:=gf.I1;refine⟨r1++(r2++r3),?_,a1.app (a2.app a3),fun i hi=>?_⟩
 .simp only[eK,hb];simp[collect,n1,n2,n3,I4,PV.norm]
 simp only[fk] at hi;rcases hi with hi|hi|hi
 .rcases q1 with rfl|rfl<;>simp at hi;exact .inl hi
 .rcases q2 with rfl|rfl<;>simp at hi;exact .inr (.inl hi)
 rcases q3 with rfl|rfl<;>simp at hi;exact .inr (.inr hi)
abbrev kr(l:List Fc):List (List PV):=l.map Fc.ps
theorem W6(F:Nat)(ls:List Let):∀(w:List Nat) (f:Fc),f.bX≠[]->(w.foldl (Fc.add F ls) f).bX≠[]:=by
 intro w
 induction w with
 |nil=>intro f h;exact h
 |cons x w ih=>
  intro f h;refine ih _ ?_;unfold Fc.add;split
  .simp
  exact h
theorem ZM{d:Nat}{t:List Nat}(h:d<2*ls.length):(lW F ls (d::t)).bX≠[]:=by unfold lW;refine W6 F ls t _ ?_;unfold Fc.add;rw[show(d::t).headD 0=d from rfl,if_pos h];simp
def pR(ls:List Let)(k:Nat):List Bool:=(List.range ls.length).map fun i=>decide (i<k)&& !dn ls (i+1)
theorem Ph(ls:List Let)(k:Nat):(pR ls k).length=ls.length:=by simp[pR]
theorem X1(ls:List Let):pR ls 0=List.replicate ls.length false:=by
 refine List.ext_getElem? fun i=>?_;simp only[pR,js,List.getElem?_replicate];by_cases h:i<ls.length
 .simp[h]
 rw[uT (by simpa using h),if_neg h];rfl
theorem X0(ls:List Let)(k:Nat):pR ls (k+1)=(pR ls k).set k (!dn ls (k+1)):=by
 refine List.ext_getElem? fun i=>?_;rw[ml,Ph];simp only[pR,js];by_cases h:i<ls.length
 .rw[rz h];by_cases e:k=i
  .subst e;simp[h]
  simp only[kM,e,if_false];congr 2;exact decide_eq_decide.2 aa
 rw[uT (by simpa using h)];by_cases e:k=i
 .subst e;rw[if_pos rfl,if_neg h];rfl
 rw[if_neg e];rfl
abbrev vZ(ls:List Let):List Bool:=pR ls ls.length
theorem X2{i:Nat}(h:i<ls.length):(vZ ls)[i]?=some (!dn ls (i+1)):=by simp[pR,h]
theorem X5(ok:gU F ls):aE S 50 [.one (.p (oJ F ls))] (.one (.own 4 1 (bP (vZ ls)))):=by
 have hl:=ok.hl;have jE:ls.length<=140737488355328:=aa;have AS:List.replicate ls.length [PV.bool false]=bP (pR ls 0):=by rw[X1];simp
 refine bd c50 ?_;simp only[go_sem,i50,jE,AS];refine ck (fun k aj blk=>aj 0=.one (.p (oJ F ls))/\aj 3=.one (.hsl 3200064384 1 1 0 ls.length)/\blk 3200064384=(1,some (.arr 4 1 (bP (pR ls k))))/\
   aj 4=vb (!dn ls k)/\aj 18=.one (.p (mJ ls))/\aj 19=vi ls.length/\aj 20=vi k) 0 ls.length (bc _) ?_ ?_
 .simp only[go_sem];first|exact⟨rfl,rfl⟩|exact⟨rfl,rfl,rfl⟩|exact⟨rfl,rfl,rfl,rfl⟩|exact rfl
 rintro k aj blk hk ⟨h0,h3,hA,h4,ng,um,oT⟩
 by_cases au:k<ls.length
 .obtain⟨l,bx⟩:=aL au;have hi:=iU bx;have aF:((k:Int)<(ls.length:Int)):=aa;have w1:=bj (n:=k) aa;have hlen:k<(pR ls k).length:=by rw[Ph];exact au
  obtain⟨b0,gC⟩:=aL hlen;have lB:=oF gC;have iT:=BQ (pR ls k) k (!dn ls (k+1));rw[<- X0] at iT;cases hp:(l.kind==1) with
  |true=>have hd:=En bx hp;have aaJ:=oF (Hl bx hp);rw[hd] at iT;rw[Bool.not_not] at iT;simp only[go_sem,i50_l1,h0,h3,hA,h4,ng,um,oT,hi,Let.ps,au,aF,w1,hp,aaJ,lB,iT,hd]
  |false=>have hd:=Eo bx hp;rw[hd] at iT;simp only[go_sem,i50_l1,h0,h3,hA,h4,ng,um,oT,hi,Let.ps,au,aF,w1,hp,lB,iT,hd]
 have:k=ls.length:=aa;subst this;simp only[go_sem,i50_l1,i50_r2,h3,um,oT,dT];exact ID hA (by simp[pR])
abbrev yY(id:Nat):Prop:=kI id=114
theorem VM{g r T k:Nat}(h:k<=T-g):(mh g r T)[k]?=some (g+k,if k=0 then r else 0):=by
 cases k with
 |zero=>rfl
 |succ k=>unfold mh;rw[List.getElem?_cons_succ,js,rz aa];simp;omega
theorem af2{g T k:Nat}(h:k<T-g):(pJ g T)[k]?=some (g+1+k):=by unfold pJ;rw[js,rz h];rfl
def BT(g r T:Nat)(ps fs:List (List PV))(i1 i2:Nat)(blk:aw)(v:V)(ak:aw):Prop:=
 ∃c1 c2 j2,v=.tup [.one c1,.one c2]/\grown 7296320192 xz 2 (ps++gQ (mh g r T)) (.one c1) ak/\grown j2 3 1 (fs++nP (pJ g T)) (.one c2) ak/\(j2=i2\/j2=7296256256)/\
  Kept (fun id=>yY id\/id=i1\/id=i2) blk ak
def bt1:List Nat:=[7296000000,7296000064,7296128128,7296256192,7296256256,7296320128]
def bt2:List Nat:=[7296000000,7296000064,7296128128,7296128192,7296256192,7296320128,7296320192]
theorem D0{al:Al}{blk:aw}{g r T t i1 i2:Nat}{ps fs:List (List PV)}{c1 c2:C}(okf:∀id,yY id->al.ok id=true)(o1:al.ok i1=true)(o2:al.ok i2=true)(hT:g<=T)(ht:t=if T=g then r else 0)(hb:T<=1000)(cn:ps.length<=1000000)(hfs:fs.length<=1000000)
  (n12:i1≠i2) (nb1:i1∉bt1) (nb2:i2∉bt2) (h1:grown i1 xz 2 ps (.one c1) blk) (h2:grown i2 3 1 fs (.one c2) blk):
  ∃v ak,fT S 114 [.agg [.p (.int .i64 g),.p (.int .i64 r)],.agg [.p (.int .i64 T),.p (.int .i64 t)],.one c1,.one c2] al blk v ak/\BT g r T ps fs i1 i2 blk v ak:=by
 have k0:al.ok 7296000000=true:=okf _ rfl;have k64:al.ok 7296000064=true:=okf _ rfl;have kb1:al.ok 7296128128=true:=okf _ rfl;have ka1:al.ok 7296128192=true:=okf _ rfl;have kb2:al.ok 7296256192=true:=okf _ rfl;have ka2:al.ok 7296256256=true:=okf _ rfl;have kb3:al.ok 7296320128=true:=okf _ rfl;have ka3:al.ok 7296320192=true:=okf _ rfl;refine lf c114 (fy rfl) ?_;simp only[go_sem,i114,k0,k64];have lenP:=I8 g r T;have lenF:=I7 g T;refine ck (fun k aj ak=>aj 4=.one (.aZ 7296000000 ((blk 7296000000).1+1) 0)/\aj 5=.one (.aZ 7296000064 ((blk 7296000064).1+1) 0)/\
   ak 7296000000=((blk 7296000000).1+1,some (.var [.p (.int .i64 ((g+k:Nat):Int)),.p (.int .i64 ((if k=0 then r else 0:Nat):Int))]))/\ak 7296000064=((blk 7296000064).1+1,some (.var [.p (.int .i64 T),.p (.int .i64 t)]))/\
   ∃d1 d2 j1 j2,aj 2=.one d1/\aj 3=.one d2/\(j1=i1\/j1=7296128192)/\(j2=i2\/j2=7296256256)/\grown j1 xz 2 (ps++gQ ((mh g r T).take k)) (.one d1) ak/\grown j2 3 1 (fs++nP ((pJ g T).take k)) (.one d2) ak/\Kept (fun id=>yY id\/id=i1\/id=i2) blk ak) 0 (T-g) (bc _) ?_ ?_
 .simp only[go_sem];refine⟨rfl,c1,c2,i1,i2,rfl,rfl,.inl rfl,.inl rfl,?_,?_,?_⟩
  .exact(h1.of_eq (aJ (Iq nb1 (by simp[bt1])))).of_eq (aJ (Iq nb1 (by simp[bt1])))
  .exact(h2.of_eq (aJ (Iq nb2 (by simp[bt2])))).of_eq (aJ (Iq nb2 (by simp[bt2])))
  exact((Kept.refl _ _).ca (.inl rfl) _).ca (.inl rfl) _
 rintro k aj ak hk ⟨h4,h5,hA,hB,d1,d2,j1,j2,e2,e3,q1,q2,g1,g2,bJ⟩
 have oj1:al.ok j1=true:=by rcases q1 with rfl|rfl<;>assumption
 have oj2:al.ok j2=true:=by rcases q2 with rfl|rfl<;>assumption
 have n1:∀a,a∈bt1->j1≠a:=fun a ha e=>by
  rcases q1 with rfl|rfl
  .exact nb1 (e▸ha)
  exact absurd (e▸ha) ae
 have n2:∀a,a∈bt2->j2≠a:=fun a ha e=>by
  rcases q2 with rfl|rfl
  .exact nb2 (e▸ha)
  exact absurd (e▸ha) ae
 have n3:j1≠j2:=fun e=>by
  rcases q1 with rfl|rfl
  .rcases q2 with rfl|rfl
   .exact n12 e
   exact n1 _ ae e
  exact n2 _ ae e.symm
 have kj1:yY j1\/j1=i1\/j1=i2:=by
  rcases q1 with rfl|rfl
  .exact .inr (.inl rfl)
  exact .inl rfl
 have kj2:yY j2\/j2=i1\/j2=i2:=by
  rcases q2 with rfl|rfl
  .exact .inr (.inr rfl)
  exact .inl rfl
 have ltk:((mh g r T).take k).length=k:=by rw[jt];omega
 have ltf:((pJ g T).take k).length=k:=by rw[jt];omega
 by_cases au:k<T-g
 .have aF:(((g+k:Nat):Int)<(T:Int)):=aa;have w1:IntKind.i64.wrap (((g+k:Nat):Int)+1)=((g+(k+1):Nat):Int):=bj (n:=g+k) aa;have hp:gQ ((mh g r T).take (k+1))=gQ ((mh g r T).take k)++[[.int .i64 ((g+k:Nat):Int),.int .i64 ((if k=0 then r else 0:Nat):Int)]]:=by
   rw[lR,VM aa,CY];rfl
  have hf:nP ((pJ g T).take (k+1))=nP ((pJ g T).take k)++[[.int .i64 ((g+(k+1):Nat):Int)]]:=by rw[lR,af2 au,CO,show g+1+k=g+(k+1) by omega];rfl
  simp only[go_sem,i114_l1,h4,h5,hA,hB,e2,aF,k0,k64,kb1];refine HG (id:=j1) (site:=7296128192) (bytes:=16) (xs:=[[.int .i64 ((g+k:Nat):Int),.int .i64 ((if k=0 then r else 0:Nat):Int)]]) (rd:=[7296128128]) (by simp[ka1,oj1,kb1]) (g1.of_eq (aJ (n1 _ ae))) (by simp[eK,aP]) (.inl rfl) (by simp only[iW,cq,ltk,dN,fj];omega) fun c aN hc aS=>?_;have hA2:=(aS 7296000000 ae (n1 _ ae).symm).trans ((aJ ae).trans hA);have qd:=(aS 7296000064 ae (n1 _ ae).symm).trans ((aJ ae).trans hB);simp only[go_sem,h4,hA2,e3,w1,k0,kb2]
  refine HG (id:=j2) (site:=7296256256) (bytes:=8) (xs:=[[.int .i64 ((g+(k+1):Nat):Int)]]) (rd:=[7296256192]) (by simp[ka2,oj2,kb2]) (g2.of_eq ((aJ (n2 _ ae)).trans ((aJ (n2 _ ae)).trans ((aS _ (n2 _ ae) n3.symm).trans (aJ (n2 _ ae)))))) (by simp[eK,aP]) (.inl rfl) (by simp only[iW,cq,ltf,dN,fj];omega) fun c' iG jm jB=>?_;have hA3:=(jB 7296000000 ae (n2 _ ae).symm).trans ((aJ ae).trans rn);have hB3:=(jB 7296000064 ae (n2 _ ae).symm).trans ((aJ ae).trans ((aJ ae).trans qd));simp only[go_sem,h4,h5,hA3,hB3,e2,e3,au];refine⟨rfl,c,c',7296128192,7296256256,rfl,rfl,.inr rfl,.inr rfl,?_,?_,fun id hn=>?_⟩
  .rw[hp,<- DD];exact hc.of_eq ((jB _ ae (n2 _ ae).symm).trans ((aJ ae).trans (aJ ae)))
  .rw[hf,<- DD];exact jm
  have a:∀x,yY x->id≠x:=fun x hx e=>hn (.inl (e▸hx));have b1:id≠j1:=fun e=>hn (e▸kj1);have b2:id≠j2:=fun e=>hn (e▸kj2);exact(jB id (a _ rfl) b2).trans ((aJ (a _ rfl)).trans ((aJ (a _ rfl)).trans ((aS id (a _ rfl) b1).trans ((aJ (a _ rfl)).trans (bJ id hn)))))
 have:k=T-g:=aa;subst this;have aF:¬(((g+(T-g):Nat):Int)<(T:Int)):=aa;simp only[go_sem,i114_l1,i114_r2,h4,h5,hA,hB,e2,aF,k0,k64,kb3];have Mw:gQ (mh g r T)=gQ ((mh g r T).take (T-g))++[[.int .i64 (T:Int),.int .i64 (t:Int)]]:=by
  have h1:=lR (l:=mh g r T) (i:=T-g);rw[VM (bo _),fS (show(mh g r T).length<=T-g+1 by omega)] at h1;have e1:g+(T-g)=T:=aa;have e2:(if T-g=0 then r else 0)=t:=by
   rw[ht];by_cases h:T=g
   .rw[if_pos h,if_pos aa]
   rw[if_neg h,if_neg aa]
  rw[e1,e2] at h1;exact(congrArg (fun l:List (Nat×Nat)=>gQ l) h1).trans (CY _ _)
 have dI:(pJ g T).take (T-g)=pJ g T:=fS aa;refine HG (id:=j1) (site:=7296320192) (bytes:=16) (xs:=[[.int .i64 (T:Int),.int .i64 (t:Int)]]) (rd:=[7296320128]) (by simp[ka3,oj1,kb3]) (g1.of_eq (aJ (n1 _ ae))) (by simp[eK,aP]) (.inl rfl) (by simp only[iW,cq,ltk,dN,fj];omega) fun c aN hc aS=>?_;simp only[go_sem,e3];refine⟨c,d2,j2,rfl,?_,?_,q2,fun id hn=>?_⟩
 .rw[Mw,<- DD];exact hc
 .rw[dI] at g2;exact g2.of_eq ((aS _ (n2 _ ae) n3.symm).trans (aJ (n2 _ ae)))
 have a:∀x,yY x->id≠x:=fun x hx e=>hn (.inl (e▸hx));have b1:id≠j1:=fun e=>hn (e▸kj1);exact(aS id (a _ rfl) b1).trans ((aJ (a _ rfl)).trans (bJ id hn))
theorem Pe(ok:gU F ls)(hj:j<(aD ls).length):∃u l,(aD ls)[j]?=some u/\(aD ls).getD j 0=u/\ls[u]?=some l/\l.aG=true/\nV F ls l/\cU ls l=j:=by obtain⟨u,l,h1,h2,h3,h4,h5⟩:=JB ok hj;obtain⟨l',k1,k2,k3⟩:=zT ok.ax h1;rw[h3] at k1;cases k1;exact⟨u,l,h1,h2,h3,h4,h5,k3⟩
theorem XU{pg pr qg qr:Nat}{p q:Let}(gp:nV F ls p)(gq:nV F ls q)(hp:cU ls p=j)(hq:cU ls q=j+1)(h1:p.gate=(pg:Int))(h2:p.aO=(pr:Int))(h3:q.gate=(qg:Int))(h4:q.aO=(qr:Int)):
  pg<=qg/\qr-1=if qg=pg then pr else 0:=by
 obtain⟨_,_,p1,p2⟩:=gp;obtain⟨_,_,q1,q2⟩:=gq;unfold cU at hp hq;rw[h1,h2] at hp;rw[h3,h4] at hq;rw[h2] at p1;rw[h1,h2] at p2;rw[h4] at q1;rw[h3,h4] at q2;simp only[oE] at hp hq p2 q2;have sp:=pY ls pg;have sq:=pY ls qg;have hle:pg<=qg:=by
  rcases Nat.lt_or_ge qg pg with h|h
  .have:=wJ (ls:=ls) (show qg+1<=pg by omega);omega
  exact h
 refine⟨hle,?_⟩;by_cases e:qg=pg
 .subst e;rw[if_pos rfl];omega
 rw[if_neg e];have:=wJ (ls:=ls) (show pg+1<=qg by omega);omega
theorem XS{qg qr:Nat}{q:Let}(gq:nV F ls q)(hq:cU ls q=0)(h3:q.gate=(qg:Int))(h4:q.aO=(qr:Int)):qr-1=0:=by obtain⟨_,_,q1,q2⟩:=gq;unfold cU at hq;rw[h3,h4] at hq;rw[h4] at q1;simp only[oE] at hq;omega
theorem afx:S.sites 114=[114]:=ah
theorem pP{vs:List V}{blk:aw}:∀id,yY id->(allow (S.ctx .all) 114 vs blk).ok id=true:=fun id h=>DU (by rw[afx,h];simp)
theorem aeG(ok:gU F ls)(hF:F<=1000)(hj:j<(aD ls).length):
  aE S 77 [.one (.p (oJ F ls)),vi j] (.tup [.one (bg xz 2 (gQ (uN F ls j))),.one (bg 3 1 (nP (xy F ls j)))]):=by
 have hl:=ok.hl;have gI:(aD ls).length<=1000000:=mm (pQ ls ls.length) hl;have hm:=eJ (j+1) (show 0<(aD ls).length by omega);obtain⟨u,p,hu,du,hp,pp,gp,xp⟩:=Pe ok hj;obtain⟨v,q,hv,dv,hq,pq,gq,xq⟩:=Pe ok hm;unfold uN xy;simp only[du,dv,Mi hp,Mi hq,U7 hp];have eF:=iU hp;have AP:=iU hq;have yO:=fv hu;have vl:=fv hv;have e1:=rm (j+1) (aD ls).length;have w1:=bj (n:=j) aa;have w2:=Bl (a:=(aD ls).length) aa aa;have lC:¬(((aD ls).length:Int)=0):=aa
 have hg0:=gp.g0;have Am:=gp.g1;have FI:=gq.g0;have bx:=gq.g1;have hr0:=gp.r0;have de:=gp.r1;have jR:=gq.r0;have jS:=gq.r1;have hcg:cg ls p.gate.toNat<=ls.length:=oH _ _;have hcq:cg ls q.gate.toNat<=ls.length:=oH _ _;obtain⟨pg,h1⟩:=nG (show 0<=p.gate by omega);obtain⟨pr,h2⟩:=nG (show 0<=p.aO by omega);obtain⟨qg,h3⟩:=nG (show 0<=q.gate by omega);obtain⟨qr,h4⟩:=nG (show 0<=q.aO by omega);have wr:=Bl (a:=qr) (by rw[h4] at jR;omega) aa;have dY:S.shared 114=true:=ah;have yN:=fun h=>XU gp gq xp (h:cU ls q=j+1) h1 h2 h3 h4;have Mt:=fun h=>XS gq (h:cU ls q=0) h3 h4
 rw[h1] at Am de hcg hg0;rw[h2] at de hr0;rw[h3] at FI bx jS hcq;rw[h4] at jR jS;rw[h1,h2,h3];simp only[oE] at de hcg jS hcq ⊢;refine bd c77 ?_;by_cases au:j+1<(aD ls).length
 .have aF:(j:Int)<(((aD ls).length-1:Nat):Int):=aa;rw[mq au] at xq;obtain⟨n1,n2⟩:=yN xq;simp only[if_pos au];simp only[go_sem,i77,yO,vl,eF,AP,Let.ps,w1,e1,w2,wr,aF,lC,h1,h2,h3,h4,dY];refine⟨ay,?_⟩;refine rQ (P:=BT pg pr qg [] [] 7296128192 7296256256 _) xg (D0 (g:=pg) (r:=pr) (T:=qg) (t:=qr-1) (c1:=.p .nils) (c2:=.p .nils) pP (pP _ rfl) (pP _ rfl) n1 n2 aa (bc _) (bc _) ae ae ae grown.nil grown.nil) ?_;rintro v ak ⟨c1,c2,j2,rfl,g1,g2,iR,bJ⟩
  have iR:j2=7296256256:=by rcases iR with h|h<;>exact h
  subst iR;simp only[go_sem];exact EX ae g1 g2
 have aF:¬(j:Int)<(((aD ls).length-1:Nat):Int):=aa;have Ap:(j+1)%(aD ls).length=0:=by rw[show j+1=(aD ls).length by omega,Nat.mod_self]
 rw[Ap] at xq;have n2:=Mt xq;simp only[if_neg au];have Mw:∃t:Nat,t=(if F=pg then pr else 0):=⟨_,rfl⟩;obtain⟨t,ht⟩:=Mw;have fin:∀(aj:Env) (blk:aw) (c1 c2:C),True:=fun _ _ _ _=>trivial;have ini:(((pg:Int)==(F:Int))=true/\t=pr/\F=pg)\/(((pg:Int)==(F:Int))=false/\t=0):=by
  by_cases h:F=pg
  .subst h;rw[if_pos rfl] at ht;exact .inl ⟨af,ht,rfl⟩
  rw[if_neg h] at ht;exact .inr ⟨by simp;omega,ht⟩
 rcases ini with ⟨hb,ht2,hFp⟩|⟨hb,ht2⟩
 .subst hFp;simp only[go_sem,i77,yO,vl,eF,AP,Let.ps,w1,e1,w2,wr,aF,lC,h1,h2,h3,h4,dY,hb];refine⟨ay,?_⟩;refine⟨ay,?_⟩;refine rQ (P:=BT F pr F [] [] 7296128192 7296256256 _) xg (D0 (g:=F) (r:=pr) (T:=F) (t:=pr) (c1:=.p .nils) (c2:=.p .nils) pP (pP _ rfl) (pP _ rfl) aa (by rw[if_pos rfl]) aa (bc _) (bc _) ae ae ae grown.nil grown.nil) ?_;rintro v aW ⟨c1,c2,j2,rfl,g1,g2,iR,bJ⟩
  have iR:j2=7296256256:=by rcases iR with h|h<;>exact h
  subst iR;rw[xQ] at g1 g2;have hA:=bJ 4928256384 ae;simp only[go_sem] at hA;simp only[go_sem,hA,dY];refine rQ (P:=BT 0 0 qg (gQ (mh F pr F)) (nP (pJ F F)) 7296320192 7296256256 _) xg (D0 (g:=0) (r:=0) (T:=qg) (t:=qr-1) (c1:=c1) (c2:=c2) pP (pP _ rfl) (pP _ rfl) (bc _) (by rw[n2];split<;>rfl) aa (by simp only[cq,I8];omega) (by simp only[cq,I7];omega) ae ae ae g1 g2) ?_;rintro v aN ⟨d1,d2,j3,rfl,k1,k2,ve,_⟩
  have ve:j3=7296256256:=by rcases ve with h|h<;>exact h
  subst ve;simp only[go_sem];rw[CY,CO];exact EX ae k1 k2
 simp only[go_sem,i77,yO,vl,eF,AP,Let.ps,w1,e1,w2,wr,aF,lC,h1,h2,h3,h4,dY,hb];refine⟨ay,?_⟩;refine⟨ay,?_⟩;refine rQ (P:=BT pg pr F [] [] 7296128192 7296256256 _) xg (D0 (g:=pg) (r:=pr) (T:=F) (t:=0) (c1:=.p .nils) (c2:=.p .nils) pP (pP _ rfl) (pP _ rfl) aa (by rw[ht2] at ht;exact ht) aa (bc _) (bc _) ae ae ae grown.nil grown.nil) ?_;rintro v aW ⟨c1,c2,j2,rfl,g1,g2,iR,bJ⟩
 have iR:j2=7296256256:=by rcases iR with h|h<;>exact h
 subst iR;rw[xQ] at g1 g2;have hA:=bJ 4928256384 ae;simp only[go_sem] at hA;simp only[go_sem,hA,dY];refine rQ (P:=BT 0 0 qg (gQ (mh pg pr F)) (nP (pJ pg F)) 7296320192 7296256256 _) xg (D0 (g:=0) (r:=0) (T:=qg) (t:=qr-1) (c1:=c1) (c2:=c2) pP (pP _ rfl) (pP _ rfl) (bc _) (by rw[n2];split<;>rfl) aa (by simp only[cq,I8];omega) (by simp only[cq,I7];omega) ae ae ae g1 g2) ?_;rintro v aN ⟨d1,d2,j3,rfl,k1,k2,ve,_⟩
 have ve:j3=7296256256:=by rcases ve with h|h<;>exact h
 subst ve;simp only[go_sem];rw[CY,CO];exact EX ae k1 k2
end
end Go.Abs
