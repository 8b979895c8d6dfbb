/- A part. -/
import Derived.Test.YtjdfokaegjgddaaGreatDoorWa
set_option linter.all false
set_option maxRecDepth 100000
set_option maxHeartbeats 16000000
namespace Go.Abs
section
variable{ls:List Let}{F j n2 v x:Nat}
abbrev xC(F:Nat)(ls:List Let):PV:=XM F ls (.sl (bP (fj ls))) (.sl (nP (aa ls))) (.sl (nP (r7 ls ls.length))) (.mp true (mM ls ls.length)) (.sl (nP (counts ls F)))
structure dT (F:Nat) (ls:List Let):Prop where
 hl:ls.length<=1000000
 ax:DW F ls
 cr:dN ls=true
 kinds:∀l∈ls,l.aA=true\/l.aw=true
theorem gV{a:Nat}(h:a<=9223372036854775807):IntKind.i64.wrap ((a:Int)-1)=(a:Int)-1:=by
 cases a with
 |zero=>decide
 |succ a=>rw[jw (by omega) h];omega
theorem xM{a n:Nat}(hn:1<=n)(h:a+n<=9223372036854775807):IntKind.i64.wrap (((a:Int)-1)+(n:Int))=((a+n-1:Nat):Int):=by
 have e:((a:Int)-1)+(n:Int)=((a+n-1:Nat):Int):=by omega
 rw[e];exact wrap_small (by omega)
theorem tg(F:Nat)(ls:List Let)(i:Nat)(hl:ls.length<=1000000)(hi:i<ls.length):bz S 110 [.one (.p (xC F ls)),vi i] (ri (aJ ls.length i true)):=by refine aP c110 ?_;have e:=dr (a:=i) (by omega);simp only[go_sem,i110,e,aJ]
theorem qT(F:Nat)(ls:List Let)(i:Nat)(hl:ls.length<=1000000)(hi:i<ls.length):bz S 109 [.one (.p (xC F ls)),vi i] (ri (aJ ls.length i false)):=by
 refine aP c109 ?_;have e1:=gV (a:=i) (by omega);have e2:=xM (a:=i) (n:=ls.length) (by omega) (by omega);have e3:=fA (i+ls.length-1) ls.length;have hm:=aat (i+ls.length-1) (show 0<ls.length by omega);have e4:=dr (a:=(i+ls.length-1)%ls.length) (by omega);have e5:=ah (n:=2*((i+ls.length-1)%ls.length)) (by omega);have hz:¬((ls.length:Int)=0):=by omega
 simp only[go_sem,i109,e1,e2,e3,e4,e5,hz,aJ]
theorem uF{l:Let}(h:ls[v]?=some l)(hp:l.aA=true):(fj ls)[v]?=some (dn ls v):=by have:=(aac.1 h).1;simp[fj,abw this,rW,h,hp]
theorem Vp{l:Let}(h:ls[v]?=some l)(hp:l.aA=true):(r7 ls ls.length)[v]?=some (dk ls l):=by have:=(aac.1 h).1;simp[r7,this,sU h hp]
theorem dT.JY(ok:dT F ls){l:Let}(h:ls[v]?=some l)(h2:(l.kind==2)=false):l.aA=true:=by
 rcases ok.kinds l (aab h) with hp|hc
 .exact hp
 unfold Let.aw at hc;rw[h2] at hc;cases hc
theorem Kv(ok:dT F ls)(d:Nat)(hd:d<2*ls.length+2*(aa ls).length):bz S 90 [.one (.p (xC F ls)),vi d] (ri (cX ls (aa ls) d)):=by
 have hl:=ok.hl;have ZP:(aa ls).length<=1000000:=abc (fv ls ls.length) hl;have sE:∀x∈aa ls,x<ls.length/\ ∃l,ls[x]?=some l/\l.aA=true:=fun x hx=>by obtain⟨l,h1,h2⟩:=dK.1 hx;exact⟨(aac.1 h1).1,l,h1,h2⟩
 have m1:IntKind.i64.wrap (2*(ls.length:Int))=((2*ls.length:Nat):Int):=dr (by omega);unfold cX;by_cases h:2*ls.length<=d
 .rw[if_pos h];refine aP c90 ?_;have h':((2*ls.length:Nat):Int)<=(d:Int):=by omega
  have m2:=xL (a:=d) (b:=2*ls.length) h (by omega);have m3:=wrap_small (n:=(d-2*ls.length)/2) (by omega);have hm:=aat ((d-2*ls.length)/2+1) (show 0<(aa ls).length by omega);have hm0:¬(((aa ls).length:Int)=0):=by omega
  obtain⟨u,hu⟩:=ai (ls:=aa ls) (k:=(d-2*ls.length)/2) (by omega);have hnu:=dQ hu;by_cases h2:d%2=0
  .rw[if_pos h2];have m4:=ah (n:=(d-2*ls.length)/2) (by omega);have ZQ:(((d%2:Nat):Int)==0)=true:=by simp[h2]
   have m5:=fA ((d-2*ls.length)/2+1) (aa ls).length;obtain⟨v,hv⟩:=ai hm;have hv2:(aa ls).getD (((d-2*ls.length)/2+1)%(aa ls).length) 0=v:=by rw[aal,hv];rfl
   rw[hv2];obtain⟨hvl,l,hlv,hlp⟩:=sE v (aab hv);have hnv:=dQ hv;have Ze:=km (uF hlv hlp);have pf:=tg F ls v hl hvl;have pb:=qT F ls v hl hvl;cases hq:dn ls v with
   |true=>rw[hq] at Ze;simp only[go_sem,i90,m1,m2,m3,m4,m5,h',ZQ,hnu,hnv,Ze,hm0,eH,cY,ba,s109,bj pb];exact⟨aH,aH⟩
   |false=>rw[hq] at Ze;simp only[go_sem,i90,m1,m2,m3,m4,m5,h',ZQ,hnu,hnv,Ze,hm0,eH,cY,ba,s110,bj pf];exact⟨aH,aH⟩
  rw[if_neg h2];have ZQ:(((d%2:Nat):Int)==0)=false:=by simp;omega
  have hv2:(aa ls).getD ((d-2*ls.length)/2) 0=u:=by rw[aal,hu];rfl
  rw[hv2];obtain⟨hvl,l,hlv,hlp⟩:=sE u (aab hu);have Ze:=km (uF hlv hlp);have pf:=tg F ls u hl hvl;have pb:=qT F ls u hl hvl;cases hq:dn ls u with
  |true=>rw[hq] at Ze;simp only[go_sem,i90,m1,m2,m3,h',ZQ,hnu,Ze,eH,cY,ba,s110,bj pf];exact aH
  |false=>rw[hq] at Ze;simp only[go_sem,i90,m1,m2,m3,h',ZQ,hnu,Ze,eH,cY,ba,s109,bj pb];exact aH
 rw[if_neg h];have h':¬(((2*ls.length:Nat):Int)<=(d:Int)):=by omega
 have m3:=wrap_small (n:=d/2) (by omega);have Z9:¬((ls.length:Int)=0):=by omega
 have hm0:=aat (d/2+1) (show 0<ls.length by omega);have m4:=ah (n:=d/2) (by omega);have m5:=fA (d/2+1) ls.length;have body:∀v:Nat,v<ls.length->∀fw:Bool,v=(if fw then (d/2+1)%ls.length else d/2)->(((d%2:Nat):Int)==0)=fw->bz S 90 [.one (.p (xC F ls)),vi d] (ri ((match ls[v]? with
   |none=>0
   |some l=>if l.kind==2 then aJ ls.length (bQ ls v) (fw==(l.over==(l.sign==1)))
    else if dn ls v==fw then 2*ls.length+2*(aa ls).idxOf v else 2*ls.length+2*(((aa ls).idxOf v+(aa ls).length-1)%(aa ls).length)+1:Nat):Int)):=by
  intro v hv fw Zg ZD;obtain⟨l,hlv⟩:=ai hv;have Zu:=ef hlv;rw[hlv];simp only;refine aP c90 ?_;cases hk:(l.kind==2) with
  |true=>
   have hc:l.aw=true:=hk;have Yw:(l.kind==1)=false:=by simp only[beq_iff_eq] at hk;rw[hk];rfl
   obtain⟨ab5,hol⟩:=rB ok.cr hlv hc;have hf:=Gb ls ls.length l.id;rw[if_pos (rL (aab hlv) hc)] at hf;have pf:=tg F ls (bQ ls v) hl hol;have pb:=qT F ls (bQ ls v) hl hol;cases ho:l.over with
   |true=>
    rw[ho] at ab5;have ab5:fy ls ls.length l.id false=some (bQ ls v):=ab5;simp only[oZ,ab5] at hf;simp only[AN] at hf;cases hs:(l.sign==1) with
    |true=>
     cases fw with
     |true=>have Zg:v=(d/2+1)%ls.length:=Zg;rw[Zg] at Zu hf pf pb ⊢;simp only[go_sem,i90,m1,m3,m4,m5,h',ZD,Zu,Let.ps,Z9,Yw,ho,hs,eH,cY,ba,mapOf,mapVal,eh,hf,s110,bj pf];exact⟨aH,aH⟩
     |false=>have Zg:v=d/2:=Zg;rw[Zg] at Zu hf pf pb ⊢;simp only[go_sem,i90,m1,m3,h',ZD,Zu,Let.ps,Yw,ho,hs,eH,cY,ba,mapOf,mapVal,eh,hf,s109,bj pb];exact⟨aH,aH⟩
    |false=>
     cases fw with
     |true=>have Zg:v=(d/2+1)%ls.length:=Zg;rw[Zg] at Zu hf pf pb ⊢;simp only[go_sem,i90,m1,m3,m4,m5,h',ZD,Zu,Let.ps,Z9,Yw,ho,hs,eH,cY,ba,mapOf,mapVal,eh,hf,s109,bj pb];exact⟨aH,aH⟩
     |false=>have Zg:v=d/2:=Zg;rw[Zg] at Zu hf pf pb ⊢;simp only[go_sem,i90,m1,m3,h',ZD,Zu,Let.ps,Yw,ho,hs,eH,cY,ba,mapOf,mapVal,eh,hf,s110,bj pf];exact⟨aH,aH⟩
   |false=>
    rw[ho] at ab5;have ab5:fy ls ls.length l.id true=some (bQ ls v):=ab5;simp only[oZ,ab5] at hf;simp only[AN] at hf;cases hs:(l.sign==1) with
    |true=>
     cases fw with
     |true=>have Zg:v=(d/2+1)%ls.length:=Zg;rw[Zg] at Zu hf pf pb ⊢;simp only[go_sem,i90,m1,m3,m4,m5,h',ZD,Zu,Let.ps,Z9,Yw,ho,hs,eH,cY,ba,mapOf,mapVal,eh,hf,s109,bj pb];exact⟨aH,aH⟩
     |false=>have Zg:v=d/2:=Zg;rw[Zg] at Zu hf pf pb ⊢;simp only[go_sem,i90,m1,m3,h',ZD,Zu,Let.ps,Yw,ho,hs,eH,cY,ba,mapOf,mapVal,eh,hf,s110,bj pf];exact⟨aH,aH⟩
    |false=>
     cases fw with
     |true=>have Zg:v=(d/2+1)%ls.length:=Zg;rw[Zg] at Zu hf pf pb ⊢;simp only[go_sem,i90,m1,m3,m4,m5,h',ZD,Zu,Let.ps,Z9,Yw,ho,hs,eH,cY,ba,mapOf,mapVal,eh,hf,s110,bj pf];exact⟨aH,aH⟩
     |false=>have Zg:v=d/2:=Zg;rw[Zg] at Zu hf pf pb ⊢;simp only[go_sem,i90,m1,m3,h',ZD,Zu,Let.ps,Yw,ho,hs,eH,cY,ba,mapOf,mapVal,eh,hf,s109,bj pb];exact⟨aH,aH⟩
  |false=>
   have hp:=ok.JY hlv hk;have Yw:(l.kind==1)=true:=hp;have Ze:=km (uF hlv hp);have Yu:=dQ (Vp hlv hp);have hix:=nT ok.ax hlv hp;have hpT:=Vn (ok.ax.d9 l (aab hlv) hp);rw[wU ok.ax.jc] at hpT;rw[hix];have aeC:¬(((aa ls).length:Int)=0):=by omega
   have hml:=aat (dk ls l+(aa ls).length-1) (show 0<(aa ls).length by omega);have n1:=dr (a:=dk ls l) (by omega);have n2:=wrap_add (a:=2*ls.length) (b:=2*dk ls l) (by omega);have n3:=gV (a:=dk ls l) (by omega);have n4:=xM (a:=dk ls l) (n:=(aa ls).length) (by omega) (by omega);have n5:=fA (dk ls l+(aa ls).length-1) (aa ls).length;have n6:=dr (a:=(dk ls l+(aa ls).length-1)%(aa ls).length) (by omega);have n7:=wrap_add (a:=2*ls.length) (b:=2*((dk ls l+(aa ls).length-1)%(aa ls).length)) (by omega);have n8:=ah (n:=2*ls.length+2*((dk ls l+(aa ls).length-1)%(aa ls).length)) (by omega);cases fw with
   |true=>
    have Zg:v=(d/2+1)%ls.length:=Zg;cases aeW:dn ls v with
    |true=>rw[aeW] at Ze;rw[Zg] at Zu Ze Yu;simp only[go_sem,i90,m1,m3,m4,m5,h',ZD,Zu,Let.ps,Z9,Yw,eH,cY,ba,Ze,Yu,n1,n2];exact aH
    |false=>rw[aeW] at Ze;rw[Zg] at Zu Ze Yu;simp only[go_sem,i90,m1,m3,m4,m5,h',ZD,Zu,Let.ps,Z9,Yw,eH,cY,ba,Ze,Yu,n3,n4,n5,n6,n7,n8,aeC];exact aH
   |false=>
    have Zg:v=d/2:=Zg;cases aeW:dn ls v with
    |true=>rw[aeW] at Ze;rw[Zg] at Zu Ze Yu;simp only[go_sem,i90,m1,m3,h',ZD,Zu,Let.ps,Yw,eH,cY,ba,Ze,Yu,n3,n4,n5,n6,n7,n8,aeC];exact aH
    |false=>rw[aeW] at Ze;rw[Zg] at Zu Ze Yu;simp only[go_sem,i90,m1,m3,h',ZD,Zu,Let.ps,Yw,eH,cY,ba,Ze,Yu,n1,n2];exact aH
 have hvl:(if (d%2==0)=true then (d/2+1)%ls.length else d/2)<ls.length:=by
  split
  .exact hm0
  omega
 have:=body _ hvl (d%2==0) rfl (by cases hq:(d%2==0)<;>simp at hq ⊢ <;>omega);exact this
abbrev bU(ls:List Let):Nat->Nat:=cX ls (aa ls)
theorem VQ(ok:dT F ls){Q:dO}:
  ∀(fuel x:Nat) (sn:List Bool) (env:Env) (X9:aE),env 0=.one (.p (xC F ls))->env 4=.one (.hsl 4416128064 1 1 0 sn.length)->X9 4416128064=(1,some (.arr 4 1 (bP sn)))->
   env 7=vi x->x<sn.length->sn.length=2*ls.length+2*(aa ls).length->ko sn<fuel->
   (∀Yc Ya,Yc 0=env 0->Yc 4=env 4->Yc 5=env 5->Yc 24=env 24->Yc 25=env 25->Ya 4416128064=(1,some (.arr 4 1 (bP (cH (bU ls) fuel x sn).2)))->Q .normal Yc Ya)->
   W S .all (.loop i69_l1) (fQ 2 Q) env X9:=by
 have ZP:(aa ls).length<=1000000:=abc (fv ls ls.length) ok.hl;have sE:∀x∈aa ls,x<ls.length:=fun x h=>uM h;have hp:∀v l,ls[v]?=some l->(l.kind==2)=false->v∈aa ls:=fun v l hv h2=>dK.2 ⟨l,hv,ok.JY hv h2⟩;intro fuel
 induction fuel with
 |zero=>intro x sn env X9 _ _ _ _ _ _ h;omega
 |succ fuel ih=>
  intro x sn env X9 h0 h4 hS h7 hx hsl hu hq;obtain⟨b,hb⟩:=ai hx;have hbp:=km hb;have hgd:sn.getD x true=b:=by rw[aal,hb];rfl
  unfold cH at hq;rw[hgd] at hq;refine fT ?_;cases b with
  |true=>simp only[go_sem,i69_l1,h4,hS,h7,hx,hbp];refine hq _ _ ?_ ?_ ?_ ?_ ?_ hS;all_goals simp only[go_sem,h4]
  |false=>
   have hun:=lB hb;have pt:=Kv ok x (by omega);have hnl:=tM (d:=x) sE hp (by omega);have YA:=vF sn x true;simp only[go_sem,i69_l1,h0,h4,hS,h7,hx,hbp,YA,s90,bj pt];refine ih (cX ls (aa ls) x) (sn.set x true) _ _ ?_ ?_ ?_ ?_ (by simpa [hsl] using hnl) (by simpa using hsl) (by omega) ?_
   .simp only[go_sem,h0]
   .simp only[go_sem,h4,abi]
   .simp only[go_sem]
   .simp only[go_sem]
   intro Yc Ya q0 q4 q5 q24 q25 b1;refine hq Yc Ya ?_ ?_ ?_ ?_ ?_ b1
   .rw[q0];simp only[go_sem]
   .rw[q4];simp only[go_sem]
   .rw[q5];simp only[go_sem]
   .rw[q24];simp only[go_sem]
   rw[q25];simp only[go_sem]
theorem VP(ok:dT F ls):bz S 69 [.one (.p (xC F ls))] (rb (bb ls==ao Let.aA ls+ao Let.aw ls/2+2)):=by
 have hl:=ok.hl;have ZP:(aa ls).length<=ls.length:=fv ls ls.length;have m1:=dr (a:=ls.length) (by omega);have m2:=dr (a:=(aa ls).length) (by omega);have m3:=wrap_add (a:=2*ls.length) (b:=2*(aa ls).length) (by omega);have YE:2*ls.length+2*(aa ls).length<=140737488355328:=by omega
 have aax:List.replicate (2*ls.length+2*(aa ls).length) [PV.bool false]=bP (List.replicate (2*ls.length+2*(aa ls).length) false):=by simp
 have hml:(mM ls ls.length).length=ao Let.aw ls/2:=by have:=ok.cr;unfold dN at this;simp only[aaf,beq_iff_eq] at this;simp[mM,this.2]
 have hcc:ao Let.aw ls<=ls.length:=ir _ _;refine aP c69 ?_;simp only[go_sem,i69,m1,m2,m3,YE,aax];refine⟨aH,?_⟩;generalize hN:2*ls.length+2*(aa ls).length=N at YE;refine bm (fun k env X9=>env 0=.one (.p (xC F ls))/\env 4=.one (.hsl 4416128064 1 1 0 N)/\X9 4416128064=(1,some (.arr 4 1 (bP (aK (bU ls) N k).2)))/\
   env 5=vi (aK (bU ls) N k).1.length/\env 24=vi N/\env 25=vi k) 0 N (aae _) ?_ ?_
 .simp only[go_sem];exact⟨rfl,rfl,rfl⟩
 rintro k env X9 hk ⟨h0,h4,hS,h5,Z6,h25⟩
 have hlen:=iL (bU ls) N k;have aaH:=jU (bU ls) N k;by_cases Ye:k<N
 .have Yf:((k:Int)<(N:Int)):=by omega
  have w1:=ah (n:=k) (by omega);have hs:=dL (bU ls) N k;generalize Yz:aK (bU ls) N k=st at hlen hs hS h5 aaH;obtain⟨out,sn⟩:=st;simp only at hlen hS h5 aaH;obtain⟨b,hb⟩:=ai (ls:=sn) (k:=k) (by omega);have hbp:=km hb;unfold eV at hs;have hgd:sn.getD k true=b:=by rw[aal,hb];rfl
  simp only[hgd] at hs;cases b with
  |true=>have hs:aK (bU ls) N (k+1)=(out,sn):=hs;simp only[go_sem,i69_l3,i69_r2,h0,h4,hS,h5,Z6,h25,Ye,Yf,hbp,w1,hs]
  |false=>
   have hs:aK (bU ls) N (k+1)=(out++[(cH (bU ls) (N+1) k sn).1],(cH (bU ls) (N+1) k sn).2):=by rw[hs,hlen];rfl
   have hul:=k9 sn;have w2:=ah (n:=out.length) (by omega);simp only[go_sem,i69_l3,h4,hS,h5,Z6,h25,Ye,Yf,hbp,w2];refine VQ ok (N+1) k sn _ _ ?_ ?_ ?_ ?_ (by omega) (by omega) (by omega) ?_
   .simp only[go_sem,h0]
   .simp only[go_sem,h4,hlen]
   .simp only[go_sem,hS]
   .simp only[go_sem]
   intro Yc Ya q0 q4 q5 q24 q25 b1;simp only[go_sem,h0,h4,h5,Z6,h25] at q0 q4 q5 q24 q25;simp only[go_sem,i69_r2,q0,q4,q5,q24,q25,b1,w1,hs,Ye];simp
 have:k=N:=by omega
 subst this;have he:bb ls=(aK (bU ls) k k).1.length:=by unfold bb bY bU;rw[hN]
 rw[<- he] at h5;have w3:=wrap_add (a:=(aa ls).length) (b:=ao Let.aw ls/2) (by omega);have w4:IntKind.i64.wrap ((((aa ls).length+ao Let.aw ls/2:Nat):Int)+2)=(((aa ls).length+ao Let.aw ls/2+2:Nat):Int):=wrap_add (a:=(aa ls).length+ao Let.aw ls/2) (b:=2) (by omega);have hb:(((bb ls:Nat):Int)==(((aa ls).length+ao Let.aw ls/2+2:Nat):Int))=(bb ls==ao Let.aA ls+ao Let.aw ls/2+2):=by
  rw[jJ];cases h:(bb ls==ao Let.aA ls+ao Let.aw ls/2+2) with
  |true=>simp at h ⊢;omega
  |false=>simp at h ⊢;omega
 simp only[go_sem,i69_l3,i69_r4,h0,h5,Z6,h25,aW,y7,hml,w3,w4,hb];exact aH
abbrev QV(id:Nat):Prop:=id=1216320128\/(eW id=41\/eW id=67\/eW id=68)
def Tg(F:Nat)(ls:List Let)(g:Nat)(X9:aE):Prop:= ∃g1 g2 g3 g4 g5,
 X9 1216320128=(g,some (.var (Kw F ls (hs 4288128448 g2 ls.length) (hs 4289344128 g5 (aa ls).length) (hs 4288192448 g3 ls.length) (.YW 4352256064 g4) (hs 4288064448 g1 (F+1)))))/\
 X9 4288064448=(g1,some (.arr 3 1 (nP (counts ls F))))/\X9 4288128448=(g2,some (.arr 4 1 (bP (fj ls))))/\X9 4288192448=(g3,some (.arr 3 1 (nP (r7 ls ls.length))))/\
 X9 4289344128=(g5,some (.arr 3 1 (nP (aa ls))))/\X9 4352256064=(g4,some (.map true (mM ls ls.length)))
def CC(F:Nat)(ls:List Let):Bool:=decide (ls=[])||dS F ls
def Hf(F:Nat)(ls:List Let)(g:Nat)(YZ:aE)(v:V)(Ya:aE):Prop:=v=vb (CC F ls)/\Kept QV YZ Ya/\(ls≠[]->dS F ls=true->Tg F ls g Ya)/\(ls=[]->Ya 1216320128=YZ 1216320128)
theorem Hr:S.sites 41=[41,67,68]:=by kernel_rfl
theorem NL:S.sites 67=[67]:=by kernel_rfl
theorem NK:S.sites 68=[68]:=by kernel_rfl
theorem Kept.Q4{K K':Nat->Prop}{a b:aE}(h:Kept K a b)(hk:∀id,K id->K' id):Kept K' a b:=fun id hn=>h id fun hh=>hn (hk id hh)
abbrev CB(g:Nat):List (List C):=[[.hfn 65 [.Yh 1216320128 g 0] []],[.hfn 66 [.Yh 1216320128 g 0] []],[.hfn 67 [.Yh 1216320128 g 0] []],[.hfn 68 [.Yh 1216320128 g 0] []],[.hfn 69 [.Yh 1216320128 g 0] []]]
section
variable {al:Al} {Q:dO} {env:Env} {X9:aE} {g g0:Nat}
theorem Nl(k:Nat){f:Nat}{dv:PV}{r:List Nat}{b:Bool}(hk:k<5)(hf:(CB g)[k]?=some [.hfn f [.Yh 1216320128 g 0] []])(hsf:S.shared f=false)(oV:al.ok 2624192640=true)
  (h22:env 22=.one (hs 2624192640 g0 5)) (h23:env 23=vi 5) (Z6:env 24=vi k) (bV:X9 2624192640=(g0,some (.YP 27 1 (CB g))))
  (hsn:gI X9 (.one (.Yh 1216320128 g 0))=some (.one (.p dv),r)) (hr:al.mX r=true) (hp:bz S f [.one (.p dv)] (rb b))
  (acM:b=false->∀Yc,Yc 2=vb false->Q .ret Yc X9)
  (ael:b=true->∀Yc,Yc 22=.one (hs 2624192640 g0 5)->Yc 23=vi 5->Yc 24=vi ((k+1:Nat):Int)->W S al (.loop i41_l1) Q Yc X9):W S al (.loop i41_l1) Q env X9:=by
 refine fT ?_;have Ye:((k:Int)<5):=by omega
 have w1:=ah (n:=k) (by omega);cases b with
 |false=>simp only[go_sem,i41_l1,h22,h23,Z6,bV,Ye,hk,hf,hsf,oV,↓hsn,zo hp,hr];exact acM rfl _ (by simp only[go_sem])
 |true=>
  simp only[go_sem,i41_l1,h22,h23,Z6,bV,Ye,hk,hf,hsf,oV,↓hsn,zo hp,hr,w1];refine ael rfl _ ?_ ?_ ?_
  .simp only[go_sem,h22]
  .simp only[go_sem,h23]
  simp only[go_sem]
theorem Nk(k:Nat){f:Nat}{P:V->aE->Prop}{b:Bool}(hk:k<5)(hf:(CB g)[k]?=some [.hfn f [.Yh 1216320128 g 0] []])(hsf:S.shared f=true)(oV:al.ok 2624192640=true)
  (h22:env 22=.one (hs 2624192640 g0 5)) (h23:env 23=vi 5) (Z6:env 24=vi k) (bV:X9 2624192640=(g0,some (.YP 27 1 (CB g))))
  (hh:al.holds (allow (S.ctx al) f [.one (.Yh 1216320128 g 0)] X9)=true) (h:∃v Ya,vN S f [.one (.Yh 1216320128 g 0)] (allow (S.ctx al) f [.one (.Yh 1216320128 g 0)] X9) X9 v Ya/\P v Ya)
  (hP:∀v Ya,P v Ya->v=vb b)
  (acM:b=false->∀v Yc Ya,P v Ya->Yc 2=vb false->Q .ret Yc Ya)
  (ael:b=true->∀v Yc Ya,P v Ya->Yc 22=.one (hs 2624192640 g0 5)->Yc 23=vi 5->Yc 24=vi ((k+1:Nat):Int)->W S al (.loop i41_l1) Q Yc Ya):W S al (.loop i41_l1) Q env X9:=by
 refine fT ?_;have Ye:((k:Int)<5):=by omega
 have w1:=ah (n:=k) (by omega);simp only[go_sem,i41_l1,h22,h23,Z6,bV,Ye,hk,hf,hsf,oV];refine jF hh h fun v Ya hp=>?_;have hv:=hP v Ya hp;subst hv;cases b with
 |false=>simp only[go_sem];exact acM rfl _ _ _ hp (by simp only[go_sem])
 |true=>
  simp only[go_sem,Z6,w1];refine ael rfl _ _ _ hp ?_ ?_ ?_
  .simp only[go_sem,h22]
  .simp only[go_sem,h23]
  simp only[go_sem]
end
theorem Q8{al:Al}(okD:al.ok 1216320128=true)(okf:∀id,(eW id=41\/eW id=67\/eW id=68)->al.ok id=true)(f1:al.fs.contains 67=true)(f2:al.fs.contains 68=true)
  {X9:aE} {g F:Nat} {ls:List Let} (hl:ls.length<=1000000) (hF:F<=1000000)
  (bD:X9 1216320128=(g,some (.var (Kw F ls (.p .nils) (.p .nils) (.p .nils) (.p .Zt) (.p .nils))))):∃v Ya,vN S 41 [.one (.Yh 1216320128 g 0)] al X9 v Ya/\Hf F ls g X9 v Ya:=by
 have oV:=okf 2624192640 (.inl rfl);refine iS c41 (aaU rfl) ?_;by_cases he:ls=[]
 .subst he;have hz:(((0:Nat):Int)==0)=true:=by decide
  simp only[go_sem,i41,bD,hz,okD];exact⟨rfl,Kept.refl _ _,fun h=>absurd rfl h,fun _=>rfl⟩
 have YG:=aaQ.2 he;have hnz:(((ls.length:Nat):Int)==0)=false:=by simp;omega
 obtain⟨l0,h0⟩:=ai YG;have hde:decide (ls=[])=false:=by simp[he]
 have pl:=IM F ls (.sl []) (.sl []) (.sl []) .Zt (.sl []) hl ⟨rfl,rfl,rfl,rfl,rfl⟩;have pb:=MF F ls l0 (.sl []) (.sl []) (.sl []) .Zt (.sl []) hl h0;have ale:=jZ (F:=F) (ls:=ls);have fail:∀Yc Ya,Kept QV X9 Ya->dS F ls=false->Yc 2=vb false->fQ 0 (qk S al i41_r2 (pY al [(2,none)] (Hf F ls g X9))) .ret Yc Ya:=fun Yc Ya hk hv h2=>by simp only[go_sem,h2];exact⟨by rw[CC,hde,hv];rfl,hk,fun _ h=>(by rw[hv] at h;cases h),fun h=>absurd h he⟩
 have noL:fB F ls=false->dS F ls=false:=fun h=>by simp[dS,h]
 have ait:¬(ls.any (cF F)=false/\kx ls=true/\dN ls=true)->dS F ls=false:=fun h=>noL (by
  cases hq:fB F ls with
  |false=>rfl
  |true=>exact absurd (ale.1 hq) h)
 simp only[go_sem,i41,bD,hnz,okD,oV];have Yw:Kept QV X9 (ij X9 2624192640 ((X9 2624192640).1+1,some (.YP 27 1 (CB g)))):=Kept.ij (Kept.refl _ _) (.inr (.inl rfl)) _;generalize Yo:ij X9 2624192640 ((X9 2624192640).1+1,some (.YP 27 1 (CB g)))=Yi;rw[Yo] at Yw;have bV:Yi 2624192640=((X9 2624192640).1+1,some (.YP 27 1 (CB g))):=by rw[<- Yo];simp only[go_sem]
 have bD:Yi 1216320128=(g,some (.var (Kw F ls (.p .nils) (.p .nils) (.p .nils) (.p .Zt) (.p .nils)))):=by rw[<- Yo];simp only[go_sem,bD]
 clear Yo;have hsn:gI Yi (.one (.Yh 1216320128 g 0))=some (.one (.p (XM F ls (.sl []) (.sl []) (.sl []) .Zt (.sl []))),[1216320128]):=by simp only[go_sem,bD]
 have hrd:al.mX [1216320128]=true:=by simp only[go_sem,okD]
 refine Nl 0 (by omega) rfl s65 oV (by simp only[go_sem]) (by simp only[go_sem];rfl) (by simp only[go_sem];rfl) bV hsn hrd pl (fun hb Yc h2=>fail Yc Yi Yw (ait fun h=>by simp[h.1] at hb) h2) (fun hb Yc q22 q23 q24=>?_);have Yo:ls.any (cF F)=false:=by simpa using hb
 have hbl:∀l∈ls,cF F l=false:=fun l hl=>by simpa using ac4.1 Yo l hl
 have hg:jc F ls:=fun l hl hp=>((cJ hp).1 (hbl l hl)).1.1.1;refine Nl 1 (by omega) rfl s66 oV q22 q23 q24 bV hsn hrd pb (fun hb Yc h2=>fail Yc Yi Yw (by simp only[dS,h0,hb];rfl) h2) (fun hbg Yc q22 q23 q24=>?_);clear hb;have hre:eQ Yi (.one (.Yh 1216320128 g 0))=[1216320128]:=by rw[uY bD];simp[CX]
 refine Nk (b:=kx ls) 2 (by omega) rfl (by kernel_rfl) oV q22 q23 q24 bV ?_ (R4 (ie (by simp[hre])) (fun id h=>qW (by rw[NL,h];rfl)) hl hF hg bD) (fun v Ya h=>h.1) ?_ ?_
 .refine holds_of ?_ ?_
  .show al.mX ([V.one (.Yh 1216320128 g 0)].map (eQ Yi)).flatten=true;simp only[aar,abb,hre,abl,List.flatten_nil,abo];exact hrd
  show(S.sites 67).all al.fs.contains=true;rw[NL];simp only[ab9,acH,f1];rfl
 .intro hb v Yc Ya hp h2;exact fail Yc Ya (Yw.trans (hp.2.1.Q4 fun id h=>h.elim .inl fun h=>.inr (.inr (.inl h)))) (ait fun h=>by rw[h.2.1] at hb;cases hb) h2
 intro hrk v Yc Yg hp q22 q23 q24;obtain⟨_,hk2,hr2⟩:=hp;obtain⟨g1,g2,g3,g5,bD,bC,bW,bP',bA⟩:=hr2 hrk;have sE:DW F ls:=by obtain⟨a,b⟩:=(jB hg).1 hrk;exact⟨a,b⟩
 rw[Qw sE] at bA;rw[wU hg] at bD;have bV:Yg 2624192640=((X9 2624192640).1+1,some (.YP 27 1 (CB g))):=by rw[<- bV];exact hk2 _ (by decide)
 have alj:Kept QV X9 Yg:=Yw.trans (hk2.Q4 fun id h=>h.elim .inl fun h=>.inr (.inr (.inl h)));have oC:=okf 4288064448 (.inr (.inl rfl));have oW:=okf 4288128448 (.inr (.inl rfl));have oP:=okf 4288192448 (.inr (.inl rfl));have oA:=okf 4289344128 (.inr (.inl rfl));have oM:=okf 4352256064 (.inr (.inr rfl));have aeq:eQ Yg (.one (.Yh 1216320128 g 0))=[1216320128,4288128448,4289344128,4288192448,4288064448]:=by rw[uY bD];simp only[aar,abb,CX,lc bW,lc bA,lc bP',lc bC,abl,List.flatten_nil,aaE,abo,ac3]
 refine Nk (b:=dN ls) 3 (by omega) rfl (by kernel_rfl) oV q22 q23 q24 bV ?_ (Qa (ie (by simp[aeq])) (fun id h=>qW (by rw[NK,h];rfl)) hl bD) (fun v Ya h=>h.1) ?_ ?_
 .refine holds_of ?_ ?_
  .show al.mX ([V.one (.Yh 1216320128 g 0)].map (eQ Yg)).flatten=true;simp only[aar,abb,aeq,abl,List.flatten_nil,abo,yQ,Di,okD,oC,oW,oP,oA,Bool.and_self]
  show(S.sites 68).all al.fs.contains=true;rw[NK];simp only[ab9,acH,f2];rfl
 .intro hb v Yc Ya hp h2;exact fail Yc Ya (alj.trans (hp.2.1.Q4 fun id h=>h.elim .inl fun h=>.inr (.inr (.inr h)))) (ait fun h=>by rw[h.2.2] at hb;cases hb) h2
 intro YV v Yc Z4 hp q22 q23 q24;obtain⟨_,hk3,hr3⟩:=hp;obtain⟨g4,bD,bM⟩:=hr3 YV;have kp:∀id,eW id=67->Z4 id=Yg id:=fun id h=>hk3 id (by
  rintro (e|e)
  .rw[e] at h;revert h;decide
  rw[e] at h;revert h;decide)
 rw[<- kp _ rfl] at bC bW bP' bA;have bV:Z4 2624192640=((X9 2624192640).1+1,some (.YP 27 1 (CB g))):=by rw[<- bV];exact hk3 _ (by decide)
 have ali:Kept QV X9 Z4:=alj.trans (hk3.Q4 fun id h=>h.elim .inl fun h=>.inr (.inr (.inr h)));have ok:dT F ls:=⟨hl,sE,YV,fun l hl=>gR (hbl l hl)⟩;have pf:=VP ok;have hlR:fB F ls=true:=ale.2 ⟨Yo,hrk,YV⟩;have hvr:dS F ls=(bb ls==ao Let.aA ls+ao Let.aw ls/2+2):=by
  have alA:(l0.kind==1)=true/\(ao Let.aA ls%2==0)=true:=by simpa using hbg
  simp only[dS,h0,alA.1,alA.2,hlR,adb]
 have t1:List.take ls.length (bP (fj ls))=bP (fj ls):=aaD (by simp[fj]);have t2:List.take (aa ls).length (nP (aa ls))=nP (aa ls):=aaD (by simp);have t3:List.take ls.length (nP (r7 ls ls.length))=nP (r7 ls ls.length):=aaD (by simp[r7]);have t4:List.take (F+1) (nP (counts ls F))=nP (counts ls F):=aaD (by simp[counts]);have n1:ls.length<=(fj ls).length:=by simp[fj]
 have n3:ls.length<=(r7 ls ls.length).length:=by simp[r7]
 have n4:F+1<=(counts ls F).length:=by simp[counts]
 have hsn:gI Z4 (.one (.Yh 1216320128 g 0))=some (.one (.p (xC F ls)),[1216320128,4288128448,4289344128,4288192448,4352256064,4288064448]):=by simp only[go_sem,Bd,bD,bW,bA,bP',bC,bM,ym,t1,t2,t3,t4,n1,n3,n4]
 have hrd:al.mX [1216320128,4288128448,4289344128,4288192448,4352256064,4288064448]=true:=by simp only[yQ,Di,okD,oC,oW,oP,oA,oM,Bool.and_self]
 refine Nl 4 (by omega) rfl s69 oV q22 q23 q24 bV hsn hrd pf (fun hb Yc h2=>fail Yc Z4 ali (by rw[hvr];exact hb) h2) (fun hfl Yc q22 q23 q24=>?_);have hv:dS F ls=true:=by rw[hvr];exact hfl
 refine fT ?_;have n5:¬((((4+1:Nat)):Int)<5):=by decide
 simp only[go_sem,i41_l1,i41_r2,q23,q24,n5];exact⟨by rw[CC,hde,hv];rfl,ali,fun _ _=>⟨g1,g2,g3,g4,g5,bD,bC,bW,bP',bA,bM⟩,fun h=>absurd h he⟩
abbrev P0(f:Int):PV:=XM f [] (.sl []) (.sl []) (.sl []) .Zt (.sl [])
abbrev uU(a b:PV):RV:=.tup [.one (.p a),.one (.p b)]
def Bn(f:Int)(ls:List Let):RV:=if aO f ls=0 then uU (if ls=[] then P0 f else xC f.toNat ls) (.int .i64 0) else uU .ZX (.int .i64 (aO f ls))
theorem aU{X9:aE}{s:Nat}{a b:PV}{l:Bool}:land X9 [] s ((uU a b).bZ l)=some (.tup [.one (.p a),.one (.p b)],[]):=by cases l<;>rfl
theorem nj{f:Int}{e:Int}(h:aO f ls=e)(he:e≠0):Bn f ls=uU .ZX (.int .i64 e):=by unfold Bn;rw[h,if_neg he]
theorem lK{f:Int}(h:aO f ls=0):Bn f ls=uU (if ls=[] then P0 f else xC f.toNat ls) (.int .i64 0):=by unfold Bn;rw[if_pos h]
theorem CW(f:Int)(ls:List Let)(hl:ls.length<=1000000):bz S 19 [de f ls] (Bn f ls):=by
 have pc:=vw f ls hl;refine aP c19 ?_;by_cases h1:400<ls.length
 .have Z7:(400:Int)<(ls.length:Int):=by omega
  rw[nj (e:=7) (by unfold aO;rw[if_pos (Or.inl h1)]) (by decide)];simp only[go_sem,i19,Z7];rfl
 have Z7:¬(400:Int)<(ls.length:Int):=by omega
 by_cases h2:200<ao Let.aw ls
 .have ZQ:(200:Int)<(ao Let.aw ls:Int):=by omega
  rw[nj (e:=7) (by unfold aO;rw[if_pos (Or.inr h2)]) (by decide)];simp only[go_sem,i19,Z7,ZQ,s40,bj pc];rfl
 have ZQ:¬(200:Int)<(ao Let.aw ls:Int):=by omega
 have n1:¬(400<ls.length\/200<ao Let.aw ls):=by omega
 by_cases h3:f<0
 .rw[nj (e:=2) (by unfold aO;rw[if_neg n1,if_pos (Or.inl h3)]) (by decide)];simp only[go_sem,i19,Z7,ZQ,h3,s40,bj pc];rfl
 by_cases h4:40<f
 .rw[nj (e:=2) (by unfold aO;rw[if_neg n1,if_pos (Or.inr h4)]) (by decide)];simp only[go_sem,i19,Z7,ZQ,h3,h4,s40,bj pc];rfl
 have n2:¬(f<0\/40<f):=by omega
 obtain⟨F,rfl⟩:=abs (show 0<=f by omega);have Za:S.shared 41=true:=by kernel_rfl
 simp only[go_sem,i19,Z7,ZQ,h3,h4,s40,bj pc,Za];refine jF (P:=Hf F ls 1 _) gb (Q8 (F:=F) (ls:=ls) ?_ ?_ ?_ ?_ hl (by omega) ?_) ?_
 .refine ie ?_;rw[aar,abb,uY (g0:=1) (cs:=Kw F ls (.p .nils) (.p .nils) (.p .nils) (.p .Zt) (.p .nils)) (by simp only[go_sem])];simp
 .intro id h;refine qW ?_;rw[Hr];rcases h with h|h|h<;>rw[h]<;>rfl
 .show(S.sites 41).contains _=true;rw[Hr];rfl
 .show(S.sites 41).contains _=true;rw[Hr];rfl
 .simp only[go_sem]
 rintro v Ya ⟨rfl,hk,hr,hz⟩
 unfold CC;by_cases he:ls=[]
 .have hc:aO F ls=0:=by unfold aO;rw[if_neg n1,if_neg n2,if_pos he]
  have bD:=hz he;rw[lK hc,if_pos he];have hde:(decide (ls=[])||dS F ls)=true:=by simp[he]
  rw[hde];subst he;simp only[go_sem] at bD;simp only[go_sem];simp only[go_sem,iE,lW,jH,fE,gK,jg,bD];rfl
 have hde:decide (ls=[])=false:=by simp[he]
 cases hv:dS F ls with
 |false=>rw[nj (e:=3) (by unfold aO;rw[if_neg n1,if_neg n2,if_neg he,hv];rfl) (by decide)];rw[hde,acD];simp only[go_sem];rfl
 |true=>
  have hc:aO F ls=0:=by unfold aO;rw[if_neg n1,if_neg n2,if_neg he,hv];rfl
  rw[lK hc,if_neg he];obtain⟨g1,g2,g3,g4,g5,bD,bC,bW,bP',bA,bM⟩:=hr he hv;have hFn:(F:Int).toNat=F:=rfl;rw[hFn];have t1:List.take ls.length (bP (fj ls))=bP (fj ls):=aaD (by simp[fj]);have t2:List.take (aa ls).length (nP (aa ls))=nP (aa ls):=aaD (by simp);have t3:List.take ls.length (nP (r7 ls ls.length))=nP (r7 ls ls.length):=aaD (by simp[r7]);have t4:List.take (F+1) (nP (counts ls F))=nP (counts ls F):=aaD (by simp[counts]);have n1:ls.length<=(fj ls).length:=by simp[fj]
  have n3:ls.length<=(r7 ls ls.length).length:=by simp[r7]
  have n4:F+1<=(counts ls F).length:=by simp[counts]
  rw[hde,acD];simp only[go_sem];simp only[go_sem,iE,lW,jH,fE,gK,jg,Bd,bD,bW,bA,bP',bC,bM,ym,t1,t2,t3,t4,n1,n3,n4];rfl
theorem Tq(f:Int)(ls:List Let)(hl:ls.length<=1000000):bz S 21 [de f ls] (ri (aO f ls)):=by
 have pr:=CW f ls hl;refine aP c21 ?_;unfold Bn at pr;by_cases h:aO f ls=0
 .rw[if_pos h] at pr;simp only[go_sem,i21,s19,au pr aU,h]
 rw[if_neg h] at pr;simp only[go_sem,i21,s19,au pr aU]
abbrev oG(k a b c:Int)(l o:Bool)(s:Int):V:=.agg [.p (.int .i64 k),.p (.int .i64 a),.p (.int .i64 b),.p (.int .i64 c),.p (.bool l),.p (.bool o),.p (.int .i64 s)]
abbrev ji(e:Int):RV:=.tup [.agg [.p (.int .i64 0),.p .nils],.one (.p (.int .i64 e))]
theorem Mc{X9:aE}{s:Nat}{e:Int}{l:Bool}:land X9 [] s ((ji e).bZ l)=some (.tup [.agg [.p (.int .i64 0),.p .nils],.one (.p (.int .i64 e))],[]):=by cases l<;>rfl
section
variable {f:Int} {ls:List Let} {e:Int}
abbrev kinds(k:Nat):List Nat:=(List.range k).map (· +1)
end
def fR(n v:Nat)(fw:Bool):Nat:=if fw then 2*((v+n-1)%n) else 2*v+1
def lvV(n e:Nat):Nat:=if e%2=0 then e/2 else (e/2+1)%n
theorem fM{n:Nat}(hv:v<n):((v+n-1)%n+1)%n=v:=by
 by_cases h:v=0
 .subst h;rw[aa0,aaB (show n-1<n by omega),show n-1+1=n by omega,acx]
 rw[show v+n-1=(v-1)+n by omega,abX,aaB (show v-1<n by omega),show v-1+1=v by omega,aaB hv]
theorem jX{n:Nat}(hv:v<n):((v+1)%n+n-1)%n=v:=by
 by_cases h:v+1=n
 .rw[h,acx,aa0,aaB (show n-1<n by omega)];omega
 rw[aaB (show v+1<n by omega),show v+1+n-1=v+n by omega,abX,aaB hv]
theorem FA{n:Nat}(hv:v<n)(g:Bool):lvV n (aJ n v g)=v/\(aJ n v g%2==0)=g:=by
 unfold lvV aJ;cases g with
 |true=>
  have h1:(2*v)%2=0:=by omega
  simp only[if_true,h1];exact⟨by omega,rfl⟩
 |false=>
  have h1:(2*((v+n-1)%n)+1)%2=1:=by omega
  have h2:(2*((v+n-1)%n)+1)/2=(v+n-1)%n:=by omega
  simp only[aaq,if_false,h1,h2,Nat.one_ne_zero,fM hv];exact⟨trivial,rfl⟩
def Bp(ls:List Let)(ax:List Nat)(e:Nat):Nat:=
 if 2*ls.length<=e then
  if e%2=0 then fR ls.length (ax.getD ((e-2*ls.length)/2) 0) (dn ls (ax.getD ((e-2*ls.length)/2) 0))
  else fR ls.length (ax.getD (((e-2*ls.length)/2+1)%ax.length) 0) (!dn ls (ax.getD (((e-2*ls.length)/2+1)%ax.length) 0))
 else
  let v:=lvV ls.length e
  let g:=e%2==0
  match ls[v]? with
  |none=>0
  |some l=>if l.kind==2 then
    match ls[bQ ls v]? with
    |some u=>fR ls.length (bQ ls v) (g==(u.over==(u.sign==1)))
    |none=>0
   else if g==dn ls v then 2*ls.length+2*ax.idxOf v+1 else 2*ls.length+2*((ax.idxOf v+ax.length-1)%ax.length)
theorem bG(hr:dN ls=true){i:Nat}{l:Let}(hl:ls[i]?=some l)(hc:l.aw=true):bQ ls (bQ ls i)=i/\ ∃m,ls[bQ ls i]?=some m/\m.aw=true/\m.id=l.id/\m.over= !l.over/\m.sign=l.sign:=by
 obtain⟨h1,h2⟩:=rB hr hl hc;obtain⟨_,h3⟩:=jx h1;obtain⟨m,hm,mc,mi,mo⟩:=iJ h3;have hp:oE ls:=by have:=hr;unfold dN at this;simp only[aaf,beq_iff_eq,aaP,aav] at this;exact(xK.1 this.1.2).2
 have Yk:i≠bQ ls i:=by intro e;rw[<- e,hl] at hm;cases hm;revert mo;cases l.over<;>simp
 obtain⟨h4,h5⟩:=rB hr hm mc;obtain⟨_,h6⟩:=jx h4;obtain⟨x,hx,xc,xi,xo⟩:=iJ h6;refine⟨?_,m,hm,mc,mi,mo,((hp i _ l m hl hm hc mc mi.symm Yk).2).symm⟩;refine Decidable.byContradiction fun hn=>?_;have:=(hp _ i x l hx hl xc hc (by rw[xi,mi]) hn).1;rw[xo,mo] at this;revert this;cases l.over<;>simp
theorem A7{ax:List Nat}{d:Nat}{fw:Bool}{l:Let}(h:¬2*ls.length<=d)(hfw:(d%2==0)=fw)(hv:v=if fw then (d/2+1)%ls.length else d/2)(hl:ls[v]?=some l):
  cX ls ax d=if l.kind==2 then aJ ls.length (bQ ls v) (fw==(l.over==(l.sign==1)))
   else if dn ls v==fw then 2*ls.length+2*ax.idxOf v else 2*ls.length+2*((ax.idxOf v+ax.length-1)%ax.length)+1:=by
 subst hfw;subst hv;unfold cX;rw[if_neg h];simp only[hl]
theorem Bo(ok:dT F ls){d:Nat}(hd:d<2*ls.length+2*(aa ls).length):Bp ls (aa ls) (cX ls (aa ls) d)=d:=by
 have sE:∀x∈aa ls,x<ls.length/\ ∃l,ls[x]?=some l/\l.aA=true:=fun x hx=>by obtain⟨l,h1,h2⟩:=dK.1 hx;exact⟨(aac.1 h1).1,l,h1,h2⟩
 have ai5:∀ {p v:Nat},(aa ls)[p]?=some v->(aa ls).idxOf v=p:=fun {p v} hp=>by obtain⟨l,hl,hlp,he⟩:=jr ok.ax hp;rw[nT ok.ax hl hlp,he]
 have along_small:∀ {v:Nat} (g:Bool),v<ls.length-> ¬2*ls.length<=aJ ls.length v g:=fun {v} g hv=>by have:=jL (n:=ls.length) (fw:=g) hv;omega
 have notC:∀ {l:Let},l.aA=true->(l.kind==2)=false:=fun {l} h=>dz h;have fromAxis:∀ {p v:Nat} (g:Bool),(aa ls)[p]?=some v->Bp ls (aa ls) (aJ ls.length v g)=if g==dn ls v then 2*ls.length+2*p+1 else 2*ls.length+2*((p+(aa ls).length-1)%(aa ls).length):=by intro p v g hp;obtain⟨hv,l,hl,hlp⟩:=sE v (aab hp);obtain⟨e1,e2⟩:=FA hv g;unfold Bp;rw[if_neg (along_small g hv)];simp only[e1,e2,hl,notC hlp,ai5 hp];rfl
 by_cases h:2*ls.length<=d
 .unfold cX;rw[if_pos h];have hm:=aat ((d-2*ls.length)/2+1) (show 0<(aa ls).length by omega);by_cases h2:d%2=0
  .rw[if_pos h2];obtain⟨v,hv⟩:=ai hm;have hv2:(aa ls).getD (((d-2*ls.length)/2+1)%(aa ls).length) 0=v:=by rw[aal,hv];rfl
   rw[hv2,fromAxis _ hv];have hb:((!dn ls v)==dn ls v)=false:=by cases dn ls v<;>rfl
   rw[hb,jX (show(d-2*ls.length)/2<(aa ls).length by omega)];simp only[aaq,if_false];omega
  rw[if_neg h2];obtain⟨v,hv⟩:=ai (ls:=aa ls) (k:=(d-2*ls.length)/2) (by omega);have hv2:(aa ls).getD ((d-2*ls.length)/2) 0=v:=by rw[aal,hv];rfl
  rw[hv2,fromAxis _ hv];simp only[beq_self_eq_true,if_true];omega
 have hn:0<ls.length:=by omega
 have hm0:=aat (d/2+1) hn;have key:∀(v:Nat) (fw:Bool),v<ls.length->(d%2==0)=fw->v=(if fw then (d/2+1)%ls.length else d/2)->fR ls.length v fw=d:=by
  intro v fw hv hfw Zg;unfold fR;cases fw with
  |true=>
   have hfw:d%2=0:=by simpa using hfw
   simp only[if_true] at Zg ⊢;rw[Zg,jX (show d/2<ls.length by omega)];omega
  |false=>
   have hfw:d%2≠0:=by simpa using hfw
   simp only[aaq,if_false] at Zg ⊢;omega
 generalize hv:(if (d%2==0)=true then (d/2+1)%ls.length else d/2)=v;generalize hfw:(d%2==0)=fw at hv;have hvl:v<ls.length:=by rw[<- hv];split<;>omega
 have ace:=key v fw hvl hfw hv.symm;obtain⟨l,hl⟩:=ai hvl;rw[A7 h hfw hv.symm hl];cases hk:(l.kind==2) with
 |true=>
  have hc:l.aw=true:=hk;obtain⟨hb,m,hm,mc,mi,mo,ms⟩:=bG ok.cr hl hc;have hol:=(rB ok.cr hl hc).2;rw[if_pos rfl];obtain⟨e1,e2⟩:=FA hol (fw==(l.over==(l.sign==1)));unfold Bp;rw[if_neg (along_small _ hol)];have mk:(m.kind==2)=true:=mc;simp only[e1,e2,hm,mk,if_true,hb,hl];have hbb:((fw==(l.over==(l.sign==1)))==(l.over==(l.sign==1)))=fw:=by cases fw<;>cases (l.over==(l.sign==1))<;>rfl
  rw[hbb];exact ace
 |false=>
  have hp:=ok.JY hl hk;have hix:=nT ok.ax hl hp;have Yu:=tA ok.ax hl hp;have hpT:=(aac.1 Yu).1;rw[if_neg (by simp),hix];cases hq:(dn ls v==fw) with
  |true=>
   simp only[if_true];unfold Bp;rw[if_pos (by omega),if_pos (by omega)];have e1:(2*ls.length+2*dk ls l-2*ls.length)/2=dk ls l:=by omega
   have e2:(aa ls).getD (dk ls l) 0=v:=by rw[aal,Yu];rfl
   rw[e1,e2,show dn ls v=fw by simpa using hq];exact ace
  |false=>
   have hml:=aat (dk ls l+(aa ls).length-1) (show 0<(aa ls).length by omega);simp only[aaq,if_false];unfold Bp;rw[if_pos (by omega),if_neg (by omega)];have e1:(2*ls.length+2*((dk ls l+(aa ls).length-1)%(aa ls).length)+1-2*ls.length)/2=(dk ls l+(aa ls).length-1)%(aa ls).length:=by omega
   have e2:(aa ls).getD (dk ls l) 0=v:=by rw[aal,Yu];rfl
   rw[e1,fM hpT,e2,show(!dn ls v)=fw by revert hq;cases dn ls v<;>cases fw<;>simp];exact ace
theorem No(ok:dT F ls){d e:Nat}(hd:d<2*ls.length+2*(aa ls).length)(he:e<2*ls.length+2*(aa ls).length)(h:bU ls d=bU ls e):d=e:=by have h1:=Bo ok hd;have h2:=Bo ok he;rw[<- h1,<- h2];exact congrArg _ h
def Wv(next:Nat->Nat)(n2:Nat):Nat->Nat->List Bool->List Nat×List Bool
 |0,_,sp=>([],sp)
 |k+1,x,sp=>if x<n2 then
   if sp.getD x true then ([],sp) else (x::(Wv next n2 k (next x) (sp.set x true)).1,(Wv next n2 k (next x) (sp.set x true)).2)
  else (x::(Wv next n2 k (next x) sp).1,(Wv next n2 k (next x) sp).2)
abbrev sn(S:List Bool)(x:Nat):Bool:=S.getD x true
theorem yq{S:List Bool}{y:Nat}(hx:x<S.length):sn (S.set x true) y=if y=x then true else sn S y:=by
 unfold sn;rw[aal,aal,abj];by_cases h:x=y
 .subst h;simp[hx]
 rw[if_neg h,if_neg (fun e=>h e.symm)]
structure Av (next:Nat->Nat) (n2 N:Nat):Prop where
 le:n2<=N
 lt:∀x,x<N->next x<N
 inj:∀x y,x<N->y<N->next x=next y->x=y
 ax:∀x,x<N->n2<=x->next x<n2
def Ax(next:Nat->Nat)(N:Nat)(S:List Bool):Prop:=∀y,y<N->sn S y=sn S (next y)
structure Inv (next:Nat->Nat) (N d:Nat) (S:List Bool) (x:Nat):Prop where
 i1:∀y,y<N->sn S (next y)=true->sn S y=true\/next y=d
 i2:∀y,y<N->sn S y=true->sn S (next y)=true\/next y=x
 i4:sn S x=true->x=d
 pr:(x=d/\sn S x=false)\/ ∃p,p<N/\next p=x/\sn S p=true
theorem Inv.start{next:Nat->Nat}{N d:Nat}{S:List Bool}(h:Ax next N S)(hd:sn S d=false):Inv next N d S d:=
 ⟨fun y hy hs=>.inl (by rw[h y hy];exact hs),fun y hy hs=>.inl (by rw[<- h y hy];exact hs),fun _=>rfl,.inl ⟨rfl,hd⟩⟩
theorem Inv.stop{next:Nat->Nat}{N d:Nat}{S:List Bool}(m:Av next n2 N)(h:Inv next N d S x)(hx:sn S x=true):Ax next N S:=by
 have hxd:=h.i4 hx;subst hxd;intro y hy;cases h1:sn S y with
 |true=>
  rcases h.i2 y hy h1 with h2|h2
  .rw[h2]
  rw[h2,hx]
 |false=>
  cases h2:sn S (next y) with
  |false=>rfl
  |true=>
   rcases h.i1 y hy h2 with h3|h3
   .rw[h3] at h1;cases h1
   rcases h.pr with ⟨_,h4⟩|⟨p,hp,ZZ,YK⟩
   .rw[hx] at h4;cases h4
   have:=m.inj y p hy hp (by rw[h3,ZZ]);rw[this,YK] at h1;cases h1
theorem Inv.step{next:Nat->Nat}{N d:Nat}{S:List Bool}(m:Av next n2 N)(hl:S.length=N)(hxN:x<N)(h:Inv next N d S x)(hx:sn S x=false):Inv next N d (S.set x true) (next x):=by
 have hxl:x<S.length:=by omega
 refine⟨fun y hy hs=>?_,fun y hy hs=>?_,fun hs=>?_,.inr ⟨x,hxN,rfl,by rw[yq hxl,if_pos rfl]⟩⟩
 .rw[yq hxl] at hs ⊢;by_cases e:next y=x
  .rcases h.pr with ⟨h1,_⟩|⟨p,hp,ZZ,YK⟩
   .exact .inr (by rw[e,h1])
   have:=m.inj y p hy hp (by rw[e,ZZ]);left;rw[this];split
   .rfl
   exact YK
  rw[if_neg e] at hs;rcases h.i1 y hy hs with h2|h2
  .left;split
   .rfl
   exact h2
  exact .inr h2
 .rw[yq hxl] at hs ⊢;by_cases e:y=x
  .subst e;exact .inr rfl
  rw[if_neg e] at hs;rcases h.i2 y hy hs with h2|h2
  .left;split
   .rfl
   exact h2
  left;rw[if_pos h2]
 rw[yq hxl] at hs;by_cases e:next x=x
 .rcases h.pr with ⟨h1,_⟩|⟨p,hp,ZZ,YK⟩
  .rw[e,h1]
  have:=m.inj p x hp hxN (by rw[ZZ,e]);rw[this,hx] at YK;cases YK
 rw[if_neg e] at hs;rcases h.i1 x hxN hs with h2|h2
 .rw[hx] at h2;cases h2
 exact h2
theorem CO{S:List Bool}(hx:x<n2)(hl:n2<=S.length):(S.take n2).getD x true=sn S x:=by unfold sn;rw[aal,aal,aa3,if_pos hx]
theorem vX{S:List Bool}:(S.take n2).set x true=(S.set x true).take n2:=by rw[<- List.take_set]
theorem vY{S:List Bool}(hx:n2<=x):(S.set x true).take n2=S.take n2:=by rw[List.take_set];exact List.set_eq_of_length_le (by rw[aay];omega)
theorem KP{next:Nat->Nat}{N d:Nat}(m:Av next n2 N)(hd:d<n2):∀(fuel x:Nat) (S:List Bool),S.length=N->x<N->Inv next N d S x->ko S<fuel->
  Ax next N (cH next fuel x S).2/\Wv next n2 fuel x (S.take n2)=((cH next fuel x S).1,(cH next fuel x S).2.take n2):=by
 intro fuel
 induction fuel with
 |zero=>intro x S _ _ _ h;omega
 |succ fuel ih=>
  intro x S hl hx hi hu;have hle:=m.le;unfold cH Wv;cases hs:S.getD x true with
  |true=>
   have hxd:=hi.i4 hs;have Ye:x<n2:=by omega
   rw[if_pos Ye,CO Ye (by omega),show sn S x=true from hs];exact⟨hi.stop m hs,rfl⟩
  |false=>
   have hsx:S[x]?=some false:=by
    rw[aal] at hs;cases h1:S[x]? with
    |none=>rw[h1] at hs;cases hs
    |some b=>rw[h1] at hs;exact congrArg some hs
   have hun:=lB hsx;obtain⟨c1,c2⟩:=ih (next x) (S.set x true) (by rw[abi,hl]) (m.lt x hx) (hi.step m hl hx hs) (by omega);simp only[aaq,if_false];refine⟨c1,?_⟩;by_cases Ye:x<n2
   .rw[if_pos Ye,CO Ye (by omega),show sn S x=false from hs];simp only[aaq,if_false];rw[vX,c2]
   rw[if_neg Ye];rw[vY (by omega)] at c2;rw[c2]
theorem dT.sE(_:dT F ls):∀x∈aa ls,x<ls.length:=fun _ h=>uM h
theorem dT.hp(ok:dT F ls):∀v l,ls[v]?=some l->(l.kind==2)=false->v∈aa ls:=fun _ l hv h2=>dK.2 ⟨l,hv,ok.JY hv h2⟩
abbrev nD(ls:List Let):Nat:=2*ls.length+2*(aa ls).length
theorem maps(ok:dT F ls):Av (bU ls) (2*ls.length) (nD ls):=by
 refine⟨by unfold nD;omega,fun x hx=>tM ok.sE ok.hp hx,fun x y hx hy h=>No ok hx hy h,fun x hx hn=>?_⟩;have hx:x<2*ls.length+2*(aa ls).length:=hx;have abJ:∀k,k<(aa ls).length->(aa ls).getD k 0<ls.length:=fun k hk=>by obtain⟨v,hv⟩:=ai hk;rw[aal,hv];exact ok.sE v (aab hv)
 have hm:=aat ((x-2*ls.length)/2+1) (show 0<(aa ls).length by omega);show cX ls (aa ls) x<_;unfold cX;rw[if_pos hn];split
 .exact jL (abJ _ hm)
 exact jL (abJ _ (by omega))
theorem A4(next:Nat->Nat):∀(k x:Nat) (S:List Bool) (y:Nat),sn S y=true->sn (cH next k x S).2 y=true:=by
 intro k
 induction k with
 |zero=>intro x S y h;exact h
 |succ k ih=>
  intro x S y h;unfold cH;split
  .exact h
  refine ih _ _ _ ?_;unfold sn;rw[aal,abj];split
  .split<;>rfl
  rw[<- aal];exact h
theorem vU(next:Nat->Nat)(k x:Nat)(S:List Bool)(hk:ko S<k):sn (cH next k x S).2 x=true:=by
 cases k with
 |zero=>omega
 |succ k=>
  unfold cH;cases hs:S.getD x true with
  |true=>simpa using hs
  |false=>
   simp only[aaq,if_false];refine A4 _ _ _ _ _ ?_;unfold sn;rw[aal,abj];split
   .split<;>rfl
   rename_i h;exact absurd rfl h
section
variable {next:Nat->Nat} {n2 N:Nat}
theorem Hq(h:x<N):sn (List.replicate N false) x=false:=by unfold sn;rw[aal,List.getElem?_replicate,if_pos h];rfl
theorem jN(m:Av next n2 N):∀k,k<=n2->Ax next N (aK next N k).2/\ ∀x,x<k->sn (aK next N k).2 x=true:=by
 intro k
 induction k with
 |zero=>intro _;refine⟨fun y hy=>?_,fun x h=>absurd h (abB x)⟩;show sn (List.replicate N false) y=sn (List.replicate N false) (next y);rw[Hq hy,Hq (m.lt y hy)]
 |succ k ih=>
  intro hk;obtain⟨c,s⟩:=ih (by omega);have hlen:=iL next N k;have hle:=m.le;rw[dL];unfold eV;cases hs:(aK next N k).2.getD k true with
  |true=>
   simp only[if_true];refine⟨c,fun x hx=>?_⟩;rcases abe.1 hx with h|rfl
   .exact s x h
   exact hs
  |false=>
   simp only[aaq,if_false];have hul:=k9 (aK next N k).2;obtain⟨c1,_⟩:=KP m (show k<n2 by omega) ((aK next N k).2.length+1) k (aK next N k).2 hlen (by omega) (Inv.start c hs) (by omega);refine⟨c1,fun x hx=>?_⟩;rcases abe.1 hx with h|rfl
   .exact A4 _ _ _ _ _ (s x h)
   exact vU _ _ _ _ (by omega)
theorem sK(m:Av next n2 N):∀k,n2<=k->k<=N->aK next N k=aK next N n2:=by
 intro k
 induction k with
 |zero=>intro h _;rw[show n2=0 by omega]
 |succ k ih=>
  intro h1 h2;by_cases e:n2=k+1
  .rw[e]
  rw[dL,ih (by omega) (by omega)];obtain⟨c,s⟩:=jN m n2 (aad _);unfold eV;have:(aK next N n2).2.getD k true=true:=by have h3:=c k (by omega);have h4:=s (next k) (m.ax k (by omega) (by omega));show sn (aK next N n2).2 k=true;rw[h3,h4]
  rw[this];rfl
end

abbrev we(o:List (Nat×Nat)):List (List PV):=o.map fun p=>[PV.int .i64 (p.1:Int),PV.int .i64 (p.2:Int)]
theorem Vo{o:List (Nat×Nat)}{k:Nat}{p:Nat×Nat}(h:o[k]?=some p):(we o)[k]?=some [.int .i64 (p.1:Int),.int .i64 (p.2:Int)]:=by simp[h]
def iT(g r to:Nat):List (Nat×Nat):=(g,r)::(List.range (to-g)).map fun i=>(g+1+i,0)
def kG(g to:Nat):List Nat:=(List.range (to-g)).map fun i=>g+1+i
abbrev Dc:Nat:=167
def gN (ls:List Let)(i:Nat):Nat:=match ls[i]? with|some l=>l.gate.toNat|none=>0
def rN (ls:List Let)(i:Nat):Nat:=match ls[i]? with|some l=>l.Yb.toNat|none=>0
theorem uy{i:Nat}{l:Let}(h:ls[i]?=some l):gN ls i=l.gate.toNat:=by simp[gN,h]
theorem TX{i:Nat}{l:Let}(h:ls[i]?=some l):rN ls i=l.Yb.toNat:=by simp[rN,h]
def fU(F:Nat)(ls:List Let)(j:Nat):List (Nat×Nat):=
 let u:=(aa ls).getD j 0
 let v:=(aa ls).getD ((j+1)%(aa ls).length) 0
 if j+1<(aa ls).length then iT (gN ls u) (rN ls u) (gN ls v) else iT (gN ls u) (rN ls u) F++iT 0 0 (gN ls v)
def ow(F:Nat)(ls:List Let)(j:Nat):List Nat:=
 let u:=(aa ls).getD j 0
 let v:=(aa ls).getD ((j+1)%(aa ls).length) 0
 if j+1<(aa ls).length then kG (gN ls u) (gN ls v) else kG (gN ls u) F++kG 0 (gN ls v)
theorem rA(a b:List (Nat×Nat)):we (a++b)=we a++we b:=by simp
theorem u7(a b:List Nat):nP (a++b)=nP a++nP b:=by simp
theorem fY(g r to:Nat):(iT g r to).length=to-g+1:=by simp[iT]
theorem rl(g to:Nat):(kG g to).length=to-g:=by simp[kG]
theorem GK(ok:dT F ls)(hj:j<(aa ls).length):∃u l,(aa ls)[j]?=some u/\(aa ls).getD j 0=u/\ls[u]?=some l/\l.aA=true/\j7 F ls l:=by obtain⟨u,hu⟩:=ai hj;obtain⟨l,h1,h2⟩:=dK.1 (aab hu);exact⟨u,l,hu,by rw[aal,hu];rfl,h1,h2,ok.ax.d9 l (aab h1) h2⟩
structure Fc where
 Ym:Bool
 Yj:List Nat
 places:List (Nat×Nat)
 YO:List Nat
 outer:Bool
def Fc.ps(f:Fc):List PV:=[.bool f.Ym,.sl (nP f.Yj),.sl (we f.places),.sl (nP f.YO),.bool f.outer]
def Fc.add(F:Nat)(ls:List Let)(f:Fc)(x:Nat):Fc:=
 if x<2*ls.length then {f with Yj:=f.Yj++[x]}
 else {f with places:=f.places++(if x%2=0 then fU F ls ((x-2*ls.length)/2) else (fU F ls ((x-2*ls.length)/2)).reverse),YO:=f.YO++(if x%2=0 then ow F ls ((x-2*ls.length)/2) else (ow F ls ((x-2*ls.length)/2)).reverse),outer:=f.outer||decide ((x-2*ls.length)/2+1=(aa ls).length)}
def Fc.new(ls:List Let)(d:Nat):Fc:=⟨dn ls (d/2+1),[],[],[],false⟩
def wB(F:Nat)(ls:List Let)(w:List Nat)(k:Nat):Fc:=(w.take k).foldl (Fc.add F ls) (Fc.new ls (w.headD 0))
def fH(F:Nat)(ls:List Let)(w:List Nat):Fc:=w.foldl (Fc.add F ls) (Fc.new ls (w.headD 0))
def aT(F:Nat)(ls:List Let):List Fc:=(bY (bU ls) (nD ls)).map (fH F ls)
theorem Mt(F:Nat)(ls:List Let)(w:List Nat):wB F ls w w.length=fH F ls w:=by unfold wB fH;rw[aaV]
theorem IA{w:List Nat}{k:Nat}(h:w[k]?=some x):wB F ls w (k+1)=(wB F ls w k).add F ls x:=by unfold wB;rw[abn,h,adp];rfl
theorem Kj(ok:dT F ls)(hj:j<(aa ls).length):gN ls ((aa ls).getD j 0)<=F:=by obtain⟨u,l,_,du,hl,_,hg⟩:=GK ok hj;rw[du,uy hl];have:=hg.g1;have:=hg.g0;omega
theorem sV(ok:dT F ls)(hj:j<(aa ls).length):(fU F ls j).length<=2*F+2:=by have h1:=Kj ok hj;have h2:=Kj ok (aat (j+1) (show 0<(aa ls).length by omega));unfold fU;simp only;split<;>simp only[aaF,fY]<;>omega
theorem sW(ok:dT F ls)(hj:j<(aa ls).length):(ow F ls j).length<=2*F+2:=by have h1:=Kj ok hj;have h2:=Kj ok (aat (j+1) (show 0<(aa ls).length by omega));unfold ow;simp only;split<;>simp only[aaF,rl]<;>omega
theorem Ms(ok:dT F ls){w:List Nat}(hw:∀x∈w,x<nD ls):∀k,k<=w.length->(wB F ls w k).Yj.length<=k/\(wB F ls w k).places.length<=k*(2*F+2)/\(wB F ls w k).YO.length<=k*(2*F+2):=by
 intro k
 induction k with
 |zero=>intro _;exact⟨aad _,aae _,aae _⟩
 |succ k ih=>
  intro hk;obtain⟨x,hx⟩:=ai (show k<w.length by omega);obtain⟨i1,i2,i3⟩:=ih (by omega);have hxn:=hw x (aab hx);rw[IA hx,Nat.succ_mul];unfold Fc.add;by_cases h:x<2*ls.length
  .rw[if_pos h];simp only[aaF,aas,aaA];exact⟨by omega,by omega,by omega⟩
  rw[if_neg h];have hj:(x-2*ls.length)/2<(aa ls).length:=by unfold nD at hxn;omega
  have l1:=sV ok hj;have l2:=sW ok hj;refine⟨by simp only;omega,?_,?_⟩
  .simp only[aaF];split<;>(try rw[abp])<;>omega
  simp only[aaF];split<;>(try rw[abp])<;>omega
theorem KQ(next:Nat->Nat):∀(k x:Nat) (S:List Bool),∀y∈(cH next k x S).1,y<S.length:=by
 intro k
 induction k with
 |zero=>intro x S y h;simp[cH] at h
 |succ k ih=>
  intro x S y h;unfold cH at h;cases hs:S.getD x true with
  |true=>rw[hs] at h;simp at h
  |false=>
   rw[hs] at h;have hx:x<S.length:=by
    rcases Nat.lt_or_ge x S.length with h1|h1
    .exact h1
    rw[aal,abz h1] at hs;cases hs
   simp only[aaq,if_false,aag] at h;rcases h with rfl|h
   .exact hx
   have:=ih _ _ y h
   simpa using this
theorem He(next:Nat->Nat):∀(k x:Nat) (S:List Bool),(cH next k x S).1.length<=ko S:=by
 intro k
 induction k with
 |zero=>intro x S;simp[cH]
 |succ k ih=>
  intro x S;unfold cH;cases hs:S.getD x true with
  |true=>simp
  |false=>
   have hsx:S[x]?=some false:=by
    rw[aal] at hs;cases h1:S[x]? with
    |none=>rw[h1] at hs;cases hs
    |some b=>rw[h1] at hs;exact congrArg some hs
   have hun:=lB hsx;have:=ih (next x) (S.set x true);simp only[aaq,if_false,aas];omega
theorem xT(next:Nat->Nat){k:Nat}{S:List Bool}(h:S.getD x true=false):∃t,(cH next (k+1) x S).1=x::t:=by unfold cH;rw[h];exact⟨_,rfl⟩
theorem Cy(next:Nat->Nat)(N:Nat):∀k,∀w∈(aK next N k).1,(∃d t,w=d::t/\d<k)/\w.length<=N/\ ∀y∈w,y<N:=by
 intro k
 induction k with
 |zero=>intro w h;simp[aK] at h
 |succ k ih=>
  intro w h;rw[dL] at h;unfold eV at h;have hlen:=iL next N k;have old:w∈(aK next N k).1->(∃d t,w=d::t/\d<k+1)/\w.length<=N/\ ∀y∈w,y<N:=fun h=>by obtain⟨⟨d,t,h1,h2⟩,h3⟩:=ih w h;exact⟨⟨d,t,h1,by omega⟩,h3⟩
  cases hs:(aK next N k).2.getD k true with
  |true=>simp only[hs,if_true] at h;exact old h
  |false=>
   simp only[hs,aaq,if_false,aaw,abm] at h;rcases h with h|rfl
   .exact old h
   obtain⟨t,ht⟩:=xT next (k:=(aK next N k).2.length) hs;refine⟨⟨k,t,ht,by omega⟩,?_,fun y hy=>?_⟩
   .have h1:=He next ((aK next N k).2.length+1) k (aK next N k).2;have h2:=k9 (aK next N k).2;omega
   have:=KQ next _ _ _ y hy;omega
theorem dY(ok:dT F ls):∀w∈bY (bU ls) (nD ls),(∃d t,w=d::t/\d<2*ls.length)/\w.length<=nD ls/\ ∀y∈w,y<nD ls:=by intro w h;unfold bY at h;rw[sK (maps ok) (nD ls) (by unfold nD;omega) (aad _)] at h;exact Cy (bU ls) (nD ls) _ w h
abbrev AX:Nat:=132
theorem U6{a b:PV}{id g z o l:Nat}{cp cf:C}:tO [[.p a,.hsl id g z o l,cp,cf,.p b]]=none:=rfl
theorem IF{X9:aE}{s g ty sd td zd sp tp zp sf tf zf:Nat}{a o:Bool}{cd cp cf:C}{D P G:List (List PV)}(hb:X9 s=(g,some (.YP ty 5 [[.p (.bool a),cd,cp,cf,.p (.bool o)]])))(gd:grown sd td zd D (.one cd) X9)(gp:grown sp tp zp P (.one cp) X9)(gf:grown sf tf zf G (.one cf) X9):
  ∃fr,cM X9 (.one (.hsl s g 5 0 1))=some ([[.bool a,.sl D,.sl P,.sl G,.bool o]],[s],fr)/\l9 X9 fr/\ ∀i∈fr,i=sd\/i=sp\/i=sf:=by
 obtain⟨r1,n1,a1,q1⟩:=gd.NJ;obtain⟨r2,n2,a2,q2⟩:=gp.NJ;obtain⟨r3,n3,a3,q3⟩:=gf.NJ;refine⟨r1++(r2++r3),?_,a1.app (a2.app a3),fun i hi=>?_⟩
 .simp only[cM,hb];simp[collect,n1,n2,n3,Ho,PV.norm]
 simp only[aaw] at hi;rcases hi with hi|hi|hi
 .rcases q1 with rfl|rfl<;>simp at hi;exact .inl hi
 .rcases q2 with rfl|rfl<;>simp at hi;exact .inr (.inl hi)
 rcases q3 with rfl|rfl<;>simp at hi;exact .inr (.inr hi)
abbrev zE(l:List Fc):List (List PV):=l.map Fc.ps
theorem QI(F:Nat)(ls:List Let):∀(w:List Nat) (f:Fc),f.Yj≠[]->(w.foldl (Fc.add F ls) f).Yj≠[]:=by
 intro w
 induction w with
 |nil=>intro f h;exact h
 |cons x w ih=>
  intro f h;refine ih _ ?_;unfold Fc.add;split
  .simp
  exact h
theorem Gf{d:Nat}{t:List Nat}(h:d<2*ls.length):(fH F ls (d::t)).Yj≠[]:=by unfold fH;refine QI F ls t _ ?_;unfold Fc.add;rw[show(d::t).headD 0=d from rfl,if_pos h];simp
def tz(ls:List Let)(k:Nat):List Bool:=(List.range ls.length).map fun i=>decide (i<k)&& !dn ls (i+1)
theorem GH(ls:List Let)(k:Nat):(tz ls k).length=ls.length:=by simp[tz]
theorem MK(ls:List Let):tz ls 0=List.replicate ls.length false:=by
 refine adx fun i=>?_;simp only[tz,aaz,List.getElem?_replicate];by_cases h:i<ls.length
 .simp[h]
 rw[abz (by simpa using h),if_neg h];rfl
theorem Qs(ls:List Let)(k:Nat):tz ls (k+1)=(tz ls k).set k (!dn ls (k+1)):=by
 refine adx fun i=>?_;rw[abj,GH];simp only[tz,aaz];by_cases h:i<ls.length
 .rw[abw h];by_cases e:k=i
  .subst e;simp[h]
  simp only[abf,e,if_false];congr 2;exact decide_eq_decide.2 (by omega)
 rw[abz (by simpa using h)];by_cases e:k=i
 .subst e;rw[if_pos rfl,if_neg h];rfl
 rw[if_neg e];rfl
abbrev DU(ls:List Let):List Bool:=tz ls ls.length
theorem Tt{i:Nat}(h:i<ls.length):(DU ls)[i]?=some (!dn ls (i+1)):=by simp[tz,h]
theorem Ts(ok:dT F ls):bz S 91 [.one (.p (xC F ls))] (.one (.own 4 1 (bP (DU ls)))):=by
 have hl:=ok.hl;have YE:ls.length<=140737488355328:=by omega
 have aax:List.replicate ls.length [PV.bool false]=bP (tz ls 0):=by rw[MK];simp
 refine aP c91 ?_;simp only[go_sem,i91,YE,aax];refine bm (fun k env X9=>env 0=.one (.p (xC F ls))/\env 3=.one (.hsl 5824064384 1 1 0 ls.length)/\X9 5824064384=(1,some (.arr 4 1 (bP (tz ls k))))/\
   env 4=vb (!dn ls k)/\env 18=.one (.p (kL ls))/\env 19=vi ls.length/\env 20=vi k) 0 ls.length (aae _) ?_ ?_
 .simp only[go_sem];first|exact⟨rfl,rfl⟩|exact⟨rfl,rfl,rfl⟩|exact⟨rfl,rfl,rfl,rfl⟩|exact rfl
 rintro k env X9 hk ⟨h0,h3,hA,h4,Zw,ZW,h20⟩
 by_cases Ye:k<ls.length
 .obtain⟨l,Yw⟩:=ai Ye;have hi:=ef Yw;have Yf:((k:Int)<(ls.length:Int)):=by omega
  have w1:=ah (n:=k) (by omega);have hlen:k<(tz ls k).length:=by rw[GH];exact Ye
  obtain⟨b0,Zq⟩:=ai hlen;have hbp:=km Zq;have YA:=vF (tz ls k) k (!dn ls (k+1));rw[<- Qs] at YA;cases hp:(l.kind==1) with
  |true=>have hd:=qM Yw hp;have aoP:=km (uF Yw hp);rw[hd] at YA;rw[Bool.not_not] at YA;simp only[go_sem,i91_l1,h0,h3,hA,h4,Zw,ZW,h20,hi,Let.ps,Ye,Yf,w1,hp,aoP,hbp,YA,hd]
  |false=>have hd:=rV Yw hp;rw[hd] at YA;simp only[go_sem,i91_l1,h0,h3,hA,h4,Zw,ZW,h20,hi,Let.ps,Ye,Yf,w1,hp,hbp,YA,hd]
 have:k=ls.length:=by omega
 subst this;simp only[go_sem,i91_l1,i91_r2,h3,ZW,h20,aW];exact qB hA (by simp[tz])
abbrev FN(id:Nat):Prop:=eW id=136
theorem EE{g r T k:Nat}(h:k<=T-g):(iT g r T)[k]?=some (g+k,if k=0 then r else 0):=by
 cases k with
 |zero=>rfl
 |succ k=>unfold iT;rw[List.getElem?_cons_succ,aaz,abw (by omega)];simp;omega
theorem NG{g T k:Nat}(h:k<T-g):(kG g T)[k]?=some (g+1+k):=by unfold kG;rw[aaz,abw h];rfl
def vC(g r T:Nat)(ps fs:List (List PV))(i1 i2:Nat)(X9:aE)(v:V)(Ya:aE):Prop:=
 ∃c1 c2 j2,v=.tup [.one c1,.one c2]/\grown 8704320192 Dc 2 (ps++we (iT g r T)) (.one c1) Ya/\grown j2 3 1 (fs++nP (kG g T)) (.one c2) Ya/\(j2=i2\/j2=8704256256)/\
  Kept (fun id=>FN id\/id=i1\/id=i2) X9 Ya
def bt1:List Nat:=[8704000000,8704000064,8704128128,8704256192,8704256256,8704320128]
def bt2:List Nat:=[8704000000,8704000064,8704128128,8704128192,8704256192,8704320128,8704320192]
theorem nQ{al:Al}{X9:aE}{g r T t i1 i2:Nat}{ps fs:List (List PV)}{c1 c2:C}(okf:∀id,FN id->al.ok id=true)(o1:al.ok i1=true)(o2:al.ok i2=true)(hT:g<=T)(ht:t=if T=g then r else 0)(hb:T<=1000)(YK:ps.length<=1000000)(hfs:fs.length<=1000000)
  (n12:i1≠i2) (nb1:i1∉bt1) (nb2:i2∉bt2) (h1:grown i1 Dc 2 ps (.one c1) X9) (h2:grown i2 3 1 fs (.one c2) X9):
  ∃v Ya,vN S 136 [.agg [.p (.int .i64 g),.p (.int .i64 r)],.agg [.p (.int .i64 T),.p (.int .i64 t)],.one c1,.one c2] al X9 v Ya/\vC g r T ps fs i1 i2 X9 v Ya:=by
 have k0:al.ok 8704000000=true:=okf _ rfl;have k64:al.ok 8704000064=true:=okf _ rfl;have kb1:al.ok 8704128128=true:=okf _ rfl;have ka1:al.ok 8704128192=true:=okf _ rfl;have kb2:al.ok 8704256192=true:=okf _ rfl;have ka2:al.ok 8704256256=true:=okf _ rfl;have kb3:al.ok 8704320128=true:=okf _ rfl;have ka3:al.ok 8704320192=true:=okf _ rfl;refine iS c136 (aaU rfl) ?_;simp only[go_sem,i136,k0,k64];have lenP:=fY g r T;have lenF:=rl g T;refine bm (fun k env Ya=>env 4=.one (.Yh 8704000000 ((X9 8704000000).1+1) 0)/\env 5=.one (.Yh 8704000064 ((X9 8704000064).1+1) 0)/\
   Ya 8704000000=((X9 8704000000).1+1,some (.var [.p (.int .i64 ((g+k:Nat):Int)),.p (.int .i64 ((if k=0 then r else 0:Nat):Int))]))/\Ya 8704000064=((X9 8704000064).1+1,some (.var [.p (.int .i64 T),.p (.int .i64 t)]))/\
   ∃d1 d2 j1 j2,env 2=.one d1/\env 3=.one d2/\(j1=i1\/j1=8704128192)/\(j2=i2\/j2=8704256256)/\grown j1 Dc 2 (ps++we ((iT g r T).take k)) (.one d1) Ya/\grown j2 3 1 (fs++nP ((kG g T).take k)) (.one d2) Ya/\Kept (fun id=>FN id\/id=i1\/id=i2) X9 Ya) 0 (T-g) (aae _) ?_ ?_
 .simp only[go_sem];refine⟨rfl,c1,c2,i1,i2,rfl,rfl,.inl rfl,.inl rfl,?_,?_,?_⟩
  .exact(h1.of_eq (af (Dk nb1 (by simp[bt1])))).of_eq (af (Dk nb1 (by simp[bt1])))
  .exact(h2.of_eq (af (Dk nb2 (by simp[bt2])))).of_eq (af (Dk nb2 (by simp[bt2])))
  exact((Kept.refl _ _).ij (.inl rfl) _).ij (.inl rfl) _
 rintro k env Ya hk ⟨h4,h5,hA,hB,d1,d2,j1,j2,e2,e3,q1,q2,g1,g2,YB⟩
 have oj1:al.ok j1=true:=by rcases q1 with rfl|rfl<;>assumption
 have oj2:al.ok j2=true:=by rcases q2 with rfl|rfl<;>assumption
 have n1:∀a,a∈bt1->j1≠a:=fun a ha e=>by
  rcases q1 with rfl|rfl
  .exact nb1 (e▸ha)
  exact absurd (e▸ha) (by decide)
 have n2:∀a,a∈bt2->j2≠a:=fun a ha e=>by
  rcases q2 with rfl|rfl
  .exact nb2 (e▸ha)
  exact absurd (e▸ha) (by decide)
 have n3:j1≠j2:=fun e=>by
  rcases q1 with rfl|rfl
  .rcases q2 with rfl|rfl
   .exact n12 e
   exact n1 _ (by decide) e
  exact n2 _ (by decide) e.symm
 have kj1:FN j1\/j1=i1\/j1=i2:=by
  rcases q1 with rfl|rfl
  .exact .inr (.inl rfl)
  exact .inl rfl
 have kj2:FN j2\/j2=i1\/j2=i2:=by
  rcases q2 with rfl|rfl
  .exact .inr (.inr rfl)
  exact .inl rfl
 have ltk:((iT g r T).take k).length=k:=by rw[aay];omega
 have ltf:((kG g T).take k).length=k:=by rw[aay];omega
 by_cases Ye:k<T-g
 .have Yf:(((g+k:Nat):Int)<(T:Int)):=by omega
  have w1:IntKind.i64.wrap (((g+k:Nat):Int)+1)=((g+(k+1):Nat):Int):=ah (n:=g+k) (by omega);have hp:we ((iT g r T).take (k+1))=we ((iT g r T).take k)++[[.int .i64 ((g+k:Nat):Int),.int .i64 ((if k=0 then r else 0:Nat):Int)]]:=by rw[abn,EE (by omega),rA];rfl
  have hf:nP ((kG g T).take (k+1))=nP ((kG g T).take k)++[[.int .i64 ((g+(k+1):Nat):Int)]]:=by rw[abn,NG Ye,u7,show g+1+k=g+(k+1) by omega];rfl
  simp only[go_sem,i136_l1,h4,h5,hA,hB,e2,Yf,k0,k64,kb1];refine xA (id:=j1) (site:=8704128192) (bytes:=16) (xs:=[[.int .i64 ((g+k:Nat):Int),.int .i64 ((if k=0 then r else 0:Nat):Int)]]) (rd:=[8704128128]) (by simp[ka1,oj1,kb1]) (g1.of_eq (af (n1 _ (by decide)))) (by simp[cM,ae]) (.inl rfl) (by simp only[aaF,aah,ltk,aas,aaA];omega) fun c Yg hc Yp=>?_;have hA2:=(Yp 8704000000 (by decide) (n1 _ (by decide)).symm).trans ((af (by decide)).trans hA);have hB2:=(Yp 8704000064 (by decide) (n1 _ (by decide)).symm).trans ((af (by decide)).trans hB);simp only[go_sem,h4,hA2,e3,w1,k0,kb2]
  refine xA (id:=j2) (site:=8704256256) (bytes:=8) (xs:=[[.int .i64 ((g+(k+1):Nat):Int)]]) (rd:=[8704256192]) (by simp[ka2,oj2,kb2]) (g2.of_eq ((af (n2 _ (by decide))).trans ((af (n2 _ (by decide))).trans ((Yp _ (n2 _ (by decide)) n3.symm).trans (af (n2 _ (by decide))))))) (by simp[cM,ae]) (.inl rfl) (by simp only[aaF,aah,ltf,aas,aaA];omega) fun c' Z4 hc' hb3=>?_
  have hA3:=(hb3 8704000000 (by decide) (n2 _ (by decide)).symm).trans ((af (by decide)).trans lz);have hB3:=(hb3 8704000064 (by decide) (n2 _ (by decide)).symm).trans ((af (by decide)).trans ((af (by decide)).trans hB2));simp only[go_sem,h4,h5,hA3,hB3,e2,e3,Ye];refine⟨rfl,c,c',8704128192,8704256256,rfl,rfl,.inr rfl,.inr rfl,?_,?_,fun id hn=>?_⟩
  .rw[hp,<- abx];exact hc.of_eq ((hb3 _ (by decide) (n2 _ (by decide)).symm).trans ((af (by decide)).trans (af (by decide))))
  .rw[hf,<- abx];exact hc'
  have a:∀x,FN x->id≠x:=fun x hx e=>hn (.inl (e▸hx));have b1:id≠j1:=fun e=>hn (e▸kj1);have b2:id≠j2:=fun e=>hn (e▸kj2);exact(hb3 id (a _ rfl) b2).trans ((af (a _ rfl)).trans ((af (a _ rfl)).trans ((Yp id (a _ rfl) b1).trans ((af (a _ rfl)).trans (YB id hn)))))
 have:k=T-g:=by omega
 subst this;have Yf:¬(((g+(T-g):Nat):Int)<(T:Int)):=by omega
 simp only[go_sem,i136_l1,i136_r2,h4,h5,hA,hB,e2,Yf,k0,k64,kb3];have aeH:we (iT g r T)=we ((iT g r T).take (T-g))++[[.int .i64 (T:Int),.int .i64 (t:Int)]]:=by
  have h1:=abn (l:=iT g r T) (i:=T-g);rw[EE (aad _),aaD (show(iT g r T).length<=T-g+1 by omega)] at h1;have e1:g+(T-g)=T:=by omega
  have e2:(if T-g=0 then r else 0)=t:=by
   rw[ht];by_cases h:T=g
   .rw[if_pos h,if_pos (by omega)]
   rw[if_neg h,if_neg (by omega)]
  rw[e1,e2] at h1;exact(congrArg (fun l:List (Nat×Nat)=>we l) h1).trans (rA _ _)
 have Yt:(kG g T).take (T-g)=kG g T:=aaD (by omega);refine xA (id:=j1) (site:=8704320192) (bytes:=16) (xs:=[[.int .i64 (T:Int),.int .i64 (t:Int)]]) (rd:=[8704320128]) (by simp[ka3,oj1,kb3]) (g1.of_eq (af (n1 _ (by decide)))) (by simp[cM,ae]) (.inl rfl) (by simp only[aaF,aah,ltk,aas,aaA];omega) fun c Yg hc Yp=>?_;simp only[go_sem,e3];refine⟨c,d2,j2,rfl,?_,?_,q2,fun id hn=>?_⟩
 .rw[aeH,<- abx];exact hc
 .rw[Yt] at g2;exact g2.of_eq ((Yp _ (n2 _ (by decide)) n3.symm).trans (af (n2 _ (by decide))))
 have a:∀x,FN x->id≠x:=fun x hx e=>hn (.inl (e▸hx));have b1:id≠j1:=fun e=>hn (e▸kj1);exact(Yp id (a _ rfl) b1).trans ((af (a _ rfl)).trans (YB id hn))
theorem KI(ok:dT F ls)(hj:j<(aa ls).length):∃u l,(aa ls)[j]?=some u/\(aa ls).getD j 0=u/\ls[u]?=some l/\l.aA=true/\j7 F ls l/\dk ls l=j:=by obtain⟨u,l,h1,h2,h3,h4,h5⟩:=GK ok hj;obtain⟨l',k1,k2,k3⟩:=jr ok.ax h1;rw[h3] at k1;cases k1;exact⟨u,l,h1,h2,h3,h4,h5,k3⟩
theorem MO{pg pr qg qr:Nat}{p q:Let}(gp:j7 F ls p)(gq:j7 F ls q)(hp:dk ls p=j)(hq:dk ls q=j+1)(h1:p.gate=(pg:Int))(h2:p.Yb=(pr:Int))(h3:q.gate=(qg:Int))(h4:q.Yb=(qr:Int)):
  pg<=qg/\qr-1=if qg=pg then pr else 0:=by
 obtain⟨_,_,p1,p2⟩:=gp;obtain⟨_,_,q1,q2⟩:=gq;unfold dk at hp hq;rw[h1,h2] at hp;rw[h3,h4] at hq;rw[h2] at p1;rw[h1,h2] at p2;rw[h4] at q1;rw[h3,h4] at q2;simp only[aba] at hp hq p2 q2;have sp:=cK ls pg;have sq:=cK ls qg;have hle:pg<=qg:=by
  rcases Nat.lt_or_ge qg pg with h|h
  .have:=eo (ls:=ls) (show qg+1<=pg by omega);omega
  exact h
 refine⟨hle,?_⟩;by_cases e:qg=pg
 .subst e;rw[if_pos rfl];omega
 rw[if_neg e];have:=eo (ls:=ls) (show pg+1<=qg by omega);omega
theorem I1{qg qr:Nat}{q:Let}(gq:j7 F ls q)(hq:dk ls q=0)(h3:q.gate=(qg:Int))(h4:q.Yb=(qr:Int)):qr-1=0:=by obtain⟨_,_,q1,q2⟩:=gq;unfold dk at hq;rw[h3,h4] at hq;rw[h4] at q1;simp only[aba] at hq;omega
theorem Vf:S.sites 136=[136]:=by kernel_rfl
theorem I4{vs:List V}{X9:aE}:∀id,FN id->(allow (S.ctx .all) 136 vs X9).ok id=true:=fun id h=>qW (by rw[Vf,h];simp)
theorem WK(ok:dT F ls)(hF:F<=1000)(hj:j<(aa ls).length):
  bz S 111 [.one (.p (xC F ls)),vi j] (.tup [.one (aD Dc 2 (we (fU F ls j))),.one (aD 3 1 (nP (ow F ls j)))]):=by
 have hl:=ok.hl;have ZP:(aa ls).length<=1000000:=abc (fv ls ls.length) hl;have hm:=aat (j+1) (show 0<(aa ls).length by omega);obtain⟨u,p,hu,du,hp,pp,gp,xp⟩:=KI ok hj;obtain⟨v,q,hv,dv,hq,pq,gq,xq⟩:=KI ok hm;unfold fU ow;simp only[du,dv,uy hp,uy hq,TX hp];have Zi:=ef hp;have hqp:=ef hq;have hnu:=dQ hu;have hnv:=dQ hv;have e1:=fA (j+1) (aa ls).length;have w1:=ah (n:=j) (by omega);have w2:=jw (a:=(aa ls).length) (by omega) (by omega);have hm0:¬(((aa ls).length:Int)=0):=by omega
 have hg0:=gp.g0;have hg1:=gp.g1;have hk0:=gq.g0;have Yw:=gq.g1;have hr0:=gp.r0;have Y0:=gp.r1;have hs0:=gq.r0;have ZF:=gq.r1;have hcg:cg ls p.gate.toNat<=ls.length:=ir _ _;have hcq:cg ls q.gate.toNat<=ls.length:=ir _ _;obtain⟨pg,h1⟩:=abs (show 0<=p.gate by omega);obtain⟨pr,h2⟩:=abs (show 0<=p.Yb by omega);obtain⟨qg,h3⟩:=abs (show 0<=q.gate by omega);obtain⟨qr,h4⟩:=abs (show 0<=q.Yb by omega);have wr:=jw (a:=qr) (by rw[h4] at hs0;omega) (by omega);have Za:S.shared 136=true:=by kernel_rfl
 have aaI:=fun h=>MO gp gq xp (h:dk ls q=j+1) h1 h2 h3 h4;have acK:=fun h=>I1 gq (h:dk ls q=0) h3 h4;rw[h1] at hg1 Y0 hcg hg0;rw[h2] at Y0 hr0;rw[h3] at hk0 Yw ZF hcq;rw[h4] at hs0 ZF;rw[h1,h2,h3];simp only[aba] at Y0 hcg ZF hcq ⊢;refine aP c111 ?_;by_cases Ye:j+1<(aa ls).length
 .have Yf:(j:Int)<(((aa ls).length-1:Nat):Int):=by omega
  rw[aaB Ye] at xq;obtain⟨n1,n2⟩:=aaI xq;simp only[if_pos Ye];simp only[go_sem,i111,hnu,hnv,Zi,hqp,Let.ps,w1,e1,w2,wr,Yf,hm0,h1,h2,h3,h4,Za];refine⟨aH,?_⟩;refine jF (P:=vC pg pr qg [] [] 8704128192 8704256256 _) gb (nQ (g:=pg) (r:=pr) (T:=qg) (t:=qr-1) (c1:=.p .nils) (c2:=.p .nils) I4 (I4 _ rfl) (I4 _ rfl) n1 n2 (by omega) (aae _) (aae _) (by decide) (by decide) (by decide) grown.nil grown.nil) ?_;rintro v Ya ⟨c1,c2,j2,rfl,g1,g2,hj2,YB⟩
  have hj2:j2=8704256256:=by rcases hj2 with h|h<;>exact h
  subst hj2;simp only[go_sem];exact s0 (by decide) g1 g2
 have Yf:¬(j:Int)<(((aa ls).length-1:Nat):Int):=by omega
 have hjm:(j+1)%(aa ls).length=0:=by rw[show j+1=(aa ls).length by omega,acx]
 rw[hjm] at xq;have n2:=acK xq;simp only[if_neg Ye];have aeH:∃t:Nat,t=(if F=pg then pr else 0):=⟨_,rfl⟩;obtain⟨t,ht⟩:=aeH;have fin:∀(env:Env) (X9:aE) (c1 c2:C),True:=fun _ _ _ _=>trivial;have ini:(((pg:Int)==(F:Int))=true/\t=pr/\F=pg)\/(((pg:Int)==(F:Int))=false/\t=0):=by
  by_cases h:F=pg
  .subst h;rw[if_pos rfl] at ht;exact .inl ⟨by simp,ht,rfl⟩
  rw[if_neg h] at ht;exact .inr ⟨by simp;omega,ht⟩
 rcases ini with ⟨hb,ht2,hFp⟩|⟨hb,ht2⟩
 .subst hFp;simp only[go_sem,i111,hnu,hnv,Zi,hqp,Let.ps,w1,e1,w2,wr,Yf,hm0,h1,h2,h3,h4,Za,hb];refine⟨aH,?_⟩;refine⟨aH,?_⟩;refine jF (P:=vC F pr F [] [] 8704128192 8704256256 _) gb (nQ (g:=F) (r:=pr) (T:=F) (t:=pr) (c1:=.p .nils) (c2:=.p .nils) I4 (I4 _ rfl) (I4 _ rfl) (by omega) (by rw[if_pos rfl]) (by omega) (aae _) (aae _) (by decide) (by decide) (by decide) grown.nil grown.nil) ?_;rintro v Yi ⟨c1,c2,j2,rfl,g1,g2,hj2,YB⟩
  have hj2:j2=8704256256:=by rcases hj2 with h|h<;>exact h
  subst hj2;rw[aaE] at g1 g2;have hA:=YB 7104256384 (by decide);simp only[go_sem] at hA;simp only[go_sem,hA,Za];refine jF (P:=vC 0 0 qg (we (iT F pr F)) (nP (kG F F)) 8704320192 8704256256 _) gb (nQ (g:=0) (r:=0) (T:=qg) (t:=qr-1) (c1:=c1) (c2:=c2) I4 (I4 _ rfl) (I4 _ rfl) (aae _) (by rw[n2];split<;>rfl) (by omega) (by simp only[aah,fY];omega) (by simp only[aah,rl];omega) (by decide) (by decide) (by decide) g1 g2) ?_;rintro v Yg ⟨d1,d2,j3,rfl,k1,k2,hj3,_⟩
  have hj3:j3=8704256256:=by rcases hj3 with h|h<;>exact h
  subst hj3;simp only[go_sem];rw[rA,u7];exact s0 (by decide) k1 k2
 simp only[go_sem,i111,hnu,hnv,Zi,hqp,Let.ps,w1,e1,w2,wr,Yf,hm0,h1,h2,h3,h4,Za,hb];refine⟨aH,?_⟩;refine⟨aH,?_⟩;refine jF (P:=vC pg pr F [] [] 8704128192 8704256256 _) gb (nQ (g:=pg) (r:=pr) (T:=F) (t:=0) (c1:=.p .nils) (c2:=.p .nils) I4 (I4 _ rfl) (I4 _ rfl) (by omega) (by rw[ht2] at ht;exact ht) (by omega) (aae _) (aae _) (by decide) (by decide) (by decide) grown.nil grown.nil) ?_;rintro v Yi ⟨c1,c2,j2,rfl,g1,g2,hj2,YB⟩
 have hj2:j2=8704256256:=by rcases hj2 with h|h<;>exact h
 subst hj2;rw[aaE] at g1 g2;have hA:=YB 7104256384 (by decide);simp only[go_sem] at hA;simp only[go_sem,hA,Za];refine jF (P:=vC 0 0 qg (we (iT pg pr F)) (nP (kG pg F)) 8704320192 8704256256 _) gb (nQ (g:=0) (r:=0) (T:=qg) (t:=qr-1) (c1:=c1) (c2:=c2) I4 (I4 _ rfl) (I4 _ rfl) (aae _) (by rw[n2];split<;>rfl) (by omega) (by simp only[aah,fY];omega) (by simp only[aah,rl];omega) (by decide) (by decide) (by decide) g1 g2) ?_;rintro v Yg ⟨d1,d2,j3,rfl,k1,k2,hj3,_⟩
 have hj3:j3=8704256256:=by rcases hj3 with h|h<;>exact h
 subst hj3;simp only[go_sem];rw[rA,u7];exact s0 (by decide) k1 k2
end
end Go.Abs
