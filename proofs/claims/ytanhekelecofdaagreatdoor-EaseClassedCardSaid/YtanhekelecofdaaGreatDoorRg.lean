/- A part. -/
import Derived.Test.YtanhekelecofdaaGreatDoorRf
set_option linter.all false
set_option maxRecDepth 100000
set_option maxHeartbeats 16000000
namespace Go.Abs
section
variable{limit:Nat}
def IZ{sb:Bool}{F:Nat}{a:bj}{st:m_}{m:aV}{r:h_}:iO sb F limit a st (m::r)=if (kA sb F limit a st m).1=0 then iO sb F limit a (kA sb F limit a st m).2 r else kA sb F limit a st m:=rfl
def akX{sb:Bool}{al:Al}(ac:xI sb al)(cK:sP){F limit:Nat}{L0:ai}{gv gq gM ga gg:Nat}{z:Nat×Option Ob}{r0:a_}{b0:aE}{a:bj}{ms:h_}{vO:m_}{k:Nat}{ak:Env}{aj:aE}{Q:eK}(oG:limit<=20000)(kY:ms.length<=8000)(zD:∀m∈ms,qW F a.c zO m)(ha:uw F L0 vO.length a)
  (hI:xK sb F limit L0 gv z r0 b0 gq gM vO k ak aj) (hR:Gs a F ms ga gg 0 ak aj)
  (hN:∀mw (aH:Env) (ao:aE),iO sb F limit a vO ms=(0,mw)->xK sb F limit L0 gv z r0 b0 gq gM mw k aH ao->vO.length<=mw.length->Q .normal aH ao)
  (hX:∀(aH:Env) (ao:aE),(iO sb F limit a vO ms).1≠0->EdC sb F L0 gv z r0 b0 (iO sb F limit a vO ms) gq aH ao->Q (.exit 0) aH ao):W S al (.loop i22_l1) (rV 2 Q) ak aj:=by
 refine dG (fun j ak aj=>∃st,xK sb F limit L0 gv z r0 b0 gq gM st k ak aj/\Gs a F ms ga gg j ak aj/\iO sb F limit a st (ms.drop j)=iO sb F limit a vO ms/\vO.length<=st.length) 0 ms.length (cA _) ⟨vO,hI,hR,by rw[List.drop_zero],cD _⟩ ?_;rintro j ak aj hj ⟨st,hI,hR,hA,hle⟩
 by_cases aB:j<ms.length
 .obtain⟨m,hm⟩:=aN aB;have hd:=alX hm;rw[hd,IZ] at hA;have NN:=ha.mono hle;have ay:=zD m (aZ hm);have n1:∀mw (aH:Env) (ao:aE),kA sb F limit a st m=(0,mw)->xK sb F limit L0 gv z r0 b0 gq gM mw k aH ao->Gs a F ms ga gg (j+1) aH ao->K6 ms.length (fun j ak aj=>∃st,xK sb F limit L0 gv z r0 b0 gq gM st k ak aj/\Gs a F ms ga gg j ak aj/\iO sb F limit a st (ms.drop j)=iO sb F limit a vO ms/\vO.length<=st.length) j (rV 2 Q) .normal aH ao:=by
   intro mw aH ao e h1 h2;rw[e] at hA;simp only[if_true] at hA;have tj:st.length<=mw.length:=by
    have:(kA sb F limit a st m).2=mw:=by rw[e]
    rw[<- this];unfold kA;split
    .exact cD _
    split
    .exact cD _
    simp
   exact⟨aB,mw,h1,h2,hA,aa⟩
  have n2:∀(aH:Env) (ao:aE),(kA sb F limit a st m).1≠0->EdC sb F L0 gv z r0 b0 (kA sb F limit a st m) gq aH ao->K6 ms.length (fun j ak aj=>∃st,xK sb F limit L0 gv z r0 b0 gq gM st k ak aj/\Gs a F ms ga gg j ak aj/\iO sb F limit a st (ms.drop j)=iO sb F limit a vO ms/\vO.length<=st.length) j (rV 2 Q) (.exit 0) aH ao:=by intro aH ao e h;rw[aC e] at hA;rw[hA] at e h;exact hX aH ao e h
  obtain⟨s,hs,gi,hq⟩:=hI.que;exact round hs ac cK oG kY hm ay NN hI hq hR n1 n2
 have hjn:j=ms.length:=aa;subst hjn;rw[List.drop_length] at hA;have hA:(0,st)=iO sb F limit a vO ms:=hA;obtain⟨gD,bA,JZ,Hh,xV,bV⟩:=hR;obtain⟨e1,e2,e9,mY,bM,que,bv,ne,lim,alls,fr⟩:=hI;simp only[go_sem,i22_l1,Hh,xV,fh];refine hN st _ _ hA.symm ⟨?_,?_,?_,?_,bM,que,bv,ne,lim,alls,fr⟩ hle;all_goals(simp only[go_sem,e1,e2,e9,mY];first|done|rfl)
def clP(sb:Bool)(F limit:Nat)(L0:ai)(gv:Nat)(z:Nat×Option Ob)(r0:a_)(b0:aE)(r:Nat×m_)(v:V)(ao:aE):Prop:=∃s g,v=.tup [.one (.hsl s g 5 0 r.2.length),vb (r.1==0)]/\qm s/\ao s=(g,some (.arr mbT 5 (oR F r.2)))/\ao 1024512000=GJ sb gv z (r.1==2)/\r.2≠[]/\(∀m∈r.2,uw F L0 r.2.length m)/\ ∀i,¬qm i->i≠1024512000->i∉r0->ao i=b0 i
def Qf{sb:Bool}{F f k:Nat}{st:m_}{a:bj}(h:st[k]?=some a):lH sb F limit (f+1) k st=if (iO sb F limit a st (jl F a.c)).1=0 then lH sb F limit f (k+1) (iO sb F limit a st (jl F a.c)).2 else iO sb F limit a st (jl F a.c):=by show(match st[k]? with|none=>(0,st)|some a=>_)=_;rw[h]
def Wi{sb:Bool}{F f k:Nat}{st:m_}(h:st[k]?=none):lH sb F limit (f+1) k st=(0,st):=by show(match st[k]? with|none=>(0,st)|some a=>_)=_;rw[h]
def aqs{F:Nat}{st:m_}{k:Nat}{e:b_}(h:(oR F st)[k]?=some e):∃a,st[k]?=some a/\e=a.ps F:=by
 rw[gk] at h;cases hs:st[k]? with
 |none=>rw[hs] at h;cases h
 |some a=>rw[hs] at h;cases h;exact⟨a,rfl,rfl⟩
def out{sb:Bool}{al:Al}{s:Nat}(hq:wZ s)(ac:xI sb al)(cK:sP){F limit:Nat}{L0:ai}{gv gq gM gi:Nat}{z:Nat×Option Ob}{r0:a_}{b0:aE}{st:m_}{k:Nat}{ak:Env}{aj:aE}{Q:eK}(oG:limit<=20000)
  (hI:xK sb F limit L0 gv z r0 b0 gq gM st k ak aj) (que:Bv s gq gi (oR F st) k aj) (hk:k<=st.length)
  (hE:∀(aH:Env) (ao:aE),k=st.length->aH 6=.one (.hsl s gi 5 0 st.length)->aH 7=vb true->ao s=(gi,some (.arr mbT 5 (oR F st)))->ao 1024512000=GJ sb gv z false->(∀i,¬qm i->i≠1024512000->i∉r0->ao i=b0 i)->Q .ret aH ao)
  (hN:∀a mw (aH:Env) (ao:aE),st[k]?=some a->iO sb F limit a st (jl F a.c)=(0,mw)->xK sb F limit L0 gv z r0 b0 gq gM mw (k+1) aH ao->st.length<=mw.length->Q .normal aH ao)
  (hX:∀a (aH:Env) (ao:aE),st[k]?=some a->(iO sb F limit a st (jl F a.c)).1≠0->EdC sb F L0 gv z r0 b0 (iO sb F limit a st (jl F a.c)) gq aH ao->Q (.exit 0) aH ao):W S al i22_l2 Q ak aj:=by
  have hI0:=hI;obtain⟨e1,e2,e9,mY,bM,_,bv,ne,lim,alls,fr⟩:=hI;obtain⟨bq,bs⟩:=que;have ho:=ac.fT;have o1:=hq.ok ac;have DS:=hq.ne;have qN:(oR F st).length=st.length:=YS F st;have yr:((([V.one (.bt 1408192192 gq 0)]:e_).map (jy aj)).flatten)=[1408192192,s]:=by
   have r1:jy aj (.one (.bt 1408192192 gq 0))=[1408192192,s]:=by rw[Lo bq];simp only[eD,kL,mS,IJ,jJ];rw[Eo (n:=4) bs,Ln];rfl
   rw[eD,kL,r1];rfl
  have oN:=auN hq (al:=allow (S.ctx al) 44 [V.one (.bt 1408192192 gq 0)] aj) (aj:=aj) (gq:=gq) (gi:=gi) (k:=k) (es:=oR F st) (vg (by rw[yr];simp)) (vg (by rw[yr];simp)) (vf ah) (vf ah) ⟨bq,bs⟩ (aqr F st) (by rw[qN];omega) (by rw[qN];exact hk);simp only[go_sem,i22_l2,mY,s44];refine sY (holds_of (by show al.fT (List.flatten _)=true;rw[yr];simp only[Ii,Ij,ho,o1,xy]) (by show(S.sites 44).all al.fs.contains=true;rw[atU];simp only[oY,sH,ac.t,xy])) oN fun v1 cZ hP=>?_;rcases hP with ⟨DM,rfl,hf⟩|⟨e,he,rfl,⟨bq1,bs1⟩,hf⟩
  .have c3:=(hf 1408192192 ae).trans bq;have c4:=(hf s (by rcases hq with rfl|rfl<;>decide)).trans bs;have c5:=(hf 1024512000 ae).trans bv;simp only[go_sem,mY,c3,ho];refine hE _ _ (by rw[qN] at DM;exact DM) ?_ ?_ ?_ ?_ fun i h1 h2 h3=>?_
   .simp only[go_sem];first|done|rfl
   .simp only[go_sem];first|done|rfl
   .simp only[aU,if_false,DS];exact c4
   .simp only[aU,Nat.reduceEqDiff,if_false];exact c5
   have n1:i≠1408256256:=sv h1 rfl (.inl rfl);simp only[aU,aC n1];exact(hf i (fun h=>h1 (.inr (.inl h)))).trans (fr i h1 h2 h3)
  obtain⟨a,TM,rfl⟩:=aqs he;have ha:=alls a (aZ TM);obtain⟨⟨kY,zD⟩,ps⟩:=YM ha.chk;have ps':aO S 45 [.agg [.p (.int .i64 F),.p (dJ a.c)],.one (.p (.sl [[.int .i64 3],[.int .i64 8]]))] (.tup [.one (bh iT 7 (mP (jl F a.c))),.one (.p (.int .i64 0))]):=ps;have c2:=(hf 1408128000 ae ae).trans bM;have c5:=(hf 1024512000 ae ae).trans bv;have qk:S.lone 1408448192=false:=ah;have JS:∀i,¬qm i->i≠1024512000->i∉r0->cZ i=b0 i:=fun i h1 h2 h3=>(hf i (fun h=>h1 (.inr (.inl h))) (sv h1 rfl (.inl rfl))).trans (fr i h1 h2 h3);simp only[go_sem,bj.ps,ho,s45];refine ana (fun i hi=>?_) ps' qk (ZC _) rfl fun cc bN gc bR=>?_
  .simp only[ch,eL,or_false] at hi;rcases hi with rfl|rfl
   .exact ac.c _ rfl
   exact ac.c _ rfl
  have d0:=bR 1408256256 ae;have d2:=bR 1408128000 ae;have d3:=bR 1408192192 ae;have d4:=bR s (by rcases hq with rfl|rfl<;>decide);have d5:=bR 1024512000 ae;simp only[go_sem,c2,bq1,bs1,c5,DS] at d0 d2 d3 d4 d5;have BI:∀i,¬qm i->i≠1024512000->i∉r0->bN i=b0 i:=fun i h1 h2 h3=>by have n1:i≠1408256256:=sv h1 rfl (.inl rfl);have n2:i≠1408448128:=sv h1 rfl (.inl rfl);rw[bR i (sv h1 rfl (.inl rfl))];simp only[aU,aC n1,aC n2];exact JS i h1 h2 h3
  rcases gc with ⟨em,e⟩|⟨_,gg,e,bV⟩
  .cases e;have qL:jl F a.c=[]:=by simpa [mP] using em
   simp only[go_sem];refine sJ ?_;simp only[go_sem,i22_l1,zz];refine hN a st _ _ TM (by rw[qL];rfl) ⟨?_,?_,?_,?_,d2,⟨s,hq,gi,by rw[qN];exact d3,d4⟩,d5,ne,lim,alls,BI⟩ (cD _);all_goals(simp only[go_sem,e1,e2,e9,mY];first|done|rfl)
  cases e;have aoh:(mP (jl F a.c)).length=(jl F a.c).length:=sk _;simp only[go_sem,aoh];refine akX ac cK (F:=F) (L0:=L0) (a:=a) (ms:=jl F a.c) (vO:=st) (k:=k+1) (ga:=(cZ 1408256256).1+1) (gg:=gg) (gq:=gq) (gM:=gM) (gv:=gv) (z:=z) (r0:=r0) (b0:=b0) oG kY zD ha ⟨?_,?_,?_,?_,d2,⟨s,hq,gi,by rw[qN];exact d3,d4⟩,d5,ne,lim,alls,BI⟩ ⟨?_,d0,?_,?_,?_,bV⟩ (fun mw aH ao h1 h2 h3=>hN a mw aH ao TM h1 h2 h3) (fun aH ao h1 h2=>hX a aH ao TM h1 h2);all_goals(simp only[go_sem,e1,e2,e9,mY];first|done|rfl)
def ai2{al:Al}{Q:eK}{ak:Env}{aj:aE}{os:g_}(h:∀b,b=aj->RN S al os Q ak b):RN S al os Q ak aj:=h _ rfl
noncomputable def gK (sb:Bool) (F limit:Nat) (L0:ai):Nat×m_:=lH sb F limit (limit+1) 0 [⟨L0,dd L0,[]⟩]
def Ws{sb:Bool}{al:Al}(ac:xI sb al)(cK:sP){F:Nat}{L0:ai}{gv:Nat}{z:Nat×Option Ob}{c0:C}{r0:a_}{aj:aE}(jM:1<=limit)(oG:limit<=20000)(h0:cX (F:Int) L0=0)(hc0:∀B:aE,(∀i∈r0,B i=aj i)->snap B gZ c0=some (dJ L0,r0))(yq:pG aj r0)(Oy:∀i∈r0,al.ok i=true/\ ¬qm i/\i≠1024512000)(bv:aj 1024512000=GJ sb gv z false):
  ∃v ao,jd S 22 [.agg [.p (.int .i64 F),c0],vi limit,Ix sb gv] al aj v ao/\clP sb F limit L0 gv z r0 aj (gK sb F limit L0) v ao:=by
 have ho:=ac.fT;have hF:=Wr h0;have wP:=My h0;have pm:=YR cK (F:=F) (L:=L0) [] aa h0;have Lj:aO S 42 [.agg [.p (.int .i64 F),.p (dJ L0)],.one (.p (.sl []))] (.agg [.p (.int .i64 F),.p (dJ L0),.p (.int .i64 F),.p (cO (j4 L0)),.p (.sl [])]):=pm;clear pm;have a3:(cO (j4 L0)).norm=dJ (dd L0):=Wm (j4 L0);have pp:=ag1 (F:=(F:Int)) (L:=dd L0) ⟨aa,aa⟩ (by have:=ago L0;omega) (ahP (yC h0));have rI:snap (eH aj 1408000000 ((aj 1408000000).1+1,some (.var [.p (.int .i64 F),c0]))) gZ c0=some (dJ L0,r0):=hc0 _ fun i hi=>by rw[aU,aC];intro e;exact(Oy i hi).2.1 (.inl (by rw[e];rfl))
 refine nH c22 (iI rfl) ?_;simp only[go_sem,i22,ho,rI,s42];have hV0:1024512000∉r0:=fun h=>(Oy _ h).2.2 rfl;have aec:pG (eH aj 1408000000 ((aj 1408000000).1+1,some (.var [.p (.int .i64 F),c0]))) r0:=fun i hi=>by
  obtain⟨g,ty,z,es,h⟩:=yq i hi;refine⟨g,ty,z,es,?_⟩;rw[aU,aC]
  .exact h
  intro e;exact(Oy i hi).2.1 (.inl (by rw[e];rfl))
 obtain⟨u,hu,vE,wV,_⟩:=YC (aj:=eH aj 1408000000 ((aj 1408000000).1+1,some (.var [.p (.int .i64 F),c0]))) (s:=1408064064) (rd:=r0) (x0:=.int .i64 F) (x1:=dJ L0) (x2:=.int .i64 F) (x3:=cO (j4 L0)) (x4:=.sl []) (l:=S.lone 1408064064) aec;rw[Nu Lj hu];refine⟨Eg fun i hi=>?_,?_⟩
 .rcases eX.1 hi with h|h
  .exact(Oy i h).1
  exact(Oy i (wV i h)).1
 refine ai2 fun cZ dN=>?_;have bv1:cZ 1024512000=GJ sb gv z false:=by rw[dN,vE _ hV0];simp only[aU,Nat.reduceEqDiff,if_false];exact bv
 have JS:∀i,¬qm i->i≠1024512000->i∉r0->cZ i=aj i:=fun i h1 h2 h3=>by have n1:i≠1408000000:=sv h1 rfl (.inl rfl);rw[dN,vE i h3];simp only[aU,aC n1]
 clear dN hu vE wV aec rI;have hg0:uw F L0 1 ⟨L0,dd L0,[]⟩:=⟨h0,rfl,rfl,(fun x hx=>by cases hx),af,rfl⟩;simp only[go_sem,ho,a3,s43,Fo pp,iK,sM,qG];refine dG (fun k ak b=>∃st gq gM,xK sb F limit L0 gv z r0 aj gq gM st k ak b/\k<=st.length/\lH sb F limit (limit+1-k) k st=gK sb F limit L0) 0 limit (cA _) ?_ ?_
 .refine⟨[⟨L0,dd L0,[]⟩],(cZ 1408192192).1+1,(cZ 1408128000).1+1,⟨?_,?_,?_,?_,?_,⟨_,.inl rfl,(cZ 1408192064).1+1,?_,?_⟩,?_,af,jM,fun m hm=>?_,fun i h1 h2 h3=>?_⟩,cA _,rfl⟩
  .simp only[go_sem];first|done|rfl
  .simp only[go_sem];first|done|rfl
  .simp only[go_sem];first|done|rfl
  .simp only[go_sem];first|done|rfl
  .simp only[aU,Nat.reduceEqDiff,if_true,if_false];rfl
  .simp only[aU,Nat.reduceEqDiff,if_true,if_false];rfl
  .simp only[aU,Nat.reduceEqDiff,if_true,if_false];rfl
  .simp only[aU,Nat.reduceEqDiff,if_false];exact bv1
  .rw[lQ.1 hm];exact hg0
  have n1:i≠1408064128:=sv h1 rfl (.inl rfl);have n2:i≠1408128000:=sv h1 rfl (.inl rfl);have n3:i≠1408192064:=sv h1 rfl (.inl rfl);have n4:i≠1408192192:=sv h1 rfl (.inl rfl);simp only[aU,aC n1,aC n2,aC n3,aC n4];exact JS i h1 h2 h3
 rintro k ak b hk ⟨st,gq,gM,hI,Kp,hB⟩
 have hlim:=hI.lim;have aK:=hI.ne;have anF:=hI.all;have hf:limit+1-k=(limit-k)+1:=aa;rw[hf] at hB;have ret:∀(s gi:Nat) (aH:Env) (ao:aE),qm s->k=st.length->aH 6=.one (.hsl s gi 5 0 st.length)->aH 7=vb true->ao s=(gi,some (.arr mbT 5 (oR F st)))->ao 1024512000=GJ sb gv z false->(∀i,¬qm i->i≠1024512000->i∉r0->ao i=aj i)->clP sb F limit L0 gv z r0 aj (gK sb F limit L0) (.tup [aH 6,aH 7]) ao:=by intro s gi aH ao hs DM h6 h7 hb NR pS;rw[Wi (nZ aa)] at hB;rw[<- hB,h6,h7];exact⟨s,gi,rfl,hs,hb,NR,aK,anF,pS⟩
 have hN:∀a mw (aH:Env) (ao:aE),st[k]?=some a->iO sb F limit a st (jl F a.c)=(0,mw)->xK sb F limit L0 gv z r0 aj gq gM mw (k+1) aH ao->st.length<=mw.length->k<limit/\ ∃st gq gM,xK sb F limit L0 gv z r0 aj gq gM st (k+1) aH ao/\k+1<=st.length/\lH sb F limit (limit+1-(k+1)) (k+1) st=gK sb F limit L0:=by intro a mw aH ao ha he h hl;have aB:=(aW.1 ha).1;rw[Qf ha,he] at hB;simp only[if_true] at hB;exact⟨aa,mw,gq,gM,h,aa,by rw[show limit+1-(k+1)=limit-k by omega];exact hB⟩
 have hX:∀a (aH:Env) (ao:aE),st[k]?=some a->(iO sb F limit a st (jl F a.c)).1≠0->EdC sb F L0 gv z r0 aj (iO sb F limit a st (jl F a.c)) gq aH ao->W S al i22_r3 (tW al i22.results (clP sb F limit L0 gv z r0 aj (gK sb F limit L0))) aH ao:=by intro a aH ao ha he h;rw[Qf ha,aC he] at hB;rw[hB] at he h;generalize gK sb F limit L0=r at*;have yq:(r.1==0)=false:=lS.2 he;obtain⟨mY,⟨k',s,hs,gi,hq,hb⟩,NR,hn,dV,pS⟩:=h;simp only[go_sem,i22_r3,i22,mY,hq,ho];exact⟨_,gi,by rw[yq],hs.own,hb,NR,hn,dV,pS⟩
 obtain⟨s,hs,gi,hq⟩:=hI.que;refine out hs ac cK oG hI hq Kp (fun aH ao h1 h6 h7 hb NR pS=>?_) (fun a mw aH ao h1 h2 h3 h4=>hN a mw aH ao h1 h2 h3 h4) (fun a aH ao h1 h2 h3=>hX a aH ao h1 h2 h3);have:=ret _ _ aH ao hs.own h1 h6 h7 hb NR pS;rw[h6,h7] at this;simp only[go_sem,h6,h7];exact this
end
end Go.Abs
