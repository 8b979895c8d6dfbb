/- A part. -/
import Derived.Test.YtkfngecllhhooaaGreatDoorRf
set_option linter.all false
set_option maxRecDepth 100000
set_option maxHeartbeats 16000000
namespace Go.Abs
section
variable{limit:Nat}
theorem rl{F:Nat}{a:eX}{st:List eX}{m:bU}{r:List bU}:dF F limit a st (m::r)=if (fE F limit a st m).1=0 then dF F limit a (fE F limit a st m).2 r else fE F limit a st m:=rfl
theorem Q1{al:Al}(ac:NF al)(hcl:dw){F limit:Nat}{L0:List Let}{gv gq gM ga gg:Nat}{r0:List Nat}{b0:aw}{a:eX}{ms:List bU}{st0:List eX}{k:Nat}{env:Env}{blk:aw}{Q:cU}(hlm:limit<=20000)(hml:ms.length<=8000)(hms:∀m∈ms,EE F a.c FM m)(ha:Ny F L0 st0.length a)
  (hI:Nu F limit L0 gv r0 b0 gq gM st0 k env blk) (hR:X2 a F ms ga gg 0 env blk)
  (hN:∀st' (aah:Env) (aaf:aw),dF F limit a st0 ms=(0,st')->Nu F limit L0 gv r0 b0 gq gM st' k aah aaf->st0.length<=st'.length->Q .normal aah aaf)
  (hX:∀(aah:Env) (aaf:aw),(dF F limit a st0 ms).1≠0->EdC F L0 gv r0 b0 (dF F limit a st0 ms) gq aah aaf->Q (.exit 0) aah aaf):W S al (.loop i24_l1) (eT 2 Q) env blk:=by
 refine aV (fun j env blk=>∃st,Nu F limit L0 gv r0 b0 gq gM st k env blk/\X2 a F ms ga gg j env blk/\dF F limit a st (ms.drop j)=dF F limit a st0 ms/\st0.length<=st.length) 0 ms.length (aan _) ⟨st0,hI,hR,by rw[List.drop_zero],aaj _⟩ ?_;rintro j env blk hj ⟨st,hI,hR,hA,hle⟩
 by_cases hlt:j<ms.length
 .obtain⟨m,hm⟩:=ao hlt;have hd:=xt hm;rw[hd,rl] at hA;have ha':=ha.mono hle;have hok:=hms m (aae hm);have n1:∀st' (aah:Env) (aaf:aw),fE F limit a st m=(0,st')->Nu F limit L0 gv r0 b0 gq gM st' k aah aaf->X2 a F ms ga gg (j+1) aah aaf->BK ms.length (fun j env blk=>∃st,Nu F limit L0 gv r0 b0 gq gM st k env blk/\X2 a F ms ga gg j env blk/\dF F limit a st (ms.drop j)=dF F limit a st0 ms/\st0.length<=st.length) j (eT 2 Q) .normal aah aaf:=by
   intro st' aah aaf e h1 h2;rw[e] at hA;simp only[if_true] at hA;have hl2:st.length<=st'.length:=by
    have:(fE F limit a st m).2=st':=by rw[e]
    rw[<- this];unfold fE;split
    .exact aaj _
    split
    .exact aaj _
    simp
   exact⟨hlt,st',h1,h2,hA,by omega⟩
  have n2:∀(aah:Env) (aaf:aw),(fE F limit a st m).1≠0->EdC F L0 gv r0 b0 (fE F limit a st m) gq aah aaf->BK ms.length (fun j env blk=>∃st,Nu F limit L0 gv r0 b0 gq gM st k env blk/\X2 a F ms ga gg j env blk/\dF F limit a st (ms.drop j)=dF F limit a st0 ms/\st0.length<=st.length) j (eT 2 Q) (.exit 0) aah aaf:=by intro aah aaf e h;rw[if_neg e] at hA;rw[hA] at e h;exact hX aah aaf e h
  obtain⟨s,hs,gi,hq⟩:=hI.que;exact round hs ac hcl hlm hml hm hok ha' hI hq hR n1 n2
 have hjn:j=ms.length:=by omega
 subst hjn;rw[adw] at hA;have hA:(0,st)=dF F limit a st0 ms:=hA;obtain⟨h11,bA,h46,h47,h48,bV⟩:=hR;obtain⟨e1,e2,e9,e10,bM,que,bv,ne,lim,alls,fr⟩:=hI;simp only[go_sem,i24_l1,h47,h48,aS];refine hN st _ _ hA.symm ⟨?_,?_,?_,?_,bM,que,bv,ne,lim,alls,fr⟩ hle;all_goals(simp only[go_sem,e1,e2,e9,e10];first|done|rfl)
def clP(F limit:Nat)(L0:List Let)(gv:Nat)(r0:List Nat)(b0:aw)(r:Nat×List eX)(v:V)(aaf:aw):Prop:=∃s g,v=.tup [.one (.hsl s g 5 0 r.2.length),vb (r.1==0)]/\kD s/\aaf s=(g,some (.arr YK 5 (kE F r.2)))/\aaf 832512000=(gv,some (.var [.p (.bool (r.1==2))]))/\r.2≠[]/\(∀m∈r.2,Ny F L0 r.2.length m)/\ ∀i,¬kD i->i≠832512000->i∉r0->aaf i=b0 i
theorem uL{F f k:Nat}{st:List eX}{a:eX}(h:st[k]?=some a):Sq F limit (f+1) k st=if (dF F limit a st (BS F a.c)).1=0 then Sq F limit f (k+1) (dF F limit a st (BS F a.c)).2 else dF F limit a st (BS F a.c):=by show(match st[k]? with|none=>(0,st)|some a=>_)=_;rw[h]
theorem Em{F f k:Nat}{st:List eX}(h:st[k]?=none):Sq F limit (f+1) k st=(0,st):=by show(match st[k]? with|none=>(0,st)|some a=>_)=_;rw[h]
theorem TO{F:Nat}{st:List eX}{k:Nat}{e:List PV}(h:(kE F st)[k]?=some e):∃a,st[k]?=some a/\e=a.ps F:=by
 rw[aa0] at h;cases hs:st[k]? with
 |none=>rw[hs] at h;cases h
 |some a=>rw[hs] at h;cases h;exact⟨a,rfl,rfl⟩
theorem out{al:Al}{s:Nat}(hq:Kp s)(ac:NF al)(hcl:dw){F limit:Nat}{L0:List Let}{gv gq gM gi:Nat}{r0:List Nat}{b0:aw}{st:List eX}{k:Nat}{env:Env}{blk:aw}{Q:cU}(hlm:limit<=20000)
  (hI:Nu F limit L0 gv r0 b0 gq gM st k env blk) (que:Nw s gq gi (kE F st) k blk) (hk:k<=st.length)
  (hE:∀(aah:Env) (aaf:aw),k=st.length->aah 6=.one (.hsl s gi 5 0 st.length)->aah 7=vb true->aaf s=(gi,some (.arr YK 5 (kE F st)))->aaf 832512000=(gv,some (.var [.p (.bool false)]))->(∀i,¬kD i->i≠832512000->i∉r0->aaf i=b0 i)->Q .ret aah aaf)
  (hN:∀a st' (aah:Env) (aaf:aw),st[k]?=some a->dF F limit a st (BS F a.c)=(0,st')->Nu F limit L0 gv r0 b0 gq gM st' (k+1) aah aaf->st.length<=st'.length->Q .normal aah aaf)
  (hX:∀a (aah:Env) (aaf:aw),st[k]?=some a->(dF F limit a st (BS F a.c)).1≠0->EdC F L0 gv r0 b0 (dF F limit a st (BS F a.c)) gq aah aaf->Q (.exit 0) aah aaf):W S al i24_l2 Q env blk:=by
  have hI0:=hI;obtain⟨e1,e2,e9,e10,bM,_,bv,ne,lim,alls,fr⟩:=hI;obtain⟨bq,bs⟩:=que;have ho:=ac.kY;have o1:=hq.ok ac;have hns:=hq.ne;have o2:=ac.v;have hql:(kE F st).length=st.length:=qI F st;have hrc:((([V.one (.aam 1536192192 gq 0)]:List V).map (cJ blk)).flatten)=[1536192192,s]:=by
   have r1:cJ blk (.one (.aam 1536192192 gq 0))=[1536192192,s]:=by rw[lD bq];simp only[aaK,abi,abt,ade,abo];rw[gR (n:=4) bs,rI];rfl
   rw[aaK,abi,r1];rfl
  have htk:=Wr hq (al:=allow (S.ctx al) 43 [V.one (.aam 1536192192 gq 0)] blk) (blk:=blk) (gq:=gq) (gi:=gi) (k:=k) (es:=kE F st) (dA (by rw[hrc];simp)) (dA (by rw[hrc];simp)) (ff (by kernel_rfl)) (ff (by kernel_rfl)) ⟨bq,bs⟩ (W2 F st) (by rw[hql];omega) (by rw[hql];exact hk);simp only[go_sem,i24_l2,e10,s43];refine gb (holds_of (by show al.kY (List.flatten _)=true;rw[hrc];simp only[nu,oG,ho,o1,acj]) (by show(S.sites 43).all al.fs.contains=true;rw[Yo];simp only[abu,abL,ac.t,acj])) htk fun v1 aao hP=>?_;rcases hP with ⟨hke,rfl,hf⟩|⟨e,he,rfl,⟨bq1,bs1⟩,hf⟩
  .have c3:=(hf 1536192192 (by decide)).trans bq;have c4:=(hf s (by rcases hq with rfl|rfl<;>decide)).trans bs;have c5:=(hf 832512000 (by decide)).trans bv;simp only[go_sem,e10,c3,ho];refine hE _ _ (by rw[hql] at hke;exact hke) ?_ ?_ ?_ ?_ fun i h1 h2 h3=>?_
   .simp only[go_sem];first|done|rfl
   .simp only[go_sem];first|done|rfl
   .simp only[aa,if_false,hns];exact c4
   .simp only[aa,Nat.reduceEqDiff,if_false];exact c5
   have n1:i≠1536256256:=fM h1 rfl (.inl rfl);simp only[aa,if_neg n1];exact(hf i (fun h=>h1 (.inr (.inl h)))).trans (fr i h1 h2 h3)
  obtain⟨a,ajf,rfl⟩:=TO he;have ha:=alls a (aae ajf);obtain⟨⟨hml,hms⟩,ps⟩:=YL ha.chk;have ps':aP S 44 [.agg [.p (.int .i64 F),.p (eB a.c)],.one (.p (.sl [[.int .i64 3],[.int .i64 8]]))] (.tup [.one (ah md 7 (mP (BS F a.c))),.one (.p (.int .i64 0))]):=ps;have c2:=(hf 1536128000 (by decide) (by decide)).trans bM;have c5:=(hf 832512000 (by decide) (by decide)).trans bv;have lo1:S.lone 1536448192=false:=by kernel_rfl
  have fr1:∀i,¬kD i->i≠832512000->i∉r0->aao i=b0 i:=fun i h1 h2 h3=>(hf i (fun h=>h1 (.inr (.inl h))) (fM h1 rfl (.inl rfl))).trans (fr i h1 h2 h3);simp only[go_sem,eX.ps,ho,s44];refine Qv (fun i hi=>?_) ps' lo1 (JK _) rfl fun cc aal gc hb2=>?_
  .simp only[aat,aa9,or_false] at hi;rcases hi with rfl|rfl
   .exact ac.c _ rfl
   exact ac.c _ rfl
  have d0:=hb2 1536256256 (by decide);have d2:=hb2 1536128000 (by decide);have d3:=hb2 1536192192 (by decide);have d4:=hb2 s (by rcases hq with rfl|rfl<;>decide);have d5:=hb2 832512000 (by decide);simp only[go_sem,c2,bq1,bs1,c5,hns] at d0 d2 d3 d4 d5;have fr2:∀i,¬kD i->i≠832512000->i∉r0->aal i=b0 i:=fun i h1 h2 h3=>by have n1:i≠1536256256:=fM h1 rfl (.inl rfl);have n2:i≠1536448128:=fM h1 rfl (.inl rfl);rw[hb2 i (fM h1 rfl (.inl rfl))];simp only[aa,if_neg n1,if_neg n2];exact fr1 i h1 h2 h3
  rcases gc with ⟨em,e⟩|⟨_,gg,e,bV⟩
  .cases e;have hm0:BS F a.c=[]:=by simpa [mP] using em
   simp only[go_sem];refine dQ ?_;simp only[go_sem,i24_l1,zz];refine hN a st _ _ ajf (by rw[hm0];rfl) ⟨?_,?_,?_,?_,d2,⟨s,hq,gi,by rw[hql];exact d3,d4⟩,d5,ne,lim,alls,fr2⟩ (aaj _);all_goals(simp only[go_sem,e1,e2,e9,e10];first|done|rfl)
  cases e;have aqS:(mP (BS F a.c)).length=(BS F a.c).length:=eS _;simp only[go_sem,aqS];refine Q1 ac hcl (F:=F) (L0:=L0) (a:=a) (ms:=BS F a.c) (st0:=st) (k:=k+1) (ga:=(aao 1536256256).1+1) (gg:=gg) (gq:=gq) (gM:=gM) (gv:=gv) (r0:=r0) (b0:=b0) hlm hml hms ha ⟨?_,?_,?_,?_,d2,⟨s,hq,gi,by rw[hql];exact d3,d4⟩,d5,ne,lim,alls,fr2⟩ ⟨?_,d0,?_,?_,?_,bV⟩ (fun st' aah aaf h1 h2 h3=>hN a st' aah aaf ajf h1 h2 h3) (fun aah aaf h1 h2=>hX a aah aaf ajf h1 h2);all_goals(simp only[go_sem,e1,e2,e9,e10];first|done|rfl)
theorem Z6{al:Al}{Q:cU}{env:Env}{blk:aw}{os:List aj}(h:∀b,b=blk->RN S al os Q env b):RN S al os Q env blk:=h _ rfl
noncomputable def fO (F limit:Nat) (L0:List Let):Nat×List eX:=Sq F limit (limit+1) 0 [⟨L0,js L0,[]⟩]
theorem K4{al:Al}(ac:NF al)(hcl:dw){F:Nat}{L0:List Let}{gv:Nat}{c0:C}{r0:List Nat}{blk:aw}(hl1:1<=limit)(hlm:limit<=20000)(h0:ay (F:Int) L0=0)(hc0:∀B:aw,(∀i∈r0,B i=blk i)->snap B cG c0=some (eB L0,r0))(hr0:fD blk r0)(agJ:∀i∈r0,al.ok i=true/\ ¬kD i/\i≠832512000)(bv:blk 832512000=(gv,some (.var [.p (.bool false)]))):
  ∃v aaf,nQ S 24 [.agg [.p (.int .i64 F),c0],vi limit,Bb gv] al blk v aaf/\clP F limit L0 gv r0 blk (fO F limit L0) v aaf:=by
 have ho:=ac.kY;have o2:=ac.v;have hF:=XD h0;have hll:=jQ h0;have pm:=Ij hcl (F:=F) (L:=L0) [] (by omega) h0;have pm':aP S 41 [.agg [.p (.int .i64 F),.p (eB L0)],.one (.p (.sl []))] (.agg [.p (.int .i64 F),.p (eB L0),.p (.int .i64 F),.p (cO (fZ L0)),.p (.sl [])]):=pm;clear pm;have a3:(cO (fZ L0)).norm=eB (js L0):=sk (fZ L0);have pp:=JS (F:=(F:Int)) (L:=js L0) ⟨by omega,by omega⟩ (by have:=jN L0;omega) (Og (rO h0));have hsn:snap (fY blk 1536000000 ((blk 1536000000).1+1,some (.var [.p (.int .i64 F),c0]))) cG c0=some (eB L0,r0):=hc0 _ fun i hi=>by rw[aa,if_neg];intro e;exact(agJ i hi).2.1 (.inl (by rw[e];rfl))
 refine dO c24 (aaW rfl) ?_;simp only[go_sem,i24,ho,hsn,s41];have hV0:832512000∉r0:=fun h=>(agJ _ h).2.2 rfl;have am7:fD (fY blk 1536000000 ((blk 1536000000).1+1,some (.var [.p (.int .i64 F),c0]))) r0:=fun i hi=>by
  obtain⟨g,ty,z,es,h⟩:=hr0 i hi;refine⟨g,ty,z,es,?_⟩;rw[aa,if_neg]
  .exact h
  intro e;exact(agJ i hi).2.1 (.inl (by rw[e];rfl))
 obtain⟨u,hu,hu2,hu3,_⟩:=yO (blk:=fY blk 1536000000 ((blk 1536000000).1+1,some (.var [.p (.int .i64 F),c0]))) (s:=1536064064) (rd:=r0) (x0:=.int .i64 F) (x1:=eB L0) (x2:=.int .i64 F) (x3:=cO (fZ L0)) (x4:=.sl []) (l:=S.lone 1536064064) am7;rw[qQ pm' hu];refine⟨oF fun i hi=>?_,?_⟩
 .rcases aaR.1 hi with h|h
  .exact(agJ i h).1
  exact(agJ i (hu3 i h)).1
 refine Z6 fun aao hb1=>?_;have bv1:aao 832512000=(gv,some (.var [.p (.bool false)])):=by rw[hb1,hu2 _ hV0];simp only[aa,Nat.reduceEqDiff,if_false];exact bv
 have fr1:∀i,¬kD i->i≠832512000->i∉r0->aao i=blk i:=fun i h1 h2 h3=>by have n1:i≠1536000000:=fM h1 rfl (.inl rfl);rw[hb1,hu2 i h3];simp only[aa,if_neg n1]
 clear hb1 hu hu2 hu3 am7 hsn;have hg0:Ny F L0 1 ⟨L0,js L0,[]⟩:=⟨h0,rfl,rfl,(fun x hx=>by cases hx),by simp,rfl⟩;simp only[go_sem,ho,a3,s42,y9 pp,dD,iK,iG];refine aV (fun k env b=>∃st gq gM,Nu F limit L0 gv r0 blk gq gM st k env b/\k<=st.length/\Sq F limit (limit+1-k) k st=fO F limit L0) 0 limit (aan _) ?_ ?_
 .refine⟨[⟨L0,js L0,[]⟩],(aao 1536192192).1+1,(aao 1536128000).1+1,⟨?_,?_,?_,?_,?_,⟨_,.inl rfl,(aao 1536192064).1+1,?_,?_⟩,?_,by simp,hl1,fun m hm=>?_,fun i h1 h2 h3=>?_⟩,aan _,rfl⟩
  .simp only[go_sem];first|done|rfl
  .simp only[go_sem];first|done|rfl
  .simp only[go_sem];first|done|rfl
  .simp only[go_sem];first|done|rfl
  .simp only[aa,Nat.reduceEqDiff,if_true,if_false];rfl
  .simp only[aa,Nat.reduceEqDiff,if_true,if_false];rfl
  .simp only[aa,Nat.reduceEqDiff,if_true,if_false];rfl
  .simp only[aa,Nat.reduceEqDiff,if_false];exact bv1
  .rw[abJ.1 hm];exact hg0
  have n1:i≠1536064128:=fM h1 rfl (.inl rfl);have n2:i≠1536128000:=fM h1 rfl (.inl rfl);have n3:i≠1536192064:=fM h1 rfl (.inl rfl);have n4:i≠1536192192:=fM h1 rfl (.inl rfl);simp only[aa,if_neg n1,if_neg n2,if_neg n3,if_neg n4];exact fr1 i h1 h2 h3
 rintro k env b hk ⟨st,gq,gM,hI,hks,hB⟩
 have hlim:=hI.lim;have hne:=hI.ne;have anY:=hI.all;have hf:limit+1-k=(limit-k)+1:=by omega
 rw[hf] at hB;have ret:∀(s gi:Nat) (aah:Env) (aaf:aw),kD s->k=st.length->aah 6=.one (.hsl s gi 5 0 st.length)->aah 7=vb true->aaf s=(gi,some (.arr YK 5 (kE F st)))->aaf 832512000=(gv,some (.var [.p (.bool false)]))->(∀i,¬kD i->i≠832512000->i∉r0->aaf i=blk i)->clP F limit L0 gv r0 blk (fO F limit L0) (.tup [aah 6,aah 7]) aaf:=by intro s gi aah aaf hs hke h6 h7 hb hbv hfr;rw[Em (abS (by omega))] at hB;rw[<- hB,h6,h7];exact⟨s,gi,rfl,hs,hb,hbv,hne,anY,hfr⟩
 have hN:∀a st' (aah:Env) (aaf:aw),st[k]?=some a->dF F limit a st (BS F a.c)=(0,st')->Nu F limit L0 gv r0 blk gq gM st' (k+1) aah aaf->st.length<=st'.length->k<limit/\ ∃st gq gM,Nu F limit L0 gv r0 blk gq gM st (k+1) aah aaf/\k+1<=st.length/\Sq F limit (limit+1-(k+1)) (k+1) st=fO F limit L0:=by intro a st' aah aaf ha he h hl;have hlt:=(aai.1 ha).1;rw[uL ha,he] at hB;simp only[if_true] at hB;exact⟨by omega,st',gq,gM,h,by omega,by rw[show limit+1-(k+1)=limit-k by omega];exact hB⟩
 have hX:∀a (aah:Env) (aaf:aw),st[k]?=some a->(dF F limit a st (BS F a.c)).1≠0->EdC F L0 gv r0 blk (dF F limit a st (BS F a.c)) gq aah aaf->W S al i24_r3 (lh al i24.results (clP F limit L0 gv r0 blk (fO F limit L0))) aah aaf:=by intro a aah aaf ha he h;rw[uL ha,if_neg he] at hB;rw[hB] at he h;generalize fO F limit L0=r at*;have hr0:(r.1==0)=false:=beq_eq_false_iff_ne.2 he;obtain⟨e10,⟨k',s,hs,gi,hq,hb⟩,hbv,hn,aas,hfr⟩:=h;simp only[go_sem,i24_r3,i24,e10,hq,ho];exact⟨_,gi,by rw[hr0],hs.own,hb,hbv,hn,aas,hfr⟩
 obtain⟨s,hs,gi,hq⟩:=hI.que;refine out hs ac hcl hlm hI hq hks (fun aah aaf h1 h6 h7 hb hbv hfr=>?_) (fun a st' aah aaf h1 h2 h3 h4=>hN a st' aah aaf h1 h2 h3 h4) (fun a aah aaf h1 h2 h3=>hX a aah aaf h1 h2 h3);have:=ret _ _ aah aaf hs.own h1 h6 h7 hb hbv hfr;rw[h6,h7] at this;simp only[go_sem,h6,h7];exact this
end
end Go.Abs
