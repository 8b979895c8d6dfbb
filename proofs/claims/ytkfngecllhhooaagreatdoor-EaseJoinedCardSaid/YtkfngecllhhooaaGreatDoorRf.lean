/- A part. -/
import Derived.Test.YtkfngecllhhooaaGreatDoorRe
set_option linter.all false
set_option maxRecDepth 100000
set_option maxHeartbeats 16000000
namespace Go.Abs
theorem XB:aP S 45 [.one (.p (.sl []))] (.one (.p .zs)):=⟨1,by kernel_rfl⟩
theorem Ti{al:Al}(ac:NF al)(hcl:dw){F:Nat}{M:List Let}{w:List bU}{m:bU}{env:Env}{blk:aw}{Q2:cU}{g2 gm:Nat}(hw:w.length<=100000)(hck:ay (F:Int) M=0)(hMl:M.length<=1000000)
  (bC:blk 1536704193=(g2,some (.arr iM 6 (cA M)))) (bm:blk 1536640128=(gm,some (.var [.p (.int .i64 m.k),.p (.int .i64 m.a),.p (.int .i64 m.b),.p (.int .i64 m.c),.p (.bool m.l),.p (.bool m.o),.p (.int .i64 m.s)])))
  (h59:env 59=.agg [.p (.int .i64 F),.hsl 1536704193 g2 6 0 M.length]) (h16:env 16=.one (.aam 1536640128 gm 0))
  (hK:∀(aah:Env) (aaf:aw) (g:Nat),(∀i,i<59->i≠19->aah i=env i)->aah 19=.one (.aam 1536768512 g 0)->aaf 1536768512=(g,some (.var [.p (.int .i64 F),.p (eB M),.p (.int .i64 F),.p (cO (fZ M)),.p (fN (w++[m]))]))->
   (∀i,i∉[1536704193,1536768192,1536768320,1536768384,1536768512]->aaf i=blk i)->Q2 .normal aah aaf):
  dP S al (.pc 45 [.one (.p (fN w))] [] 1536768192) (some 62) [ox 59 2 17,of 60 4 11,dl 61 60 2,dc 62 1536768192 45 [.t 61] 6,ox 63 7 16,od 64 (.aaq 1536768320 52 7 [.t 63]) 16,od 65 (.append 1536768384 52 7 48 (.t 62) (.t 64)) 62,dc 66 1536768448 41 [.t 59,.t 65] 127,oo 19 (.alloc 1536768512 [il 0,.nils,il 0,.nils,.nils]),⟨none,.store 5 (.t 19) (.t 66),none,511⟩] [ox 63 7 16,od 64 (.aaq 1536768320 52 7 [.t 63]) 16,od 65 (.append 1536768384 52 7 48 (.t 62) (.t 64)) 62,dc 66 1536768448 41 [.t 59,.t 65] 127,oo 19 (.alloc 1536768512 [il 0,.nils,il 0,.nils,.nils]),⟨none,.store 5 (.t 19) (.t 66),none,511⟩] Q2 env blk [⟨[1536704448],[],[]⟩,⟨[],[],[]⟩,⟨[1536256256],[],[]⟩]:=by
 have ho:=ac.kY;have lo2:S.lone 1536768192=false:=by kernel_rfl
 have hsz:([bU.ps m].all fun e=>e.length==7)=true:=rfl;by_cases hw0:w=[]
 .have hz0:fN w=.sl []:=by rw[hw0];rfl
  have hl0:land blk [] 1536768192 ((RV.one (.p .zs)).bn (S.lone 1536768192))=some (.one (.p .zs),[]):=by rw[lo2];rfl
  rw[hz0,qU XB hl0];refine⟨rfl,?_⟩;simp only[go_sem,h16,bm,ho];refine UB (site:=1536768384) (ty:=52) (z:=7) (bytes:=48) (xs:=[bU.ps m]) (rd:=[1536768320]) (fun i hi=>?_) ?_ (by simp) (.inl rfl) (by simp only[aaz,aaL];omega) fun c' aaB r1 u1 g1 hb3 hr1=>?_
  .simp only[aat,aa9,or_false] at hi;rcases hi with rfl|rfl<;>exact ac.c _ rfl
  .simp[aO,aa,bU.ps]
  have g1:grown 1536768384 52 7 (mP w++[bU.ps m]) (.one c') aaB:=by rw[hw0];exact g1
  have c3:=hb3 1536704193 (by decide) (by decide);simp only[aa,Nat.reduceEqDiff,if_false] at c3;have c3:=c3.trans bC;rcases g1 with ⟨e,_⟩|⟨_,g5,e,bW⟩
  .simp at e
  cases e;have aed:=Ij hcl (w++[m]) (by omega) hck;rw[show fN (w++[m])=.sl (mP w++[m.ps]) by simp[mP]] at aed;have hwl:(mP w++[m.ps]).length=w.length+1:=by simp[mP]
  have tk1:List.take M.length (cA M)=cA M:=aa4 (by rw[aau];exact aaj _);have tk2:List.take (w.length+1) (mP w++[m.ps])=mP w++[m.ps]:=aa4 (ac7 hwl);simp only[go_sem,h59,c3,bW,hwl,tk1,tk2,s41];obtain⟨u,hu,hu2,hu3,hu4⟩:=yO (blk:=aaB) (s:=1536768448) (rd:=[1536704193,1536768384]) (x0:=.int .i64 F) (x1:=eB M) (x2:=.int .i64 F) (x3:=cO (fZ M)) (x4:=.sl (mP w++[m.ps])) (l:=S.lone 1536768448) (fun i hi=>by
   simp only[aat,aa9,or_false] at hi;rcases hi with rfl|rfl
   .exact⟨_,_,_,_,c3⟩
   exact⟨_,_,_,_,bW⟩)
  rw[qU aed hu];refine⟨oF fun i hi=>?_,?_⟩
  .rcases aaR.1 hi with h|h
   .simp only[aat,aa9,or_false] at h;rcases h with rfl|rfl<;>exact ac.c _ rfl
   have h:=hu3 i h;simp only[aat,aa9,or_false] at h;rcases h with rfl|rfl<;>exact ac.c _ rfl
  simp only[go_sem,ho];refine⟨?_,hK _ _ _ (fun i h1 h2=>?_) rfl ?_ fun i h1=>?_⟩
  .rcases hr1 with ⟨rfl,rfl⟩|⟨rfl,rfl⟩|⟨rfl,rfl⟩<;>rcases hu4 with h4|h4<;>rw[h4]<;>kernel_rfl
  .simp only[aa];repeat' rw[if_neg (by omega)]
  .simp only[aa,if_true];rw[show fN (w++[m])=.sl (mP w++[m.ps]) by simp[mP]]
  simp only[aat,aa9,or_false,not_or] at h1;obtain⟨n1,n2,n3,n4,n5⟩:=h1;simp only[aa,if_neg n5];rw[hu2 i (by simp[n1,n4]),hb3 i n4 n4];simp only[aa,if_neg n3]
 have pc:=XC hw0 (by omega);refine Xz (fun i hi=>?_) pc lo2 (.inl rfl) fun c1 aal w1 gw hb2 hw1=>?_
 .simp only[aat,aa9,or_false] at hi;subst hi;exact ac.c _ rfl
 have d1:=hb2 1536640128 (by decide);rw[bm] at d1;simp only[go_sem,h16,d1,ho];refine mD (site:=1536768384) (id:=1536768192) (ty:=52) (z:=7) (bytes:=48) (es:=mP w) (xs:=[bU.ps m]) (rd:=[1536768320]) (fun i hi=>?_) (gw.of_eq (by simp only[aa,Nat.reduceEqDiff,if_false])) ?_ (.inl rfl) (by simp only[eS,aaz,aaL];omega) fun c' aaB r1 u1 g1 hb3 hr1=>?_
 .simp only[aat,aa9,or_false] at hi;rcases hi with rfl|rfl|rfl<;>exact ac.c _ rfl
 .simp[aO,aa,bU.ps]
 have c3:=hb3 1536704193 (by decide) (by decide);simp only[aa,Nat.reduceEqDiff,if_false,hb2 1536704193 (by decide)] at c3;have c3:=c3.trans bC;rcases g1 with ⟨e,_⟩|⟨_,g5,e,bW⟩
 .simp at e
 cases e;have aed:=Ij hcl (w++[m]) (by omega) hck;rw[show fN (w++[m])=.sl (mP w++[m.ps]) by simp[mP]] at aed;have hwl:(mP w++[m.ps]).length=w.length+1:=by simp[mP]
 have tk1:List.take M.length (cA M)=cA M:=aa4 (by rw[aau];exact aaj _);have tk2:List.take (w.length+1) (mP w++[m.ps])=mP w++[m.ps]:=aa4 (ac7 hwl);simp only[go_sem,h59,c3,bW,hwl,tk1,tk2,s41];obtain⟨u,hu,hu2,hu3,hu4⟩:=yO (blk:=aaB) (s:=1536768448) (rd:=[1536704193,1536768384]) (x0:=.int .i64 F) (x1:=eB M) (x2:=.int .i64 F) (x3:=cO (fZ M)) (x4:=.sl (mP w++[m.ps])) (l:=S.lone 1536768448) (fun i hi=>by
  simp only[aat,aa9,or_false] at hi;rcases hi with rfl|rfl
  .exact⟨_,_,_,_,c3⟩
  exact⟨_,_,_,_,bW⟩)
 rw[qU aed hu];refine⟨oF fun i hi=>?_,?_⟩
 .rcases aaR.1 hi with h|h
  .simp only[aat,aa9,or_false] at h;rcases h with rfl|rfl<;>exact ac.c _ rfl
  have h:=hu3 i h;simp only[aat,aa9,or_false] at h;rcases h with rfl|rfl<;>exact ac.c _ rfl
 simp only[go_sem,ho];refine⟨?_,hK _ _ _ (fun i h1 h2=>?_) rfl ?_ fun i h1=>?_⟩
 .rcases hw1 with rfl|rfl<;>rcases hr1 with ⟨rfl,rfl⟩|⟨rfl,rfl⟩|⟨rfl,rfl⟩<;>rcases hu4 with h4|h4<;>rw[h4]<;>kernel_rfl
 .simp only[aa];repeat' rw[if_neg (by omega)]
 .simp only[aa,if_true];rw[show fN (w++[m])=.sl (mP w++[m.ps]) by simp[mP]]
 simp only[aat,aa9,or_false,not_or] at h1;obtain⟨n1,n2,n3,n4,n5⟩:=h1;simp only[aa,if_neg n5];rw[hu2 i (by simp[n1,n4]),hb3 i n4 n2];simp only[aa,if_neg n3];rw[hb2 i n2]
theorem V6{al:Al}{Q:cU}{env:Env}{blk:aw}{os:List aj}{d:Option Nat}{p:d9}(h:∀b,b=blk->gP S al p d os Q env b):gP S al p d os Q env blk:=h _ rfl
theorem Yq:S.sites 46=[46]:=by kernel_rfl
theorem Yo:S.sites 43=[43]:=by kernel_rfl
theorem Yp:S.sites 25=[25]:=by kernel_rfl
theorem XD{F:Nat}{L:List Let}(h:ay (F:Int) L=0):F<=40:=by
 by_cases hne:L=[]
 .subst hne;exact GO h
 obtain⟨G,e,g⟩:=jh h hne;have:=g.fing;omega
structure X2 (a:eX) (F:Nat) (ms:List bU) (ga gg:Nat) (j:Nat) (env:Env) (blk:aw):Prop where
 h11:env 11=.one (.aam 1536256256 ga 0)
 bA:blk 1536256256=(ga,some (.var [.p (.int .i64 F),.p (eB a.c),.p (.int .i64 F),.p (eB a.n),.p (fN a.w)]))
 h46:env 46=.one (.hsl 1536448192 gg 7 0 ms.length)
 h47:env 47=vi ms.length
 h48:env 48=vi j
 bV:blk 1536448192=(gg,some (.arr md 7 (mP ms)))
theorem round{al:Al}{s:Nat}(hq:Kp s)(ac:NF al)(hcl:dw){F limit:Nat}{L0:List Let}{gv gq gM ga gg gi:Nat}{r0:List Nat}{b0:aw}{a:eX}{ms:List bU}{st:List eX}{k j:Nat}{m:bU}{env:Env}{blk:aw}{Q:cU}(hlm:limit<=20000)(hml:ms.length<=8000)(hj:ms[j]?=some m)(aiY:EE F a.c FM m)(ha:Ny F L0 st.length a)
  (hI:Nu F limit L0 gv r0 b0 gq gM st k env blk) (que:Nw s gq gi (kE F st) k blk) (hR:X2 a F ms ga gg j env blk)
  (hN:∀st' (aah:Env) (aaf:aw),fE F limit a st m=(0,st')->Nu F limit L0 gv r0 b0 gq gM st' k aah aaf->X2 a F ms ga gg (j+1) aah aaf->Q .normal aah aaf)
  (hX:∀(aah:Env) (aaf:aw),(fE F limit a st m).1≠0->EdC F L0 gv r0 b0 (fE F limit a st m) gq aah aaf->Q (.exit 0) aah aaf):W S al i24_l1 Q env blk:=by
  obtain⟨e1,e2,e9,e10,bM,_,bv,ne,lim,alls,fr⟩:=hI;obtain⟨bq,bs⟩:=que;obtain⟨h11,bA,h46,h47,h48,bV⟩:=hR;have ho:=ac.kY;have o1:=hq.ok ac;have hns:=hq.ne;have o2:=ac.v;have o3:al.ok 1536448192=true:=ac.c _ rfl;have hlt:=(aai.1 hj).1;have aak:((j:Int)<(ms.length:Int)):=by omega
  have hat:=qH hj;have w1:=ak (n:=j) (by omega);have ano:(mP ms).length=ms.length:=eS ms;obtain⟨M,hap,pa,hck,arJ,an1,abs⟩:=Px ha aiY;have lo1:S.lone 1536704192=false:=by kernel_rfl
  have hll:=jQ hck;have hwl:=ha.len;have hAO:fE F limit a st m=if (st.map (eX.key F)).any (fun s=>mR F (js M)==s) then (0,st) else if st.length=limit then (1,st) else (if (OP F M).2 then 2 else 0,st++[⟨M,js M,a.w++[m]⟩]):=by unfold fE;rw[hap];rfl
  have pa':aP S 38 [.agg [.p (.int .i64 F),.p (eB a.c)],.agg [.p (.int .i64 m.k),.p (.int .i64 m.a),.p (.int .i64 m.b),.p (.int .i64 m.c),.p (.bool m.l),.p (.bool m.o),.p (.int .i64 m.s)]] (jr F M):=pa;simp only[go_sem,i24_l1,h11,h46,h47,h48,bA,bV,hlt,aak,hat,bU.ps,ho,s38];refine Ui (fun i hi=>?_) pa' lo1 rfl rfl (qw _) fun cc aao gc hb1=>?_
  .simp only[aat,aa9,or_false] at hi;subst hi;exact ac.c _ rfl
  rcases gc with ⟨e,_⟩|⟨_,g2,e,bC⟩
  .exact absurd (List.map_eq_nil_iff.1 e) arJ
  cases e;have c0:=hb1 1536256256 (by decide);have c1:=hb1 1536640128 (by decide);have c2:=hb1 1536128000 (by decide);have c3:=hb1 1536192192 (by decide);have c4:=hb1 s (by rcases hq with rfl|rfl<;>decide);have c5:=hb1 832512000 (by decide);have c6:=hb1 1536448192 (by decide);simp only[go_sem,bA,bM,bq,bs,bv,bV,hns] at c0 c1 c2 c3 c4 c5 c6;have hlM:(cA M).length=M.length:=aau ..;simp only[go_sem,h11,c0,hlM,ho,s45]
  refine Ti ac hcl (F:=F) (M:=M) (w:=a.w) (m:=m) (g2:=g2) (gm:=(blk 1536640128).1+1) (by omega) hck (by omega) (by simp only[aa,Nat.reduceEqDiff,if_false];exact bC) (by simp only[aa,Nat.reduceEqDiff,if_false];exact c1) rfl rfl fun aah aaf g hE h19 b19 hB=>?_
  have f1:=hE 1 (by decide) (by decide);have f2:=hE 2 (by decide) (by decide);have f9:=hE 9 (by decide) (by decide);have f10:=hE 10 (by decide) (by decide);have f11:=hE 11 (by decide) (by decide);have f46:=hE 46 (by decide) (by decide);have f47:=hE 47 (by decide) (by decide);have f48:=hE 48 (by decide) (by decide);simp only[go_sem,e1,e2,e9,e10,h11,h46,h47,h48] at f1 f2 f9 f10 f11 f46 f47 f48;have d0:=hB 1536256256 (by decide);have d2:=hB 1536128000 (by decide);have d3:=hB 1536192192 (by decide);have d4:=hB s (by rcases hq with rfl|rfl<;>decide);have d5:=hB 832512000 (by decide)
  have d6:=hB 1536448192 (by decide);simp only[go_sem,c0,c2,c3,c4,c5,c6,hns] at d0 d2 d3 d4 d5 d6;have fr2:∀i,¬kD i->i≠832512000->i∉r0->aaf i=b0 i:=fun i h1 h2 h3=>by have n1:i≠1536704193:=fM h1 rfl (.inl rfl);have n2:i≠1536704448:=fM h1 rfl (.inl rfl);have n3:i≠1536640128:=fM h1 rfl (.inl rfl);have n4:i≠1536768192:=fM h1 rfl (.inl rfl);have n5:i≠1536768320:=fM h1 rfl (.inl rfl);have n6:i≠1536768384:=fM h1 rfl (.inl rfl);have n7:i≠1536768512:=fM h1 rfl (.inl rfl);rw[hB i (by simp[n1,n4,n5,n6,n7])];simp only[aa,if_neg n2];rw[hb1 i n1];simp only[aa,if_neg n3];exact fr i h1 h2 h3
  clear hE hB hb1 c0 c1 c2 c3 c4 c5 c6 fr bA bM bq bs bv bV e1 e2 e9 e10 h11 h46 h47 h48 bC;have pp:=JS (F:=(F:Int)) (L:=js M) ⟨by have:=XD hck;omega,by have:=XD hck;omega⟩ (by have:=jN M;omega) (Og (rO hck));have a3:(cO (fZ M)).norm=eB (js M):=sk (fZ M);have a4:(fN (a.w++[m])).norm=fN (a.w++[m]):=rfl;have hkl:(T2 (st.map (eX.key F))).length=st.length:=by simp
  have hql:(kE F st).length=st.length:=qI F st;have afh:((st.length:Int)==(limit:Int))=decide (st.length=limit):=by
   by_cases h:st.length=limit
   .rw[h];simp
   rw[decide_eq_false h,beq_eq_false_iff_ne];omega
  rcases IM (mR F (js M)) (st.map (eX.key F)) 0 with ⟨hf,jj,fk⟩|⟨hf,fk⟩
  .rw[hf,if_pos rfl] at hAO;simp only[go_sem,f9,f48,h19,b19,a3,d2,s42,y9 pp,mapOf,mapVal,dD,fk,w1,ho];refine hN st _ _ hAO ⟨?_,?_,?_,?_,d2,⟨s,hq,gi,by rw[hql];exact d3,d4⟩,d5,ne,lim,alls,fr2⟩ ⟨?_,d0,?_,?_,?_,d6⟩;all_goals(simp only[go_sem,f1,f2,f9,f10,f11,f46,f47,f48];first|done|rfl)
  rw[hf] at hAO;simp only[aaE,if_false] at hAO;cases hL:decide (st.length=limit) with
  |true=>rw[if_pos (of_decide_eq_true hL)] at hAO;rw[hL] at afh;simp only[go_sem,f1,f9,f10,f48,h19,b19,a3,d2,d3,afh,s42,y9 pp,mapOf,mapVal,dD,fk,Option.map_none,w1,ho];have hX':=hX;rw[hAO] at hX';refine hX' _ _ (by show(1:Nat)≠0;decide) ⟨?_,⟨k,s,hq,gi,by rw[hql];exact d3,d4⟩,d5,ne,alls,fr2⟩;simp only[go_sem,f10];first|done|rfl
  |false=>
   rw[if_neg (of_decide_eq_false hL)] at hAO;rw[hL] at afh;simp only[go_sem,f1,f9,f10,h19,b19,a3,d2,d3,d4,afh,s42,y9 pp,mapOf,mapVal,dD,iK,fk,Option.map_none,ho,s46];refine V6 fun aal hb2=>?_;have g2:aal 1536128000=(gM,some (.map false (T2 (st.map (eX.key F))++[(.str (mR F (js M)),[.bool true])]))):=by rw[hb2];simp only[aa,if_true];try rfl
   have aqP:kE F st≠[]:=by simpa using ne
   have kp:∀i,i≠1536128000->aal i=aaf i:=fun i h=>by rw[hb2];simp only[aa,if_neg h]
   have k3:=(kp 1536192192 (by decide)).trans d3;have k4:=(kp s (by rcases hq with rfl|rfl<;>decide)).trans d4;have k5:=(kp 832512000 (by decide)).trans d5;have k6:=(kp 1536448192 (by decide)).trans d6;have k0:=(kp 1536256256 (by decide)).trans d0;have k19:=(kp 1536768512 (by decide)).trans b19;have fr3:∀i,¬kD i->i≠832512000->i∉r0->aal i=b0 i:=fun i h1 h2 h3=>(kp i (fM h1 rfl (.inl rfl))).trans (fr2 i h1 h2 h3)
   clear hb2 kp fr2;have hrc:((([V.one (.aam 1536192192 gq 0),V.agg [.p (.int .i64 F),.p (eB M),.p (.int .i64 F),.p (cO (fZ M)),.p (fN (a.w++[m]))]]:List V).map (cJ aal)).flatten)=[1536192192,s]:=by
    have r1:cJ aal (.one (.aam 1536192192 gq 0))=[1536192192,s]:=by rw[lD k3];simp only[aaK,abi,abt,ade,abo];rw[gR (n:=4) k4,rI];rfl
    rw[aaK,aaK,abi,r1];rfl
   have ahb:=Z0 hq (al:=allow (S.ctx al) 46 [V.one (.aam 1536192192 gq 0),V.agg [.p (.int .i64 F),.p (eB M),.p (.int .i64 F),.p (cO (fZ M)),.p (fN (a.w++[m]))]] aal) (blk:=aal) (gq:=gq) (gi:=gi) (k:=k) (es:=kE F st) (x0:=.int .i64 F) (x1:=eB M) (x2:=.int .i64 F) (x3:=cO (fZ M)) (x4:=fN (a.w++[m])) (dA (by rw[hrc];simp)) (dA (by rw[hrc];simp)) (ff (by kernel_rfl)) (ff (by kernel_rfl)) (ff (by kernel_rfl)) ⟨by rw[hql];exact k3,k4⟩ aqP (by rw[hql];omega);rw[a3] at ahb;refine gb (holds_of (by show al.kY (List.flatten _)=true;rw[hrc];simp only[nu,oG,ho,o1,acj]) (by show(S.sites 46).all al.fs.contains=true;rw[Yq];simp only[abu,abL,ac.a,acj])) ahb fun v3 aaB hP=>?_
   obtain⟨rfl,⟨g5,bq3,bs3⟩,afO⟩:=hP;have m5:=afO 832512000 (by decide) (by decide) (by rcases hq with rfl|rfl<;>decide);have m6:=afO 1536448192 (by decide) (by decide) (by rcases hq with rfl|rfl<;>decide);have m0:=afO 1536256256 (by decide) (by decide) (by rcases hq with rfl|rfl<;>decide);have m2:=afO 1536128000 (by decide) (by decide) (by rcases hq with rfl|rfl<;>decide);have m19:=afO 1536768512 (by decide) (by decide) (by rcases hq with rfl|rfl<;>decide);rw[k5] at m5;rw[k6] at m6;rw[k0] at m0;rw[g2] at m2;rw[k19] at m19
   have fr4:∀i,¬kD i->i≠832512000->i∉r0->aaB i=b0 i:=fun i h1 h2 h3=>(afO i (fun h=>h1 (.inr (.inr (.inl h)))) (fM h1 rfl (.inl rfl)) (hq.no h1)).trans (fr3 i h1 h2 h3);have pr:=Vn hck;simp only[go_sem,f2,h19,m19,ho,s25];have hrs:((([V.agg [.p (.int .i64 F),.p (eB M),.p (.int .i64 F),.p (cO (fZ M)),.p (fN (a.w++[m]))],V.one (.aam 832512000 gv 0)]:List V).map (cJ aaB)).flatten)=[832512000]:=by
    have r1:cJ aaB (.one (.aam 832512000 gv 0))=[832512000]:=by rw[lD m5];rfl
    rw[aaK,aaK,abi,r1];rfl
   have hst:=Wu (al:=allow (S.ctx al) 25 [V.agg [.p (.int .i64 F),.p (eB M),.p (.int .i64 F),.p (cO (fZ M)),.p (fN (a.w++[m]))],V.one (.aam 832512000 gv 0)] aaB) (blk:=aaB) (gv:=gv) (F:=F) (L:=M) (x2:=.int .i64 F) (x3:=cO (fZ M)) (x4:=fN (a.w++[m])) (b0:=false) pr.1 (dA (by rw[hrs];simp)) (ff (by kernel_rfl)) (ff (by kernel_rfl)) m5;refine gb (holds_of (by show al.kY (List.flatten _)=true;rw[hrs];simp only[nu,oG,o2,acj]) (by show(S.sites 25).all al.fs.contains=true;rw[Yp];simp only[abu,abL,ac.s,acj])) hst fun v4 aaO hP=>?_
   obtain⟨rfl,bv4,afN⟩:=hP;have n0:=(afN 1536256256 (by decide) (by decide)).trans m0;have n2:=(afN 1536128000 (by decide) (by decide)).trans m2;have n3:=(afN 1536192192 (by decide) (by decide)).trans bq3;have n4:=(afN 2944064448 (by decide) (by decide)).trans bs3;have n6:=(afN 1536448192 (by decide) (by decide)).trans m6;have fr5:∀i,¬kD i->i≠832512000->i∉r0->aaO i=b0 i:=fun i h1 h2 h3=>(afN i (fun h=>h1 (.inr (.inr (.inr h)))) h2).trans (fr4 i h1 h2 h3);have hmp:kE F st++[[.int .i64 F,eB M,.int .i64 F,eB (js M),fN (a.w++[m])]]=kE F (st++[(⟨M,js M,a.w++[m]⟩:eX)]):=by simp[eX.ps]
   have hks:T2 (st.map (eX.key F))++[(.str (mR F (js M)),[.bool true])]=T2 ((st++[(⟨M,js M,a.w++[m]⟩:eX)]).map (eX.key F)):=by simp[eX.key]
   have hq3:Nw 2944064448 gq g5 (kE F (st++[(⟨M,js M,a.w++[m]⟩:eX)])) k aaO:=by rw[<- hmp];exact⟨n3,n4⟩
   rw[hks] at n2;have ajF:(st++[(⟨M,js M,a.w++[m]⟩:eX)]).length=st.length+1:=by simp
   have ani:(st++[(⟨M,js M,a.w++[m]⟩:eX)])≠[]:=by simp
   have hL2:=of_decide_eq_false hL;have aas:∀x∈st++[(⟨M,js M,a.w++[m]⟩:eX)],Ny F L0 (st++[(⟨M,js M,a.w++[m]⟩:eX)]).length x:=fun x hx=>by
    rw[ajF];rcases aaR.1 hx with h|h
    .exact(alls x h).mono (by omega)
    rw[abJ.1 h];refine⟨hck,rfl,abs,fun y hy=>?_,by show(a.w++[m]).length<=_;rw[aaY];simp only[aaz,aaL];omega,an1.trans ha.same⟩;rcases aaR.1 hy with h|h
    .exact ha.kind y h
    rw[abJ.1 h];exact aiY.1
   clear ahb hst pr hrs hrc;cases hb:(OP F M).2 with
   |true=>rw[hb,if_pos rfl] at hAO;rw[hb] at bv4;have hX':=hX;rw[hAO] at hX';simp only[go_sem,f48];refine hX' _ _ (by show(2:Nat)≠0;decide) ⟨?_,⟨k,_,.inr rfl,g5,hq3⟩,bv4,ani,aas,fr5⟩;simp only[go_sem,f10];first|done|rfl
   |false=>rw[hb] at hAO bv4;simp only[aaE,if_false] at hAO;simp only[go_sem,f48,w1];refine hN _ _ _ hAO ⟨?_,?_,?_,?_,n2,⟨_,.inr rfl,g5,hq3⟩,bv4,ani,by rw[ajF];omega,aas,fr5⟩ ⟨?_,n0,?_,?_,?_,n6⟩;all_goals(simp only[go_sem,f1,f2,f9,f10,f11,f46,f47,f48];first|done|rfl)
end Go.Abs
