/-
  The faces and the board of a code in the program.
-/
import Derived.Test.YtnbfnkckmfibpaaGreatDoorWn
set_option linter.unusedSimpArgs false
set_option linter.unusedVariables false
set_option linter.unusedSectionVars false
set_option maxRecDepth 100000
set_option maxHeartbeats 16000000
namespace Go.Abs
section
variable{F:Nat}{ls:List ae}
structure bj (F:Nat) (ls:List ae):Prop where
 ok:eN F ls
 len:ls.length<=400
 cr:aD ae.aJ ls<=200
 fing:F<=40
 ne:ls≠[]
 first: ∃ l,ls[0]? =some l/\l.bq=true
 even:aD ae.bq ls%2=0
 bad: ∀ l∈ls,cS F l=false
 chk:dZ F ls=0
 nw:iU ls=aD ae.bq ls+aD ae.aJ ls/2+2
theorem On{f:Int}(h:dZ f ls=0)(TA:ls≠[]): ∃ F:Nat,f=(F:Int)/\bj F ls:=by
 have h0:=h;unfold dZ at h;by_cases h1:400<ls.length\/200<aD ae.aJ ls
 ·rw[if_pos h1] at h;cases h
 rw[if_neg h1] at h;by_cases h2:f<0\/40<f
 ·rw[if_pos h2] at h;cases h
 rw[if_neg h2,if_neg TA] at h;cases hv:dF f ls with
 |false=>rw[hv] at h;simp at h
 |true=>
  obtain⟨F,rfl⟩:=aa8 (show 0<=f by omega);refine⟨F,rfl,?_⟩;unfold dF at hv;simp only[aan] at hv;obtain⟨⟨⟨v1,v2⟩,v3⟩,v4⟩:=hv;obtain⟨Tw,U2,UD⟩:=kM.1 v3;have hbl: ∀ l∈ls,cS F l=false:=fun l hl=>by simpa using acp.1 Tw l hl
  have hg:jH F ls:=fun l hl hp=>((jk hp).1 (hbl l hl)).1.1.1
  obtain⟨g1,g2⟩:=(jP hg).1 U2;obtain⟨l0,Ys⟩:=ao (abn.2 TA);rw[Ys] at v1;exact⟨⟨by omega,⟨g1,g2⟩,UD,fun l hl=>rJ (hbl l hl)⟩,by omega,by omega,by omega,TA,⟨l0,Ys,v1⟩,by simpa using v2,hbl,h0,by simpa using v4⟩
theorem bj.axne(g:bj F ls):ah ls≠[]:=by
 obtain⟨l,h1,h2⟩:=g.first;exact List.ne_nil_of_mem (eE.2 ⟨l,h1,h2⟩)
def LG(F:Nat)(ls:List ae)(kO gS:Nat)(x:Nat)(Us:List Bool)(Tc:aB)(v:V)(Td:aB):Prop:=
 ∃ f cd cp cf,f=((bQ (cM ls) (nD ls+1) x Us).1).foldl (Fc.add F ls) (Fc.new ls x)/\v= .agg [.p (.bool f.Tu),cd,cp,cf, .p (.bool f.outer)]/\Td kO=(gS,some (.arr 4 1 (bP ((bQ (cM ls) (nD ls+1) x Us).2.take (2*ls.length)))))/\
  grown 4608512256 3 1 (nP f.Tl) (.one cd) Td/\grown 4608896192 qI 2 (fv f.places) (.one cp) Td/\grown 4608896448 3 1 (nP f.TF) (.one cf) Td/\Kept (fun id=>mS id\/id=kO) Tc Td
theorem Re{al:Al}(ok:eN F ls)(hF:F<=1000)(okf: ∀ id,mS id->al.ok id=true){kO gS idB gB x:Nat}(oS:al.ok kO=true)(oB:al.ok idB=true)(nS: ¬ mS kO)(nB: ¬ mS idB)(nSB:kO≠idB)(f1:al.fs.contains 110=true)(f2:al.fs.contains 111=true){Us:List Bool}{Tc:aB}
  (hx:x<2*ls.length) (hSl:Us.length=nD ls) (Uk:xf (cM ls) (nD ls) Us) (hs:Us.getD x true=false) (bS:Tc kO=(gS,some (.arr 4 1 (bP (Us.take (2*ls.length)))))) (bB:Tc idB=(gB,some (.arr 4 1 (bP (AS ls))))):
  ∃ v Td,pz S 72 [.one (.p (DP F ls)),vi x, .one (.hsl kO gS 1 0 (2*ls.length)), .one (.hsl idB gB 1 0 ls.length)] al Tc v Td/\LG F ls kO gS x Us Tc v Td:=by
 have hl:=ok.hl;have UG:(ah ls).length<=ls.length:=cn ls ls.length;have U3:nD ls<=4000000:=by unfold nD;omega
 have k0:al.ok 4608000000=true:=okf _ rfl;have kF:al.ok 4608128448=true:=okf _ rfl;have wq:=wrap_small (n:=x/2) (by omega);have XC:x/2<ls.length:=by omega
 have aiH:=ig (OU XC);have nSi: ∀ {a:Nat},mS a->a≠kO:=fun h e=>nS (e▸h)
 have nBi: ∀ {a:Nat},mS a->a≠idB:=fun h e=>nB (e▸h)
 have nB0: ¬ (idB=4608000000):=fun e=>nBi rfl e.symm
 have hul:=jN Us;refine eY c72 (aaN rfl) ?_;simp only[go_sem,i72,bB,nB0,k0,kF,oB,aT,ch,wq,XC,aiH];refine⟨au,?_⟩;refine Rf ok hF okf (kO:=kO) (gS:=gS) (idB:=idB) (gB:=gB) (g8:=(Tc 4608000000).1+1) (gF:=(Tc 4608128448).1+1) (d:=x) oS nS nB nSB f1 f2 hx (nD ls+1) 0 x Us (Fc.new ls x) _ _ (.p .nils) (.p .nils) (.p .nils) ?_ ?_ ?_ ?_ ?_ ?_ ?_ ?_ hSl (by unfold nD;omega) (Inv.start Uk hs) (by omega) (by omega) ⟨aal _,aah _,aah _⟩ ?_
 ·simp only[go_sem]
 ·simp only[go_sem]
 ·simp only[go_sem]
 ·simp only[go_sem]
 ·simp only[go_sem]
 ·simp only[go_sem]
 ·simp only[go_sem]
 ·refine⟨?_,?_,?_,?_,grown.nil,grown.nil,grown.nil⟩
  ·simp only[aj (nSi (a:=4608000000) rfl).symm,aj (nSi (a:=4608128448) rfl).symm,bS]
  ·simp only[aj (nBi (a:=4608000000) rfl).symm,aj (nBi (a:=4608128448) rfl).symm,bB]
  ·simp only[go_sem]
  ·simp only[go_sem,Fc.new]
 ·intro Tg Td Yx Vs X5 q8 Yz Yu TL;simp only[go_sem] at q8 Yz;have h8:=Yu.b8;have hf:=Yu.bF;simp only[go_sem,i72_r2,q8,Yz,h8,hf,k0,kF];refine⟨_,Yx,Vs,X5,rfl,rfl,?_,?_,?_,?_,fun id hn=> ?_⟩
  ·exact(aj (nSi rfl).symm).trans Yu.bS
  ·exact Yu.gd.of_eq (aj (by decide))
  ·exact Yu.gp.of_eq (aj (by decide))
  ·exact Yu.gf.of_eq (aj (by decide))
  ·have a: ∀ y,mS y->id≠y:=fun y hy e=>hn (.inl (e▸hy))
   refine(aj (a _ rfl)).trans ((TL id hn).trans ?_);simp only[aj (a 4608000000 rfl),aj (a 4608128448 rfl)]
theorem aR{s1 t1 z1:Nat}{es:List (List PV)}{c:C}{x:PV}{Tc:aB}(h:grown s1 t1 z1 es (.one c) Tc):en Tc (.tup [.one c, .one (.p x)])=some (.tup [.one (aq t1 z1 es), .one (.p x)]):=by
 obtain⟨c',o,hc,h2,h3⟩:=h.eo;cases hc
 rcases h3 with rfl|rfl<;>simp[en,et,iF,cb,dg,h2,(show Go.Abs.eo Tc (.p x)=some (.p x,[],[]) from rfl),apart,eZ,cX,nh]
theorem iR{Tc:aB}{id g g0 z o l ty sz:Nat}{es:List (List PV)}(h:Tc id=(g0,some (.arr ty sz es))):co Tc (.one (.hsl id g z o l))=[id]:=(jO h:dG Tc 6 (.hsl id g z o l)=[id])
theorem Nf:(S.sites 72).contains 72=true:=by kernel_rfl
theorem Ne:(S.sites 72).contains 110=true:=by kernel_rfl
theorem Nd:(S.sites 72).contains 111=true:=by kernel_rfl
theorem Bl{S:List Bool}{n k:Nat}{b:Bool}(hk:k<n)(hn:n<=S.length)(h:S.getD k true=b):(S.take n)[k]? =some b:=by
 rw[abi,if_pos hk];rw[aap] at h;obtain⟨c,hc⟩:=ao (show k<S.length by omega);rw[hc] at h ⊢;exact congrArg some h
theorem Ot(g:bj F ls):aH S 46 [aQ F ls] (.tup [.one (aq lS 5 (lZ (ay F ls))), .one (.p (.int .i64 0))]):=by
 have ok:=g.ok;have hl:=ok.hl;have hF:F<=1000:=by have:=g.fing;omega
 have UG:(ah ls).length<=ls.length:=cn ls ls.length;have hlen:=g.len;have U3:nD ls<=4000000:=by unfold nD;omega
 have h2n:2*ls.length<=nD ls:=by unfold nD;omega
 have pr:=Kk F ls hl;rw[md g.chk,if_neg g.ne,abm] at pr;have pb:=OT ok;have hm:=maps ok;have m2:=bX (a:=ls.length) (by omega);have TQ:2*ls.length<=140737488355328:=by omega
 have YB:List.replicate (2*ls.length) [PV.bool false]=bP ((aL (cM ls) (nD ls) 0).2.take (2*ls.length)):=by
  show _=bP ((List.replicate (nD ls) false).take (2*ls.length));rw[List.take_replicate,ab8 h2n];simp
 have hLB: ∀ Tc:aB,land Tc [] 2944384064 ((RV.one (.own 4 1 (bP (AS ls)))).bK (S.lone 2944384064))=some (.one (.hsl 2944384064 ((Tc 2944384064).1+1) 1 0 ls.length),[(2944384064,((Tc 2944384064).1+1,some (.arr 4 1 (bP (AS ls)))))]):=by
  intro Tc;rw[show S.lone 2944384064=false by kernel_rfl];show some (V.one (.hsl 2944384064 ((Tc 2944384064).1+1) 1 0 (bP (AS ls)).length),_)=_;rw[show(bP (AS ls)).length=ls.length by simp[qk]];rfl
 have T4:S.Tf 72=true:=by kernel_rfl
 refine aG c46 ?_;simp only[go_sem,i46,s65,ai pr ak,s71,ai pb (hLB _),m2,TQ,YB];refine be (fun k env Tc=>env 4= .one (.p (DP F ls))/\env 7= .one (.hsl 2944320448 1 1 0 (2*ls.length))/\env 8= .one (.hsl 2944384064 1 1 0 ls.length)/\env 29=vi ((2*ls.length:Nat):Int)/\env 30=vi k/\
   Tc 2944320448=(1,some (.arr 4 1 (bP ((aL (cM ls) (nD ls) k).2.take (2*ls.length)))))/\Tc 2944384064=(1,some (.arr 4 1 (bP (AS ls))))/\
   ∃ vo,env 6= .one vo/\grown 2944704448 lS 5 (lZ ((aL (cM ls) (nD ls) k).1.map (dM F ls))) (.one vo) Tc) 0 (2*ls.length) (aah _) ?_ ?_
 ·simp only[go_sem];first|exact⟨rfl,rfl,rfl,_,rfl, .inl ⟨rfl,rfl⟩⟩|exact⟨rfl,rfl,_,rfl, .inl ⟨rfl,rfl⟩⟩|exact⟨rfl,_,rfl, .inl ⟨rfl,rfl⟩⟩|exact⟨rfl,rfl,rfl,rfl,_,rfl, .inl ⟨rfl,rfl⟩⟩
 ·rintro k env Tc hk ⟨h4,h7,h8,h29,h30,bS,bB,vo,h6,go⟩
  by_cases Ti:k<2*ls.length
  ·have Tk:((k:Int)<((2*ls.length:Nat):Int)):=by omega
   have w1:=am (n:=k) (by omega);obtain⟨Uk,_⟩:=jd hm k (by omega);have aa0:=gH (cM ls) (nD ls) k;have Vu:=gY (cM ls) (nD ls) k;have TE:=de (cM ls) (nD ls) k;generalize hw:aL (cM ls) (nD ls) k=st at*;obtain⟨o,Us⟩:=st;simp only at Uk aa0 Vu bS go;unfold d9 at TE;cases hs:Us.getD k true with
   |true=>
    simp only[hs,if_true] at TE;have hb:=ig (Bl Ti (by omega) hs);simp only[go_sem,i46_l1,h4,h6,h7,h8,h29,h30,bS,bB,Ti,Tk,hb,w1,TE];exact⟨vo,rfl,go⟩
   |false=>
    simp only[hs,aaL,if_false,aa0] at TE;have hb:=ig (Bl Ti (by omega) hs);obtain⟨t,ht⟩:=uJ (cM ls) (k:=nD ls) hs;have hfw:((bQ (cM ls) (nD ls+1) k Us).1).foldl (Fc.add F ls) (Fc.new ls k)=dM F ls (bQ (cM ls) (nD ls+1) k Us).1:=by
     unfold dM;rw[ht];rfl
    have UE:=tE (F:=F) (t:=t) Ti;rw[<- ht] at UE;simp only[go_sem,i46_l1,h4,h6,h7,h8,h29,h30,bS,bB,Ti,Tk,hb,T4];have afu:co Tc (.one (.hsl 2944320448 1 1 0 (2*ls.length)))=[2944320448]:=iR bS;have aaR:co Tc (.one (.hsl 2944384064 1 1 0 ls.length))=[2944384064]:=iR bB;refine fg (P:=LG F ls 2944320448 1 k Us Tc) da (Re ok hF (fun id h=>eW (by rw[h];exact Nf)) (cK ?_) (cK ?_) (by decide) (by decide) (by decide) ?_ ?_ Ti aa0 Uk hs bS bB) ?_
    ·simp only[aas,aaI,afu,aaR];simp
    ·simp only[aas,aaI,afu,aaR];simp
    ·exact Ne
    ·exact Nd
    ·rintro v Tq ⟨f,cd,cp,cf,hf,rfl,bS1,gd,gp,gf,TL⟩
     rw[hfw] at hf;rw[<- hf] at UE;have bB1:=(TL 2944384064 (by decide)).trans bB;have go1:=go.of_eq (TL 2944704448 (by decide));have Uj:lZ (o.map (dM F ls))++[f.ps]=lZ ((aL (cM ls) (nD ls) (k+1)).1.map (dM F ls)):=by rw[TE,hf];simp
     have hS2:(aL (cM ls) (nD ls) (k+1)).2=(bQ (cM ls) (nD ls+1) k Us).2:=by rw[TE]
     have ahW:(lZ (o.map (dM F ls))).length<=k:=by simpa using Vu
     generalize lZ (o.map (dM F ls))=outs at go1 Uj ahW;have gd0:=gd;rcases gd with ⟨e,_⟩|⟨_,gg,e,Um⟩
     ·simp at e;exact absurd e UE
     ·cases e
      simp only[go_sem];rw[aak] at gd0;obtain⟨fr,hx,hfa,hfi⟩:=wA (Tc:=fD Tq 2944704384 ((Tq 2944704384).1+1,some (.TV lS 5 [[.p (.bool f.Tu), .hsl 4608512256 gg 1 0 f.Tl.length,cp,cf, .p (.bool f.outer)]]))) (s:=2944704384) fL (gd0.of_eq (aj (by decide))) (gp.of_eq (aj (by decide))) (gf.of_eq (aj (by decide)));have nf: ∀ i,i≠4608512256->i≠4608896192->i≠4608896448->i∉fr:=fun i a b c h=>by
       rcases hfi i h with h|h|h
       ·exact a h
       ·exact b h
       ·exact c h
      refine GN (site:=2944704448) (id:=2944704448) (bytes:=88) (go1.of_eq (aj (by decide))) hx hfa (nf _ (by decide) (by decide) (by decide)) (nf _ (by decide) (by decide) (by decide)) (.inl rfl) (by simp only[aar,aav];omega) fun c Tp hc Tv=> ?_
      have BS':=(Tv 2944320448 (by decide) (by decide) (nf _ (by decide) (by decide) (by decide))).trans ((aj (by decide)).trans bS1);have BB':=(Tv 2944384064 (by decide) (by decide) (nf _ (by decide) (by decide) (by decide))).trans ((aj (by decide)).trans bB1);simp only[go_sem,h4,h6,h7,h8,h29,h30,BS',BB',w1,Ti,hS2];refine⟨c,rfl,?_⟩;rw[<- Uj];exact hc
  ·have:k=2*ls.length:=by omega
   subst this;simp only[go_sem,i46_l1,i46_r2,h6,h29,h30,aN];have:=pQ hm (nD ls) h2n (aal _);unfold ay bt;rw[this];exact aR go
structure Pc where
 l:ae
 d:Bool
def Pc.ps(p:Pc):List PV:=[.int .i64 p.l.kind, .int .i64 p.l.gate, .int .i64 p.l.Th, .int .i64 p.l.id, .int .i64 p.l.sign, .bool p.l.over, .bool p.d]
abbrev dz(o:List Pc):List (List PV):=o.map Pc.ps
abbrev fK:Nat:=93
def hH:ae:=⟨0,0,0,0,0,false⟩
def pieces(ls:List ae):List Pc:=(List.range ls.length).map fun i=>⟨ls.getD i hH,DO ls i⟩
theorem aF(ls:List ae):(pieces ls).length=ls.length:=by simp[pieces]
theorem eB{i:Nat}{l:ae}(h:ls[i]? =some l):(pieces ls)[i]? =some ⟨l,DO ls i⟩:=by
 have:=(aag.1 h).1;simp only[pieces,aaA,abH this,aa4,aap,h,aaS]
theorem bR{o:List Pc}{k:Nat}{p:Pc}(h:o[k]? =some p):(dz o)[k]? =some p.ps:=by simp[h]
def eu(L:List Nat)(ds:List Nat)(v:Nat):List Nat:=ds.foldl (fun L d=>L.set d v) L
def hJ:List Fc->Nat->List Nat->List Nat
 |[],_,L=>L
 |f::r,j,L=>hJ r (j+1) (eu L f.Tl j)
def dr(F:Nat)(ls:List ae):List Nat:=hJ (ay F ls) 0 (List.replicate (2*ls.length) 0)
theorem jW(L ds:List Nat)(v:Nat):(eu L ds v).length=L.length:=by
 induction ds generalizing L with
 |nil=>rfl
 |cons d ds ih=>show(eu (L.set d v) ds v).length=_;rw[ih];simp
theorem Eo(L a b:List Nat)(v:Nat):eu L (a++b) v=eu (eu L a v) b v:=by simp[eu]
theorem oK(fs:List Fc): ∀ (j:Nat) (L:List Nat),(hJ fs j L).length=L.length:=by
 induction fs with
 |nil=>intro j L;rfl
 |cons f r ih=>intro j L;show(hJ r (j+1) _).length=_;rw[ih,jW]
theorem In(a:List Fc)(f:Fc): ∀ (j:Nat) (L:List Nat),hJ (a++[f]) j L=eu (hJ a j L) f.Tl (j+a.length):=by
 induction a with
 |nil=>intro j L;rfl
 |cons g r ih=>intro j L;show hJ (r++[f]) (j+1) _=_;rw[ih];simp[hJ];congr 1;omega
theorem A3(F:Nat)(ls:List ae): ∀ (w:List Nat) (f:Fc),(w.foldl (Fc.add F ls) f).Tl=f.Tl++w.filter (fun x=>decide (x<2*ls.length)):=by
 intro w
 induction w with
 |nil=>intro f;simp
 |cons x w ih=>
  intro f;rw[abN,ih];unfold Fc.add;by_cases h:x<2*ls.length
  ·rw[if_pos h,List.filter_cons_of_pos (by simpa using h)];simp
  ·rw[if_neg h,List.filter_cons_of_neg (by simpa using h)]
theorem jr(F:Nat)(ls:List ae)(w:List Nat):(dM F ls w).Tl=w.filter (fun x=>decide (x<2*ls.length)):=by
 unfold dM;rw[A3];rfl
theorem rx{f:Fc}(h:f∈ay F ls): ∀ d∈f.Tl,d<2*ls.length:=by
 obtain⟨w,_,rfl⟩:=aaF.1 h;intro d hd;rw[jr] at hd
 simpa using (acf.1 hd).2
theorem ia(ok:eN F ls){f:Fc}(h:f∈ay F ls):f.Tl.length<=nD ls:=by
 obtain⟨w,hw,rfl⟩:=aaF.1 h;rw[jr];exact aa5 (List.length_filter_le _ _) (fe ok w hw).2.1
theorem mz(F:Nat)(ls:List ae):(ay F ls).length=iU ls:=by simp[ay,iU]
theorem wh{o:List Fc}{k:Nat}{p:Fc}(h:o[k]? =some p):(lZ o)[k]? =some p.ps:=by simp[h]
abbrev ew(F:Nat)(ls:List ae):PV:= .box [.int .i64 F, .sl (dz (pieces ls)), .sl (lZ (ay F ls)), .sl (nP (dr F ls)), .int .i64 (aD ae.bq ls:Nat), .int .i64 ((aD ae.aJ ls/2:Nat):Int), .sl (nP (counts ls F))]
abbrev Mb(F:Nat)(ls:List ae)(pc cf:C):List C:=[.p (.int .i64 F),pc,cf, .hsl 960256448 1 1 0 (2*ls.length), .p (.int .i64 (aD ae.bq ls:Nat)), .p (.int .i64 ((aD ae.aJ ls/2:Nat):Int)), .hsl 960256960 1 1 0 (F+1)]
theorem Sr(g:bj F ls){pc cf:C}{env:Env}{Tc:aB}{Q:cZ}(h4:env 4= .one cf)(h6:env 6= .one (.Tn 960257088 1 0))
  (bB:Tc 960257088=(1,some (.var (Mb F ls pc cf)))) (bL:Tc 960256448=(1,some (.arr 3 1 (nP (List.replicate (2*ls.length) 0))))) (bC:Tc 960256960=(1,some (.arr 3 1 (nP (counts ls F))))) (gp:grown 960896448 fK 7 (dz (pieces ls)) (.one pc) Tc) (gf:grown 960064064 lS 5 (lZ (ay F ls)) (.one cf) Tc)
  (hq: ∀ Tg Td,Tg 6=env 6->Td 960257088=(1,some (.var (Mb F ls pc cf)))->Td 960256448=(1,some (.arr 3 1 (nP (dr F ls))))->Td 960256960=(1,some (.arr 3 1 (nP (counts ls F))))->grown 960896448 fK 7 (dz (pieces ls)) (.one pc) Td->grown 960064064 lS 5 (lZ (ay F ls)) (.one cf) Td->W S .all i15_r5 Q Tg Td):
  W S .all i15_r6 Q env Tc:=by
 have ok:=g.ok;have hl:=ok.hl;have hlen:=g.len;have UG:(ah ls).length<=ls.length:=cn ls ls.length;have U3:nD ls<=4000000:=by unfold nD;omega
 have WM:(ay F ls).length<=nD ls:=by rw[ay,aak];exact gY (cM ls) (nD ls) _
 obtain⟨g0,aes⟩: ∃ gg,cf= .hsl 960064064 gg 5 0 (ay F ls).length:=by
  rcases gf with ⟨e,_⟩|⟨_,gg,e,hb⟩
  ·have h1:(ay F ls).length=0:=by simpa using congrArg List.length e
   rw[mz,g.nw] at h1;omega
  ·cases e;exact⟨gg,by rw[aak]⟩
 have h4':=h4;rw[aes] at h4';simp only[go_sem,i15_r6,h4'];refine be (fun k Tg Td=>Tg 6=env 6/\Tg 78= .one cf/\Tg 79=vi (ay F ls).length/\Tg 80=vi k/\Td 960257088=(1,some (.var (Mb F ls pc cf)))/\Td 960256448=(1,some (.arr 3 1 (nP (hJ ((ay F ls).take k) 0 (List.replicate (2*ls.length) 0)))))/\Td 960256960=(1,some (.arr 3 1 (nP (counts ls F))))/\
   grown 960896448 fK 7 (dz (pieces ls)) (.one pc) Td/\grown 960064064 lS 5 (lZ (ay F ls)) (.one cf) Td) 0 (ay F ls).length (aah _) ?_ ?_
 ·simp only[go_sem,bB,bL,bC,hJ,aes];exact⟨rfl,gp,by first|exact gf|(rw[<- aes];exact gf)⟩
 ·rintro k Tg Td hk ⟨q6,h78,h79,h80,bB,bL,bC,gp,gf⟩
  rw[h6] at q6;by_cases Ti:k<(ay F ls).length
  ·have Tk:((k:Int)<((ay F ls).length:Int)):=by omega
   obtain⟨f,hf⟩:=ao Ti;have hfp:=wh hf;have VA:=aaf hf;have hdl:=ia ok VA;have hdd:=rx VA;have w1:=am (n:=k) (by omega);have Uq:hJ ((ay F ls).take (k+1)) 0 (List.replicate (2*ls.length) 0)=eu (hJ ((ay F ls).take k) 0 (List.replicate (2*ls.length) 0)) f.Tl k:=by
    rw[aaX,hf];show hJ (_++[f]) 0 _=_;rw[In,aaB,ab8 (by omega),abC]
   have hLl:(hJ ((ay F ls).take k) 0 (List.replicate (2*ls.length) 0)).length=2*ls.length:=by rw[oK,List.length_replicate]
   generalize hJ ((ay F ls).take k) 0 (List.replicate (2*ls.length) 0)=L at bL Uq hLl;obtain⟨gg,Y6,bf⟩: ∃ gg,cf= .hsl 960064064 gg 5 0 (lZ (ay F ls)).length/\Td 960064064=(gg,some (.arr lS 5 (lZ (ay F ls)))):=by
    rcases gf with ⟨e,_⟩|⟨_,gg,e,hb⟩
    ·have:(ay F ls).length=0:=by simpa using congrArg List.length e
     omega
    ·cases e;exact⟨gg,rfl,hb⟩
   rw[aak] at Y6;have aev:=h78;rw[Y6] at aev;simp only[go_sem,i15_l4,aev,h79,h80,bf,hfp,Fc.ps,Ti,Tk];refine be (fun j Tz Tp=>Tz 6= .one (.Tn 960257088 1 0)/\Tz 11=vi k/\Tz 78= .one cf/\Tz 79=vi (ay F ls).length/\Tz 80=vi k/\Tz 86= .one (.p (.sl (nP f.Tl)))/\Tz 87=vi f.Tl.length/\Tz 88=vi j/\
    Tp 960257088=(1,some (.var (Mb F ls pc cf)))/\Tp 960256448=(1,some (.arr 3 1 (nP (eu L (f.Tl.take j) k))))/\Tp 960256960=(1,some (.arr 3 1 (nP (counts ls F))))/\grown 960896448 fK 7 (dz (pieces ls)) (.one pc) Tp/\grown 960064064 lS 5 (lZ (ay F ls)) (.one cf) Tp) 0 f.Tl.length (aah _) ?_ ?_
   ·simp only[go_sem,q6,Y6,aev,h79,h80,bB,bL,bC,eu,List.foldl_nil];refine⟨rfl,gp.of_eq (aj (by decide)),?_⟩;first|exact gf.of_eq (aj (by decide))|(rw[<- Y6];exact gf.of_eq (aj (by decide)))
   ·rintro j Tz Tp hj ⟨p6,p11,p78,p79,p80,p86,p87,p88,cB,cL,cC,cp,cg⟩
    by_cases hlj:j<f.Tl.length
    ·have acd:((j:Int)<(f.Tl.length:Int)):=by omega
     obtain⟨d,hd⟩:=ao hlj;have hdp:=cN hd;have hdb:=hdd d (aaf hd);have w2:=am (n:=j) (by omega);have T5:(eu L (f.Tl.take j) k).set d k=eu L (f.Tl.take (j+1)) k:=by rw[aaX,hd,Eo];rfl
     have Ur:=si (eu L (f.Tl.take j) k) d k;rw[T5] at Ur;obtain⟨v0,hv0⟩:=ao (ls:=eu L (f.Tl.take j) k) (k:=d) (by rw[jW,hLl];exact hdb);have hv:=cN hv0;simp only[go_sem,i15_l2,p6,p11,p78,p79,p80,p86,p87,p88,cB,cL,cC,hlj,acd,hdp,hdb,hv,Ur,w2];exact⟨cp.of_eq (aj (by decide)),cg.of_eq (aj (by decide))⟩
    ·have:j=f.Tl.length:=by omega
     subst this;rw[aa7,<- Uq] at cL;simp only[go_sem,i15_l2,i15_r3,p6,p78,p79,p80,p87,p88,cB,cL,cC,aN,w1,Ti,h6];exact⟨cp,cg⟩
  ·have:k=(ay F ls).length:=by omega
   subst this;rw[aa7] at bL;simp only[go_sem,i15_l4,h79,h80,aN];exact hq _ _ (by simp only[go_sem,q6,h6]) bB bL bC gp gf
theorem QK(g:bj F ls):aH S 15 [aQ F ls] (vc (ew F ls) (.int .i64 0)):=by
 have ok:=g.ok;have hl:=ok.hl;have hlen:=g.len;have U1:=g.fing;have pf:=Ot g;have pps:=vr F ls hl;have pcs:=tK F ls hl;have lo:S.lone 960064064=false:=by kernel_rfl
 have m2:=bX (a:=ls.length) (by omega);have wF:=am (n:=F) (by omega);have r1:2*ls.length*8<=140737488355328:=by omega
 have r2:(F+1)*8<=140737488355328:=by omega
 have e1:List.replicate (2*ls.length) [PV.int .i64 0]=nP (List.replicate (2*ls.length) 0):=by simp
 have e2:List.replicate (F+1) [PV.int .i64 0]=nP (eh ls F 0):=by rw[mF];simp
 refine aG c15 ?_;simp only[go_sem,i15,s46];refine Lw pf lo fun cf Ue Y6 UF=> ?_
 have b00:=UF 960000000 (by decide);simp only[go_sem] at b00;simp only[go_sem,b00,m2,wF,r1,r2,s47,s48,bg pps,bg pcs,e1,e2];refine⟨au,?_⟩;have hz: ∀ j,j≠960064064->j≠960000000->Ue j=(0,none):=fun j a b=>(UF j a).trans (aj b)
 have z1:=hz 960256448 (by decide) (by decide);have z2:=hz 960256960 (by decide) (by decide);have z3:=hz 960257088 (by decide) (by decide);refine be (fun k env Tc=>env 4= .one cf/\env 6= .one (.Tn 960257088 1 0)/\env 7=vb (dn ls k)/\env 42= .one (.p (tY ls))/\env 43=vi ls.length/\env 44=vi k/\
   Tc 960256448=(1,some (.arr 3 1 (nP (List.replicate (2*ls.length) 0))))/\Tc 960256960=(1,some (.arr 3 1 (nP (eh ls F k))))/\
   ∃ pc,Tc 960257088=(1,some (.var (Mb F ls pc cf)))/\grown 960896448 fK 7 (dz ((pieces ls).take k)) (.one pc) Tc/\grown 960064064 lS 5 (lZ (ay F ls)) (.one cf) Tc) 0 ls.length (aah _) ?_ ?_
 ·simp only[go_sem,z1,z2,z3];refine⟨rfl,rfl, .p .nils,rfl, .inl ⟨rfl,rfl⟩,Y6.of_eq ?_⟩;simp only[go_sem]
 ·rintro k env Tc hk ⟨h4,h6,h7,h42,h43,h44,bL,bC,pc,bB,gp,gf⟩
  by_cases Ti:k<ls.length
  ·obtain⟨l,TH⟩:=ao Ti;have hi:=cD TH;have Tk:((k:Int)<(ls.length:Int)):=by omega
   have w1:=am (n:=k) (by omega);have hpa:=eB TH;cases hp:(l.kind==1) with
   |false=>
    have UX:l.bq=false:=hp;have hdp:DO ls k=false:=by simp[DO,TH,UX]
    rw[hdp] at hpa;have hd:=ux TH UX;have hcm:=rD (F:=F) TH UX;have Uq:dz ((pieces ls).take (k+1))=dz ((pieces ls).take k)++[(Pc.mk l false).ps]:=by rw[aaX,hpa];simp
    simp only[go_sem,i15_l1,h6,h42,h43,h44,hi,ae.ps,Tk,hp,bB];refine fi (site:=960896448) (id:=960896448) (bytes:=56) (xs:=[(Pc.mk l false).ps]) (rd:=[960896384]) (gp.of_eq (by simp only[af,Nat.reduceEqDiff,if_false])) (by simp[bh,af,Pc.ps]) (.inl rfl) (by simp only[aak,aar,aav,aaB,aF];omega) fun c Tq r u hc hb hr=> ?_
    have Y2: ∀ i,i≠960896448->i≠960896384->i≠960576128->i≠960512128->i≠960256960->Tq i=Tc i:=fun i a b c d e=>(hb i a a).trans (by simp only[af,if_neg b,if_neg c,if_neg d])
    have hcn:=(hb 960256960 (by decide) (by decide));simp only[af,Nat.reduceEqDiff,if_false,bC] at hcn;have bB1:=(Y2 960257088 (by decide) (by decide) (by decide) (by decide) (by decide)).trans bB;have bL1:=(Y2 960256448 (by decide) (by decide) (by decide) (by decide) (by decide)).trans bL;simp only[go_sem,h4,h6,h7,h42,h43,h44,bB1,bL1,hcn,w1,hd,hcm,Ti];refine⟨?_,?_⟩
    ·rcases hr with ⟨rfl,rfl⟩|⟨rfl,rfl⟩|⟨rfl,rfl⟩<;>kernel_rfl
    ·refine⟨c,rfl,?_,?_⟩
     ·rw[Uq];exact hc.of_eq (aj (by decide))
     ·exact gf.of_eq ((aj (by decide)).trans (Y2 _ (by decide) (by decide) (by decide) (by decide) (by decide)))
   |true=>
    have UX:l.bq=true:=hp;have hdp:DO ls k=dn ls k:=by simp[DO,TH,UX]
    rw[hdp] at hpa;have hd:=AL TH UX;have Uq:dz ((pieces ls).take (k+1))=dz ((pieces ls).take k)++[(Pc.mk l (dn ls k)).ps]:=by rw[aaX,hpa];simp
    have hgd:=ok.ax.good l (aaf TH) UX;obtain⟨G,hG⟩:=aa8 hgd.g0;have hGF:G<=F:=by have:=hgd.g1;omega
    have WQ:G<F+1:=by omega
    have Wu:=cN (wK (ls:=ls) (k:=k) hGF);have Uk:cg (ls.take k) G<=k:=dK _ _ _;have w2:=am (n:=cg (ls.take k) G) (by omega);have s1:=si (eh ls F k) G (cg (ls.take k) G+1);rw[<- tM TH UX hG] at s1;simp only[go_sem,i15_l1,h6,h7,h42,h43,h44,hi,ae.ps,Tk,hp,hG,bB,bC,Wu,WQ,w2,s1];refine⟨au,?_⟩
    refine fi (site:=960896448) (id:=960896448) (bytes:=56) (xs:=[(Pc.mk l (dn ls k)).ps]) (rd:=[960896384]) (gp.of_eq (by simp only[af,Nat.reduceEqDiff,if_false])) (by simp[bh,af,Pc.ps,hG]) (.inl rfl) (by simp only[aak,aar,aav,aaB,aF];omega) fun c Tq r u hc hb hr=> ?_
    have Y2: ∀ i,i≠960896448->i≠960896384->i≠960576128->i≠960512128->i≠960256960->Tq i=Tc i:=fun i a b c d e=>(hb i a a).trans (by simp only[af,if_neg b,if_neg c,if_neg d,if_neg e])
    have hcn:=(hb 960256960 (by decide) (by decide));simp only[af,Nat.reduceEqDiff,if_false,if_true,bC] at hcn;have bB1:=(Y2 960257088 (by decide) (by decide) (by decide) (by decide) (by decide)).trans bB;have bL1:=(Y2 960256448 (by decide) (by decide) (by decide) (by decide) (by decide)).trans bL;simp only[go_sem,h4,h6,h7,h42,h43,h44,bB1,bL1,hcn,w1,hd,Ti];refine⟨?_,?_⟩
    ·rcases hr with ⟨rfl,rfl⟩|⟨rfl,rfl⟩|⟨rfl,rfl⟩<;>kernel_rfl
    ·refine⟨c,rfl,?_,?_⟩
     ·rw[Uq];exact hc.of_eq (aj (by decide))
     ·exact gf.of_eq ((aj (by decide)).trans (Y2 _ (by decide) (by decide) (by decide) (by decide) (by decide)))
  ·have:k=ls.length:=by omega
   subst this;rw[aau (by rw[aF];exact aal _)] at gp;rw[nR] at bC;simp only[go_sem,i15_l1,h43,h44,aN];refine Sr g (pc:=pc) (cf:=cf) ?_ ?_ bB bL bC gp gf ?_
   ·simp only[go_sem,h4]
   ·simp only[go_sem,h6]
   ·intro Tg Td q6 cB cL cC gp' gf';simp only[go_sem,h6] at q6;obtain⟨rp,np,_⟩:=gp'.JV (n:=4);obtain⟨rf,nf,_⟩:=gf'.JV (n:=4);have t1:List.take (2*ls.length) (nP (dr F ls))=nP (dr F ls):=aau (by simp[dr,oK]);have t2:List.take (F+1) (nP (counts ls F))=nP (counts ls F):=aau (by simp[counts]);have n1:2*ls.length<=(dr F ls).length:=by simp[dr,oK]
    have n2:F+1<=(counts ls F).length:=by simp[counts]
    simp only[go_sem,i15_r5,q6];simp only[go_sem,en,et,iF,cb,dg,eo,cB,cL,cC,np,nf,t1,t2,n1,n2];rfl
end
end Go.Abs
